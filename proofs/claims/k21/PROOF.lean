import PyProof.Rows.All
import Wide.All
import OpenK.AllK
import Wide.FinOn
import HandS.ForMost
import HandS.Wide
import HandS.IsInst
import HandS.Style
import HandS.Deep
import HandS.TryOnly
import HandS.ExcOwn
import HandS.ExcIs
import HandS.WordsExc
import KE.DataMinMax
import HandS.TupLe
import HandS.TupSets
import HandS.Steps
import HandS.Conv
import HandS.Walk
import HandS.SortRule
import HandS.DictTup
import KE.KDictPairs
import KE.KDictKeyed
import HandS.Zip
import HandS.More
import KE.KDictKeyed
import PySem.Challenge.RW_slidecut_k21_marks_of_the_same
set_option Elab.async false
set_option maxRecDepth 100000
set_option maxHeartbeats 4000000
set_option linter.unusedVariables false
namespace Sc
open PySem PySem.Spec PyProof.Rows L2

/-! ### data in the heap -/
mutual
/-- v stands for the data d; no list of it is one of X -/
inductive Rep (K : PySem.W.Frag) (X : Addr → Prop) (H : Hp) : PyData → V → Prop
  | non : Rep K X H .none .non
  | bl (b : Bool) : Rep K X H (.bool b) (.bl b)
  | int (i : Int) : Rep K X H (.int i) (.int i)
  | str (x : Str) : Rep K X H (.str x) (.str x)
  | tup {a : Addr} {ds : List PyData} {vs : List V} : H a = some (.tup vs) → Reps K X H ds vs → Rep K X H (.tuple ds) (.ref a)
  | lst {a : Addr} {ds : List PyData} {vs : List V} : ¬ X a → Rd H a (.lst vs) → Reps K X H ds vs → Rep K X H (.list ds) (.ref a)
inductive Reps (K : PySem.W.Frag) (X : Addr → Prop) (H : Hp) : List PyData → List V → Prop
  | nil : Reps K X H [] []
  | cons {d : PyData} {ds : List PyData} {v : V} {vs : List V} : Rep K X H d v → Reps K X H ds vs → Reps K X H (d :: ds) (v :: vs)
end

/-- what may not be written stands as it stood -/
def Keep (X : Addr → Prop) (H H' : Hp) : Prop :=
  (∀ a o, H a = some o → ¬ X a → H' a = some o) ∧ (∀ a vs, H a = some (.tup vs) → H' a = some (.tup vs)) ∧ (∀ a o u, H a = some (.frz o u) → H' a = some (.frz o u))
theorem Keep.refl {X : Addr → Prop} {H : Hp} : Keep X H H := ⟨fun _ _ h _ => h, fun _ _ h => h, fun _ _ _ h => h⟩
theorem Keep.same {X : Addr → Prop} {H H' : Hp} (s : Same H H') : Keep X H H' := ⟨fun _ _ h _ => s _ _ h, fun _ _ h => s _ _ h, fun _ _ _ h => s _ _ h⟩
theorem Keep.rd {X : Addr → Prop} {H H' : Hp} (k : Keep X H H') {a : Addr} {o : HO} (n : ¬ X a) (h : Rd H a o) : Rd H' a o := by
  rcases h with h | ⟨u, h⟩
  · exact .inl (k.1 _ _ h n)
  · exact .inr ⟨u, k.2.2 _ _ _ h⟩
theorem Keep.sqT {X : Addr → Prop} {K : PySem.W.Frag} {H H' : Hp} (k : Keep X H H') {a : Addr} {vs : List V} (h : SqT K H a vs) : SqT K H' a vs := by
  rcases h with (h | ⟨o, h⟩) | h
  · exact .inl (.inl (k.2.1 _ _ h))
  · exact .inl (.inr ⟨o, k.2.2 _ _ _ h⟩)
  · exact .inr h
theorem Keep.mono {X Y : Addr → Prop} {H H' : Hp} (k : Keep X H H') (h : ∀ a, X a → Y a) : Keep Y H H' := ⟨fun a o e n => k.1 a o e fun z => n (h a z), k.2.1, k.2.2⟩
theorem Keep.trans {X : Addr → Prop} {H H1 H2 : Hp} (k : Keep X H H1) (j : Keep X H1 H2) : Keep X H H2 := ⟨fun a o e n => j.1 a o (k.1 a o e n) n, fun a v e => j.2.1 a v (k.2.1 a v e), fun a o u e => j.2.2 a o u (k.2.2 a o u e)⟩

section
variable {K : PySem.W.Frag} {X Y : Addr → Prop} {H H' : Hp}
mutual
theorem Rep.keep (k : Keep X H H') : ∀ {d : PyData} {v : V}, Rep K X H d v → Rep K X H' d v
  | _, _, .non => .non
  | _, _, .bl b => .bl b
  | _, _, .int i => .int i
  | _, _, .str x => .str x
  | _, _, .tup h r => .tup (k.2.1 _ _ h) (Reps.keep k r)
  | _, _, .lst n h r => .lst n (k.rd n h) (Reps.keep k r)
theorem Reps.keep (k : Keep X H H') : ∀ {d : List PyData} {v : List V}, Reps K X H d v → Reps K X H' d v
  | _, _, .nil => .nil
  | _, _, .cons r t => .cons (Rep.keep k r) (Reps.keep k t)
end
mutual
theorem Rep.anti (h : ∀ a, Y a → X a) : ∀ {d : PyData} {v : V}, Rep K X H d v → Rep K Y H d v
  | _, _, .non => .non
  | _, _, .bl b => .bl b
  | _, _, .int i => .int i
  | _, _, .str x => .str x
  | _, _, .tup q r => .tup q (Reps.anti h r)
  | _, _, .lst n q r => .lst (fun z => n (h _ z)) q (Reps.anti h r)
theorem Reps.anti (h : ∀ a, Y a → X a) : ∀ {d : List PyData} {v : List V}, Reps K X H d v → Reps K Y H d v
  | _, _, .nil => .nil
  | _, _, .cons r t => .cons (Rep.anti h r) (Reps.anti h t)
end
theorem rd_nn {a : Addr} {o : HO} (h : Rd H a o) : H a ≠ none := by
  rcases h with h | ⟨u, h⟩ <;> rw [h] <;> exact fun z => nomatch z
mutual
/-- a new address may be forbidden -/
theorem Rep.more {p : Addr} (hp : H p = none) : ∀ {d : PyData} {v : V}, Rep K X H d v → Rep K (fun a => X a ∨ a = p) H d v
  | _, _, .non => .non
  | _, _, .bl b => .bl b
  | _, _, .int i => .int i
  | _, _, .str x => .str x
  | _, _, .tup q r => .tup q (Reps.more hp r)
  | _, _, .lst n q r => .lst (fun z => z.elim n fun e => rd_nn q (e ▸ hp)) q (Reps.more hp r)
theorem Reps.more {p : Addr} (hp : H p = none) : ∀ {d : List PyData} {v : List V}, Reps K X H d v → Reps K (fun a => X a ∨ a = p) H d v
  | _, _, .nil => .nil
  | _, _, .cons r t => .cons (Rep.more hp r) (Reps.more hp t)
end
mutual
theorem Rep.dp : ∀ {d : PyData} {v : V}, Rep K X H d v → Dp K H v d
  | _, _, .non => .non
  | _, _, .bl b => .bl b
  | _, _, .int i => .int i
  | _, _, .str x => .str x
  | _, _, .tup q r => .tup (.inl (.inl q)) (Reps.dp r)
  | _, _, .lst n q r => .lst (.inl q) (Reps.dp r)
theorem Reps.dp : ∀ {d : List PyData} {v : List V}, Reps K X H d v → DpAll K H v d
  | _, _, .nil => .nil
  | _, _, .cons r t => .cons (Rep.dp r) (Reps.dp t)
end
theorem Reps.length : ∀ {ds : List PyData} {vs : List V}, Reps K X H ds vs → vs.length = ds.length
  | _, _, .nil => rfl
  | _, _, .cons _ t => congrArg (· + 1) (Reps.length t)
theorem Reps.get : ∀ {ds : List PyData} {vs : List V} {i : Nat} {d : PyData}, Reps K X H ds vs → ds[i]? = some d → ∃ v, vs[i]? = some v ∧ Rep K X H d v
  | _, _, _, _, .nil, e => by simp at e
  | _, _, 0, _, .cons r _, e => by simp at e; subst e; exact ⟨_, rfl, r⟩
  | _, _, i + 1, d, .cons _ t, e => by
    obtain ⟨v, h1, h2⟩ := Reps.get (i := i) t (by simpa using e)
    exact ⟨v, by simpa using h1, h2⟩
theorem Reps.get' : ∀ {ds : List PyData} {vs : List V} {i : Nat} {v : V}, Reps K X H ds vs → vs[i]? = some v → ∃ d, ds[i]? = some d ∧ Rep K X H d v
  | _, _, _, _, .nil, e => by simp at e
  | _, _, 0, _, .cons r _, e => by simp at e; subst e; exact ⟨_, rfl, r⟩
  | _, _, i + 1, d, .cons _ t, e => by
    obtain ⟨v, h1, h2⟩ := Reps.get' (i := i) t (by simpa using e)
    exact ⟨v, by simpa using h1, h2⟩
theorem Reps.append : ∀ {d1 d2 : List PyData} {v1 v2 : List V}, Reps K X H d1 v1 → Reps K X H d2 v2 → Reps K X H (d1 ++ d2) (v1 ++ v2)
  | _, _, _, _, .nil, s => s
  | _, _, _, _, .cons r t, s => .cons r (Reps.append t s)
theorem Reps.take : ∀ {d1 : List PyData} {v1 : List V} (n : Nat), Reps K X H d1 v1 → Reps K X H (d1.take n) (v1.take n)
  | _, _, 0, _ => .nil
  | _, _, _ + 1, .nil => .nil
  | _, _, n + 1, .cons r t => .cons r (Reps.take n t)
theorem Reps.drop : ∀ {d1 : List PyData} {v1 : List V} (n : Nat), Reps K X H d1 v1 → Reps K X H (d1.drop n) (v1.drop n)
  | _, _, 0, h => h
  | _, _, _ + 1, .nil => .nil
  | _, _, n + 1, .cons _ t => Reps.drop n t
theorem Reps.set {d : PyData} {v : V} (q : Rep K X H d v) : ∀ {d1 : List PyData} {v1 : List V} (n : Nat), Reps K X H d1 v1 → Reps K X H (d1.set n d) (v1.set n v)
  | _, _, _, .nil => .nil
  | _, _, 0, .cons _ t => .cons q t
  | _, _, n + 1, .cons r t => .cons r (Reps.set q n t)
theorem Reps.reverse {ds : List PyData} {vs : List V} (h : Reps K X H ds vs) : Reps K X H ds.reverse vs.reverse := by
  induction ds generalizing vs with
  | nil => cases h; exact .nil
  | cons d ds ih => cases h with | cons r t => rw [List.reverse_cons, List.reverse_cons]; exact (ih t).append (.cons r .nil)
theorem Reps.ints : ∀ {ns : List Int}, Reps K X H (ns.map PyData.int) (ns.map V.int)
  | [] => .nil
  | n :: ns => .cons (.int n) Reps.ints
theorem Reps.toInts : ∀ {ns : List Int} {vs : List V}, Reps K X H (ns.map PyData.int) vs → vs = ns.map V.int
  | [], _, .nil => rfl
  | n :: ns, _, .cons (.int _) t => by rw [List.map_cons, Reps.toInts t]
theorem Reps.toBools : ∀ {ns : List Bool} {vs : List V}, Reps K X H (ns.map PyData.bool) vs → vs = ns.map V.bl
  | [], _, .nil => rfl
  | n :: ns, _, .cons (.bl _) t => by rw [List.map_cons, Reps.toBools t]
end

/-! ### Lean data as Python data -/
class Py (α : Type) where
  enc : α → PyData
open Py (enc)
instance : Py Int := ⟨.int⟩
instance : Py Bool := ⟨.bool⟩
instance : Py Unit := ⟨fun _ => .none⟩
instance : Py Str := ⟨.str⟩
structure T1 (α : Type) where
  a : α
  deriving DecidableEq
structure T2 (α β : Type) where
  a : α
  b : β
  deriving DecidableEq
structure T3 (α β γ : Type) where
  a : α
  b : β
  c : γ
  deriving DecidableEq
structure T4 (α β γ δ : Type) where
  a : α
  b : β
  c : γ
  d : δ
  deriving DecidableEq
structure T5 (α β γ δ ε : Type) where
  a : α
  b : β
  c : γ
  d : δ
  e : ε
  deriving DecidableEq
section
variable {α β γ δ ε : Type}
instance [Py α] : Py (T1 α) := ⟨fun x => .tuple [enc x.a]⟩
instance [Py α] [Py β] : Py (T2 α β) := ⟨fun x => .tuple [enc x.a, enc x.b]⟩
instance [Py α] [Py β] [Py γ] : Py (T3 α β γ) := ⟨fun x => .tuple [enc x.a, enc x.b, enc x.c]⟩
instance [Py α] [Py β] [Py γ] [Py δ] : Py (T4 α β γ δ) := ⟨fun x => .tuple [enc x.a, enc x.b, enc x.c, enc x.d]⟩
instance [Py α] [Py β] [Py γ] [Py δ] [Py ε] : Py (T5 α β γ δ ε) := ⟨fun x => .tuple [enc x.a, enc x.b, enc x.c, enc x.d, enc x.e]⟩
instance [Py α] : Py (List α) := ⟨fun xs => .list (xs.map enc)⟩
instance [Py α] : Py (Option α) := ⟨fun x => match x with | none => .none | some y => enc y⟩
end

/-- the script -/
def SqX (K : PySem.W.Frag) (X : Addr → Prop) (H : Hp) (ns : List Int) (v : V) : Prop := ∃ a, v = .ref a ∧ ((¬ X a ∧ Rd H a (.lst (ns.map V.int))) ∨ ∀ H', SqL K H' a (ns.map V.int))
section
variable {K : PySem.W.Frag} {X Y : Addr → Prop} {H H' : Hp} {ns : List Int} {v : V}
theorem SqX.keep (k : Keep X H H') (h : SqX K X H ns v) : SqX K X H' ns v := by
  obtain ⟨a, e, h⟩ := h
  exact ⟨a, e, h.imp (fun z => ⟨z.1, k.rd z.1 z.2⟩) id⟩
theorem SqX.anti (g : ∀ a, Y a → X a) (h : SqX K X H ns v) : SqX K Y H ns v := by
  obtain ⟨a, e, h⟩ := h
  exact ⟨a, e, h.imp (fun z => ⟨fun y => z.1 (g _ y), z.2⟩) id⟩
theorem SqX.more {p : Addr} (hp : H p = none) (h : SqX K X H ns v) : SqX K (fun a => X a ∨ a = p) H ns v := by
  obtain ⟨a, e, h⟩ := h
  exact ⟨a, e, h.imp (fun z => ⟨fun y => y.elim z.1 fun e => rd_nn z.2 (e ▸ hp), z.2⟩) id⟩
theorem SqX.sq (h : SqX K X H ns v) : ∃ a, v = .ref a ∧ SqL K H a (ns.map V.int) := by
  obtain ⟨a, e, h⟩ := h
  exact ⟨a, e, h.elim (fun z => .inl z.2) fun z => z H⟩
theorem SqX.of {a : Addr} (h : SqL K H a (ns.map V.int)) : SqX K (fun _ => False) H ns (.ref a) := ⟨a, rfl, h.elim (fun z => .inl ⟨id, z⟩) fun z => .inr fun _ => .inr z⟩
end

/-! ### the state of a def's body -/
/-- an object that the body may write -/
inductive MO where
  | lst (ds : List PyData)
  | lstZ (Z : Addr → Prop) (ds : List PyData)
  | any
  | dct (es : List (List L2.Key × PyData))
  | ex (R : Addr → (Addr → Prop) → Hp → Prop)
/-- an object of a list -/
abbrev ml {α : Type} [Py α] (xs : List α) : MO := .lst (xs.map enc)
/-- a slot: nothing known, data, an object that may be written; tmp: such an object in no slot -/
inductive Sl where
  | unk
  | scr (ns : List Int)
  | ref (a : Addr)
  | imm (d : PyData)
  | fix (Z : Addr → Prop) (d : PyData)
  | fixN (Z : Addr → Prop) (d : PyData)
  | lax (i j : Int)
  | mu (p : Addr) (o : MO)
  | tmp (p : Addr) (o : MO)
def Sl.ad : Sl → Option Addr
  | .mu p _ => some p
  | .tmp p _ => some p
  | _ => none
def muts (Γ : List Sl) : List Addr := Γ.filterMap Sl.ad
/-- a set of addresses that a new list is not in -/
def Frz (H : Hp) (b : Addr) : Prop := ∃ o u, H b = some (.frz o u)
abbrev NewX (X Z : Addr → Prop) (H : Hp) : Addr → Prop := fun b => X b ∨ ¬ Z b ∨ Frz H b
mutual
theorem Rep.keepF {K : PySem.W.Frag} {X Z : Addr → Prop} {H H' : Hp} (k : Keep X H H') : ∀ {d : PyData} {v : V}, Rep K (NewX X Z H) H d v → Rep K (NewX X Z H') H' d v
  | _, _, .non => .non
  | _, _, .bl b => .bl b
  | _, _, .int i => .int i
  | _, _, .str x => .str x
  | _, _, .tup h r => .tup (k.2.1 _ _ h) (Reps.keepF k r)
  | _, _, .lst n h r => by
    rcases h with h | ⟨o, h⟩
    · have h' := k.1 _ _ h fun z => n (.inl z)
      exact .lst (fun z => z.elim (fun z => n (.inl z)) fun z => z.elim (fun z => n (.inr (.inl z))) fun ⟨o, u, z⟩ => by rw [h'] at z; cases z) (.inl h') (Reps.keepF k r)
    · exact (n (.inr (.inr ⟨_, _, h⟩))).elim
theorem Reps.keepF {K : PySem.W.Frag} {X Z : Addr → Prop} {H H' : Hp} (k : Keep X H H') : ∀ {d : List PyData} {v : List V}, Reps K (NewX X Z H) H d v → Reps K (NewX X Z H') H' d v
  | _, _, .nil => .nil
  | _, _, .cons r t => .cons (Rep.keepF k r) (Reps.keepF k t)
end
/-- the entries of a dict, in order -/
inductive DReps (K : PySem.W.Frag) (X : Addr → Prop) (H : Hp) : List (List L2.Key × PyData) → List (List L2.Key × V) → Prop
  | nil : DReps K X H [] []
  | cons {k : List L2.Key} {d : PyData} {v : V} {es : List (List L2.Key × PyData)} {kvs : List (List L2.Key × V)} : Rep K X H d v → DReps K X H es kvs → DReps K X H ((k, d) :: es) ((k, v) :: kvs)
theorem DReps.keep {K : PySem.W.Frag} {X : Addr → Prop} {H H' : Hp} (k : Keep X H H') : ∀ {es : List (List L2.Key × PyData)} {kvs : List (List L2.Key × V)}, DReps K X H es kvs → DReps K X H' es kvs
  | _, _, .nil => .nil
  | _, _, .cons r t => .cons (r.keep k) (DReps.keep k t)
theorem DReps.anti {K : PySem.W.Frag} {X Y : Addr → Prop} {H : Hp} (h : ∀ a, Y a → X a) : ∀ {es : List (List L2.Key × PyData)} {kvs : List (List L2.Key × V)}, DReps K X H es kvs → DReps K Y H es kvs
  | _, _, .nil => .nil
  | _, _, .cons r t => .cons (r.anti h) (DReps.anti h t)
theorem DReps.more {K : PySem.W.Frag} {X : Addr → Prop} {H : Hp} {p : Addr} (h : H p = none) : ∀ {es : List (List L2.Key × PyData)} {kvs : List (List L2.Key × V)}, DReps K X H es kvs → DReps K (fun a => X a ∨ a = p) H es kvs
  | _, _, .nil => .nil
  | _, _, .cons r t => .cons (r.more h) (DReps.more h t)
/-- what any other description of an object must keep -/
structure RX (R : Addr → (Addr → Prop) → Hp → Prop) : Prop where
  keep : ∀ {p : Addr} {X : Addr → Prop} {H H' : Hp}, Keep X H H' → H' p = H p → R p X H → R p X H'
  anti : ∀ {p : Addr} {X Y : Addr → Prop} {H : Hp}, (∀ a, Y a → X a) → R p X H → R p Y H
  more : ∀ {p q : Addr} {X : Addr → Prop} {H : Hp}, H q = none → R p X H → R p (fun a => X a ∨ a = q) H
  nn : ∀ {p : Addr} {X : Addr → Prop} {H : Hp}, R p X H → H p ≠ none
  ntup : ∀ {p : Addr} {X : Addr → Prop} {H : Hp}, R p X H → (∀ vs, H p ≠ some (.tup vs)) ∧ (∀ u w, H p ≠ some (.frz u w))
/-- the object at p is o -/
def MRep (K : PySem.W.Frag) (X : Addr → Prop) (H : Hp) (p : Addr) : MO → Prop
  | .lst ds => ∃ vs, H p = some (.lst vs) ∧ Reps K X H ds vs
  | .lstZ Z ds => ∃ vs, H p = some (.lst vs) ∧ Reps K (NewX X Z H) H ds vs
  | .any => ∃ vs, H p = some (.lst vs)
  | .dct es => ∃ kvs, H p = some (.dT kvs) ∧ DReps K X H es kvs
  | .ex R => RX R ∧ R p X H
def SlOk (K : PySem.W.Frag) (X : Addr → Prop) (H : Hp) (v : Option (Option V)) : Sl → Prop
  | .unk => True
  | .scr ns => ∃ u, v = some (some u) ∧ SqX K X H ns u
  | .ref a => v = some (some (.ref a))
  | .imm d => ∃ u, v = some (some u) ∧ Rep K X H d u
  | .fix Z d => ∃ u, v = some (some u) ∧ Rep K (fun b => X b ∨ ¬ Z b) H d u
  | .fixN Z d => ∃ u, v = some (some u) ∧ Rep K (NewX X Z H) H d u
  | .lax i j => ∃ a, v = some (some (.ref a)) ∧ SqT K H a [.int i, .int j]
  | .mu p o => v = some (some (.ref p)) ∧ MRep K X H p o
  | .tmp p o => MRep K X H p o
/-- the known ones: the written part, what may be written at the entry, the heap there, whose objects the body may change -/
structure Cn where
  K : PySem.W.Frag
  X0 : Addr → Prop
  H0 : Hp
  P0 : List Addr
  n : Nat
structure Lo (C : Cn) (X : Addr → Prop) (H : Hp) (σ : L2.St) (Γ : List Sl) : Prop where
  len : σ.length = C.n
  at_ : ∀ (i : Nat) (s : Sl), Γ[i]? = some s → SlOk C.K X H σ[i]? s
  nd : (muts Γ).Nodup
  mx : ∀ p ∈ muts Γ, X p
  m0 : ∀ a, C.X0 a → X a
  xd : ∀ a, X a → H a ≠ none
  base : ∀ a o, C.H0 a = some o → a ∉ C.P0 → H a = some o
  dom : ∀ a, C.H0 a ≠ none → H a ≠ none
  own : ∀ p ∈ muts Γ, p ∈ C.P0 ∨ C.H0 p = none
  tf : ∀ a ∈ C.P0, (∀ vs, C.H0 a ≠ some (.tup vs)) ∧ (∀ o u, C.H0 a ≠ some (.frz o u))

theorem MRep.keep {K : PySem.W.Frag} {X : Addr → Prop} {H H' : Hp} {p : Addr} (k : Keep X H H') (e : H' p = H p) : ∀ {o : MO}, MRep K X H p o → MRep K X H' p o
  | .lst _, ⟨vs, h, r⟩ => ⟨vs, e.trans h, r.keep k⟩
  | .lstZ _ _, ⟨vs, h, r⟩ => ⟨vs, e.trans h, r.keepF k⟩
  | .any, ⟨vs, h⟩ => ⟨vs, e.trans h⟩
  | .dct _, ⟨vs, h, r⟩ => ⟨vs, e.trans h, r.keep k⟩
  | .ex _, ⟨x, r⟩ => ⟨x, x.keep k e r⟩
theorem MRep.anti {K : PySem.W.Frag} {X Y : Addr → Prop} {H : Hp} {p : Addr} (h : ∀ a, Y a → X a) : ∀ {o : MO}, MRep K X H p o → MRep K Y H p o
  | .lst _, ⟨vs, q, r⟩ => ⟨vs, q, r.anti h⟩
  | .lstZ _ _, ⟨vs, q, r⟩ => ⟨vs, q, r.anti fun a z => z.imp (h a) id⟩
  | .any, h => h
  | .dct _, ⟨vs, q, r⟩ => ⟨vs, q, r.anti h⟩
  | .ex _, ⟨x, r⟩ => ⟨x, x.anti h r⟩
theorem MRep.more {K : PySem.W.Frag} {X : Addr → Prop} {H : Hp} {p q : Addr} (h : H q = none) : ∀ {o : MO}, MRep K X H p o → MRep K (fun a => X a ∨ a = q) H p o
  | .lst _, ⟨vs, e, r⟩ => ⟨vs, e, r.more h⟩
  | .lstZ _ _, ⟨vs, e, r⟩ => ⟨vs, e, (r.more h).anti fun a z => z.elim (fun z => z.elim (fun z => .inl (.inl z)) .inr) fun z => .inl (.inr z)⟩
  | .any, h => h
  | .dct _, ⟨vs, e, r⟩ => ⟨vs, e, r.more h⟩
  | .ex _, ⟨x, r⟩ => ⟨x, x.more h r⟩
theorem MRep.nn {K : PySem.W.Frag} {X : Addr → Prop} {H : Hp} {p : Addr} : ∀ {o : MO}, MRep K X H p o → H p ≠ none
  | .lst _, ⟨vs, e, r⟩ => by rw [e]; exact fun z => nomatch z
  | .lstZ _ _, ⟨vs, e, r⟩ => by rw [e]; exact fun z => nomatch z
  | .any, ⟨vs, e⟩ => by rw [e]; exact fun z => nomatch z
  | .dct _, ⟨vs, e, r⟩ => by rw [e]; exact fun z => nomatch z
  | .ex _, ⟨x, r⟩ => x.nn r
theorem MRep.ntup {K : PySem.W.Frag} {X : Addr → Prop} {H : Hp} {p : Addr} : ∀ {o : MO}, MRep K X H p o → (∀ vs, H p ≠ some (.tup vs)) ∧ (∀ u w, H p ≠ some (.frz u w))
  | .lst _, ⟨vs, e, r⟩ => by
    rw [e]
    constructor
    · intro _ z; cases z
    · intro _ _ z; cases z
  | .lstZ _ _, ⟨vs, e, r⟩ => by
    rw [e]
    constructor
    · intro _ z; cases z
    · intro _ _ z; cases z
  | .any, ⟨vs, e⟩ => by
    rw [e]
    constructor
    · intro _ z; cases z
    · intro _ _ z; cases z
  | .ex _, ⟨x, r⟩ => x.ntup r
  | .dct _, ⟨vs, e, r⟩ => by
    rw [e]
    constructor
    · intro _ z; cases z
    · intro _ _ z; cases z

theorem mem_muts {Γ : List Sl} {p : Addr} : p ∈ muts Γ ↔ ∃ (i : Nat) (s : Sl), Γ[i]? = some s ∧ s.ad = some p := by
  unfold muts
  rw [List.mem_filterMap]
  constructor
  · rintro ⟨s, hs, e⟩
    obtain ⟨i, hi⟩ := List.getElem?_of_mem hs
    exact ⟨i, s, hi, e⟩
  · rintro ⟨i, s, hi, e⟩
    exact ⟨s, List.mem_of_getElem? hi, e⟩

section
variable {C : Cn} {X : Addr → Prop} {H H' : Hp} {σ : L2.St} {Γ : List Sl}
theorem SlOk.mrep {K : PySem.W.Frag} {v : Option (Option V)} {s : Sl} {p : Addr} (h : SlOk K X H v s) (e : s.ad = some p) : ∃ o, MRep K X H p o := by
  cases s with
  | unk => cases e
  | scr ns => cases e
  | ref a => cases e
  | imm d => cases e
  | fix Z d => cases e
  | fixN Z d => cases e
  | lax i j => cases e
  | mu q o => cases e; exact ⟨o, h.2⟩
  | tmp q o => cases e; exact ⟨o, h⟩
theorem SlOk.keep {K : PySem.W.Frag} {v : Option (Option V)} (k : Keep X H H') : ∀ {s : Sl}, (∀ p, s.ad = some p → H' p = H p) → SlOk K X H v s → SlOk K X H' v s
  | .unk, _, _ => trivial
  | .scr _, _, ⟨u, e, r⟩ => ⟨u, e, r.keep k⟩
  | .ref _, _, e => e
  | .imm _, _, ⟨u, e, r⟩ => ⟨u, e, r.keep k⟩
  | .fix _ _, _, ⟨u, e, r⟩ => ⟨u, e, r.keep (k.mono fun _ => .inl)⟩
  | .fixN _ _, _, ⟨u, e, r⟩ => ⟨u, e, r.keepF k⟩
  | .lax _ _, _, ⟨u, e, r⟩ => ⟨u, e, k.sqT r⟩
  | .mu p _, g, ⟨e, r⟩ => ⟨e, r.keep k (g p rfl)⟩
  | .tmp p _, g, r => MRep.keep k (g p rfl) r
theorem SlOk.anti {K : PySem.W.Frag} {Y : Addr → Prop} {v : Option (Option V)} (h : ∀ a, Y a → X a) : ∀ {s : Sl}, SlOk K X H v s → SlOk K Y H v s
  | .unk, _ => trivial
  | .scr _, ⟨u, e, r⟩ => ⟨u, e, r.anti h⟩
  | .ref _, e => e
  | .imm _, ⟨u, e, r⟩ => ⟨u, e, r.anti h⟩
  | .fix _ _, ⟨u, e, r⟩ => ⟨u, e, r.anti fun a z => z.imp (h a) id⟩
  | .fixN _ _, ⟨u, e, r⟩ => ⟨u, e, r.anti fun a z => z.imp (h a) id⟩
  | .lax _ _, h => h
  | .mu p _, ⟨e, r⟩ => ⟨e, r.anti h⟩
  | .tmp p _, r => MRep.anti h r
theorem SlOk.more {K : PySem.W.Frag} {v : Option (Option V)} {q : Addr} (h : H q = none) : ∀ {s : Sl}, SlOk K X H v s → SlOk K (fun a => X a ∨ a = q) H v s
  | .unk, _ => trivial
  | .scr _, ⟨u, e, r⟩ => ⟨u, e, r.more h⟩
  | .ref _, e => e
  | .imm _, ⟨u, e, r⟩ => ⟨u, e, r.more h⟩
  | .fix _ _, ⟨u, e, r⟩ => ⟨u, e, (r.more h).anti fun a z => z.elim (fun z => z.elim (fun z => .inl (.inl z)) .inr) fun z => .inl (.inr z)⟩
  | .fixN _ _, ⟨u, e, r⟩ => ⟨u, e, (r.more h).anti fun a z => z.elim (fun z => z.elim (fun z => .inl (.inl z)) .inr) fun z => .inl (.inr z)⟩
  | .lax _ _, h => h
  | .mu p _, ⟨e, r⟩ => ⟨e, r.more h⟩
  | .tmp p _, r => MRep.more h r
theorem Lo.mem (L : Lo C X H σ Γ) {p : Addr} (h : p ∈ muts Γ) : ∃ o, MRep C.K X H p o := by
  obtain ⟨i, s, hi, e⟩ := mem_muts.mp h
  exact (L.at_ i s hi).mrep e
theorem Lo.same (L : Lo C X H σ Γ) (s : Same H H') : Lo C X H' σ Γ := by
  have hd : ∀ a, H a ≠ none → H' a = H a := fun a h => by
    cases e : H a with
    | none => exact (h e).elim
    | some o => exact s a o e
  refine ⟨L.len, fun i t hi => (L.at_ i t hi).keep (.same s) fun p e => hd p ?_, L.nd, L.mx, L.m0, fun a h => ?_, fun a o e n => s _ _ (L.base a o e n), fun a h => ?_, L.own, L.tf⟩
  · obtain ⟨o, r⟩ := (L.at_ i t hi).mrep e
    exact r.nn
  · rw [hd a (L.xd a h)]; exact L.xd a h
  · rw [hd a (L.dom a h)]; exact L.dom a h
theorem nodup_setS {s0 : Sl} (e0 : s0.ad = none) : ∀ {Γ : List Sl} {i : Nat}, (muts Γ).Nodup → (muts (Γ.set i s0)).Nodup
  | [], _, h => h
  | s :: Γ, 0, h => by
    refine List.Sublist.nodup ?_ h
    show (List.filterMap Sl.ad (s0 :: Γ)).Sublist (List.filterMap Sl.ad (s :: Γ))
    rw [List.filterMap_cons, e0]
    show (List.filterMap Sl.ad Γ).Sublist _
    rw [List.filterMap_cons]
    cases s.ad with
    | none => exact List.Sublist.refl _
    | some p => exact List.sublist_cons_self _ _
  | s :: Γ, i + 1, h => by
    have h' : (List.filterMap Sl.ad (s :: Γ)).Nodup := h
    show (List.filterMap Sl.ad (s :: Γ.set i s0)).Nodup
    rw [List.filterMap_cons] at h' ⊢
    cases e : s.ad with
    | none =>
      rw [e] at h'
      exact nodup_setS e0 (i := i) h'
    | some p =>
      rw [e] at h'
      obtain ⟨n1, n2⟩ := List.nodup_cons.mp h'
      refine List.nodup_cons.mpr ⟨fun hp => n1 ?_, nodup_setS e0 (i := i) n2⟩
      obtain ⟨t, ht, et⟩ := List.mem_filterMap.mp hp
      rcases List.mem_or_eq_of_mem_set ht with q | q
      · exact List.mem_filterMap.mpr ⟨t, q, et⟩
      · subst q; rw [e0] at et; cases et
theorem nodup_set {Γ : List Sl} {i : Nat} {d : PyData} (h : (muts Γ).Nodup) : (muts (Γ.set i (.imm d))).Nodup := nodup_setS rfl h
theorem muts_setS {s0 : Sl} (e0 : s0.ad = none) {Γ : List Sl} {i : Nat} {p : Addr} (hp : p ∈ muts (Γ.set i s0)) : p ∈ muts Γ := by
  obtain ⟨j, s, hj, e⟩ := mem_muts.mp hp
  by_cases z : j = i
  · subst z
    by_cases hi : j < Γ.length
    · rw [List.getElem?_set_self hi] at hj
      cases hj; rw [e0] at e; cases e
    · rw [List.getElem?_eq_none_iff.mpr (by rw [List.length_set]; omega)] at hj
      cases hj
  · rw [List.getElem?_set_ne (Ne.symm z)] at hj
    exact mem_muts.mpr ⟨j, s, hj, e⟩
theorem muts_set_imm {Γ : List Sl} {i : Nat} {d : PyData} {p : Addr} (hp : p ∈ muts (Γ.set i (.imm d))) : p ∈ muts Γ := by
  obtain ⟨j, s, hj, e⟩ := mem_muts.mp hp
  by_cases z : j = i
  · subst z
    by_cases hi : j < Γ.length
    · rw [List.getElem?_set_self hi] at hj
      cases hj; cases e
    · rw [List.getElem?_eq_none_iff.mpr (by rw [List.length_set]; omega)] at hj
      cases hj
  · rw [List.getElem?_set_ne (Ne.symm z)] at hj
    exact mem_muts.mpr ⟨j, s, hj, e⟩
/-- a value is stored -/
theorem Lo.set (L : Lo C X H σ Γ) {i : Nat} {v : V} {d : PyData} (r : Rep C.K X H d v) (hi : i < C.n) : Lo C X H (σ.set i (some v)) (Γ.set i (.imm d)) := by
  refine ⟨by rw [List.length_set]; exact L.len, fun j s hj => ?_, nodup_set L.nd, fun p hp => L.mx p (muts_set_imm hp), L.m0, L.xd, L.base, L.dom, fun p hp => L.own p (muts_set_imm hp), L.tf⟩
  by_cases z : j = i
  · subst z
    have hlt : j < Γ.length := by
      have h2 := (List.getElem?_eq_some_iff.mp hj).1
      rw [List.length_set] at h2; exact h2
    rw [List.getElem?_set_self hlt] at hj
    cases hj
    exact ⟨v, List.getElem?_set_self (by rw [L.len]; exact hi), r⟩
  · rw [List.getElem?_set_ne (Ne.symm z)] at hj
    rw [List.getElem?_set_ne (Ne.symm z)]
    exact L.at_ j s hj
end

section
variable {C : Cn} {X : Addr → Prop} {H H' : Hp} {σ : L2.St} {Γ Γ' : List Sl}
/-- a value that is no data is stored, or none -/
theorem Lo.setS (L : Lo C X H σ Γ) {i : Nat} {v : Option V} {s : Sl} (e : s.ad = none) (r : SlOk C.K X H (some v) s) (hi : i < C.n) : Lo C X H (σ.set i v) (Γ.set i s) := by
  refine ⟨by rw [List.length_set]; exact L.len, fun j t hj => ?_, nodup_setS e L.nd, fun p hp => L.mx p (muts_setS e hp), L.m0, L.xd, L.base, L.dom, fun p hp => L.own p (muts_setS e hp), L.tf⟩
  by_cases z : j = i
  · subst z
    have hlt : j < Γ.length := by
      have h2 := (List.getElem?_eq_some_iff.mp hj).1
      rw [List.length_set] at h2; exact h2
    rw [List.getElem?_set_self hlt] at hj
    cases hj
    rw [List.getElem?_set_self (by rw [L.len]; exact hi)]
    exact r
  · rw [List.getElem?_set_ne (Ne.symm z)] at hj
    rw [List.getElem?_set_ne (Ne.symm z)]
    exact L.at_ j t hj
end
/-- a weaker description: slots forgotten, the last ones dropped -/
def Wk : List Sl → List Sl → Prop
  | _, [] => True
  | [], s' :: Γ' => s' = .unk ∧ Wk [] Γ'
  | s :: Γ, s' :: Γ' => (s' = s ∨ s' = .unk) ∧ Wk Γ Γ'
theorem Wk.e {Γ : List Sl} : Wk Γ [] := by cases Γ <;> exact trivial
theorem Wk.k {s : Sl} {Γ Γ' : List Sl} (h : Wk Γ Γ') : Wk (s :: Γ) (s :: Γ') := ⟨.inl rfl, h⟩
theorem Wk.d {s : Sl} {Γ Γ' : List Sl} (h : Wk Γ Γ') : Wk (s :: Γ) (.unk :: Γ') := ⟨.inr rfl, h⟩
theorem Wk.get : ∀ {Γ Γ' : List Sl}, Wk Γ Γ' → ∀ {i : Nat} {s : Sl}, Γ'[i]? = some s → s = .unk ∨ Γ[i]? = some s
  | _, [], _, _, _, e => by simp at e
  | [], s' :: Γ', ⟨h, t⟩, 0, s, e => by simp at e; subst e; exact .inl h
  | [], s' :: Γ', ⟨h, t⟩, i + 1, s, e => by
    rcases Wk.get t (i := i) (s := s) (by simpa using e) with z | z
    · exact .inl z
    · simp at z
  | s0 :: Γ, s' :: Γ', ⟨h, t⟩, 0, s, e => by
    simp at e; subst e
    rcases h with h | h
    · subst h; exact .inr rfl
    · exact .inl h
  | s0 :: Γ, s' :: Γ', ⟨h, t⟩, i + 1, s, e => by
    rcases Wk.get t (i := i) (s := s) (by simpa using e) with z | z
    · exact .inl z
    · exact .inr (by simpa using z)
theorem Wk.sub : ∀ {Γ Γ' : List Sl}, Wk Γ Γ' → (muts Γ').Sublist (muts Γ)
  | _, [], _ => List.nil_sublist _
  | [], s' :: Γ', ⟨h, t⟩ => by
    subst h
    exact Wk.sub (Γ := []) (Γ' := Γ') t
  | s0 :: Γ, s' :: Γ', ⟨h, t⟩ => by
    have ih := Wk.sub t
    unfold muts at ih ⊢
    rw [List.filterMap_cons, List.filterMap_cons]
    rcases h with h | h
    · subst h
      cases s'.ad with
      | none => exact ih
      | some p => exact ih.cons_cons _
    · subst h
      show (List.filterMap Sl.ad Γ').Sublist _
      cases s0.ad with
      | none => exact ih
      | some p => exact ih.cons _

/-- what a def tells: data, or a new object of the caller's own -/
inductive Rs where
  | imm (d : PyData)
  | immN (Z : Addr → Prop) (d : PyData)
  | new (o : MO)
  | raw (R : V → Hp → Prop)
def RRep (K : PySem.W.Frag) (X : Addr → Prop) (H H' : Hp) : Rs → V → Prop
  | .imm d, v => Rep K X H' d v
  | .immN Z d, v => Rep K (NewX X Z H') H' d v
  | .new o, v => ∃ p, v = .ref p ∧ H p = none ∧ MRep K (fun a => X a ∨ a = p) H' p o
  | .raw R, v => R v H'
structure Fin (K : PySem.W.Frag) (X : Addr → Prop) (H : Hp) (P0 : List Addr) (ps : List (Addr × MO)) (rs : Rs) (v : V) (H' : Hp) : Prop where
  base : ∀ a o, H a = some o → a ∉ P0 → H' a = some o
  dom : ∀ a, H a ≠ none → H' a ≠ none
  mu : ∀ q ∈ ps, MRep K X H' q.1 q.2
  res : RRep K X H H' rs v
def As (K : PySem.W.Frag) (X : Addr → Prop) (H : Hp) : List Sl → List V → Prop
  | [], vs => vs = []
  | s :: Γ, vs => ∃ v r, vs = v :: r ∧ SlOk K X H (some (some v)) s ∧ As K X H Γ r
theorem As.nil {K : PySem.W.Frag} {X : Addr → Prop} {H : Hp} : As K X H [] [] := rfl
theorem As.im {K : PySem.W.Frag} {X : Addr → Prop} {H : Hp} {d : PyData} {v : V} {Γ : List Sl} {vs : List V} (r : Rep K X H d v) (t : As K X H Γ vs) : As K X H (.imm d :: Γ) (v :: vs) := ⟨v, vs, rfl, ⟨v, rfl, r⟩, t⟩
theorem As.m {K : PySem.W.Frag} {X : Addr → Prop} {H : Hp} {p : Addr} {o : MO} {Γ : List Sl} {vs : List V} (r : MRep K X H p o) (t : As K X H Γ vs) : As K X H (.mu p o :: Γ) (.ref p :: vs) := ⟨_, vs, rfl, ⟨rfl, r⟩, t⟩
theorem As.s {K : PySem.W.Frag} {X : Addr → Prop} {H : Hp} {ns : List Int} {v : V} {Γ : List Sl} {vs : List V} (r : SqX K X H ns v) (t : As K X H Γ vs) : As K X H (.scr ns :: Γ) (v :: vs) := ⟨v, vs, rfl, ⟨v, rfl, r⟩, t⟩
/-- what a def asks of its arguments -/
structure Cond (K : PySem.W.Frag) (X : Addr → Prop) (H : Hp) (Γ : List Sl) (vs : List V) : Prop where
  as : As K X H Γ vs
  nd : (muts Γ).Nodup
  mx : ∀ p ∈ muts Γ, X p
  xd : ∀ a, X a → H a ≠ none
theorem As.len {K : PySem.W.Frag} {X : Addr → Prop} {H : Hp} : ∀ {Γ : List Sl} {vs : List V}, As K X H Γ vs → vs.length = Γ.length
  | [], _, h => by subst h; rfl
  | s :: Γ, _, ⟨v, r, e, _, t⟩ => by subst e; exact congrArg (· + 1) (As.len t)
theorem As.get {K : PySem.W.Frag} {X : Addr → Prop} {H : Hp} : ∀ {Γ : List Sl} {vs : List V}, As K X H Γ vs → ∀ {i : Nat} {s : Sl}, Γ[i]? = some s → ∃ v, vs[i]? = some v ∧ SlOk K X H (some (some v)) s
  | [], _, h, _, _, e => by simp at e
  | s :: Γ, _, ⟨v, r, e, h, t⟩, 0, s', e' => by subst e; simp at e'; subst e'; exact ⟨v, rfl, h⟩
  | s :: Γ, _, ⟨v, r, e, h, t⟩, i + 1, s', e' => by
    subst e
    obtain ⟨u, h1, h2⟩ := As.get t (i := i) (s := s') (by simpa using e')
    exact ⟨u, by simpa using h1, h2⟩
theorem Cond.len {K : PySem.W.Frag} {X : Addr → Prop} {H : Hp} {Γ : List Sl} {vs : List V} (c : Cond K X H Γ vs) : vs.length = Γ.length := c.as.len
theorem muts_unk : ∀ {Γ : List Sl} (n : Nat), muts (Γ ++ List.replicate n .unk) = muts Γ := fun {Γ} n => by
  unfold muts
  rw [List.filterMap_append]
  have : ∀ n, List.filterMap Sl.ad (List.replicate n Sl.unk) = [] := fun n => by
    induction n with
    | zero => rfl
    | succ n ih => rw [List.replicate_succ, List.filterMap_cons]; exact ih
  rw [this, List.append_nil]
theorem Cond.start {K : PySem.W.Frag} {X : Addr → Prop} {H : Hp} {Γ : List Sl} {vs : List V} (c : Cond K X H Γ vs) (N : List Str) (hn : Γ.length ≤ N.length) :
    Lo ⟨K, X, H, muts Γ, N.length⟩ X H (L2.start N vs) (Γ ++ List.replicate (N.length - Γ.length) .unk) := by
  refine ⟨?_, fun i s hi => ?_, by rw [muts_unk]; exact c.nd, fun p hp => c.mx p (by rw [muts_unk] at hp; exact hp), fun _ h => h, c.xd, fun _ _ h _ => h, fun _ h => h, fun p hp => .inl (by rw [muts_unk] at hp; exact hp), fun a ha => ?_⟩
  · show (vs.map some ++ List.replicate (N.length - vs.length) none).length = N.length
    rw [List.length_append, List.length_map, List.length_replicate, c.len]
    omega
  · by_cases h : i < Γ.length
    · rw [List.getElem?_append_left h] at hi
      obtain ⟨v, h1, h2⟩ := c.as.get hi
      have h3 : (L2.start N vs)[i]? = some (some v) := by
        show (vs.map some ++ List.replicate (N.length - vs.length) none)[i]? = _
        rw [List.getElem?_append_left (by rw [List.length_map, c.len]; exact h), List.getElem?_map, h1]
        rfl
      rw [h3]; exact h2
    · rw [List.getElem?_append_right (by omega)] at hi
      have := List.mem_of_getElem? hi
      rw [List.mem_replicate] at this
      rw [this.2]; trivial
  · obtain ⟨i, s, hi, e⟩ := mem_muts.mp (show a ∈ muts Γ from ha)
    obtain ⟨v, _, h2⟩ := c.as.get hi
    obtain ⟨o, r⟩ := h2.mrep e
    exact r.ntup

section
variable {C : Cn} {X : Addr → Prop} {H H' : Hp} {σ : L2.St} {Γ Γ' : List Sl}
theorem Lo.weak (L : Lo C X H σ Γ) (w : Wk Γ Γ') : Lo C X H σ Γ' := by
  refine ⟨L.len, fun i s hi => ?_, w.sub.nodup L.nd, fun p hp => L.mx p (w.sub.mem hp), L.m0, L.xd, L.base, L.dom, fun p hp => L.own p (w.sub.mem hp), L.tf⟩
  rcases w.get hi with z | z
  · subst z; trivial
  · exact L.at_ i s z
/-- an enclosing view is entered and left -/
abbrev Cn.at_ (C : Cn) (X : Addr → Prop) (H : Hp) (Γ : List Sl) : Cn := ⟨C.K, X, H, muts Γ, C.n⟩
theorem Lo.enter (L : Lo C X H σ Γ) : Lo (C.at_ X H Γ) X H σ Γ :=
  ⟨L.len, L.at_, L.nd, L.mx, fun _ h => h, L.xd, fun _ _ h _ => h, fun _ h => h, fun _ hp => .inl hp, fun a ha => by
    obtain ⟨o, r⟩ := L.mem (p := a) ha
    exact r.ntup⟩
theorem Lo.nown (L : Lo C X H σ Γ) {a : Addr} {o : HO} (h : C.H0 a = some o) (n : a ∉ C.P0) : a ∉ muts Γ := fun hp => by
  rcases L.own a hp with z | z
  · exact n z
  · rw [z] at h; cases h
theorem Lo.leave {X' : Addr → Prop} {σ' : L2.St} (L : Lo C X H σ Γ) (M : Lo (C.at_ X H Γ) X' H' σ' Γ') (hs : muts Γ' = muts Γ) : Lo C X H' σ' Γ' := by
  have sub : ∀ a, X a → X' a := M.m0
  refine ⟨M.len, fun i s hi => (M.at_ i s hi).anti sub, M.nd, fun p hp => L.mx p (hs ▸ hp), L.m0, fun a h => M.xd a (sub a h), fun a o e n => M.base a o (L.base a o e n) (L.nown e n), fun a h => M.dom a (L.dom a h), fun p hp => L.own p (hs ▸ hp), L.tf⟩
theorem Lo.keep {X' : Addr → Prop} {σ' : L2.St} (L : Lo C X H σ Γ) (M : Lo (C.at_ X H Γ) X' H' σ' Γ') : Keep X H H' := by
  refine ⟨fun a o e n => M.base a o e fun h => n (L.mx a h), fun a vs e => M.base a _ e fun h => ?_, fun a o u e => M.base a _ e fun h => ?_⟩
  · obtain ⟨o, r⟩ := L.mem (p := a) h
    exact r.ntup.1 _ e
  · obtain ⟨o', r⟩ := L.mem (p := a) h
    exact r.ntup.2 _ _ e
theorem Fin.leave {ps : List (Addr × MO)} {rs : Rs} {v : V} (L : Lo C X H σ Γ) (F : Fin C.K X H (muts Γ) ps rs v H') : Fin C.K C.X0 C.H0 C.P0 ps rs v H' := by
  refine ⟨fun a o e n => F.base a o (L.base a o e n) (L.nown e n), fun a h => F.dom a (L.dom a h), fun q hq => (F.mu q hq).anti L.m0, ?_⟩
  cases rs with
  | imm d => exact Rep.anti L.m0 F.res
  | immN Z d => exact Rep.anti (fun a z => z.imp (L.m0 a) id) F.res
  | raw R => exact F.res
  | new o =>
    obtain ⟨p, e, h, r⟩ := F.res
    refine ⟨p, e, ?_, r.anti fun a h => h.elim (fun z => .inl (L.m0 a z)) .inr⟩
    cases e : C.H0 p with
    | none => rfl
    | some o => exact (L.dom p (by rw [e]; exact fun z => nomatch z) h).elim
/-- the end of a def: data is told -/
theorem Lo.fin {ps : List (Addr × MO)} {d : PyData} {v : V} (L : Lo C X H σ Γ) (hp : ∀ q ∈ ps, MRep C.K X H q.1 q.2) (r : Rep C.K X H d v) : Fin C.K C.X0 C.H0 C.P0 ps (.imm d) v H :=
  ⟨L.base, L.dom, fun q hq => (hp q hq).anti L.m0, Rep.anti L.m0 r⟩
theorem Lo.finZ {ps : List (Addr × MO)} {Z : Addr → Prop} {d : PyData} {v : V} (L : Lo C X H σ Γ) (hp : ∀ q ∈ ps, MRep C.K X H q.1 q.2) (r : Rep C.K (NewX X Z H) H d v) : Fin C.K C.X0 C.H0 C.P0 ps (.immN Z d) v H :=
  ⟨L.base, L.dom, fun q hq => (hp q hq).anti L.m0, Rep.anti (fun a z => z.imp (L.m0 a) id) r⟩
theorem Lo.finR {ps : List (Addr × MO)} {R : V → Hp → Prop} {v : V} (L : Lo C X H σ Γ) (hp : ∀ q ∈ ps, MRep C.K X H q.1 q.2) (r : R v H) : Fin C.K C.X0 C.H0 C.P0 ps (.raw R) v H :=
  ⟨L.base, L.dom, fun q hq => (hp q hq).anti L.m0, r⟩
/-- .. an object that the body has made -/
theorem Lo.finN {ps : List (Addr × MO)} {o : MO} {p : Addr} (L : Lo C X H σ Γ) (hp : ∀ q ∈ ps, MRep C.K X H q.1 q.2) (hn : C.H0 p = none) (hx : X p) (r : MRep C.K X H p o) : Fin C.K C.X0 C.H0 C.P0 ps (.new o) (.ref p) H :=
  ⟨L.base, L.dom, fun q hq => (hp q hq).anti L.m0, p, rfl, hn, r.anti fun a h => h.elim (L.m0 a) fun e => e ▸ hx⟩
theorem Lo.mrep (L : Lo C X H σ Γ) {i : Nat} {p : Addr} {o : MO} (e : Γ[i]? = some (.mu p o)) : MRep C.K X H p o := (L.at_ i _ e).2

/-- behind a call that wrote nothing of ours -/
theorem Lo.after0 {rs : Rs} {v : V} {ps : List (Addr × MO)} (L : Lo C X H σ Γ) (F : Fin C.K X H [] ps rs v H') : Lo C X H' σ Γ ∧ ∀ d u, Rep C.K X H d u → Rep C.K X H' d u := by
  have s : Same H H' := fun a o e => F.base a o e (by simp)
  exact ⟨L.same s, fun _ _ r => r.keep (.same s)⟩
theorem Lo.cond (L : Lo C X H σ Γ) {Γa : List Sl} {vs : List V} (as : As C.K X H Γa vs) (nd : (muts Γa).Nodup) (sub : ∀ p ∈ muts Γa, p ∈ muts Γ) : Cond C.K X H Γa vs := ⟨as, nd, fun p h => L.mx p (sub p h), L.xd⟩
theorem Lo.get (L : Lo C X H σ Γ) {i : Nat} {d : PyData} (e : Γ[i]? = some (.imm d)) : ∃ u, σ[i]? = some (some u) ∧ Rep C.K X H d u := L.at_ i _ e

theorem ad_unique {Γ : List Sl} (nd : (muts Γ).Nodup) : ∀ {i j : Nat} {s t : Sl} {p : Addr}, Γ[i]? = some s → Γ[j]? = some t → s.ad = some p → t.ad = some p → i = j := by
  induction Γ with
  | nil => intro i j s t p h; simp at h
  | cons s0 Γ ih =>
    intro i j s t p hi hj es et
    have nd' : (List.filterMap Sl.ad (s0 :: Γ)).Nodup := nd
    have tl : (muts Γ).Nodup := by
      rw [List.filterMap_cons] at nd'
      cases e : s0.ad with
      | none => rw [e] at nd'; exact nd'
      | some q => rw [e] at nd'; exact (List.nodup_cons.mp nd').2
    have no : ∀ (k : Nat) (r : Sl), s0.ad = some p → Γ[k]? = some r → r.ad = some p → False := fun k r e0 hk er => by
      rw [List.filterMap_cons, e0] at nd'
      exact (List.nodup_cons.mp nd').1 (List.mem_filterMap.mpr ⟨r, List.mem_of_getElem? hk, er⟩)
    cases i with
    | zero =>
      cases j with
      | zero => rfl
      | succ j =>
        simp at hi hj; subst hi
        exact (no j t es hj et).elim
    | succ i =>
      cases j with
      | zero =>
        simp at hi hj; subst hj
        exact (no i s et hi es).elim
      | succ j =>
        simp at hi hj
        rw [ih tl hi hj es et]
/-- another object at the same place -/
def Sl.to (o : MO) : Sl → Sl
  | .mu p _ => .mu p o
  | .tmp p _ => .tmp p o
  | s => s
theorem muts_to {o : MO} : ∀ {Γ : List Sl} {i : Nat} {s : Sl}, Γ[i]? = some s → muts (Γ.set i (s.to o)) = muts Γ
  | [], _, _, h => by simp at h
  | s0 :: Γ, 0, s, h => by
    simp at h; subst h
    show List.filterMap Sl.ad (s0.to o :: Γ) = List.filterMap Sl.ad (s0 :: Γ)
    rw [List.filterMap_cons, List.filterMap_cons]
    have : (s0.to o).ad = s0.ad := by cases s0 <;> rfl
    rw [this]
  | s0 :: Γ, i + 1, s, h => by
    have ih := muts_to (o := o) (Γ := Γ) (i := i) (s := s) (by simpa using h)
    show List.filterMap Sl.ad (s0 :: Γ.set i (s.to o)) = List.filterMap Sl.ad (s0 :: Γ)
    rw [List.filterMap_cons, List.filterMap_cons]
    have ih' : List.filterMap Sl.ad (Γ.set i (s.to o)) = List.filterMap Sl.ad Γ := ih
    rw [ih']
/-- the object at p is written (or turned by a call): all else keeps -/
theorem Lo.wrote (L : Lo C X H σ Γ) {i : Nat} {p : Addr} {s : Sl} {o : MO} (e : Γ[i]? = some s) (es : s.ad = some p) (hk : ∀ a u, H a = some u → a ≠ p → H' a = some u) (hd : ∀ a, H a ≠ none → H' a ≠ none) (r : MRep C.K X H' p o) :
    Lo C X H' σ (Γ.set i (s.to o)) ∧ ∀ d u, Rep C.K X H d u → Rep C.K X H' d u := by
  have hpm : p ∈ muts Γ := mem_muts.mpr ⟨i, s, e, es⟩
  have hpx : X p := L.mx p hpm
  obtain ⟨o0, r0⟩ := L.mem hpm
  have kp : Keep X H H' := ⟨fun a u h n => hk a u h fun z => n (z ▸ hpx), fun a vs h => hk a _ h fun z => r0.ntup.1 _ (z ▸ h), fun a u w h => hk a _ h fun z => r0.ntup.2 _ _ (z ▸ h)⟩
  have hil : i < Γ.length := (List.getElem?_eq_some_iff.mp e).1
  refine ⟨⟨L.len, fun j t hj => ?_, by rw [muts_to e]; exact L.nd, fun q hq => L.mx q (by rw [muts_to e] at hq; exact hq), L.m0, fun a h => hd a (L.xd a h), fun a u h n => ?_, fun a h => hd a (L.dom a h), fun q hq => L.own q (by rw [muts_to e] at hq; exact hq), L.tf⟩, fun _ _ q => q.keep kp⟩
  · by_cases z : j = i
    · subst z
      rw [List.getElem?_set_self hil] at hj
      have := L.at_ j s e
      cases hj
      cases s with
      | unk => cases es
      | scr ns => cases es
      | ref a => cases es
      | imm d => cases es
      | fix Z d => cases es
      | fixN Z d => cases es
      | lax _ _ => cases es
      | mu q o1 => cases es; exact ⟨this.1, r⟩
      | tmp q o1 => cases es; exact r
    · rw [List.getElem?_set_ne (Ne.symm z)] at hj
      refine (L.at_ j t hj).keep kp fun q eq => ?_
      have ne : q ≠ p := fun y => z (ad_unique L.nd hj e (by rw [eq, y]) es)
      obtain ⟨o1, r1⟩ := L.mem (mem_muts.mpr ⟨j, t, hj, eq⟩)
      cases hq : H q with
      | none => exact (r1.nn hq).elim
      | some u => exact hk q u hq ne
  · have h1 := L.base a u h n
    exact hk a u h1 fun z => by
      subst z
      exact L.nown h n hpm
/-- behind a call that wrote one object -/
theorem Lo.after1 {rs : Rs} {v : V} {p : Addr} {o : MO} {s : Sl} (L : Lo C X H σ Γ) (F : Fin C.K X H [p] [(p, o)] rs v H') {i : Nat} (e : Γ[i]? = some s) (es : s.ad = some p) :
    Lo C X H' σ (Γ.set i (s.to o)) ∧ ∀ d u, Rep C.K X H d u → Rep C.K X H' d u :=
  L.wrote e es (fun a u h n => F.base a u h (by simpa using n)) F.dom (F.mu (p, o) (by simp))
/-- a new object is laid: forbidden from now on -/
theorem Lo.lay (L : Lo C X H σ Γ) {p : Addr} {o : MO} {H1 : Hp} (hn : H p = none) (s : Same H H1) (r : MRep C.K (fun a => X a ∨ a = p) H1 p o) :
    Lo C (fun a => X a ∨ a = p) H1 σ (Γ ++ [.tmp p o]) ∧ (∀ d u, Rep C.K X H d u → Rep C.K (fun a => X a ∨ a = p) H1 d u) ∧ C.H0 p = none ∧ ¬ C.X0 p := by
  have h0 : C.H0 p = none := by
    cases e : C.H0 p with
    | none => rfl
    | some o => exact (L.dom p (by rw [e]; exact fun z => nomatch z) hn).elim
  have hd : ∀ a, H a ≠ none → H1 a = H a := fun a h => by
    cases e : H a with
    | none => exact (h e).elim
    | some o => exact s a o e
  have hm : muts (Γ ++ [Sl.tmp p o]) = muts Γ ++ [p] := by unfold muts; rw [List.filterMap_append]; rfl
  have hnm : p ∉ muts Γ := fun h => L.xd p (L.mx p h) hn
  refine ⟨⟨L.len, fun i t hi => ?_, ?_, fun q hq => ?_, fun a h => .inl (L.m0 a h), fun a h => ?_, fun a u h n => s a u (L.base a u h n), fun a h => ?_, fun q hq => ?_, L.tf⟩, fun _ _ q => (q.more hn).keep (.same s), h0, fun z => L.xd p (L.m0 p z) hn⟩
  · by_cases hlt : i < Γ.length
    · rw [List.getElem?_append_left hlt] at hi
      refine ((L.at_ i t hi).more hn).keep (.same s) fun q e => hd q ?_
      obtain ⟨o', r'⟩ := (L.at_ i t hi).mrep e
      exact r'.nn
    · rw [List.getElem?_append_right (by omega)] at hi
      have ht := List.mem_of_getElem? hi
      rw [List.mem_singleton] at ht
      subst ht
      exact r
  · rw [hm]
    exact List.nodup_append.mpr ⟨L.nd, by simp, fun a ha b hb => by
      rw [List.mem_singleton] at hb
      subst hb
      intro z
      exact hnm (z ▸ ha)⟩
  · rw [hm, List.mem_append, List.mem_singleton] at hq
    exact hq.elim (fun z => .inl (L.mx q z)) .inr
  · rcases h with h | h
    · rw [hd a (L.xd a h)]; exact L.xd a h
    · subst h; exact r.nn
  · rw [hd a (L.dom a h)]; exact L.dom a h
  · rw [hm, List.mem_append, List.mem_singleton] at hq
    exact hq.elim (L.own q) fun z => .inr (z ▸ h0)
/-- the last object is given a name -/
theorem Lo.name {p : Addr} {o : MO} (L : Lo C X H σ (Γ ++ [.tmp p o])) {i : Nat} (hi : i < C.n) (hl : i < Γ.length) : Lo C X H (σ.set i (some (.ref p))) (Γ.set i (.mu p o)) := by
  have hm : muts (Γ ++ [Sl.tmp p o]) = muts Γ ++ [p] := by unfold muts; rw [List.filterMap_append]; rfl
  have nd := L.nd
  rw [hm] at nd
  obtain ⟨nd1, _, nd2⟩ := List.nodup_append.mp nd
  have hnp : p ∉ muts Γ := fun h => nd2 p h p (by simp) rfl
  have sub : ∀ q, q ∈ muts (Γ.set i (.mu p o)) → q ∈ muts (Γ ++ [Sl.tmp p o]) := fun q hq => by
    rw [hm, List.mem_append, List.mem_singleton]
    obtain ⟨j, s, hj, e⟩ := mem_muts.mp hq
    by_cases z : j = i
    · subst z
      rw [List.getElem?_set_self hl] at hj
      cases hj; cases e; exact .inr rfl
    · rw [List.getElem?_set_ne (Ne.symm z)] at hj
      exact .inl (mem_muts.mpr ⟨j, s, hj, e⟩)
  have ndp : ∀ {Γ : List Sl} {i : Nat}, (muts Γ).Nodup → p ∉ muts Γ → (muts (Γ.set i (.mu p o))).Nodup := by
    intro Γ
    induction Γ with
    | nil => intro i h _; exact h
    | cons s0 Γ ih =>
      intro i h hn
      have h' : (List.filterMap Sl.ad (s0 :: Γ)).Nodup := h
      have hn' : p ∉ List.filterMap Sl.ad (s0 :: Γ) := hn
      have hg : p ∉ muts Γ := fun z => hn' (by rw [List.filterMap_cons]; cases s0.ad with | none => exact z | some q => exact List.mem_cons_of_mem _ z)
      have hgn : (muts Γ).Nodup := by
        rw [List.filterMap_cons] at h'
        cases e : s0.ad with
        | none => rw [e] at h'; exact h'
        | some q => rw [e] at h'; exact (List.nodup_cons.mp h').2
      cases i with
      | zero => exact List.nodup_cons.mpr ⟨hg, hgn⟩
      | succ i =>
        have ih' := ih (i := i) hgn hg
        show (List.filterMap Sl.ad (s0 :: Γ.set i (.mu p o))).Nodup
        rw [List.filterMap_cons] at h' hn' ⊢
        cases e : s0.ad with
        | none => exact ih'
        | some q =>
          rw [e] at h' hn'
          refine List.nodup_cons.mpr ⟨fun z => ?_, ih'⟩
          obtain ⟨t, ht, et⟩ := List.mem_filterMap.mp (show q ∈ List.filterMap Sl.ad (Γ.set i (.mu p o)) from z)
          rcases List.mem_or_eq_of_mem_set ht with y | y
          · exact (List.nodup_cons.mp h').1 (List.mem_filterMap.mpr ⟨t, y, et⟩)
          · subst y
            cases et
            exact hn' List.mem_cons_self
  refine ⟨by rw [List.length_set]; exact L.len, fun j t hj => ?_, ndp nd1 hnp, fun q hq => L.mx q (sub q hq), L.m0, L.xd, L.base, L.dom, fun q hq => L.own q (sub q hq), L.tf⟩
  by_cases z : j = i
  · subst z
    rw [List.getElem?_set_self hl] at hj
    cases hj
    refine ⟨List.getElem?_set_self (by rw [L.len]; exact hi), ?_⟩
    exact L.at_ Γ.length (.tmp p o) (by rw [List.getElem?_append_right (Nat.le_refl _)]; simp)
  · rw [List.getElem?_set_ne (Ne.symm z)] at hj
    rw [List.getElem?_set_ne (Ne.symm z)]
    refine L.at_ j t ?_
    rw [List.getElem?_append_left (List.getElem?_eq_some_iff.mp hj).1]
    exact hj
/-- an object that is written no more is data -/
theorem Lo.freeze {p : Addr} {ds : List PyData} (L : Lo C X H σ Γ) {i : Nat} (e : Γ[i]? = some (.mu p (.lst ds))) (hx : ¬ C.X0 p) : Lo C (fun a => X a ∧ a ≠ p) H σ (Γ.set i (.imm (.list ds))) := by
  have hil : i < Γ.length := (List.getElem?_eq_some_iff.mp e).1
  refine ⟨L.len, fun j t hj => ?_, nodup_set L.nd, fun q hq => ⟨L.mx q (muts_set_imm hq), fun z => ?_⟩, fun a h => ⟨L.m0 a h, fun z => hx (z ▸ h)⟩, fun a h => L.xd a h.1, L.base, L.dom, fun q hq => L.own q (muts_set_imm hq), L.tf⟩
  · by_cases z : j = i
    · subst z
      rw [List.getElem?_set_self hil] at hj
      cases hj
      obtain ⟨h1, vs, h2, h3⟩ := L.at_ j _ e
      exact ⟨.ref p, h1, .lst (fun y => y.2 rfl) (.inl h2) (h3.anti fun a h => h.1)⟩
    · rw [List.getElem?_set_ne (Ne.symm z)] at hj
      exact (L.at_ j t hj).anti fun a h => h.1
  · subst z
    obtain ⟨j, s, hj, es⟩ := mem_muts.mp hq
    by_cases y : j = i
    · subst y
      rw [List.getElem?_set_self hil] at hj
      cases hj; cases es
    · rw [List.getElem?_set_ne (Ne.symm y)] at hj
      exact y (ad_unique L.nd hj e es rfl)
theorem RRep.imm {K : PySem.W.Frag} {X : Addr → Prop} {H H' : Hp} {ds : List PyData} {v : V} (r : RRep K X H H' (.new (.lst ds)) v) (xd : ∀ a, X a → H a ≠ none) : Rep K X H' (.list ds) v := by
  obtain ⟨p, e, hn, vs, h2, h3⟩ := r
  subst e
  exact .lst (fun z => xd p z hn) (.inl h2) (h3.anti fun _ z => .inl z)
end
open Py (enc)

/-! ### what may fail -/
/-- .. in the middle of a term -/
theorem obE {α β : Type} {m : Option α} {k : α → Option β} {r : β} {P : Prop} (h : m.bind k = some r) (f : ∀ x, m = some x → k x = some r → P) : P := by
  obtain ⟨x, a, b⟩ := Option.bind_eq_some_iff.mp h
  exact f x a b
theorem ob {α β : Type} {m : Option α} {k : α → Option β} {r : β} (h : m.bind k = some r) : ∃ x, m = some x ∧ k x = some r := Option.bind_eq_some_iff.mp h
/-- a product, a quotient, a rest, where they are told -/
def mulG (a b : Int) : Option Int := if a.natAbs.log2 + b.natAbs.log2 < 1000000 then some (a * b) else none
def divG (a b : Int) : Option Int := if b ≠ 0 ∧ b.natAbs.log2 < 9000 then some (a.fdiv b) else none
def modG (a b : Int) : Option Int := if b ≠ 0 then some (a.fmod b) else none
def lenOk (n : Nat) : Option Unit := if n ≤ 16777216 then some () else none
def guard (b : Bool) : Option Unit := if b = true then some () else none
def iabs (i : Int) : Int := if i < 0 then -i else i
def b2 (b : Bool) : Int := if b = true then 1 else 0
def ix {α : Type} (xs : List α) (i : Int) : Option α := atI xs i
theorem line_eq : sizeLine = 16777216 := sizeLine_eq

section
variable {Xc : Cx}
def cMulG (i j : Int) : Prop := i.natAbs.log2 + j.natAbs.log2 < 1000000
def cDivG (i j : Int) : Prop := j ≠ 0 ∧ j.natAbs.log2 < 9000
theorem op_divG : OpR Xc (binaryOp .FloorDiv) (rI cDivG fun i j => .int (i.fdiv j)) := opI fun i j _ _ _ _ _ hc q => floordiv_int hc.1 q (.inl (PyProof.noPylong_of_log2 hc.2))
end


/-- continuations by name, so that goals stay as they are -/
def KB (Q : Bool → Hp → Prop) : VK := fun x H => ∃ k, x = .bl k ∧ Q k H
def KNot (Q : Bool → Hp → Prop) : Bool → Hp → Prop := fun c H => Q (!c) H
def KAnd (u : TT) (σ : L2.St) (Q : Bool → Hp → Prop) : Bool → Hp → Prop := fun c H => if c = true then u σ H Q else Q false H
def KOr (u : TT) (σ : L2.St) (Q : Bool → Hp → Prop) : Bool → Hp → Prop := fun c H => if c = true then Q true H else u σ H Q
def KNotV (Q : VK) : Bool → Hp → Prop := fun c H => Q (.bl (!c)) H
def KAndV (u : TE) (σ : L2.St) (Q : VK) : Bool → Hp → Prop := fun c H => if c = true then u σ H Q else Q (.bl false) H
def KOrV (u : TE) (σ : L2.St) (Q : VK) : Bool → Hp → Prop := fun c H => if c = true then Q (.bl true) H else u σ H Q
def KIf (t u : TS) (D : Ends) (σ : L2.St) : Bool → Hp → Prop := fun c H => if c = true then t D σ H else u D σ H
def KIfE (t u : TE) (σ : L2.St) (Q : VK) : Bool → Hp → Prop := fun c H => if c = true then t σ H Q else u σ H Q
def KTup (Q : VK) : List V → Hp → Prop := fun xs H => xs.length ≤ sizeLine ∧ ∀ p, H p = none → Q (.ref p) (upd H p (.tup xs))
def KLst (Q : VK) : List V → Hp → Prop := fun xs H => xs.length ≤ sizeLine ∧ ∀ p, H p = none → Q (.ref p) (upd H p (.lst xs))
def KPar (i j : Nat) (σ : L2.St) (N : L2.St → Hp → Prop) : List V → Hp → Prop := fun vs H => ∃ v w, vs = [v, w] ∧ N ((σ.set i (some v)).set j (some w)) H

section
variable {C : Cn} {X : Addr → Prop} {H : Hp} {σ : L2.St} {Γ Γ' : List Sl} {Q : VK} {α β γ δ ε ρ : Type}
/-! ### expressions, from the left -/
theorem x_op {r : R2} {ta tb : TE} (h : ta σ H fun x H1 => tb σ H1 fun y H2 => r x y H2 Q) : tOp r ta tb σ H Q := h
theorem x_un {r : V → Hp → VK → Prop} {ta : TE} (h : ta σ H fun x H1 => r x H1 Q) : tUn r ta σ H Q := h
theorem x_c {v : V} (h : Q v H) : tC v σ H Q := h
theorem x_cons {ta : TE} {tr : TA} {Q : List V → Hp → Prop} (h : ta σ H fun x H1 => tr σ H1 fun xs H2 => Q (x :: xs) H2) : tCons ta tr σ H Q := h
theorem x_nil {Q : List V → Hp → Prop} (h : Q [] H) : tNil σ H Q := h
/-- a name of the def: data, an object that may be written, the script -/
theorem x_vd {i : Nat} {d : PyData} (L : Lo C X H σ Γ) (e : Γ[i]? = some (.imm d)) (h : ∀ v, Rep C.K X H d v → Q v H) : tVar i σ H Q := by
  obtain ⟨u, h1, h2⟩ := L.get e
  exact ⟨u, h1, h u h2⟩
theorem x_vm {i : Nat} {p : Addr} {o : MO} (L : Lo C X H σ Γ) (e : Γ[i]? = some (.mu p o)) (h : Q (.ref p) H) : tVar i σ H Q := ⟨_, (L.at_ i _ e).1, h⟩
theorem x_vscr {i : Nat} {ns : List Int} (L : Lo C X H σ Γ) (e : Γ[i]? = some (.scr ns)) (h : ∀ v, SqX C.K X H ns v → Q v H) : tVar i σ H Q := by
  obtain ⟨u, h1, h2⟩ := L.at_ i _ e
  exact ⟨u, h1, h u h2⟩
theorem repI {K : PySem.W.Frag} {x : Int} {u : V} (h : Rep K X H (PyData.int x) u) : u = (V.int x) := by cases h; rfl
theorem x_vI {i : Nat} {x : Int} (L : Lo C X H σ Γ) (e : Γ[i]? = some (.imm (PyData.int x))) (h : Q (V.int x) H) : tVar i σ H Q :=
  x_vd L e fun v r => by rw [repI (x := x) r]; exact h
theorem repB {K : PySem.W.Frag} {x : Bool} {u : V} (h : Rep K X H (PyData.bool x) u) : u = (V.bl x) := by cases h; rfl
theorem x_vB {i : Nat} {x : Bool} (L : Lo C X H σ Γ) (e : Γ[i]? = some (.imm (PyData.bool x))) (h : Q (V.bl x) H) : tVar i σ H Q :=
  x_vd L e fun v r => by rw [repB (x := x) r]; exact h
theorem repS {K : PySem.W.Frag} {x : Str} {u : V} (h : Rep K X H (PyData.str x) u) : u = (V.str x) := by cases h; rfl
theorem x_vS {i : Nat} {x : Str} (L : Lo C X H σ Γ) (e : Γ[i]? = some (.imm (PyData.str x))) (h : Q (V.str x) H) : tVar i σ H Q :=
  x_vd L e fun v r => by rw [repS (x := x) r]; exact h
theorem repN {K : PySem.W.Frag} {x : Unit} {u : V} (h : Rep K X H PyData.none u) : u = V.non := by cases h; rfl
theorem x_vN {i : Nat} {x : Unit} (L : Lo C X H σ Γ) (e : Γ[i]? = some (.imm PyData.none)) (h : Q V.non H) : tVar i σ H Q :=
  x_vd L e fun v r => by rw [repN (x := x) r]; exact h
/-! ### whole numbers -/
theorem x_r0 {g : Int → Int → V} {a b : Int} (h : Q (g a b) H) : rI0 g (.int a) (.int b) H Q := ⟨a, b, rfl, rfl, h⟩
theorem x_mulL {a b : Int} (hc : -(2 ^ 64) < a ∧ a < 2 ^ 64) (h : Q (.int (a * b)) H) : rI CMul (fun i j => .int (i * j)) (.int a) (.int b) H Q := ⟨a, b, rfl, rfl, .inl hc, h⟩
theorem x_mulR {a b : Int} (hc : -(2 ^ 64) < b ∧ b < 2 ^ 64) (h : Q (.int (a * b)) H) : rI CMul (fun i j => .int (i * j)) (.int a) (.int b) H Q := ⟨a, b, rfl, rfl, .inr hc, h⟩
theorem x_mulc {a b n : Int} (hc : a.natAbs.log2 + b.natAbs.log2 < 1000000) (e : a * b = n) (h : Q (.int n) H) : rI CMulW (fun i j => .int (i * j)) (.int a) (.int b) H Q := by subst e; exact ⟨a, b, rfl, rfl, hc, h⟩
theorem room65 {k : Nat} {A : Around} (r : Room k A) : A.units + 65 < cLine := by have := r.un; omega
theorem x_divc {a b : Int} (hc : CDiv a b) (h : Q (.int (a / b)) H) : rI CDiv (fun i j => .int (i / j)) (.int a) (.int b) H Q := ⟨a, b, rfl, rfl, hc, h⟩
theorem x_divW {a b : Int} (hc : CDivW a b) (h : Q (.int (a / b)) H) : rI CDivW (fun i j => .int (i / j)) (.int a) (.int b) H Q := ⟨a, b, rfl, rfl, hc, h⟩
theorem x_modc {a b : Int} (hc : 0 < b) (h : Q (.int (a % b)) H) : rI (fun _ j => 0 < j) (fun i j => .int (i % j)) (.int a) (.int b) H Q := ⟨a, b, rfl, rfl, hc, h⟩
theorem x_powc {a b n : Int} (hc : CPow a b) (e : a ^ b.toNat = n) (h : Q (.int n) H) : rI CPow (fun i j => .int (i ^ j.toNat)) (.int a) (.int b) H Q := by subst e; exact ⟨a, b, rfl, rfl, hc, h⟩
theorem x_mul {a b : Int} {k : Int → Option ρ} {r : ρ} (hm : (mulG a b).bind k = some r) (h : ∀ z, mulG a b = some z → k z = some r → Q (.int z) H) : rI CMulW (fun i j => .int (i * j)) (.int a) (.int b) H Q := by
  obtain ⟨z, hz, hk⟩ := ob hm
  have hz' := hz
  unfold mulG at hz'
  split at hz'
  · rename_i hc
    have e : a * b = z := Option.some.inj hz'
    subst e
    exact ⟨a, b, rfl, rfl, hc, h _ hz hk⟩
  · cases hz'
theorem x_div {a b : Int} {k : Int → Option ρ} {r : ρ} (hm : (divG a b).bind k = some r) (h : ∀ z, divG a b = some z → k z = some r → Q (.int z) H) : rI cDivG (fun i j => .int (i.fdiv j)) (.int a) (.int b) H Q := by
  obtain ⟨z, hz, hk⟩ := ob hm
  have hz' := hz
  unfold divG at hz'
  split at hz'
  · rename_i hc
    have e : a.fdiv b = z := Option.some.inj hz'
    subst e
    exact ⟨a, b, rfl, rfl, hc, h _ hz hk⟩
  · cases hz'
theorem x_mod {a b : Int} {k : Int → Option ρ} {r : ρ} (hm : (modG a b).bind k = some r) (h : ∀ z, modG a b = some z → k z = some r → Q (.int z) H) : rI (fun _ j => j ≠ 0) (fun i j => .int (i.fmod j)) (.int a) (.int b) H Q := by
  obtain ⟨z, hz, hk⟩ := ob hm
  have hz' := hz
  unfold modG at hz'
  split at hz'
  · rename_i hc
    have e : a.fmod b = z := Option.some.inj hz'
    subst e
    exact ⟨a, b, rfl, rfl, hc, h _ hz hk⟩
  · cases hz'
theorem x_u {g : Int → V} {a : Int} (h : Q (g a) H) : rU g (.int a) H Q := ⟨a, rfl, h⟩
theorem x_eqi {a b : Int} (h : Q (.bl (decide (a = b))) H) : rEq (.int a) (.int b) H Q := by
  refine ⟨rfl, ?_⟩
  have e : decide (V.int a = V.int b) = decide (a = b) := by by_cases z : a = b <;> simp [z]
  rw [e]; exact h
theorem x_nei {a b : Int} (h : Q (.bl (!decide (a = b))) H) : rNe (.int a) (.int b) H Q := by
  refine ⟨rfl, ?_⟩
  have e : decide (V.int a = V.int b) = decide (a = b) := by by_cases z : a = b <;> simp [z]
  rw [e]; exact h
theorem x_eqb {a b : Bool} (h : Q (.bl (decide (a = b))) H) : rEq (.bl a) (.bl b) H Q := by
  refine ⟨rfl, ?_⟩
  have e : decide (V.bl a = V.bl b) = decide (a = b) := by by_cases z : a = b <;> simp [z]
  rw [e]; exact h
theorem x_neb {a b : Bool} (h : Q (.bl (!decide (a = b))) H) : rNe (.bl a) (.bl b) H Q := by
  refine ⟨rfl, ?_⟩
  have e : decide (V.bl a = V.bl b) = decide (a = b) := by by_cases z : a = b <;> simp [z]
  rw [e]; exact h
theorem x_eqs {a b : Str} (h : Q (.bl (decide (a = b))) H) : rEq (.str a) (.str b) H Q := by
  refine ⟨rfl, ?_⟩
  have e : decide (V.str a = V.str b) = decide (a = b) := by by_cases z : a = b <;> simp [z]
  rw [e]; exact h
theorem x_nes {a b : Str} (h : Q (.bl (!decide (a = b))) H) : rNe (.str a) (.str b) H Q := by
  refine ⟨rfl, ?_⟩
  have e : decide (V.str a = V.str b) = decide (a = b) := by by_cases z : a = b <;> simp [z]
  rw [e]; exact h
/-- an item of a tuple -/
theorem rep_tupS {K : PySem.W.Frag} {ds : List PyData} {v : V} (r : Rep K X H (.tuple ds) v) : ∃ a vs, v = .ref a ∧ H a = some (.tup vs) ∧ Reps K X H ds vs := by
  cases r with | tup h q => exact ⟨_, _, rfl, h, q⟩
theorem rep_tup {K : PySem.W.Frag} {ds : List PyData} {v : V} (r : Rep K X H (.tuple ds) v) : ∃ a vs, v = .ref a ∧ SqT K H a vs ∧ Reps K X H ds vs := by
  cases r with | tup h q => exact ⟨_, _, rfl, .inl (.inl h), q⟩
theorem rep_lst {K : PySem.W.Frag} {ds : List PyData} {v : V} (r : Rep K X H (.list ds) v) : ∃ a vs, v = .ref a ∧ ¬ X a ∧ Rd H a (.lst vs) ∧ Reps K X H ds vs := by
  cases r with | lst n h q => exact ⟨_, _, rfl, n, h, q⟩
theorem atI_reps {K : PySem.W.Frag} {ds : List PyData} {vs : List V} {i : Int} {d : PyData} (q : Reps K X H ds vs) (e : atI ds i = some d) : ∃ u, atI vs i = some u ∧ Rep K X H d u := by
  unfold atI at e ⊢
  rw [q.length]
  cases h : ixN ds.length i with
  | none => rw [h] at e; cases e
  | some j => rw [h] at e; exact q.get e
theorem x_ixT {ds : List PyData} {d : PyData} {i : Int} {v : V} (r : Rep C.K X H (.tuple ds) v) (e : atI ds i = some d) (h : ∀ u, Rep C.K X H d u → Q u H) : rIxT C.K v (.int i) H Q := by
  obtain ⟨a, vs, rfl, hs, q⟩ := rep_tup r
  obtain ⟨u, h1, h2⟩ := atI_reps q e
  exact ⟨a, vs, i, u, rfl, rfl, hs, h1, h u h2⟩
theorem x_ixTI {ds : List PyData} {x : Int} {i : Int} {v : V} (r : Rep C.K X H (.tuple ds) v) (e : atI ds i = some (PyData.int x)) (h : Q (V.int x) H) : rIxT C.K v (.int i) H Q :=
  x_ixT r e fun u q => by rw [repI (x := x) q]; exact h
theorem x_ixTB {ds : List PyData} {x : Bool} {i : Int} {v : V} (r : Rep C.K X H (.tuple ds) v) (e : atI ds i = some (PyData.bool x)) (h : Q (V.bl x) H) : rIxT C.K v (.int i) H Q :=
  x_ixT r e fun u q => by rw [repB (x := x) q]; exact h
theorem x_ixTS {ds : List PyData} {x : Str} {i : Int} {v : V} (r : Rep C.K X H (.tuple ds) v) (e : atI ds i = some (PyData.str x)) (h : Q (V.str x) H) : rIxT C.K v (.int i) H Q :=
  x_ixT r e fun u q => by rw [repS (x := x) q]; exact h
theorem x_ixTN {ds : List PyData} {x : Unit} {i : Int} {v : V} (r : Rep C.K X H (.tuple ds) v) (e : atI ds i = some PyData.none) (h : Q V.non H) : rIxT C.K v (.int i) H Q :=
  x_ixT r e fun u q => by rw [repN (x := x) q]; exact h
theorem atI_map {f : α → β} {xs : List α} {i : Int} : atI (xs.map f) i = (atI xs i).map f := by
  unfold atI
  rw [List.length_map]
  cases ixN xs.length i with
  | none => rfl
  | some j => exact List.getElem?_map ..
/-- an item of a list -/
theorem x_ixL [Py α] {xs : List α} {i : Int} {v : V} {k : α → Option ρ} {r : ρ} (hm : (ix xs i).bind k = some r) (q : Rep C.K X H (enc xs) v) (h : ∀ x u, ix xs i = some x → k x = some r → Rep C.K X H (enc x) u → Q u H) : rIxL C.K v (.int i) H Q := by
  obtain ⟨x, hx, hk⟩ := ob hm
  obtain ⟨a, vs, rfl, _, hs, q⟩ := rep_lst (ds := xs.map enc) q
  have e : atI (xs.map enc) i = some (enc x) := by rw [atI_map]; unfold ix at hx; rw [hx]; rfl
  obtain ⟨u, h1, h2⟩ := atI_reps q e
  exact ⟨a, vs, i, u, rfl, rfl, .inl hs, h1, h x u hx hk h2⟩
theorem x_ixLI {xs : List Int} {i : Int} {v : V} {k : Int → Option ρ} {r : ρ} (hm : (ix xs i).bind k = some r) (q : Rep C.K X H (enc xs) v) (h : ∀ x, ix xs i = some x → k x = some r → Q (V.int x) H) : rIxL C.K v (.int i) H Q :=
  x_ixL hm q fun x u h1 h2 r => by rw [repI (x := x) r]; exact h x h1 h2
theorem x_ixLB {xs : List Bool} {i : Int} {v : V} {k : Bool → Option ρ} {r : ρ} (hm : (ix xs i).bind k = some r) (q : Rep C.K X H (enc xs) v) (h : ∀ x, ix xs i = some x → k x = some r → Q (V.bl x) H) : rIxL C.K v (.int i) H Q :=
  x_ixL hm q fun x u h1 h2 r => by rw [repB (x := x) r]; exact h x h1 h2
theorem x_ixLS {xs : List Str} {i : Int} {v : V} {k : Str → Option ρ} {r : ρ} (hm : (ix xs i).bind k = some r) (q : Rep C.K X H (enc xs) v) (h : ∀ x, ix xs i = some x → k x = some r → Q (V.str x) H) : rIxL C.K v (.int i) H Q :=
  x_ixL hm q fun x u h1 h2 r => by rw [repS (x := x) r]; exact h x h1 h2
theorem x_ixLN {xs : List Unit} {i : Int} {v : V} {k : Unit → Option ρ} {r : ρ} (hm : (ix xs i).bind k = some r) (q : Rep C.K X H (enc xs) v) (h : ∀ x, ix xs i = some x → k x = some r → Q V.non H) : rIxL C.K v (.int i) H Q :=
  x_ixL hm q fun x u h1 h2 r => by rw [repN (x := x) r]; exact h x h1 h2
/-- .. of a list that may be written -/
theorem x_ixM [Py α] {xs : List α} {i : Int} {j : Nat} {p : Addr} {k : α → Option ρ} {r : ρ} (L : Lo C X H σ Γ) (g : Γ[j]? = some (.mu p (ml xs))) (hm : (ix xs i).bind k = some r) (h : ∀ x u, ix xs i = some x → k x = some r → Rep C.K X H (enc x) u → Q u H) : rIxL C.K (.ref p) (.int i) H Q := by
  obtain ⟨x, hx, hk⟩ := ob hm
  obtain ⟨vs, hs, q⟩ := L.mrep g
  have e : atI (xs.map enc) i = some (enc x) := by rw [atI_map]; unfold ix at hx; rw [hx]; rfl
  obtain ⟨u, h1, h2⟩ := atI_reps q e
  exact ⟨p, vs, i, u, rfl, rfl, .inl (.inl hs), h1, h x u hx hk h2⟩
theorem x_ixMI {xs : List Int} {i : Int} {j : Nat} {p : Addr} {k : Int → Option ρ} {r : ρ} (L : Lo C X H σ Γ) (g : Γ[j]? = some (.mu p (ml xs))) (hm : (ix xs i).bind k = some r) (h : ∀ x, ix xs i = some x → k x = some r → Q (V.int x) H) : rIxL C.K (.ref p) (.int i) H Q :=
  x_ixM L g hm fun x u h1 h2 r => by rw [repI (x := x) r]; exact h x h1 h2
theorem x_ixMB {xs : List Bool} {i : Int} {j : Nat} {p : Addr} {k : Bool → Option ρ} {r : ρ} (L : Lo C X H σ Γ) (g : Γ[j]? = some (.mu p (ml xs))) (hm : (ix xs i).bind k = some r) (h : ∀ x, ix xs i = some x → k x = some r → Q (V.bl x) H) : rIxL C.K (.ref p) (.int i) H Q :=
  x_ixM L g hm fun x u h1 h2 r => by rw [repB (x := x) r]; exact h x h1 h2
theorem x_ixMS {xs : List Str} {i : Int} {j : Nat} {p : Addr} {k : Str → Option ρ} {r : ρ} (L : Lo C X H σ Γ) (g : Γ[j]? = some (.mu p (ml xs))) (hm : (ix xs i).bind k = some r) (h : ∀ x, ix xs i = some x → k x = some r → Q (V.str x) H) : rIxL C.K (.ref p) (.int i) H Q :=
  x_ixM L g hm fun x u h1 h2 r => by rw [repS (x := x) r]; exact h x h1 h2
theorem x_ixMN {xs : List Unit} {i : Int} {j : Nat} {p : Addr} {k : Unit → Option ρ} {r : ρ} (L : Lo C X H σ Γ) (g : Γ[j]? = some (.mu p (ml xs))) (hm : (ix xs i).bind k = some r) (h : ∀ x, ix xs i = some x → k x = some r → Q V.non H) : rIxL C.K (.ref p) (.int i) H Q :=
  x_ixM L g hm fun x u h1 h2 r => by rw [repN (x := x) r]; exact h x h1 h2
/-- .. of the script -/
theorem x_ixS {ns : List Int} {i : Int} {v : V} {k : Int → Option ρ} {r : ρ} (hm : (ix ns i).bind k = some r) (q : SqX C.K X H ns v) (h : ∀ x, ix ns i = some x → k x = some r → Q (.int x) H) : rIxL C.K v (.int i) H Q := by
  obtain ⟨x, hx, hk⟩ := ob hm
  obtain ⟨a, rfl, hs⟩ := q.sq
  have e : atI (ns.map V.int) i = some (.int x) := by rw [atI_map]; unfold ix at hx; rw [hx]; rfl
  exact ⟨a, _, i, _, rfl, rfl, hs, e, h x hx hk⟩
/-! ### displays -/
theorem x_tup {t : TA} (h : t σ H (KTup Q)) : tTup t σ H Q := h
theorem x_lst {t : TA} (h : t σ H (KLst Q)) : tLst t σ H Q := h
theorem same_upd {p : Addr} {o : HO} (h : H p = none) : Same H (upd H p o) := fun b u e => by rw [upd_ne (ne_of_none e h)]; exact e
theorem x_mkT {ds : List PyData} {vs : List V} (L : Lo C X H σ Γ) (q : Reps C.K X H ds vs) (hl : vs.length ≤ 16777216) (h : ∀ v H1, Lo C X H1 σ Γ → (∀ d u, Rep C.K X H d u → Rep C.K X H1 d u) → Rep C.K X H1 (.tuple ds) v → Q v H1) : KTup Q vs H := by
  refine ⟨by rw [line_eq]; exact hl, fun p hp => ?_⟩
  have s : Same H (upd H p (.tup vs)) := same_upd hp
  exact h _ _ (L.same s) (fun _ _ r => r.keep (.same s)) (.tup upd_same (q.keep (.same s)))
/-- a new list, told as data -/
theorem x_mkL {ds : List PyData} {vs : List V} (L : Lo C X H σ Γ) (q : Reps C.K X H ds vs) (hl : vs.length ≤ 16777216) (h : ∀ v H1, Lo C X H1 σ Γ → (∀ d u, Rep C.K X H d u → Rep C.K X H1 d u) → Rep C.K X H1 (.list ds) v → Q v H1) : KLst Q vs H := by
  refine ⟨by rw [line_eq]; exact hl, fun p hp => ?_⟩
  have s : Same H (upd H p (.lst vs)) := same_upd hp
  have r : RRep C.K X H (upd H p (.lst vs)) (.new (.lst ds)) (.ref p) := ⟨p, rfl, hp, vs, upd_same, (q.more hp).keep (.same s)⟩
  exact h _ _ (L.same s) (fun _ _ r => r.keep (.same s)) (r.imm L.xd)
/-- a new list of the body's own -/
theorem x_mkN {ds : List PyData} {vs : List V} (L : Lo C X H σ Γ) (q : Reps C.K X H ds vs) (hl : vs.length ≤ 16777216) (h : ∀ p X' H1, C.H0 p = none → ¬ C.X0 p → Lo C X' H1 σ (Γ ++ [.tmp p (.lst ds)]) → (∀ d u, Rep C.K X H d u → Rep C.K X' H1 d u) → Q (.ref p) H1) : KLst Q vs H := by
  refine ⟨by rw [line_eq]; exact hl, fun p hp => ?_⟩
  have s : Same H (upd H p (.lst vs)) := same_upd hp
  obtain ⟨L1, le, h0, hx⟩ := L.lay (o := .lst ds) hp s ⟨vs, upd_same, (q.more hp).keep (.same s)⟩
  exact h p _ _ h0 hx L1 le
/-- behind a call that tells a new object -/
theorem Lo.afterN {v : V} {o : MO} {ps : List (Addr × MO)} {P0 : List Addr} {H' : Hp} (L : Lo C X H σ Γ) (F : Fin C.K X H P0 ps (.new o) v H') (L' : Lo C X H' σ Γ') (kp : Keep X H H') (sub : ∀ p ∈ P0, p ∈ muts Γ) (hm : muts Γ' = muts Γ)
    (hat : ∀ (i : Nat) (s : Sl), Γ'[i]? = some s → (s.ad = none ∧ Γ[i]? = some s) ∨ (∃ p, s.ad = some p ∧ ∀ (q : Addr), H q = none → SlOk C.K (fun a => X a ∨ a = q) H' σ[i]? s)) :
    ∃ p, v = .ref p ∧ C.H0 p = none ∧ ¬ C.X0 p ∧ Lo C (fun a => X a ∨ a = p) H' σ (Γ' ++ [.tmp p o]) ∧ ∀ d u, Rep C.K X H d u → Rep C.K (fun a => X a ∨ a = p) H' d u := by
  obtain ⟨p, e, hn, r⟩ := F.res
  subst e
  have h0 : C.H0 p = none := by
    cases e : C.H0 p with
    | none => rfl
    | some o => exact (L.dom p (by rw [e]; exact fun z => nomatch z) hn).elim
  have kp' : Keep (fun a => X a ∨ a = p) H H' := kp.mono fun a h => .inl h
  have hm2 : muts (Γ' ++ [Sl.tmp p o]) = muts Γ' ++ [p] := by unfold muts; rw [List.filterMap_append]; rfl
  have hnm : p ∉ muts Γ' := fun h => L.xd p (L.mx p (hm ▸ h)) hn
  refine ⟨p, rfl, h0, fun z => L.xd p (L.m0 p z) hn, ⟨L.len, fun i t hi => ?_, ?_, fun q hq => ?_, fun a h => .inl (L.m0 a h), fun a h => ?_, L'.base, L'.dom, fun q hq => ?_, L.tf⟩, fun _ _ q => (q.more hn).keep kp'⟩
  · by_cases hlt : i < Γ'.length
    · rw [List.getElem?_append_left hlt] at hi
      rcases hat i t hi with ⟨h1, h2⟩ | ⟨q, h1, h2⟩
      · exact ((L.at_ i t h2).more hn).keep kp' fun q e => by rw [h1] at e; cases e
      · exact h2 p hn
    · rw [List.getElem?_append_right (by omega)] at hi
      have ht := List.mem_of_getElem? hi
      rw [List.mem_singleton] at ht
      subst ht
      exact r
  · rw [hm2]
    exact List.nodup_append.mpr ⟨L'.nd, by simp, fun a ha b hb => by
      rw [List.mem_singleton] at hb
      subst hb
      intro z
      exact hnm (z ▸ ha)⟩
  · rw [hm2, List.mem_append, List.mem_singleton] at hq
    exact hq.elim (fun z => .inl (L'.mx q z)) .inr
  · rcases h with h | h
    · exact L'.xd a h
    · subst h; exact r.nn
  · rw [hm2, List.mem_append, List.mem_singleton] at hq
    exact hq.elim (L'.own q) fun z => .inr (z ▸ h0)
theorem Lo.after0N {v : V} {o : MO} {ps : List (Addr × MO)} {H' : Hp} (L : Lo C X H σ Γ) (F : Fin C.K X H [] ps (.new o) v H') :
    ∃ p, v = .ref p ∧ C.H0 p = none ∧ ¬ C.X0 p ∧ ∃ X', Lo C X' H' σ (Γ ++ [.tmp p o]) ∧ ∀ d u, Rep C.K X H d u → Rep C.K X' H' d u := by
  have s : Same H H' := fun a o e => F.base a o e (by simp)
  have L' := (L.after0 F).1
  obtain ⟨p, a, b, c, d, e⟩ := L.afterN F L' (.same s) (by simp) rfl fun i t hi => by
    cases e : t.ad with
    | none => exact .inl ⟨rfl, hi⟩
    | some p =>
      refine .inr ⟨p, rfl, fun q hq => ((L.at_ i t hi).more hq).keep (.same s) fun p' e' => ?_⟩
      obtain ⟨o', r'⟩ := (L.at_ i t hi).mrep e'
      cases h : H p' with
      | none => exact (r'.nn h).elim
      | some u => exact s _ _ h
  exact ⟨p, a, b, c, _, d, e⟩
/-! ### tests -/
theorem x_test {t : TE} {Q : Bool → Hp → Prop} (h : t σ H (KB Q)) : tTest t σ H Q := h
theorem x_tB {t : TE} {Q : Bool → Hp → Prop} (h : t σ H (KB Q)) : tB t σ H Q := h
theorem x_kb {b : Bool} {Q : Bool → Hp → Prop} (h : Q b H) : KB Q (.bl b) H := ⟨b, rfl, h⟩
theorem x_not {t : TT} {Q : Bool → Hp → Prop} (h : t σ H (KNot Q)) : tNot t σ H Q := h
theorem x_kn {b : Bool} {Q : Bool → Hp → Prop} (h : Q (!b) H) : KNot Q b H := h
theorem x_notV {t : TE} (h : t σ H (KB (KNotV Q))) : tNotV t σ H Q := h
theorem x_knV {b : Bool} (h : Q (.bl (!b)) H) : KNotV Q b H := h
theorem x_and {t u : TT} {Q : Bool → Hp → Prop} (h : t σ H (KAnd u σ Q)) : tAnd t u σ H Q := h
theorem x_or {t u : TT} {Q : Bool → Hp → Prop} (h : t σ H (KOr u σ Q)) : tOr t u σ H Q := h
theorem x_andV {t u : TE} (h : t σ H (KB (KAndV u σ Q))) : tAndV t u σ H Q := h
theorem x_orV {t u : TE} (h : t σ H (KB (KOrV u σ Q))) : tOrV t u σ H Q := h
theorem x_ifE {t : TT} {ta tb : TE} (h : t σ H (KIfE ta tb σ Q)) : tIf t ta tb σ H Q := h
/-- a second part that can't fail and changes nothing -/
theorem x_andP {A B : Bool} {u : TT} {Q : Bool → Hp → Prop} (hu : ∀ Q' : Bool → Hp → Prop, Q' B H → u σ H Q') (h : Q (A && B) H) : KAnd u σ Q A H := by
  cases A with
  | true => exact hu Q h
  | false => exact h
theorem x_orP {A B : Bool} {u : TT} {Q : Bool → Hp → Prop} (hu : ∀ Q' : Bool → Hp → Prop, Q' B H → u σ H Q') (h : Q (A || B) H) : KOr u σ Q A H := by
  cases A with
  | false => exact hu Q h
  | true => exact h
theorem x_andVP {A B : Bool} {u : TE} (hu : ∀ Q' : VK, Q' (.bl B) H → u σ H Q') (h : Q (.bl (A && B)) H) : KAndV u σ Q A H := by
  cases A with
  | true => exact hu Q h
  | false => exact h
theorem x_orVP {A B : Bool} {u : TE} (hu : ∀ Q' : VK, Q' (.bl B) H → u σ H Q') (h : Q (.bl (A || B)) H) : KOrV u σ Q A H := by
  cases A with
  | false => exact hu Q h
  | true => exact h
/-- .. that may: it runs only then -/
theorem x_andB {A : Bool} {m : Option Bool} {k : Bool → Option ρ} {r : ρ} {u : TT} {Q : Bool → Hp → Prop} (L : Lo C X H σ Γ) (hm : (if A = true then m else some false).bind k = some r)
    (hu : ∀ b, m = some b → ∀ Q' : Bool → Hp → Prop, (∀ H2, Lo C X H2 σ Γ → Q' b H2) → u σ H Q') (h : ∀ b H2, k b = some r → Lo C X H2 σ Γ → Q b H2) : KAnd u σ Q A H := by
  cases A with
  | true =>
    obtain ⟨b, e, hk⟩ := ob hm
    exact hu b e Q fun H2 l => h b H2 hk l
  | false => exact h false H hm L
theorem x_orB {A : Bool} {m : Option Bool} {k : Bool → Option ρ} {r : ρ} {u : TT} {Q : Bool → Hp → Prop} (L : Lo C X H σ Γ) (hm : (if A = true then some true else m).bind k = some r)
    (hu : ∀ b, m = some b → ∀ Q' : Bool → Hp → Prop, (∀ H2, Lo C X H2 σ Γ → Q' b H2) → u σ H Q') (h : ∀ b H2, k b = some r → Lo C X H2 σ Γ → Q b H2) : KOr u σ Q A H := by
  cases A with
  | false =>
    obtain ⟨b, e, hk⟩ := ob hm
    exact hu b e Q fun H2 l => h b H2 hk l
  | true => exact h true H hm L
theorem x_andVB {A : Bool} {m : Option Bool} {k : Bool → Option ρ} {r : ρ} {u : TE} (L : Lo C X H σ Γ) (hm : (if A = true then m else some false).bind k = some r)
    (hu : ∀ b, m = some b → ∀ Q' : VK, (∀ H2, Lo C X H2 σ Γ → Q' (.bl b) H2) → u σ H Q') (h : ∀ b H2, k b = some r → Lo C X H2 σ Γ → Q (.bl b) H2) : KAndV u σ Q A H := by
  cases A with
  | true =>
    obtain ⟨b, e, hk⟩ := ob hm
    exact hu b e Q fun H2 l => h b H2 hk l
  | false => exact h false H hm L
theorem x_orVB {A : Bool} {m : Option Bool} {k : Bool → Option ρ} {r : ρ} {u : TE} (L : Lo C X H σ Γ) (hm : (if A = true then some true else m).bind k = some r)
    (hu : ∀ b, m = some b → ∀ Q' : VK, (∀ H2, Lo C X H2 σ Γ → Q' (.bl b) H2) → u σ H Q') (h : ∀ b H2, k b = some r → Lo C X H2 σ Γ → Q (.bl b) H2) : KOrV u σ Q A H := by
  cases A with
  | false =>
    obtain ⟨b, e, hk⟩ := ob hm
    exact hu b e Q fun H2 l => h b H2 hk l
  | true => exact h true H hm L
theorem x_lfT {B b : Bool} {Q' : Bool → Hp → Prop} (hm : some B = some b) (hQ : ∀ H2, Lo C X H2 σ Γ → Q' b H2) (L : Lo C X H σ Γ) : Q' B H := by cases hm; exact hQ _ L
theorem x_lfV {B b : Bool} {Q' : VK} (hm : some B = some b) (hQ : ∀ H2, Lo C X H2 σ Γ → Q' (.bl b) H2) (L : Lo C X H σ Γ) : Q' (.bl B) H := by cases hm; exact hQ _ L
/-! ### statements -/
section
variable {nx bk ct : L2.St → Hp → Prop} {rt : VK}
theorem x_seq {t u : TS} (h : t ⟨u ⟨nx, rt, bk, ct⟩, rt, bk, ct⟩ σ H) : tSeq t u ⟨nx, rt, bk, ct⟩ σ H := h
theorem x_next (h : nx σ H) : tNext ⟨nx, rt, bk, ct⟩ σ H := h
theorem x_cont (h : ct σ H) : tCont ⟨nx, rt, bk, ct⟩ σ H := h
theorem x_break (h : bk σ H) : tBreak ⟨nx, rt, bk, ct⟩ σ H := h
theorem x_asg {te : TE} {g : TG} (h : te σ H fun x H1 => g x σ H1 nx) : tAsg te g ⟨nx, rt, bk, ct⟩ σ H := h
theorem x_ret {te : TE} (h : te σ H rt) : tRet te ⟨nx, rt, bk, ct⟩ σ H := h
theorem x_retN (h : rt .non H) : tRetN ⟨nx, rt, bk, ct⟩ σ H := h
theorem x_drop {te : TE} (h : te σ H fun _ H1 => nx σ H1) : tDrop te ⟨nx, rt, bk, ct⟩ σ H := h
end
theorem x_ifS {c : TT} {t u : TS} {D : Ends} (h : c σ H (KIf t u D σ)) : tIfS c t u D σ H := h
/-- a branch ends the body: the rest stands in the other one -/
theorem x_if {t u : TS} {D : Ends} {c : Bool} {mA mB : Option ρ} {r : ρ} (hm : (if c = true then mA else mB) = some r) (hA : mA = some r → t D σ H) (hB : mB = some r → u D σ H) : KIf t u D σ c H := by
  cases c with
  | true => exact hA hm
  | false => exact hB hm
theorem x_ifX {t u : TE} {c : Bool} {mA mB : Option ρ} {r : ρ} (hm : (if c = true then mA else mB) = some r) (hA : mA = some r → t σ H Q) (hB : mB = some r → u σ H Q) : KIfE t u σ Q c H := by
  cases c with
  | true => exact hA hm
  | false => exact hB hm
theorem x_set {d : PyData} {i : Nat} {v : V} {N : L2.St → Hp → Prop} (L : Lo C X H σ Γ) (r : Rep C.K X H d v) (hi : i < C.n) (e : Γ.set i (.imm d) = Γ') (h : ∀ σ', Lo C X H σ' Γ' → N σ' H) : gName i v σ H N := by
  subst e
  exact h _ (L.set r hi)
/-- a new object gets a name -/
theorem x_setN {p : Addr} {o : MO} {i : Nat} {N : L2.St → Hp → Prop} (L : Lo C X H σ (Γ ++ [.tmp p o])) (hi : i < C.n) (hl : i < Γ.length) (e : Γ.set i (.mu p o) = Γ') (h : ∀ σ', Lo C X H σ' Γ' → N σ' H) : gName i (.ref p) σ H N := by
  subst e
  exact h _ (L.name hi hl)
/-- two names at once -/
theorem x_par {i j : Nat} {ta : TA} {nx bk ct : L2.St → Hp → Prop} {rt : VK} (h : ta σ H (KPar i j σ nx)) : tPar i j ta ⟨nx, rt, bk, ct⟩ σ H := h
theorem x_par2 {x y : PyData} {i j : Nat} {v w : V} {N : L2.St → Hp → Prop} (L : Lo C X H σ Γ) (r : Rep C.K X H x v) (q : Rep C.K X H y w) (hi : i < C.n) (hj : j < C.n) (e : (Γ.set i (.imm x)).set j (.imm y) = Γ') (h : ∀ σ', Lo C X H σ' Γ' → N σ' H) :
    KPar i j σ N [v, w] H := by
  subst e
  exact ⟨v, w, rfl, h _ ((L.set r hi).set q hj)⟩
def KPar3 (i j l : Nat) (σ : L2.St) (N : L2.St → Hp → Prop) : List V → Hp → Prop := fun vs H => ∃ u v w, vs = [u, v, w] ∧ N (((σ.set i (some u)).set j (some v)).set l (some w)) H
theorem x_par3 {i j l : Nat} {ta : TA} {nx bk ct : L2.St → Hp → Prop} {rt : VK} (h : ta σ H (KPar3 i j l σ nx)) : tPar3 i j l ta ⟨nx, rt, bk, ct⟩ σ H := h
theorem x_par3r {x y z : PyData} {i j l : Nat} {u v w : V} {N : L2.St → Hp → Prop} (L : Lo C X H σ Γ) (r : Rep C.K X H x u) (q : Rep C.K X H y v) (t : Rep C.K X H z w) (hi : i < C.n) (hj : j < C.n) (hl : l < C.n) (e : ((Γ.set i (.imm x)).set j (.imm y)).set l (.imm z) = Γ') (h : ∀ σ', Lo C X H σ' Γ' → N σ' H) :
    KPar3 i j l σ N [u, v, w] H := by
  subst e
  exact ⟨u, v, w, rfl, h _ (((L.set r hi).set q hj).set t hl)⟩
/-- a tuple is parted to names -/
theorem x_gTup {ds : List PyData} {v : V} {n : Nat} {t : TGs} {N : L2.St → Hp → Prop} (r : Rep C.K X H (.tuple ds) v) (hl : ds.length = n) (h : ∀ vs, Reps C.K X H ds vs → t vs σ H N) : gTup C.K n t v σ H N := by
  obtain ⟨a, vs, rfl, hs, q⟩ := rep_tup r
  exact ⟨a, vs, rfl, hs, q.length.trans hl, h vs q⟩
theorem x_gCons {d : PyData} {ds : List PyData} {vs : List V} {t : TG} {u : TGs} {N : L2.St → Hp → Prop} (q : Reps C.K X H (d :: ds) vs) (h : ∀ v r, Rep C.K X H d v → Reps C.K X H ds r → t v σ H fun σ' H' => u r σ' H' N) : gCons t u vs σ H N := by
  cases q with | cons r t => exact ⟨_, _, rfl, h _ _ r t⟩
theorem x_gNil {vs : List V} {N : L2.St → Hp → Prop} (q : Reps C.K X H [] vs) (h : N σ H) : gNil vs σ H N := by
  cases q; exact ⟨rfl, h⟩
/-- an item of a list is written -/
theorem x_gSub {to ti : TE} {t : TSet} {v : V} {N : L2.St → Hp → Prop} (h : to σ H fun o H1 => ti σ H1 fun i H2 => t o i v H2 (N σ)) : gSub to ti t v σ H N := h
def setI (xs : List α) (i : Int) (x : α) : Option (List α) := (ixN xs.length i).map fun j => xs.set j x
theorem x_setI [Py α] {xs : List α} {x : α} {i : Int} {j : Nat} {p : Addr} {v : V} {N : Hp → Prop} {k : List α → Option ρ} {r : ρ} (L : Lo C X H σ Γ) (g : Γ[j]? = some (.mu p (ml xs))) (hm : (setI xs i x).bind k = some r) (q : Rep C.K X H (enc x) v)
    (h : ∀ ys H1, setI xs i x = some ys → k ys = some r → Lo C X H1 σ (Γ.set j (.mu p (ml ys))) → N H1) : rSetL (.ref p) (.int i) v H N := by
  obtain ⟨ys, e, hk⟩ := ob hm
  have e' := e
  unfold setI at e'
  obtain ⟨vs, hs, rs⟩ := L.mrep g
  have hl : vs.length = xs.length := by rw [rs.length, List.length_map]
  cases hj : ixN xs.length i with
  | none => rw [hj] at e'; cases e'
  | some m =>
    rw [hj] at e'
    have e2 : xs.set m x = ys := Option.some.inj e'
    refine ⟨p, vs, i, m, rfl, rfl, hs, by rw [hl]; exact hj, ?_⟩
    have hX : X p := L.mx p (mem_muts.mpr ⟨j, _, g, rfl⟩)
    have kp : Keep X H (upd H p (.lst (vs.set m v))) := ⟨fun a u h n => by rw [upd_ne (fun z => n (by rw [z]; exact hX))]; exact h, fun a us h => by rw [upd_ne (fun z => by rw [z, hs] at h; cases h)]; exact h, fun a u w h => by rw [upd_ne (fun z => by rw [z, hs] at h; cases h)]; exact h⟩
    have := L.wrote (H' := upd H p (.lst (vs.set m v))) (o := ml ys) g rfl (fun a u h n => by rw [upd_ne n]; exact h) (fun a h => by
      by_cases z : a = p
      · rw [z, upd_same]; exact fun y => nomatch y
      · rw [upd_ne z]; exact h) ⟨_, upd_same, by rw [← e2, List.map_set]; exact (rs.set q m).keep kp⟩
    exact h ys _ e hk this.1
end
open Py (enc)

/-- how a loop's turn ends: the next one, out of the loop, out of the def -/
inductive Lp (τ ρ : Type) where
  | nxt (s : τ)
  | brk (s : τ)
  | ret (r : ρ)
def loopL {α τ ρ : Type} (f : α → τ → Option (Lp τ ρ)) : List α → τ → Option (Lp τ ρ)
  | [], s => some (.nxt s)
  | x :: xs, s => (f x s).bind fun o => match o with
    | .nxt s' => loopL f xs s'
    | .brk s' => some (.brk s')
    | .ret r => some (.ret r)
/-- a loop that is left by its end alone -/
def foldO {α τ : Type} (f : α → τ → Option τ) : List α → τ → Option τ
  | [], s => some s
  | x :: xs, s => (f x s).bind fun s' => foldO f xs s'
def loopW {τ ρ : Type} (f : τ → Option (Lp τ ρ)) : Nat → τ → Option (Lp τ ρ)
  | 0, _ => none
  | n + 1, s => (f s).bind fun o => match o with
    | .nxt s' => loopW f n s'
    | .brk s' => some (.brk s')
    | .ret r => some (.ret r)
/-- a while without a break or a return -/
def whileO {τ : Type} (c : τ → Bool) (f : τ → Option τ) : Nat → τ → Option τ
  | 0, _ => none
  | n + 1, s => if c s = true then (f s).bind fun s' => whileO c f n s' else some s
def rangeL (lo : Int) (n : Nat) : List Int := (List.range n).map fun (k : Nat) => lo + (k : Int)

/-- what a loop told -/
def Lp.out {τ ρ ρ' : Type} (o : Lp τ ρ) (j : ρ → Option ρ') (k : τ → Option ρ') : Option ρ' := match o with
  | .nxt s => k s
  | .brk s => k s
  | .ret r => j r
/-- the rest of a loop, of a comprehension, by name -/
def KForL (K : PySem.W.Frag) (g : TG) (tb : TS) (D : Ends) (σ : L2.St) (v : V) (H : Hp) : Prop := ∃ a, v = V.ref a ∧ (∃ xs, SqL K H a xs) ∧ ∃ W : Nat → Nat → L2.St → Hp → Prop, (∃ m, W 0 m σ H) ∧ ∀ i m σ H, W i m σ H →
      ((Itl K a).stop i H ∧ D.nx σ H) ∨ ((Itl K a).go i H ∧ ∃ N : L2.St → Hp → Prop, (∀ σ' H', N σ' H' → ∃ m', m' < m ∧ W (i + 1) m' σ' H') ∧ ∀ x H', (Itl K a).yld i H x H' → g x σ H' fun σ2 H2 => tb { D with nx := N, ct := N, bk := D.nx } σ2 H2)
def KForT (K : PySem.W.Frag) (g : TG) (tb : TS) (D : Ends) (σ : L2.St) (v : V) (H : Hp) : Prop := ∃ a, v = V.ref a ∧ (∃ xs, SqT K H a xs) ∧ ∃ W : Nat → Nat → L2.St → Hp → Prop, (∃ m, W 0 m σ H) ∧ ∀ i m σ H, W i m σ H →
      ((Itt K a).stop i H ∧ D.nx σ H) ∨ ((Itt K a).go i H ∧ ∃ N : L2.St → Hp → Prop, (∀ σ' H', N σ' H' → ∃ m', m' < m ∧ W (i + 1) m' σ' H') ∧ ∀ x H', (Itt K a).yld i H x H' → g x σ H' fun σ2 H2 => tb { D with nx := N, ct := N, bk := D.nx } σ2 H2)
def KForR (lo : Int) (n : Nat) (g : TG) (tb : TS) (D : Ends) (σ : L2.St) (H : Hp) : Prop := ∃ W : Nat → Nat → L2.St → Hp → Prop, (∃ m, W 0 m σ H) ∧ ∀ i m σ H, W i m σ H →
      ((Itr lo n).stop i H ∧ D.nx σ H) ∨ ((Itr lo n).go i H ∧ ∃ N : L2.St → Hp → Prop, (∀ σ' H', N σ' H' → ∃ m', m' < m ∧ W (i + 1) m' σ' H') ∧ ∀ x H', (Itr lo n).yld i H x H' → g x σ H' fun σ2 H2 => tb { D with nx := N, ct := N, bk := D.nx } σ2 H2)
def KWh (tb : TS) (D : Ends) (σ : L2.St) : Bool → Hp → Prop := fun b H => if b = true then tb D σ H else D.bk σ H
def KRng1 (R : Int → Nat → Hp → Prop) : List V → Hp → Prop := fun vs H => ∃ j : Int, vs = [.int j] ∧ -(2 ^ 62) ≤ j ∧ j < 2 ^ 62 ∧ R 0 j.toNat H
def KRng2 (R : Int → Nat → Hp → Prop) : List V → Hp → Prop := fun vs H => ∃ i j : Int, vs = [.int i, .int j] ∧ (-(2 ^ 62) ≤ i ∧ i < 2 ^ 62 ∧ -(2 ^ 62) ≤ j ∧ j < 2 ^ 62) ∧ R i (j - i).toNat H
theorem x_whIf {tb : TS} {nx bk ct : L2.St → Hp → Prop} {rt : VK} {σ : L2.St} {H : Hp} {ρ : Type} {c : Bool} {mA mB : Option ρ} {r : ρ} (hm : (if c = true then mA else mB) = some r) (hA : mA = some r → tb ⟨nx, rt, bk, ct⟩ σ H) (hB : mB = some r → bk σ H) : KWh tb ⟨nx, rt, bk, ct⟩ σ c H := by
  cases c with
  | true => exact hA hm
  | false => exact hB hm
section
variable {C : Cn} {X : Addr → Prop} {H : Hp} {σ : L2.St} {Γ Γ' : List Sl} {Q : VK} {α β τ ρ : Type}
theorem loop_drop {f : α → τ → Option (Lp τ ρ)} {xs : List α} {i : Nat} {x : α} {s : τ} {o : Lp τ ρ} (hx : xs[i]? = some x) (h : loopL f (xs.drop i) s = some o) :
    ∃ o1, f x s = some o1 ∧ (∀ s', o1 = .nxt s' → loopL f (xs.drop (i + 1)) s' = some o) ∧ (∀ s', o1 = .brk s' → o = .brk s') ∧ (∀ r, o1 = .ret r → o = .ret r) := by
  obtain ⟨hl, hx⟩ := List.getElem?_eq_some_iff.mp hx
  rw [List.drop_eq_getElem_cons hl, hx] at h
  obtain ⟨o1, h1, h2⟩ := ob h
  refine ⟨o1, h1, fun s' e => ?_, fun s' e => ?_, fun r e => ?_⟩
  · subst e; exact h2
  · subst e; exact (Option.some.inj h2).symm
  · subst e; exact (Option.some.inj h2).symm
/-- what a loop's body shows of one turn -/
def Body (C : Cn) (X : Addr → Prop) (G : τ → List Sl) (ps : ρ → List (Addr × MO)) (rs : ρ → Rs) (d : PyData) (s : τ) (o : Option (Lp τ ρ)) (g : TG) (tb : TS) : Prop :=
  ∀ (H : Hp) (σ : L2.St) (u : V) (nx : L2.St → Hp → Prop) (rt : VK) (bk ct : L2.St → Hp → Prop) (o1 : Lp τ ρ), o = some o1 → Lo ⟨C.K, X, H, muts (G s), C.n⟩ X H σ (G s) → Rep C.K X H d u →
    (∀ s', o1 = .nxt s' → ∀ X' σ' H', Lo ⟨C.K, X, H, muts (G s), C.n⟩ X' H' σ' (G s') → nx σ' H') →
    (∀ s', o1 = .nxt s' → ∀ X' σ' H', Lo ⟨C.K, X, H, muts (G s), C.n⟩ X' H' σ' (G s') → ct σ' H') →
    (∀ s', o1 = .brk s' → ∀ X' σ' H', Lo ⟨C.K, X, H, muts (G s), C.n⟩ X' H' σ' (G s') → bk σ' H') →
    (∀ r, o1 = .ret r → ∀ v H', Fin C.K X H (muts (G s)) (ps r) (rs r) v H' → rt v H') → g u σ H fun σ2 H2 => tb ⟨nx, rt, bk, ct⟩ σ2 H2
theorem x_for [Py α] {xs : List α} {f : α → τ → Option (Lp τ ρ)} {G : τ → List Sl} {ps : ρ → List (Addr × MO)} {rs : ρ → Rs} {s0 : τ} {o : Lp τ ρ} {v : V} {g : TG} {tb : TS} {nx bk ct : L2.St → Hp → Prop} {rt : VK}
    (L : Lo C X H σ (G s0)) (hG : ∀ s s', muts (G s) = muts (G s')) (r : Rep C.K X H (enc xs) v) (hm : loopL f xs s0 = some o)
    (body : ∀ x s, Body C X G ps rs (enc x) s (f x s) g tb)
    (done : ∀ s, o = .nxt s → ∀ σ' H', Lo C X H' σ' (G s) → nx σ' H') (brk : ∀ s, o = .brk s → ∀ σ' H', Lo C X H' σ' (G s) → nx σ' H')
    (ret : ∀ q, o = .ret q → ∀ v H', Fin C.K C.X0 C.H0 C.P0 (ps q) (rs q) v H' → rt v H') :
    KForL C.K g tb ⟨nx, rt, bk, ct⟩ σ v H := by
  obtain ⟨a, vs, rfl, hna, hrd, hrs⟩ := rep_lst (ds := xs.map enc) r
  refine ⟨a, rfl, ⟨vs, .inl hrd⟩, for_list (K := C.K) (a := a) (xs := vs) (fun i σ' H' => ∃ s, Lo C X H' σ' (G s) ∧ Rep C.K X H' (enc xs) (.ref a) ∧ Rd H' a (.lst vs) ∧ loopL f (xs.drop i) s = some o)
    ⟨s0, L, r, hrd, hm⟩ (fun i σ' H' _ ⟨s, _, _, h, _⟩ => .inl h) ?_ ?_⟩
  · rintro i y σ' H' hy ⟨s, L', r', hd', hm'⟩
    obtain ⟨a', vs', e', _, hrd', hrs'⟩ := rep_lst (ds := xs.map enc) r'
    cases e'
    have ev : vs' = vs := by
      rcases hd' with h1 | ⟨_, h1⟩ <;> rcases hrd' with h2 | ⟨_, h2⟩ <;> rw [h1] at h2 <;> cases h2 <;> rfl
    subst ev
    obtain ⟨d, hd, rd⟩ := hrs'.get' hy
    rw [List.getElem?_map] at hd
    cases hx : xs[i]? with
    | none => rw [hx] at hd; cases hd
    | some x =>
      rw [hx] at hd
      cases hd
      obtain ⟨o1, h1, h2, h3, h4⟩ := loop_drop hx hm'
      refine body x s H' σ' y _ _ _ _ o1 h1 L'.enter rd ?_ ?_ ?_ ?_
      · intro s' e X' σ'' H'' L''
        have k := L'.keep L''
        exact ⟨s', L'.leave L'' (hG _ _), r'.keep k, k.rd hna hrd', h2 s' e⟩
      · intro s' e X' σ'' H'' L''
        have k := L'.keep L''
        exact ⟨s', L'.leave L'' (hG _ _), r'.keep k, k.rd hna hrd', h2 s' e⟩
      · intro s' e X' σ'' H'' L''
        exact brk s' (h3 s' e) _ _ (L'.leave L'' (hG _ _))
      · intro q e v' H'' F
        exact ret q (h4 q e) v' H'' (F.leave L')
  · rintro σ' H' ⟨s, L', _, _, hm'⟩
    rw [hrs.length, List.length_map, List.drop_length] at hm'
    exact done s (Option.some.inj hm').symm _ _ L'
/-- .. over a tuple of such items -/
theorem x_forT [Py α] {xs : List α} {f : α → τ → Option (Lp τ ρ)} {G : τ → List Sl} {ps : ρ → List (Addr × MO)} {rs : ρ → Rs} {s0 : τ} {o : Lp τ ρ} {v : V} {g : TG} {tb : TS} {nx bk ct : L2.St → Hp → Prop} {rt : VK}
    (L : Lo C X H σ (G s0)) (hG : ∀ s s', muts (G s) = muts (G s')) (r : Rep C.K X H (.tuple (xs.map enc)) v) (hm : loopL f xs s0 = some o)
    (body : ∀ x s, Body C X G ps rs (enc x) s (f x s) g tb)
    (done : ∀ s, o = .nxt s → ∀ σ' H', Lo C X H' σ' (G s) → nx σ' H') (brk : ∀ s, o = .brk s → ∀ σ' H', Lo C X H' σ' (G s) → nx σ' H')
    (ret : ∀ q, o = .ret q → ∀ v H', Fin C.K C.X0 C.H0 C.P0 (ps q) (rs q) v H' → rt v H') :
    KForT C.K g tb ⟨nx, rt, bk, ct⟩ σ v H := by
  obtain ⟨a, vs, rfl, hrd, hrs⟩ := rep_tup r
  refine ⟨a, rfl, ⟨vs, hrd⟩, for_tup (K := C.K) (a := a) (xs := vs) (fun i σ' H' => ∃ s, Lo C X H' σ' (G s) ∧ SqT C.K H' a vs ∧ Reps C.K X H' (xs.map enc) vs ∧ loopL f (xs.drop i) s = some o)
    ⟨s0, L, hrd, hrs, hm⟩ (fun i σ' H' _ ⟨s, _, h, _⟩ => h) ?_ ?_⟩
  · rintro i y σ' H' hy ⟨s, L', hrd', hrs', hm'⟩
    obtain ⟨d, hd, rd⟩ := hrs'.get' hy
    rw [List.getElem?_map] at hd
    cases hx : xs[i]? with
    | none => rw [hx] at hd; cases hd
    | some x =>
      rw [hx] at hd
      cases hd
      obtain ⟨o1, h1, h2, h3, h4⟩ := loop_drop hx hm'
      refine body x s H' σ' y _ _ _ _ o1 h1 L'.enter rd ?_ ?_ ?_ ?_
      · intro s' e X' σ'' H'' L''
        have k := L'.keep L''
        exact ⟨s', L'.leave L'' (hG _ _), k.sqT hrd', hrs'.keep k, h2 s' e⟩
      · intro s' e X' σ'' H'' L''
        have k := L'.keep L''
        exact ⟨s', L'.leave L'' (hG _ _), k.sqT hrd', hrs'.keep k, h2 s' e⟩
      · intro s' e X' σ'' H'' L''
        exact brk s' (h3 s' e) _ _ (L'.leave L'' (hG _ _))
      · intro q e v' H'' F
        exact ret q (h4 q e) v' H'' (F.leave L')
  · rintro σ' H' ⟨s, L', _, _, hm'⟩
    rw [hrs.length, List.length_map, List.drop_length] at hm'
    exact done s (Option.some.inj hm').symm _ _ L'
theorem rangeL_get {lo : Int} {n i : Nat} (h : i < n) : (rangeL lo n)[i]? = some (lo + (i : Int)) := by
  unfold rangeL
  rw [List.getElem?_map, List.getElem?_range h]
  rfl
/-- .. over a range -/
theorem x_forR {f : Int → τ → Option (Lp τ ρ)} {G : τ → List Sl} {ps : ρ → List (Addr × MO)} {rs : ρ → Rs} {s0 : τ} {o : Lp τ ρ} {lo : Int} {n : Nat} {g : TG} {tb : TS} {nx bk ct : L2.St → Hp → Prop} {rt : VK}
    (L : Lo C X H σ (G s0)) (hG : ∀ s s', muts (G s) = muts (G s')) (hm : loopL f (rangeL lo n) s0 = some o)
    (body : ∀ x s, Body C X G ps rs (enc x) s (f x s) g tb)
    (done : ∀ s, o = .nxt s → ∀ σ' H', Lo C X H' σ' (G s) → nx σ' H') (brk : ∀ s, o = .brk s → ∀ σ' H', Lo C X H' σ' (G s) → nx σ' H')
    (ret : ∀ q, o = .ret q → ∀ v H', Fin C.K C.X0 C.H0 C.P0 (ps q) (rs q) v H' → rt v H') :
    KForR lo n g tb ⟨nx, rt, bk, ct⟩ σ H := by
  refine for_range (fun i σ' H' => ∃ s, Lo C X H' σ' (G s) ∧ loopL f ((rangeL lo n).drop i) s = some o) ⟨s0, L, hm⟩ ?_ ?_
  · rintro i σ' H' hi ⟨s, L', hm'⟩
    obtain ⟨o1, h1, h2, h3, h4⟩ := loop_drop (rangeL_get hi) hm'
    refine body (lo + (i : Int)) s H' σ' _ _ _ _ _ o1 h1 L'.enter (.int _) ?_ ?_ ?_ ?_
    · intro s' e X' σ'' H'' L''
      exact ⟨s', L'.leave L'' (hG _ _), h2 s' e⟩
    · intro s' e X' σ'' H'' L''
      exact ⟨s', L'.leave L'' (hG _ _), h2 s' e⟩
    · intro s' e X' σ'' H'' L''
      exact brk s' (h3 s' e) _ _ (L'.leave L'' (hG _ _))
    · intro q e v' H'' F
      exact ret q (h4 q e) v' H'' (F.leave L')
  · rintro σ' H' ⟨s, L', hm'⟩
    have hl : (rangeL lo n).length = n := by unfold rangeL; rw [List.length_map, List.length_range]
    have : (rangeL lo n).drop n = [] := List.drop_eq_nil_of_le (by omega)
    rw [this] at hm'
    exact done s (Option.some.inj hm').symm _ _ L'
/-- .. over the script -/
theorem x_forS {xs : List Int} {f : Int → τ → Option (Lp τ ρ)} {G : τ → List Sl} {ps : ρ → List (Addr × MO)} {rs : ρ → Rs} {s0 : τ} {o : Lp τ ρ} {v : V} {g : TG} {tb : TS} {nx bk ct : L2.St → Hp → Prop} {rt : VK}
    (L : Lo C X H σ (G s0)) (hG : ∀ s s', muts (G s) = muts (G s')) (r : SqX C.K X H xs v) (hm : loopL f xs s0 = some o)
    (body : ∀ x s, Body C X G ps rs (enc x) s (f x s) g tb)
    (done : ∀ s, o = .nxt s → ∀ σ' H', Lo C X H' σ' (G s) → nx σ' H') (brk : ∀ s, o = .brk s → ∀ σ' H', Lo C X H' σ' (G s) → nx σ' H')
    (ret : ∀ q, o = .ret q → ∀ v H', Fin C.K C.X0 C.H0 C.P0 (ps q) (rs q) v H' → rt v H') :
    KForL C.K g tb ⟨nx, rt, bk, ct⟩ σ v H := by
  obtain ⟨a, rfl, hs⟩ := r.sq
  refine ⟨a, rfl, ⟨_, hs⟩, for_list (K := C.K) (a := a) (xs := xs.map V.int) (fun i σ' H' => ∃ s, Lo C X H' σ' (G s) ∧ SqX C.K X H' xs (.ref a) ∧ loopL f (xs.drop i) s = some o)
    ⟨s0, L, r, hm⟩ (fun i σ' H' _ ⟨s, _, h, _⟩ => by obtain ⟨a', e, h⟩ := h.sq; cases e; exact h) ?_ ?_⟩
  · rintro i y σ' H' hy ⟨s, L', r', hm'⟩
    rw [List.getElem?_map] at hy
    cases hx : xs[i]? with
    | none => rw [hx] at hy; cases hy
    | some x =>
      rw [hx] at hy
      cases hy
      obtain ⟨o1, h1, h2, h3, h4⟩ := loop_drop hx hm'
      refine body x s H' σ' _ _ _ _ _ o1 h1 L'.enter (.int _) ?_ ?_ ?_ ?_
      · intro s' e X' σ'' H'' L''
        exact ⟨s', L'.leave L'' (hG _ _), r'.keep (L'.keep L''), h2 s' e⟩
      · intro s' e X' σ'' H'' L''
        exact ⟨s', L'.leave L'' (hG _ _), r'.keep (L'.keep L''), h2 s' e⟩
      · intro s' e X' σ'' H'' L''
        exact brk s' (h3 s' e) _ _ (L'.leave L'' (hG _ _))
      · intro q e v' H'' F
        exact ret q (h4 q e) v' H'' (F.leave L')
  · rintro σ' H' ⟨s, L', _, hm'⟩
    rw [List.length_map, List.drop_length] at hm'
    exact done s (Option.some.inj hm').symm _ _ L'
/-- a while: f runs the test, too, and tells brk where it is not so -/
theorem x_while {f : τ → Option (Lp τ ρ)} {G : τ → List Sl} {ps : ρ → List (Addr × MO)} {rs : ρ → Rs} {s0 : τ} {o : Lp τ ρ} {n : Nat} {c : TT} {tb : TS} {nx bk ct : L2.St → Hp → Prop} {rt : VK}
    (L : Lo C X H σ (G s0)) (hG : ∀ s s', muts (G s) = muts (G s')) (hm : loopW f n s0 = some o)
    (body : ∀ s, ∀ (H : Hp) (σ : L2.St) (nx : L2.St → Hp → Prop) (rt : VK) (bk ct : L2.St → Hp → Prop) (o1 : Lp τ ρ), f s = some o1 → Lo ⟨C.K, X, H, muts (G s), C.n⟩ X H σ (G s) →
      (∀ s', o1 = .nxt s' → ∀ X' σ' H', Lo ⟨C.K, X, H, muts (G s), C.n⟩ X' H' σ' (G s') → nx σ' H') →
      (∀ s', o1 = .nxt s' → ∀ X' σ' H', Lo ⟨C.K, X, H, muts (G s), C.n⟩ X' H' σ' (G s') → ct σ' H') →
      (∀ s', o1 = .brk s' → ∀ X' σ' H', Lo ⟨C.K, X, H, muts (G s), C.n⟩ X' H' σ' (G s') → bk σ' H') →
      (∀ r, o1 = .ret r → ∀ v H', Fin C.K X H (muts (G s)) (ps r) (rs r) v H' → rt v H') →
      ∀ Qc : Bool → Hp → Prop, (∀ b H1, KWh tb ⟨nx, rt, bk, ct⟩ σ b H1 → Qc b H1) → c σ H Qc)
    (done : ∀ s, o = .brk s → ∀ σ' H', Lo C X H' σ' (G s) → nx σ' H')
    (ret : ∀ q, o = .ret q → ∀ v H', Fin C.K C.X0 C.H0 C.P0 (ps q) (rs q) v H' → rt v H') : tWhile c tb ⟨nx, rt, bk, ct⟩ σ H := by
  refine ⟨fun m σ' H' => ∃ s, Lo C X H' σ' (G s) ∧ loopW f m s = some o, ⟨n, s0, L, hm⟩, ?_⟩
  rintro m σ' H' ⟨s, L', hm'⟩
  cases m with
  | zero => cases hm'
  | succ m =>
    obtain ⟨o1, h1, h2⟩ := ob hm'
    refine body s H' σ' (fun σ' H' => ∃ s, Lo C X H' σ' (G s) ∧ loopW f m s = some o) rt nx (fun σ' H' => ∃ s, Lo C X H' σ' (G s) ∧ loopW f m s = some o) o1 h1 L'.enter ?_ ?_ ?_ ?_ _ ?_
    · intro s' e X' σ'' H'' L''
      subst e
      exact ⟨s', L'.leave L'' (hG _ _), h2⟩
    · intro s' e X' σ'' H'' L''
      subst e
      exact ⟨s', L'.leave L'' (hG _ _), h2⟩
    · intro s' e X' σ'' H'' L''
      subst e
      exact done s' (Option.some.inj h2).symm _ _ (L'.leave L'' (hG _ _))
    · intro q e v' H'' F
      subst e
      exact ret q (Option.some.inj h2).symm v' H'' (F.leave L')
    · intro b H1 q
      cases b with
      | true => exact ⟨fun σ' H' => ∃ s, Lo C X H' σ' (G s) ∧ loopW f m s = some o, fun σ1 H1 ⟨s1, L1, h⟩ => ⟨m, Nat.lt_succ_self _, s1, L1, h⟩, q⟩
      | false => exact q


/-! ### loops, with what stands behind them -/
def BodyO (C : Cn) (X : Addr → Prop) (G : τ → List Sl) (d : PyData) (s : τ) (o : Option τ) (g : TG) (tb : TS) : Prop :=
  ∀ (H : Hp) (σ : L2.St) (u : V) (nx : L2.St → Hp → Prop) (rt : VK) (bk ct : L2.St → Hp → Prop) (s1 : τ), o = some s1 → Lo ⟨C.K, X, H, muts (G s), C.n⟩ X H σ (G s) → Rep C.K X H d u →
    (∀ X' σ' H', Lo ⟨C.K, X, H, muts (G s), C.n⟩ X' H' σ' (G s1) → nx σ' H') →
    (∀ X' σ' H', Lo ⟨C.K, X, H, muts (G s), C.n⟩ X' H' σ' (G s1) → ct σ' H') → g u σ H fun σ2 H2 => tb ⟨nx, rt, bk, ct⟩ σ2 H2
theorem foldO_loop {f : α → τ → Option τ} : ∀ {xs : List α} {s s' : τ}, foldO f xs s = some s' → loopL (ρ := Empty) (fun x s => (f x s).bind fun s => some (.nxt s)) xs s = some (.nxt s')
  | [], s, s', h => by cases h; rfl
  | x :: xs, s, s', h => by
    obtain ⟨t, h1, h2⟩ := ob h
    show ((f x s).bind fun s => some (Lp.nxt (ρ := Empty) s)).bind _ = _
    rw [h1]
    exact foldO_loop h2
theorem BodyO.body {G : τ → List Sl} {d : PyData} {s : τ} {o : Option τ} {g : TG} {tb : TS} (b : BodyO C X G d s o g tb) : Body (ρ := Empty) C X G (fun _ => []) (fun _ => .imm .none) d s (o.bind fun s => some (.nxt s)) g tb := by
  intro H σ u nx rt bk ct o1 hm L r hN hC hB hR
  obtain ⟨s1, h1, h2⟩ := ob hm
  cases h2
  exact b H σ u nx rt bk ct s1 h1 L r (hN s1 rfl) (hC s1 rfl)
theorem x_foL [Py α] {xs : List α} {f : α → τ → Option τ} {G : τ → List Sl} {s0 : τ} {v : V} {g : TG} {tb : TS} {nx bk ct : L2.St → Hp → Prop} {rt : VK} {k : τ → Option ρ} {res : ρ}
    (L : Lo C X H σ (G s0)) (hG : ∀ s s', muts (G s) = muts (G s')) (r : Rep C.K X H (enc xs) v) (hm : (foldO f xs s0).bind k = some res)
    (body : ∀ x s, BodyO C X G (enc x) s (f x s) g tb) (done : ∀ s σ' H', k s = some res → Lo C X H' σ' (G s) → nx σ' H') : KForL C.K g tb ⟨nx, rt, bk, ct⟩ σ v H := by
  obtain ⟨s1, h1, h2⟩ := ob hm
  exact x_for (ρ := Empty) (o := .nxt s1) (ps := fun _ => []) (rs := fun _ => .imm .none) L hG r (foldO_loop h1) (fun x s => (body x s).body) (fun s e σ' H' L' => by cases e; exact done _ _ _ h2 L') (fun s e => nomatch e) (fun q => nomatch q)
theorem x_flL [Py α] {xs : List α} {f : α → τ → Option (Lp τ ρ)} {G : τ → List Sl} {ps : ρ → List (Addr × MO)} {rs : ρ → Rs} {s0 : τ} {v : V} {g : TG} {tb : TS} {nx bk ct : L2.St → Hp → Prop} {rt : VK} {k : τ → Option β} {j : ρ → Option β} {res : β}
    (L : Lo C X H σ (G s0)) (hG : ∀ s s', muts (G s) = muts (G s')) (r : Rep C.K X H (enc xs) v) (hm : (loopL f xs s0).bind (fun o => o.out j k) = some res)
    (body : ∀ x s, Body C X G ps rs (enc x) s (f x s) g tb) (done : ∀ s σ' H', k s = some res → Lo C X H' σ' (G s) → nx σ' H')
    (ret : ∀ q v H', j q = some res → Fin C.K C.X0 C.H0 C.P0 (ps q) (rs q) v H' → rt v H') : KForL C.K g tb ⟨nx, rt, bk, ct⟩ σ v H := by
  obtain ⟨o, h1, h2⟩ := ob hm
  exact x_for L hG r h1 body (fun s e σ' H' L' => done _ _ _ (by rw [e] at h2; exact h2) L') (fun s e σ' H' L' => done _ _ _ (by rw [e] at h2; exact h2) L') (fun q e v H' F => ret _ _ _ (by rw [e] at h2; exact h2) F)
theorem x_foT [Py α] {xs : List α} {f : α → τ → Option τ} {G : τ → List Sl} {s0 : τ} {v : V} {g : TG} {tb : TS} {nx bk ct : L2.St → Hp → Prop} {rt : VK} {k : τ → Option ρ} {res : ρ}
    (L : Lo C X H σ (G s0)) (hG : ∀ s s', muts (G s) = muts (G s')) (r : Rep C.K X H (.tuple (xs.map enc)) v) (hm : (foldO f xs s0).bind k = some res)
    (body : ∀ x s, BodyO C X G (enc x) s (f x s) g tb) (done : ∀ s σ' H', k s = some res → Lo C X H' σ' (G s) → nx σ' H') : KForT C.K g tb ⟨nx, rt, bk, ct⟩ σ v H := by
  obtain ⟨s1, h1, h2⟩ := ob hm
  exact x_forT (ρ := Empty) (o := .nxt s1) (ps := fun _ => []) (rs := fun _ => .imm .none) L hG r (foldO_loop h1) (fun x s => (body x s).body) (fun s e σ' H' L' => by cases e; exact done _ _ _ h2 L') (fun s e => nomatch e) (fun q => nomatch q)
theorem x_flT [Py α] {xs : List α} {f : α → τ → Option (Lp τ ρ)} {G : τ → List Sl} {ps : ρ → List (Addr × MO)} {rs : ρ → Rs} {s0 : τ} {v : V} {g : TG} {tb : TS} {nx bk ct : L2.St → Hp → Prop} {rt : VK} {k : τ → Option β} {j : ρ → Option β} {res : β}
    (L : Lo C X H σ (G s0)) (hG : ∀ s s', muts (G s) = muts (G s')) (r : Rep C.K X H (.tuple (xs.map enc)) v) (hm : (loopL f xs s0).bind (fun o => o.out j k) = some res)
    (body : ∀ x s, Body C X G ps rs (enc x) s (f x s) g tb) (done : ∀ s σ' H', k s = some res → Lo C X H' σ' (G s) → nx σ' H')
    (ret : ∀ q v H', j q = some res → Fin C.K C.X0 C.H0 C.P0 (ps q) (rs q) v H' → rt v H') : KForT C.K g tb ⟨nx, rt, bk, ct⟩ σ v H := by
  obtain ⟨o, h1, h2⟩ := ob hm
  exact x_forT L hG r h1 body (fun s e σ' H' L' => done _ _ _ (by rw [e] at h2; exact h2) L') (fun s e σ' H' L' => done _ _ _ (by rw [e] at h2; exact h2) L') (fun q e v H' F => ret _ _ _ (by rw [e] at h2; exact h2) F)
theorem x_foS {xs : List Int} {f : Int → τ → Option τ} {G : τ → List Sl} {s0 : τ} {v : V} {g : TG} {tb : TS} {nx bk ct : L2.St → Hp → Prop} {rt : VK} {k : τ → Option ρ} {res : ρ}
    (L : Lo C X H σ (G s0)) (hG : ∀ s s', muts (G s) = muts (G s')) (r : SqX C.K X H xs v) (hm : (foldO f xs s0).bind k = some res)
    (body : ∀ x s, BodyO C X G (enc x) s (f x s) g tb) (done : ∀ s σ' H', k s = some res → Lo C X H' σ' (G s) → nx σ' H') : KForL C.K g tb ⟨nx, rt, bk, ct⟩ σ v H := by
  obtain ⟨s1, h1, h2⟩ := ob hm
  exact x_forS (ρ := Empty) (o := .nxt s1) (ps := fun _ => []) (rs := fun _ => .imm .none) L hG r (foldO_loop h1) (fun x s => (body x s).body) (fun s e σ' H' L' => by cases e; exact done _ _ _ h2 L') (fun s e => nomatch e) (fun q => nomatch q)
theorem x_flS {xs : List Int} {f : Int → τ → Option (Lp τ ρ)} {G : τ → List Sl} {ps : ρ → List (Addr × MO)} {rs : ρ → Rs} {s0 : τ} {v : V} {g : TG} {tb : TS} {nx bk ct : L2.St → Hp → Prop} {rt : VK} {k : τ → Option β} {j : ρ → Option β} {res : β}
    (L : Lo C X H σ (G s0)) (hG : ∀ s s', muts (G s) = muts (G s')) (r : SqX C.K X H xs v) (hm : (loopL f xs s0).bind (fun o => o.out j k) = some res)
    (body : ∀ x s, Body C X G ps rs (enc x) s (f x s) g tb) (done : ∀ s σ' H', k s = some res → Lo C X H' σ' (G s) → nx σ' H')
    (ret : ∀ q v H', j q = some res → Fin C.K C.X0 C.H0 C.P0 (ps q) (rs q) v H' → rt v H') : KForL C.K g tb ⟨nx, rt, bk, ct⟩ σ v H := by
  obtain ⟨o, h1, h2⟩ := ob hm
  exact x_forS L hG r h1 body (fun s e σ' H' L' => done _ _ _ (by rw [e] at h2; exact h2) L') (fun s e σ' H' L' => done _ _ _ (by rw [e] at h2; exact h2) L') (fun q e v H' F => ret _ _ _ (by rw [e] at h2; exact h2) F)
theorem x_foR {f : Int → τ → Option τ} {G : τ → List Sl} {s0 : τ} {lo : Int} {n : Nat} {g : TG} {tb : TS} {nx bk ct : L2.St → Hp → Prop} {rt : VK} {k : τ → Option ρ} {res : ρ}
    (L : Lo C X H σ (G s0)) (hG : ∀ s s', muts (G s) = muts (G s')) (hm : (foldO f (rangeL lo n) s0).bind k = some res)
    (body : ∀ x s, BodyO C X G (enc x) s (f x s) g tb) (done : ∀ s σ' H', k s = some res → Lo C X H' σ' (G s) → nx σ' H') : KForR lo n g tb ⟨nx, rt, bk, ct⟩ σ H := by
  obtain ⟨s1, h1, h2⟩ := ob hm
  exact x_forR (ρ := Empty) (o := .nxt s1) (ps := fun _ => []) (rs := fun _ => .imm .none) L hG (foldO_loop h1) (fun x s => (body x s).body) (fun s e σ' H' L' => by cases e; exact done _ _ _ h2 L') (fun s e => nomatch e) (fun q => nomatch q)
theorem x_flR {f : Int → τ → Option (Lp τ ρ)} {G : τ → List Sl} {ps : ρ → List (Addr × MO)} {rs : ρ → Rs} {s0 : τ} {lo : Int} {n : Nat} {g : TG} {tb : TS} {nx bk ct : L2.St → Hp → Prop} {rt : VK} {k : τ → Option β} {j : ρ → Option β} {res : β}
    (L : Lo C X H σ (G s0)) (hG : ∀ s s', muts (G s) = muts (G s')) (hm : (loopL f (rangeL lo n) s0).bind (fun o => o.out j k) = some res)
    (body : ∀ x s, Body C X G ps rs (enc x) s (f x s) g tb) (done : ∀ s σ' H', k s = some res → Lo C X H' σ' (G s) → nx σ' H')
    (ret : ∀ q v H', j q = some res → Fin C.K C.X0 C.H0 C.P0 (ps q) (rs q) v H' → rt v H') : KForR lo n g tb ⟨nx, rt, bk, ct⟩ σ H := by
  obtain ⟨o, h1, h2⟩ := ob hm
  exact x_forR L hG h1 body (fun s e σ' H' L' => done _ _ _ (by rw [e] at h2; exact h2) L') (fun s e σ' H' L' => done _ _ _ (by rw [e] at h2; exact h2) L') (fun q e v H' F => ret _ _ _ (by rw [e] at h2; exact h2) F)
def BodyW (C : Cn) (X : Addr → Prop) (G : τ → List Sl) (ps : ρ → List (Addr × MO)) (rs : ρ → Rs) (s : τ) (o : Option (Lp τ ρ)) (c : TT) (tb : TS) : Prop :=
  ∀ (H : Hp) (σ : L2.St) (nx : L2.St → Hp → Prop) (rt : VK) (bk ct : L2.St → Hp → Prop) (o1 : Lp τ ρ), o = some o1 → Lo ⟨C.K, X, H, muts (G s), C.n⟩ X H σ (G s) →
    (∀ s', o1 = .nxt s' → ∀ X' σ' H', Lo ⟨C.K, X, H, muts (G s), C.n⟩ X' H' σ' (G s') → nx σ' H') →
    (∀ s', o1 = .nxt s' → ∀ X' σ' H', Lo ⟨C.K, X, H, muts (G s), C.n⟩ X' H' σ' (G s') → ct σ' H') →
    (∀ s', o1 = .brk s' → ∀ X' σ' H', Lo ⟨C.K, X, H, muts (G s), C.n⟩ X' H' σ' (G s') → bk σ' H') →
    (∀ r, o1 = .ret r → ∀ v H', Fin C.K X H (muts (G s)) (ps r) (rs r) v H' → rt v H') →
    ∀ Qc : Bool → Hp → Prop, (∀ b H1, KWh tb ⟨nx, rt, bk, ct⟩ σ b H1 → Qc b H1) → c σ H Qc
theorem x_wh {f : τ → Option (Lp τ ρ)} {G : τ → List Sl} {ps : ρ → List (Addr × MO)} {rs : ρ → Rs} {s0 : τ} {n : Nat} {c : TT} {tb : TS} {nx bk ct : L2.St → Hp → Prop} {rt : VK} {k : τ → Option β} {j : ρ → Option β} {res : β}
    (L : Lo C X H σ (G s0)) (hG : ∀ s s', muts (G s) = muts (G s')) (hm : (loopW f n s0).bind (fun o => o.out j k) = some res)
    (body : ∀ s, BodyW C X G ps rs s (f s) c tb) (done : ∀ s σ' H', k s = some res → Lo C X H' σ' (G s) → nx σ' H')
    (ret : ∀ q v H', j q = some res → Fin C.K C.X0 C.H0 C.P0 (ps q) (rs q) v H' → rt v H') : tWhile c tb ⟨nx, rt, bk, ct⟩ σ H := by
  obtain ⟨o, h1, h2⟩ := ob hm
  refine x_while L hG h1 body (fun s e σ' H' L' => done _ _ _ (by rw [e] at h2; exact h2) L') (fun q e v H' F => ret _ _ _ (by rw [e] at h2; exact h2) F)
/-- the heads of loops -/
theorem x_tforL {te : TE} {g : TG} {tb : TS} {D : Ends} {K : PySem.W.Frag} (h : te σ H (KForL K g tb D σ)) : tFor (iList K te) g tb D σ H := h
theorem x_tforT {te : TE} {g : TG} {tb : TS} {D : Ends} {K : PySem.W.Frag} (h : te σ H (KForT K g tb D σ)) : tFor (iTup K te) g tb D σ H := h
theorem x_tforR1 {ta : TA} {g : TG} {tb : TS} {D : Ends} (h : ta σ H (KRng1 fun lo n H => KForR lo n g tb D σ H)) : tFor (iRng1 ta) g tb D σ H := h
theorem x_tforR2 {ta : TA} {g : TG} {tb : TS} {D : Ends} (h : ta σ H (KRng2 fun lo n H => KForR lo n g tb D σ H)) : tFor (iRng2 ta) g tb D σ H := h
def rngOk (j : Int) : Option Unit := if -(2 ^ 62) ≤ j ∧ j < 2 ^ 62 then some () else none
theorem rng_ok {j : Int} {k : Unit → Option ρ} {r : ρ} (hm : (rngOk j).bind k = some r) : (-(2 ^ 62) ≤ j ∧ j < 2 ^ 62) ∧ k () = some r := by
  obtain ⟨_, e, hk⟩ := ob hm
  unfold rngOk at e
  split at e
  · exact ⟨by assumption, hk⟩
  · cases e
theorem x_r1 {j : Int} {k : Unit → Option ρ} {r : ρ} {R : Int → Nat → Hp → Prop} (hm : (rngOk j).bind k = some r) (h : k () = some r → R 0 j.toNat H) : KRng1 R [.int j] H := by
  obtain ⟨⟨a, b⟩, hk⟩ := rng_ok hm
  exact ⟨j, rfl, a, b, h hk⟩
theorem x_r1c {j : Int} {n : Nat} {R : Int → Nat → Hp → Prop} (hj : (-(2 ^ 62) ≤ j ∧ j < 2 ^ 62) ∧ j.toNat = n) (h : R 0 n H) : KRng1 R [.int j] H := ⟨j, rfl, hj.1.1, hj.1.2, by rw [hj.2]; exact h⟩
theorem x_r2 {i j : Int} {k : Unit → Option ρ} {r : ρ} {R : Int → Nat → Hp → Prop} (hm : ((rngOk i).bind fun _ => rngOk j).bind k = some r) (h : k () = some r → R i (j - i).toNat H) : KRng2 R [.int i, .int j] H := by
  obtain ⟨u, e, hk⟩ := ob hm
  obtain ⟨⟨a, b⟩, e2⟩ := rng_ok e
  obtain ⟨⟨c, d⟩, _⟩ := rng_ok (k := fun _ => some ()) (r := ()) (by rw [e2]; rfl)
  exact ⟨i, j, rfl, ⟨a, b, c, d⟩, h hk⟩
/-! ### comprehensions -/
def compL {α β τ : Type} (f : α → τ → Option (Option β × τ)) : List α → τ → Option (List β × τ)
  | [], s => some ([], s)
  | x :: xs, s => (f x s).bind fun r => (compL f xs r.2).bind fun q => some ((match r.1 with | some y => y :: q.1 | none => q.1), q.2)
def mapO {α β : Type} (f : α → Option β) : List α → Option (List β)
  | [] => some []
  | x :: xs => (f x).bind fun y => (mapO f xs).bind fun ys => some (y :: ys)
def filO {α β : Type} (f : α → Option (Option β)) : List α → Option (List β)
  | [] => some []
  | x :: xs => (f x).bind fun y => (filO f xs).bind fun ys => some (match y with | some z => z :: ys | none => ys)
def mapS {α β τ : Type} (f : α → τ → Option (β × τ)) : List α → τ → Option (List β × τ)
  | [], s => some ([], s)
  | x :: xs, s => (f x s).bind fun r => (mapS f xs r.2).bind fun q => some (r.1 :: q.1, q.2)
theorem mapO_comp {f : α → Option β} : ∀ {xs : List α} {ys : List β}, mapO f xs = some ys → compL (τ := Unit) (fun x s => (f x).bind fun y => some (some y, s)) xs () = some (ys, ())
  | [], ys, h => by cases h; rfl
  | x :: xs, ys, h => by
    obtain ⟨y, h1, h⟩ := ob h
    obtain ⟨zs, h2, h⟩ := ob h
    cases h
    show ((f x).bind fun y => some (some y, ())).bind _ = _
    rw [h1]
    show (compL (τ := Unit) (fun x s => (f x).bind fun y => some (some y, s)) xs ()).bind _ = _
    rw [mapO_comp h2]
    rfl
theorem filO_comp {f : α → Option (Option β)} : ∀ {xs : List α} {ys : List β}, filO f xs = some ys → compL (τ := Unit) (fun x s => (f x).bind fun y => some (y, s)) xs () = some (ys, ())
  | [], ys, h => by cases h; rfl
  | x :: xs, ys, h => by
    obtain ⟨y, h1, h⟩ := ob h
    obtain ⟨zs, h2, h⟩ := ob h
    cases h
    show ((f x).bind fun y => some (y, ())).bind _ = _
    rw [h1]
    show (compL (τ := Unit) (fun x s => (f x).bind fun y => some (y, s)) xs ()).bind _ = _
    rw [filO_comp h2]
    cases y <;> rfl
theorem mapS_comp {f : α → τ → Option (β × τ)} : ∀ {xs : List α} {s : τ} {q : List β × τ}, mapS f xs s = some q → compL (fun x s => (f x s).bind fun y => some (some y.1, y.2)) xs s = some q
  | [], s, q, h => by cases h; rfl
  | x :: xs, s, q, h => by
    obtain ⟨y, h1, h⟩ := ob h
    obtain ⟨zs, h2, h⟩ := ob h
    cases h
    show ((f x s).bind fun y => some (some y.1, y.2)).bind _ = _
    rw [h1]
    show (compL (fun x s => (f x s).bind fun y => some (some y.1, y.2)) xs y.2).bind _ = _
    rw [mapS_comp h2]
    rfl
/-- what is known behind a block of its own names -/
def Bk : List Sl → List Sl → List Sl → Prop
  | [], _, [] => True
  | s :: Γ, s2 :: Γ2, s' :: Γ' => ((s' = s ∧ s.ad = none) ∨ (∃ p o o', s = .mu p o ∧ s2 = .mu p o' ∧ s' = .mu p o') ∨ (∃ p o o', s = .tmp p o ∧ s2 = .tmp p o' ∧ s' = .tmp p o')) ∧ Bk Γ Γ2 Γ'
  | _, _, _ => False
theorem Bk.e {Γ2 : List Sl} : Bk [] Γ2 [] := trivial
theorem Bk.i {s s2 : Sl} {Γ Γ2 Γ' : List Sl} (e : s.ad = none) (h : Bk Γ Γ2 Γ') : Bk (s :: Γ) (s2 :: Γ2) (s :: Γ') := ⟨.inl ⟨rfl, e⟩, h⟩
theorem Bk.m {p : Addr} {o o' : MO} {Γ Γ2 Γ' : List Sl} (h : Bk Γ Γ2 Γ') : Bk (.mu p o :: Γ) (.mu p o' :: Γ2) (.mu p o' :: Γ') := ⟨.inr (.inl ⟨p, o, o', rfl, rfl, rfl⟩), h⟩
theorem Bk.t {p : Addr} {o o' : MO} {Γ Γ2 Γ' : List Sl} (h : Bk Γ Γ2 Γ') : Bk (.tmp p o :: Γ) (.tmp p o' :: Γ2) (.tmp p o' :: Γ') := ⟨.inr (.inr ⟨p, o, o', rfl, rfl, rfl⟩), h⟩
theorem Bk.get : ∀ {Γ Γ2 Γ' : List Sl}, Bk Γ Γ2 Γ' → ∀ {i : Nat} {s' : Sl}, Γ'[i]? = some s' → (Γ[i]? = some s' ∧ s'.ad = none) ∨ (∃ p o o', Γ[i]? = some (.mu p o) ∧ Γ2[i]? = some (.mu p o') ∧ s' = .mu p o') ∨ (∃ p o o', Γ[i]? = some (.tmp p o) ∧ Γ2[i]? = some (.tmp p o') ∧ s' = .tmp p o')
  | [], _, [], _, _, _, e => by simp at e
  | [], _, _ :: _, h, _, _, _ => h.elim
  | s :: Γ, [], Γ', h, _, _, _ => by cases Γ' <;> exact h.elim
  | s :: Γ, s2 :: Γ2, [], h, _, _, _ => h.elim
  | s :: Γ, s2 :: Γ2, s0 :: Γ', ⟨h, t⟩, 0, s', e => by
    simp at e; subst e
    rcases h with ⟨h, h2⟩ | ⟨p, o, o', h1, h2, h3⟩ | ⟨p, o, o', h1, h2, h3⟩
    · subst h; exact .inl ⟨rfl, h2⟩
    · subst h1 h2 h3; exact .inr (.inl ⟨p, o, o', rfl, rfl, rfl⟩)
    · subst h1 h2 h3; exact .inr (.inr ⟨p, o, o', rfl, rfl, rfl⟩)
  | s :: Γ, s2 :: Γ2, s0 :: Γ', ⟨h, t⟩, i + 1, s', e => by
    have := Bk.get t (i := i) (s' := s') (by simpa using e)
    simpa using this
theorem Bk.muts : ∀ {Γ Γ2 Γ' : List Sl}, Bk Γ Γ2 Γ' → muts Γ' = muts Γ
  | [], _, [], _ => rfl
  | [], _, _ :: _, h => h.elim
  | s :: Γ, [], Γ', h => by cases Γ' <;> exact h.elim
  | s :: Γ, s2 :: Γ2, [], h => h.elim
  | s :: Γ, s2 :: Γ2, s0 :: Γ', ⟨h, t⟩ => by
    have ih := Bk.muts t
    unfold Sc.muts at ih ⊢
    rw [List.filterMap_cons, List.filterMap_cons, ih]
    have : s0.ad = s.ad := by
      rcases h with ⟨h, h2⟩ | ⟨p, o, o', h1, h2, h3⟩ | ⟨p, o, o', h1, h2, h3⟩
      · rw [h]
      · rw [h1, h3]; rfl
      · rw [h1, h3]; rfl
    rw [this]
theorem Lo.back {X' : Addr → Prop} {H' : Hp} {σ2 : L2.St} {Γ2 : List Sl} (L : Lo C X H σ Γ) (M : Lo (C.at_ X H Γ) X' H' σ2 Γ2) (b : Bk Γ Γ2 Γ') : Lo C X H' σ Γ' := by
  have sub : ∀ a, X a → X' a := M.m0
  have hm := b.muts
  refine ⟨L.len, fun i s hi => ?_, by rw [hm]; exact L.nd, fun p hp => L.mx p (hm ▸ hp), L.m0, fun a h => M.xd a (sub a h), fun a o e n => M.base a o (L.base a o e n) (L.nown e n), fun a h => M.dom a (L.dom a h), fun p hp => L.own p (hm ▸ hp), L.tf⟩
  rcases b.get hi with ⟨h1, h2⟩ | ⟨p, o, o', h1, h2, h3⟩ | ⟨p, o, o', h1, h2, h3⟩
  · exact (L.at_ i s h1).keep (L.keep M) fun p e => by rw [h2] at e; cases e
  · subst h3
    exact ⟨(L.at_ i _ h1).1, (M.at_ i _ h2).2.anti sub⟩
  · subst h3
    exact MRep.anti sub (M.at_ i _ h2)
theorem Lo.xanti {Y : Addr → Prop} (L : Lo C X H σ Γ) (h : ∀ a, Y a → X a) (hm : ∀ p ∈ muts Γ, Y p) (h0 : ∀ a, C.X0 a → Y a) : Lo C Y H σ Γ :=
  ⟨L.len, fun i s hi => (L.at_ i s hi).anti h, L.nd, hm, h0, fun a z => L.xd a (h a z), L.base, L.dom, L.own, L.tf⟩
/-- the object at p, of no slot, is written -/
theorem Lo.wroteX {p : Addr} {o o' : HO} (L : Lo C X H σ Γ) (hX : X p) (hn : p ∉ muts Γ) (h : H p = some o) (h0 : C.H0 p = none) (nt : ∀ vs, o ≠ .tup vs) (nf : ∀ u w, o ≠ .frz u w) :
    Lo C X (upd H p o') σ Γ ∧ Keep X H (upd H p o') := by
  have kp : Keep X H (upd H p o') := ⟨fun a u e n => by rw [upd_ne (fun z => n (by rw [z]; exact hX))]; exact e, fun a vs e => by rw [upd_ne (fun z => by rw [z, h] at e; exact nt vs (Option.some.inj e))]; exact e, fun a u w e => by rw [upd_ne (fun z => by rw [z, h] at e; exact nf u w (Option.some.inj e))]; exact e⟩
  have hd : ∀ a, H a ≠ none → upd H p o' a ≠ none := fun a e => by
    by_cases z : a = p
    · rw [z, upd_same]; exact fun y => nomatch y
    · rw [upd_ne z]; exact e
  refine ⟨⟨L.len, fun i s hi => (L.at_ i s hi).keep kp fun q e => upd_ne fun z => hn ?_, L.nd, L.mx, L.m0, fun a z => hd a (L.xd a z), fun a u e n => ?_, fun a e => hd a (L.dom a e), L.own, L.tf⟩, kp⟩
  · subst z; exact mem_muts.mpr ⟨i, s, hi, e⟩
  · rw [upd_ne fun z => by rw [z, h0] at e; cases e]
    exact L.base a u e n
theorem comp_drop {f : α → τ → Option (Option β × τ)} {xs : List α} {i : Nat} {x : α} {s : τ} {q : List β × τ} (hx : xs[i]? = some x) (h : compL f (xs.drop i) s = some q) :
    ∃ r q', f x s = some r ∧ compL f (xs.drop (i + 1)) r.2 = some q' ∧ q = ((match r.1 with | some y => y :: q'.1 | none => q'.1), q'.2) := by
  obtain ⟨hl, hx⟩ := List.getElem?_eq_some_iff.mp hx
  rw [List.drop_eq_getElem_cons hl, hx] at h
  obtain ⟨r, h1, h2⟩ := ob h
  obtain ⟨q', h3, h4⟩ := ob h2
  exact ⟨r, q', h1, h3, (Option.some.inj h4).symm⟩
/-- the rest of a comprehension, by name -/
def KLcL (K : PySem.W.Frag) (g : TG) (tt : TT) (te : TE) (ws : List Nat) (σ : L2.St) (Q : VK) (v : V) (H : Hp) : Prop := ∃ a, v = V.ref a ∧ (∃ xs, SqL K H a xs) ∧ ∀ D, H D = none → ∃ W : Nat → Nat → Hp → Prop, (∃ m, W 0 m (upd H D (.lst []))) ∧ ∀ i m H, W i m H →
      ((Itl K a).stop i H ∧ Q (.ref D) H) ∨ ((Itl K a).go i H ∧ ∃ Nx : Hp → Prop, (∀ H', Nx H' → ∃ m', m' < m ∧ W (i + 1) m' H') ∧ ∀ x H', (Itl K a).yld i H x H' → g x (wipe σ ws) H' fun σ2 H2 => wipe σ2 ws = wipe σ ws ∧ tt σ2 H2 fun b H3 =>
        if b = true then te σ2 H3 fun y H4 => ∃ acc, H4 D = some (.lst acc) ∧ acc.length < sizeLine ∧ Nx (upd H4 D (.lst (acc ++ [y]))) else Nx H3)
def KLcT (K : PySem.W.Frag) (g : TG) (tt : TT) (te : TE) (ws : List Nat) (σ : L2.St) (Q : VK) (v : V) (H : Hp) : Prop := ∃ a, v = V.ref a ∧ (∃ xs, SqT K H a xs) ∧ ∀ D, H D = none → ∃ W : Nat → Nat → Hp → Prop, (∃ m, W 0 m (upd H D (.lst []))) ∧ ∀ i m H, W i m H →
      ((Itt K a).stop i H ∧ Q (.ref D) H) ∨ ((Itt K a).go i H ∧ ∃ Nx : Hp → Prop, (∀ H', Nx H' → ∃ m', m' < m ∧ W (i + 1) m' H') ∧ ∀ x H', (Itt K a).yld i H x H' → g x (wipe σ ws) H' fun σ2 H2 => wipe σ2 ws = wipe σ ws ∧ tt σ2 H2 fun b H3 =>
        if b = true then te σ2 H3 fun y H4 => ∃ acc, H4 D = some (.lst acc) ∧ acc.length < sizeLine ∧ Nx (upd H4 D (.lst (acc ++ [y]))) else Nx H3)
def KLcR (lo : Int) (n : Nat) (g : TG) (tt : TT) (te : TE) (ws : List Nat) (σ : L2.St) (Q : VK) (H : Hp) : Prop := ∀ D, H D = none → ∃ W : Nat → Nat → Hp → Prop, (∃ m, W 0 m (upd H D (.lst []))) ∧ ∀ i m H, W i m H →
      ((Itr lo n).stop i H ∧ Q (.ref D) H) ∨ ((Itr lo n).go i H ∧ ∃ Nx : Hp → Prop, (∀ H', Nx H' → ∃ m', m' < m ∧ W (i + 1) m' H') ∧ ∀ x H', (Itr lo n).yld i H x H' → g x (wipe σ ws) H' fun σ2 H2 => wipe σ2 ws = wipe σ ws ∧ tt σ2 H2 fun b H3 =>
        if b = true then te σ2 H3 fun y H4 => ∃ acc, H4 D = some (.lst acc) ∧ acc.length < sizeLine ∧ Nx (upd H4 D (.lst (acc ++ [y]))) else Nx H3)
theorem x_lcl {K : PySem.W.Frag} {tl te : TE} {g : TG} {tt : TT} {ws : List Nat} (h : tl σ H (KLcL K g tt te ws σ Q)) : tLc (iList K tl) g tt te ws σ H Q := h
theorem x_lct {K : PySem.W.Frag} {tl te : TE} {g : TG} {tt : TT} {ws : List Nat} (h : tl σ H (KLcT K g tt te ws σ Q)) : tLc (iTup K tl) g tt te ws σ H Q := h
theorem x_lcr1 {ta : TA} {te : TE} {g : TG} {tt : TT} {ws : List Nat} (h : ta σ H (KRng1 fun lo n H => KLcR lo n g tt te ws σ Q H)) : tLc (iRng1 ta) g tt te ws σ H Q := h
theorem x_lcr2 {ta : TA} {te : TE} {g : TG} {tt : TT} {ws : List Nat} (h : ta σ H (KRng2 fun lo n H => KLcR lo n g tt te ws σ Q H)) : tLc (iRng2 ta) g tt te ws σ H Q := h
/-- what a comprehension's block shows of one turn -/
def BodyC [Py β] (C : Cn) (X : Addr → Prop) (G : τ → List Sl) (d : PyData) (s : τ) (o : Option (Option β × τ)) (g : TG) (tt : TT) (te : TE) (vs : List Nat) : Prop :=
  ∀ (X : Addr → Prop) (H : Hp) (σ : L2.St) (u : V) (r : Option β × τ) (Qn : Hp → Prop) (Qy : VK), o = some r → Lo ⟨C.K, X, H, muts (G s), C.n⟩ X H σ (G s) → Rep C.K X H d u →
    (r.1 = none → ∀ H', Lo ⟨C.K, X, H, muts (G s), C.n⟩ X H' σ (G r.2) → Qn H') →
    (∀ y, r.1 = some y → ∀ v H', Lo ⟨C.K, X, H, muts (G s), C.n⟩ X H' σ (G r.2) → Rep C.K X H' (enc y) v → Qy v H') →
    g u (wipe σ vs) H fun σ2 H2 => wipe σ2 vs = wipe σ vs ∧ tt σ2 H2 fun b H3 => if b = true then te σ2 H3 Qy else Qn H3
theorem x_lcL0 [Py α] [Py β] {xs : List α} {f : α → τ → Option (Option β × τ)} {G : τ → List Sl} {s0 : τ} {q : List β × τ} {v : V} {g : TG} {tt : TT} {te : TE} {ws : List Nat}
    (L : Lo C X H σ (G s0)) (hG : ∀ s s', muts (G s) = muts (G s')) (r : Rep C.K X H (enc xs) v) (hm : compL f xs s0 = some q) (hl : xs.length ≤ 16777216)
    (body : ∀ x s, BodyC C X G (enc x) s (f x s) g tt te ws)
    (done : ∀ D H', H D = none → C.H0 D = none → ¬ C.X0 D → Lo C (fun a => X a ∨ a = D) H' σ (G q.2) → Keep X H H' → MRep C.K (fun a => X a ∨ a = D) H' D (ml q.1) → Q (.ref D) H') :
    KLcL C.K g tt te ws σ Q v H := by
  obtain ⟨a, us, rfl, hna, hrd, hrs⟩ := rep_lst (ds := xs.map enc) r
  refine ⟨a, rfl, ⟨us, .inl hrd⟩, fun D hD => ?_⟩
  have h0 : C.H0 D = none := by
    cases e : C.H0 D with
    | none => rfl
    | some o => exact (L.dom D (by rw [e]; exact fun z => nomatch z) hD).elim
  have hDm : ∀ s, D ∉ muts (G s) := fun s h => L.xd D (L.mx D (hG s s0 ▸ h)) hD
  have sm : Same H (upd H D (.lst [])) := same_upd hD
  have lay := L.lay (p := D) (o := .lst []) hD sm ⟨[], upd_same, .nil⟩
  have L1 : Lo C (fun a => X a ∨ a = D) (upd H D (.lst [])) σ (G s0) := by
    refine ⟨L.len, fun i s hi => ?_, L.nd, fun p hp => .inl (L.mx p hp), fun a h => .inl (L.m0 a h), lay.1.xd, lay.1.base, lay.1.dom, L.own, L.tf⟩
    refine lay.1.at_ i s ?_
    rw [List.getElem?_append_left (List.getElem?_eq_some_iff.mp hi).1]
    exact hi
  have hna' : ¬ (X a ∨ a = D) := fun h => h.elim hna fun e => by
    subst e
    exact rd_nn hrd hD
  refine lc_list (K := C.K) (a := a) (xs := us) (fun i H' => ∃ s ys acc q', Lo C (fun a => X a ∨ a = D) H' σ (G s) ∧ Reps C.K (fun a => X a ∨ a = D) H' (xs.map enc) us ∧ Rd H' a (.lst us) ∧ H' D = some (.lst acc) ∧ Reps C.K (fun a => X a ∨ a = D) H' (ys.map enc) acc ∧
      compL f (xs.drop i) s = some q' ∧ q = (ys ++ q'.1, q'.2) ∧ ys.length ≤ i ∧ Keep X H H' ∧ (∀ a, H a ≠ none → H' a ≠ none))
    ⟨s0, [], [], q, L1, (hrs.more hD).keep (.same sm), Keep.rd (.same sm) hna hrd, upd_same, .nil, hm, rfl, Nat.le_refl _, .same sm, fun a h => ?_⟩ (fun i H' _ ⟨s, ys, acc, q', _, _, h, _⟩ => .inl h) ?_ ?_
  · by_cases z : a = D
    · rw [z, upd_same]; exact fun y => nomatch y
    · rw [upd_ne z]; exact h
  · rintro i y H' hy ⟨s, ys, acc, q', L', hr', hd', hacc, hys, hq', eq, hyl, hk, hdm⟩
    obtain ⟨d, hd, rd⟩ := hr'.get' hy
    rw [List.getElem?_map] at hd
    cases hx : xs[i]? with
    | none => rw [hx] at hd; cases hd
    | some x =>
      rw [hx] at hd
      cases hd
      have hil : i < xs.length := (List.getElem?_eq_some_iff.mp hx).1
      obtain ⟨r1, q1, h1, h2, h3⟩ := comp_drop hx hq'
      refine body x s _ H' σ y r1 _ _ h1 L'.enter rd ?_ ?_
      · intro e H'' M
        have k := L'.keep M
        have kd : H'' D = some (.lst acc) := M.base D _ hacc (hDm s)
        refine ⟨r1.2, ys, acc, q1, L'.leave M (hG _ _), hr'.keep k, k.rd hna' hd', kd, hys.keep k, h2, ?_, Nat.le_succ_of_le hyl, ?_, fun a h => M.dom a (hdm a h)⟩
        · rw [eq, h3, e]
        · refine ⟨fun b o hb n => ?_, fun b vs hb => k.2.1 b vs (hk.2.1 b vs hb), fun b o u hb => k.2.2 b o u (hk.2.2 b o u hb)⟩
          have hbD : b ≠ D := fun z => by rw [z, hD] at hb; cases hb
          exact k.1 b o (hk.1 b o hb n) fun z => z.elim n hbD
      · intro yv e v H'' M rv
        have k := L'.keep M
        have kd : H'' D = some (.lst acc) := M.base D _ hacc (hDm s)
        have L2 := L'.leave M (hG _ _)
        obtain ⟨L3, k3⟩ := L2.wroteX (p := D) (o' := .lst (acc ++ [v])) (.inr rfl) (hDm _) kd h0 (fun _ z => nomatch z) (fun _ _ z => nomatch z)
        have k4 := k.trans k3
        have hal : acc.length = ys.length := by rw [hys.length, List.length_map]
        refine ⟨acc, kd, by rw [line_eq]; omega, r1.2, ys ++ [yv], acc ++ [v], q1, L3, hr'.keep k4, k4.rd hna' hd', upd_same, ?_, h2, ?_, ?_, ?_, ?_⟩
        · rw [List.map_append]
          exact (hys.keep k4).append (.cons (rv.keep k3) .nil)
        · rw [eq, h3, e]
          show (ys ++ yv :: q1.1, q1.2) = (ys ++ [yv] ++ q1.1, q1.2)
          rw [List.append_assoc]; rfl
        · rw [List.length_append]; exact Nat.succ_le_succ hyl
        · refine ⟨fun b o hb n => ?_, fun b vs hb => k4.2.1 b vs (hk.2.1 b vs hb), fun b o u hb => k4.2.2 b o u (hk.2.2 b o u hb)⟩
          have hbD : b ≠ D := fun z => by rw [z, hD] at hb; cases hb
          exact k4.1 b o (hk.1 b o hb n) fun z => z.elim n hbD
        · intro a h
          by_cases z : a = D
          · rw [z, upd_same]; exact fun y => nomatch y
          · rw [upd_ne z]; exact M.dom a (hdm a h)
  · rintro H' ⟨s, ys, acc, q', L', _, _, hacc, hys, hq', eq, _, hk, hdm⟩
    rw [hrs.length, List.length_map, List.drop_length] at hq'
    cases hq'
    rw [List.append_nil] at eq
    subst eq
    exact done D H' hD h0 (fun z => L.xd D (L.m0 D z) hD) L' hk ⟨acc, hacc, hys⟩
theorem x_lcT0 [Py α] [Py β] {xs : List α} {f : α → τ → Option (Option β × τ)} {G : τ → List Sl} {s0 : τ} {q : List β × τ} {v : V} {g : TG} {tt : TT} {te : TE} {ws : List Nat}
    (L : Lo C X H σ (G s0)) (hG : ∀ s s', muts (G s) = muts (G s')) (r : Rep C.K X H (.tuple (xs.map enc)) v) (hm : compL f xs s0 = some q) (hl : xs.length ≤ 16777216)
    (body : ∀ x s, BodyC C X G (enc x) s (f x s) g tt te ws)
    (done : ∀ D H', H D = none → C.H0 D = none → ¬ C.X0 D → Lo C (fun a => X a ∨ a = D) H' σ (G q.2) → Keep X H H' → MRep C.K (fun a => X a ∨ a = D) H' D (ml q.1) → Q (.ref D) H') :
    KLcT C.K g tt te ws σ Q v H := by
  obtain ⟨a, us, rfl, hrd, hrs⟩ := rep_tup r
  refine ⟨a, rfl, ⟨us, hrd⟩, fun D hD => ?_⟩
  have h0 : C.H0 D = none := by
    cases e : C.H0 D with
    | none => rfl
    | some o => exact (L.dom D (by rw [e]; exact fun z => nomatch z) hD).elim
  have hDm : ∀ s, D ∉ muts (G s) := fun s h => L.xd D (L.mx D (hG s s0 ▸ h)) hD
  have sm : Same H (upd H D (.lst [])) := same_upd hD
  have lay := L.lay (p := D) (o := .lst []) hD sm ⟨[], upd_same, .nil⟩
  have L1 : Lo C (fun a => X a ∨ a = D) (upd H D (.lst [])) σ (G s0) := by
    refine ⟨L.len, fun i s hi => ?_, L.nd, fun p hp => .inl (L.mx p hp), fun a h => .inl (L.m0 a h), lay.1.xd, lay.1.base, lay.1.dom, L.own, L.tf⟩
    refine lay.1.at_ i s ?_
    rw [List.getElem?_append_left (List.getElem?_eq_some_iff.mp hi).1]
    exact hi
  refine lc_tup (K := C.K) (a := a) (xs := us) (fun i H' => ∃ s ys acc q', Lo C (fun a => X a ∨ a = D) H' σ (G s) ∧ Reps C.K (fun a => X a ∨ a = D) H' (xs.map enc) us ∧ SqT C.K H' a us ∧ H' D = some (.lst acc) ∧ Reps C.K (fun a => X a ∨ a = D) H' (ys.map enc) acc ∧
      compL f (xs.drop i) s = some q' ∧ q = (ys ++ q'.1, q'.2) ∧ ys.length ≤ i ∧ Keep X H H' ∧ (∀ a, H a ≠ none → H' a ≠ none))
    ⟨s0, [], [], q, L1, (hrs.more hD).keep (.same sm), Keep.sqT (X := fun a => X a ∨ a = D) (.same sm) hrd, upd_same, .nil, hm, rfl, Nat.le_refl _, .same sm, fun a h => ?_⟩ (fun i H' _ ⟨s, ys, acc, q', _, _, h, _⟩ => h) ?_ ?_
  · by_cases z : a = D
    · rw [z, upd_same]; exact fun y => nomatch y
    · rw [upd_ne z]; exact h
  · rintro i y H' hy ⟨s, ys, acc, q', L', hr', hd', hacc, hys, hq', eq, hyl, hk, hdm⟩
    obtain ⟨d, hd, rd⟩ := hr'.get' hy
    rw [List.getElem?_map] at hd
    cases hx : xs[i]? with
    | none => rw [hx] at hd; cases hd
    | some x =>
      rw [hx] at hd
      cases hd
      have hil : i < xs.length := (List.getElem?_eq_some_iff.mp hx).1
      obtain ⟨r1, q1, h1, h2, h3⟩ := comp_drop hx hq'
      refine body x s _ H' σ y r1 _ _ h1 L'.enter rd ?_ ?_
      · intro e H'' M
        have k := L'.keep M
        have kd : H'' D = some (.lst acc) := M.base D _ hacc (hDm s)
        refine ⟨r1.2, ys, acc, q1, L'.leave M (hG _ _), hr'.keep k, k.sqT hd', kd, hys.keep k, h2, ?_, Nat.le_succ_of_le hyl, ?_, fun a h => M.dom a (hdm a h)⟩
        · rw [eq, h3, e]
        · refine ⟨fun b o hb n => ?_, fun b vs hb => k.2.1 b vs (hk.2.1 b vs hb), fun b o u hb => k.2.2 b o u (hk.2.2 b o u hb)⟩
          have hbD : b ≠ D := fun z => by rw [z, hD] at hb; cases hb
          exact k.1 b o (hk.1 b o hb n) fun z => z.elim n hbD
      · intro yv e v H'' M rv
        have k := L'.keep M
        have kd : H'' D = some (.lst acc) := M.base D _ hacc (hDm s)
        have L2 := L'.leave M (hG _ _)
        obtain ⟨L3, k3⟩ := L2.wroteX (p := D) (o' := .lst (acc ++ [v])) (.inr rfl) (hDm _) kd h0 (fun _ z => nomatch z) (fun _ _ z => nomatch z)
        have k4 := k.trans k3
        have hal : acc.length = ys.length := by rw [hys.length, List.length_map]
        refine ⟨acc, kd, by rw [line_eq]; omega, r1.2, ys ++ [yv], acc ++ [v], q1, L3, hr'.keep k4, k4.sqT hd', upd_same, ?_, h2, ?_, ?_, ?_, ?_⟩
        · rw [List.map_append]
          exact (hys.keep k4).append (.cons (rv.keep k3) .nil)
        · rw [eq, h3, e]
          show (ys ++ yv :: q1.1, q1.2) = (ys ++ [yv] ++ q1.1, q1.2)
          rw [List.append_assoc]; rfl
        · rw [List.length_append]; exact Nat.succ_le_succ hyl
        · refine ⟨fun b o hb n => ?_, fun b vs hb => k4.2.1 b vs (hk.2.1 b vs hb), fun b o u hb => k4.2.2 b o u (hk.2.2 b o u hb)⟩
          have hbD : b ≠ D := fun z => by rw [z, hD] at hb; cases hb
          exact k4.1 b o (hk.1 b o hb n) fun z => z.elim n hbD
        · intro a h
          by_cases z : a = D
          · rw [z, upd_same]; exact fun y => nomatch y
          · rw [upd_ne z]; exact M.dom a (hdm a h)
  · rintro H' ⟨s, ys, acc, q', L', _, _, hacc, hys, hq', eq, _, hk, hdm⟩
    rw [hrs.length, List.length_map, List.drop_length] at hq'
    cases hq'
    rw [List.append_nil] at eq
    subst eq
    exact done D H' hD h0 (fun z => L.xd D (L.m0 D z) hD) L' hk ⟨acc, hacc, hys⟩
theorem x_lcR0 [Py β] {lo : Int} {n : Nat} {f : Int → τ → Option (Option β × τ)} {G : τ → List Sl} {s0 : τ} {q : List β × τ} {g : TG} {tt : TT} {te : TE} {ws : List Nat}
    (L : Lo C X H σ (G s0)) (hG : ∀ s s', muts (G s) = muts (G s')) (hm : compL f (rangeL lo n) s0 = some q) (hl : n ≤ 16777216)
    (body : ∀ x s, BodyC C X G (enc x) s (f x s) g tt te ws)
    (done : ∀ D H', H D = none → C.H0 D = none → ¬ C.X0 D → Lo C (fun a => X a ∨ a = D) H' σ (G q.2) → Keep X H H' → MRep C.K (fun a => X a ∨ a = D) H' D (ml q.1) → Q (.ref D) H') :
    KLcR lo n g tt te ws σ Q H := by
  intro D hD
  have h0 : C.H0 D = none := by
    cases e : C.H0 D with
    | none => rfl
    | some o => exact (L.dom D (by rw [e]; exact fun z => nomatch z) hD).elim
  have hDm : ∀ s, D ∉ muts (G s) := fun s h => L.xd D (L.mx D (hG s s0 ▸ h)) hD
  have sm : Same H (upd H D (.lst [])) := same_upd hD
  have lay := L.lay (p := D) (o := .lst []) hD sm ⟨[], upd_same, .nil⟩
  have L1 : Lo C (fun a => X a ∨ a = D) (upd H D (.lst [])) σ (G s0) := by
    refine ⟨L.len, fun i s hi => ?_, L.nd, fun p hp => .inl (L.mx p hp), fun a h => .inl (L.m0 a h), lay.1.xd, lay.1.base, lay.1.dom, L.own, L.tf⟩
    refine lay.1.at_ i s ?_
    rw [List.getElem?_append_left (List.getElem?_eq_some_iff.mp hi).1]
    exact hi
  refine lc_range (lo := lo) (n := n) (fun i H' => ∃ s ys acc q', Lo C (fun a => X a ∨ a = D) H' σ (G s) ∧ H' D = some (.lst acc) ∧ Reps C.K (fun a => X a ∨ a = D) H' (ys.map enc) acc ∧
      compL f ((rangeL lo n).drop i) s = some q' ∧ q = (ys ++ q'.1, q'.2) ∧ ys.length ≤ i ∧ Keep X H H')
    ⟨s0, [], [], q, L1, upd_same, .nil, hm, rfl, Nat.le_refl _, .same sm⟩ ?_ ?_
  · rintro i H' hi ⟨s, ys, acc, q', L', hacc, hys, hq', eq, hyl, hk⟩
    obtain ⟨r1, q1, h1, h2, h3⟩ := comp_drop (rangeL_get hi) hq'
    refine body (lo + (i : Int)) s _ H' σ _ r1 _ _ h1 L'.enter (.int _) ?_ ?_
    · intro e H'' M
      have k := L'.keep M
      have kd : H'' D = some (.lst acc) := M.base D _ hacc (hDm s)
      refine ⟨r1.2, ys, acc, q1, L'.leave M (hG _ _), kd, hys.keep k, h2, ?_, Nat.le_succ_of_le hyl, ?_⟩
      · rw [eq, h3, e]
      · refine ⟨fun b o hb n => ?_, fun b vs hb => k.2.1 b vs (hk.2.1 b vs hb), fun b o u hb => k.2.2 b o u (hk.2.2 b o u hb)⟩
        have hbD : b ≠ D := fun z => by rw [z, hD] at hb; cases hb
        exact k.1 b o (hk.1 b o hb n) fun z => z.elim n hbD
    · intro yv e v H'' M rv
      have k := L'.keep M
      have kd : H'' D = some (.lst acc) := M.base D _ hacc (hDm s)
      have L2 := L'.leave M (hG _ _)
      obtain ⟨L3, k3⟩ := L2.wroteX (p := D) (o' := .lst (acc ++ [v])) (.inr rfl) (hDm _) kd h0 (fun _ z => nomatch z) (fun _ _ z => nomatch z)
      have k4 := k.trans k3
      have hal : acc.length = ys.length := by rw [hys.length, List.length_map]
      refine ⟨acc, kd, by rw [line_eq]; omega, r1.2, ys ++ [yv], acc ++ [v], q1, L3, upd_same, ?_, h2, ?_, ?_, ?_⟩
      · rw [List.map_append]
        exact (hys.keep k4).append (.cons (rv.keep k3) .nil)
      · rw [eq, h3, e]
        show (ys ++ yv :: q1.1, q1.2) = (ys ++ [yv] ++ q1.1, q1.2)
        rw [List.append_assoc]; rfl
      · rw [List.length_append]; exact Nat.succ_le_succ hyl
      · refine ⟨fun b o hb n => ?_, fun b vs hb => k4.2.1 b vs (hk.2.1 b vs hb), fun b o u hb => k4.2.2 b o u (hk.2.2 b o u hb)⟩
        have hbD : b ≠ D := fun z => by rw [z, hD] at hb; cases hb
        exact k4.1 b o (hk.1 b o hb n) fun z => z.elim n hbD
  · rintro H' ⟨s, ys, acc, q', L', hacc, hys, hq', eq, _, hk⟩
    have hl : (rangeL lo n).length = n := by unfold rangeL; rw [List.length_map, List.length_range]
    have : (rangeL lo n).drop n = [] := List.drop_eq_nil_of_le (by omega)
    rw [this] at hq'
    cases hq'
    rw [List.append_nil] at eq
    subst eq
    exact done D H' hD h0 (fun z => L.xd D (L.m0 D z) hD) L' hk ⟨acc, hacc, hys⟩
theorem Lo.addT {D : Addr} {o : MO} {H' : Hp} (L : Lo C X H σ Γ) (hD : H D = none) (h0 : C.H0 D = none) (M : Lo C (fun a => X a ∨ a = D) H' σ Γ') (hm : muts Γ' = muts Γ) (r : MRep C.K (fun a => X a ∨ a = D) H' D o) : Lo C (fun a => X a ∨ a = D) H' σ (Γ' ++ [.tmp D o]) := by
  have hm2 : muts (Γ' ++ [Sl.tmp D o]) = muts Γ' ++ [D] := by unfold muts; rw [List.filterMap_append]; rfl
  have hnm : D ∉ muts Γ' := fun h => L.xd D (L.mx D (hm ▸ h)) hD
  refine ⟨M.len, fun i t hi => ?_, ?_, fun q hq => ?_, M.m0, M.xd, M.base, M.dom, fun q hq => ?_, M.tf⟩
  · by_cases hlt : i < Γ'.length
    · rw [List.getElem?_append_left hlt] at hi
      exact M.at_ i t hi
    · rw [List.getElem?_append_right (by omega)] at hi
      have ht := List.mem_of_getElem? hi
      rw [List.mem_singleton] at ht
      subst ht
      exact r
  · rw [hm2]
    exact List.nodup_append.mpr ⟨M.nd, by simp, fun a ha b hb => by
      rw [List.mem_singleton] at hb
      subst hb
      intro z
      exact hnm (z ▸ ha)⟩
  · rw [hm2, List.mem_append, List.mem_singleton] at hq
    exact hq.elim (M.mx q) .inr
  · rw [hm2, List.mem_append, List.mem_singleton] at hq
    exact hq.elim (M.own q) fun z => .inr (z ▸ h0)
/-- a comprehension's new list, as data -/
theorem lc_data [Py β] {D : Addr} {ys : List β} {H' : Hp} (L : Lo C X H σ Γ) (hD : H D = none) (M : Lo C (fun a => X a ∨ a = D) H' σ Γ') (hm : muts Γ' = muts Γ) (k : Keep X H H') (r : MRep C.K (fun a => X a ∨ a = D) H' D (ml ys))
    (h : Lo C X H' σ Γ' → (∀ d u, Rep C.K X H d u → Rep C.K X H' d u) → Rep C.K X H' (enc ys) (.ref D) → Q (.ref D) H') : Q (.ref D) H' := by
  obtain ⟨vs, h1, h2⟩ := r
  exact h (M.xanti (fun _ h => .inl h) (fun p hp => L.mx p (hm ▸ hp)) L.m0) (fun _ _ q => q.keep k) (.lst (fun z => L.xd D z hD) (.inl h1) (h2.anti fun _ z => .inl z))
/-- .. as the body's own -/
theorem lc_own [Py β] {D : Addr} {ys : List β} {H' : Hp} (L : Lo C X H σ Γ) (hD : H D = none) (h0 : C.H0 D = none) (M : Lo C (fun a => X a ∨ a = D) H' σ Γ') (hm : muts Γ' = muts Γ) (k : Keep X H H') (r : MRep C.K (fun a => X a ∨ a = D) H' D (ml ys))
    (h : Lo C (fun a => X a ∨ a = D) H' σ (Γ' ++ [.tmp D (ml ys)]) → (∀ d u, Rep C.K X H d u → Rep C.K (fun a => X a ∨ a = D) H' d u) → Q (.ref D) H') : Q (.ref D) H' :=
  h (L.addT hD h0 M hm r) fun _ _ q => (q.more hD).keep (k.mono fun _ z => .inl z)
theorem x_lcL [Py α] [Py β] {xs : List α} {f : α → τ → Option (Option β × τ)} {v : V} {G : τ → List Sl} {s0 : τ} {q : List β × τ} {g : TG} {tt : TT} {te : TE} {ws : List Nat} (L : Lo C X H σ (G s0)) (hG : ∀ s s', muts (G s) = muts (G s')) (r : Rep C.K X H (enc xs) v) (hm : compL f xs s0 = some q) (hl : xs.length ≤ 16777216)
    (body : ∀ x s, BodyC C X G (enc x) s (f x s) g tt te ws) (h : ∀ D H', Lo C X H' σ (G q.2) → (∀ d u, Rep C.K X H d u → Rep C.K X H' d u) → Rep C.K X H' (enc q.1) (.ref D) → Q (.ref D) H') : KLcL C.K g tt te ws σ Q v H :=
  x_lcL0 L hG r hm hl body (fun D H' hD h0 hx M k m => lc_data L hD M (hG _ _) k m (h D H'))
theorem x_lcLN [Py α] [Py β] {xs : List α} {f : α → τ → Option (Option β × τ)} {v : V} {G : τ → List Sl} {s0 : τ} {q : List β × τ} {g : TG} {tt : TT} {te : TE} {ws : List Nat} (L : Lo C X H σ (G s0)) (hG : ∀ s s', muts (G s) = muts (G s')) (r : Rep C.K X H (enc xs) v) (hm : compL f xs s0 = some q) (hl : xs.length ≤ 16777216)
    (body : ∀ x s, BodyC C X G (enc x) s (f x s) g tt te ws) (h : ∀ D X' H', C.H0 D = none → ¬ C.X0 D → Lo C X' H' σ (G q.2 ++ [.tmp D (ml q.1)]) → (∀ d u, Rep C.K X H d u → Rep C.K X' H' d u) → Q (.ref D) H') : KLcL C.K g tt te ws σ Q v H :=
  x_lcL0 L hG r hm hl body (fun D H' hD h0 hx M k m => lc_own L hD h0 M (hG _ _) k m (h D _ H' h0 hx))
theorem x_lcT [Py α] [Py β] {xs : List α} {f : α → τ → Option (Option β × τ)} {v : V} {G : τ → List Sl} {s0 : τ} {q : List β × τ} {g : TG} {tt : TT} {te : TE} {ws : List Nat} (L : Lo C X H σ (G s0)) (hG : ∀ s s', muts (G s) = muts (G s')) (r : Rep C.K X H (.tuple (xs.map enc)) v) (hm : compL f xs s0 = some q) (hl : xs.length ≤ 16777216)
    (body : ∀ x s, BodyC C X G (enc x) s (f x s) g tt te ws) (h : ∀ D H', Lo C X H' σ (G q.2) → (∀ d u, Rep C.K X H d u → Rep C.K X H' d u) → Rep C.K X H' (enc q.1) (.ref D) → Q (.ref D) H') : KLcT C.K g tt te ws σ Q v H :=
  x_lcT0 L hG r hm hl body (fun D H' hD h0 hx M k m => lc_data L hD M (hG _ _) k m (h D H'))
theorem x_lcTN [Py α] [Py β] {xs : List α} {f : α → τ → Option (Option β × τ)} {v : V} {G : τ → List Sl} {s0 : τ} {q : List β × τ} {g : TG} {tt : TT} {te : TE} {ws : List Nat} (L : Lo C X H σ (G s0)) (hG : ∀ s s', muts (G s) = muts (G s')) (r : Rep C.K X H (.tuple (xs.map enc)) v) (hm : compL f xs s0 = some q) (hl : xs.length ≤ 16777216)
    (body : ∀ x s, BodyC C X G (enc x) s (f x s) g tt te ws) (h : ∀ D X' H', C.H0 D = none → ¬ C.X0 D → Lo C X' H' σ (G q.2 ++ [.tmp D (ml q.1)]) → (∀ d u, Rep C.K X H d u → Rep C.K X' H' d u) → Q (.ref D) H') : KLcT C.K g tt te ws σ Q v H :=
  x_lcT0 L hG r hm hl body (fun D H' hD h0 hx M k m => lc_own L hD h0 M (hG _ _) k m (h D _ H' h0 hx))
theorem x_lcR [Py β] {lo : Int} {n : Nat} {f : Int → τ → Option (Option β × τ)} {G : τ → List Sl} {s0 : τ} {q : List β × τ} {g : TG} {tt : TT} {te : TE} {ws : List Nat} (L : Lo C X H σ (G s0)) (hG : ∀ s s', muts (G s) = muts (G s')) (hm : compL f (rangeL lo n) s0 = some q) (hl : n ≤ 16777216)
    (body : ∀ x s, BodyC C X G (enc x) s (f x s) g tt te ws) (h : ∀ D H', Lo C X H' σ (G q.2) → (∀ d u, Rep C.K X H d u → Rep C.K X H' d u) → Rep C.K X H' (enc q.1) (.ref D) → Q (.ref D) H') : KLcR lo n g tt te ws σ Q H :=
  x_lcR0 L hG hm hl body (fun D H' hD h0 hx M k m => lc_data L hD M (hG _ _) k m (h D H'))
theorem x_lcRN [Py β] {lo : Int} {n : Nat} {f : Int → τ → Option (Option β × τ)} {G : τ → List Sl} {s0 : τ} {q : List β × τ} {g : TG} {tt : TT} {te : TE} {ws : List Nat} (L : Lo C X H σ (G s0)) (hG : ∀ s s', muts (G s) = muts (G s')) (hm : compL f (rangeL lo n) s0 = some q) (hl : n ≤ 16777216)
    (body : ∀ x s, BodyC C X G (enc x) s (f x s) g tt te ws) (h : ∀ D X' H', C.H0 D = none → ¬ C.X0 D → Lo C X' H' σ (G q.2 ++ [.tmp D (ml q.1)]) → (∀ d u, Rep C.K X H d u → Rep C.K X' H' d u) → Q (.ref D) H') : KLcR lo n g tt te ws σ Q H :=
  x_lcR0 L hG hm hl body (fun D H' hD h0 hx M k m => lc_own L hD h0 M (hG _ _) k m (h D _ H' h0 hx))
/-- one turn of a comprehension -/
def KCt (te : TE) (σ : L2.St) (Qy : VK) (Qn : Hp → Prop) : Bool → Hp → Prop := fun b H => if b = true then te σ H Qy else Qn H
theorem Lo.cset {i : Nat} {u : V} {d : PyData} (L : Lo C X H σ Γ) (r : Rep C.K X H d u) (hi : i < C.n) {σ0 : L2.St} (e : ∀ j, j ≠ i → σ0[j]? = σ[j]?) (el : σ0.length = σ.length) : Lo C X H (σ0.set i (some u)) (Γ.set i (.imm d)) := by
  have e2 : σ0.set i (some u) = σ.set i (some u) := by
    apply List.ext_getElem?
    intro j
    by_cases z : j = i
    · subst z; rw [List.getElem?_set, List.getElem?_set, el, if_pos rfl, if_pos rfl]
    · rw [List.getElem?_set_ne (Ne.symm z), List.getElem?_set_ne (Ne.symm z), e j z]
  rw [e2]; exact L.set r hi
theorem x_cName {i : Nat} {u : V} {d : PyData} {tt : TT} {te : TE} {Qy : VK} {Qn : Hp → Prop} (L : Lo C X H σ Γ) (r : Rep C.K X H d u) (hi : i < C.n) (e : Γ.set i (.imm d) = Γ') (h : ∀ σ2, Lo C X H σ2 Γ' → tt σ2 H (KCt te σ2 Qy Qn)) :
    gName i u (wipe σ [i]) H fun σ2 H2 => wipe σ2 [i] = wipe σ [i] ∧ tt σ2 H2 fun b H3 => if b = true then te σ2 H3 Qy else Qn H3 := by
  subst e
  refine ⟨?_, h _ (L.cset r hi (fun j z => ?_) ?_)⟩
  · show ((σ.set i none).set i (some u)).set i none = σ.set i none
    rw [List.set_set, List.set_set]
  · exact List.getElem?_set_ne (Ne.symm z)
  · exact List.length_set
theorem x_cTup {i j : Nat} {u : V} {d1 d2 : PyData} {tt : TT} {te : TE} {Qy : VK} {Qn : Hp → Prop} (L : Lo C X H σ Γ) (r : Rep C.K X H (.tuple [d1, d2]) u) (hi : i < C.n) (hj : j < C.n) (ne : i ≠ j) (e : (Γ.set i (.imm d1)).set j (.imm d2) = Γ') (h : ∀ σ2, Lo C X H σ2 Γ' → tt σ2 H (KCt te σ2 Qy Qn)) :
    gTup C.K 2 (gCons (gName i) (gCons (gName j) gNil)) u (wipe σ [i, j]) H fun σ2 H2 => wipe σ2 [i, j] = wipe σ [i, j] ∧ tt σ2 H2 fun b H3 => if b = true then te σ2 H3 Qy else Qn H3 := by
  subst e
  obtain ⟨a, vs, rfl, hs, q⟩ := rep_tup r
  cases q with
  | @cons _ _ v1 _ r1 q => cases q with
    | @cons _ _ v2 _ r2 q => cases q with
      | nil =>
        refine ⟨a, _, rfl, hs, rfl, v1, [v2], rfl, v2, [], rfl, rfl, ?_⟩
        have e3 : (((σ.set j none).set i none).set i (some v1)).set j (some v2) = (σ.set i (some v1)).set j (some v2) := by
          rw [List.set_set, List.set_comm none (some v1) ne.symm, List.set_set]
        refine ⟨?_, ?_⟩
        · show (((((σ.set j none).set i none).set i (some v1)).set j (some v2)).set j none).set i none = (σ.set j none).set i none
          rw [e3, List.set_set, List.set_comm _ _ ne.symm, List.set_set, List.set_comm _ _ ne]
        · have q := h _ ((L.set r1 hi).set r2 hj)
          rw [← e3] at q
          exact q
theorem x_yes {te : TE} {Qy : VK} {Qn : Hp → Prop} (h : te σ H Qy) : tYes σ H (KCt te σ Qy Qn) := h
theorem x_ct {te : TE} {Qy : VK} {Qn : Hp → Prop} {c : Bool} {mA mB : Option ρ} {r : ρ} (hm : (if c = true then mA else mB) = some r) (hA : mA = some r → te σ H Qy) (hB : mB = some r → Qn H) : KCt te σ Qy Qn c H := by
  cases c with
  | true => exact hA hm
  | false => exact hB hm
theorem x_cy [Py β] {X' : Addr → Prop} {σ2 : L2.St} {H' : Hp} {K : PySem.W.Frag} {n : Nat} {G : τ → List Sl} {s s' : τ} {Γ2 : List Sl} {y : β} {r : Option β × τ} {v : V} {Qy : VK} (er : r = (some y, s')) (hy : ∀ y, r.1 = some y → ∀ v H', Lo ⟨K, X, H, muts (G s), n⟩ X H' σ (G r.2) → Rep K X H' (enc y) v → Qy v H')
    (L : Lo ⟨K, X, H, muts (G s), n⟩ X H σ (G s)) (M : Lo ⟨K, X, H, muts (G s), n⟩ X' H' σ2 Γ2) (b : Bk (G s) Γ2 (G s')) (q : Rep K X' H' (enc y) v) : Qy v H' := by
  subst er
  exact hy y rfl v H' (L.back M b) (Rep.anti M.m0 q)
theorem x_cn [Py β] {X' : Addr → Prop} {σ2 : L2.St} {H' : Hp} {K : PySem.W.Frag} {n : Nat} {G : τ → List Sl} {s s' : τ} {Γ2 : List Sl} {r : Option β × τ} {Qn : Hp → Prop} (er : r = (none, s')) (hn : r.1 = none → ∀ H', Lo ⟨K, X, H, muts (G s), n⟩ X H' σ (G r.2) → Qn H')
    (L : Lo ⟨K, X, H, muts (G s), n⟩ X H σ (G s)) (M : Lo ⟨K, X, H, muts (G s), n⟩ X' H' σ2 Γ2) (b : Bk (G s) Γ2 (G s')) : Qn H' := by
  subst er
  exact hn rfl H' (L.back M b)
end
open Py (enc)

/-! ### equality of data -/
class PyE (α : Type) [Py α] [DecidableEq α] where
  d : Nat
  eqv : ∀ x y : α, PyData.eqv (enc x) (enc y) = decide (x = y)
  lay : ∀ x : α, PyData.canLay0 (enc x) = true
  dep : ∀ x : α, PyData.depth (enc x) ≤ d
instance : PyE Int := ⟨0, fun x y => by
  show PyData.eqv (.int x) (.int y) = _
  unfold PyData.eqv
  by_cases z : x = y <;> simp [z], fun _ => rfl, fun _ => Nat.le_refl _⟩
instance : PyE Bool := ⟨0, fun x y => by cases x <;> cases y <;> rfl, fun _ => rfl, fun _ => Nat.le_refl _⟩
section
variable {α β γ δ ε : Type} [Py α] [DecidableEq α] [Py β] [DecidableEq β] [Py γ] [DecidableEq γ] [Py δ] [DecidableEq δ] [Py ε] [DecidableEq ε]
theorem eqvAll_nil : PyData.eqvAll [] [] = true := by unfold PyData.eqvAll; rfl
theorem eqvAll_cons {x y : PyData} {xs ys : List PyData} : PyData.eqvAll (x :: xs) (y :: ys) = (PyData.eqv x y && PyData.eqvAll xs ys) := by rw [PyData.eqvAll]
theorem eqv_tup {xs ys : List PyData} : PyData.eqv (.tuple xs) (.tuple ys) = PyData.eqvAll xs ys := by rw [PyData.eqv]
theorem eqv_lst {xs ys : List PyData} : PyData.eqv (.list xs) (.list ys) = PyData.eqvAll xs ys := by rw [PyData.eqv]
theorem layAll_nil : PyData.canLayAll0 [] = true := by unfold PyData.canLayAll0; rfl
theorem layAll_cons {x : PyData} {xs : List PyData} : PyData.canLayAll0 (x :: xs) = (PyData.canLay0 x && PyData.canLayAll0 xs) := by rw [PyData.canLayAll0]
theorem lay_tup {xs : List PyData} : PyData.canLay0 (.tuple xs) = PyData.canLayAll0 xs := by rw [PyData.canLay0]
theorem lay_lst {xs : List PyData} : PyData.canLay0 (.list xs) = PyData.canLayAll0 xs := by rw [PyData.canLay0]
theorem depAll_nil : PyData.depthAll [] = 0 := by unfold PyData.depthAll; rfl
theorem depAll_cons {x : PyData} {xs : List PyData} : PyData.depthAll (x :: xs) = max (PyData.depth x) (PyData.depthAll xs) := by rw [PyData.depthAll]
theorem dep_tup {xs : List PyData} : PyData.depth (.tuple xs) = PyData.depthAll xs + 1 := by rw [PyData.depth]
theorem dep_lst {xs : List PyData} : PyData.depth (.list xs) = PyData.depthAll xs + 1 := by rw [PyData.depth]
instance [PyE α] [PyE β] : PyE (T2 α β) where
  d := max (PyE.d α) (PyE.d β) + 1
  eqv := fun ⟨a, b⟩ ⟨a', b'⟩ => by
    show PyData.eqv (.tuple [enc a, enc b]) (.tuple [enc a', enc b']) = _
    rw [eqv_tup, eqvAll_cons, eqvAll_cons, eqvAll_nil, PyE.eqv, PyE.eqv]
    by_cases h1 : a = a' <;> by_cases h2 : b = b' <;> simp [h1, h2]
  lay := fun ⟨a, b⟩ => by
    show PyData.canLay0 (.tuple [enc a, enc b]) = true
    rw [lay_tup, layAll_cons, layAll_cons, layAll_nil, PyE.lay, PyE.lay]; rfl
  dep := fun ⟨a, b⟩ => by
    show PyData.depth (.tuple [enc a, enc b]) ≤ _
    rw [dep_tup, depAll_cons, depAll_cons, depAll_nil]
    have := PyE.dep a
    have := PyE.dep b
    omega
instance [PyE α] [PyE β] [PyE γ] : PyE (T3 α β γ) where
  d := max (PyE.d α) (max (PyE.d β) (PyE.d γ)) + 1
  eqv := fun ⟨a, b, c⟩ ⟨a', b', c'⟩ => by
    show PyData.eqv (.tuple [enc a, enc b, enc c]) (.tuple [enc a', enc b', enc c']) = _
    rw [eqv_tup, eqvAll_cons, eqvAll_cons, eqvAll_cons, eqvAll_nil, PyE.eqv, PyE.eqv, PyE.eqv]
    by_cases h1 : a = a' <;> by_cases h2 : b = b' <;> by_cases h3 : c = c' <;> simp [h1, h2, h3]
  lay := fun ⟨a, b, c⟩ => by
    show PyData.canLay0 (.tuple [enc a, enc b, enc c]) = true
    rw [lay_tup, layAll_cons, layAll_cons, layAll_cons, layAll_nil, PyE.lay, PyE.lay, PyE.lay]; rfl
  dep := fun ⟨a, b, c⟩ => by
    show PyData.depth (.tuple [enc a, enc b, enc c]) ≤ _
    rw [dep_tup, depAll_cons, depAll_cons, depAll_cons, depAll_nil]
    have := PyE.dep a
    have := PyE.dep b
    have := PyE.dep c
    omega
instance [PyE α] [PyE β] [PyE γ] [PyE δ] : PyE (T4 α β γ δ) where
  d := max (PyE.d α) (max (PyE.d β) (max (PyE.d γ) (PyE.d δ))) + 1
  eqv := fun ⟨a, b, c, d⟩ ⟨a', b', c', d'⟩ => by
    show PyData.eqv (.tuple [enc a, enc b, enc c, enc d]) (.tuple [enc a', enc b', enc c', enc d']) = _
    rw [eqv_tup, eqvAll_cons, eqvAll_cons, eqvAll_cons, eqvAll_cons, eqvAll_nil, PyE.eqv, PyE.eqv, PyE.eqv, PyE.eqv]
    by_cases h1 : a = a' <;> by_cases h2 : b = b' <;> by_cases h3 : c = c' <;> by_cases h4 : d = d' <;> simp [h1, h2, h3, h4]
  lay := fun ⟨a, b, c, d⟩ => by
    show PyData.canLay0 (.tuple [enc a, enc b, enc c, enc d]) = true
    rw [lay_tup, layAll_cons, layAll_cons, layAll_cons, layAll_cons, layAll_nil, PyE.lay, PyE.lay, PyE.lay, PyE.lay]; rfl
  dep := fun ⟨a, b, c, d⟩ => by
    show PyData.depth (.tuple [enc a, enc b, enc c, enc d]) ≤ _
    rw [dep_tup, depAll_cons, depAll_cons, depAll_cons, depAll_cons, depAll_nil]
    have := PyE.dep a
    have := PyE.dep b
    have := PyE.dep c
    have := PyE.dep d
    omega
instance [PyE α] : PyE (List α) where
  d := PyE.d α + 1
  eqv := fun xs ys => by
    show PyData.eqv (.list (xs.map enc)) (.list (ys.map enc)) = _
    rw [eqv_lst]
    induction xs generalizing ys with
    | nil => cases ys with
      | nil => rw [List.map_nil, eqvAll_nil]; rfl
      | cons y ys => rw [List.map_nil, List.map_cons, PyData.eqvAll]; rfl
    | cons x xs ih => cases ys with
      | nil => rw [List.map_nil, List.map_cons, PyData.eqvAll]; rfl
      | cons y ys =>
        rw [List.map_cons, List.map_cons, eqvAll_cons, ih, PyE.eqv]
        by_cases h1 : x = y <;> by_cases h2 : xs = ys <;> simp [h1, h2]
  lay := fun xs => by
    show PyData.canLay0 (.list (xs.map enc)) = true
    rw [lay_lst]
    induction xs with
    | nil => rw [List.map_nil, layAll_nil]
    | cons x xs ih => rw [List.map_cons, layAll_cons, PyE.lay, ih]; rfl
  dep := fun xs => by
    show PyData.depth (.list (xs.map enc)) ≤ _
    rw [dep_lst]
    refine Nat.succ_le_succ ?_
    induction xs with
    | nil => rw [List.map_nil, depAll_nil]; exact Nat.zero_le _
    | cons x xs ih =>
      rw [List.map_cons, depAll_cons]
      have := PyE.dep x
      omega
theorem shaped_of [PyE α] (h : PyE.d α ≤ 64) (x : α) : SeqAt.shaped (enc x) = true := by
  unfold SeqAt.shaped
  have := PyE.dep x
  rw [PyE.lay, Bool.true_and]
  exact decide_eq_true (by omega)
end

section
variable {C : Cn} {X : Addr → Prop} {H : Hp} {σ : L2.St} {Γ Γ' : List Sl} {Q : VK} {α β γ δ ε ρ : Type}
/-! ### what a value stands for, in any shape -/
theorem Lo.dpM [Py α] {xs : List α} {i : Nat} {p : Addr} (L : Lo C X H σ Γ) (g : Γ[i]? = some (.mu p (ml xs))) : Dp C.K H (.ref p) (enc xs) := by
  obtain ⟨vs, hs, q⟩ := L.mrep g
  exact .lst (.inl (.inl hs)) (Reps.dp q)
theorem x_eqd [Py α] [DecidableEq α] [PyE α] {x y : α} {u v : V} (r : Dp C.K H u (enc x)) (q : Dp C.K H v (enc y)) (h64 : PyE.d α ≤ 64) (h : Q (.bl (decide (x = y))) H) : rEqD C.K u v H Q :=
  ⟨_, _, r, q, shaped_of h64 x, shaped_of h64 y, by rw [PyE.eqv]; exact h⟩
theorem x_ned [Py α] [DecidableEq α] [PyE α] {x y : α} {u v : V} (r : Dp C.K H u (enc x)) (q : Dp C.K H v (enc y)) (h64 : PyE.d α ≤ 64) (h : Q (.bl (!decide (x = y))) H) : rNeD C.K u v H Q :=
  ⟨_, _, r, q, shaped_of h64 x, shaped_of h64 y, by rw [PyE.eqv]; exact h⟩
/-- x in xs -/
def memB {α : Type} [DecidableEq α] (x : α) (xs : List α) : Bool := xs.any fun z => decide (z = x)
theorem any_eqv [Py α] [DecidableEq α] [PyE α] {x : α} {xs : List α} : ((xs.map enc).any fun z => PyData.eqv z (enc x)) = memB x xs := by
  unfold memB
  rw [List.any_map]
  congr 1
  funext z
  exact PyE.eqv z x
theorem x_ind [Py α] [DecidableEq α] [PyE α] {x : α} {ys : List α} {u v : V} (r : Dp C.K H u (enc x)) (q : Dp C.K H v (enc ys)) (h64 : PyE.d (List α) ≤ 64) (h : Q (.bl (memB x ys)) H) : rInD C.K u v H Q :=
  ⟨_, _, r, q, shaped_of (Nat.le_trans (Nat.le_succ _) h64) x, shaped_of h64 ys, by rw [any_eqv]; exact h⟩
theorem x_nind [Py α] [DecidableEq α] [PyE α] {x : α} {ys : List α} {u v : V} (r : Dp C.K H u (enc x)) (q : Dp C.K H v (enc ys)) (h64 : PyE.d (List α) ≤ 64) (h : Q (.bl (!memB x ys)) H) : rNotInD C.K u v H Q :=
  ⟨_, _, r, q, shaped_of (Nat.le_trans (Nat.le_succ _) h64) x, shaped_of h64 ys, by rw [any_eqv]; exact h⟩
/-! ### None -/
class NN (α : Type) [Py α] : Prop where
  ne : ∀ x : α, enc x ≠ PyData.none
instance : NN Int := ⟨fun _ z => nomatch z⟩
instance : NN Bool := ⟨fun _ z => nomatch z⟩
instance : NN Str := ⟨fun _ z => nomatch z⟩
instance {α : Type} [Py α] : NN (List α) := ⟨fun _ z => nomatch z⟩
instance {α : Type} [Py α] : NN (T1 α) := ⟨fun _ z => nomatch z⟩
instance {α β : Type} [Py α] [Py β] : NN (T2 α β) := ⟨fun _ z => nomatch z⟩
instance {α β γ : Type} [Py α] [Py β] [Py γ] : NN (T3 α β γ) := ⟨fun _ z => nomatch z⟩
instance {α β γ δ : Type} [Py α] [Py β] [Py γ] [Py δ] : NN (T4 α β γ δ) := ⟨fun _ z => nomatch z⟩
theorem rep_non {K : PySem.W.Frag} {d : PyData} {v : V} (r : Rep K X H d v) (ne : d ≠ .none) : v ≠ .non := by
  cases r <;> intro z <;> first | exact ne rfl | cases z
def rIsNX : R2 := fun x y H Q => y = .non ∧ Q (.bl (decide (x = .non))) H
def rNotNX : R2 := fun x y H Q => y = .non ∧ Q (.bl (!decide (x = .non))) H
theorem op_isNX {Xc : Cx} : OpR Xc (compareOp .Is) rIsNX := op_isN
theorem op_notNX {Xc : Cx} : OpR Xc (compareOp .IsNot) rNotNX := op_notN
theorem dec_none [Py α] [NN α] {K : PySem.W.Frag} {o : Option α} {v : V} (r : Rep K X H (enc o) v) : decide (v = V.non) = o.isNone := by
  cases o with
  | none => cases (show Rep K X H PyData.none v from r); rfl
  | some x => simp [rep_non (show Rep K X H (enc x) v from r) (NN.ne x)]
theorem x_isNO [Py α] [NN α] {o : Option α} {v : V} (r : Rep C.K X H (enc o) v) (h : Q (.bl o.isNone) H) : rIsNX v .non H Q := ⟨rfl, by rw [dec_none r]; exact h⟩
theorem x_notNO [Py α] [NN α] {o : Option α} {v : V} (r : Rep C.K X H (enc o) v) (h : Q (.bl (!o.isNone)) H) : rNotNX v .non H Q := ⟨rfl, by rw [dec_none r]; exact h⟩
theorem x_isNS {v : V} {b : Bool} (e : decide (v = V.non) = b) (h : Q (.bl b) H) : rIsNX v .non H Q := ⟨rfl, by rw [e]; exact h⟩
theorem x_notNS {v : V} {b : Bool} (e : decide (v = V.non) = b) (h : Q (.bl (!b)) H) : rNotNX v .non H Q := ⟨rfl, by rw [e]; exact h⟩
theorem x_isND [Py α] [NN α] {x : α} {v : V} (r : Rep C.K X H (enc x) v) (h : Q (.bl false) H) : rIsNX v .non H Q := ⟨rfl, by rw [show decide (v = V.non) = false from by simp [rep_non r (NN.ne x)]]; exact h⟩
theorem x_notND [Py α] [NN α] {x : α} {v : V} (r : Rep C.K X H (enc x) v) (h : Q (.bl (!false)) H) : rNotNX v .non H Q := ⟨rfl, by rw [show decide (v = V.non) = false from by simp [rep_non r (NN.ne x)]]; exact h⟩
/-- a value that is not None -/
theorem Lo.someS [Py α] {o : Option α} {x : α} {i : Nat} (L : Lo C X H σ Γ) (g : Γ[i]? = some (.imm (enc o))) (e : o = some x) (eΓ : Γ.set i (.imm (enc x)) = Γ') : Lo C X H σ Γ' := by
  subst eΓ
  have hil : i < Γ.length := (List.getElem?_eq_some_iff.mp g).1
  have : Γ.set i (.imm (enc x)) = Γ := by
    apply List.ext_getElem?
    intro j
    by_cases z : j = i
    · subst z; rw [List.getElem?_set_self hil, g, e]; rfl
    · rw [List.getElem?_set_ne (Ne.symm z)]
  rw [this]; exact L
instance [Py α] [NN α] [DecidableEq α] [PyE α] : PyE (Option α) where
  d := PyE.d α
  eqv := fun x y => by
    have hn : ∀ z : α, PyData.eqv .none (enc z) = false ∧ PyData.eqv (enc z) .none = false := fun z => by
      have := NN.ne z
      constructor
      · cases h : enc z <;> first | exact (this h).elim | (unfold PyData.eqv; rfl)
      · cases h : enc z <;> first | exact (this h).elim | (unfold PyData.eqv; rfl)
    cases x with
    | none => cases y with
      | none => show PyData.eqv .none .none = _; unfold PyData.eqv; rfl
      | some y => show PyData.eqv .none (enc y) = _; rw [(hn y).1]; rfl
    | some x => cases y with
      | none => show PyData.eqv (enc x) .none = _; rw [(hn x).2]; rfl
      | some y => show PyData.eqv (enc x) (enc y) = _; rw [PyE.eqv]; by_cases z : x = y <;> simp [z]
  lay := fun x => by
    cases x with
    | none => rfl
    | some x => exact PyE.lay x
  dep := fun x => by
    cases x with
    | none => exact Nat.zero_le _
    | some x => exact PyE.dep x
/-! ### built-ins -/
theorem x_cb {r : List V → Hp → VK → Prop} {t : TA} (h : t σ H fun vs H1 => r vs H1 Q) : tCB r t σ H Q := h
theorem x_call {sp : Sp} {E : XK} {t : TA} (h : t σ H fun vs H1 => sp (vs ++ []) H1 Q E) : tCall sp [] E t σ H Q := h
def rLenX (K : PySem.W.Frag) : List V → Hp → VK → Prop := fun xs H Q => ∃ p ys, xs = [.ref p] ∧ (SqL K H p ys ∨ SqT K H p ys) ∧ Q (.int ys.length) H
theorem call_lenX {Xc : Cx} : CallR Xc (.builtin "len") (rLenX Xc.K) := call_len_seq
def rAbsX : List V → Hp → VK → Prop := fun xs H Q => ∃ i, xs = [.int i] ∧ Q (.int (if i < 0 then -i else i)) H
theorem call_absX {Xc : Cx} : CallR Xc (.builtin "abs") rAbsX := call_abs
def rIntX : List V → Hp → VK → Prop := fun xs H Q => (∃ i, xs = [.int i] ∧ Q (.int i) H) ∨ ∃ k, xs = [.bl k] ∧ Q (.int (if k then 1 else 0)) H
theorem call_intX {Xc : Cx} : CallR Xc (.type "int") rIntX := call_int1
def rMaxX : List V → Hp → VK → Prop := fun xs H Q => ∃ i j, xs = [.int i, .int j] ∧ Q (.int (if j > i then j else i)) H
theorem call_maxX {Xc : Cx} (hc : Xc.calm = true) : CallR Xc (.builtin "max") rMaxX := call_max2 hc
def rMinX : List V → Hp → VK → Prop := fun xs H Q => ∃ i j, xs = [.int i, .int j] ∧ Q (.int (if j < i then j else i)) H
theorem call_minX {Xc : Cx} (hc : Xc.calm = true) : CallR Xc (.builtin "min") rMinX := call_min2 hc
def rListX (K : PySem.W.Frag) : List V → Hp → VK → Prop := fun xs H Q => ∃ p ys, xs = [.ref p] ∧ (SqL K H p ys ∨ SqT K H p ys) ∧ ∀ l, H l = none → Q (.ref l) (upd H l (.lst ys))
theorem call_listX {Xc : Cx} : CallR Xc (.type "list") (rListX Xc.K) := call_list_of
theorem x_lenL [Py α] {xs : List α} {v : V} (r : Rep C.K X H (enc xs) v) (h : Q (.int (xs.length : Int)) H) : rLenX C.K [v] H Q := by
  obtain ⟨a, vs, rfl, _, hs, q⟩ := rep_lst (ds := xs.map enc) r
  refine ⟨a, vs, rfl, .inl (.inl hs), ?_⟩
  rw [q.length, List.length_map]; exact h
theorem x_lenS {ns : List Int} {v : V} (r : SqX C.K X H ns v) (h : Q (.int (ns.length : Int)) H) : rLenX C.K [v] H Q := by
  obtain ⟨a, rfl, hs⟩ := r.sq
  refine ⟨a, _, rfl, .inl hs, ?_⟩
  rw [List.length_map]; exact h
theorem x_lenM [Py α] {xs : List α} {j : Nat} {p : Addr} (L : Lo C X H σ Γ) (g : Γ[j]? = some (.mu p (ml xs))) (h : Q (.int (xs.length : Int)) H) : rLenX C.K [.ref p] H Q := by
  obtain ⟨vs, hs, q⟩ := L.mrep g
  refine ⟨p, vs, rfl, .inl (.inl (.inl hs)), ?_⟩
  rw [q.length, List.length_map]; exact h
theorem x_lenT {ds : List PyData} {n : Int} {v : V} (r : Rep C.K X H (.tuple ds) v) (e : (ds.length : Int) = n) (h : Q (.int n) H) : rLenX C.K [v] H Q := by
  obtain ⟨a, vs, rfl, hs, q⟩ := rep_tup r
  refine ⟨a, vs, rfl, .inr hs, ?_⟩
  rw [q.length, e]; exact h
/-- a value's type -/
def tyName : PyData → String
  | .none => "NoneType"
  | .bool _ => "bool"
  | .int _ => "int"
  | .str _ => "str"
  | .list _ => "list"
  | .tuple _ => "tuple"
  | .dict _ => "dict"
theorem Rep.ty {d : PyData} {v : V} (r : Rep C.K X H d v) : TyX C.K H v (.type (tyName d)) := by
  cases r with
  | non => exact .base .non
  | bl b => exact .base (.bl b)
  | int i => exact .base (.int i)
  | str x => exact .base (.str x)
  | tup h q =>
    exact .base (.tup h)
  | lst n h q =>
    rcases h with h | ⟨o, h⟩
    · exact .base (.lst h)
    · exact .base (.frz h)
theorem x_isi {d : PyData} {v : V} {T : String} {b : Bool} (r : Rep C.K X H d v) (e : kitB (tyName d) T = some b) (h : Q (.bl b) H) : rIsi C.K [v, .ty T] H Q :=
  ⟨v, .ty T, _, .type T, b, rfl, .ty T, r.ty, kit_ty e, h⟩
theorem x_isiI {K : PySem.W.Frag} {x : Int} {T : String} {b : Bool} (e : kitB (tyName (PyData.int x)) T = some b) (h : Q (.bl b) H) : rIsi K [(V.int x), .ty T] H Q :=
  x_isi (C := ⟨K, fun _ => False, H, [], 0⟩) (X := fun _ => False) (d := (PyData.int x)) (.int _) e h
theorem x_isiB {K : PySem.W.Frag} {x : Bool} {T : String} {b : Bool} (e : kitB (tyName (PyData.bool x)) T = some b) (h : Q (.bl b) H) : rIsi K [(V.bl x), .ty T] H Q :=
  x_isi (C := ⟨K, fun _ => False, H, [], 0⟩) (X := fun _ => False) (d := (PyData.bool x)) (.bl _) e h
theorem x_isiS {K : PySem.W.Frag} {x : Str} {T : String} {b : Bool} (e : kitB (tyName (PyData.str x)) T = some b) (h : Q (.bl b) H) : rIsi K [(V.str x), .ty T] H Q :=
  x_isi (C := ⟨K, fun _ => False, H, [], 0⟩) (X := fun _ => False) (d := (PyData.str x)) (.str _) e h
theorem x_isiN {K : PySem.W.Frag} {x : Unit} {T : String} {b : Bool} (e : kitB (tyName PyData.none) T = some b) (h : Q (.bl b) H) : rIsi K [V.non, .ty T] H Q :=
  x_isi (C := ⟨K, fun _ => False, H, [], 0⟩) (X := fun _ => False) (d := PyData.none) .non e h
theorem x_isiM {i : Nat} {p : Addr} {ds : List PyData} {T : String} {b : Bool} (L : Lo C X H σ Γ) (g : Γ[i]? = some (.mu p (.lst ds))) (e : kitB "list" T = some b) (h : Q (.bl b) H) : rIsi C.K [.ref p, .ty T] H Q := by
  obtain ⟨vs, hs, q⟩ := L.mrep g
  exact ⟨.ref p, .ty T, _, .type T, b, rfl, .ty T, .base (.lst hs), kit_ty e, h⟩
theorem x_abs {a : Int} (h : Q (.int (iabs a)) H) : rAbsX [V.int a] H Q := ⟨a, rfl, h⟩
theorem x_intb {b : Bool} (h : Q (.int (b2 b)) H) : rIntX [V.bl b] H Q := .inr ⟨b, rfl, h⟩
theorem x_inti {a : Int} (h : Q (.int a) H) : rIntX [V.int a] H Q := .inl ⟨a, rfl, h⟩
def imax (a b : Int) : Int := if b > a then b else a
def imin (a b : Int) : Int := if b < a then b else a
theorem x_max {a b : Int} (h : Q (.int (imax a b)) H) : rMaxX [V.int a, V.int b] H Q := ⟨a, b, rfl, h⟩
theorem x_min {a b : Int} (h : Q (.int (imin a b)) H) : rMinX [V.int a, V.int b] H Q := ⟨a, b, rfl, h⟩
theorem x_all {bs : List Bool} {v : V} (r : Rep C.K X H (enc bs) v) (h : Q (.bl (bs.all id)) H) : rAll C.K [v] H Q := by
  obtain ⟨a, vs, rfl, _, hs, q⟩ := rep_lst (ds := bs.map enc) r
  have e := Reps.toBools q
  subst e
  exact ⟨a, bs, rfl, .inl hs, h⟩
theorem x_sum {ns : List Int} {v : V} (r : Rep C.K X H (enc ns) v) (h : Q (.int ns.sum) H) : rSum C.K [v] H Q := by
  obtain ⟨a, vs, rfl, _, hs, q⟩ := rep_lst (ds := ns.map enc) r
  have e := Reps.toInts q
  subst e
  exact ⟨a, ns, rfl, .inl hs, h⟩
theorem x_any {bs : List Bool} {v : V} (r : Rep C.K X H (enc bs) v) (h : Q (.bl (bs.any id)) H) : rAny C.K [v] H Q := by
  obtain ⟨a, vs, rfl, _, hs, q⟩ := rep_lst (ds := bs.map enc) r
  have e := Reps.toBools q
  subst e
  exact ⟨a, bs, rfl, .inl hs, h⟩
/-! ### slices, sums of lists -/
def slice {α : Type} (xs : List α) (lo hi : Option Int) : List α := (xs.drop (HT.sIx xs.length 0 lo)).take (HT.sIx xs.length xs.length hi - HT.sIx xs.length 0 lo)
def KPart (Q : Option Int → Hp → Prop) : VK := fun x H => ∃ i, x = .int i ∧ Q (some i) H
theorem x_sl {r : V → Option Int → Option Int → Hp → VK → Prop} {te : TE} {tl th : TO} (h : te σ H fun x H1 => tl σ H1 fun l H2 => th σ H2 fun u H3 => r x l u H3 Q) : tSl r te tl th σ H Q := h
theorem x_noP {Q : Option Int → Hp → Prop} (h : Q none H) : tNoPart σ H Q := h
theorem x_part {t : TE} {Q : Option Int → Hp → Prop} (h : t σ H (KPart Q)) : tPart t σ H Q := h
theorem x_partK {i : Int} {Q : Option Int → Hp → Prop} (h : Q (some i) H) : KPart Q (.int i) H := ⟨i, rfl, h⟩
theorem reps_slice {K : PySem.W.Frag} [Py α] {xs : List α} {vs : List V} {lo hi : Option Int} (q : Reps K X H (xs.map enc) vs) : Reps K X H ((slice xs lo hi).map enc) (cutV vs lo hi) := by
  have e : vs.length = xs.length := by rw [q.length, List.length_map]
  unfold slice cutV
  rw [e, List.map_take, List.map_drop]
  exact (q.drop _).take _
/-- a new list, told as data or as the body's own -/
theorem x_new {ds : List PyData} {vs : List V} (L : Lo C X H σ Γ) (q : Reps C.K X H ds vs) (h : ∀ v H1, Lo C X H1 σ Γ → (∀ d u, Rep C.K X H d u → Rep C.K X H1 d u) → Rep C.K X H1 (.list ds) v → Q v H1) : ∀ p, H p = none → Q (.ref p) (upd H p (.lst vs)) := fun p hp => by
  have s : Same H (upd H p (.lst vs)) := same_upd hp
  have r : RRep C.K X H (upd H p (.lst vs)) (.new (.lst ds)) (.ref p) := ⟨p, rfl, hp, vs, upd_same, (q.more hp).keep (.same s)⟩
  exact h _ _ (L.same s) (fun _ _ r => r.keep (.same s)) (r.imm L.xd)
theorem x_newN {ds : List PyData} {vs : List V} (L : Lo C X H σ Γ) (q : Reps C.K X H ds vs) (h : ∀ p X' H1, C.H0 p = none → ¬ C.X0 p → Lo C X' H1 σ (Γ ++ [.tmp p (.lst ds)]) → (∀ d u, Rep C.K X H d u → Rep C.K X' H1 d u) → Q (.ref p) H1) : ∀ p, H p = none → Q (.ref p) (upd H p (.lst vs)) := fun p hp => by
  have s : Same H (upd H p (.lst vs)) := same_upd hp
  obtain ⟨L1, le, h0, hx⟩ := L.lay (o := .lst ds) hp s ⟨vs, upd_same, (q.more hp).keep (.same s)⟩
  exact h p _ _ h0 hx L1 le
theorem x_slL [Py α] {xs : List α} {v : V} {lo hi : Option Int} (L : Lo C X H σ Γ) (r : Rep C.K X H (enc xs) v) (h : ∀ v H1, Lo C X H1 σ Γ → (∀ d u, Rep C.K X H d u → Rep C.K X H1 d u) → Rep C.K X H1 (enc (slice xs lo hi)) v → Q v H1) : rSlL C.K v lo hi H Q := by
  obtain ⟨a, vs, rfl, _, hs, q⟩ := rep_lst (ds := xs.map enc) r
  exact ⟨a, vs, rfl, .inl hs, x_new L (reps_slice q) h⟩
theorem x_slN [Py α] {xs : List α} {v : V} {lo hi : Option Int} (L : Lo C X H σ Γ) (r : Rep C.K X H (enc xs) v) (h : ∀ p X' H1, C.H0 p = none → ¬ C.X0 p → Lo C X' H1 σ (Γ ++ [.tmp p (ml (slice xs lo hi))]) → (∀ d u, Rep C.K X H d u → Rep C.K X' H1 d u) → Q (.ref p) H1) : rSlL C.K v lo hi H Q := by
  obtain ⟨a, vs, rfl, _, hs, q⟩ := rep_lst (ds := xs.map enc) r
  exact ⟨a, vs, rfl, .inl hs, x_newN L (reps_slice q) h⟩
theorem x_slM [Py α] {xs : List α} {i : Nat} {p : Addr} {lo hi : Option Int} (L : Lo C X H σ Γ) (g : Γ[i]? = some (.mu p (ml xs))) (h : ∀ v H1, Lo C X H1 σ Γ → (∀ d u, Rep C.K X H d u → Rep C.K X H1 d u) → Rep C.K X H1 (enc (slice xs lo hi)) v → Q v H1) : rSlL C.K (.ref p) lo hi H Q := by
  obtain ⟨vs, hs, q⟩ := L.mrep g
  exact ⟨p, vs, rfl, .inl (.inl hs), x_new L (reps_slice q) h⟩
theorem x_slMN [Py α] {xs : List α} {i : Nat} {p : Addr} {lo hi : Option Int} (L : Lo C X H σ Γ) (g : Γ[i]? = some (.mu p (ml xs))) (h : ∀ p X' H1, C.H0 p = none → ¬ C.X0 p → Lo C X' H1 σ (Γ ++ [.tmp p (ml (slice xs lo hi))]) → (∀ d u, Rep C.K X H d u → Rep C.K X' H1 d u) → Q (.ref p) H1) : rSlL C.K (.ref p) lo hi H Q := by
  obtain ⟨vs, hs, q⟩ := L.mrep g
  exact ⟨p, vs, rfl, .inl (.inl hs), x_newN L (reps_slice q) h⟩
theorem x_slS {ns : List Int} {v : V} {lo hi : Option Int} (L : Lo C X H σ Γ) (r : SqX C.K X H ns v) (h : ∀ v H1, Lo C X H1 σ Γ → (∀ d u, Rep C.K X H d u → Rep C.K X H1 d u) → Rep C.K X H1 (enc (slice ns lo hi)) v → Q v H1) : rSlL C.K v lo hi H Q := by
  obtain ⟨a, rfl, hs⟩ := r.sq
  refine ⟨a, _, rfl, hs, x_new L (reps_slice (xs := ns) ?_) h⟩
  exact Reps.ints
/-- a part of a tuple -/
theorem x_slT {ds es : List PyData} {v : V} {lo hi : Option Int} (n : Nat) (L : Lo C X H σ Γ) (r : Rep C.K X H (.tuple ds) v) (hn : ds.length = n) (e : (ds.drop (HT.sIx ds.length 0 lo)).take (HT.sIx ds.length ds.length hi - HT.sIx ds.length 0 lo) = es) (ne : ¬ (HT.sIx n 0 lo = 0 ∧ HT.sIx n n hi = n))
    (h : ∀ v H1, Lo C X H1 σ Γ → (∀ d u, Rep C.K X H d u → Rep C.K X H1 d u) → Rep C.K X H1 (.tuple es) v → Q v H1) : rSlT C.K v lo hi H Q := by
  obtain ⟨a, vs, rfl, hs, q⟩ := rep_tup r
  have e2 : vs.length = ds.length := q.length
  refine ⟨a, vs, rfl, hs, by rw [e2, hn]; exact ne, fun p hp => ?_⟩
  have s : Same H (upd H p (.tup (cutV vs lo hi))) := same_upd hp
  have q2 : Reps C.K X H es (cutV vs lo hi) := by
    rw [← e]
    unfold cutV
    rw [e2]
    exact (q.drop _).take _
  exact h _ _ (L.same s) (fun _ _ r => r.keep (.same s)) (.tup upd_same (q2.keep (.same s)))
/-- xs[::-1] -/
def KRev (K : PySem.W.Frag) (Q : VK) : VK := fun x H => ∃ a xs, x = .ref a ∧ SqL K H a xs ∧ ∀ p, H p = none → Q (.ref p) (upd H p (.lst xs.reverse))
theorem x_revL {K : PySem.W.Frag} {te : TE} (h : te σ H (KRev K Q)) : tRevL K te σ H Q := h
theorem x_revv [Py α] {xs : List α} {v : V} (L : Lo C X H σ Γ) (r : Rep C.K X H (enc xs) v) (h : ∀ v H1, Lo C X H1 σ Γ → (∀ d u, Rep C.K X H d u → Rep C.K X H1 d u) → Rep C.K X H1 (enc xs.reverse) v → Q v H1) : KRev C.K Q v H := by
  obtain ⟨a, vs, rfl, _, hs, q⟩ := rep_lst (ds := xs.map enc) r
  exact ⟨a, vs, rfl, .inl hs, x_new (ds := xs.reverse.map enc) L (by rw [List.map_reverse]; exact q.reverse) h⟩
theorem x_revN [Py α] {xs : List α} {v : V} (L : Lo C X H σ Γ) (r : Rep C.K X H (enc xs) v) (h : ∀ p X' H1, C.H0 p = none → ¬ C.X0 p → Lo C X' H1 σ (Γ ++ [.tmp p (ml xs.reverse)]) → (∀ d u, Rep C.K X H d u → Rep C.K X' H1 d u) → Q (.ref p) H1) : KRev C.K Q v H := by
  obtain ⟨a, vs, rfl, _, hs, q⟩ := rep_lst (ds := xs.map enc) r
  exact ⟨a, vs, rfl, .inl hs, x_newN (ds := xs.reverse.map enc) L (by rw [List.map_reverse]; exact q.reverse) h⟩
/-- list(xs) -/
theorem x_listL [Py α] {xs : List α} {v : V} (L : Lo C X H σ Γ) (r : Rep C.K X H (enc xs) v) (h : ∀ v H1, Lo C X H1 σ Γ → (∀ d u, Rep C.K X H d u → Rep C.K X H1 d u) → Rep C.K X H1 (enc xs) v → Q v H1) : rListX C.K [v] H Q := by
  obtain ⟨a, vs, rfl, _, hs, q⟩ := rep_lst (ds := xs.map enc) r
  exact ⟨a, vs, rfl, .inl (.inl hs), x_new L q h⟩
theorem x_listN [Py α] {xs : List α} {v : V} (L : Lo C X H σ Γ) (r : Rep C.K X H (enc xs) v) (h : ∀ p X' H1, C.H0 p = none → ¬ C.X0 p → Lo C X' H1 σ (Γ ++ [.tmp p (ml xs)]) → (∀ d u, Rep C.K X H d u → Rep C.K X' H1 d u) → Q (.ref p) H1) : rListX C.K [v] H Q := by
  obtain ⟨a, vs, rfl, _, hs, q⟩ := rep_lst (ds := xs.map enc) r
  exact ⟨a, vs, rfl, .inl (.inl hs), x_newN L q h⟩
theorem x_listM [Py α] {xs : List α} {i : Nat} {p : Addr} (L : Lo C X H σ Γ) (g : Γ[i]? = some (.mu p (ml xs))) (h : ∀ v H1, Lo C X H1 σ Γ → (∀ d u, Rep C.K X H d u → Rep C.K X H1 d u) → Rep C.K X H1 (enc xs) v → Q v H1) : rListX C.K [.ref p] H Q := by
  obtain ⟨vs, hs, q⟩ := L.mrep g
  exact ⟨p, vs, rfl, .inl (.inl (.inl hs)), x_new L q h⟩
def rCatR : R2 := fun x y H Q => ∃ l b xs zs, x = .ref l ∧ y = .ref b ∧ Rd H l (.lst xs) ∧ Rd H b (.lst zs) ∧ xs.length + zs.length ≤ sizeLine ∧ ∀ p, H p = none → Q (.ref p) (upd H p (.lst (xs ++ zs)))
theorem op_catR {Xc : Cx} : OpR Xc (binaryOp .Add) rCatR := by
  intro pins s σ H x y v u Q I rx ry h
  obtain ⟨l, b, xs, zs, rfl, rfl, hH, hB, hz, q⟩ := h
  cases rx
  cases ry
  obtain ⟨z, its, n, r, e⟩ := hH.ok I.hok
  obtain ⟨z2, its2, n2, r2, e2⟩ := hB.ok I.hok
  have hl := r.length
  have hl2 := r2.length
  refine PySem.P.add_list e e2 ?_ (by rw [List.size_toArray, List.size_toArray]; omega)
  have ea : its.toArray ++ its2.toArray = (its ++ its2).toArray := by simp
  rw [ea]
  exact ⟨.ref _, _, I.lnew (t' := s.toks) (r.append r2) (by rw [List.length_append]; omega), rfl, q _ I.fresh⟩
theorem len_ok {n : Nat} {k : Unit → Option ρ} {r : ρ} (hm : (lenOk n).bind k = some r) : n ≤ 16777216 ∧ k () = some r := by
  obtain ⟨_, e, hk⟩ := ob hm
  unfold lenOk at e
  split at e
  · exact ⟨by assumption, hk⟩
  · cases e
theorem lenOk_le {n : Nat} {u : Unit} (h : lenOk n = some u) : n ≤ 16777216 := by
  unfold lenOk at h
  split at h
  · assumption
  · cases h
theorem x_cat [Py α] {xs ys : List α} {u v : V} {k : Unit → Option ρ} {r : ρ} (L : Lo C X H σ Γ) (hm : (lenOk (xs.length + ys.length)).bind k = some r) (p : Rep C.K X H (enc xs) u) (q : Rep C.K X H (enc ys) v)
    (h : ∀ v H1, k () = some r → Lo C X H1 σ Γ → (∀ d u, Rep C.K X H d u → Rep C.K X H1 d u) → Rep C.K X H1 (enc (xs ++ ys)) v → Q v H1) : rCatR u v H Q := by
  obtain ⟨hl, hk⟩ := len_ok hm
  obtain ⟨a, vs, rfl, _, hs, q1⟩ := rep_lst (ds := xs.map enc) p
  obtain ⟨b, ws, rfl, _, ht, q2⟩ := rep_lst (ds := ys.map enc) q
  have q3 : Reps C.K X H ((xs ++ ys).map enc) (vs ++ ws) := by rw [List.map_append]; exact q1.append q2
  exact ⟨a, b, vs, ws, rfl, rfl, hs, ht, by rw [line_eq, q1.length, q2.length, List.length_map, List.length_map]; exact hl, x_new L q3 fun v H1 => h v H1 hk⟩
theorem x_catN [Py α] {xs ys : List α} {u v : V} {k : Unit → Option ρ} {r : ρ} (L : Lo C X H σ Γ) (hm : (lenOk (xs.length + ys.length)).bind k = some r) (p : Rep C.K X H (enc xs) u) (q : Rep C.K X H (enc ys) v)
    (h : ∀ p X' H1, k () = some r → C.H0 p = none → ¬ C.X0 p → Lo C X' H1 σ (Γ ++ [.tmp p (ml (xs ++ ys))]) → (∀ d u, Rep C.K X H d u → Rep C.K X' H1 d u) → Q (.ref p) H1) : rCatR u v H Q := by
  obtain ⟨hl, hk⟩ := len_ok hm
  obtain ⟨a, vs, rfl, _, hs, q1⟩ := rep_lst (ds := xs.map enc) p
  obtain ⟨b, ws, rfl, _, ht, q2⟩ := rep_lst (ds := ys.map enc) q
  have q3 : Reps C.K X H ((xs ++ ys).map enc) (vs ++ ws) := by rw [List.map_append]; exact q1.append q2
  exact ⟨a, b, vs, ws, rfl, rfl, hs, ht, by rw [line_eq, q1.length, q2.length, List.length_map, List.length_map]; exact hl, x_newN L q3 fun p X' H1 => h p X' H1 hk⟩
/-! ### methods of lists -/
theorem x_bm {T : String} {r : V → List V → Hp → VK → Prop} {to : TE} {t : TA} (h : to σ H fun x H1 => tyV C.K T x H1 ∧ t σ H1 fun xs H2 => r x xs H2 Q) : tBM C.K T r to t σ H Q := h
theorem x_bm0 {T : String} {r : V → List V → Hp → VK → Prop} {to : TE} (h : to σ H fun x H1 => tyV C.K T x H1 ∧ r x [] H1 Q) : tBM0 C.K T r to σ H Q := h
theorem x_tyM {i : Nat} {p : Addr} {ds : List PyData} {P : Prop} (L : Lo C X H σ Γ) (g : Γ[i]? = some (.mu p (.lst ds))) (h : P) : tyV C.K "list" (.ref p) H ∧ P := by
  obtain ⟨vs, hs, _⟩ := L.mrep g
  exact ⟨.inl ⟨rfl, vs, .inl (.inl hs)⟩, h⟩
/-- the list in a slot is written -/
theorem Lo.write (L : Lo C X H σ Γ) {i : Nat} {p : Addr} {ds es : List PyData} {vs ws : List V} (g : Γ[i]? = some (.mu p (.lst ds))) (hs : H p = some (.lst vs)) (q : Reps C.K X H es ws) :
    Lo C X (upd H p (.lst ws)) σ (Γ.set i (.mu p (.lst es))) ∧ (∀ d u, Rep C.K X H d u → Rep C.K X (upd H p (.lst ws)) d u) := by
  have hX : X p := L.mx p (mem_muts.mpr ⟨i, _, g, rfl⟩)
  have kp : Keep X H (upd H p (.lst ws)) := ⟨fun a u h n => by rw [upd_ne (fun z => n (by rw [z]; exact hX))]; exact h, fun a us h => by rw [upd_ne (fun z => by rw [z, hs] at h; cases h)]; exact h, fun a u w h => by rw [upd_ne (fun z => by rw [z, hs] at h; cases h)]; exact h⟩
  exact L.wrote (H' := upd H p (.lst ws)) (o := .lst es) g rfl (fun a u h n => by rw [upd_ne n]; exact h) (fun a h => by
      by_cases z : a = p
      · rw [z, upd_same]; exact fun y => nomatch y
      · rw [upd_ne z]; exact h) ⟨ws, upd_same, q.keep kp⟩
theorem x_append [Py α] {xs : List α} {x : α} {v : V} {i : Nat} {p : Addr} {k : Unit → Option ρ} {r : ρ} (L : Lo C X H σ Γ) (g : Γ[i]? = some (.mu p (ml xs))) (hm : (lenOk (xs.length + 1)).bind k = some r) (q : Rep C.K X H (enc x) v) (e : Γ.set i (.mu p (ml (xs ++ [x]))) = Γ')
    (h : ∀ H1, k () = some r → Lo C X H1 σ Γ' → (∀ d u, Rep C.K X H d u → Rep C.K X H1 d u) → Q .non H1) : rAppend (.ref p) [v] H Q := by
  subst e
  obtain ⟨hl, hk⟩ := len_ok hm
  obtain ⟨vs, hs, rs⟩ := L.mrep g
  have hlen : vs.length = xs.length := by rw [rs.length, List.length_map]
  obtain ⟨L1, le⟩ := L.write (es := (xs ++ [x]).map enc) (ws := vs ++ [v]) g hs (by rw [List.map_append]; exact rs.append (.cons q .nil))
  exact ⟨p, vs, v, rfl, rfl, hs, by rw [line_eq]; omega, h _ hk L1 le⟩
def rExtendR : V → List V → Hp → VK → Prop := fun x vs H Q => ∃ l b xs zs, x = .ref l ∧ vs = [.ref b] ∧ H l = some (.lst xs) ∧ Rd H b (.lst zs) ∧ xs.length + zs.length ≤ sizeLine ∧ Q .non (upd H l (.lst (xs ++ zs)))
theorem mt_extendR {Xc : Cx} : MtM Xc "list.extend" rExtendR := by
  intro pins s σ H x vs v us Q I rx rv h
  obtain ⟨l, b, xs, zs, rfl, rfl, hH, hB, hz, q⟩ := h
  cases rx
  obtain ⟨u, rfl, ru⟩ := rv.one
  cases ru
  obtain ⟨z, its, n, r, hl, e⟩ := I.lstM hH
  obtain ⟨z2, its2, n2, r2, e2⟩ := hB.ok I.hok
  have hl2 := r2.length
  have hsz : its.toArray.size + its2.toArray.size ≤ sizeLine := by rw [List.size_toArray, List.size_toArray]; omega
  have hlong : ¬ (!its.toArray.isEmpty && Builtin.List.listTooLong (its.toArray.size + its2.toArray.size)) = true := by
    rw [notLongL hsz, Bool.and_false]
    exact Bool.false_ne_true
  refine call_meets F.slot_list_extend ⟨_, e, rfl⟩ F.entry_list_extend (F.args_list_extend_2 _ _)
    (AutoSeq1.list_extend_list_list_0 l its.toArray n b its2.toArray n2 hlong (by rw [List.size_toArray]; omega) (by omega)) ⟨e, e2, ?_⟩
  refine ⟨.non, _, I.lset (its' := its ++ its2) hH e (by simp) (r.append r2) ?_, rfl, q⟩
  rw [List.length_append]
  omega
theorem x_extend [Py α] {xs ys : List α} {v : V} {i : Nat} {p : Addr} {k : Unit → Option ρ} {r : ρ} (L : Lo C X H σ Γ) (g : Γ[i]? = some (.mu p (ml xs))) (hm : (lenOk (xs.length + ys.length)).bind k = some r) (q : Rep C.K X H (enc ys) v) (e : Γ.set i (.mu p (ml (xs ++ ys))) = Γ')
    (h : ∀ H1, k () = some r → Lo C X H1 σ Γ' → (∀ d u, Rep C.K X H d u → Rep C.K X H1 d u) → Q .non H1) : rExtendR (.ref p) [v] H Q := by
  subst e
  obtain ⟨hl, hk⟩ := len_ok hm
  obtain ⟨vs, hs, rs⟩ := L.mrep g
  obtain ⟨b, ws, rfl, _, ht, q2⟩ := rep_lst (ds := ys.map enc) q
  obtain ⟨L1, le⟩ := L.write (es := (xs ++ ys).map enc) (ws := vs ++ ws) g hs (by rw [List.map_append]; exact rs.append q2)
  exact ⟨p, b, vs, ws, rfl, rfl, hs, ht, by rw [line_eq, rs.length, q2.length, List.length_map, List.length_map]; exact hl, h _ hk L1 le⟩
/-! ### what a call asks, and what stands behind it -/
theorem nd0 {Γa : List Sl} (e : muts Γa = []) : (muts Γa).Nodup := by rw [e]; exact List.nodup_nil
theorem nd1 {Γa : List Sl} {p : Addr} (e : muts Γa = [p]) : (muts Γa).Nodup := by rw [e]; simp
theorem Lo.cond0 (L : Lo C X H σ Γ) {Γa : List Sl} {vs : List V} (as : As C.K X H Γa vs) (e : muts Γa = []) : Cond C.K X H Γa vs := L.cond as (nd0 e) (by rw [e]; intro _ h; cases h)
theorem Lo.cond1 (L : Lo C X H σ Γ) {Γa : List Sl} {vs : List V} {i : Nat} {s : Sl} {p : Addr} (as : As C.K X H Γa vs) (e : muts Γa = [p]) (g : Γ[i]? = some s) (es : s.ad = some p) : Cond C.K X H Γa vs := L.cond as (nd1 e) (by
  rw [e]; intro q h
  rw [List.mem_singleton] at h
  subst h
  exact mem_muts.mpr ⟨i, s, g, es⟩)
theorem hp0 {K : PySem.W.Frag} : ∀ q ∈ ([] : List (Addr × MO)), MRep K X H q.1 q.2 := fun _ h => nomatch h
theorem hp1 {K : PySem.W.Frag} {p : Addr} {o : MO} (h : MRep K X H p o) : ∀ q ∈ [(p, o)], MRep K X H q.1 q.2 := fun q hq => by
  rw [List.mem_singleton] at hq
  subst hq
  exact h
theorem Lo.tmp (L : Lo C X H σ Γ) {i : Nat} {p : Addr} {o : MO} (e : Γ[i]? = some (.tmp p o)) : MRep C.K X H p o := L.at_ i _ e
/-- behind a call -/
theorem k0 {v : V} {H' : Hp} {rs : Rs} {ps : List (Addr × MO)} {G : Prop} (L : Lo C X H σ Γ) (F : Fin C.K X H [] ps rs v H') (h : Lo C X H' σ Γ → (∀ d u, Rep C.K X H d u → Rep C.K X H' d u) → G) : G := h (L.after0 F).1 (L.after0 F).2
theorem k0d {v : V} {H' : Hp} {d : PyData} {ps : List (Addr × MO)} {G : Prop} (L : Lo C X H σ Γ) (F : Fin C.K X H [] ps (.imm d) v H') (h : Lo C X H' σ Γ → (∀ d u, Rep C.K X H d u → Rep C.K X H' d u) → Rep C.K X H' d v → G) : G := h (L.after0 F).1 (L.after0 F).2 F.res
/-- .. that tells a new list, as data -/
theorem k0i {v : V} {H' : Hp} {ds : List PyData} {ps : List (Addr × MO)} {G : Prop} (L : Lo C X H σ Γ) (F : Fin C.K X H [] ps (.new (.lst ds)) v H') (h : Lo C X H' σ Γ → (∀ d u, Rep C.K X H d u → Rep C.K X H' d u) → Rep C.K X H' (.list ds) v → G) : G := h (L.after0 F).1 (L.after0 F).2 (RRep.imm F.res L.xd)
/-- .. as the body's own -/
theorem k0N {p : Addr} {H' : Hp} {o : MO} {ps : List (Addr × MO)} {P : Prop} (L : Lo C X H σ Γ) (F : Fin C.K X H [] ps (.new o) (.ref p) H') (h : ∀ X', C.H0 p = none → ¬ C.X0 p → Lo C X' H' σ (Γ ++ [.tmp p o]) → (∀ d u, Rep C.K X H d u → Rep C.K X' H' d u) → P) : P := by
  obtain ⟨p', e, a, b, X', c, d⟩ := L.after0N F
  cases e
  exact h X' a b c d
/-- .. that wrote the object of one slot -/
theorem k1 {v : V} {H' : Hp} {rs : Rs} {p : Addr} {o : MO} {s : Sl} {G : Prop} (L : Lo C X H σ Γ) (F : Fin C.K X H [p] [(p, o)] rs v H') {i : Nat} (e : Γ[i]? = some s) (es : s.ad = some p) (eΓ : Γ.set i (s.to o) = Γ') (h : Lo C X H' σ Γ' → (∀ d u, Rep C.K X H d u → Rep C.K X H' d u) → G) : G := by
  subst eΓ
  exact h (L.after1 F e es).1 (L.after1 F e es).2
theorem k1d {v : V} {H' : Hp} {d : PyData} {p : Addr} {o : MO} {s : Sl} {G : Prop} (L : Lo C X H σ Γ) (F : Fin C.K X H [p] [(p, o)] (.imm d) v H') {i : Nat} (e : Γ[i]? = some s) (es : s.ad = some p) (eΓ : Γ.set i (s.to o) = Γ') (h : Lo C X H' σ Γ' → (∀ d u, Rep C.K X H d u → Rep C.K X H' d u) → Rep C.K X H' d v → G) : G := by
  subst eΓ
  exact h (L.after1 F e es).1 (L.after1 F e es).2 F.res
theorem k1i {v : V} {H' : Hp} {ds : List PyData} {p : Addr} {o : MO} {s : Sl} {G : Prop} (L : Lo C X H σ Γ) (F : Fin C.K X H [p] [(p, o)] (.new (.lst ds)) v H') {i : Nat} (e : Γ[i]? = some s) (es : s.ad = some p) (eΓ : Γ.set i (s.to o) = Γ') (h : Lo C X H' σ Γ' → (∀ d u, Rep C.K X H d u → Rep C.K X H' d u) → Rep C.K X H' (.list ds) v → G) : G := by
  subst eΓ
  exact h (L.after1 F e es).1 (L.after1 F e es).2 (RRep.imm F.res L.xd)
/-- .. and tells a new one, the body's own -/
theorem ints_any {K : PySem.W.Frag} {X Y : Addr → Prop} : ∀ {xs : List Int} {vs : List V}, Reps K X H (xs.map enc) vs → Reps K Y H (xs.map enc) vs
  | [], _, .nil => .nil
  | _ :: _, _, .cons (.int i) t => .cons (.int i) (ints_any t)
theorem k1N {q : Addr} {H' : Hp} {o' : MO} {p : Addr} {xs : List Int} {s : Sl} {P : Prop} (L : Lo C X H σ Γ) (F : Fin C.K X H [p] [(p, ml xs)] (.new o') (.ref q) H') {i : Nat} (e : Γ[i]? = some s) (es : s.ad = some p) (eΓ : Γ.set i (s.to (ml xs)) = Γ') (h : ∀ X', C.H0 q = none → ¬ C.X0 q → Lo C X' H' σ (Γ' ++ [.tmp q o']) → (∀ d u, Rep C.K X H d u → Rep C.K X' H' d u) → P) : P := by
  subst eΓ
  have hpm : p ∈ muts Γ := mem_muts.mpr ⟨i, s, e, es⟩
  have hpx : X p := L.mx p hpm
  obtain ⟨o0, r0⟩ := L.mem hpm
  have kp : Keep X H H' := ⟨fun a u h n => F.base a u h fun z => n (by rw [List.mem_singleton] at z; exact z ▸ hpx), fun a vs h => F.base a _ h fun z => by rw [List.mem_singleton] at z; exact r0.ntup.1 _ (z ▸ h), fun a u w h => F.base a _ h fun z => by rw [List.mem_singleton] at z; exact r0.ntup.2 _ _ (z ▸ h)⟩
  have L' := (L.after1 F e es).1
  have hil : i < Γ.length := (List.getElem?_eq_some_iff.mp e).1
  obtain ⟨q', e', a, b, c, d⟩ := L.afterN F L' kp (by intro q hq; rw [List.mem_singleton] at hq; exact hq ▸ hpm) (muts_to e) fun j t hj => by
    have hs := L'.at_ j t hj
    by_cases z : j = i
    · subst z
      rw [List.getElem?_set_self hil] at hj
      cases hj
      have hp' : (s.to (ml xs)).ad = some p := by
        cases s with
        | unk => cases es
        | scr ns => cases es
        | ref a => cases es
        | imm d => cases es
        | fix _ _ => cases es
        | fixN _ _ => cases es
        | lax _ _ => cases es
        | mu p' o1 => exact es
        | tmp p' o1 => exact es
      refine .inr ⟨p, hp', fun q hq => ?_⟩
      obtain ⟨vs, h1, h2⟩ := F.mu (p, ml xs) (by simp)
      have this : MRep C.K (fun a => X a ∨ a = q) H' p (ml xs) := ⟨vs, h1, ints_any h2⟩
      cases s with
      | unk => cases es
      | scr ns => cases es
      | ref a => cases es
      | imm d => cases es
      | fix _ _ => cases es
      | fixN _ _ => cases es
      | lax _ _ => cases es
      | mu p' o1 => cases es; exact ⟨hs.1, this⟩
      | tmp p' o1 => cases es; exact this
    · rw [List.getElem?_set_ne (Ne.symm z)] at hj
      cases ea : t.ad with
      | none => exact .inl ⟨rfl, hj⟩
      | some p' =>
        refine .inr ⟨p', rfl, fun q hq => ((L.at_ j t hj).more hq).keep (kp.mono fun a h => .inl h) fun p'' e'' => ?_⟩
        rw [ea] at e''; cases e''
        obtain ⟨o', r'⟩ := (L.at_ j t hj).mrep ea
        have ne : p' ≠ p := fun y => z (ad_unique L.nd hj e (by rw [ea, y]) es)
        cases h : H p' with
        | none => exact (r'.nn h).elim
        | some u => exact F.base p' u h (by simpa using ne)
  cases e'
  exact h _ a b c d
/-- an object of the body's own is told -/
theorem Lo.finM {ps : List (Addr × MO)} {o : MO} {p : Addr} {i : Nat} (L : Lo C X H σ Γ) (hp : ∀ q ∈ ps, MRep C.K X H q.1 q.2) (e : Γ[i]? = some (.mu p o)) (hn : C.H0 p = none) : Fin C.K C.X0 C.H0 C.P0 ps (.new o) (.ref p) H :=
  L.finN hp hn (L.mx p (mem_muts.mpr ⟨i, _, e, rfl⟩)) (L.mrep e)
theorem Lo.finT {ps : List (Addr × MO)} {o : MO} {p : Addr} {i : Nat} (L : Lo C X H σ Γ) (hp : ∀ q ∈ ps, MRep C.K X H q.1 q.2) (e : Γ[i]? = some (.tmp p o)) (hn : C.H0 p = none) : Fin C.K C.X0 C.H0 C.P0 ps (.new o) (.ref p) H :=
  L.finN hp hn (L.mx p (mem_muts.mpr ⟨i, _, e, rfl⟩)) (L.tmp e)
/-! ### the ends of bodies, turns, branches -/
theorem x_fin {K : PySem.W.Frag} {H0 : Hp} {P0 : List Addr} {ps : ρ → List (Addr × MO)} {rs : ρ → Rs} {e r : ρ} {v : V} (hm : some e = some r) (kont : ∀ v H', Fin K X H0 P0 (ps r) (rs r) v H' → Q v H') (F : Fin K X H0 P0 (ps e) (rs e) v H) : Q v H := by
  cases hm; exact kont v H F
theorem x_finP {K : PySem.W.Frag} {H0 : Hp} {P0 : List Addr} {ps : ρ → List (Addr × MO)} {o : ρ → MO} {e r : ρ} {p : Addr} (hm : some e = some r) (kont : ∀ p H', Fin K X H0 P0 (ps r) (.new (o r)) (.ref p) H' → Q (.ref p) H') (F : Fin K X H0 P0 (ps e) (.new (o e)) (.ref p) H) : Q (.ref p) H := by
  cases hm; exact kont p H F
theorem x_finRP {K : PySem.W.Frag} {H0 : Hp} {P0 : List Addr} {ps : ρ → List (Addr × MO)} {o : ρ → MO} {e r : ρ} {v : V} (hm : some e = some r) (kont : ∀ p H', Fin K X H0 P0 (ps r) (.new (o r)) (.ref p) H' → Q (.ref p) H') (F : Fin K X H0 P0 (ps e) (.new (o e)) v H) : Q v H := by
  cases hm
  obtain ⟨p, rfl, _⟩ := F.res
  exact kont p H F
theorem x_finI {K : PySem.W.Frag} {H0 : Hp} {P0 : List Addr} {ps : ρ → List (Addr × MO)} {sc : ρ → Int} {r : ρ} (e : ρ) (hm : some e = some r) (kont : ∀ H', (fun x => Fin K X H0 P0 (ps r) (.imm (PyData.int x)) (V.int x) H') (sc r) → (fun x => Q (V.int x) H') (sc r)) (F : (fun x => Fin K X H0 P0 (ps e) (.imm (PyData.int x)) (V.int x) H) (sc e)) : (fun x => Q (V.int x) H) (sc e) := by
  cases hm; exact kont H F
theorem x_finRI {K : PySem.W.Frag} {H0 : Hp} {P0 : List Addr} {ps : ρ → List (Addr × MO)} {sc : ρ → Int} {e r : ρ} {v : V} (hm : some e = some r) (kont : ∀ H', (fun x => Fin K X H0 P0 (ps r) (.imm (PyData.int x)) (V.int x) H') (sc r) → (fun x => Q (V.int x) H') (sc r)) (F : Fin K X H0 P0 (ps e) (.imm ((fun x => (PyData.int x)) (sc e))) v H) : Q v H := by
  cases hm
  have q := repI (x := sc e) F.res
  subst q
  exact kont H F
theorem x_finB {K : PySem.W.Frag} {H0 : Hp} {P0 : List Addr} {ps : ρ → List (Addr × MO)} {sc : ρ → Bool} {r : ρ} (e : ρ) (hm : some e = some r) (kont : ∀ H', (fun x => Fin K X H0 P0 (ps r) (.imm (PyData.bool x)) (V.bl x) H') (sc r) → (fun x => Q (V.bl x) H') (sc r)) (F : (fun x => Fin K X H0 P0 (ps e) (.imm (PyData.bool x)) (V.bl x) H) (sc e)) : (fun x => Q (V.bl x) H) (sc e) := by
  cases hm; exact kont H F
theorem x_finRB {K : PySem.W.Frag} {H0 : Hp} {P0 : List Addr} {ps : ρ → List (Addr × MO)} {sc : ρ → Bool} {e r : ρ} {v : V} (hm : some e = some r) (kont : ∀ H', (fun x => Fin K X H0 P0 (ps r) (.imm (PyData.bool x)) (V.bl x) H') (sc r) → (fun x => Q (V.bl x) H') (sc r)) (F : Fin K X H0 P0 (ps e) (.imm ((fun x => (PyData.bool x)) (sc e))) v H) : Q v H := by
  cases hm
  have q := repB (x := sc e) F.res
  subst q
  exact kont H F
theorem x_finS {K : PySem.W.Frag} {H0 : Hp} {P0 : List Addr} {ps : ρ → List (Addr × MO)} {sc : ρ → Str} {r : ρ} (e : ρ) (hm : some e = some r) (kont : ∀ H', (fun x => Fin K X H0 P0 (ps r) (.imm (PyData.str x)) (V.str x) H') (sc r) → (fun x => Q (V.str x) H') (sc r)) (F : (fun x => Fin K X H0 P0 (ps e) (.imm (PyData.str x)) (V.str x) H) (sc e)) : (fun x => Q (V.str x) H) (sc e) := by
  cases hm; exact kont H F
theorem x_finRS {K : PySem.W.Frag} {H0 : Hp} {P0 : List Addr} {ps : ρ → List (Addr × MO)} {sc : ρ → Str} {e r : ρ} {v : V} (hm : some e = some r) (kont : ∀ H', (fun x => Fin K X H0 P0 (ps r) (.imm (PyData.str x)) (V.str x) H') (sc r) → (fun x => Q (V.str x) H') (sc r)) (F : Fin K X H0 P0 (ps e) (.imm ((fun x => (PyData.str x)) (sc e))) v H) : Q v H := by
  cases hm
  have q := repS (x := sc e) F.res
  subst q
  exact kont H F
theorem x_finN {K : PySem.W.Frag} {H0 : Hp} {P0 : List Addr} {ps : ρ → List (Addr × MO)} {sc : ρ → Unit} {r : ρ} (e : ρ) (hm : some e = some r) (kont : ∀ H', (fun x => Fin K X H0 P0 (ps r) (.imm PyData.none) V.non H') (sc r) → (fun x => Q V.non H') (sc r)) (F : (fun x => Fin K X H0 P0 (ps e) (.imm PyData.none) V.non H) (sc e)) : (fun x => Q V.non H) (sc e) := by
  cases hm; exact kont H F
theorem x_finRN {K : PySem.W.Frag} {H0 : Hp} {P0 : List Addr} {ps : ρ → List (Addr × MO)} {sc : ρ → Unit} {e r : ρ} {v : V} (hm : some e = some r) (kont : ∀ H', (fun x => Fin K X H0 P0 (ps r) (.imm PyData.none) V.non H') (sc r) → (fun x => Q V.non H') (sc r)) (F : Fin K X H0 P0 (ps e) (.imm ((fun x => PyData.none) (sc e))) v H) : Q v H := by
  cases hm
  have q := repN (x := sc e) F.res
  subst q
  exact kont H F
theorem x_leaf {τ : Type} {C' : Cn} {G : τ → List Sl} {e s : τ} {N : L2.St → Hp → Prop} (hm : some e = some s) (hN : ∀ X' σ' H', Lo C' X' H' σ' (G s) → N σ' H') (L : Lo C' X H σ (G e)) : N σ H := by
  cases hm; exact hN _ _ _ L
theorem x_leafN {τ : Type} {C' : Cn} {G : τ → List Sl} {e : τ} {o : Lp τ ρ} {N : L2.St → Hp → Prop} (hm : some (.nxt e) = some o) (hN : ∀ s, o = .nxt s → ∀ X' σ' H', Lo C' X' H' σ' (G s) → N σ' H') (L : Lo C' X H σ (G e)) : N σ H :=
  hN e (Option.some.inj hm).symm _ _ _ L
theorem x_leafB {τ : Type} {C' : Cn} {G : τ → List Sl} {e : τ} {o : Lp τ ρ} {N : L2.St → Hp → Prop} (hm : some (.brk e) = some o) (hN : ∀ s, o = .brk s → ∀ X' σ' H', Lo C' X' H' σ' (G s) → N σ' H') (L : Lo C' X H σ (G e)) : N σ H :=
  hN e (Option.some.inj hm).symm _ _ _ L
theorem x_leafR {τ : Type} {K : PySem.W.Frag} {H0 : Hp} {P0 : List Addr} {ps : ρ → List (Addr × MO)} {rs : ρ → Rs} {e : ρ} {o : Lp τ ρ} {v : V} {N : VK} (hm : some (.ret e) = some o) (hR : ∀ r, o = .ret r → ∀ v H', Fin K X H0 P0 (ps r) (rs r) v H' → N v H') (F : Fin K X H0 P0 (ps e) (rs e) v H) : N v H :=
  hR e (Option.some.inj hm).symm _ _ F
/-- branches that come together again -/
theorem x_join {τ : Type} {c : Bool} {mA mB : Option τ} {k : τ → Option ρ} {r : ρ} {G : τ → List Sl} {t u : TS} {nx bk ct : L2.St → Hp → Prop} {rt : VK} (L : Lo C X H σ Γ) (hm : (if c = true then mA else mB).bind k = some r)
    (hA : ∀ b, mA = some b → ∀ N : L2.St → Hp → Prop, (∀ X' σ' H', Lo C X' H' σ' (G b) → N σ' H') → t ⟨N, rt, bk, ct⟩ σ H)
    (hB : ∀ b, mB = some b → ∀ N : L2.St → Hp → Prop, (∀ X' σ' H', Lo C X' H' σ' (G b) → N σ' H') → u ⟨N, rt, bk, ct⟩ σ H)
    (h : ∀ b X' σ' H', k b = some r → Lo C X' H' σ' (G b) → nx σ' H') : KIf t u ⟨nx, rt, bk, ct⟩ σ c H := by
  cases c with
  | true =>
    obtain ⟨b, e, hk⟩ := ob hm
    exact hA b e nx fun X' σ' H' L => h b X' σ' H' hk L
  | false =>
    obtain ⟨b, e, hk⟩ := ob hm
    exact hB b e nx fun X' σ' H' L => h b X' σ' H' hk L
/-- a value is given a name of its own -/
theorem x_bset {d : α → PyData} {x0 : α} {i : Nat} {v : V} {k : α → Option ρ} {r : ρ} {N : L2.St → Hp → Prop} {Γf : α → List Sl} (hm : (some x0).bind k = some r) (L : Lo C X H σ Γ) (q : Rep C.K X H (d x0) v) (hi : i < C.n) (e : ∀ x, Γ.set i (.imm (d x)) = Γf x) (h : ∀ x σ', k x = some r → Lo C X H σ' (Γf x) → N σ' H) : gName i v σ H N :=
  h x0 _ hm (by rw [← e]; exact L.set q hi)
end
open Py (enc)
/-! ### defs that raise -/
theorem fn_or {P : Program} {w : World} {K : PySem.W.Frag} {mg : Str → Option Value} {base : Heap} {k : Nat} {f : Addr} {fd : FuncData} {ps : List Str} {sp1 sp2 : Sp} (F1 : FnOk P w K mg base (L2.CX P w) k f fd ps sp1) (F2 : FnOk P w K mg base CX0 k f fd ps sp2) :
    FnOk P w K mg base (L2.CX P w) k f fd ps (fun vs H Q E => sp1 vs H Q E ∨ sp2 vs H Q E) := by
  refine ⟨fun vs H Q E h => h.elim (F1.len vs H Q E) (F2.len vs H Q E), fun A outer s H args us vs Q E hr he hb hv hs => ?_⟩
  rcases hs with h | h
  · exact F1.run A outer s H args us vs Q E hr he hb hv h
  · refine codeAny_mono (F2.run A outer s H args us vs Q E hr he hb hv h) fun r s' q => ?_
    cases r with
    | ok r => cases r <;> first | exact q | exact (show False from q).elim
    | error e => exact (show False from q).elim
theorem Lo.same0 {C : Cn} {X : Addr → Prop} {H : Hp} {σ : L2.St} {Γ : List Sl} (L : Lo C X H σ Γ) (e : C.P0 = []) : Same C.H0 H := fun a o h => L.base a o h (by rw [e]; exact fun z => nomatch z)
section
variable {C : Cn} {X : Addr → Prop} {H : Hp} {σ : L2.St} {Γ Γ' : List Sl} {Q : VK} {α β ρ : Type}
theorem x_callS {sp : Sp} {E : L2.St → XK} {t : TA} (h : t σ H fun vs H1 => sp vs H1 Q (E σ)) : tCallS sp E t σ H Q := h
theorem x_either {S1 S2 : Prop} {A B : Option ρ} {m : Option Unit} {r : ρ} (hm : (if m.isSome = true then A else B) = some r) (h1 : m = some () → A = some r → S1) (h2 : B = some r → S2) : S1 ∨ S2 := by
  cases m with
  | some u => exact .inl (h1 rfl hm)
  | none => exact .inr (h2 hm)
theorem x_catch {K : PySem.W.Frag} {c : Value} {D : Addr} {i : Nat} {ts : Addr → Value → Option Addr → TS} {Wout : WX} {nx bk ct : L2.St → Hp → Prop} {rt : VK} (he : PySem.W.exmOne K (.ref D) c = some true)
    (h : ∀ a, H a = none → ts a (.ref D) none ⟨fun σ' H' => nx (σ'.set i none) H', rt, fun σ' H' => bk (σ'.set i none) H', fun σ' H' => ct (σ'.set i none) H'⟩ (σ.set i (some (.ref a))) H) : wAs K c i ts Wout ⟨nx, rt, bk, ct⟩ (.ref D) none σ H :=
  ⟨true, he, fun _ => h, fun z => nomatch z⟩
theorem x_catch0 {K : PySem.W.Frag} {c : Value} {D : Addr} {ts : Addr → Value → Option Addr → TS} {Wout : WX} {Ds : Ends} (he : PySem.W.exmOne K (.ref D) c = some true)
    (h : ∀ a, H a = none → ts a (.ref D) none Ds σ H) : wOnly K c ts Wout Ds (.ref D) none σ H :=
  ⟨true, he, fun _ => h, fun z => nomatch z⟩
theorem x_vr {i : Nat} {a : Addr} (L : Lo C X H σ Γ) (e : Γ[i]? = some (.ref a)) (h : Q (.ref a) H) : tVar i σ H Q := ⟨_, L.at_ i _ e, h⟩
/-- isinstance of the error that is handled -/
def rIsG (K : PySem.W.Frag) (cls : Value) (d : Option Addr) (a : Addr) : List V → Hp → VK → Prop := fun xs H Q => ∃ (D : Addr) (c : V) (cv : Value) (b : Bool), cls = .ref D ∧ d = none ∧ ExcC K D ∧ xs = [.ref a, c] ∧ (∀ u, RelV c u → u = cv) ∧ PySem.W.kitOne K (.ref D) cv = some b ∧ Q (.bl b) H
theorem call_isG {Xc : Cx} {a : Addr} {oe : Obj} {pn : List (Addr × Obj)} {cls : Value} {d : Option Addr} (hz : Zc cls d oe) (hf : ∃ vs, oe.data = .fields vs) : CallR (Xc.suite a ((a, oe) :: pn)) (.builtin "isinstance") (rIsG Xc.K cls d a) := by
  intro pins s σ H xs us Q I r h
  obtain ⟨D, c, cv, b, rfl, rfl, E, rfl, hc, k, q⟩ := h
  exact call_isE E hz hf pins s σ H _ us Q I r ⟨c, cv, b, rfl, hc, k, q⟩
def rIsGT (K : PySem.W.Frag) (cls : Value) (d : Option Addr) (a : Addr) : List V → Hp → VK → Prop := fun xs H Q => ∃ (D tp : Addr) (cs : List V) (ws : List Value) (b : Bool), cls = .ref D ∧ d = none ∧ ExcC K D ∧ xs = [.ref a, .ref tp] ∧ H tp = some (.tup cs) ∧ Paired ClsV cs ws ∧ PySem.W.kitAny K (.ref D) ws = some b ∧ Q (.bl b) H
theorem call_isGT {Xc : Cx} {a : Addr} {oe : Obj} {pn : List (Addr × Obj)} {cls : Value} {d : Option Addr} (hz : Zc cls d oe) (hf : ∃ vs, oe.data = .fields vs) : CallR (Xc.suite a ((a, oe) :: pn)) (.builtin "isinstance") (rIsGT Xc.K cls d a) := by
  intro pins s σ H xs us Q I r h
  obtain ⟨D, tp, cs, ws, b, rfl, rfl, Ex, rfl, hT, k, e, q⟩ := h
  cases r with
  | cons rx rr =>
    cases rr with
    | cons rt rr =>
      cases rr
      cases rx
      rename_i u2
      cases (show u2 = Value.ref tp from rt)
      obtain ⟨hget, _⟩ := I.pin (a, oe) (List.mem_append.mpr (.inl List.mem_cons_self))
      obtain ⟨vs, hv⟩ := hf
      have J : PySem.W.InstAt s.heap a oe D none := by
        obtain ⟨oc, od, oda, osl⟩ := oe
        obtain ⟨h1, h2⟩ := hz
        dsimp only at h1 h2 hv
        subst h1 h2 hv
        exact ⟨hget, rfl, rfl, trivial⟩
      obtain ⟨_, its, rv, o, h1, h2, n, h3⟩ := (show ObjOk _ _ H s.heap tp (.tup cs) from I.hok tp _ hT)
      have e3 := ClsV.all k rv
      subst e3
      obtain ⟨oc, od, dt, sl⟩ := o
      simp only at h2 h3
      subst h2 h3
      exact PySem.W.kia_tup (PySem.W.handS_kitx_exc Ex.hg Ex.hk Ex.hs Ex.hd Ex.ha Ex.hn Ex.ht Ex.hm) I.kIn J h1 e (fun z => nomatch z) fun tk => ⟨.bl b, H, I.kept (t' := tk) fun _ _ z => z, rfl, q⟩
theorem x_isG {K : PySem.W.Frag} {D a C2 : Addr} {b : Bool} (E : ExcC K D) (k : PySem.W.kitOne K (.ref D) (.ref C2) = some b) (h : Q (.bl b) H) : rIsG K (.ref D) none a [.ref a, .ref C2] H Q :=
  ⟨D, _, _, b, rfl, rfl, E, rfl, fun _ r => r, k, h⟩
theorem x_isGB {K : PySem.W.Frag} {D a : Addr} {T : String} {b : Bool} (E : ExcC K D) (k : PySem.W.kitOne K (.ref D) (.type T) = some b) (h : Q (.bl b) H) : rIsG K (.ref D) none a [.ref a, .ty T] H Q :=
  ⟨D, _, _, b, rfl, rfl, E, rfl, fun _ r => r, k, h⟩
theorem x_isGT {K : PySem.W.Frag} {D a tp : Addr} {cs : List V} {ws : List Value} {b : Bool} (E : ExcC K D) (hT : H tp = some (.tup cs)) (p : Paired ClsV cs ws) (k : PySem.W.kitAny K (.ref D) ws = some b) (h : Q (.bl b) H) : rIsGT K (.ref D) none a [.ref a, .ref tp] H Q :=
  ⟨D, tp, cs, ws, b, rfl, rfl, E, rfl, hT, p, k, h⟩
theorem kit_self {K : PySem.W.Frag} {D : Addr} : PySem.W.kitOne K (.ref D) (.ref D) = some true := by
  unfold PySem.W.kitOne
  rw [if_pos (beq_iff_eq.mpr rfl)]
theorem kit_ref {K : PySem.W.Frag} {D E : Addr} {b : Bool} (hne : (Value.ref D == Value.ref E) = false) (hd : PySem.W.hasDictIn K E = true) (ht : PySem.W.typeIn K (.ref E) = some (.type "type")) (hs : PySem.W.subIn K (.ref D) (.ref E) = some b) : PySem.W.kitOne K (.ref D) (.ref E) = some b := by
  obtain ⟨cd, hc, _⟩ := PySem.W.any_some hd
  have e2 : ((PySem.W.clsIn K E).isSome && PySem.W.typeIn K (.ref E) == some (.type "type")) = true := by rw [hc, ht] <;> rfl
  unfold PySem.W.kitOne
  rw [if_neg (by rw [hne]; exact Bool.false_ne_true)]
  show (if ((PySem.W.clsIn K E).isSome && PySem.W.typeIn K (.ref E) == some (.type "type")) = true then PySem.W.subIn K (.ref D) (.ref E) else none) = some b
  rw [if_pos e2]; exact hs
theorem kit_typ {K : PySem.W.Frag} {D : Addr} {T : String} {b : Bool} (hk : PySem.W.kitMeta T = true) (hs : PySem.W.subIn K (.ref D) (.type T) = some b) : PySem.W.kitOne K (.ref D) (.type T) = some b := by
  unfold PySem.W.kitOne
  rw [if_neg (by intro z; cases (beq_iff_eq.mp z))]
  show (if PySem.W.kitMeta T = true then PySem.W.subIn K (.ref D) (.type T) else none) = some b
  rw [if_pos hk]; exact hs
/-- a tuple of classes -/
theorem x_mkC {vs : List V} (L : Lo C X H σ Γ) (hl : vs.length ≤ 16777216) (h : ∀ p H1, Lo C X H1 σ Γ → H1 p = some (.tup vs) → Q (.ref p) H1) : KTup Q vs H := by
  refine ⟨by rw [line_eq]; exact hl, fun p hp => ?_⟩
  exact h p _ (L.same (same_upd hp)) upd_same
end
open Py (enc)
/-! ### tuples of ints: sets, order -/
class IT (α : Type) [Py α] where
  nums : α → List Int
  enc_eq : ∀ x, enc x = .tuple ((nums x).map .int)
  inj : ∀ x y, nums x = nums y → x = y
instance : IT (T2 Int Int) := ⟨fun x => [x.a, x.b], fun _ => rfl, fun x y h => by cases x; cases y; simp_all⟩
instance : IT (T3 Int Int Int) := ⟨fun x => [x.a, x.b, x.c], fun _ => rfl, fun x y h => by cases x; cases y; simp_all⟩
section
variable {K : PySem.W.Frag} {X : Addr → Prop} {H : Hp} {α : Type}
theorem rep_it [Py α] [IT α] {x : α} {v : V} (r : Rep K X H (enc x) v) : ∃ a, v = .ref a ∧ SqT K H a ((IT.nums x).map V.int) := by
  rw [IT.enc_eq] at r
  obtain ⟨a, vs, rfl, hs, q⟩ := rep_tup r
  rw [Reps.toInts q] at hs
  exact ⟨a, rfl, hs⟩
theorem reps_it [Py α] [IT α] : ∀ {xs : List α} {vs : List V}, Reps K X H (xs.map enc) vs → ∃ ks : List (Addr × List Int), vs = ks.map (fun p => V.ref p.1) ∧ ks.map (·.2) = xs.map IT.nums ∧ ∀ p ∈ ks, SqT K H p.1 (p.2.map V.int)
  | [], _, .nil => ⟨[], rfl, rfl, fun _ h => nomatch h⟩
  | x :: xs, _, .cons r t => by
    obtain ⟨a, rfl, hs⟩ := rep_it r
    obtain ⟨ks, rfl, h2, h3⟩ := reps_it t
    refine ⟨(a, IT.nums x) :: ks, rfl, by rw [List.map_cons, List.map_cons, h2], fun p hp => ?_⟩
    rcases List.mem_cons.mp hp with e | hp
    · subst e; exact hs
    · exact h3 p hp
end
/-- the distinct ones -/
def dset {α : Type} [DecidableEq α] : List α → List α
  | [] => []
  | x :: xs => if x ∈ dset xs then dset xs else x :: dset xs
theorem mem_dset {α : Type} [DecidableEq α] {x : α} : ∀ {xs : List α}, x ∈ dset xs ↔ x ∈ xs
  | [] => Iff.rfl
  | y :: xs => by
    unfold dset
    by_cases h : y ∈ dset xs
    · rw [if_pos h, List.mem_cons, mem_dset]
      exact ⟨.inr, fun z => z.elim (fun e => e ▸ mem_dset.mp h) id⟩
    · rw [if_neg h, List.mem_cons, List.mem_cons, mem_dset]
theorem nodup_dset {α : Type} [DecidableEq α] : ∀ {xs : List α}, (dset xs).Nodup
  | [] => List.nodup_nil
  | y :: xs => by
    unfold dset
    by_cases h : y ∈ dset xs
    · rw [if_pos h]; exact nodup_dset
    · rw [if_neg h]; exact List.nodup_cons.mpr ⟨h, nodup_dset⟩
theorem nodup_le {α : Type} [DecidableEq α] : ∀ {l m : List α}, l.Nodup → (∀ x ∈ l, x ∈ m) → l.length ≤ m.length
  | [], _, _, _ => Nat.zero_le _
  | x :: l, m, h, s => by
    obtain ⟨h1, h2⟩ := List.nodup_cons.mp h
    have hx := s x List.mem_cons_self
    have := nodup_le (l := l) (m := m.erase x) h2 fun y hy => (List.mem_erase_of_ne (fun e => by subst e; exact h1 hy)).mpr (s y (List.mem_cons_of_mem _ hy))
    rw [List.length_erase_of_mem hx] at this
    have hp := List.length_pos_of_mem hx
    rw [List.length_cons]; omega
theorem dset_map {α β : Type} [DecidableEq α] [DecidableEq β] {f : α → β} (hf : ∀ x y, f x = f y → x = y) : ∀ {xs : List α}, (dset (xs.map f)).length = (dset xs).length
  | [] => rfl
  | y :: xs => by
    rw [List.map_cons]
    unfold dset
    have e : f y ∈ dset (xs.map f) ↔ y ∈ dset xs := by
      rw [mem_dset, mem_dset, List.mem_map]
      exact ⟨fun ⟨z, h1, h2⟩ => hf _ _ h2 ▸ h1, fun h => ⟨y, h, rfl⟩⟩
    by_cases h : y ∈ dset xs
    · rw [if_pos h, if_pos (e.mpr h), dset_map hf]
    · rw [if_neg h, if_neg (fun z => h (e.mp z)), List.length_cons, List.length_cons, dset_map hf]
section
variable {X : Cx}
def tLenSetT (K : PySem.W.Frag) (ta : TE) : TE := fun σ H Q => ta σ H fun x H1 => ∃ (l : Addr) (ks : List (Addr × List Int)), x = V.ref l ∧ SqL K H1 l (ks.map fun p => V.ref p.1) ∧ (∀ p ∈ ks, SqT K H1 p.1 (p.2.map V.int)) ∧ ks.length < 64 ∧ Q (.int (dset (ks.map (·.2))).length) H1
theorem pe_lenSetT {a : Expr} {ta : TE} {p p2 q pos : Pos} (hc : X.calm = true) (hu : X.A.units + 64 < cLine) (hg : Gl X "len") (hm : X.mg "len" = none) (hg2 : Gl X "set") (hm2 : X.mg "set" = none) (ha : PE X a ta)
    (na : starEach [a] X.env = (false, eval a X.env) :: starEach [] X.env := by rfl) : PE X (.Call (.Name "len" p) [.Call (.Name "set" p2) [a] [] q] [] pos) (tLenSetT X.K ta) := by
  refine ⟨fun pins s σ H Q I h => ?_⟩
  refine Call_ (ld_blt I hg hm PySem.boot_len ?_)
  refine PyProof.Rows.callWith_builtin1 (PyProof.Rows.args_cons ?_ rfl) rfl rfl
  refine Call_ (ld_blt I hg2 hm2 PyProof.Rows.boot_set ?_)
  refine PyProof.Rows.callWith_type1 (PyProof.Rows.args_cons (thn (ha.run pins s σ H _ I h) fun v s1 ⟨x, H1, I1, r1, q1⟩ => PyProof.Rows.args_nil ?_) na) na rfl
  obtain ⟨l, ks, rfl, hq, hk, hf, q1⟩ := q1
  cases r1
  obtain ⟨its, rv, pl, hz⟩ := I1.list hq
  refine call_set_tups (P := X.prog) (w := X.w) ks (I1.ok.hd hc) pl.isList (by simpa using refs_of_vals rv) (fun p hp => I1.isT (hk p hp)) hf (by omega) fun h' tk L es ep t R g k => ?_
  refine PyProof.Rows.args_nil ?_
  obtain ⟨o, ho, hex, hd⟩ := R.ob
  have e1 : es.size = L.length := by
    have := congrArg List.length R.rows
    rw [Array.length_toList] at this
    rw [this]
    unfold rowsOf
    first | rw [List.length_map] | simp
  have hn : L.length = (dset (ks.map (·.2))).length := by
    refine Nat.le_antisymm ?_ ?_
    · have := nodup_le (m := dset (ks.map (·.2))) R.nd fun x hx => by
        obtain ⟨p, hp, e⟩ := List.mem_map.mp hx
        subst e
        exact mem_dset.mpr (List.mem_map.mpr ⟨p, List.mem_of_mem_take (g.sub p hp), rfl⟩)
      rwa [List.length_map] at this
    · have := nodup_le (m := L.map (·.2)) (nodup_dset (xs := ks.map (·.2))) fun x hx => by
        obtain ⟨p, hp, e⟩ := List.mem_map.mp (mem_dset.mp hx)
        subst e
        exact g.all p (by rw [List.take_length]; exact hp)
      rwa [List.length_map] at this
  have I2 : Inv X pins σ H1 { s1 with heap := h', toks := tk } := I1.kept fun b o e => k b o e
  have hf := R.few
  refine call_len_set ho hex hd (SetTR.fits (s := { s1 with heap := h', toks := tk }) R) (by rw [e1] <;> omega) ⟨.int (dset (ks.map (·.2))).length, H1, I2.tok _, ⟨_, by rw [e1, hn]⟩, q1⟩
end
def fewOk (n : Nat) : Option Unit := if n < 64 then some () else none
section
variable {C : Cn} {X : Addr → Prop} {H : Hp} {σ : L2.St} {Γ Γ' : List Sl} {Q : VK} {α β ρ : Type}
def KSet (K : PySem.W.Frag) (Q : VK) : VK := fun x H1 => ∃ (l : Addr) (ks : List (Addr × List Int)), x = V.ref l ∧ SqL K H1 l (ks.map fun p => V.ref p.1) ∧ (∀ p ∈ ks, SqT K H1 p.1 (p.2.map V.int)) ∧ ks.length < 64 ∧ Q (.int (dset (ks.map (·.2))).length) H1
theorem x_lenSet {K : PySem.W.Frag} {ta : TE} (h : ta σ H (KSet K Q)) : tLenSetT K ta σ H Q := h
theorem x_kset [Py α] [IT α] [DecidableEq α] {xs : List α} {v : V} {k : Unit → Option ρ} {r : ρ} (hm : (fewOk xs.length).bind k = some r) (q : Rep C.K X H (enc xs) v) (h : k () = some r → Q (.int (dset xs).length) H) : KSet C.K Q v H := by
  obtain ⟨_, e, hk⟩ := ob hm
  have h64 : xs.length < 64 := by
    unfold fewOk at e
    split at e
    · assumption
    · cases e
  obtain ⟨a, vs, rfl, _, hs, q⟩ := rep_lst (ds := xs.map enc) q
  obtain ⟨ks, rfl, h2, h3⟩ := reps_it q
  have hl : ks.length = xs.length := by
    have := congrArg List.length h2
    rwa [List.length_map, List.length_map] at this
  refine ⟨a, ks, rfl, .inl hs, h3, by rw [hl]; exact h64, ?_⟩
  rw [h2, dset_map IT.inj]
  exact h hk
/-! order of pairs -/
def ltP (p q : T2 Int Int) : Bool := decide (p.a < q.a) || (decide (p.a = q.a) && decide (p.b < q.b))
def leP (p q : T2 Int Int) : Bool := decide (p.a < q.a) || (decide (p.a = q.a) && decide (p.b ≤ q.b))
def maxP (p q : T2 Int Int) : T2 Int Int := if ltP p q = true then q else p
def minP (p q : T2 Int Int) : T2 Int Int := if ltP q p = true then q else p
theorem lexAt_le {a b c d : Int} : Ob.lexAt (fun j => decide ([a, b].getD j 0 = [c, d].getD j 0)) (fun j => decide ([a, b].getD j 0 ≤ [c, d].getD j 0)) (decide (([a, b] : List Int).length ≤ ([c, d] : List Int).length)) 0 (min ([a, b] : List Int).length ([c, d] : List Int).length) = leP ⟨a, b⟩ ⟨c, d⟩ := by
  show Ob.lexAt _ _ _ 0 2 = _
  rw [Ob.lexAt_succ, Ob.lexAt_succ, Ob.lexAt_zero]
  unfold leP
  simp only [List.getD_eq_getElem?_getD, List.getElem?_cons_zero, List.getElem?_cons_succ, Option.getD_some, decide_eq_true_eq, List.length_cons, List.length_nil]
  rcases Int.lt_trichotomy a c with z | z | z
  · have z1 : ¬ a = c := by omega
    have z2 : a ≤ c := by omega
    simp [z, z1, z2]
  · subst z
    by_cases y : b = d
    · subst y; simp
    · simp [y]
  · have z1 : ¬ a = c := by omega
    have z2 : ¬ a ≤ c := by omega
    have z3 : ¬ a < c := by omega
    simp [z1, z2, z3]
def rLeP (K : PySem.W.Frag) : R2 := rLeT K
theorem op_leP {Xc : Cx} (hu : Xc.A.units < cLine) : OpR Xc (compareOp .LtE) (rLeP Xc.K) := op_leT hu
theorem x_leP {p q : T2 Int Int} {u v : V} (r : Rep C.K X H (enc p) u) (s : Rep C.K X H (enc q) v) (h : Q (.bl (leP p q)) H) : rLeP C.K u v H Q := by
  obtain ⟨a, rfl, ha⟩ := rep_it r
  obtain ⟨b, rfl, hb⟩ := rep_it s
  refine ⟨a, b, [p.a, p.b], [q.a, q.b], rfl, rfl, ha, hb, ?_⟩
  rw [lexAt_le]
  exact h
end
/-! max, min of two pairs -/
section
variable {prog : Program} {w : World} {A : Around} {E : Value → Shared → Prop} {s : Shared}
open PySem.W in
theorem call_max_twoH {a b : Value} {Q : Value → Shared → Prop} (hh : A.handled = none) (bt : Nat → Nat → Bool)
    (hc : CmpIn prog w A.in1 .Gt s.heap (fun i v => #[a, b][i]? = some v) bt)
    (h : ∀ h' tk, (∀ c o, s.heap.get? c = some o → h'.get? c = some o) → Q (if bt 1 0 = true then b else a) { s with heap := h', toks := tk }) :
    wpAny (model prog w) A (call (.builtin "max") [a, b]) Q E s := by
  have hname : (toString "max" ++ toString ".loop" : String) = "max.loop" := by decide
  refine call_function_tree F.kind_max F.plain_max F.entry_max (F.args_max2 _ _) ?_
  show wpAny _ A.in1 (Builtin.Builtins.bindParams "max" ["key", "default"] 0 ⟨[], []⟩ >>= _) _ _ s
  refine wpAny_bind (wpAny_of_eq (show Builtin.Builtins.bindParams "max" ["key", "default"] 0 ⟨[], []⟩ = pure [none, none] from rfl) ?_)
  show wpAny _ A.in1 (newTuple [a, b] >>= _) _ _ s
  refine wpAny_bind (wpAny_newObj_type ?_)
  have hT : (s.heap.push { cls := .type "tuple", data := .seq #[a, b] }).IsTuple s.heap.objs.size #[a, b] := ⟨_, Heap.get?_push_size _ rfl, rfl, 0, rfl⟩
  refine wpAny_bind (iter_tupleW (s := { s with heap := s.heap.push { cls := .type "tuple", data := .seq #[a, b] } }) (by exact hh) hT fun s₂ e W st hfp hwr hold => ?_)
  refine wpAny_bind (wpAny_newObj_type ?_)
  have hSf : s₂.heap.objs.size ∉ _ := fun hm => Nat.lt_irrefl _ (hfp _ hm)
  rw [hname]
  have k0 : ∀ c o, s.heap.get? c = some o → s₂.heap.get? c = some o := fun c o e => hold c o (Heap.get?_push_of_some _ e)
  refine wpAny_pure ⟨plainId_quiet F.plain_max_loop _, codeAny_max_loop_firstH W s.heap (fun c o e => hwr c o (Heap.get?_push_of_some _ e)) bt hc s₂.heap.objs.size hSf (fresh_in k0) [] (show 0 < 2 by decide) (fun c o e => Heap.get?_push_of_some _ (k0 c o e)) (W.frame _ _ _ _ st (Nat.le_refl _) fun c _ o e => Heap.get?_push_of_some _ e) (Heap.get?_push_size _ rfl) fun v s' hP hm => ?_⟩
  have m := Moved.drop_new (tk := s₂.toks) hm (Nat.le_refl _)
  obtain ⟨h', tk, e', hk'⟩ := moved_old e rfl m
  subst e'
  have hv : v = if bt 1 0 = true then b else a := by
    have hP' : #[a, b][argBest bt 1]? = some v := hP
    have e1 : argBest bt 1 = if bt 1 0 = true then 1 else 0 := rfl
    rw [e1] at hP'
    by_cases z : bt 1 0 = true
    · rw [if_pos z] at hP' ⊢; simpa using hP'.symm
    · rw [if_neg z] at hP' ⊢; simpa using hP'.symm
  rw [hv]
  exact h h' tk fun c o e => hk' c o (Heap.get?_push_of_some _ e)
open PySem.W in
theorem call_min_twoH {a b : Value} {Q : Value → Shared → Prop} (hh : A.handled = none) (bt : Nat → Nat → Bool)
    (hc : CmpIn prog w A.in1 .Lt s.heap (fun i v => #[a, b][i]? = some v) bt)
    (h : ∀ h' tk, (∀ c o, s.heap.get? c = some o → h'.get? c = some o) → Q (if bt 1 0 = true then b else a) { s with heap := h', toks := tk }) :
    wpAny (model prog w) A (call (.builtin "min") [a, b]) Q E s := by
  have hname : (toString "min" ++ toString ".loop" : String) = "min.loop" := by decide
  refine call_function_tree F.kind_min F.plain_min F.entry_min (F.args_min2 _ _) ?_
  show wpAny _ A.in1 (Builtin.Builtins.bindParams "min" ["key", "default"] 0 ⟨[], []⟩ >>= _) _ _ s
  refine wpAny_bind (wpAny_of_eq (show Builtin.Builtins.bindParams "min" ["key", "default"] 0 ⟨[], []⟩ = pure [none, none] from rfl) ?_)
  show wpAny _ A.in1 (newTuple [a, b] >>= _) _ _ s
  refine wpAny_bind (wpAny_newObj_type ?_)
  have hT : (s.heap.push { cls := .type "tuple", data := .seq #[a, b] }).IsTuple s.heap.objs.size #[a, b] := ⟨_, Heap.get?_push_size _ rfl, rfl, 0, rfl⟩
  refine wpAny_bind (iter_tupleW (s := { s with heap := s.heap.push { cls := .type "tuple", data := .seq #[a, b] } }) (by exact hh) hT fun s₂ e W st hfp hwr hold => ?_)
  refine wpAny_bind (wpAny_newObj_type ?_)
  have hSf : s₂.heap.objs.size ∉ _ := fun hm => Nat.lt_irrefl _ (hfp _ hm)
  rw [hname]
  have k0 : ∀ c o, s.heap.get? c = some o → s₂.heap.get? c = some o := fun c o e => hold c o (Heap.get?_push_of_some _ e)
  refine wpAny_pure ⟨plainId_quiet F.plain_min_loop _, codeAny_min_loop_firstH W s.heap (fun c o e => hwr c o (Heap.get?_push_of_some _ e)) bt hc s₂.heap.objs.size hSf (fresh_in k0) [] (show 0 < 2 by decide) (fun c o e => Heap.get?_push_of_some _ (k0 c o e)) (W.frame _ _ _ _ st (Nat.le_refl _) fun c _ o e => Heap.get?_push_of_some _ e) (Heap.get?_push_size _ rfl) fun v s' hP hm => ?_⟩
  have m := Moved.drop_new (tk := s₂.toks) hm (Nat.le_refl _)
  obtain ⟨h', tk, e', hk'⟩ := moved_old e rfl m
  subst e'
  have hv : v = if bt 1 0 = true then b else a := by
    have hP' : #[a, b][argBest bt 1]? = some v := hP
    have e1 : argBest bt 1 = if bt 1 0 = true then 1 else 0 := rfl
    rw [e1] at hP'
    by_cases z : bt 1 0 = true
    · rw [if_pos z] at hP' ⊢; simpa using hP'.symm
    · rw [if_neg z] at hP' ⊢; simpa using hP'.symm
  rw [hv]
  exact h h' tk fun c o e => hk' c o (Heap.get?_push_of_some _ e)
end
theorem lexAt_lt {a b c d : Int} : Ob.lexAt (fun j => decide ([a, b].getD j 0 = [c, d].getD j 0)) (fun j => decide ([a, b].getD j 0 < [c, d].getD j 0)) (decide (2 < 2)) 0 (min 2 2) = ltP ⟨a, b⟩ ⟨c, d⟩ := by
  show Ob.lexAt _ _ _ 0 2 = _
  rw [Ob.lexAt_succ, Ob.lexAt_succ, Ob.lexAt_zero]
  unfold ltP
  simp only [List.getD_eq_getElem?_getD, List.getElem?_cons_zero, List.getElem?_cons_succ, Option.getD_some, decide_eq_true_eq]
  rcases Int.lt_trichotomy a c with z | z | z
  · have z1 : ¬ a = c := by omega
    simp [z, z1]
  · subst z
    by_cases y : b = d
    · subst y; simp
    · simp [y]
  · have z1 : ¬ a = c := by omega
    have z3 : ¬ a < c := by omega
    simp [z1, z3]
theorem lexAt_gt {a b c d : Int} : Ob.lexAt (fun j => decide ([a, b].getD j 0 = [c, d].getD j 0)) (fun j => decide ([c, d].getD j 0 < [a, b].getD j 0)) (decide (2 < 2)) 0 (min 2 2) = ltP ⟨c, d⟩ ⟨a, b⟩ := by
  show Ob.lexAt _ _ _ 0 2 = _
  rw [Ob.lexAt_succ, Ob.lexAt_succ, Ob.lexAt_zero]
  unfold ltP
  simp only [List.getD_eq_getElem?_getD, List.getElem?_cons_zero, List.getElem?_cons_succ, Option.getD_some, decide_eq_true_eq]
  rcases Int.lt_trichotomy c a with z | z | z
  · have z1 : ¬ a = c := by omega
    have z2 : ¬ c = a := by omega
    simp [z, z1]
  · subst z
    by_cases y : b = d
    · subst y; simp
    · have : ¬ d = b := fun e => y e.symm
      simp [y]
  · have z1 : ¬ a = c := by omega
    have z2 : ¬ c = a := by omega
    have z3 : ¬ c < a := by omega
    simp [z1, z2, z3]
section
variable {Xc : Cx}
open PySem.W in
theorem cmp_pair {A : Around} {s : Shared} {l1 l2 : Addr} {i1 i2 : List Value} {p q : T2 Int Int} (hu : A.units < cLine) (h1 : s.heap.IsTuple l1 i1.toArray) (h2 : s.heap.IsTuple l2 i2.toArray) (n1 : IntsAre i1 [p.a, p.b]) (n2 : IntsAre i2 [q.a, q.b]) :
    Ob.RcOp .Lt A s (.ref l1) (.ref l2) (ltP p q) ∧ Ob.RcOp .Gt A s (.ref l1) (.ref l2) (ltP q p) := by
  have at1 : ∀ j (h1 : j < i1.toArray.size), ∃ t, i1.toArray[j] = .int ([p.a, p.b].getD j 0) t := fun j h1 => PyProof.Rows.IntsAre.int_at n1 _ _ (by simp at h1; simp [h1])
  have at2 : ∀ j (h1 : j < i2.toArray.size), ∃ t, i2.toArray[j] = .int ([q.a, q.b].getD j 0) t := fun j h1 => PyProof.Rows.IntsAre.int_at n2 _ _ (by simp at h1; simp [h1])
  have e1 : i1.toArray.size = 2 := by rw [List.size_toArray]; exact n1.length
  have e2 : i2.toArray.size = 2 := by rw [List.size_toArray]; exact n2.length
  have he : ∀ j (h1 : j < i1.toArray.size) (h2 : j < i2.toArray.size), SeqAt.EqAt A.in1 s i1.toArray[j] i2.toArray[j] (decide ([p.a, p.b].getD j 0 = [q.a, q.b].getD j 0)) := fun j h1 h2 => by
    obtain ⟨t, et⟩ := at1 j h1
    obtain ⟨t', et'⟩ := at2 j h2
    rw [et, et']
    have z : ([p.a, p.b].getD j 0 == [q.a, q.b].getD j 0) = decide ([p.a, p.b].getD j 0 = [q.a, q.b].getD j 0) := by
      by_cases y : [p.a, p.b].getD j 0 = [q.a, q.b].getD j 0
      · rw [decide_eq_true y]; exact beq_iff_eq.mpr y
      · rw [decide_eq_false y]; exact beq_eq_false_iff_ne.mpr y
    rw [← z]
    exact SeqAt.EqAt.int_int _ _ _ _
  have R1 := Ob.RcOp.tuples_lt (r := fun j => decide ([p.a, p.b].getD j 0 < [q.a, q.b].getD j 0)) h1 h2 hu he fun j h1 h2 _ => by
    obtain ⟨t, et⟩ := at1 j h1
    obtain ⟨t', et'⟩ := at2 j h2
    rw [et, et']
    exact Ob.RcOp.lt_int _ _ _ _
  have R2 := Ob.RcOp.tuples_gt (r := fun j => decide ([q.a, q.b].getD j 0 < [p.a, p.b].getD j 0)) h1 h2 hu he fun j h1 h2 _ => by
    obtain ⟨t, et⟩ := at1 j h1
    obtain ⟨t', et'⟩ := at2 j h2
    rw [et, et']
    exact Ob.RcOp.gt_int _ _ _ _
  rw [e1, e2] at R1 R2
  rw [lexAt_lt] at R1
  rw [show decide (2 > 2) = decide (2 < 2) from rfl, lexAt_gt] at R2
  exact ⟨R1, R2⟩
def rMaxP (K : PySem.W.Frag) : List V → Hp → VK → Prop := fun xs H Q => ∃ (a b : Addr) (p q : T2 Int Int), xs = [.ref a, .ref b] ∧ SqT K H a [.int p.a, .int p.b] ∧ SqT K H b [.int q.a, .int q.b] ∧ Q (if ltP p q = true then .ref b else .ref a) H
open PySem.W in
theorem call_maxP (hu : Xc.A.units + 64 < cLine) (hc : Xc.calm = true) : CallR Xc (.builtin "max") (rMaxP Xc.K) := by
  intro pins s σ H xs us Q I r h
  obtain ⟨a, b, p, q, rfl, ha, hb, k⟩ := h
  obtain ⟨u, w', rfl, e1, e2⟩ := vals2 r
  cases (show u = Value.ref a from e1)
  cases (show w' = Value.ref b from e2)
  obtain ⟨i1, r1, t1, _⟩ := I.tuple ha
  obtain ⟨i2, r2, t2, _⟩ := I.tuple hb
  have n1 : IntsAre i1 [p.a, p.b] := Vals.ints (ns := [p.a, p.b]) r1
  have n2 : IntsAre i2 [q.a, q.b] := Vals.ints (ns := [q.a, q.b]) r2
  have up : ∀ {s' : Shared} {l : Addr} {its : Array Value}, (∀ c o, s.heap.get? c = some o → s'.heap.get? c = some o) → s.heap.IsTuple l its → s'.heap.IsTuple l its := fun hk ⟨o, ho, hc, n, hd⟩ => ⟨o, hk _ _ ho, hc, n, hd⟩
  have hu1 : (Xc.A.in1).units < cLine := by show Xc.A.units + 1 < cLine; omega
  refine call_max_twoH (I.ok.hd hc) (fun i j => if i = j then false else if i = 1 then ltP p q else ltP q p) (fun i j vi vj s' Q E hk hi hj hq => ?_) fun h' tk k' => ⟨_, H, I.kept k', ?_, k⟩
  · have at2 : ∀ {i v}, #[Value.ref a, Value.ref b][i]? = some v → (i = 0 ∧ v = .ref a) ∨ (i = 1 ∧ v = .ref b) := fun {i v} h => by
      match i with
      | 0 => exact .inl ⟨rfl, by simpa using h.symm⟩
      | 1 => exact .inr ⟨rfl, by simpa using h.symm⟩
      | n + 2 => simp at h
    have self : ∀ (x : T2 Int Int), ltP x x = false := fun x => by simp [ltP]
    rcases at2 hi with ⟨rfl, rfl⟩ | ⟨rfl, rfl⟩ <;> rcases at2 hj with ⟨rfl, rfl⟩ | ⟨rfl, rfl⟩
    · have := (cmp_pair (s := s') hu1 (up hk t1) (up hk t1) n1 n1).2
      rw [self] at this
      exact this Xc.prog Xc.w E Q hq
    · exact (cmp_pair (s := s') hu1 (up hk t1) (up hk t2) n1 n2).2 Xc.prog Xc.w E Q hq
    · exact (cmp_pair (s := s') hu1 (up hk t2) (up hk t1) n2 n1).2 Xc.prog Xc.w E Q hq
    · have := (cmp_pair (s := s') hu1 (up hk t2) (up hk t2) n2 n2).2
      rw [self] at this
      exact this Xc.prog Xc.w E Q hq
  · show RelV _ (if ltP p q = true then Value.ref b else Value.ref a)
    split <;> rfl
theorem x_maxP {C : Cn} {X : Addr → Prop} {H : Hp} {Q : VK} {p q : T2 Int Int} {u v : V} (r : Rep C.K X H (enc p) u) (t : Rep C.K X H (enc q) v) (h : ∀ w, Rep C.K X H (enc (maxP p q)) w → Q w H) : rMaxP C.K [u, v] H Q := by
  obtain ⟨a, ea, ha⟩ := rep_it r
  obtain ⟨b, eb, hb⟩ := rep_it t
  subst ea eb
  refine ⟨a, b, p, q, rfl, ha, hb, h _ ?_⟩
  unfold maxP
  by_cases z : ltP p q = true
  · rw [if_pos z, if_pos z]; exact t
  · rw [if_neg z, if_neg z]; exact r
def rMinP (K : PySem.W.Frag) : List V → Hp → VK → Prop := fun xs H Q => ∃ (a b : Addr) (p q : T2 Int Int), xs = [.ref a, .ref b] ∧ SqT K H a [.int p.a, .int p.b] ∧ SqT K H b [.int q.a, .int q.b] ∧ Q (if ltP q p = true then .ref b else .ref a) H
open PySem.W in
theorem call_minP (hu : Xc.A.units + 64 < cLine) (hc : Xc.calm = true) : CallR Xc (.builtin "min") (rMinP Xc.K) := by
  intro pins s σ H xs us Q I r h
  obtain ⟨a, b, p, q, rfl, ha, hb, k⟩ := h
  obtain ⟨u, w', rfl, e1, e2⟩ := vals2 r
  cases (show u = Value.ref a from e1)
  cases (show w' = Value.ref b from e2)
  obtain ⟨i1, r1, t1, _⟩ := I.tuple ha
  obtain ⟨i2, r2, t2, _⟩ := I.tuple hb
  have n1 : IntsAre i1 [p.a, p.b] := Vals.ints (ns := [p.a, p.b]) r1
  have n2 : IntsAre i2 [q.a, q.b] := Vals.ints (ns := [q.a, q.b]) r2
  have up : ∀ {s' : Shared} {l : Addr} {its : Array Value}, (∀ c o, s.heap.get? c = some o → s'.heap.get? c = some o) → s.heap.IsTuple l its → s'.heap.IsTuple l its := fun hk ⟨o, ho, hc, n, hd⟩ => ⟨o, hk _ _ ho, hc, n, hd⟩
  have hu1 : (Xc.A.in1).units < cLine := by show Xc.A.units + 1 < cLine; omega
  refine call_min_twoH (I.ok.hd hc) (fun i j => if i = j then false else if i = 1 then ltP q p else ltP p q) (fun i j vi vj s' Q E hk hi hj hq => ?_) fun h' tk k' => ⟨_, H, I.kept k', ?_, k⟩
  · have at2 : ∀ {i v}, #[Value.ref a, Value.ref b][i]? = some v → (i = 0 ∧ v = .ref a) ∨ (i = 1 ∧ v = .ref b) := fun {i v} h => by
      match i with
      | 0 => exact .inl ⟨rfl, by simpa using h.symm⟩
      | 1 => exact .inr ⟨rfl, by simpa using h.symm⟩
      | n + 2 => simp at h
    have self : ∀ (x : T2 Int Int), ltP x x = false := fun x => by simp [ltP]
    rcases at2 hi with ⟨rfl, rfl⟩ | ⟨rfl, rfl⟩ <;> rcases at2 hj with ⟨rfl, rfl⟩ | ⟨rfl, rfl⟩
    · have := (cmp_pair (s := s') hu1 (up hk t1) (up hk t1) n1 n1).1
      rw [self] at this
      exact this Xc.prog Xc.w E Q hq
    · exact (cmp_pair (s := s') hu1 (up hk t1) (up hk t2) n1 n2).1 Xc.prog Xc.w E Q hq
    · exact (cmp_pair (s := s') hu1 (up hk t2) (up hk t1) n2 n1).1 Xc.prog Xc.w E Q hq
    · have := (cmp_pair (s := s') hu1 (up hk t2) (up hk t2) n2 n2).1
      rw [self] at this
      exact this Xc.prog Xc.w E Q hq
  · show RelV _ (if ltP q p = true then Value.ref b else Value.ref a)
    split <;> rfl
theorem x_minP {C : Cn} {X : Addr → Prop} {H : Hp} {Q : VK} {p q : T2 Int Int} {u v : V} (r : Rep C.K X H (enc p) u) (t : Rep C.K X H (enc q) v) (h : ∀ w, Rep C.K X H (enc (minP p q)) w → Q w H) : rMinP C.K [u, v] H Q := by
  obtain ⟨a, ea, ha⟩ := rep_it r
  obtain ⟨b, eb, hb⟩ := rep_it t
  subst ea eb
  refine ⟨a, b, p, q, rfl, ha, hb, h _ ?_⟩
  unfold minP
  by_cases z : ltP q p = true
  · rw [if_pos z, if_pos z]; exact t
  · rw [if_neg z, if_neg z]; exact r
/-! ### is of bools -/
def rIsBX : R2 := fun x y H Q => ∃ a b : Bool, x = .bl a ∧ y = .bl b ∧ Q (.bl (decide (a = b))) H
def rNotBX : R2 := fun x y H Q => ∃ a b : Bool, x = .bl a ∧ y = .bl b ∧ Q (.bl (!decide (a = b))) H
theorem op_isBX : OpR Xc (compareOp .Is) rIsBX := op_isBl
theorem op_notBX : OpR Xc (compareOp .IsNot) rNotBX := op_notBl
theorem x_isBX {H : Hp} {Q : VK} {a b : Bool} (h : Q (.bl (decide (a = b))) H) : rIsBX (.bl a) (.bl b) H Q := ⟨a, b, rfl, rfl, h⟩
theorem x_notBX {H : Hp} {Q : VK} {a b : Bool} (h : Q (.bl (!decide (a = b))) H) : rNotBX (.bl a) (.bl b) H Q := ⟨a, b, rfl, rfl, h⟩
end
theorem pi_listK {K : PySem.W.Frag} {X : Cx} {tg l : Expr} {tl : TE} (hK : X.K = K) (hl : PE X l tl) : PI X tg l (iList K tl) := by subst hK; exact pi_list hl
theorem pi_tupK {K : PySem.W.Frag} {X : Cx} {tg l : Expr} {tl : TE} (hK : X.K = K) (hl : PE X l tl) : PI X tg l (iTup K tl) := by subst hK; exact pi_tup hl
theorem lookup_relabel_fc {env : Env} : ∀ {names : List (Str × NameKind)} {x : Str}, names.lookup x = some .cell ∨ names.lookup x = some .free →
    (names.map fun (n, k) => if (k == NameKind.free && env.scope.kind == .function && env.kindOf n == some .cell) then (n, NameKind.cell) else (n, k)).lookup x = some .cell ∨ (names.map fun (n, k) => if (k == NameKind.free && env.scope.kind == .function && env.kindOf n == some .cell) then (n, NameKind.cell) else (n, k)).lookup x = some .free
  | [], _, h => by simp at h
  | (n, k) :: r, x, h => by
    have ih := @lookup_relabel_fc env r x
    show List.lookup x ((if (k == NameKind.free && env.scope.kind == .function && env.kindOf n == some .cell) = true then (n, NameKind.cell) else (n, k)) :: _) = _ ∨ List.lookup x ((if (k == NameKind.free && env.scope.kind == .function && env.kindOf n == some .cell) = true then (n, NameKind.cell) else (n, k)) :: _) = _
    cases hx : x == n with
    | true =>
      simp only [List.lookup_cons, hx] at h
      by_cases hc : (k == NameKind.free && env.scope.kind == .function && env.kindOf n == some .cell) = true
      · rw [if_pos hc]; left; simp [List.lookup_cons, hx]
      · rw [if_neg hc]; simp only [List.lookup_cons, hx]; exact h
    | false =>
      simp only [List.lookup_cons, hx] at h
      by_cases hc : (k == NameKind.free && env.scope.kind == .function && env.kindOf n == some .cell) = true
      · rw [if_pos hc]; simp only [List.lookup_cons, hx]; exact ih h
      · rw [if_neg hc]; simp only [List.lookup_cons, hx]; exact ih h
theorem blkOk_in {N : List Str} {scope0 scope : Scope} {own : List (Str × Nat)} {cl : List (Str × Addr)} {C : Addr} {env : Env} (h : blkC N scope0 scope own = true) : BlkOk N (compEnvC scope0 cl C env).scope scope own := by
  have b := blkOk_by h
  exact ⟨b.kind, b.uniq, b.ix, fun y hy e => lookup_relabel_fc (b.free y hy e), b.own⟩
/-! ### chains of two comparisons -/
section
variable {C : Cn} {X : Addr → Prop} {H : Hp} {σ : L2.St} {Γ Γ' : List Sl} {Q : VK} {α β ρ : Type}
def KCh (tc : TE) (r' : R2) (σ : L2.St) (y : V) (Q : VK) : VK := fun z H3 => ∃ k, z = .bl k ∧ (if k = true then tc σ H3 fun w' H4 => r' y w' H4 Q else Q (.bl false) H3)
theorem x_chain {r r' : R2} {ta tb tc : TE} (h : ta σ H fun x H1 => tb σ H1 fun y H2 => r x y H2 (KCh tc r' σ y Q)) : tChain r r' ta tb tc σ H Q := h
theorem x_chP {A B : Bool} {tc : TE} {r' : R2} {y : V} (hu : ∀ Q' : VK, Q' (.bl B) H → tc σ H fun w H4 => r' y w H4 Q') (h : Q (.bl (A && B)) H) : KCh tc r' σ y Q (.bl A) H := by
  refine ⟨A, rfl, ?_⟩
  cases A with
  | true => exact hu Q h
  | false => exact h
/-! ### xs.reverse() -/
theorem x_reverse [Py α] {xs : List α} {i : Nat} {p : Addr} (L : Lo C X H σ Γ) (g : Γ[i]? = some (.mu p (ml xs))) (e : Γ.set i (.mu p (ml xs.reverse)) = Γ')
    (h : ∀ H1, Lo C X H1 σ Γ' → (∀ d u, Rep C.K X H d u → Rep C.K X H1 d u) → Q .non H1) : rReverse (.ref p) [] H Q := by
  subst e
  obtain ⟨vs, hs, rs⟩ := L.mrep g
  obtain ⟨L1, le⟩ := L.write (es := xs.reverse.map enc) (ws := vs.reverse) g hs (by rw [List.map_reverse]; exact rs.reverse)
  exact ⟨p, vs, rfl, rfl, hs, h _ L1 le⟩
/-! ### a list of the body's own is lent to a call that keeps nothing of it -/
abbrev X0 : Addr → Prop := fun _ => False
theorem Rep.x0 {K : PySem.W.Frag} {d : PyData} {v : V} (r : Rep K X H d v) : Rep K X0 H d v := r.anti fun _ h => h.elim
theorem SqX.x0 {K : PySem.W.Frag} {ns : List Int} {v : V} (r : SqX K X H ns v) : SqX K X0 H ns v := r.anti fun _ h => h.elim
theorem Lo.lend (L : Lo C X H σ Γ) {i : Nat} {p : Addr} {ds : List PyData} (e : Γ[i]? = some (.mu p (.lst ds))) : Rep C.K X0 H (.list ds) (.ref p) := by
  obtain ⟨vs, h1, h2⟩ := L.mrep e
  exact .lst (fun h => h) (.inl h1) (h2.anti fun _ h => h.elim)
theorem Lo.condL (L : Lo C X H σ Γ) {Γa : List Sl} {vs : List V} (as : As C.K X0 H Γa vs) (e : muts Γa = []) : Cond C.K X0 H Γa vs := ⟨as, nd0 e, (by rw [e]; intro _ h; cases h), fun _ h => h.elim⟩
/-- data without a list in it -/
class Flat (α : Type) [Py α] : Prop where
  up : ∀ {K : PySem.W.Frag} {X Y : Addr → Prop} {H : Hp} {x : α} {v : V}, Rep K X H (enc x) v → Rep K Y H (enc x) v
instance : Flat Int := ⟨fun r => by cases r; exact .int _⟩
instance : Flat Bool := ⟨fun r => by cases r; exact .bl _⟩
instance : Flat Str := ⟨fun r => by cases r; exact .str _⟩
instance {α β : Type} [Py α] [Py β] [Flat α] [Flat β] : Flat (T2 α β) := ⟨fun r => by
  cases r with | tup h q =>
    cases q with | cons a q => cases q with | cons b q => cases q; exact .tup h (.cons (Flat.up a) (.cons (Flat.up b) .nil))⟩
instance {α β γ : Type} [Py α] [Py β] [Py γ] [Flat α] [Flat β] [Flat γ] : Flat (T3 α β γ) := ⟨fun r => by
  cases r with | tup h q =>
    cases q with | cons a q => cases q with | cons b q => cases q with | cons c q => cases q; exact .tup h (.cons (Flat.up a) (.cons (Flat.up b) (.cons (Flat.up c) .nil)))⟩
theorem k0L {v : V} {H' : Hp} {rs : Rs} {ps : List (Addr × MO)} {G : Prop} (L : Lo C X H σ Γ) (F : Fin C.K X0 H [] ps rs v H') (h : Lo C X H' σ Γ → (∀ d u, Rep C.K X H d u → Rep C.K X H' d u) → G) : G := by
  have s : Same H H' := fun a o e => F.base a o e (by simp)
  exact h (L.same s) fun _ _ r => r.keep (.same s)
theorem k0Ld [Py α] [Flat α] {v : V} {H' : Hp} {x : α} {ps : List (Addr × MO)} {G : Prop} (L : Lo C X H σ Γ) (F : Fin C.K X0 H [] ps (.imm (enc x)) v H') (h : Lo C X H' σ Γ → (∀ d u, Rep C.K X H d u → Rep C.K X H' d u) → Rep C.K X H' (enc x) v → G) : G := by
  have s : Same H H' := fun a o e => F.base a o e (by simp)
  exact h (L.same s) (fun _ _ r => r.keep (.same s)) (Flat.up (show Rep C.K X0 H' (enc x) v from F.res))
end
/-! ### for x in [p, q, ..]: x.clear(), of lists of the body's own; a list parted -/
section
variable {C : Cn} {X : Addr → Prop} {H : Hp} {σ : L2.St} {Γ Γ' : List Sl} {Q : VK} {α : Type}
theorem x_clear {i : Nat} {p : Addr} {ds : List PyData} (L : Lo C X H σ Γ) (g : Γ[i]? = some (.mu p (.lst ds))) (e : Γ.set i (.mu p (.lst [])) = Γ')
    (h : ∀ H1, Lo C X H1 σ Γ' → (∀ d u, Rep C.K X H d u → Rep C.K X H1 d u) → Q .non H1) : rClear (.ref p) [] H Q := by
  subst e
  obtain ⟨vs, hs, rs⟩ := L.mrep g
  obtain ⟨L1, le⟩ := L.write (es := []) (ws := []) g hs .nil
  exact ⟨p, vs, rfl, rfl, hs, h _ L1 le⟩
theorem x_clr1 {i j : Nat} {p : Addr} {ds : List PyData} {N bk ct : L2.St → Hp → Prop} {rt : VK} (L : Lo C X H σ Γ) (hj : j < C.n) (g : Γ[i]? = some (.mu p (.lst ds))) (gj : Γ[j]? = some .unk) (e : Γ.set i (.mu p (.lst [])) = Γ')
    (h : ∀ σ' H', Lo C X H' σ' Γ' → N σ' H') : gName j (.ref p) σ H fun σ2 H2 => tDrop (tBM0 C.K "list" rClear (tVar j)) ⟨N, rt, bk, ct⟩ σ2 H2 := by
  have L1 : Lo C X H (σ.set j (some (.ref p))) Γ := by
    have := L.setS (i := j) (v := some (.ref p)) (s := .unk) rfl trivial hj
    rwa [show Γ.set j .unk = Γ from List.ext_getElem? fun k => by
      rw [List.getElem?_set]
      split
      · next z =>
        subst z
        have := (List.getElem?_eq_some_iff.mp gj).1
        rw [if_pos this, gj]
      · rfl] at this
  show tDrop (tBM0 C.K "list" rClear (tVar j)) ⟨N, rt, bk, ct⟩ (σ.set j (some (.ref p))) H
  refine x_drop (x_bm0 ?_)
  refine ⟨.ref p, ?_, ?_⟩
  · have hl : j < σ.length := by rw [L.len]; exact hj
    rw [List.getElem?_set_self hl]
  · exact x_tyM L1 g (x_clear L1 g e fun H1 L2 _ => h _ _ L2)
theorem x_refs {ps : List Addr} {G : Nat → List Sl} {g : TG} {tb : TS} {nx bk ct : L2.St → Hp → Prop} {rt : VK} (L : Lo C X H σ (G 0)) (hl : ps.length ≤ 16777216) (hG : ∀ k, k < ps.length → muts (G (k + 1)) = muts (G k))
    (body : ∀ k p, ps[k]? = some p → ∀ (H : Hp) (σ : L2.St) (N : L2.St → Hp → Prop), Lo ⟨C.K, X, H, muts (G k), C.n⟩ X H σ (G k) → (∀ X' σ' H', Lo ⟨C.K, X, H, muts (G k), C.n⟩ X' H' σ' (G (k + 1)) → N σ' H') → g (.ref p) σ H fun σ2 H2 => tb ⟨N, rt, nx, N⟩ σ2 H2)
    (done : ∀ σ' H', Lo C X H' σ' (G ps.length) → nx σ' H') : KLst (KForL C.K g tb ⟨nx, rt, bk, ct⟩ σ) (ps.map V.ref) H := by
  refine ⟨by rw [line_eq, List.length_map]; exact hl, fun a ha => ?_⟩
  have s : Same H (upd H a (.lst (ps.map V.ref))) := same_upd ha
  have na : ¬ X a := fun h => L.xd a h ha
  refine ⟨a, rfl, ⟨_, .inl (.inl upd_same)⟩, for_list (K := C.K) (a := a) (xs := ps.map V.ref) (fun i σ' H' => i ≤ ps.length ∧ Lo C X H' σ' (G i) ∧ Rd H' a (.lst (ps.map V.ref))) ⟨Nat.zero_le _, L.same s, .inl upd_same⟩ (fun i σ' H' _ h => .inl h.2.2) ?_ ?_⟩
  · rintro i y σ' H' hy ⟨hi, L', rd⟩
    rw [List.getElem?_map] at hy
    cases hp : ps[i]? with
    | none => rw [hp] at hy; cases hy
    | some p =>
      rw [hp] at hy
      cases hy
      have hk := (List.getElem?_eq_some_iff.mp hp).1
      refine body i p hp H' σ' _ L'.enter fun X' σ'' H'' L'' => ?_
      exact ⟨hk, L'.leave L'' (hG i hk), (L'.keep L'').rd na rd⟩
  · rintro σ' H' ⟨_, L', _⟩
    rw [List.length_map] at L'
    exact done _ _ L'
def un2 {α : Type} : List α → Option (T2 α α)
  | [a, b] => some ⟨a, b⟩
  | _ => none
def un3 {α : Type} : List α → Option (T3 α α α)
  | [a, b, c] => some ⟨a, b, c⟩
  | _ => none
def un4 {α : Type} : List α → Option (T4 α α α α)
  | [a, b, c, d] => some ⟨a, b, c, d⟩
  | _ => none
theorem un2_eq {xs : List α} {q : T2 α α} (h : un2 xs = some q) : xs = [q.a, q.b] := by
  unfold un2 at h
  split at h
  · cases h; rfl
  · cases h
theorem un3_eq {xs : List α} {q : T3 α α α} (h : un3 xs = some q) : xs = [q.a, q.b, q.c] := by
  unfold un3 at h
  split at h
  · cases h; rfl
  · cases h
theorem un4_eq {xs : List α} {q : T4 α α α α} (h : un4 xs = some q) : xs = [q.a, q.b, q.c, q.d] := by
  unfold un4 at h
  split at h
  · cases h; rfl
  · cases h
theorem x_gLst [Py α] {xs ys : List α} {v : V} {n : Nat} {t : TGs} {N : L2.St → Hp → Prop} (r : Rep C.K X H (enc xs) v) (e : xs = ys) (hl : ys.length = n) (h : ∀ vs, Reps C.K X H (ys.map enc) vs → t vs σ H N) : gLst C.K n t v σ H N := by
  subst e
  obtain ⟨a, vs, e, _, rd, q⟩ := rep_lst (ds := xs.map enc) r
  exact ⟨a, vs, e, .inl rd, by rw [q.length, List.length_map]; exact hl, h vs q⟩
end
theorem b2_small (c : Bool) : -(2 ^ 64) < b2 c ∧ b2 c < 2 ^ 64 := by cases c <;> decide
/-! ### data of new lists alone: told lists may be cleared -/
section
variable {C : Cn} {X : Addr → Prop} {H : Hp} {σ : L2.St} {Γ Γ' : List Sl} {Q : VK} {α β τ : Type}
theorem Lo.resl {s s' : Sl} (L : Lo C X H σ Γ) {i : Nat} (g : Γ[i]? = some s) (e : s'.ad = s.ad) (h : ∀ v, SlOk C.K X H v s → SlOk C.K X H v s') : Lo C X H σ (Γ.set i s') := by
  have hil : i < Γ.length := (List.getElem?_eq_some_iff.mp g).1
  have hm : muts (Γ.set i s') = muts Γ := by
    clear L h
    induction Γ generalizing i with
    | nil => simp at hil
    | cons t Γ ih => cases i with
      | zero =>
        simp at g; subst g
        show List.filterMap _ _ = List.filterMap _ _
        rw [List.set_cons_zero, List.filterMap_cons, List.filterMap_cons, e]
      | succ i =>
        have := ih (i := i) (by simpa using g) (by simpa using hil)
        unfold muts at this ⊢
        rw [List.set_cons_succ, List.filterMap_cons, List.filterMap_cons, this]
  refine ⟨L.len, fun j t hj => ?_, by rw [hm]; exact L.nd, fun p hp => L.mx p (hm ▸ hp), L.m0, L.xd, L.base, L.dom, fun p hp => L.own p (hm ▸ hp), L.tf⟩
  by_cases z : j = i
  · subst z
    rw [List.getElem?_set_self hil] at hj
    cases hj
    exact h _ (L.at_ j s g)
  · rw [List.getElem?_set_ne (Ne.symm z)] at hj
    exact L.at_ j t hj
mutual
theorem Rep.old {K : PySem.W.Frag} {Z : Addr → Prop} (hz : ∀ a, ¬ Z a → H a = none) : ∀ {d : PyData} {v : V}, Rep K X H d v → Rep K (fun b => X b ∨ ¬ Z b) H d v
  | _, _, .non => .non
  | _, _, .bl b => .bl b
  | _, _, .int i => .int i
  | _, _, .str x => .str x
  | _, _, .tup q r => .tup q (Reps.old hz r)
  | _, _, .lst n q r => .lst (fun z => z.elim n fun y => rd_nn q (hz _ y)) q (Reps.old hz r)
theorem Reps.old {K : PySem.W.Frag} {Z : Addr → Prop} (hz : ∀ a, ¬ Z a → H a = none) : ∀ {d : List PyData} {v : List V}, Reps K X H d v → Reps K (fun b => X b ∨ ¬ Z b) H d v
  | _, _, .nil => .nil
  | _, _, .cons r t => .cons (Rep.old hz r) (Reps.old hz t)
end
/-- the lists of now and those still to come -/
theorem Lo.mark (L : Lo C X H σ Γ) : ∃ Z : Addr → Prop, (∀ a, Z a ↔ H a = none) ∧ ∀ a, Z a → C.H0 a = none := by
  refine ⟨fun a => H a = none, fun _ => Iff.rfl, fun a h => ?_⟩
  cases e : C.H0 a with
  | none => rfl
  | some o => exact (L.dom a (by rw [e]; exact fun z => nomatch z) h).elim
theorem Lo.fix {Z : Addr → Prop} (L : Lo C X H σ Γ) (hz : ∀ a, Z a ↔ H a = none) {i : Nat} {d : PyData} (g : Γ[i]? = some (.imm d)) : Lo C X H σ (Γ.set i (.fix (fun b => ¬ Z b) d)) :=
  L.resl g rfl fun v ⟨u, e, r⟩ => ⟨u, e, r.old fun a y => (hz a).mp (Classical.not_not.mp y)⟩
theorem Lo.unfix {Z : Addr → Prop} (L : Lo C X H σ Γ) {i : Nat} {d : PyData} (g : Γ[i]? = some (.fix Z d)) : Lo C X H σ (Γ.set i (.imm d)) :=
  L.resl g rfl fun v ⟨u, e, r⟩ => ⟨u, e, r.anti fun _ => .inl⟩
theorem Lo.unZ {Z : Addr → Prop} {p : Addr} {ds : List PyData} (L : Lo C X H σ Γ) {i : Nat} (g : Γ[i]? = some (.mu p (.lstZ Z ds))) : Lo C X H σ (Γ.set i (.mu p (.lst ds))) :=
  L.resl g rfl fun v ⟨e, vs, h, r⟩ => ⟨e, vs, h, r.anti fun _ => .inl⟩
theorem x_vfx {i : Nat} {d : PyData} {Z : Addr → Prop} (L : Lo C X H σ Γ) (e : Γ[i]? = some (.fix Z d)) (h : ∀ v, Rep C.K X H d v → Q v H) : tVar i σ H Q := by
  obtain ⟨u, e1, r⟩ := L.at_ i _ e
  exact ⟨u, e1, h u (r.anti fun _ => .inl)⟩
/-- a slot that does not mind when a new list is written -/
def OldS (Z : Addr → Prop) : Sl → Prop
  | .unk => True
  | .ref _ => True
  | .scr _ => False
  | .imm d => ∀ (K : PySem.W.Frag) (X : Addr → Prop) (H : Hp) (u : V), Rep K X H d u → Rep K (fun _ => True) H d u
  | .fix Z' _ => ∀ a, Z' a → ¬ Z a
  | .mu _ (.lst ds) => ∀ (K : PySem.W.Frag) (X : Addr → Prop) (H : Hp) (us : List V), Reps K X H ds us → Reps K (fun _ => True) H ds us
  | .mu _ .any => True
  | _ => False
theorem OldS.dat [Py α] [Flat α] {Z : Addr → Prop} {x : α} : OldS Z (.imm (enc x)) := fun _ _ _ _ r => Flat.up r
theorem OldS.I {Z : Addr → Prop} {x : Int} : OldS Z (.imm (.int x)) := OldS.dat (x := x)
theorem OldS.B {Z : Addr → Prop} {x : Bool} : OldS Z (.imm (.bool x)) := OldS.dat (x := x)
theorem OldS.S {Z : Addr → Prop} {x : Str} : OldS Z (.imm (.str x)) := OldS.dat (x := x)
theorem Reps.flat [Py α] [Flat α] {K : PySem.W.Frag} {Y : Addr → Prop} : ∀ {xs : List α} {us : List V}, Reps K X H (xs.map enc) us → Reps K Y H (xs.map enc) us
  | [], _, .nil => .nil
  | _ :: _, _, .cons r t => .cons (Flat.up r) (Reps.flat t)
theorem OldS.lst [Py α] [Flat α] {Z : Addr → Prop} {p : Addr} {xs : List α} : OldS Z (.mu p (.lst (xs.map enc))) := fun _ _ _ _ r => r.flat
theorem keepAll {b : Addr} {us : List V} {o : HO} (h : H b = some (.lst us)) : Keep (fun a => a = b) H (upd H b o) :=
  ⟨fun a u e n => by rw [upd_ne n]; exact e, fun a vs e => by rw [upd_ne (fun z => by rw [z, h] at e; cases e)]; exact e, fun a u w e => by rw [upd_ne (fun z => by rw [z, h] at e; cases e)]; exact e⟩
theorem Lo.clrZ {Z : Addr → Prop} {b : Addr} {us : List V} (L : Lo C X H σ Γ) (h0 : C.H0 b = none) (nb : ¬ X b) (zb : Z b) (h : H b = some (.lst us)) (old : ∀ s ∈ Γ, OldS Z s) : Lo C X (upd H b (.lst [])) σ Γ := by
  have k := keepAll (o := .lst []) h
  have hd : ∀ a, H a ≠ none → upd H b (.lst []) a ≠ none := fun a e => by
    by_cases z : a = b
    · rw [z, upd_same]; exact fun y => nomatch y
    · rw [upd_ne z]; exact e
  refine ⟨L.len, fun i s hi => ?_, L.nd, L.mx, L.m0, fun a z => hd a (L.xd a z), fun a u e n => ?_, fun a e => hd a (L.dom a e), L.own, L.tf⟩
  · have hs := L.at_ i s hi
    have ho := old s (List.mem_of_getElem? hi)
    have hx : ∀ p, s.ad = some p → p ≠ b := fun p e z => nb (z ▸ L.mx p (mem_muts.mpr ⟨i, s, hi, e⟩))
    cases s with
    | unk => trivial
    | ref a => exact hs
    | scr ns => exact ho.elim
    | imm d =>
      obtain ⟨u, e, r⟩ := hs
      exact ⟨u, e, ((ho _ _ _ _ r).keep (k.mono fun _ _ => trivial)).anti fun _ _ => trivial⟩
    | fixN Z' d => exact ho.elim
    | lax i j => exact ho.elim
    | fix Z' d =>
      obtain ⟨u, e, r⟩ := hs
      exact ⟨u, e, r.keep (k.mono fun a z => .inr fun y => ho a y (z ▸ zb))⟩
    | mu p o =>
      obtain ⟨e, r⟩ := hs
      refine ⟨e, ?_⟩
      have hp : upd H b (.lst []) p = H p := upd_ne (hx p rfl)
      cases o with
      | lst ds =>
        obtain ⟨vs, hv, r⟩ := r
        exact ⟨vs, hp.trans hv, ((ho _ _ _ _ r).keep (k.mono fun _ _ => trivial)).anti fun _ _ => trivial⟩
      | lstZ _ _ => exact ho.elim
      | dct _ => exact ho.elim
      | ex _ => exact ho.elim
      | any =>
        obtain ⟨vs, hv⟩ := r
        exact ⟨vs, hp.trans hv⟩
    | tmp p o => exact ho.elim
  · rw [upd_ne fun z => by rw [z, h0] at e; cases e]
    exact L.base a u e n
theorem atI_zero {x : α} {xs : List α} : atI (x :: xs) 0 = some x := by
  unfold atI ixN
  simp
/-- for x in xs: x[0].clear(), of a told list of new ones -/
theorem x_dclrs [Py α] [Py β] {γ : Type} [Py γ] {zs : List (T3 (List α) β γ)} {Z : Addr → Prop} {i j : Nat} {p : Addr} {nx bk ct : L2.St → Hp → Prop} {rt : VK} (L : Lo C X H σ Γ) (hZ : ∀ a, Z a → C.H0 a = none) (hj : j < C.n)
    (g : Γ[i]? = some (.mu p (.lstZ Z (zs.map enc)))) (gj : Γ[j]? = some .unk) (old : ∀ s ∈ Γ.set i (.mu p .any), OldS Z s) (e : Γ.set i (.mu p .any) = Γ') (done : ∀ σ' H', Lo C X H' σ' Γ' → nx σ' H') :
    KForL C.K (gName j) (tDrop (tBM0 C.K "list" rClear (tOp (rIxT C.K) (tVar j) (tC (.int 0))))) ⟨nx, rt, bk, ct⟩ σ (.ref p) H := by
  subst e
  have hil : i < Γ.length := (List.getElem?_eq_some_iff.mp g).1
  have ne : i ≠ j := fun z => by subst z; rw [g] at gj; cases gj
  obtain ⟨_, vs, hv, rv⟩ := L.at_ i _ g
  have Xp : X p := L.mx p (mem_muts.mpr ⟨i, _, g, rfl⟩)
  have L1 : Lo C X H σ (Γ.set i (.mu p .any)) := L.resl g rfl fun v ⟨e, vs, h, _⟩ => ⟨e, vs, h⟩
  have gj1 : (Γ.set i (Sl.mu p .any))[j]? = some .unk := by rw [List.getElem?_set_ne ne]; exact gj
  have pieces : ∀ (zs : List (T3 (List α) β γ)) (vs : List V), Reps C.K (NewX X Z H) H (zs.map enc) vs → ∀ y ∈ vs, ∃ a b rest us, y = .ref a ∧ SqT C.K H a (.ref b :: rest) ∧ ¬ X b ∧ Z b ∧ H b = some (.lst us) := by
    intro zs
    induction zs with
    | nil => intro vs r y hy; cases r; cases hy
    | cons z zs ih =>
      intro vs r y hy
      cases r with
      | cons r t =>
        rcases List.mem_cons.mp hy with e | hy
        · subst e
          obtain ⟨a, ws, rfl, hs, q⟩ := rep_tup (ds := [enc z.a, enc z.b, enc z.c]) r
          cases q with
          | cons q1 q2 =>
            obtain ⟨b, us, rfl, nb, rd, _⟩ := rep_lst (ds := z.a.map enc) q1
            refine ⟨a, b, _, us, rfl, hs, fun h => nb (.inl h), Classical.not_not.mp fun h => nb (.inr (.inl h)), ?_⟩
            rcases rd with rd | ⟨o, rd⟩
            · exact rd
            · exact (nb (.inr (.inr ⟨_, _, rd⟩))).elim
        · exact ih _ t y hy
  refine ⟨p, rfl, ⟨vs, .inl (.inl hv)⟩, for_list (K := C.K) (a := p) (xs := vs) (fun k σ' H' => Lo C X H' σ' (Γ.set i (.mu p .any)) ∧ H' p = some (.lst vs) ∧ ∀ y ∈ vs, ∃ a b rest us, y = .ref a ∧ SqT C.K H' a (.ref b :: rest) ∧ ¬ X b ∧ Z b ∧ H' b = some (.lst us))
    ⟨L1, hv, pieces zs vs rv⟩ (fun k σ' H' _ h => .inl (.inl h.2.1)) ?_ fun σ' H' h => done _ _ h.1⟩
  rintro k y σ' H' hy ⟨L', hp, hpc⟩
  obtain ⟨a, b, rest, us, rfl, hs, nb, zb, rd⟩ := hpc y (List.mem_of_getElem? hy)
  have L2 : Lo C X H' (σ'.set j (some (.ref a))) (Γ.set i (.mu p .any)) := by
    have := L'.setS (i := j) (v := some (.ref a)) (s := .unk) rfl trivial hj
    rwa [show (Γ.set i (Sl.mu p .any)).set j .unk = Γ.set i (Sl.mu p .any) from List.ext_getElem? fun k => by
      rw [List.getElem?_set]
      split
      · next z =>
        subst z
        have := (List.getElem?_eq_some_iff.mp gj1).1
        rw [if_pos this, gj1]
      · rfl] at this
  have hl : j < σ'.length := by rw [L'.len]; exact hj
  refine x_drop (x_bm0 ?_)
  refine ⟨.ref a, by rw [List.getElem?_set_self hl], ?_⟩
  refine ⟨a, .ref b :: rest, 0, .ref b, rfl, rfl, hs, atI_zero, ?_⟩
  refine ⟨.inl ⟨rfl, us, .inl (.inl rd)⟩, ?_⟩
  refine ⟨b, us, rfl, rfl, rd, ?_⟩
  have kk := keepAll (o := .lst []) rd
  refine ⟨L2.clrZ (hZ b zb) nb zb rd old, ?_, fun y hy => ?_⟩
  · rw [upd_ne (show p ≠ b from fun z => nb (z ▸ Xp))]; exact hp
  · obtain ⟨a2, b2, rest2, us2, e2, hs2, nb2, zb2, rd2⟩ := hpc y hy
    by_cases z : b2 = b
    · exact ⟨a2, b2, rest2, [], e2, kk.sqT hs2, nb2, zb2, by rw [z, upd_same]⟩
    · exact ⟨a2, b2, rest2, us2, e2, kk.sqT hs2, nb2, zb2, by rw [upd_ne z]; exact rd2⟩
end
/-! ### a comprehension that tells new lists alone -/
section
variable {C : Cn} {X : Addr → Prop} {H H' : Hp} {σ : L2.St} {Γ Γ' : List Sl} {Q : VK} {α β τ ρ : Type}
def BodyCZ [Py β] (Z : Addr → Prop) (C : Cn) (X : Addr → Prop) (G : τ → List Sl) (d : PyData) (s : τ) (o : Option (Option β × τ)) (g : TG) (tt : TT) (te : TE) (vs : List Nat) : Prop :=
  ∀ (X : Addr → Prop) (H : Hp) (σ : L2.St) (u : V) (r : Option β × τ) (Qn : Hp → Prop) (Qy : VK), o = some r → Lo ⟨C.K, X, H, muts (G s), C.n⟩ X H σ (G s) → Rep C.K X H d u → (∀ a, ¬ Z a → H a ≠ none) →
    (r.1 = none → ∀ H', Lo ⟨C.K, X, H, muts (G s), C.n⟩ X H' σ (G r.2) → Qn H') →
    (∀ y, r.1 = some y → ∀ v H', Lo ⟨C.K, X, H, muts (G s), C.n⟩ X H' σ (G r.2) → Rep C.K (NewX X Z H') H' (enc y) v → Qy v H') →
    g u (wipe σ vs) H fun σ2 H2 => wipe σ2 vs = wipe σ vs ∧ tt σ2 H2 fun b H3 => if b = true then te σ2 H3 Qy else Qn H3
theorem x_lcL0Z {Z : Addr → Prop} [Py α] [Py β] {xs : List α} {f : α → τ → Option (Option β × τ)} {G : τ → List Sl} {s0 : τ} {q : List β × τ} {v : V} {g : TG} {tt : TT} {te : TE} {ws : List Nat}
    (L : Lo C X H σ (G s0)) (hG : ∀ s s', muts (G s) = muts (G s')) (r : Rep C.K X H (enc xs) v) (hm : compL f xs s0 = some q) (hl : xs.length ≤ 16777216)
    (hz : ∀ a, ¬ Z a → H a ≠ none) (body : ∀ x s, BodyCZ Z C X G (enc x) s (f x s) g tt te ws)
    (done : ∀ D H', H D = none → C.H0 D = none → ¬ C.X0 D → Lo C (fun a => X a ∨ a = D) H' σ (G q.2) → Keep X H H' → MRep C.K (fun a => X a ∨ a = D) H' D (.lstZ Z (q.1.map enc)) → Q (.ref D) H') :
    KLcL C.K g tt te ws σ Q v H := by
  obtain ⟨a, us, rfl, hna, hrd, hrs⟩ := rep_lst (ds := xs.map enc) r
  refine ⟨a, rfl, ⟨us, .inl hrd⟩, fun D hD => ?_⟩
  have h0 : C.H0 D = none := by
    cases e : C.H0 D with
    | none => rfl
    | some o => exact (L.dom D (by rw [e]; exact fun z => nomatch z) hD).elim
  have hDm : ∀ s, D ∉ muts (G s) := fun s h => L.xd D (L.mx D (hG s s0 ▸ h)) hD
  have sm : Same H (upd H D (.lst [])) := same_upd hD
  have lay := L.lay (p := D) (o := .lst []) hD sm ⟨[], upd_same, .nil⟩
  have L1 : Lo C (fun a => X a ∨ a = D) (upd H D (.lst [])) σ (G s0) := by
    refine ⟨L.len, fun i s hi => ?_, L.nd, fun p hp => .inl (L.mx p hp), fun a h => .inl (L.m0 a h), lay.1.xd, lay.1.base, lay.1.dom, L.own, L.tf⟩
    refine lay.1.at_ i s ?_
    rw [List.getElem?_append_left (List.getElem?_eq_some_iff.mp hi).1]
    exact hi
  have hna' : ¬ (X a ∨ a = D) := fun h => h.elim hna fun e => by
    subst e
    exact rd_nn hrd hD
  refine lc_list (K := C.K) (a := a) (xs := us) (fun i H' => ∃ s ys acc q', Lo C (fun a => X a ∨ a = D) H' σ (G s) ∧ Reps C.K (fun a => X a ∨ a = D) H' (xs.map enc) us ∧ Rd H' a (.lst us) ∧ H' D = some (.lst acc) ∧ Reps C.K (NewX (fun a => X a ∨ a = D) Z H') H' (ys.map enc) acc ∧
      compL f (xs.drop i) s = some q' ∧ q = (ys ++ q'.1, q'.2) ∧ ys.length ≤ i ∧ Keep X H H' ∧ (∀ a, H a ≠ none → H' a ≠ none))
    ⟨s0, [], [], q, L1, (hrs.more hD).keep (.same sm), Keep.rd (.same sm) hna hrd, upd_same, .nil, hm, rfl, Nat.le_refl _, .same sm, fun a h => ?_⟩ (fun i H' _ ⟨s, ys, acc, q', _, _, h, _⟩ => .inl h) ?_ ?_
  · by_cases z : a = D
    · rw [z, upd_same]; exact fun y => nomatch y
    · rw [upd_ne z]; exact h
  · rintro i y H' hy ⟨s, ys, acc, q', L', hr', hd', hacc, hys, hq', eq, hyl, hk, hdm⟩
    obtain ⟨d, hd, rd⟩ := hr'.get' hy
    rw [List.getElem?_map] at hd
    cases hx : xs[i]? with
    | none => rw [hx] at hd; cases hd
    | some x =>
      rw [hx] at hd
      cases hd
      have hil : i < xs.length := (List.getElem?_eq_some_iff.mp hx).1
      obtain ⟨r1, q1, h1, h2, h3⟩ := comp_drop hx hq'
      refine body x s _ H' σ y r1 _ _ h1 L'.enter rd (fun a z => hdm a (hz a z)) ?_ ?_
      · intro e H'' M
        have k := L'.keep M
        have kd : H'' D = some (.lst acc) := M.base D _ hacc (hDm s)
        refine ⟨r1.2, ys, acc, q1, L'.leave M (hG _ _), hr'.keep k, k.rd hna' hd', kd, hys.keepF k, h2, ?_, Nat.le_succ_of_le hyl, ?_, fun a h => M.dom a (hdm a h)⟩
        · rw [eq, h3, e]
        · refine ⟨fun b o hb n => ?_, fun b vs hb => k.2.1 b vs (hk.2.1 b vs hb), fun b o u hb => k.2.2 b o u (hk.2.2 b o u hb)⟩
          have hbD : b ≠ D := fun z => by rw [z, hD] at hb; cases hb
          exact k.1 b o (hk.1 b o hb n) fun z => z.elim n hbD
      · intro yv e v H'' M rv
        have k := L'.keep M
        have kd : H'' D = some (.lst acc) := M.base D _ hacc (hDm s)
        have L2 := L'.leave M (hG _ _)
        obtain ⟨L3, k3⟩ := L2.wroteX (p := D) (o' := .lst (acc ++ [v])) (.inr rfl) (hDm _) kd h0 (fun _ z => nomatch z) (fun _ _ z => nomatch z)
        have k4 := k.trans k3
        have hal : acc.length = ys.length := by rw [hys.length, List.length_map]
        refine ⟨acc, kd, by rw [line_eq]; omega, r1.2, ys ++ [yv], acc ++ [v], q1, L3, hr'.keep k4, k4.rd hna' hd', upd_same, ?_, h2, ?_, ?_, ?_, ?_⟩
        · rw [List.map_append]
          exact (hys.keepF k4).append (.cons (rv.keepF k3) .nil)
        · rw [eq, h3, e]
          show (ys ++ yv :: q1.1, q1.2) = (ys ++ [yv] ++ q1.1, q1.2)
          rw [List.append_assoc]; rfl
        · rw [List.length_append]; exact Nat.succ_le_succ hyl
        · refine ⟨fun b o hb n => ?_, fun b vs hb => k4.2.1 b vs (hk.2.1 b vs hb), fun b o u hb => k4.2.2 b o u (hk.2.2 b o u hb)⟩
          have hbD : b ≠ D := fun z => by rw [z, hD] at hb; cases hb
          exact k4.1 b o (hk.1 b o hb n) fun z => z.elim n hbD
        · intro a h
          by_cases z : a = D
          · rw [z, upd_same]; exact fun y => nomatch y
          · rw [upd_ne z]; exact M.dom a (hdm a h)
  · rintro H' ⟨s, ys, acc, q', L', _, _, hacc, hys, hq', eq, _, hk, hdm⟩
    rw [hrs.length, List.length_map, List.drop_length] at hq'
    cases hq'
    rw [List.append_nil] at eq
    subst eq
    exact done D H' hD h0 (fun z => L.xd D (L.m0 D z) hD) L' hk ⟨acc, hacc, hys⟩

theorem x_lcLZ [Py α] [Py β] {Z : Addr → Prop} {xs : List α} {f : α → τ → Option (Option β × τ)} {v : V} {G : τ → List Sl} {s0 : τ} {q : List β × τ} {g : TG} {tt : TT} {te : TE} {ws : List Nat} (hz : ∀ a, ¬ Z a → H a ≠ none) (L : Lo C X H σ (G s0)) (hG : ∀ s s', muts (G s) = muts (G s')) (r : Rep C.K X H (enc xs) v) (hm : compL f xs s0 = some q) (hl : xs.length ≤ 16777216)
    (body : ∀ x s, BodyCZ Z C X G (enc x) s (f x s) g tt te ws) (h : ∀ D H', Lo C X H' σ (G q.2) → (∀ d u, Rep C.K X H d u → Rep C.K X H' d u) → Rep C.K (NewX X Z H') H' (enc q.1) (.ref D) → Q (.ref D) H') : KLcL C.K g tt te ws σ Q v H :=
  x_lcL0Z L hG r hm hl hz body (fun D H' hD h0 hx M k m => by
    obtain ⟨vs, h1, h2⟩ := m
    exact h D H' (M.xanti (fun _ h => .inl h) (fun p hp => L.mx p (hG q.2 s0 ▸ hp)) L.m0) (fun _ _ q => q.keep k)
      (.lst (fun z => z.elim (fun z => L.xd D z hD) fun z => z.elim (fun z => hz D z hD) fun ⟨_, _, z⟩ => by rw [h1] at z; cases z) (.inl h1) (h2.anti fun _ z => z.imp .inl id)))
theorem x_lcLNZ [Py α] [Py β] {Z : Addr → Prop} {xs : List α} {f : α → τ → Option (Option β × τ)} {v : V} {G : τ → List Sl} {s0 : τ} {q : List β × τ} {g : TG} {tt : TT} {te : TE} {ws : List Nat} (hz : ∀ a, ¬ Z a → H a ≠ none) (L : Lo C X H σ (G s0)) (hG : ∀ s s', muts (G s) = muts (G s')) (r : Rep C.K X H (enc xs) v) (hm : compL f xs s0 = some q) (hl : xs.length ≤ 16777216)
    (body : ∀ x s, BodyCZ Z C X G (enc x) s (f x s) g tt te ws) (h : ∀ D X' H', C.H0 D = none → ¬ C.X0 D → Lo C X' H' σ (G q.2 ++ [.tmp D (.lstZ Z (q.1.map enc))]) → (∀ d u, Rep C.K X H d u → Rep C.K X' H' d u) → Q (.ref D) H') : KLcL C.K g tt te ws σ Q v H :=
  x_lcL0Z L hG r hm hl hz body (fun D H' hD h0 hx M k m => h D _ H' h0 hx (L.addT hD h0 M (hG _ _) m) fun _ _ q => (q.more hD).keep (k.mono fun _ z => .inl z))
theorem x_cyZ [Py β] {Z X' : Addr → Prop} {σ2 : L2.St} {H' : Hp} {K : PySem.W.Frag} {n : Nat} {G : τ → List Sl} {s s' : τ} {Γ2 : List Sl} {y : β} {r : Option β × τ} {v : V} {Qy : VK} (er : r = (some y, s')) (hy : ∀ y, r.1 = some y → ∀ v H', Lo ⟨K, X, H, muts (G s), n⟩ X H' σ (G r.2) → Rep K (NewX X Z H') H' (enc y) v → Qy v H')
    (L : Lo ⟨K, X, H, muts (G s), n⟩ X H σ (G s)) (M : Lo ⟨K, X, H, muts (G s), n⟩ X' H' σ2 Γ2) (b : Bk (G s) Γ2 (G s')) (q : Rep K (NewX X' Z H') H' (enc y) v) : Qy v H' := by
  subst er
  exact hy y rfl v H' (L.back M b) (q.anti fun a z => z.imp (M.m0 a) id)
theorem x_mkTZ {Y : Hp → Addr → Prop} {ds : List PyData} {vs : List V} (L : Lo C X H σ Γ) (q : Reps C.K (Y H) H ds vs) (hk : ∀ H1, Same H H1 → Reps C.K (Y H) H ds vs → Reps C.K (Y H1) H1 ds vs) (hl : vs.length ≤ 16777216) (h : ∀ v H1, Lo C X H1 σ Γ → (∀ d u, Rep C.K X H d u → Rep C.K X H1 d u) → Rep C.K (Y H1) H1 (.tuple ds) v → Q v H1) : KTup Q vs H := by
  refine ⟨by rw [line_eq]; exact hl, fun p hp => ?_⟩
  have s : Same H (upd H p (.tup vs)) := same_upd hp
  exact h _ _ (L.same s) (fun _ _ r => r.keep (.same s)) (.tup upd_same (hk _ s q))
theorem x_mkTN {Z : Addr → Prop} {ds : List PyData} {vs : List V} (L : Lo C X H σ Γ) (q : Reps C.K (NewX X Z H) H ds vs) (hl : vs.length ≤ 16777216) (h : ∀ v H1, Lo C X H1 σ Γ → (∀ d u, Rep C.K X H d u → Rep C.K X H1 d u) → Rep C.K (NewX X Z H1) H1 (.tuple ds) v → Q v H1) : KTup Q vs H :=
  x_mkTZ (Y := NewX X Z) L q (fun _ s r => r.keepF (.same s)) hl h
theorem x_cTup3 {i j l : Nat} {u : V} {d1 d2 d3 : PyData} {tt : TT} {te : TE} {Qy : VK} {Qn : Hp → Prop} (L : Lo C X H σ Γ) (r : Rep C.K X H (.tuple [d1, d2, d3]) u) (hi : i < C.n) (hj : j < C.n) (hl : l < C.n) (n1 : i ≠ j) (n2 : i ≠ l) (n3 : j ≠ l) (e : ((Γ.set i (.imm d1)).set j (.imm d2)).set l (.imm d3) = Γ') (h : ∀ σ2, Lo C X H σ2 Γ' → tt σ2 H (KCt te σ2 Qy Qn)) :
    gTup C.K 3 (gCons (gName i) (gCons (gName j) (gCons (gName l) gNil))) u (wipe σ [i, j, l]) H fun σ2 H2 => wipe σ2 [i, j, l] = wipe σ [i, j, l] ∧ tt σ2 H2 fun b H3 => if b = true then te σ2 H3 Qy else Qn H3 := by
  subst e
  obtain ⟨a, vs, rfl, hs, q⟩ := rep_tup r
  cases q with
  | @cons _ _ v1 _ r1 q => cases q with
    | @cons _ _ v2 _ r2 q => cases q with
      | @cons _ _ v3 _ r3 q => cases q with
        | nil =>
          refine ⟨a, _, rfl, hs, rfl, v1, [v2, v3], rfl, v2, [v3], rfl, v3, [], rfl, rfl, ?_⟩
          have w : ∀ (τ : L2.St), wipe τ [i, j, l] = ((τ.set l none).set j none).set i none := fun _ => rfl
          have e3 : (((wipe σ [i, j, l]).set i (some v1)).set j (some v2)).set l (some v3) = ((σ.set i (some v1)).set j (some v2)).set l (some v3) := by
            rw [w]
            apply List.ext_getElem?
            intro k
            simp only [List.getElem?_set, List.length_set]
            repeat' split
            all_goals first | rfl | omega
          refine ⟨?_, ?_⟩
          · rw [e3, w, w]
            apply List.ext_getElem?
            intro k
            simp only [List.getElem?_set, List.length_set]
            repeat' split
            all_goals first | rfl | omega
          · have q := h _ (((L.set r1 hi).set r2 hj).set r3 hl)
            rw [← e3] at q
            exact q
theorem k0NZ {Z : Addr → Prop} {p : Addr} {H' : Hp} {ds : List PyData} {ps : List (Addr × MO)} {P : Prop} (hz : ∀ a, Z a ↔ H a = none) (L : Lo C X H σ Γ) (F : Fin C.K X H [] ps (.new (.lstZ (fun a => H a = none) ds)) (.ref p) H') (h : ∀ X', C.H0 p = none → ¬ C.X0 p → Lo C X' H' σ (Γ ++ [.tmp p (.lstZ Z ds)]) → (∀ d u, Rep C.K X H d u → Rep C.K X' H' d u) → P) : P := by
  have e : Z = fun a => H a = none := funext fun a => propext (hz a)
  subst e
  exact k0N L F h
theorem k0iZ {v : V} {H' : Hp} {ds : List PyData} {ps : List (Addr × MO)} {G : Prop} {Z : Addr → Prop} (L : Lo C X H σ Γ) (F : Fin C.K X H [] ps (.new (.lstZ Z ds)) v H') (h : Lo C X H' σ Γ → (∀ d u, Rep C.K X H d u → Rep C.K X H' d u) → Rep C.K X H' (.list ds) v → G) : G :=
  k0i L ⟨F.base, F.dom, F.mu, (by
    obtain ⟨p, e, hp, vs, h1, h2⟩ := F.res
    exact ⟨p, e, hp, vs, h1, h2.anti fun _ => .inl⟩ : RRep C.K X H H' (.new (.lst ds)) v)⟩ h
/-- a list of the body's own is lent to a call that tells new lists alone -/
theorem k0LZ {v : V} {H' : Hp} {ds : List PyData} {ps : List (Addr × MO)} {G : Prop} (L : Lo C X H σ Γ) (F : Fin C.K X0 H [] ps (.new (.lstZ (fun a => H a = none) ds)) v H') (h : Lo C X H' σ Γ → (∀ d u, Rep C.K X H d u → Rep C.K X H' d u) → Rep C.K X H' (.list ds) v → G) : G := by
  have s : Same H H' := fun a o e => F.base a o e (by simp)
  obtain ⟨p, rfl, hp, vs, h1, h2⟩ := F.res
  refine h (L.same s) (fun _ _ r => r.keep (.same s)) (.lst (fun z => L.xd p z hp) (.inl h1) (h2.anti fun a z => .inr (.inl (L.xd a z))))
end

/-! ### xs[::h], h a sign -/
def tStep (K : PySem.W.Frag) (te ts : TE) : TE := fun σ H Q => te σ H fun x H1 => tPart ts σ H1 fun o H2 => ∃ a xs i, x = .ref a ∧ o = some i ∧ SqL K H2 a xs ∧ (i = 1 ∨ i = -1) ∧ ∀ p, H2 p = none → Q (.ref p) (upd H2 p (.lst (if i = 1 then xs else xs.reverse)))
theorem pe_step {X : Cx} {e f : Expr} {te ts : TE} {p3 pos : Pos} (he : PE X e te) (hf : PE X f ts) : PE X (.Subscript e (.Slice none none (some f) p3) pos) (tStep X.K te ts) := by
  refine ⟨fun pins s σ H Q I h => ?_⟩
  refine Subscript_ (thn (he.run pins s σ H _ I h) fun v s1 ⟨x, H1, I1, r1, q1⟩ => ?_)
  refine wpAny_Slice (thn (po_none.run pins s1 σ H1 (fun o H2 => o = none ∧ H2 = H1) I1 ⟨rfl, rfl⟩) fun vl s2 ⟨l, H2, I2, pl, el, e2⟩ => ?_)
  subst el e2
  refine thn (po_none.run pins s2 σ H2 (fun o H3 => o = none ∧ H3 = H2) I2 ⟨rfl, rfl⟩) fun vu s3 ⟨u, H3, I3, pu, eu, e3⟩ => ?_
  subst eu e3
  refine thn ((po_some hf).run pins s3 σ H3 (fun o H4 => ∃ a xs i, x = .ref a ∧ o = some i ∧ SqL X.K H4 a xs ∧ (i = 1 ∨ i = -1) ∧ ∀ p, H4 p = none → Q (.ref p) (upd H4 p (.lst (if i = 1 then xs else xs.reverse)))) I3 q1) fun vs s4 ⟨o, H4, I4, ps, a, xs, i, ex, eo, hx, hi, q⟩ => ?_
  subst ex eo
  cases r1
  have I5 : Inv X pins σ H4 { s4 with heap := s4.heap.push { cls := .type "slice", data := .fields #[vl, vu, vs] } } := I4.kept (t' := s4.toks) fun b ob q => Heap.get?_push_of_some _ q
  obtain ⟨its, r, ht, hz⟩ := I5.list hx
  have hlen := r.length
  show wpAny (model X.prog X.w) X.A (subscriptTail e (.Slice none none (some f) p3) (.ref a) (.ref s4.heap.objs.size)) (EP X pins σ Q) X.xe { s4 with heap := s4.heap.push { cls := .type "slice", data := .fields #[vl, vu, vs] } }
  refine tail_any (ops := [.ref a, .ref s4.heap.objs.size]) ht.isList.typeIs (PySem.slot_list_getitem.lookup) ?_ (by with_unfolding_all rfl)
  refine wpAny_getItem_list_slice ht.isList (Heap.IsSliceOf.new _ vl vu vs) pl pu ps (by rcases hi with e | e <;> subst e <;> decide) ?_ (by rw [List.size_toArray]; omega)
  rcases hi with e | e
  · subst e
    rw [show slicePick its.toArray none none (some 1) = its.toArray from slicePick_all its.toArray]
    rw [if_pos rfl] at q
    refine ⟨.ref _, _, I5.laid (t' := s4.toks) (o := .lst xs) (fun b ob q => Heap.get?_push_of_some _ q) (Nat.le_refl _) ?_, rfl, q _ (I5.hok.fresh (Nat.le_refl _))⟩
    exact ⟨hz, _, 0, r, Heap.get?_push_size _ rfl⟩
  · subst e
    rw [PySem.W.krv_pick]
    rw [if_neg (by decide)] at q
    refine ⟨.ref _, _, I5.laid (t' := s4.toks) (o := .lst xs.reverse) (fun b ob q => Heap.get?_push_of_some _ q) (Nat.le_refl _) ?_, rfl, q _ (I5.hok.fresh (Nat.le_refl _))⟩
    exact ⟨by rw [List.length_reverse]; exact hz, _, 0, r.reverse, Heap.get?_push_size _ rfl⟩
/-- .. of data: a new list -/
def stepG {α : Type} (xs : List α) (i : Int) : Option (List α) := if i = 1 then some xs else if i = -1 then some xs.reverse else none
section
variable {C : Cn} {X : Addr → Prop} {H : Hp} {σ : L2.St} {Γ Γ' : List Sl} {Q : VK} {α ρ : Type}
theorem x_step {te ts : TE} (h : te σ H fun x H1 => ts σ H1 fun y H2 => ∃ i, y = .int i ∧ (∃ a xs j, x = .ref a ∧ some i = some j ∧ SqL C.K H2 a xs ∧ (j = 1 ∨ j = -1) ∧ ∀ p, H2 p = none → Q (.ref p) (upd H2 p (.lst (if j = 1 then xs else xs.reverse))))) : tStep C.K te ts σ H Q := h
theorem x_stepL [Py α] {xs : List α} {i : Int} {v : V} {k : List α → Option ρ} {res : ρ} (L : Lo C X H σ Γ) (hm : (stepG xs i).bind k = some res) (r : Rep C.K X H (enc xs) v)
    (h : ∀ ys w H1, k ys = some res → Lo C X H1 σ Γ → (∀ d u, Rep C.K X H d u → Rep C.K X H1 d u) → Rep C.K X H1 (enc ys) w → Q w H1) :
    ∃ i', V.int i = .int i' ∧ (∃ a xs j, v = .ref a ∧ some i' = some j ∧ SqL C.K H a xs ∧ (j = 1 ∨ j = -1) ∧ ∀ p, H p = none → Q (.ref p) (upd H p (.lst (if j = 1 then xs else xs.reverse)))) := by
  obtain ⟨ys, hy, hk⟩ := ob hm
  obtain ⟨a, us, rfl, na, rd, q⟩ := rep_lst (ds := xs.map enc) r
  have hi : i = 1 ∨ i = -1 := by
    unfold stepG at hy
    split at hy
    · exact .inl (by assumption)
    · split at hy
      · exact .inr (by assumption)
      · cases hy
  refine ⟨i, rfl, a, us, i, rfl, rfl, .inl rd, hi, fun p hp => ?_⟩
  have fin : ∀ (zs : List α) (ws : List V), Reps C.K X H (zs.map enc) ws → ys = zs → Q (.ref p) (upd H p (.lst ws)) := fun zs ws rz e => by
    subst e
    have s : Same H (upd H p (.lst ws)) := same_upd hp
    have rr : RRep C.K X H (upd H p (.lst ws)) (.new (.lst (ys.map enc))) (.ref p) := ⟨p, rfl, hp, ws, upd_same, (rz.more hp).keep (.same s)⟩
    exact h ys _ _ hk (L.same s) (fun _ _ r => r.keep (.same s)) (rr.imm L.xd)
  rcases hi with e | e
  · subst e
    rw [if_pos rfl]
    refine fin xs us q ?_
    unfold stepG at hy
    rw [if_pos rfl] at hy
    exact (Option.some.inj hy).symm
  · subst e
    rw [if_neg (by decide)]
    refine fin xs.reverse us.reverse (by rw [List.map_reverse]; exact q.reverse) ?_
    unfold stepG at hy
    rw [if_neg (by decide), if_pos rfl] at hy
    exact (Option.some.inj hy).symm
/-- a list of which nothing is known any more -/
theorem x_tyA {i : Nat} {p : Addr} {P : Prop} (L : Lo C X H σ Γ) (g : Γ[i]? = some (.mu p .any)) (h : P) : tyV C.K "list" (.ref p) H ∧ P := by
  obtain ⟨vs, hs⟩ := L.mrep g
  exact ⟨.inl ⟨rfl, vs, .inl (.inl hs)⟩, h⟩
theorem x_clearA {i : Nat} {p : Addr} (L : Lo C X H σ Γ) (g : Γ[i]? = some (.mu p .any)) (e : Γ.set i (.mu p (.lst [])) = Γ')
    (h : ∀ H1, Lo C X H1 σ Γ' → (∀ d u, Rep C.K X H d u → Rep C.K X H1 d u) → Q .non H1) : rClear (.ref p) [] H Q := by
  subst e
  obtain ⟨vs, hs⟩ := L.mrep g
  have hX : X p := L.mx p (mem_muts.mpr ⟨i, _, g, rfl⟩)
  have kp : Keep X H (upd H p (.lst [])) := ⟨fun a u h n => by rw [upd_ne (fun z => n (by rw [z]; exact hX))]; exact h, fun a us h => by rw [upd_ne (fun z => by rw [z, hs] at h; cases h)]; exact h, fun a u w h => by rw [upd_ne (fun z => by rw [z, hs] at h; cases h)]; exact h⟩
  obtain ⟨L1, le⟩ := L.wrote (H' := upd H p (.lst [])) (o := .lst []) g rfl (fun a u h n => by rw [upd_ne n]; exact h) (fun a h => by
      by_cases z : a = p
      · rw [z, upd_same]; exact fun y => nomatch y
      · rw [upd_ne z]; exact h) ⟨[], upd_same, .nil⟩
  exact ⟨p, vs, rfl, rfl, hs, h _ L1 le⟩
end
/-! ### a told tuple of new lists -/
section
variable {C : Cn} {X : Addr → Prop} {H : Hp} {σ : L2.St} {Γ Γ' : List Sl} {Q : VK} {α β τ : Type}
theorem Lo.unfixN {Z : Addr → Prop} (L : Lo C X H σ Γ) {i : Nat} {d : PyData} (g : Γ[i]? = some (.fixN Z d)) : Lo C X H σ (Γ.set i (.imm d)) :=
  L.resl g rfl fun v ⟨u, e, r⟩ => ⟨u, e, r.anti fun _ => .inl⟩
theorem x_vfn {i : Nat} {d : PyData} {Z : Addr → Prop} (L : Lo C X H σ Γ) (e : Γ[i]? = some (.fixN Z d)) (h : ∀ v, Rep C.K X H d v → Q v H) : tVar i σ H Q := by
  obtain ⟨u, e1, r⟩ := L.at_ i _ e
  exact ⟨u, e1, h u (r.anti fun _ => .inl)⟩
theorem x_setZ {Z : Addr → Prop} {d : PyData} {i : Nat} {v : V} {N : L2.St → Hp → Prop} (L : Lo C X H σ Γ) (r : Rep C.K (NewX X Z H) H d v) (hi : i < C.n) (e : Γ.set i (.fixN Z d) = Γ') (h : ∀ σ', Lo C X H σ' Γ' → N σ' H) : gName i v σ H N := by
  subst e
  exact h _ (L.setS (i := i) (v := some v) (s := .fixN Z d) rfl ⟨v, rfl, r⟩ hi)
theorem x_mkTS {ds : List PyData} {vs : List V} (L : Lo C X H σ Γ) (q : Reps C.K X H ds vs) (hl : vs.length ≤ 16777216) (h : ∀ v H1, Same H H1 → Lo C X H1 σ Γ → (∀ d u, Rep C.K X H d u → Rep C.K X H1 d u) → Rep C.K X H1 (.tuple ds) v → Q v H1) : KTup Q vs H := by
  refine ⟨by rw [line_eq]; exact hl, fun p hp => ?_⟩
  have s : Same H (upd H p (.tup vs)) := same_upd hp
  exact h _ _ s (L.same s) (fun _ _ r => r.keep (.same s)) (.tup upd_same (q.keep (.same s)))
theorem x_listZ [Py α] [Flat α] {Z : Addr → Prop} {xs : List α} {v : V} (hz : ∀ a, ¬ Z a → H a ≠ none) (L : Lo C X H σ Γ) (r : Rep C.K X H (enc xs) v) (h : ∀ v H1, Lo C X H1 σ Γ → (∀ d u, Rep C.K X H d u → Rep C.K X H1 d u) → Rep C.K (NewX X Z H1) H1 (enc xs) v → Q v H1) : rListX C.K [v] H Q := by
  obtain ⟨a, vs, rfl, _, hs, q⟩ := rep_lst (ds := xs.map enc) r
  refine ⟨a, vs, rfl, .inl (.inl hs), fun p hp => ?_⟩
  have s : Same H (upd H p (.lst vs)) := same_upd hp
  refine h _ _ (L.same s) (fun _ _ r => r.keep (.same s)) (.lst (fun z => z.elim (fun z => L.xd p z hp) fun z => z.elim (fun z => hz p z hp) fun ⟨_, _, z⟩ => by rw [upd_same] at z; cases z) (.inl upd_same) ?_)
  exact (q.keep (.same s)).flat
theorem k0dN {v : V} {H' : Hp} {d : PyData} {ps : List (Addr × MO)} {P : Prop} {Z : Addr → Prop} (hz : ∀ a, Z a ↔ H a = none) (L : Lo C X H σ Γ) (F : Fin C.K X H [] ps (.immN (fun a => H a = none) d) v H') (h : Lo C X H' σ Γ → (∀ d u, Rep C.K X H d u → Rep C.K X H' d u) → Rep C.K (NewX X Z H') H' d v → P) : P := by
  have e : Z = fun a => H a = none := funext fun a => propext (hz a)
  subst e
  have s : Same H H' := fun a o e => F.base a o e (by simp)
  exact h (L.same s) (fun _ _ r => r.keep (.same s)) F.res
/-- x[0].clear() -/
theorem x_dclr1 [Py α] [Py β] {γ : Type} [Py γ] {z : T3 (List α) β γ} {Z : Addr → Prop} {i : Nat} {nx bk ct : L2.St → Hp → Prop} {rt : VK} (L : Lo C X H σ Γ) (hZ : ∀ a, Z a → C.H0 a = none)
    (g : Γ[i]? = some (.fixN Z (enc z))) (old : ∀ s ∈ Γ.set i .unk, OldS Z s) (e : Γ.set i .unk = Γ') (done : ∀ H', Lo C X H' σ Γ' → nx σ H') :
    tDrop (tBM0 C.K "list" rClear (tOp (rIxT C.K) (tVar i) (tC (.int 0)))) ⟨nx, rt, bk, ct⟩ σ H := by
  subst e
  have L1 : Lo C X H σ (Γ.set i .unk) := L.resl g rfl fun _ _ => trivial
  obtain ⟨u, eu, r⟩ := L.at_ i _ g
  obtain ⟨a, ws, rfl, hs, q⟩ := rep_tup (ds := [enc z.a, enc z.b, enc z.c]) r
  cases q with
  | cons q1 q2 =>
    obtain ⟨b, us, rfl, nb, rd, _⟩ := rep_lst (ds := z.a.map enc) q1
    have rd' : H b = some (.lst us) := by
      rcases rd with rd | ⟨o, rd⟩
      · exact rd
      · exact (nb (.inr (.inr ⟨_, _, rd⟩))).elim
    have zb : Z b := Classical.not_not.mp fun h => nb (.inr (.inl h))
    refine x_drop (x_bm0 ?_)
    refine ⟨.ref a, eu, ?_⟩
    refine ⟨a, .ref b :: _, 0, .ref b, rfl, rfl, hs, atI_zero, ?_⟩
    refine ⟨.inl ⟨rfl, us, .inl (.inl rd')⟩, ?_⟩
    exact ⟨b, us, rfl, rfl, rd', done _ (L1.clrZ (hZ b zb) (fun h => nb (.inl h)) zb rd' old)⟩
end
/-! ### texts -/
structure Ch where
  c : Nat
  deriving DecidableEq
def chS (x : Ch) : Str := ⟨#[x.c]⟩
instance : Py Ch := ⟨fun x => .str (chS x)⟩
def chs (x : Str) : List Ch := x.cps.toList.map Ch.mk
def strI (i : Int) : Option Str := if i.natAbs.log2 < 1920 then some (Str.ofString (toString i)) else none
def intT (a : Str) : Option Int := if a.length ≤ 640 then PySem.intText? a else none
def ixS (z : Str) (i : Int) : Option Str := (lenOk z.length).bind fun _ => (atI z.cps.toList i).map fun c => (⟨#[c]⟩ : Str)
def partS (a b : Str) : T3 Str Str Str := ⟨(Txt.partition a b).1, (Txt.partition a b).2.1, (Txt.partition a b).2.2⟩
def inS (x : Ch) (z : Str) : Bool := decide (x.c ∈ z.cps.toList)
def rAddS : R2 := fun x y H Q => ∃ i j, x = .str i ∧ y = .str j ∧ i.length + j.length ≤ sizeLine ∧ Q (.str (i ++ j)) H
theorem op_addSX {Xc : Cx} : OpR Xc (binaryOp .Add) rAddS := op_add_str
def rStrI : List V → Hp → VK → Prop := fun xs H Q => ∃ i : Int, xs = [.int i] ∧ i.natAbs.log2 < 1920 ∧ Q (.str (toString i)) H
theorem call_strX {Xc : Cx} : CallR Xc (.type "str") rStrI := call_str_int
def rIntT : List V → Hp → VK → Prop := fun xs H Q => ∃ a n, xs = [.str a] ∧ PySem.intText? a = some n ∧ a.length ≤ 640 ∧ Q (.int n) H
theorem call_intT {Xc : Cx} : CallR Xc (.type "int") rIntT := call_int_str
def rLenStr (K : PySem.W.Frag) : List V → Hp → VK → Prop := fun xs H Q => ∃ x n, xs = [x] ∧ LenV K x H n ∧ Q (.int n) H
theorem call_lenStr {Xc : Cx} : CallR Xc (.builtin "len") (rLenStr Xc.K) := call_len
def rPart : V → List V → Hp → VK → Prop := fun x xs H Q => ∃ a b, x = .str a ∧ xs = [.str b] ∧ (b.length == 0) = false ∧ a.length ≤ sizeLine ∧
    ∀ p, H p = none → Q (.ref p) (upd H p (.tup [.str (Txt.partition a b).1, .str (Txt.partition a b).2.1, .str (Txt.partition a b).2.2]))
def rSplit : V → List V → Hp → VK → Prop := fun x xs H Q => ∃ a b, x = .str a ∧ xs = [.str b] ∧ (b.length == 0) = false ∧ a.length + 2 ≤ sizeLine ∧ rNewStrs (Txt.split a b) H Q
theorem mt_splitX {Xc : Cx} : MtR Xc "str.split" rSplit := mt_split
def rJoin (K : PySem.W.Frag) : V → List V → Hp → VK → Prop := fun x xs H Q => ∃ a p, ∃ ys : List Str, x = .str a ∧ xs = [.ref p] ∧ (SqL K H p (ys.map V.str) ∨ SqT K H p (ys.map V.str)) ∧
    (ys.map (·.length)).sum + ys.length * a.length ≤ 16777216 ∧ Q (.str (Txt.join a ys)) H
theorem mt_joinX {Xc : Cx} : MtR Xc "str.join" (rJoin Xc.K) := mt_join
theorem mt_part {Xc : Cx} : MtR Xc "str.partition" rPart := mt_partition
def rStarts : V → List V → Hp → VK → Prop := fun x xs H Q => ∃ a b, x = .str a ∧ xs = [.str b] ∧ Q (.bl (Txt.startswith a b)) H
theorem mt_starts {Xc : Cx} : MtR Xc "str.startswith" rStarts := mt_startswith
def KForY (g : TG) (tb : TS) (D : Ends) (σ : L2.St) (v : V) (H : Hp) : Prop := ∃ x, v = V.str x ∧ ∃ W : Nat → Nat → L2.St → Hp → Prop, (∃ m, W 0 m σ H) ∧ ∀ i m σ H, W i m σ H →
      ((Its x).stop i H ∧ D.nx σ H) ∨ ((Its x).go i H ∧ ∃ N : L2.St → Hp → Prop, (∀ σ' H', N σ' H' → ∃ m', m' < m ∧ W (i + 1) m' σ' H') ∧ ∀ x' H', (Its x).yld i H x' H' → g x' σ H' fun σ2 H2 => tb { D with nx := N, ct := N, bk := D.nx } σ2 H2)
section
variable {C : Cn} {X : Addr → Prop} {H : Hp} {σ : L2.St} {Γ Γ' : List Sl} {Q : VK} {α β τ ρ : Type}
theorem x_strI {i : Int} {k : Str → Option ρ} {r : ρ} (hm : (strI i).bind k = some r) (h : ∀ z, k z = some r → Q (.str z) H) : rStrI [V.int i] H Q := by
  obtain ⟨z, hz, hk⟩ := ob hm
  unfold strI at hz
  split at hz
  · cases hz; exact ⟨i, rfl, by assumption, h _ hk⟩
  · cases hz
theorem x_intT {a : Str} {k : Int → Option ρ} {r : ρ} (hm : (intT a).bind k = some r) (h : ∀ z, k z = some r → Q (.int z) H) : rIntT [V.str a] H Q := by
  obtain ⟨z, hz, hk⟩ := ob hm
  unfold intT at hz
  split at hz
  · exact ⟨a, z, rfl, hz, by assumption, h _ hk⟩
  · cases hz
theorem x_addS {a b : Str} {k : Unit → Option ρ} {r : ρ} (hm : (lenOk (a.length + b.length)).bind k = some r) (h : k () = some r → Q (.str (a ++ b)) H) : rAddS (.str a) (.str b) H Q := by
  obtain ⟨_, hz, hk⟩ := ob hm
  exact ⟨a, b, rfl, rfl, by rw [line_eq]; exact lenOk_le hz, h hk⟩
theorem x_ixStr {z : Str} {i : Int} {k : Str → Option ρ} {r : ρ} (hm : (ixS z i).bind k = some r) (h : ∀ y, k y = some r → Q (.str y) H) : rIxS (.str z) (.int i) H Q := by
  obtain ⟨y, hy, hk⟩ := ob hm
  obtain ⟨_, hl, hy⟩ := ob hy
  cases e : atI z.cps.toList i with
  | none => rw [e] at hy; cases hy
  | some c =>
    rw [e] at hy
    cases hy
    exact ⟨z, i, c, rfl, rfl, by rw [line_eq]; exact lenOk_le hl, e, h _ hk⟩
theorem x_slStr {z : Str} {lo hi : Option Int} {k : Unit → Option ρ} {r : ρ} (hm : (lenOk z.length).bind k = some r) (h : k () = some r → Q (.str (cutS z lo hi)) H) : rSlS (.str z) lo hi H Q := by
  obtain ⟨_, hz, hk⟩ := ob hm
  exact ⟨z, rfl, by rw [line_eq]; exact lenOk_le hz, h hk⟩
theorem x_lenStr {K : PySem.W.Frag} {z : Str} {k : Unit → Option ρ} {r : ρ} (hm : (lenOk z.length).bind k = some r) (h : k () = some r → Q (.int (z.length : Int)) H) : rLenStr K [V.str z] H Q := by
  obtain ⟨_, hz, hk⟩ := ob hm
  exact ⟨_, z.length, rfl, ⟨by rw [line_eq]; exact lenOk_le hz, rfl⟩, h hk⟩
theorem x_m1 {r : V → List V → Hp → VK → Prop} {to te : TE} (h : to σ H fun x H1 => (∃ a, x = .str a) ∧ te σ H1 fun y H2 => r x [y] H2 Q) : tM1 r to te σ H Q := h
theorem x_isS {a : Str} {P : Prop} (h : P) : (∃ b, V.str a = .str b) ∧ P := ⟨⟨a, rfl⟩, h⟩
theorem x_partition {a b : Str} {k : Unit → Option ρ} {r : ρ} (L : Lo C X H σ Γ) (hm : (lenOk a.length).bind k = some r) (hb : (b.length == 0) = false)
    (h : ∀ v H1, k () = some r → Lo C X H1 σ Γ → (∀ d u, Rep C.K X H d u → Rep C.K X H1 d u) → Rep C.K X H1 (enc (partS a b)) v → Q v H1) :
    rPart (.str a) [.str b] H Q := by
  obtain ⟨_, hz, hk⟩ := ob hm
  refine ⟨a, b, rfl, rfl, hb, by rw [line_eq]; exact lenOk_le hz, fun p hp => ?_⟩
  have s : Same H (upd H p (.tup [.str (Txt.partition a b).1, .str (Txt.partition a b).2.1, .str (Txt.partition a b).2.2])) := same_upd hp
  exact h _ _ hk (L.same s) (fun _ _ r => r.keep (.same s)) (.tup upd_same (.cons (.str _) (.cons (.str _) (.cons (.str _) .nil))))
theorem reps_strs {K : PySem.W.Frag} {X : Addr → Prop} {H : Hp} : ∀ ys : List Str, Reps K X H (ys.map enc) (ys.map V.str)
  | [] => .nil
  | y :: ys => .cons (.str y) (reps_strs ys)
theorem x_split {a b : Str} {k : Unit → Option ρ} {r : ρ} (L : Lo C X H σ Γ) (hm : (lenOk (a.length + 2)).bind k = some r) (hb : (b.length == 0) = false)
    (h : ∀ v H1, k () = some r → Lo C X H1 σ Γ → (∀ d u, Rep C.K X H d u → Rep C.K X H1 d u) → Rep C.K X H1 (enc (Txt.split a b)) v → Q v H1) :
    rSplit (.str a) [.str b] H Q := by
  obtain ⟨_, hz, hk⟩ := ob hm
  refine ⟨a, b, rfl, rfl, hb, by rw [line_eq]; exact lenOk_le hz, fun p hp => ?_⟩
  have s : Same H (upd H p (.lst ((Txt.split a b).map V.str))) := same_upd hp
  exact h _ _ hk (L.same s) (fun _ _ r => r.keep (.same s)) (.lst (fun x => L.xd p x hp) (.inl upd_same) (reps_strs _))
theorem dps_strs {K : PySem.W.Frag} {H : Hp} : ∀ {ys : List Str} {vs : List V}, DpAll K H vs (ys.map enc) → vs = ys.map V.str
  | [], _, .nil => rfl
  | y :: ys, _, .cons h t => by
    cases h with
    | str => rw [dps_strs t]; rfl
def joinN (a : Str) (ys : List Str) : Nat := (ys.map (·.length)).sum + ys.length * a.length
theorem x_joinT {K : PySem.W.Frag} {a : Str} {ys : List Str} {v : V} {k : Unit → Option ρ} {r : ρ} (hm : (lenOk (joinN a ys)).bind k = some r) (q : Dp K H v (enc ys)) (h : k () = some r → Q (.str (Txt.join a ys)) H) :
    rJoin K (.str a) [v] H Q := by
  obtain ⟨_, hz, hk⟩ := ob hm
  have q : Dp K H v (.list (ys.map enc)) := q
  cases q with
  | lst s t => exact ⟨a, _, ys, rfl, rfl, .inl (dps_strs t ▸ s), lenOk_le hz, h hk⟩
theorem x_starts {a b : Str} (h : Q (.bl (Txt.startswith a b)) H) : rStarts (.str a) [.str b] H Q := ⟨a, b, rfl, rfl, h⟩
theorem x_inS {x : Ch} {z : Str} (h : Q (.bl (inS x z)) H) : rInS (.str (chS x)) (.str z) H Q := ⟨x.c, z, rfl, rfl, h⟩
theorem x_ninS {x : Ch} {z : Str} (h : Q (.bl (!inS x z)) H) : rNotInS (.str (chS x)) (.str z) H Q := ⟨x.c, z, rfl, rfl, h⟩
theorem x_tforY {te : TE} {g : TG} {tb : TS} {D : Ends} (h : te σ H (KForY g tb D σ)) : tFor (iStr te) g tb D σ H := h
theorem for_chs {x : Str} {g : TG} {tb : TS} {D : Ends} {σ : L2.St} {H : Hp} (Pv : Nat → L2.St → Hp → Prop) (h0 : Pv 0 σ H)
    (hs : ∀ i c σ H, x.cps[i]? = some c → Pv i σ H → g (.str ⟨#[c]⟩) σ H fun σ2 H2 => tb { D with nx := Pv (i + 1), ct := Pv (i + 1), bk := D.nx } σ2 H2) (hd : ∀ σ H, Pv x.cps.size σ H → D.nx σ H) :
    ∃ W : Nat → Nat → L2.St → Hp → Prop, (∃ m, W 0 m σ H) ∧ ∀ i m σ H, W i m σ H →
      ((Its x).stop i H ∧ D.nx σ H) ∨ ((Its x).go i H ∧ ∃ N : L2.St → Hp → Prop, (∀ σ' H', N σ' H' → ∃ m', m' < m ∧ W (i + 1) m' σ' H') ∧ ∀ x' H', (Its x).yld i H x' H' → g x' σ H' fun σ2 H2 => tb { D with nx := N, ct := N, bk := D.nx } σ2 H2) := by
  refine ⟨fun i m σ H => m = x.cps.size - i ∧ i ≤ x.cps.size ∧ Pv i σ H, ⟨x.cps.size, by simp, Nat.zero_le _, h0⟩, ?_⟩
  rintro i m σ H ⟨rfl, hi, p⟩
  by_cases hlt : i < x.cps.size
  · refine .inr ⟨hlt, Pv (i + 1), fun σ' H' p' => ⟨x.cps.size - (i + 1), by omega, rfl, hlt, p'⟩, ?_⟩
    rintro v H' ⟨rfl, c, hc, rfl⟩
    exact hs i c σ _ hc p
  · have : i = x.cps.size := by omega
    subst this
    exact .inl ⟨Nat.le_refl _, hd σ H p⟩
theorem x_forY {x : Str} {f : Ch → τ → Option (Lp τ ρ)} {G : τ → List Sl} {ps : ρ → List (Addr × MO)} {rs : ρ → Rs} {s0 : τ} {o : Lp τ ρ} {g : TG} {tb : TS} {nx bk ct : L2.St → Hp → Prop} {rt : VK}
    (L : Lo C X H σ (G s0)) (hG : ∀ s s', muts (G s) = muts (G s')) (hm : loopL f (chs x) s0 = some o)
    (body : ∀ x s, Body C X G ps rs (enc x) s (f x s) g tb)
    (done : ∀ s, o = .nxt s → ∀ σ' H', Lo C X H' σ' (G s) → nx σ' H') (brk : ∀ s, o = .brk s → ∀ σ' H', Lo C X H' σ' (G s) → nx σ' H')
    (ret : ∀ q, o = .ret q → ∀ v H', Fin C.K C.X0 C.H0 C.P0 (ps q) (rs q) v H' → rt v H') :
    KForY g tb ⟨nx, rt, bk, ct⟩ σ (.str x) H := by
  have hlen : (chs x).length = x.cps.size := by unfold chs; rw [List.length_map, Array.length_toList]
  refine ⟨x, rfl, for_chs (fun i σ' H' => ∃ s, Lo C X H' σ' (G s) ∧ loopL f ((chs x).drop i) s = some o) ⟨s0, L, hm⟩ ?_ ?_⟩
  · rintro i c σ' H' hc ⟨s, L', hm'⟩
    have hx : (chs x)[i]? = some ⟨c⟩ := by unfold chs; rw [List.getElem?_map, Array.getElem?_toList, hc]; rfl
    obtain ⟨o1, h1, h2, h3, h4⟩ := loop_drop hx hm'
    refine body ⟨c⟩ s H' σ' _ _ _ _ _ o1 h1 L'.enter (.str _) ?_ ?_ ?_ ?_
    · intro s' e X' σ'' H'' L''
      exact ⟨s', L'.leave L'' (hG _ _), h2 s' e⟩
    · intro s' e X' σ'' H'' L''
      exact ⟨s', L'.leave L'' (hG _ _), h2 s' e⟩
    · intro s' e X' σ'' H'' L''
      exact brk s' (h3 s' e) _ _ (L'.leave L'' (hG _ _))
    · intro q e v' H'' F
      exact ret q (h4 q e) v' H'' (F.leave L')
  · rintro σ' H' ⟨s, L', hm'⟩
    have : (chs x).drop x.cps.size = [] := List.drop_eq_nil_of_le (by omega)
    rw [this] at hm'
    exact done s (Option.some.inj hm').symm _ _ L'
theorem x_foY {x : Str} {f : Ch → τ → Option τ} {G : τ → List Sl} {s0 : τ} {g : TG} {tb : TS} {nx bk ct : L2.St → Hp → Prop} {rt : VK} {k : τ → Option ρ} {res : ρ}
    (L : Lo C X H σ (G s0)) (hG : ∀ s s', muts (G s) = muts (G s')) (hm : (foldO f (chs x) s0).bind k = some res)
    (body : ∀ x s, BodyO C X G (enc x) s (f x s) g tb) (done : ∀ s σ' H', k s = some res → Lo C X H' σ' (G s) → nx σ' H') : KForY g tb ⟨nx, rt, bk, ct⟩ σ (.str x) H := by
  obtain ⟨s1, h1, h2⟩ := ob hm
  exact x_forY (ρ := Empty) (o := .nxt s1) (ps := fun _ => []) (rs := fun _ => .imm .none) L hG (foldO_loop h1) (fun x s => (body x s).body) (fun s e σ' H' L' => by cases e; exact done _ _ _ h2 L') (fun s e => nomatch e) (fun q => nomatch q)
end
/-! ### dicts with pairs of ints as keys -/
def kq (k : T2 Int Int) : List L2.Key := [.inl k.a, .inl k.b]
theorem kq_inj {k l : T2 Int Int} (h : kq k = kq l) : k = l := by
  obtain ⟨a, b⟩ := k
  obtain ⟨c, d⟩ := l
  unfold kq at h
  simp at h
  rw [h.1, h.2]
abbrev md {β : Type} [Py β] (kvs : List (T2 Int Int × β)) : MO := .dct (kvs.map fun e => (kq e.1, enc e.2))
def dgetM {β : Type} (kvs : List (T2 Int Int × β)) (k : T2 Int Int) : Option β := (kvs.find? fun kv => decide (kv.1 = k)).map (·.2)
def dputM {β : Type} (kvs : List (T2 Int Int × β)) (k : T2 Int Int) (v : β) : List (T2 Int Int × β) :=
  if (kvs.any fun kv => decide (kv.1 = k)) = true then kvs.map (fun kv => if kv.1 = k then (kv.1, v) else kv) else kvs ++ [(k, v)]
def lt2P (x y : T2 Int Int) : Bool := SrtO.lexB (x.a, x.b) (y.a, y.b)
def sortP (xs : List (T2 Int Int)) : List (T2 Int Int) := xs.mergeSort fun x y => !lt2P y x
section
variable {C : Cn} {X : Addr → Prop} {H : Hp} {σ : L2.St} {Γ Γ' : List Sl} {Q : VK} {α β ρ : Type}
theorem dreps_get [Py β] {K : PySem.W.Frag} {k : T2 Int Int} : ∀ {kvs : List (T2 Int Int × β)} {ws : List (List L2.Key × V)}, DReps K X H (kvs.map fun e => (kq e.1, enc e.2)) ws →
    (∃ b v, dgetM kvs k = some b ∧ valV ws (kq k) = some v ∧ Rep K X H (enc b) v) ∨ (dgetM kvs k = none ∧ valV ws (kq k) = none)
  | [], _, .nil => .inr ⟨rfl, rfl⟩
  | (l, c) :: kvs, _, .cons (v := v) (kvs := ws) r t => by
    by_cases z : l = k
    · subst z
      exact .inl ⟨c, v, by simp [dgetM], valV_pos rfl, r⟩
    · have h1 : dgetM ((l, c) :: kvs) k = dgetM kvs k := by simp [dgetM, List.find?_cons, z]
      have h2 : valV ((kq l, v) :: ws) (kq k) = valV ws (kq k) := valV_neg fun e => z (kq_inj e)
      rw [h1, h2]
      exact dreps_get t
theorem dreps_any [Py β] {K : PySem.W.Frag} {k : T2 Int Int} : ∀ {kvs : List (T2 Int Int × β)} {ws : List (List L2.Key × V)}, DReps K X H (kvs.map fun e => (kq e.1, enc e.2)) ws → (ws.any fun kv => decide (kv.1 = kq k)) = (kvs.any fun kv => decide (kv.1 = k))
  | [], _, .nil => rfl
  | (l, c) :: kvs, _, .cons (v := v) (kvs := ws) r t => by
    rw [List.any_cons, List.any_cons, dreps_any t]
    congr 1
    by_cases z : l = k
    · subst z; simp
    · rw [decide_eq_false (show ¬ (kq l, v).1 = kq k from fun e => z (kq_inj e)), decide_eq_false z]
theorem dreps_map [Py β] {K : PySem.W.Frag} {k : T2 Int Int} {b : β} {v : V} (rv : Rep K X H (enc b) v) : ∀ {kvs : List (T2 Int Int × β)} {ws : List (List L2.Key × V)}, DReps K X H (kvs.map fun e => (kq e.1, enc e.2)) ws →
    DReps K X H ((kvs.map (fun kv => if kv.1 = k then (kv.1, b) else kv)).map fun e => (kq e.1, enc e.2)) (ws.map fun kv => if kv.1 = kq k then (kv.1, v) else kv)
  | [], _, .nil => .nil
  | (l, c) :: kvs, _, .cons (v := u) (kvs := ws) r t => by
    rw [List.map_cons, List.map_cons, List.map_cons]
    by_cases z : l = k
    · subst z
      rw [if_pos rfl, if_pos rfl]
      exact .cons rv (dreps_map rv t)
    · rw [if_neg z, if_neg (show ¬ (kq l, u).1 = kq k from fun e => z (kq_inj e))]
      exact .cons r (dreps_map rv t)
theorem dreps_snoc {K : PySem.W.Frag} {k : List L2.Key} {d : PyData} {v : V} (rv : Rep K X H d v) : ∀ {es : List (List L2.Key × PyData)} {ws : List (List L2.Key × V)}, DReps K X H es ws → DReps K X H (es ++ [(k, d)]) (ws ++ [(k, v)])
  | _, _, .nil => .cons rv .nil
  | _, _, .cons r t => .cons r (dreps_snoc rv t)
theorem dreps_put [Py β] {K : PySem.W.Frag} {k : T2 Int Int} {b : β} {v : V} {kvs : List (T2 Int Int × β)} {ws : List (List L2.Key × V)} (h : DReps K X H (kvs.map fun e => (kq e.1, enc e.2)) ws) (rv : Rep K X H (enc b) v) :
    DReps K X H ((dputM kvs k b).map fun e => (kq e.1, enc e.2)) (putK ws (kq k) v) := by
  unfold dputM putK
  rw [dreps_any h]
  by_cases z : (kvs.any fun kv => decide (kv.1 = k)) = true
  · rw [if_pos z, if_pos z]; exact dreps_map rv h
  · rw [if_neg z, if_neg z, List.map_append]; exact dreps_snoc rv h
theorem dreps_len [Py β] {K : PySem.W.Frag} : ∀ {kvs : List (T2 Int Int × β)} {ws : List (List L2.Key × V)}, DReps K X H (kvs.map fun e => (kq e.1, enc e.2)) ws → ws.length = kvs.length
  | [], _, .nil => rfl
  | _ :: _, _, .cons _ t => congrArg (· + 1) (dreps_len t)
theorem key_rep {K : PySem.W.Frag} {k : T2 Int Int} {y : V} (r : Rep K X H (enc k) y) : ∃ b, y = .ref b ∧ H b = some (.tup ((kq k).map kV)) := by
  obtain ⟨a, vs, rfl, h, q⟩ := rep_tupS (ds := [.int k.a, .int k.b]) r
  cases q with
  | cons q1 q => cases q with
    | cons q2 q => cases q; cases q1; cases q2; exact ⟨a, rfl, h⟩
theorem x_dnew [Py β] (L : Lo C X H σ Γ) (h : ∀ p X' H1, C.H0 p = none → ¬ C.X0 p → Lo C X' H1 σ (Γ ++ [.tmp p (md ([] : List (T2 Int Int × β)))]) → (∀ d u, Rep C.K X H d u → Rep C.K X' H1 d u) → Q (.ref p) H1) : tDNewT σ H Q := fun p hp => by
  have s : Same H (upd H p (.dT [])) := same_upd hp
  obtain ⟨L1, le, h0, hx⟩ := L.lay (o := .dct []) hp s ⟨[], upd_same, .nil⟩
  exact h p _ _ h0 hx L1 le
theorem room1 {k : Nat} {A : Around} (r : Room k A) : A.units + 1 < cLine := by have := r.un; omega
def KDg (x : V) (Q : VK) : VK := fun y H2 => ∃ a v, x = .ref a ∧ DGet H2 a y (some v) ∧ Q v H2
def KG2 (a : Addr) (y : V) (Q : VK) : VK := fun z H3 => ∃ o, DGet H3 a y o ∧ Q (o.getD z) H3
theorem x_dg {td ty : TE} (h : td σ H fun x H1 => ty σ H1 (KDg x Q)) : tDGet td ty σ H Q := h
theorem x_dgetv [Py β] {kvs : List (T2 Int Int × β)} {k : T2 Int Int} {i : Nat} {p : Addr} {y : V} {kk : β → Option ρ} {r : ρ} (L : Lo C X H σ Γ) (g : Γ[i]? = some (.mu p (md kvs))) (hm : (dgetM kvs k).bind kk = some r) (ry : Rep C.K X H (enc k) y)
    (h : ∀ b v, kk b = some r → Rep C.K X H (enc b) v → Q v H) : KDg (.ref p) Q y H := by
  obtain ⟨b, hb, hk⟩ := ob hm
  obtain ⟨ws, hw, rw_⟩ := L.mrep g
  obtain ⟨c, rfl, hc⟩ := key_rep ry
  rcases dreps_get (k := k) rw_ with ⟨b', v, e1, e2, rv⟩ | ⟨e1, _⟩
  · rw [hb] at e1; cases e1
    exact ⟨p, v, rfl, by rw [← e2]; exact DGet.t hw hc, h b v hk rv⟩
  · rw [hb] at e1; cases e1
theorem x_dgetvI {kvs : List (T2 Int Int × Int)} {k : T2 Int Int} {i : Nat} {p : Addr} {y : V} {kk : Int → Option ρ} {r : ρ} (L : Lo C X H σ Γ) (g : Γ[i]? = some (.mu p (md kvs))) (hm : (dgetM kvs k).bind kk = some r) (ry : Rep C.K X H (enc k) y)
    (h : ∀ b, kk b = some r → Q (.int b) H) : KDg (.ref p) Q y H :=
  x_dgetv L g hm ry fun b v hk rv => by
    cases (show Rep C.K X H (.int b) v from rv)
    exact h b hk
theorem x_dg2 {td ty tx : TE} (h : td σ H fun x H1 => ∃ a, x = .ref a ∧ IsD H1 a ∧ ty σ H1 fun y H2 => tx σ H2 (KG2 a y Q)) : tDGet2 td ty tx σ H Q := h
theorem x_isD {i : Nat} {p : Addr} {es : List (List L2.Key × PyData)} {P : Addr → Prop} (L : Lo C X H σ Γ) (g : Γ[i]? = some (.mu p (.dct es))) (h : P p) : ∃ a, V.ref p = .ref a ∧ IsD H a ∧ P a := by
  obtain ⟨ws, hw, _⟩ := L.mrep g
  exact ⟨p, rfl, .inr ⟨ws, .inl hw⟩, h⟩
theorem x_dget2I {kvs : List (T2 Int Int × Int)} {k : T2 Int Int} {d : Int} {i : Nat} {p : Addr} {y : V} (L : Lo C X H σ Γ) (g : Γ[i]? = some (.mu p (md kvs))) (ry : Rep C.K X H (enc k) y)
    (h : Q (.int ((dgetM kvs k).getD d)) H) : KG2 p y Q (.int d) H := by
  obtain ⟨ws, hw, rw_⟩ := L.mrep g
  obtain ⟨c, rfl, hc⟩ := key_rep ry
  rcases dreps_get (k := k) rw_ with ⟨b, v, e1, e2, rv⟩ | ⟨e1, e2⟩
  · rw [e1] at h
    cases (show Rep C.K X H (.int b) v from rv)
    exact ⟨_, DGet.t hw hc, by rw [e2]; exact h⟩
  · rw [e1] at h
    exact ⟨_, DGet.t hw hc, by rw [e2]; exact h⟩
def Lax (K : PySem.W.Frag) (q : T2 Int Int) (v : V) (H : Hp) : Prop := ∃ a, v = .ref a ∧ SqT K H a [.int q.a, .int q.b]
theorem Rep.lax {K : PySem.W.Frag} {q : T2 Int Int} {v : V} (r : Rep K X H (enc q) v) : Lax K q v H := by
  obtain ⟨a, vs, rfl, h, w⟩ := rep_tup (ds := [.int q.a, .int q.b]) r
  cases w with
  | cons q1 w => cases w with
    | cons q2 w => cases w; cases q1; cases q2; exact ⟨a, rfl, h⟩
theorem x_dget2L {kvs : List (T2 Int Int × T2 Int Int)} {k d : T2 Int Int} {i : Nat} {p : Addr} {y z : V} (L : Lo C X H σ Γ) (g : Γ[i]? = some (.mu p (md kvs))) (ry : Rep C.K X H (enc k) y) (rz : Lax C.K d z H)
    (h : ∀ v, Lax C.K ((dgetM kvs k).getD d) v H → Q v H) : KG2 p y Q z H := by
  obtain ⟨ws, hw, rw_⟩ := L.mrep g
  obtain ⟨c, rfl, hc⟩ := key_rep ry
  rcases dreps_get (k := k) rw_ with ⟨b, v, e1, e2, rv⟩ | ⟨e1, e2⟩
  · rw [e1] at h
    exact ⟨_, DGet.t hw hc, by rw [e2]; exact h v rv.lax⟩
  · rw [e1] at h
    exact ⟨_, DGet.t hw hc, by rw [e2]; exact h z rz⟩
/-- a pair of ints of a caller, also a constant -/
theorem As.lx {K : PySem.W.Frag} {q : T2 Int Int} {v : V} {Γ : List Sl} {vs : List V} (r : Lax K q v H) (t : As K X H Γ vs) : As K X H (.lax q.a q.b :: Γ) (v :: vs) := by
  obtain ⟨a, rfl, h⟩ := r
  exact ⟨_, vs, rfl, ⟨a, rfl, h⟩, t⟩
theorem x_vlx {i : Nat} {x y : Int} (L : Lo C X H σ Γ) (e : Γ[i]? = some (.lax x y)) (h : ∀ v, Lax C.K ⟨x, y⟩ v H → Q v H) : tVar i σ H Q := by
  obtain ⟨a, e1, r⟩ := L.at_ i _ e
  exact ⟨.ref a, e1, h _ ⟨a, rfl, r⟩⟩
theorem x_ixLx {q : T2 Int Int} {v : V} {i : Int} {n : Int} (r : Lax C.K q v H) (e : atI [q.a, q.b] i = some n) (h : Q (.int n) H) : rIxT C.K v (.int i) H Q := by
  obtain ⟨a, rfl, hs⟩ := r
  exact ⟨a, _, i, .int n, rfl, rfl, hs, by rw [show ([V.int q.a, V.int q.b] : List V) = [q.a, q.b].map V.int from rfl, atI_map, e]; rfl, h⟩
theorem x_dputS {td ty tv : TE} {nx bk ct : L2.St → Hp → Prop} {rt : VK} (h : tv σ H fun v H1 => td σ H1 fun x H2 => ty σ H2 fun y H3 => ∃ a H4, x = .ref a ∧ DPut H3 a y v H4 ∧ nx σ H4) : sDPut td ty tv ⟨nx, rt, bk, ct⟩ σ H := h
theorem x_dput [Py β] {kvs : List (T2 Int Int × β)} {k : T2 Int Int} {b : β} {i : Nat} {p : Addr} {y v : V} {kk : Unit → Option ρ} {r : ρ} {P : Hp → Prop} (L : Lo C X H σ Γ) (g : Γ[i]? = some (.mu p (md kvs))) (hm : (lenOk (kvs.length + 1)).bind kk = some r) (ry : Rep C.K X H (enc k) y) (rv : Rep C.K X H (enc b) v)
    (e : Γ.set i (.mu p (md (dputM kvs k b))) = Γ') (h : ∀ H1, kk () = some r → Lo C X H1 σ Γ' → (∀ d u, Rep C.K X H d u → Rep C.K X H1 d u) → P H1) : ∃ a H4, V.ref p = .ref a ∧ DPut H a y v H4 ∧ P H4 := by
  subst e
  obtain ⟨_, hl, hk⟩ := ob hm
  obtain ⟨ws, hw, rw_⟩ := L.mrep g
  obtain ⟨c, rfl, hc⟩ := key_rep ry
  have hX : X p := L.mx p (mem_muts.mpr ⟨i, _, g, rfl⟩)
  have kp : ∀ o, Keep X H (upd H p o) := fun o => ⟨fun a u h n => by rw [upd_ne (fun z => n (by rw [z]; exact hX))]; exact h, fun a us h => by rw [upd_ne (fun z => by rw [z, hw] at h; cases h)]; exact h, fun a u w h => by rw [upd_ne (fun z => by rw [z, hw] at h; cases h)]; exact h⟩
  obtain ⟨L1, le⟩ := L.wrote (H' := upd H p (.dT (putK ws (kq k) v))) (o := md (dputM kvs k b)) g rfl (fun a u h n => by rw [upd_ne n]; exact h) (fun a h => by
      by_cases z : a = p
      · rw [z, upd_same]; exact fun y => nomatch y
      · rw [upd_ne z]; exact h) ⟨_, upd_same, (dreps_put rw_ rv).keep (kp _)⟩
  exact ⟨p, _, rfl, DPut.t hw hc (by rw [dreps_len rw_, line_eq]; have := lenOk_le hl; omega), h _ hk L1 le⟩
end
end Sc
namespace ScD
open PySem PySem.W PySem.Calls PyProof.Rows PyProof.V PySem.Spec
section
variable {prog : Program} {w : World} {A : Around} {E : Value → Shared → Prop} {s : Shared} {T : String} {r d : Addr} {n : Nat} {P : Nat → Value → Prop} {OK : Heap → Prop}
theorem collectK {R : List Value → Shared → Prop} (K : KdlSrc prog w T r d n P OK) (hh : A.handled = none) (hok : OK s.heap) (hn : n ≤ sizeLine)
    (h : ∀ (h' : Heap) (tk : Nat) (acc : Array Value), (∀ b o, s.heap.get? b = some o → h'.get? b = some o) → s.heap.objs.size < h'.objs.size → ItemsOf P acc n → R acc.toList { s with heap := h', toks := tk }) :
    wpAny (model prog w) A (collect (.ref r)) R E s := by
  have hlt := K.there _ hok
  unfold collect
  refine wpAny_bind (wpAny_runValue (codeAny_builtin entry_proto_collect' ?_))
  rw [Around.under_plainId PySem.F.plain_proto_collect _]
  show wpAny _ A.in1 (newList [] >>= fun l => again (.builtin "list.__iadd__" ⟨[l, .ref r], []⟩)) _ _ s
  refine wpAny_bind (wpAny_newObj_type ?_)
  refine wpAny_pure ⟨plainId_quiet PySem.F.plain_list_iadd _, codeAny_builtin entry_list_iadd' ?_⟩
  rw [Around.under_plainId PySem.F.plain_list_iadd _]
  have hS₁ : (s.heap.push { cls := .type "list", data := .seq ([] : List Value).toArray }).get? s.heap.objs.size = some { cls := .type "list", data := .seq #[] } := Heap.get?_push_size _ rfl
  show wpAny _ A.in1 (Builtin.List.listExtendWith (.ref s.heap.objs.size) (.ref r) (.ref s.heap.objs.size)) _ _ _
  have key := kdl_extend (A := A) (s := { s with heap := s.heap.push { cls := .type "list", data := .seq ([] : List Value).toArray } })
    (R := fun (q : Result) (s' : Shared) => ∃ (h' : Heap) (tk : Nat) (acc' : Array Value) (c' : Nat), q = .ok (.ret (.ref s.heap.objs.size)) ∧ s' = { s with heap := h', toks := tk } ∧
      (∀ b o, s.heap.get? b = some o → h'.get? b = some o) ∧ h'.get? s.heap.objs.size = some { cls := .type "list", dict := none, data := .seq acc' c', slots := #[] } ∧ ItemsOf P acc' n)
    K hh (K.keep _ _ hok fun b _ o e => Heap.get?_push_of_some _ e) s.heap.objs.size (Nat.ne_of_gt hlt.1) (Nat.ne_of_gt hlt.2) (.ref s.heap.objs.size) 0 hS₁
    (fun h' tk acc' c' hk hS' hacc => ⟨h', tk, acc', c', rfl, rfl, fun b o e => hk b o (Nat.ne_of_lt (Heap.lt_size e)) (Heap.get?_push_of_some _ e), hS', hacc⟩) hn
  refine wpAny_mono key (fun fin s' x => ?_) fun e s' x => ?_
  · cases fin with
    | done f =>
      obtain ⟨h', tk, acc', c', e, rfl, hk, hS', hacc⟩ := x
      cases e
      show wpAny _ A (load s.heap.objs.size >>= _) _ _ _
      refine wpAny_bind (wpAny_load hS' ?_)
      refine wpAny_pure ?_
      show R acc'.toList _
      exact h h' tk acc' hk (Heap.lt_size hS') hacc
    | again c₁ =>
      refine ⟨x.1, codeAny_mono x.2 fun q s₂ y => ?_⟩
      obtain ⟨h', tk, acc', c', rfl, rfl, hk, hS', hacc⟩ := y
      show wpAny _ A (load s.heap.objs.size >>= _) _ _ _
      refine wpAny_bind (wpAny_load hS' ?_)
      refine wpAny_pure ?_
      show R acc'.toList _
      exact h h' tk acc' hk (Heap.lt_size hS') hacc
  · obtain ⟨_, _, _, _, e', _⟩ := x
    cases e'
open SrtO in
theorem sortedK {vs : List Value} {k : Value → Int × Int} {Q : Value → Shared → Prop} (K : KdlSrc prog w T r d n P OK) (hh : A.handled = none) (hok : OK s.heap) (hn : n ≤ sizeLine)
    (hv : ∀ acc : Array Value, ItemsOf P acc n → acc.toList = vs) (hl : vs.length = n) (hp : ∀ v ∈ vs, Srt.IsPair s.heap v (k v).1 (k v).2)
    (h : ∀ (h' : Heap) (tk : Nat) (d' : Addr) (out : List Value), Srtd (fun v u => lexB (k v) (k u)) out → Stb (fun v u => lexB (k v) (k u)) out vs → (∀ b o, s.heap.get? b = some o → h'.get? b = some o) → s.heap.objs.size ≤ d' → (∃ n, h'.get? d' = some (seqObj "list" out.toArray n)) → Q (.ref d') { s with heap := h', toks := tk }) :
    wpAny (model prog w) A (call (.builtin "sorted") [.ref r]) Q E s := by
  refine Calls.call_function_entry kind_sorted plain_sorted entry_sorted (args_sorted1 _) ?_
  unfold Builtin.«sorted»
  refine wpAny_bind (m := checkCount "sorted" 1 1 _) (wpAny_pure ?_)
  refine wpAny_bind (collectK (A := A.in1) K hh hok hn fun h' tk acc hk hlt hacc => ?_)
  rw [hv acc hacc]
  refine wpAny_bind (wpAny_newList ?_ (by rw [hl]; exact hn))
  have hoL : (h'.push (seqObj "list" vs.toArray 0)).get? h'.objs.size = some (seqObj "list" vs.toArray 0) := Heap.get?_push_size _ rfl
  have kk : ∀ b o, s.heap.get? b = some o → b ≠ h'.objs.size ∧ (h'.push (seqObj "list" vs.toArray 0)).get? b = some o := fun b o e => ⟨Nat.ne_of_lt (Nat.lt_trans (Heap.lt_size e) hlt), Heap.get?_push_of_some _ (hk b o e)⟩
  show wpAny _ _ _ _ _ { s with heap := h'.push (seqObj "list" vs.toArray 0), toks := tk }
  refine wpAny_bind (wpAny_holding (wpAny_call_entry slot_list_sort ⟨_, hoL, rfl⟩ entry_list_sort (list_sort_ord (swo_lex k) hoL (by rw [hl]; exact hn) (fun h2 => ?_) fun out hs hb => ⟨_, rfl, ?_⟩) (args_list_sort _)))
  · refine pairs_sortableO (by omega) (fun v hm => (hp v hm).keeps fun b o e _ => (kk b o e).2) fun o e => ?_
    have e' : some o = some (seqObj "list" vs.toArray 0) := e.symm.trans hoL
    cases e'
    intro c
    exact absurd (Value.type.inj c) (by decide)
  · refine wpAny_pure ⟨_, rfl, h _ _ _ out hs hb (fun b o e => ?_) (Nat.le_of_lt hlt) ?_⟩
    · have hb : b < h'.objs.size := Nat.lt_trans (Heap.lt_size e) hlt
      rw [sortedHeap_old (Nat.ne_of_lt hb) (by rw [size_push']; exact Nat.lt_succ_of_lt hb)]
      exact Heap.get?_push_of_some _ (hk b o e)
    · exact sortedHeap_at hoL
end
end ScD
namespace Sc
open PySem PySem.Spec PyProof.Rows L2
open Py (enc)
def rSortedDT : List V → Hp → VK → Prop := fun vs H Q => ∃ (d : Addr) (kvs : List (List L2.Key × V)) (k : V → Int × Int), vs = [V.ref d] ∧ H d = some (.dT kvs) ∧
  (∀ bs, IsKeys H kvs bs → ∀ b ∈ bs, H b = some (.tup [.int (k (.ref b)).1, .int (k (.ref b)).2])) ∧
  ∀ (bs : List Addr) (ys : List V) p, IsKeys H kvs bs → SrtO.Srtd (L2.ltP k) ys → SrtO.Stb (L2.ltP k) ys (bs.map V.ref) → H p = none → Q (.ref p) (upd H p (.lst ys))
theorem cr_sortedDT {X : Cx} (hc : X.calm = true) : CallR X (.builtin "sorted") rSortedDT := by
  intro pins s σ H vs us Q I r h
  obtain ⟨d, kvs, k, rfl, hd, hk, q⟩ := h
  obtain ⟨u, rfl, rx⟩ := r.one
  cases rx
  obtain ⟨z, hs, ks, pr, o, es, ep, ho, hx, hdt, he, hn⟩ := (show ObjOk X.prog X.w H s.heap d (.dT kvs) from I.hok _ _ hd)
  have l1 : es.size = ks.length := size_of_entries he
  have l2 : kvs.length = ks.length := Paired.length pr
  have ik := isKeys_of pr
  have hkk := hk _ ik
  refine ScD.sortedK (vs := (ks.map fun x => x.2.1).map Value.ref) (k := fun u => k (backV u)) (kdl_raw hs hx hdt) (I.ok.hd hc) ho (by omega) (fun acc' it => ?_) (by rw [List.length_map, List.length_map]; exact l1.symm) (fun v hv => ?_) fun h' tk d' out h1 h2 kp hd' hn' => ?_
  · have ea : acc'.toList = ks.map fun x => Value.ref x.2.1 := by
      have hl : acc'.toList.length = ks.length := by rw [Array.length_toList, it.1]; exact l1
      apply List.ext_getElem?
      intro j
      rw [List.getElem?_map]
      cases hj : acc'.toList[j]? with
      | none =>
        have h1 := List.getElem?_eq_none_iff.mp hj
        rw [List.getElem?_eq_none (by omega)]
        all_goals rfl
      | some v =>
        obtain ⟨en, hen, hv⟩ := it.2 j v (by rw [← Array.getElem?_toList]; exact hj)
        have qe := entry_at he j
        rw [hen] at qe
        cases hb : ks[j]? with
        | none =>
          rw [hb] at qe
          exact nomatch (show some en = none from qe)
        | some b =>
          rw [hb] at qe
          have e2 : en = entryOfKey (tupleKind (mixKind X.prog X.w)) b := Option.some.inj qe
          rw [hv, e2]
          all_goals rfl
    rw [ea, List.map_map]; all_goals rfl
  · obtain ⟨b, hb, rfl⟩ := List.mem_map.mp hv
    obtain ⟨_, its2, r2, o, ho, hc, n, hd⟩ := I.hok _ _ (hkk b hb)
    obtain ⟨u1, u2, rfl, ri, rj⟩ := vals2 r2
    obtain ⟨t1, rfl⟩ := ri
    obtain ⟨t2, rfl⟩ := rj
    exact ⟨b, o, t1, t2, n, rfl, ho, hc, hd⟩
  · have h3 : ∀ u ∈ out, ∃ a, u = Value.ref a := fun u hu => by
      have := h2.perm.mem_iff.mp hu
      obtain ⟨b, _, rfl⟩ := List.mem_map.mp this
      exact ⟨b, rfl⟩
    obtain ⟨n, hn'⟩ := hn'
    have hb : SrtO.Stb (L2.ltP k) (out.map backV) ((ks.map fun x => x.2.1).map V.ref) := by
      have := SrtO.Stb.map (L2.ltP_swo k) backV h2
      rw [List.map_map] at this
      exact this
    refine ⟨.ref d', upd H d' (.lst (out.map backV)), I.laid (t' := tk) kp hd' ⟨?_, out, n, vals_back h3, hn'⟩, rfl, q _ _ d' ik (SrtO.srtd_map h1) hb (I.hok.fresh hd')⟩
    rw [hb.len, List.length_map, List.length_map]
    omega
section
variable {C : Cn} {X : Addr → Prop} {H : Hp} {σ : L2.St} {Γ Γ' : List Sl} {Q : VK} {α β ρ : Type}
theorem lt2P_swo : SrtO.Swo lt2P := by
  refine ⟨fun x y h => ?_, fun x y z h1 h2 => ?_⟩
  · have a := SrtO.lexB_iff.mp h
    refine SrtO.lexB_no.mpr ?_
    simp only at a ⊢
    omega
  · have a := SrtO.lexB_no.mp h1
    have b := SrtO.lexB_no.mp h2
    refine SrtO.lexB_no.mpr ?_
    simp only at a b ⊢
    omega
theorem lt2P_eq {x y : T2 Int Int} (h : SrtO.eqv lt2P x y = true) : x = y := by
  obtain ⟨h1, h2⟩ := SrtO.eqv_iff.mp h
  have a := SrtO.lexB_no.mp h1
  have b := SrtO.lexB_no.mp h2
  obtain ⟨p, q⟩ := x
  obtain ⟨r, s⟩ := y
  simp only at a b
  have : p = r := by omega
  have : q = s := by omega
  subst_vars; rfl
theorem filt_rep {x : T2 Int Int} (l : List (T2 Int Int)) : l.filter (SrtO.eqv lt2P x) = List.replicate (l.filter (SrtO.eqv lt2P x)).length x :=
  List.eq_replicate_of_mem fun y hy => (lt2P_eq (List.mem_filter.mp hy).2).symm
theorem stb_perm {l m : List (T2 Int Int)} (h : l.Perm m) : SrtO.Stb lt2P l m := ⟨h, fun x => by
  rw [filt_rep l, filt_rep m, (h.filter _).length_eq]⟩
theorem sortP_perm (xs : List (T2 Int Int)) : (sortP xs).Perm xs := List.mergeSort_perm _ _
theorem sortP_srtd (xs : List (T2 Int Int)) : SrtO.Srtd lt2P (sortP xs) := by
  have := List.pairwise_mergeSort (le := fun x y => !lt2P y x) (fun x y z h1 h2 => by
    simp only [Bool.not_eq_true'] at *
    exact lt2P_swo.tr x y z h1 h2) (fun x y => by
    cases e : lt2P y x with
    | false => rfl
    | true => rw [lt2P_swo.asym y x e]; rfl) xs
  exact this.imp fun h => by simpa using h
def kOf (H : Hp) : V → Int × Int
  | .ref b => match H b with
    | some (.tup [.int i, .int j]) => (i, j)
    | _ => (0, 0)
  | _ => (0, 0)
theorem kOf_at {b : Addr} {q : T2 Int Int} (h : H b = some (.tup ((kq q).map kV))) : kOf H (.ref b) = (q.a, q.b) := by
  have h' : H b = some (.tup [.int q.a, .int q.b]) := h
  unfold kOf
  simp only [h']
theorem keys_of [Py β] {K : PySem.W.Frag} : ∀ {kvs : List (T2 Int Int × β)} {ws : List (List L2.Key × V)} {bs : List Addr}, DReps K X H (kvs.map fun e => (kq e.1, enc e.2)) ws → IsKeys H ws bs →
    (∀ b ∈ bs, H b = some (.tup [.int (kOf H (.ref b)).1, .int (kOf H (.ref b)).2])) ∧ bs.map (fun b => (⟨(kOf H (.ref b)).1, (kOf H (.ref b)).2⟩ : T2 Int Int)) = kvs.map (·.1)
  | [], _, _, .nil, .nil => ⟨(fun _ h => nomatch h), rfl⟩
  | (q, c) :: kvs, _, _, .cons r t, .cons (l₂ := bs) (b := b) hb u => by
    obtain ⟨h1, h2⟩ := keys_of t u
    have e := kOf_at hb
    refine ⟨fun x hx => ?_, ?_⟩
    · rcases List.mem_cons.mp hx with z | hx
      · subst z; rw [e]; exact hb
      · exact h1 x hx
    · rw [List.map_cons, List.map_cons, h2, e]
theorem reps_keys {K : PySem.W.Frag} : ∀ {ys : List V}, (∀ y ∈ ys, ∃ b, y = .ref b ∧ H b = some (.tup [.int (kOf H y).1, .int (kOf H y).2])) → Reps K X H ((ys.map fun y => (⟨(kOf H y).1, (kOf H y).2⟩ : T2 Int Int)).map enc) ys
  | [], _ => .nil
  | y :: ys, h => by
    obtain ⟨b, e, hb⟩ := h y List.mem_cons_self
    refine .cons ?_ (reps_keys fun z hz => h z (List.mem_cons_of_mem _ hz))
    rw [e] at hb ⊢
    exact .tup hb (.cons (.int _) (.cons (.int _) .nil))
theorem x_sortedD [Py β] {kvs : List (T2 Int Int × β)} {i : Nat} {p : Addr} (L : Lo C X H σ Γ) (g : Γ[i]? = some (.mu p (md kvs))) (h : ∀ v H1, Lo C X H1 σ Γ → (∀ d u, Rep C.K X H d u → Rep C.K X H1 d u) → Rep C.K X H1 (enc (sortP (kvs.map (·.1)))) v → Q v H1) : rSortedDT [.ref p] H Q := by
  obtain ⟨ws, hw, rw_⟩ := L.mrep g
  refine ⟨p, ws, kOf H, rfl, hw, fun bs ib b hb => (keys_of rw_ ib).1 b hb, fun bs ys q ib hs hb hq => ?_⟩
  obtain ⟨k1, k2⟩ := keys_of rw_ ib
  have es : ys.map (fun y => (⟨(kOf H y).1, (kOf H y).2⟩ : T2 Int Int)) = sortP (kvs.map (·.1)) := by
    refine SrtO.stb_uniq lt2P_swo (SrtO.srtd_map (lt := lt2P) (f := fun y => (⟨(kOf H y).1, (kOf H y).2⟩ : T2 Int Int)) hs) (sortP_srtd _) (stb_perm ?_)
    refine ((hb.perm.map _).trans ?_).trans (sortP_perm _).symm
    rw [List.map_map, ← k2]
    exact List.Perm.refl _
  have s : Same H (upd H q (.lst ys)) := same_upd hq
  have rp : Reps C.K X H ((sortP (kvs.map (·.1))).map enc) ys := by
    rw [← es]
    refine reps_keys fun y hy => ?_
    obtain ⟨b, hb', rfl⟩ := List.mem_map.mp (hb.perm.mem_iff.mp hy)
    exact ⟨b, rfl, k1 b hb'⟩
  have rr : RRep C.K X H (upd H q (.lst ys)) (.new (.lst ((sortP (kvs.map (·.1))).map enc))) (.ref q) := ⟨q, rfl, hq, ys, upd_same, (rp.more hq).keep (.same s)⟩
  exact h _ _ (L.same s) (fun _ _ r => r.keep (.same s)) (rr.imm L.xd)
end
/-! ### name -= e; range downwards; an item of a tuple at a place that is reckoned; a list of the body's own walked over -/
section
variable {C : Cn} {X : Addr → Prop} {H : Hp} {σ : L2.St} {Γ Γ' : List Sl} {Q : VK} {α β τ ρ : Type}
theorem x_aug {i : Nat} {te : TE} {f : Int → Int → Int} {x : Int} {nx bk ct : L2.St → Hp → Prop} {rt : VK} (L : Lo C X H σ Γ) (e : Γ[i]? = some (.imm (.int x))) (h : te σ H fun y H1 => ipI f (.int x) y H1 fun z H2 => nx (σ.set i (some z)) H2) : tAug i te (ipI f) ⟨nx, rt, bk, ct⟩ σ H := by
  obtain ⟨u, e1, r⟩ := L.at_ i _ e
  cases r
  exact ⟨_, e1, h⟩
theorem x_augI {f : Int → Int → Int} {x y : Int} {Q : V → Hp → Prop} (h : Q (.int (f x y)) H) : ipI f (.int x) (.int y) H Q := ⟨x, y, rfl, rfl, h⟩
theorem x_augS {i : Nat} {z : Int} {nx : L2.St → Hp → Prop} (L : Lo C X H σ Γ) (hi : i < C.n) (e : Γ.set i (.imm (.int z)) = Γ') (h : ∀ σ', Lo C X H σ' Γ' → nx σ' H) : nx (σ.set i (some (.int z))) H := by
  subst e
  exact h _ (L.set (.int z) hi)
theorem x_ixTv [Py α] {xs : List α} {i : Int} {v : V} {k : α → Option ρ} {r : ρ} (q : Rep C.K X H (.tuple (xs.map enc)) v) (hm : (ix xs i).bind k = some r) (h : ∀ x u, k x = some r → Rep C.K X H (enc x) u → Q u H) : rIxT C.K v (.int i) H Q := by
  obtain ⟨x, hx, hk⟩ := ob hm
  refine x_ixT q ?_ fun u ru => h x u hk ru
  rw [atI_map]
  unfold ix at hx
  rw [hx]; rfl
end
structure T6 (α β γ δ ε ζ : Type) where
  a : α
  b : β
  c : γ
  d : δ
  e : ε
  f : ζ
  deriving DecidableEq
instance {α β γ δ ε ζ : Type} [Py α] [Py β] [Py γ] [Py δ] [Py ε] [Py ζ] : Py (T6 α β γ δ ε ζ) := ⟨fun x => .tuple [enc x.a, enc x.b, enc x.c, enc x.d, enc x.e, enc x.f]⟩
def downL (lo : Int) (n : Nat) : List Int := (List.range n).map fun (k : Nat) => lo + (k : Int) * -1
def KForC (lo c : Int) (n : Nat) (g : TG) (tb : TS) (D : Ends) (σ : L2.St) (H : Hp) : Prop := ∃ W : Nat → Nat → L2.St → Hp → Prop, (∃ m, W 0 m σ H) ∧ ∀ i m σ H, W i m σ H →
      ((Itc lo c n).stop i H ∧ D.nx σ H) ∨ ((Itc lo c n).go i H ∧ ∃ N : L2.St → Hp → Prop, (∀ σ' H', N σ' H' → ∃ m', m' < m ∧ W (i + 1) m' σ' H') ∧ ∀ x' H', (Itc lo c n).yld i H x' H' → g x' σ H' fun σ2 H2 => tb { D with nx := N, ct := N, bk := D.nx } σ2 H2)
def KRng3 (R : Int → Int → Nat → Hp → Prop) : List V → Hp → Prop := fun vs H => ∃ (i j c : Int) (n : Nat), vs = [.int i, .int j, .int c] ∧ RgC i j c n ∧ R i c n H
section
variable {C : Cn} {X : Addr → Prop} {H : Hp} {σ : L2.St} {Γ Γ' : List Sl} {Q : VK} {α β τ ρ : Type}
theorem x_tforR3 {ta : TA} {g : TG} {tb : TS} {D : Ends} (h : ta σ H (KRng3 fun lo c n H => KForC lo c n g tb D σ H)) : tFor (iRng3 ta) g tb D σ H := h
theorem x_r3 {a b : Int} {R : Int → Int → Nat → Hp → Prop} {k : Unit → Option ρ} {r : ρ} (hm : ((rngOk a).bind fun _ => rngOk b).bind k = some r) (h : k () = some r → R a (-1) (a - b).toNat H) : KRng3 R [.int a, .int b, .int (-1)] H := by
  obtain ⟨_, h0, hk⟩ := ob hm
  obtain ⟨_, h1, h2⟩ := ob h0
  have a1 : -(2 ^ 62) ≤ a ∧ a < 2 ^ 62 := by
    unfold rngOk at h1
    split at h1
    · omega
    · cases h1
  have a2 : -(2 ^ 62) ≤ b ∧ b < 2 ^ 62 := by
    unfold rngOk at h2
    split at h2
    · omega
    · cases h2
  exact ⟨a, b, -1, _, rfl, RgC.neg a1.1 a1.2 a2.1 a2.2, h hk⟩
theorem x_forD {f : Int → τ → Option (Lp τ ρ)} {G : τ → List Sl} {ps : ρ → List (Addr × MO)} {rs : ρ → Rs} {s0 : τ} {o : Lp τ ρ} {lo : Int} {n : Nat} {g : TG} {tb : TS} {nx bk ct : L2.St → Hp → Prop} {rt : VK}
    (L : Lo C X H σ (G s0)) (hG : ∀ s s', muts (G s) = muts (G s')) (hm : loopL f (downL lo n) s0 = some o)
    (body : ∀ x s, Body C X G ps rs (enc x) s (f x s) g tb)
    (done : ∀ s, o = .nxt s → ∀ σ' H', Lo C X H' σ' (G s) → nx σ' H') (brk : ∀ s, o = .brk s → ∀ σ' H', Lo C X H' σ' (G s) → nx σ' H')
    (ret : ∀ q, o = .ret q → ∀ v H', Fin C.K C.X0 C.H0 C.P0 (ps q) (rs q) v H' → rt v H') :
    KForC lo (-1) n g tb ⟨nx, rt, bk, ct⟩ σ H := by
  have hlen : (downL lo n).length = n := by unfold downL; rw [List.length_map, List.length_range]
  refine ⟨fun i m σ' H' => m = n - i ∧ i ≤ n ∧ ∃ s, Lo C X H' σ' (G s) ∧ loopL f ((downL lo n).drop i) s = some o, ⟨n, by simp, Nat.zero_le _, s0, L, hm⟩, ?_⟩
  rintro i m σ' H' ⟨rfl, hi, s, L', hm'⟩
  by_cases hlt : i < n
  · refine .inr ⟨hlt, fun σ'' H'' => i + 1 ≤ n ∧ ∃ s, Lo C X H'' σ'' (G s) ∧ loopL f ((downL lo n).drop (i + 1)) s = some o, fun σ'' H'' p' => ⟨n - (i + 1), by omega, rfl, p'⟩, ?_⟩
    rintro v H2 ⟨rfl, rfl⟩
    have hx : (downL lo n)[i]? = some (lo + (i : Int) * -1) := by
      unfold downL
      rw [List.getElem?_map, List.getElem?_range hlt]; rfl
    obtain ⟨o1, h1, h2, h3, h4⟩ := loop_drop hx hm'
    refine body _ s _ σ' _ _ _ _ _ o1 h1 L'.enter (.int _) ?_ ?_ ?_ ?_
    · intro s' e X' σ'' H'' L''
      exact ⟨hlt, s', L'.leave L'' (hG _ _), h2 s' e⟩
    · intro s' e X' σ'' H'' L''
      exact ⟨hlt, s', L'.leave L'' (hG _ _), h2 s' e⟩
    · intro s' e X' σ'' H'' L''
      exact brk s' (h3 s' e) _ _ (L'.leave L'' (hG _ _))
    · intro q e v' H'' F
      exact ret q (h4 q e) v' H'' (F.leave L')
  · have : i = n := by omega
    subst this
    rw [List.drop_eq_nil_of_le (by omega)] at hm'
    exact .inl ⟨Nat.le_refl _, done s (Option.some.inj hm').symm _ _ L'⟩
theorem x_foD {f : Int → τ → Option τ} {G : τ → List Sl} {s0 : τ} {lo : Int} {n : Nat} {g : TG} {tb : TS} {nx bk ct : L2.St → Hp → Prop} {rt : VK} {k : τ → Option ρ} {res : ρ}
    (L : Lo C X H σ (G s0)) (hG : ∀ s s', muts (G s) = muts (G s')) (hm : (foldO f (downL lo n) s0).bind k = some res)
    (body : ∀ x s, BodyO C X G (enc x) s (f x s) g tb) (done : ∀ s σ' H', k s = some res → Lo C X H' σ' (G s) → nx σ' H') : KForC lo (-1) n g tb ⟨nx, rt, bk, ct⟩ σ H := by
  obtain ⟨s1, h1, h2⟩ := ob hm
  exact x_forD (ρ := Empty) (o := .nxt s1) (ps := fun _ => []) (rs := fun _ => .imm .none) L hG (foldO_loop h1) (fun x s => (body x s).body) (fun s e σ' H' L' => by cases e; exact done _ _ _ h2 L') (fun s e => nomatch e) (fun q => nomatch q)
/-! a list of the body's own is walked over, and stays -/
theorem muts_set {s s' : Sl} {p : Addr} (e1 : s.ad = none) (e2 : s'.ad = some p) : ∀ {Γ : List Sl} {i : Nat}, Γ[i]? = some s → (muts (Γ.set i s')).Perm (p :: muts Γ)
  | [], _, h => by simp at h
  | t :: Γ, 0, h => by
    simp at h; subst h
    show (List.filterMap _ _).Perm (p :: List.filterMap _ _)
    rw [List.set_cons_zero, List.filterMap_cons, List.filterMap_cons, e1, e2]
  | t :: Γ, i + 1, h => by
    have ih := muts_set e1 e2 (Γ := Γ) (i := i) (by simpa using h)
    unfold muts at ih ⊢
    rw [List.set_cons_succ, List.filterMap_cons, List.filterMap_cons]
    cases t.ad with
    | none => exact ih
    | some q => exact (ih.cons q).trans (List.Perm.swap p q _)
theorem set_back {i : Nat} {s s' : Sl} {Γ : List Sl} (h : Γ[i]? = some s) : (Γ.set i s').set i s = Γ := by
  rw [List.set_set]
  exact List.ext_getElem? fun k => by
    rw [List.getElem?_set]
    split
    · next z =>
      subst z
      rw [if_pos (List.getElem?_eq_some_iff.mp h).1, h]
    · rfl
theorem Lo.unmu {i : Nat} {p : Addr} {o : MO} (L : Lo C X H σ Γ) (g : Γ[i]? = some (.mu p o)) : Lo C X H σ (Γ.set i (.ref p)) ∧ p ∉ muts (Γ.set i (.ref p)) := by
  have hil := (List.getElem?_eq_some_iff.mp g).1
  have hp := muts_set (s := .ref p) (s' := .mu p o) (p := p) rfl rfl (Γ := Γ.set i (.ref p)) (i := i) (by rw [List.getElem?_set_self hil])
  rw [set_back g] at hp
  have nd := hp.nodup_iff.mp L.nd
  obtain ⟨n1, n2⟩ := List.nodup_cons.mp nd
  refine ⟨⟨L.len, fun j t hj => ?_, n2, fun q hq => L.mx q (hp.mem_iff.mpr (List.mem_cons_of_mem _ hq)), L.m0, L.xd, L.base, L.dom, fun q hq => L.own q (hp.mem_iff.mpr (List.mem_cons_of_mem _ hq)), L.tf⟩, n1⟩
  by_cases z : j = i
  · subst z
    rw [List.getElem?_set_self hil] at hj
    cases hj
    exact (L.at_ j _ g).1
  · rw [List.getElem?_set_ne (Ne.symm z)] at hj
    exact L.at_ j t hj
theorem Lo.remu {i : Nat} {p : Addr} {o : MO} (L : Lo C X H σ Γ) (g : Γ[i]? = some (.ref p)) (n : p ∉ muts Γ) (hx : X p) (ho : p ∈ C.P0 ∨ C.H0 p = none) (r : MRep C.K X H p o) : Lo C X H σ (Γ.set i (.mu p o)) := by
  have hil := (List.getElem?_eq_some_iff.mp g).1
  have hp := muts_set (s := .ref p) (s' := .mu p o) (p := p) rfl rfl g
  refine ⟨L.len, fun j t hj => ?_, hp.nodup_iff.mpr (List.nodup_cons.mpr ⟨n, L.nd⟩), fun q hq => ?_, L.m0, L.xd, L.base, L.dom, fun q hq => ?_, L.tf⟩
  · by_cases z : j = i
    · subst z
      rw [List.getElem?_set_self hil] at hj
      cases hj
      exact ⟨L.at_ j _ g, r⟩
    · rw [List.getElem?_set_ne (Ne.symm z)] at hj
      exact L.at_ j t hj
  · rcases List.mem_cons.mp (hp.mem_iff.mp hq) with z | z
    · rw [z]; exact hx
    · exact L.mx q z
  · rcases List.mem_cons.mp (hp.mem_iff.mp hq) with z | z
    · rw [z]; exact ho
    · exact L.own q z
theorem x_forM [Py α] {xs : List α} {f : α → τ → Option (Lp τ ρ)} {G : τ → List Sl} {ps : ρ → List (Addr × MO)} {rs : ρ → Rs} {s0 : τ} {o : Lp τ ρ} {i : Nat} {p : Addr} {g : TG} {tb : TS} {nx bk ct : L2.St → Hp → Prop} {rt : VK}
    (L : Lo C X H σ Γ) (g0 : Γ[i]? = some (.mu p (ml xs))) (e0 : Γ.set i (.ref p) = G s0) (hG : ∀ s s', muts (G s) = muts (G s')) (gG : ∀ s, (G s)[i]? = some (.ref p)) (hm : loopL f xs s0 = some o)
    (body : ∀ x s, Body C X G ps rs (enc x) s (f x s) g tb)
    (done : ∀ s, o = .nxt s → ∀ σ' H', Lo C X H' σ' ((G s).set i (.mu p (ml xs))) → nx σ' H') (brk : ∀ s, o = .brk s → ∀ σ' H', Lo C X H' σ' ((G s).set i (.mu p (ml xs))) → nx σ' H')
    (ret : ∀ q, o = .ret q → ∀ v H', Fin C.K C.X0 C.H0 C.P0 (ps q) (rs q) v H' → rt v H') :
    KForL C.K g tb ⟨nx, rt, bk, ct⟩ σ (.ref p) H := by
  obtain ⟨L1, np⟩ := L.unmu g0
  rw [e0] at L1 np
  obtain ⟨vs, hv, hr⟩ := L.mrep g0
  have hx : X p := L.mx p (mem_muts.mpr ⟨i, _, g0, rfl⟩)
  have ho := L.own p (mem_muts.mpr ⟨i, _, g0, rfl⟩)
  have back : ∀ s σ' H', Lo C X H' σ' (G s) → H' p = some (.lst vs) → Reps C.K X H' (xs.map enc) vs → Lo C X H' σ' ((G s).set i (.mu p (ml xs))) := fun s σ' H' M h1 h2 => M.remu (gG s) (by rw [hG s s0]; exact np) hx ho ⟨vs, h1, h2⟩
  refine ⟨p, rfl, ⟨vs, .inl (.inl hv)⟩, for_list (K := C.K) (a := p) (xs := vs) (fun i σ' H' => ∃ s, Lo C X H' σ' (G s) ∧ Reps C.K X H' (xs.map enc) vs ∧ H' p = some (.lst vs) ∧ loopL f (xs.drop i) s = some o)
    ⟨s0, L1, hr, hv, hm⟩ (fun i σ' H' _ ⟨s, _, _, h, _⟩ => .inl (.inl h)) ?_ ?_⟩
  · rintro j y σ' H' hy ⟨s, L', r', hd', hm'⟩
    obtain ⟨d, hd, rd⟩ := r'.get' hy
    rw [List.getElem?_map] at hd
    cases hx : xs[j]? with
    | none => rw [hx] at hd; cases hd
    | some x =>
      rw [hx] at hd
      cases hd
      obtain ⟨o1, h1, h2, h3, h4⟩ := loop_drop hx hm'
      have st : ∀ {X' : Addr → Prop} {σ'' : L2.St} {H'' : Hp} {s' : τ}, Lo (C.at_ X H' (G s)) X' H'' σ'' (G s') → H'' p = some (.lst vs) := fun M => M.base p _ hd' (by show p ∉ muts (G s); rw [hG s s0]; exact np)
      refine body x s H' σ' y _ _ _ _ o1 h1 L'.enter rd ?_ ?_ ?_ ?_
      · intro s' e X' σ'' H'' L''
        exact ⟨s', L'.leave L'' (hG _ _), r'.keep (L'.keep L''), st L'', h2 s' e⟩
      · intro s' e X' σ'' H'' L''
        exact ⟨s', L'.leave L'' (hG _ _), r'.keep (L'.keep L''), st L'', h2 s' e⟩
      · intro s' e X' σ'' H'' L''
        exact brk s' (h3 s' e) _ _ (back _ _ _ (L'.leave L'' (hG _ _)) (st L'') (r'.keep (L'.keep L'')))
      · intro q e v' H'' F
        exact ret q (h4 q e) v' H'' (F.leave L')
  · rintro σ' H' ⟨s, L', r', hd', hm'⟩
    rw [r'.length, List.length_map, List.drop_length] at hm'
    exact done s (Option.some.inj hm').symm _ _ (back _ _ _ L' hd' r')
theorem x_flM [Py α] {xs : List α} {f : α → τ → Option (Lp τ ρ)} {G : τ → List Sl} {ps : ρ → List (Addr × MO)} {rs : ρ → Rs} {s0 : τ} {i : Nat} {p : Addr} {g : TG} {tb : TS} {nx bk ct : L2.St → Hp → Prop} {rt : VK} {k : τ → Option β} {j : ρ → Option β} {res : β}
    (L : Lo C X H σ Γ) (g0 : Γ[i]? = some (.mu p (ml xs))) (e0 : Γ.set i (.ref p) = G s0) (hG : ∀ s s', muts (G s) = muts (G s')) (gG : ∀ s, (G s)[i]? = some (.ref p)) (hm : (loopL f xs s0).bind (fun o => o.out j k) = some res)
    (body : ∀ x s, Body C X G ps rs (enc x) s (f x s) g tb) (done : ∀ s σ' H', k s = some res → Lo C X H' σ' ((G s).set i (.mu p (ml xs))) → nx σ' H')
    (ret : ∀ q v H', j q = some res → Fin C.K C.X0 C.H0 C.P0 (ps q) (rs q) v H' → rt v H') : KForL C.K g tb ⟨nx, rt, bk, ct⟩ σ (.ref p) H := by
  obtain ⟨o, h1, h2⟩ := ob hm
  exact x_forM L g0 e0 hG gG h1 body (fun s e σ' H' L' => done _ _ _ (by rw [e] at h2; exact h2) L') (fun s e σ' H' L' => done _ _ _ (by rw [e] at h2; exact h2) L') (fun q e v H' F => ret _ _ _ (by rw [e] at h2; exact h2) F)
end
theorem Lax.dp {K : PySem.W.Frag} {q : T2 Int Int} {v : V} {H : Hp} (r : Lax K q v H) : Dp K H v (enc q) := by
  obtain ⟨a, rfl, h⟩ := r
  exact .tup h (.cons (.int _) (.cons (.int _) .nil))
/-! ### and, or: the second half may write -/
section
variable {C : Cn} {X : Addr → Prop} {H : Hp} {σ : L2.St} {Γ Γ' : List Sl} {Q : VK} {τ ρ : Type}
theorem x_andVG {A : Bool} {m : Option (Bool × τ)} {k : Bool × τ → Option ρ} {r : ρ} {u : TE} {G : τ → List Sl} {s0 : τ} (L : Lo C X H σ (G s0)) (hm : (if A = true then m else some (false, s0)).bind k = some r)
    (hu : ∀ b, m = some b → ∀ Q' : VK, (∀ X2 H2, Lo C X2 H2 σ (G b.2) → Q' (.bl b.1) H2) → u σ H Q') (h : ∀ b X2 H2, k b = some r → Lo C X2 H2 σ (G b.2) → Q (.bl b.1) H2) : KAndV u σ Q A H := by
  cases A with
  | true =>
    obtain ⟨b, e, hk⟩ := ob hm
    exact hu b e Q fun X2 H2 l => h b X2 H2 hk l
  | false => exact h (false, s0) X H hm L
theorem x_orVG {A : Bool} {m : Option (Bool × τ)} {k : Bool × τ → Option ρ} {r : ρ} {u : TE} {G : τ → List Sl} {s0 : τ} (L : Lo C X H σ (G s0)) (hm : (if A = true then some (true, s0) else m).bind k = some r)
    (hu : ∀ b, m = some b → ∀ Q' : VK, (∀ X2 H2, Lo C X2 H2 σ (G b.2) → Q' (.bl b.1) H2) → u σ H Q') (h : ∀ b X2 H2, k b = some r → Lo C X2 H2 σ (G b.2) → Q (.bl b.1) H2) : KOrV u σ Q A H := by
  cases A with
  | false =>
    obtain ⟨b, e, hk⟩ := ob hm
    exact hu b e Q fun X2 H2 l => h b X2 H2 hk l
  | true => exact h (true, s0) X H hm L
theorem x_andG {A : Bool} {m : Option (Bool × τ)} {k : Bool × τ → Option ρ} {r : ρ} {u : TT} {Q : Bool → Hp → Prop} {G : τ → List Sl} {s0 : τ} (L : Lo C X H σ (G s0)) (hm : (if A = true then m else some (false, s0)).bind k = some r)
    (hu : ∀ b, m = some b → ∀ Q' : Bool → Hp → Prop, (∀ X2 H2, Lo C X2 H2 σ (G b.2) → Q' b.1 H2) → u σ H Q') (h : ∀ b X2 H2, k b = some r → Lo C X2 H2 σ (G b.2) → Q b.1 H2) : KAnd u σ Q A H := by
  cases A with
  | true =>
    obtain ⟨b, e, hk⟩ := ob hm
    exact hu b e Q fun X2 H2 l => h b X2 H2 hk l
  | false => exact h (false, s0) X H hm L
theorem x_orG {A : Bool} {m : Option (Bool × τ)} {k : Bool × τ → Option ρ} {r : ρ} {u : TT} {Q : Bool → Hp → Prop} {G : τ → List Sl} {s0 : τ} (L : Lo C X H σ (G s0)) (hm : (if A = true then some (true, s0) else m).bind k = some r)
    (hu : ∀ b, m = some b → ∀ Q' : Bool → Hp → Prop, (∀ X2 H2, Lo C X2 H2 σ (G b.2) → Q' b.1 H2) → u σ H Q') (h : ∀ b X2 H2, k b = some r → Lo C X2 H2 σ (G b.2) → Q b.1 H2) : KOr u σ Q A H := by
  cases A with
  | false =>
    obtain ⟨b, e, hk⟩ := ob hm
    exact hu b e Q fun X2 H2 l => h b X2 H2 hk l
  | true => exact h (true, s0) X H hm L
theorem x_lfTG {G : τ → List Sl} {B : Bool} {e : τ} {b : Bool × τ} {Q' : Bool → Hp → Prop} (hm : some (B, e) = some b) (hQ : ∀ X2 H2, Lo C X2 H2 σ (G b.2) → Q' b.1 H2) (L : Lo C X H σ (G e)) : Q' B H := by cases hm; exact hQ _ _ L
theorem x_lfVG {G : τ → List Sl} {B : Bool} {e : τ} {b : Bool × τ} {Q' : VK} (hm : some (B, e) = some b) (hQ : ∀ X2 H2, Lo C X2 H2 σ (G b.2) → Q' (.bl b.1) H2) (L : Lo C X H σ (G e)) : Q' (.bl B) H := by cases hm; exact hQ _ _ L
end
/-! ### dict(a list of pairs), keys tuples -/
def mergeT (kvs : List (List L2.Key × V)) (ps : List (List L2.Key × V)) : List (List L2.Key × V) := ps.foldl (fun a p => putK a p.1 p.2) kvs
def rDictPT (K : PySem.W.Frag) : List V → Hp → VK → Prop := fun xs H Q => ∃ (a : Addr) (ps : List Addr) (kvs : List (List L2.Key × Addr × V)), xs = [.ref a] ∧ SqL K H a (ps.map V.ref) ∧ Paired (fun p (kv : List L2.Key × Addr × V) => SqT K H p [V.ref kv.2.1, kv.2.2] ∧ H kv.2.1 = some (.tup (kv.1.map kV))) ps kvs ∧
    ∀ p, H p = none → Q (.ref p) (upd H p (.dT (mergeT [] (kvs.map fun kv => (kv.1, kv.2.2)))))
section
variable {X : Cx}
theorem pairsT_of {pins : List (Addr × Obj)} {σ : L2.St} {H : Hp} {s : Shared} (I : Inv X pins σ H s) : ∀ {ps : List Addr} {kvs : List (List L2.Key × Addr × V)}, Paired (fun p (kv : List L2.Key × Addr × V) => SqT X.K H p [V.ref kv.2.1, kv.2.2] ∧ H kv.2.1 = some (.tup (kv.1.map kV))) ps kvs →
    ∃ xs : List (List L2.Key × Addr × Value), KT H (kvs.map fun kv => (kv.1, kv.2.2)) xs ∧ xs.length = ps.length ∧ ∀ (j : Nat) (q : List L2.Key × Addr × Value), xs[j]? = some q → ∃ b, ps[j]? = some b ∧ IsTup s.heap b #[Value.ref q.2.1, q.2.2]
  | _, _, .nil => ⟨[], .nil, rfl, fun j q e => by simp at e⟩
  | _, _, .cons (a := p) (b := kv) h t => by
    obtain ⟨xs, r, hl, hp⟩ := pairsT_of I t
    obtain ⟨its, rv, ht, _⟩ := I.tuple h.1
    obtain ⟨u, y, ei, ru, ry⟩ := vals2 rv
    subst ei
    obtain rfl : u = Value.ref kv.2.1 := ru
    refine ⟨(kv.1, kv.2.1, y) :: xs, .cons ⟨rfl, h.2, ry⟩ r, by rw [List.length_cons, List.length_cons, hl], fun j q e => ?_⟩
    cases j with
    | zero =>
      have e' : (kv.1, kv.2.1, y) = q := Option.some.inj e
      subst e'
      exact ⟨p, rfl, ht⟩
    | succ j =>
      obtain ⟨b, e1, e2⟩ := hp j q (by simpa using e)
      exact ⟨b, by simpa using e1, e2⟩
theorem KT_merge {H : Hp} : ∀ {ps : List (List L2.Key × V)} {xs : List (List L2.Key × Addr × Value)} {kvs : List (List L2.Key × V)} {ys : List (List L2.Key × Addr × Value)}, KT H ps xs → KT H kvs ys → KT H (mergeT kvs ps) (storedAllH ys xs)
  | _, _, _, _, .nil, r => r
  | _, _, _, _, .cons (a := p) (b := x) h t, r => by
    show KT H (mergeT (putK _ p.1 p.2) _) (storedAllH (storedH _ x.1 x.2.1 x.2.2) _)
    refine KT_merge t ?_
    rw [← h.1]
    exact r.put p.1 h.2.1 h.2.2
theorem KT_all {P : Program} {w : World} {H : Hp} {h : Heap} (ok : HOk P w H h) : ∀ {l : List (List L2.Key × V)} {m : List (List L2.Key × Addr × Value)}, KT H l m → ∀ x ∈ m, (tupleKind (mixKind P w)).is h x.1 x.2.1
  | _, _, .nil, x, hx => nomatch hx
  | _, _, .cons (b := q) hq t, x, hx => by
    rcases List.mem_cons.mp hx with e | hx
    · subst e
      exact key_of ok (by rw [← hq.1]; exact hq.2.1)
    · exact KT_all ok t x hx
theorem mergeT_len : ∀ (ps kvs : List (List L2.Key × V)), (mergeT kvs ps).length ≤ kvs.length + ps.length
  | [], kvs => Nat.le_refl _
  | p :: ps, kvs => by
    have h1 := mergeT_len ps (putK kvs p.1 p.2)
    have h2 : (putK kvs p.1 p.2).length ≤ kvs.length + 1 := by
      unfold putK
      split
      · rw [List.length_map]; omega
      · simp
    show (mergeT (putK kvs p.1 p.2) ps).length ≤ _
    rw [List.length_cons]; omega
theorem cr_dictPT (hcalm : X.calm = true) (hu : X.A.units + 64 < cLine) : CallR X (.type "dict") (rDictPT X.K) := by
  intro pins s σ H xs us Q I r q
  obtain ⟨a, ps, kvs, ex, hq, hp, q⟩ := q
  subst ex
  obtain ⟨u, eu, rx⟩ := vals1 r
  subst eu
  cases rx
  obtain ⟨its, rv, pl, hz⟩ := I.list hq
  have ei := refs_at rv
  subst ei
  rw [List.length_map] at hz
  obtain ⟨ks, rel, hl, hpr⟩ := pairsT_of I hp
  obtain ⟨prs, hprd⟩ : ∃ prs : List (Value × Value), prs = ks.map fun k => (Value.ref k.2.1, k.2.2) := ⟨_, rfl⟩
  have hpl : prs.length = ks.length := by simp [hprd]
  have hprs : ∀ (j : Nat) (k v : Value), prs[j]? = some (k, v) → ∃ q : List L2.Key × Addr × Value, ks[j]? = some q ∧ k = Value.ref q.2.1 ∧ v = q.2.2 := fun j k v e => by
    rw [hprd, List.getElem?_map] at e
    obtain ⟨q, e1, e2⟩ := Option.map_eq_some_iff.mp e
    cases e2
    exact ⟨q, e1, rfl, rfl⟩
  have stay := (tupleKind_stays (prog := X.prog) (w := X.w) (knd := mixKind X.prog X.w))
  refine call_dict_pairsH (knd := tupleKind (mixKind X.prog X.w)) (ps := ks) (PairArg.list a (ps.map Value.ref).toArray (fun j => ps.getD j 0) prs) (I.ok.hd hcalm) ?hu ⟨pl, ?ok⟩ ⟨by rw [hpl], fun i key v e => ?hv⟩ ?st ?sz fun h' tk hd' hk => ?_
  case hu => show X.A.units + 1 + 1 < cLine; omega
  case ok =>
    refine ⟨by simp [hpl, hl], fun j k v e => ?_⟩
    obtain ⟨q', e1, e2, e3⟩ := hprs j k v e
    obtain ⟨b, e4, e5⟩ := hpr j q' e1
    subst e2; subst e3
    refine ⟨by simp [e4], .inl ?_⟩
    show s.heap.IsTuple (ps.getD j 0) _
    rw [List.getD_eq_getElem?_getD, e4]
    exact e5
  case hv =>
    obtain ⟨q', e1, e2, e3⟩ := hprs i key v e
    exact ⟨q'.1, q'.2.1, by rw [e1, e3], e2⟩
  case st =>
    intro h1 hk x hx
    exact stay.stays (fun b o vs n e _ => hk b o (Nat.ne_of_lt (Heap.lt_size e)) (fun z => nomatch z) e) (KT_all I.hok rel x hx)
  case sz => rw [hpl, hl]; exact hz
  have hm : (s.heap.objs.size == sysModules) = false := beq_eq_false_iff_ne.mpr (Nat.ne_of_gt I.big)
  have hlen : (mergeT [] (kvs.map fun kv => (kv.1, kv.2.2))).length ≤ sizeLine := by
    refine Nat.le_trans (mergeT_len _ _) ?_
    have : (kvs.map fun kv => (kv.1, kv.2.2)).length = ks.length := Paired.length rel
    rw [List.length_nil, Nat.zero_add, this, hl]
    exact hz
  obtain ⟨o, es, ep, d1, d2, d3, d4, _, d5⟩ := hd'
  exact ⟨.ref s.heap.objs.size, upd H s.heap.objs.size (.dT (mergeT [] (kvs.map fun kv => (kv.1, kv.2.2)))), I.laid (t' := tk) (fun b o e => hk b o (fun z => nomatch z) e) (Nat.le_refl _) (show ObjOk X.prog X.w _ _ _ (.dT _) from ⟨hlen, hm, storedAllH [] ks, KT_merge (rel.keeps fun b ys e => by rw [upd_ne fun z => by rw [z, I.hok.fresh (Nat.le_refl _)] at e; cases e]; exact e) .nil, o, es, ep, d1, d2, d3, d4, d5⟩), rfl, q _ (I.hok.fresh (Nat.le_refl _))⟩
end
def dictM {β : Type} (ps : List (T2 (T2 Int Int) β)) : List (T2 Int Int × β) := ps.foldl (fun kvs p => dputM kvs p.a p.b) []
section
variable {C : Cn} {X : Addr → Prop} {H : Hp} {σ : L2.St} {Γ Γ' : List Sl} {Q : VK} {α β τ ρ : Type}
theorem dreps_merge [Py β] {K : PySem.W.Frag} : ∀ {ps : List (T2 (T2 Int Int) β)} {kvs : List (T2 Int Int × β)} {ws us : List (List L2.Key × V)}, DReps K X H (kvs.map fun e => (kq e.1, enc e.2)) ws → DReps K X H (ps.map fun p => (kq p.a, enc p.b)) us →
    DReps K X H ((ps.foldl (fun kvs p => dputM kvs p.a p.b) kvs).map fun e => (kq e.1, enc e.2)) (mergeT ws us)
  | [], _, _, _, r, .nil => r
  | p :: ps, _, _, _, r, .cons (v := v) h t => by
    show DReps K X H ((ps.foldl (fun kvs p => dputM kvs p.a p.b) (dputM _ p.a p.b)).map _) (mergeT (putK _ (kq p.a) v) _)
    exact dreps_merge (dreps_put r h) t
theorem pairs_rep [Py β] {K : PySem.W.Frag} : ∀ {ps : List (T2 (T2 Int Int) β)} {vs : List V}, Reps K X H (ps.map enc) vs →
    ∃ (as : List Addr) (kvs : List (List L2.Key × Addr × V)), vs = as.map V.ref ∧ Paired (fun p (kv : List L2.Key × Addr × V) => SqT K H p [V.ref kv.2.1, kv.2.2] ∧ H kv.2.1 = some (.tup (kv.1.map kV))) as kvs ∧ DReps K X H (ps.map fun p => (kq p.a, enc p.b)) (kvs.map fun kv => (kv.1, kv.2.2))
  | [], _, .nil => ⟨[], [], rfl, .nil, .nil⟩
  | p :: ps, _, .cons r t => by
    obtain ⟨as, kvs, e, h1, h2⟩ := pairs_rep t
    obtain ⟨a, us, rfl, h, q⟩ := rep_tupS (ds := [enc p.a, enc p.b]) r
    cases q with
    | cons q1 q => cases q with
      | cons q2 q =>
        cases q
        obtain ⟨b, rfl, hb⟩ := key_rep q1
        exact ⟨a :: as, (kq p.a, b, _) :: kvs, by rw [e]; rfl, .cons ⟨.inl (.inl h), hb⟩ h1, .cons q2 h2⟩
theorem x_dictP [Py β] {ps : List (T2 (T2 Int Int) β)} {v : V} (L : Lo C X H σ Γ) (r : Rep C.K X H (enc ps) v) (h : ∀ p X' H1, C.H0 p = none → ¬ C.X0 p → Lo C X' H1 σ (Γ ++ [.tmp p (md (dictM ps))]) → (∀ d u, Rep C.K X H d u → Rep C.K X' H1 d u) → Q (.ref p) H1) : rDictPT C.K [v] H Q := by
  obtain ⟨a, vs, rfl, _, hs, q⟩ := rep_lst (ds := ps.map enc) r
  obtain ⟨as, kvs, e, h1, h2⟩ := pairs_rep q
  refine ⟨a, as, kvs, rfl, .inl (by rw [← e]; exact hs), h1, fun p hp => ?_⟩
  have s : Same H (upd H p (.dT (mergeT [] (kvs.map fun kv => (kv.1, kv.2.2))))) := same_upd hp
  obtain ⟨L1, le, h0, hx⟩ := L.lay (o := md (dictM ps)) hp s ⟨_, upd_same, ((dreps_merge (kvs := []) .nil h2).more hp).keep (.same s)⟩
  exact h p _ _ h0 hx L1 le
def rListDT : List V → Hp → VK → Prop := fun xs H Q => ∃ d kvs, xs = [V.ref d] ∧ Rd H d (.dT kvs) ∧ ∀ p bs, H p = none → IsKeys H kvs bs → Q (.ref p) (upd H p (.lst (bs.map V.ref)))
theorem call_listDT {Xc : Cx} (hc : Xc.calm = true) : CallR Xc (.type "list") rListDT := call_list_dT hc
theorem x_listD [Py β] {kvs : List (T2 Int Int × β)} {i : Nat} {p : Addr} (L : Lo C X H σ Γ) (g : Γ[i]? = some (.mu p (md kvs))) (h : ∀ v H1, Lo C X H1 σ Γ → (∀ d u, Rep C.K X H d u → Rep C.K X H1 d u) → Rep C.K X H1 (enc (kvs.map (·.1))) v → Q v H1) : rListDT [.ref p] H Q := by
  obtain ⟨ws, hw, rw_⟩ := L.mrep g
  refine ⟨p, ws, rfl, .inl hw, fun q bs hq ib => ?_⟩
  obtain ⟨k1, k2⟩ := keys_of rw_ ib
  have s : Same H (upd H q (.lst (bs.map V.ref))) := same_upd hq
  have rp : Reps C.K X H ((kvs.map (·.1)).map enc) (bs.map V.ref) := by
    have := reps_keys (K := C.K) (X := X) (H := H) (ys := bs.map V.ref) fun y hy => by
      obtain ⟨b, hb', rfl⟩ := List.mem_map.mp hy
      exact ⟨b, rfl, k1 b hb'⟩
    rw [List.map_map (l := bs)] at this
    rw [← k2]
    exact this
  have rr : RRep C.K X H (upd H q (.lst (bs.map V.ref))) (.new (.lst ((kvs.map (·.1)).map enc))) (.ref q) := ⟨q, rfl, hq, _, upd_same, (rp.more hq).keep (.same s)⟩
  exact h _ _ (L.same s) (fun _ _ r => r.keep (.same s)) (rr.imm L.xd)
theorem keys_rep {K : PySem.W.Frag} : ∀ {xs : List (T2 Int Int)} {vs : List V}, Reps K X H (xs.map enc) vs → (∀ y ∈ vs, ∃ b, y = .ref b ∧ H b = some (.tup [.int (kOf H y).1, .int (kOf H y).2])) ∧ vs.map (fun y => (⟨(kOf H y).1, (kOf H y).2⟩ : T2 Int Int)) = xs
  | [], _, .nil => ⟨fun _ h => (nomatch h), rfl⟩
  | x :: xs, _, .cons r t => by
    obtain ⟨h1, h2⟩ := keys_rep t
    obtain ⟨b, rfl, hb⟩ := key_rep r
    have e := kOf_at (q := x) hb
    refine ⟨fun y hy => ?_, ?_⟩
    · rcases List.mem_cons.mp hy with z | hy
      · subst z; exact ⟨b, rfl, by rw [e]; exact hb⟩
      · exact h1 y hy
    · rw [List.map_cons, h2, e]
theorem x_sortedL {xs : List (T2 Int Int)} {v : V} (L : Lo C X H σ Γ) (r : Rep C.K X H (enc xs) v) (h : ∀ v H1, Lo C X H1 σ Γ → (∀ d u, Rep C.K X H d u → Rep C.K X H1 d u) → Rep C.K X H1 (enc (sortP xs)) v → Q v H1) : rSortedPO C.K [v] H Q := by
  obtain ⟨a, vs, rfl, _, hs, q⟩ := rep_lst (ds := xs.map enc) r
  obtain ⟨k1, k2⟩ := keys_rep q
  refine ⟨a, vs, kOf H, rfl, .inl hs, fun x hx => ?_, fun ys q hs hb hq => ?_⟩
  · obtain ⟨b, e, hb⟩ := k1 x hx
    exact ⟨b, e, hb⟩
  have es : ys.map (fun y => (⟨(kOf H y).1, (kOf H y).2⟩ : T2 Int Int)) = sortP xs := by
    refine SrtO.stb_uniq lt2P_swo (SrtO.srtd_map (lt := lt2P) (f := fun y => (⟨(kOf H y).1, (kOf H y).2⟩ : T2 Int Int)) hs) (sortP_srtd _) (stb_perm ?_)
    refine ((hb.perm.map _).trans ?_).trans (sortP_perm _).symm
    rw [k2]
  have s : Same H (upd H q (.lst ys)) := same_upd hq
  have rp : Reps C.K X H ((sortP xs).map enc) ys := by
    rw [← es]
    exact reps_keys fun y hy => k1 y (hb.perm.mem_iff.mp hy)
  have rr : RRep C.K X H (upd H q (.lst ys)) (.new (.lst ((sortP xs).map enc))) (.ref q) := ⟨q, rfl, hq, ys, upd_same, (rp.more hq).keep (.same s)⟩
  exact h _ _ (L.same s) (fun _ _ r => r.keep (.same s)) (rr.imm L.xd)
end
/-! ### what forbids tells -/
inductive Fb where
  | non
  | area (p q : T2 Int Int)
  | mark (d p q : T2 Int Int)
  deriving DecidableEq
instance : Py Fb := ⟨fun x => match x with
  | .non => .none
  | .area p q => .tuple [.str "area", enc p, enc q]
  | .mark d p q => .tuple [.str "mark", enc d, enc p, enc q]⟩
instance : PyE Fb where
  d := PyE.d (T2 Int Int) + 1
  eqv := fun x y => by
    cases x <;> cases y
    case non.non => rfl
    case area.area p q p' q' =>
      show PyData.eqv (.tuple [.str "area", enc p, enc q]) (.tuple [.str "area", enc p', enc q']) = _
      rw [eqv_tup, eqvAll_cons, eqvAll_cons, eqvAll_cons, eqvAll_nil, PyE.eqv, PyE.eqv]
      by_cases h1 : p = p' <;> by_cases h2 : q = q' <;> simp [h1, h2, PyData.eqv]
    case mark.mark d p q d' p' q' =>
      show PyData.eqv (.tuple [.str "mark", enc d, enc p, enc q]) (.tuple [.str "mark", enc d', enc p', enc q']) = _
      rw [eqv_tup, eqvAll_cons, eqvAll_cons, eqvAll_cons, eqvAll_cons, eqvAll_nil, PyE.eqv, PyE.eqv, PyE.eqv]
      by_cases h0 : d = d' <;> by_cases h1 : p = p' <;> by_cases h2 : q = q' <;> simp [h0, h1, h2, PyData.eqv]
    case area.mark p q d' p' q' =>
      show PyData.eqv (.tuple [.str "area", enc p, enc q]) (.tuple [.str "mark", enc d', enc p', enc q']) = _
      rw [eqv_tup, eqvAll_cons]
      unfold PyData.eqv
      rw [show ((Str.ofString "area" == Str.ofString "mark") = false) from by decide +kernel]; rfl
    case mark.area p q d' p' q' =>
      show PyData.eqv (.tuple [.str "mark", enc p, enc q, enc d']) (.tuple [.str "area", enc p', enc q']) = _
      rw [eqv_tup, eqvAll_cons]
      unfold PyData.eqv
      rw [show ((Str.ofString "mark" == Str.ofString "area") = false) from by decide +kernel]; rfl
    all_goals (first | (show PyData.eqv .none (.tuple _) = _; unfold PyData.eqv; simp) | (show PyData.eqv (.tuple _) .none = _; unfold PyData.eqv; simp))
  lay := fun x => by
    cases x
    · rfl
    · rename_i p q
      show PyData.canLay0 (.tuple [.str "area", enc p, enc q]) = true
      rw [lay_tup, layAll_cons, layAll_cons, layAll_cons, layAll_nil, PyE.lay, PyE.lay, show PyData.canLay0 (.str "area") = true by decide +kernel]; rfl
    · rename_i d p q
      show PyData.canLay0 (.tuple [.str "mark", enc d, enc p, enc q]) = true
      rw [lay_tup, layAll_cons, layAll_cons, layAll_cons, layAll_cons, layAll_nil, PyE.lay, PyE.lay, PyE.lay, show PyData.canLay0 (.str "mark") = true by decide +kernel]; rfl
  dep := fun x => by
    cases x
    · exact Nat.zero_le _
    · rename_i p q
      show PyData.depth (.tuple [.str "area", enc p, enc q]) ≤ _
      rw [dep_tup, depAll_cons, depAll_cons, depAll_cons, depAll_nil]
      have := PyE.dep p
      have := PyE.dep q
      have : PyData.depth (.str "area") = 0 := rfl
      omega
    · rename_i d p q
      show PyData.depth (.tuple [.str "mark", enc d, enc p, enc q]) ≤ _
      rw [dep_tup, depAll_cons, depAll_cons, depAll_cons, depAll_cons, depAll_nil]
      have := PyE.dep p
      have := PyE.dep q
      have := PyE.dep d
      have : PyData.depth (.str "mark") = 0 := rfl
      omega
def FbR (K : PySem.W.Frag) (f : Fb) (v : V) (H : Hp) : Prop := match f with
  | .non => v = .non
  | .area p q => ∃ a b c, v = .ref a ∧ H a = some (.tup [.str "area", b, c]) ∧ Lax K p b H ∧ Lax K q c H
  | .mark d p q => ∃ a x b c, v = .ref a ∧ H a = some (.tup [.str "mark", x, b, c]) ∧ Lax K d x H ∧ Lax K p b H ∧ Lax K q c H
theorem Lax.same {K : PySem.W.Frag} {q : T2 Int Int} {v : V} {H H' : Hp} (s : Same H H') (r : Lax K q v H) : Lax K q v H' := by
  obtain ⟨a, e, h⟩ := r
  refine ⟨a, e, ?_⟩
  rcases h with (h | ⟨o, h⟩) | h
  · exact .inl (.inl (s _ _ h))
  · exact .inl (.inr ⟨o, s _ _ h⟩)
  · exact .inr h
theorem FbR.same {K : PySem.W.Frag} {f : Fb} {v : V} {H H' : Hp} (s : Same H H') (r : FbR K f v H) : FbR K f v H' := by
  cases f with
  | non => exact r
  | area p q =>
    obtain ⟨a, b, c, e, h, l1, l2⟩ := r
    exact ⟨a, b, c, e, s _ _ h, l1.same s, l2.same s⟩
  | mark d p q =>
    obtain ⟨a, x, b, c, e, h, l0, l1, l2⟩ := r
    exact ⟨a, x, b, c, e, s _ _ h, l0.same s, l1.same s, l2.same s⟩
theorem FbR.dp {K : PySem.W.Frag} {f : Fb} {v : V} {H : Hp} (r : FbR K f v H) : Dp K H v (enc f) := by
  cases f with
  | non =>
    obtain rfl : v = .non := r
    exact .non
  | area p q =>
    obtain ⟨a, b, c, rfl, h, l1, l2⟩ := r
    exact .tup (.inl (.inl h)) (.cons (.str _) (.cons l1.dp (.cons l2.dp .nil)))
  | mark d p q =>
    obtain ⟨a, x, b, c, rfl, h, l0, l1, l2⟩ := r
    exact .tup (.inl (.inl h)) (.cons (.str _) (.cons l0.dp (.cons l1.dp (.cons l2.dp .nil))))
theorem FbR.mkA {K : PySem.W.Frag} {p q : T2 Int Int} {a : Addr} {b c : V} {H : Hp} (h : H a = some (.tup [.str "area", b, c])) (l1 : Lax K p b H) (l2 : Lax K q c H) : FbR K (.area p q) (.ref a) H := ⟨a, b, c, rfl, h, l1, l2⟩
theorem FbR.mkM {K : PySem.W.Frag} {d p q : T2 Int Int} {a : Addr} {x b c : V} {H : Hp} (h : H a = some (.tup [.str "mark", x, b, c])) (l0 : Lax K d x H) (l1 : Lax K p b H) (l2 : Lax K q c H) : FbR K (.mark d p q) (.ref a) H := ⟨a, x, b, c, rfl, h, l0, l1, l2⟩
section
variable {C : Cn} {X : Addr → Prop} {H : Hp} {σ : L2.St} {Γ Γ' : List Sl} {Q : VK}
theorem x_mkTR {vs : List V} (L : Lo C X H σ Γ) (hl : vs.length ≤ 16777216) (h : ∀ p H1, Same H H1 → Lo C X H1 σ Γ → H1 p = some (.tup vs) → Q (.ref p) H1) : KTup Q vs H := by
  refine ⟨by rw [line_eq]; exact hl, fun p hp => ?_⟩
  have s : Same H (upd H p (.tup vs)) := same_upd hp
  exact h p _ s (L.same s) upd_same
theorem k0R {v : V} {H' : Hp} {R : V → Hp → Prop} {ps : List (Addr × MO)} {G : Prop} (L : Lo C X H σ Γ) (F : Fin C.K X H [] ps (.raw R) v H') (h : Lo C X H' σ Γ → (∀ d u, Rep C.K X H d u → Rep C.K X H' d u) → R v H' → G) : G := h (L.after0 F).1 (L.after0 F).2 F.res
end
section
variable {H : Hp} {Q : VK} {α : Type}
theorem x_eqdK {K : PySem.W.Frag} [Py α] [DecidableEq α] [PyE α] {x y : α} {u v : V} (r : Dp K H u (enc x)) (q : Dp K H v (enc y)) (h64 : PyE.d α ≤ 64) (h : Q (.bl (decide (x = y))) H) : rEqD K u v H Q :=
  x_eqd (C := ⟨K, fun _ => False, H, [], 0⟩) r q h64 h
theorem x_nedK {K : PySem.W.Frag} [Py α] [DecidableEq α] [PyE α] {x y : α} {u v : V} (r : Dp K H u (enc x)) (q : Dp K H v (enc y)) (h64 : PyE.d α ≤ 64) (h : Q (.bl (!decide (x = y))) H) : rNeD K u v H Q :=
  x_ned (C := ⟨K, fun _ => False, H, [], 0⟩) r q h64 h
end
/-! ### for .. in zip(xs, ys); xs.insert(i, x); range by two -/
def zipO {α β : Type} (xs : List α) (ys : List β) : Option (List (T2 α β)) := if xs.length = ys.length then some (List.zipWith T2.mk xs ys) else none
def insO {α : Type} (xs : List α) (i : Int) (y : α) : Option (List α) := if 0 ≤ i ∧ i < 2 ^ 62 ∧ xs.length + 1 ≤ 16777216 then some (xs.take i.toNat ++ [y] ++ xs.drop i.toNat) else none
def twoL (lo : Int) (n : Nat) : List Int := (List.range n).map fun (k : Nat) => lo + (k : Int) * 2
def KForZ (K : PySem.W.Frag) (g : TG) (tb : TS) (D : Ends) (σ : L2.St) : List V → Hp → Prop := fun vs H => ∃ a b xs ys, vs = [.ref a, .ref b] ∧ SqL K H a xs ∧ SqL K H b ys ∧ ∃ W : Nat → Nat → L2.St → Hp → Prop, (∃ m, W 0 m σ H) ∧ ∀ i m σ H, W i m σ H →
      ((Itz K a b).stop i H ∧ D.nx σ H) ∨ ((Itz K a b).go i H ∧ ∃ N : L2.St → Hp → Prop, (∀ σ' H', N σ' H' → ∃ m', m' < m ∧ W (i + 1) m' σ' H') ∧ ∀ v H', (Itz K a b).yld i H v H' → g v σ H' fun σ2 H2 => tb { D with nx := N, ct := N, bk := D.nx } σ2 H2)
section
variable {C : Cn} {X : Addr → Prop} {H : Hp} {σ : L2.St} {Γ Γ' : List Sl} {Q : VK} {α β τ ρ : Type}
theorem x_tforZ {ta : TA} {g : TG} {tb : TS} {D : Ends} {K : PySem.W.Frag} (h : ta σ H (KForZ K g tb D σ)) : tFor (iZip K ta) g tb D σ H := h
def KLcZ (K : PySem.W.Frag) (g : TG) (tt : TT) (te : TE) (ws : List Nat) (σ : L2.St) (Q : VK) : List V → Hp → Prop := fun vs H => ∃ a b xs ys, vs = [.ref a, .ref b] ∧ SqL K H a xs ∧ SqL K H b ys ∧ ∀ D, H D = none → ∃ W : Nat → Nat → Hp → Prop, (∃ m, W 0 m (upd H D (.lst []))) ∧ ∀ i m H, W i m H →
      ((Itz K a b).stop i H ∧ Q (.ref D) H) ∨ ((Itz K a b).go i H ∧ ∃ Nx : Hp → Prop, (∀ H', Nx H' → ∃ m', m' < m ∧ W (i + 1) m' H') ∧ ∀ x H', (Itz K a b).yld i H x H' → g x (wipe σ ws) H' fun σ2 H2 => wipe σ2 ws = wipe σ ws ∧ tt σ2 H2 fun b H3 =>
        if b = true then te σ2 H3 fun y H4 => ∃ acc, H4 D = some (.lst acc) ∧ acc.length < sizeLine ∧ Nx (upd H4 D (.lst (acc ++ [y]))) else Nx H3)
theorem x_lcz {K : PySem.W.Frag} {ta : TA} {te : TE} {g : TG} {tt : TT} {ws : List Nat} (h : ta σ H (KLcZ K g tt te ws σ Q)) : tLc (iZip K ta) g tt te ws σ H Q := h
theorem x_lcZ {γ : Type} [Py α] [Py β] [Py γ] {xs : List α} {ys : List β} {zs : List (T2 α β)} {f : T2 α β → τ → Option (Option γ × τ)} {G : τ → List Sl} {s0 : τ} {q : List γ × τ} {u v : V} {g : TG} {tt : TT} {te : TE} {ws : List Nat}
    (hz : zipO xs ys = some zs) (L : Lo C X H σ (G s0)) (hG : ∀ s s', muts (G s) = muts (G s')) (r : Rep C.K X H (enc xs) u) (r2 : Rep C.K X H (enc ys) v) (hm : compL f zs s0 = some q) (hl : zs.length ≤ 16777216)
    (body : ∀ x s, BodyC C X G (enc x) s (f x s) g tt te ws)
    (h : ∀ D H', Lo C X H' σ (G q.2) → (∀ d u, Rep C.K X H d u → Rep C.K X H' d u) → Rep C.K X H' (enc q.1) (.ref D) → Q (.ref D) H') : KLcZ C.K g tt te ws σ Q [u, v] H := by
  obtain ⟨a, us, rfl, hna, hrd, hrs⟩ := rep_lst (ds := xs.map enc) r
  obtain ⟨b, us2, rfl, hnb, hrb, hrt⟩ := rep_lst (ds := ys.map enc) r2
  have hll : xs.length = ys.length := by
    unfold zipO at hz
    split at hz
    · assumption
    · cases hz
  have hz2 : zs = List.zipWith T2.mk xs ys := by
    unfold zipO at hz
    rw [if_pos hll] at hz
    exact (Option.some.inj hz).symm
  subst hz2
  have e1 : us.length = xs.length := by rw [hrs.length, List.length_map]
  have e2 : us2.length = ys.length := by rw [hrt.length, List.length_map]
  have hlz : (List.zipWith T2.mk xs ys).length = xs.length := by rw [List.length_zipWith, hll]; exact Nat.min_self _
  refine ⟨a, b, us, us2, rfl, .inl hrd, .inl hrb, fun D hD => ?_⟩
  have h0 : C.H0 D = none := by
    cases e : C.H0 D with
    | none => rfl
    | some o => exact (L.dom D (by rw [e]; exact fun z => nomatch z) hD).elim
  have hDm : ∀ s, D ∉ muts (G s) := fun s h => L.xd D (L.mx D (hG s s0 ▸ h)) hD
  have sm : Same H (upd H D (.lst [])) := same_upd hD
  have lay := L.lay (p := D) (o := .lst []) hD sm ⟨[], upd_same, .nil⟩
  have L1 : Lo C (fun a => X a ∨ a = D) (upd H D (.lst [])) σ (G s0) := by
    refine ⟨L.len, fun i s hi => ?_, L.nd, fun p hp => .inl (L.mx p hp), fun a h => .inl (L.m0 a h), lay.1.xd, lay.1.base, lay.1.dom, L.own, L.tf⟩
    refine lay.1.at_ i s ?_
    rw [List.getElem?_append_left (List.getElem?_eq_some_iff.mp hi).1]
    exact hi
  have fresh : ∀ {c : Addr} {ws : List V}, ¬ X c → Rd H c (.lst ws) → ¬ (X c ∨ c = D) := fun hn hr h => h.elim hn fun e => by
    subst e
    exact rd_nn hr hD
  have hna' := fresh hna hrd
  have hnb' := fresh hnb hrb
  refine lc_it (walk_zip (K := C.K) (a := a) (b := b) (xs := us) (ys := us2) (n := us.length) (by omega)) (fun i H' => ∃ s zs' acc q', Lo C (fun a => X a ∨ a = D) H' σ (G s) ∧ Reps C.K (fun a => X a ∨ a = D) H' (xs.map enc) us ∧ Reps C.K (fun a => X a ∨ a = D) H' (ys.map enc) us2 ∧ Rd H' a (.lst us) ∧ Rd H' b (.lst us2) ∧ H' D = some (.lst acc) ∧ Reps C.K (fun a => X a ∨ a = D) H' (zs'.map enc) acc ∧
      compL f ((List.zipWith T2.mk xs ys).drop i) s = some q' ∧ q = (zs' ++ q'.1, q'.2) ∧ zs'.length ≤ i ∧ Keep X H H' ∧ (∀ a, H a ≠ none → H' a ≠ none))
    ⟨s0, [], [], q, L1, (hrs.more hD).keep (.same sm), (hrt.more hD).keep (.same sm), Keep.rd (.same sm) hna hrd, Keep.rd (.same sm) hnb hrb, upd_same, .nil, hm, rfl, Nat.le_refl _, .same sm, fun a h => ?_⟩ (fun i H' _ ⟨s, zs', acc, q', _, _, _, h, h', _⟩ => ⟨.inl h, .inl h'⟩) ?_ ?_
  · by_cases z : a = D
    · rw [z, upd_same]; exact fun y => nomatch y
    · rw [upd_ne z]; exact h
  · rintro i w H' Hn hi ⟨s, zs', acc, q', L', hr', ht', hd', hd2', hacc, hys, hq', eq, hyl, hk, hdm⟩ ⟨T, y, y2, rfl, hT, rfl, hy, hw⟩
    obtain ⟨d, hd, rd⟩ := hr'.get' hy
    obtain ⟨d2, hd2, rd2⟩ := ht'.get' hw
    rw [List.getElem?_map] at hd hd2
    cases hx : xs[i]? with
    | none => rw [hx] at hd; cases hd
    | some x =>
    cases hx' : ys[i]? with
    | none => rw [hx'] at hd2; cases hd2
    | some x' =>
      rw [hx] at hd
      rw [hx'] at hd2
      cases hd
      cases hd2
      have hzi : (List.zipWith T2.mk xs ys)[i]? = some (T2.mk x x') := by rw [List.getElem?_zipWith, hx, hx']
      have hil : i < xs.length := (List.getElem?_eq_some_iff.mp hx).1
      have TD : T ≠ D := fun z => by rw [z, hacc] at hT; cases hT
      have sT : Same H' (upd H' T (.tup [y, y2])) := same_upd hT
      have LT := L'.same sT
      have rT : Rep C.K (fun a => X a ∨ a = D) (upd H' T (.tup [y, y2])) (enc (T2.mk x x')) (.ref T) := .tup upd_same (.cons (rd.keep (.same sT)) (.cons (rd2.keep (.same sT)) .nil))
      have rT1 := hr'.keep (.same sT)
      have rT2 := ht'.keep (.same sT)
      have kd : ∀ {c : Addr} {ws : List V}, Rd H' c (.lst ws) → Rd (upd H' T (.tup [y, y2])) c (.lst ws) := fun h => h.elim (fun h => .inl (sT _ _ h)) fun ⟨o, h⟩ => .inr ⟨o, sT _ _ h⟩
      have haccT := sT _ _ hacc
      have hysT := hys.keep (.same sT)
      have kT : Keep X H (upd H' T (.tup [y, y2])) := hk.trans (.same sT)
      have dT : ∀ a, H a ≠ none → (upd H' T (.tup [y, y2])) a ≠ none := fun a h e => by
        have := hdm a h
        cases e2 : H' a with
        | none => exact this e2
        | some o => rw [sT _ _ e2] at e; cases e
      obtain ⟨r1, q1, h1, h2, h3⟩ := comp_drop hzi hq'
      refine body (T2.mk x x') s _ _ σ _ r1 _ _ h1 LT.enter rT ?_ ?_
      · intro e H'' M
        have k := LT.keep M
        have kd2 : H'' D = some (.lst acc) := M.base D _ haccT (hDm s)
        refine ⟨r1.2, zs', acc, q1, LT.leave M (hG _ _), rT1.keep k, rT2.keep k, k.rd hna' (kd hd'), k.rd hnb' (kd hd2'), kd2, hysT.keep k, h2, ?_, Nat.le_succ_of_le hyl, ?_, fun a h => M.dom a (dT a h)⟩
        · rw [eq, h3, e]
        · refine ⟨fun b o hb n => ?_, fun b vs hb => k.2.1 b vs (kT.2.1 b vs hb), fun b o u hb => k.2.2 b o u (kT.2.2 b o u hb)⟩
          have hbD : b ≠ D := fun z => by rw [z, hD] at hb; cases hb
          exact k.1 b o (kT.1 b o hb n) fun z => z.elim n hbD
      · intro yv e v H'' M rv
        have k := LT.keep M
        have kd2 : H'' D = some (.lst acc) := M.base D _ haccT (hDm s)
        have L2 := LT.leave M (hG _ _)
        obtain ⟨L3, k3⟩ := L2.wroteX (p := D) (o' := .lst (acc ++ [v])) (.inr rfl) (hDm _) kd2 h0 (fun _ z => nomatch z) (fun _ _ z => nomatch z)
        have k4 := k.trans k3
        have hal : acc.length = zs'.length := by rw [hys.length, List.length_map]
        refine ⟨acc, kd2, by rw [line_eq]; omega, r1.2, zs' ++ [yv], acc ++ [v], q1, L3, rT1.keep k4, rT2.keep k4, k4.rd hna' (kd hd'), k4.rd hnb' (kd hd2'), upd_same, ?_, h2, ?_, ?_, ?_, ?_⟩
        · rw [List.map_append]
          exact (hysT.keep k4).append (.cons (rv.keep k3) .nil)
        · rw [eq, h3, e]
          show (zs' ++ yv :: q1.1, q1.2) = (zs' ++ [yv] ++ q1.1, q1.2)
          rw [List.append_assoc]; rfl
        · rw [List.length_append]; exact Nat.succ_le_succ hyl
        · refine ⟨fun b o hb n => ?_, fun b vs hb => k4.2.1 b vs (kT.2.1 b vs hb), fun b o u hb => k4.2.2 b o u (kT.2.2 b o u hb)⟩
          have hbD : b ≠ D := fun z => by rw [z, hD] at hb; cases hb
          exact k4.1 b o (kT.1 b o hb n) fun z => z.elim n hbD
        · intro a h
          by_cases z : a = D
          · rw [z, upd_same]; exact fun y => nomatch y
          · rw [upd_ne z]; exact M.dom a (dT a h)
  · rintro H' ⟨s, zs', acc, q', L', _, _, _, _, hacc, hys, hq', eq, _, hk, hdm⟩
    rw [List.drop_eq_nil_of_le (by omega)] at hq'
    cases hq'
    rw [List.append_nil] at eq
    subst eq
    exact lc_data L hD L' (hG _ _) hk ⟨acc, hacc, hys⟩ (h D H')
theorem x_flZ [Py α] [Py β] {xs : List α} {ys : List β} {f : T2 α β → τ → Option (Lp τ ρ)} {G : τ → List Sl} {ps : ρ → List (Addr × MO)} {rs : ρ → Rs} {s0 : τ} {u v : V} {g : TG} {tb : TS} {nx bk ct : L2.St → Hp → Prop} {rt : VK} {zs : List (T2 α β)} {δ : Type} {k : τ → Option δ} {j : ρ → Option δ} {res : δ}
    (hz : zipO xs ys = some zs) (L : Lo C X H σ (G s0)) (hG : ∀ s s', muts (G s) = muts (G s')) (r : Rep C.K X H (enc xs) u) (q : Rep C.K X H (enc ys) v) (hm : (loopL f zs s0).bind (fun o => o.out j k) = some res)
    (body : ∀ x s, Body C X G ps rs (enc x) s (f x s) g tb) (done : ∀ s σ' H', k s = some res → Lo C X H' σ' (G s) → nx σ' H')
    (ret : ∀ q v H', j q = some res → Fin C.K C.X0 C.H0 C.P0 (ps q) (rs q) v H' → rt v H') : KForZ C.K g tb ⟨nx, rt, bk, ct⟩ σ [u, v] H := by
  obtain ⟨o, h1, h2⟩ := ob hm
  obtain ⟨a, vs, rfl, hna, hrd, hrs⟩ := rep_lst (ds := xs.map enc) r
  obtain ⟨b, us, rfl, hnb, hrb, hrt⟩ := rep_lst (ds := ys.map enc) q
  have hl : xs.length = ys.length := by
    unfold zipO at hz
    split at hz
    · assumption
    · cases hz
  have hz2 : zs = List.zipWith T2.mk xs ys := by
    unfold zipO at hz
    rw [if_pos hl] at hz
    exact (Option.some.inj hz).symm
  subst hz2
  have e1 : vs.length = xs.length := by rw [hrs.length, List.length_map]
  have e2 : us.length = ys.length := by rw [hrt.length, List.length_map]
  have hlz : (List.zipWith T2.mk xs ys).length = xs.length := by rw [List.length_zipWith, hl]; exact Nat.min_self _
  refine ⟨a, b, vs, us, rfl, .inl hrd, .inl hrb, RZ.for_zipL (K := C.K) (a := a) (b := b) (xs := vs) (ys := us) (by omega) (fun i σ' H' => ∃ s, Lo C X H' σ' (G s) ∧ Reps C.K X H' (xs.map enc) vs ∧ Reps C.K X H' (ys.map enc) us ∧ Rd H' a (.lst vs) ∧ Rd H' b (.lst us) ∧ loopL f ((List.zipWith T2.mk xs ys).drop i) s = some o)
    ⟨s0, L, hrs, hrt, hrd, hrb, h1⟩ (fun i σ' H' ⟨s, _, _, _, h, h', _⟩ => ⟨.inl h, .inl h'⟩) ?_ ?_⟩
  · rintro i y w T σ' H' hy hw ⟨s, L', r', q', hd, hd', hm''⟩ hT
    obtain ⟨d, hd1, rd⟩ := r'.get' hy
    obtain ⟨d', hd2, rd'⟩ := q'.get' hw
    rw [List.getElem?_map] at hd1 hd2
    cases hx : xs[i]? with
    | none => rw [hx] at hd1; cases hd1
    | some x =>
    cases hx' : ys[i]? with
    | none => rw [hx'] at hd2; cases hd2
    | some x' =>
      rw [hx] at hd1
      rw [hx'] at hd2
      cases hd1
      cases hd2
      have hzi : (List.zipWith T2.mk xs ys)[i]? = some (T2.mk x x') := by rw [List.getElem?_zipWith, hx, hx']
      obtain ⟨o1, g1, g2, g3, g4⟩ := loop_drop hzi hm''
      have sT : Same H' (upd H' T (.tup [y, w])) := same_upd hT
      have LT := L'.same sT
      have rT : Rep C.K X (upd H' T (.tup [y, w])) (enc (T2.mk x x')) (.ref T) := .tup upd_same (.cons (rd.keep (.same sT)) (.cons (rd'.keep (.same sT)) .nil))
      have rT1 := r'.keep (.same sT)
      have rT2 := q'.keep (.same sT)
      have kd : ∀ {c : Addr} {ws : List V}, Rd H' c (.lst ws) → Rd (upd H' T (.tup [y, w])) c (.lst ws) := fun h => h.elim (fun h => .inl (sT _ _ h)) fun ⟨o, h⟩ => .inr ⟨o, sT _ _ h⟩
      refine body (T2.mk x x') s _ σ' _ _ _ _ _ o1 g1 LT.enter rT ?_ ?_ ?_ ?_
      · intro s' e X' σ'' H'' L''
        have k := LT.keep L''
        exact ⟨s', LT.leave L'' (hG _ _), rT1.keep k, rT2.keep k, k.rd hna (kd hd), k.rd hnb (kd hd'), g2 s' e⟩
      · intro s' e X' σ'' H'' L''
        have k := LT.keep L''
        exact ⟨s', LT.leave L'' (hG _ _), rT1.keep k, rT2.keep k, k.rd hna (kd hd), k.rd hnb (kd hd'), g2 s' e⟩
      · intro s' e X' σ'' H'' L''
        exact done _ _ _ (by rw [g3 s' e] at h2; exact h2) (LT.leave L'' (hG _ _))
      · intro q e v' H'' F
        exact ret q v' H'' (by rw [g4 q e] at h2; exact h2) (F.leave LT)
  · rintro σ' H' ⟨s, L', _, _, _, _, hm''⟩
    rw [List.drop_eq_nil_of_le (by omega)] at hm''
    have e : o = .nxt s := (Option.some.inj hm'').symm
    exact done _ _ _ (by rw [e] at h2; exact h2) L'
theorem x_foZ [Py α] [Py β] {xs : List α} {ys : List β} {f : T2 α β → τ → Option τ} {G : τ → List Sl} {s0 : τ} {u v : V} {g : TG} {tb : TS} {nx bk ct : L2.St → Hp → Prop} {rt : VK} {zs : List (T2 α β)} {k : τ → Option ρ} {res : ρ}
    (hz : zipO xs ys = some zs) (L : Lo C X H σ (G s0)) (hG : ∀ s s', muts (G s) = muts (G s')) (r : Rep C.K X H (enc xs) u) (q : Rep C.K X H (enc ys) v) (hm : (foldO f zs s0).bind k = some res)
    (body : ∀ x s, BodyO C X G (enc x) s (f x s) g tb) (done : ∀ s σ' H', k s = some res → Lo C X H' σ' (G s) → nx σ' H') : KForZ C.K g tb ⟨nx, rt, bk, ct⟩ σ [u, v] H := by
  obtain ⟨s1, h1, h2⟩ := ob hm
  obtain ⟨a, vs, rfl, hna, hrd, hrs⟩ := rep_lst (ds := xs.map enc) r
  obtain ⟨b, us, rfl, hnb, hrb, hrt⟩ := rep_lst (ds := ys.map enc) q
  have hl : xs.length = ys.length := by
    unfold zipO at hz
    split at hz
    · assumption
    · cases hz
  have hz2 : zs = List.zipWith T2.mk xs ys := by
    unfold zipO at hz
    rw [if_pos hl] at hz
    exact (Option.some.inj hz).symm
  subst hz2
  have e1 : vs.length = xs.length := by rw [hrs.length, List.length_map]
  have e2 : us.length = ys.length := by rw [hrt.length, List.length_map]
  have hlz : (List.zipWith T2.mk xs ys).length = xs.length := by rw [List.length_zipWith, hl]; exact Nat.min_self _
  have hm' := foldO_loop h1
  refine ⟨a, b, vs, us, rfl, .inl hrd, .inl hrb, RZ.for_zipL (K := C.K) (a := a) (b := b) (xs := vs) (ys := us) (by omega) (fun i σ' H' => ∃ s, Lo C X H' σ' (G s) ∧ Reps C.K X H' (xs.map enc) vs ∧ Reps C.K X H' (ys.map enc) us ∧ Rd H' a (.lst vs) ∧ Rd H' b (.lst us) ∧ loopL (ρ := Empty) (fun x s => (f x s).bind fun s' => some (.nxt s')) ((List.zipWith T2.mk xs ys).drop i) s = some (.nxt s1))
    ⟨s0, L, hrs, hrt, hrd, hrb, hm'⟩ (fun i σ' H' ⟨s, _, _, _, h, h', _⟩ => ⟨.inl h, .inl h'⟩) ?_ ?_⟩
  · rintro i y w T σ' H' hy hw ⟨s, L', r', q', hd, hd', hm''⟩ hT
    obtain ⟨d, hd1, rd⟩ := r'.get' hy
    obtain ⟨d', hd2, rd'⟩ := q'.get' hw
    rw [List.getElem?_map] at hd1 hd2
    cases hx : xs[i]? with
    | none => rw [hx] at hd1; cases hd1
    | some x =>
    cases hx' : ys[i]? with
    | none => rw [hx'] at hd2; cases hd2
    | some x' =>
      rw [hx] at hd1
      rw [hx'] at hd2
      cases hd1
      cases hd2
      have hzi : (List.zipWith T2.mk xs ys)[i]? = some (T2.mk x x') := by rw [List.getElem?_zipWith, hx, hx']
      obtain ⟨o1, g1, g2, g3, g4⟩ := loop_drop hzi hm''
      have sT : Same H' (upd H' T (.tup [y, w])) := same_upd hT
      have LT := L'.same sT
      have rT : Rep C.K X (upd H' T (.tup [y, w])) (enc (T2.mk x x')) (.ref T) := .tup upd_same (.cons (rd.keep (.same sT)) (.cons (rd'.keep (.same sT)) .nil))
      have rT1 := r'.keep (.same sT)
      have rT2 := q'.keep (.same sT)
      have kd : ∀ {c : Addr} {ws : List V}, Rd H' c (.lst ws) → Rd (upd H' T (.tup [y, w])) c (.lst ws) := fun h => h.elim (fun h => .inl (sT _ _ h)) fun ⟨o, h⟩ => .inr ⟨o, sT _ _ h⟩
      refine (body (T2.mk x x') s).body _ σ' _ _ _ _ _ o1 g1 LT.enter rT ?_ ?_ ?_ ?_
      · intro s' e X' σ'' H'' L''
        have k := LT.keep L''
        exact ⟨s', LT.leave L'' (hG _ _), rT1.keep k, rT2.keep k, k.rd hna (kd hd), k.rd hnb (kd hd'), g2 s' e⟩
      · intro s' e X' σ'' H'' L''
        have k := LT.keep L''
        exact ⟨s', LT.leave L'' (hG _ _), rT1.keep k, rT2.keep k, k.rd hna (kd hd), k.rd hnb (kd hd'), g2 s' e⟩
      · intro s' e
        have := g3 s' e
        cases this
      · intro q e
        exact q.elim
  · rintro σ' H' ⟨s, L', _, _, _, _, hm''⟩
    rw [List.drop_eq_nil_of_le (by omega)] at hm''
    have e : s = s1 := by
      have : (some (Lp.nxt s) : Option (Lp τ Empty)) = some (.nxt s1) := hm''
      cases this; rfl
    subst e
    exact done _ _ _ h2 L'
def rInsert : V → List V → Hp → VK → Prop := fun x vs H Q => ∃ (l : Addr) (xs : List V) (i : Int) (y : V), x = .ref l ∧ vs = [.int i, y] ∧ H l = some (.lst xs) ∧ xs.length < sizeLine ∧ 0 ≤ i ∧ i < 2 ^ 63 ∧ Q .non (upd H l (.lst (xs.take i.toNat ++ [y] ++ xs.drop i.toNat)))
theorem mt_insertX {Xc : Cx} : MtR Xc "list.insert" rInsert := mt_insert
theorem x_insert [Py α] {G' : List α → List Sl} {xs : List α} {x : α} {n : Int} {v : V} {i : Nat} {p : Addr} {k : List α → Option ρ} {r : ρ} (L : Lo C X H σ Γ) (g : Γ[i]? = some (.mu p (ml xs))) (hm : (insO xs n x).bind k = some r) (q : Rep C.K X H (enc x) v) (e : ∀ ys, Γ.set i (.mu p (ml ys)) = G' ys)
    (h : ∀ ys H1, k ys = some r → Lo C X H1 σ (G' ys) → (∀ d u, Rep C.K X H d u → Rep C.K X H1 d u) → Q .non H1) : rInsert (.ref p) [.int n, v] H Q := by
  obtain ⟨zs, h1, hk⟩ := ob hm
  unfold insO at h1
  split at h1
  next hc =>
    cases h1
    obtain ⟨vs, hs, rs⟩ := L.mrep g
    have hlen : vs.length = xs.length := by rw [rs.length, List.length_map]
    obtain ⟨L1, le⟩ := L.write (es := (xs.take n.toNat ++ [x] ++ xs.drop n.toNat).map enc) (ws := vs.take n.toNat ++ [v] ++ vs.drop n.toNat) g hs (by
      rw [List.map_append, List.map_append, List.map_take, List.map_drop]
      exact ((rs.take n.toNat).append (.cons q .nil)).append (rs.drop n.toNat))
    rw [e] at L1
    exact ⟨p, vs, n, v, rfl, rfl, hs, by rw [line_eq]; omega, hc.1, by omega, h _ _ hk L1 le⟩
  · cases h1
theorem x_r3two {a b : Int} {R : Int → Int → Nat → Hp → Prop} {k : Unit → Option ρ} {r : ρ} (hm : ((rngOk a).bind fun _ => rngOk b).bind k = some r) (h : k () = some r → R a 2 ((b - a + 1) / 2).toNat H) : KRng3 R [.int a, .int b, .int 2] H := by
  obtain ⟨_, h0, hk⟩ := ob hm
  obtain ⟨_, h1, h2⟩ := ob h0
  have a1 : -(2 ^ 62) ≤ a ∧ a < 2 ^ 62 := by
    unfold rngOk at h1
    split at h1
    · omega
    · cases h1
  have a2 : -(2 ^ 62) ≤ b ∧ b < 2 ^ 62 := by
    unfold rngOk at h2
    split at h2
    · omega
    · cases h2
  have rs : Builtin.Range.rangeSize a b 2 = (((b - a + 1) / 2).toNat : Int) := by
    unfold Builtin.Range.rangeSize
    simp only [show ((2 : Int) > 0) by decide, if_true]
    split <;> omega
  refine ⟨a, b, 2, _, rfl, ⟨by decide, by decide, ?_, rs⟩, h hk⟩
  unfold Builtin.Range.small
  rw [rs]
  simp only [Builtin.Range.rangeFitsLong, Bool.and_eq_true, Bool.or_eq_true, decide_eq_true_eq, beq_iff_eq, show ((2 : Int) > 0) by decide, if_true]
  omega
theorem x_foTwo {f : Int → τ → Option τ} {G : τ → List Sl} {s0 : τ} {lo : Int} {n : Nat} {g : TG} {tb : TS} {nx bk ct : L2.St → Hp → Prop} {rt : VK} {k : τ → Option ρ} {res : ρ}
    (L : Lo C X H σ (G s0)) (hG : ∀ s s', muts (G s) = muts (G s')) (hm : (foldO f (twoL lo n) s0).bind k = some res)
    (body : ∀ x s, BodyO C X G (enc x) s (f x s) g tb) (done : ∀ s σ' H', k s = some res → Lo C X H' σ' (G s) → nx σ' H') : KForC lo 2 n g tb ⟨nx, rt, bk, ct⟩ σ H := by
  obtain ⟨s1, h1, h2⟩ := ob hm
  have hm1 := foldO_loop h1
  have hlen : (twoL lo n).length = n := by unfold twoL; rw [List.length_map, List.length_range]
  refine ⟨fun i m σ' H' => m = n - i ∧ i ≤ n ∧ ∃ s, Lo C X H' σ' (G s) ∧ loopL (ρ := Empty) (fun x s => (f x s).bind fun s' => some (.nxt s')) ((twoL lo n).drop i) s = some (.nxt s1), ⟨n, by simp, Nat.zero_le _, s0, L, hm1⟩, ?_⟩
  rintro i m σ' H' ⟨rfl, hi, s, L', hm'⟩
  by_cases hlt : i < n
  · refine .inr ⟨hlt, fun σ'' H'' => i + 1 ≤ n ∧ ∃ s, Lo C X H'' σ'' (G s) ∧ loopL (ρ := Empty) (fun x s => (f x s).bind fun s' => some (.nxt s')) ((twoL lo n).drop (i + 1)) s = some (.nxt s1), fun σ'' H'' p' => ⟨n - (i + 1), by omega, rfl, p'⟩, ?_⟩
    rintro v H2 ⟨rfl, rfl⟩
    have hx : (twoL lo n)[i]? = some (lo + (i : Int) * 2) := by
      unfold twoL
      rw [List.getElem?_map, List.getElem?_range hlt]; rfl
    obtain ⟨o1, g1, g2, g3, g4⟩ := loop_drop hx hm'
    refine (body _ s).body _ σ' _ _ _ _ _ o1 g1 L'.enter (.int _) ?_ ?_ ?_ ?_
    · intro s' e X' σ'' H'' L''
      exact ⟨hlt, s', L'.leave L'' (hG _ _), g2 s' e⟩
    · intro s' e X' σ'' H'' L''
      exact ⟨hlt, s', L'.leave L'' (hG _ _), g2 s' e⟩
    · intro s' e
      have := g3 s' e
      cases this
    · intro q e
      exact q.elim
  · have : i = n := by omega
    subst this
    rw [List.drop_eq_nil_of_le (by omega)] at hm'
    have e : s = s1 := by
      have : (some (Lp.nxt s) : Option (Lp τ Empty)) = some (.nxt s1) := hm'
      cases this; rfl
    subst e
    exact .inl ⟨Nat.le_refl _, done _ _ _ h2 L'⟩
/-- a < b < c, c's reckoning does something -/
theorem x_chB {A : Bool} {m : Option Bool} {k : Bool → Option ρ} {r : ρ} {tc : TE} {r' : R2} {y : V} (L : Lo C X H σ Γ) (hm : (if A = true then m else some false).bind k = some r)
    (hu : ∀ b, m = some b → ∀ Q' : VK, (∀ H2, Lo C X H2 σ Γ → Q' (.bl b) H2) → tc σ H fun w H4 => r' y w H4 Q') (h : ∀ b H2, k b = some r → Lo C X H2 σ Γ → Q (.bl b) H2) : KCh tc r' σ y Q (.bl A) H := by
  refine ⟨A, rfl, ?_⟩
  cases A with
  | true =>
    obtain ⟨b, e, hk⟩ := ob hm
    exact hu b e Q fun H2 l => h b H2 hk l
  | false => exact h false H hm L
end
section
variable {C : Cn} {X : Addr → Prop} {H : Hp} {σ : L2.St} {Γ Γ' : List Sl} {Q : VK} {α β τ ρ : Type}
theorem x_catT {ds es fs : List PyData} {u v : V} (L : Lo C X H σ Γ) (r : Rep C.K X H (.tuple ds) u) (q : Rep C.K X H (.tuple es) v) (hl : ds.length + es.length ≤ 16777216) (h1 : ds ≠ []) (h2 : es ≠ []) (e : ds ++ es = fs)
    (h : ∀ w H1, Lo C X H1 σ Γ → (∀ d u, Rep C.K X H d u → Rep C.K X H1 d u) → Rep C.K X H1 (.tuple fs) w → Q w H1) : rCatT C.K u v H Q := by
  subst e
  obtain ⟨a, vs, rfl, hv, rv⟩ := rep_tupS r
  obtain ⟨b, us, rfl, hu, ru⟩ := rep_tupS q
  have l1 := rv.length
  have l2 := ru.length
  have n1 : vs ≠ [] := fun z => h1 (by subst z; exact List.eq_nil_of_length_eq_zero (by rw [← l1]; rfl))
  have n2 : us ≠ [] := fun z => h2 (by subst z; exact List.eq_nil_of_length_eq_zero (by rw [← l2]; rfl))
  refine ⟨a, b, vs, us, rfl, rfl, .inl (.inl hv), .inl (.inl hu), n1, by rw [line_eq]; omega, fun z => absurd z n2, fun _ p hp => ?_⟩
  have s : Same H (upd H p (.tup (vs ++ us))) := same_upd hp
  exact h _ _ (L.same s) (fun _ _ r => r.keep (.same s)) (.tup upd_same ((rv.append ru).keep (.same s)))
end
open Py (enc)
/-! ### dicts whose keys are tuples of tuples -/
mutual
inductive KIs (H : Hp) : NestedKey → V → Prop
  | num (i : Int) : KIs H (.num i) (.int i)
  | tup {a : Addr} {ks : List NestedKey} {vs : List V} : H a = some (.tup vs) → KAll H ks vs → KIs H (.tup ks) (.ref a)
inductive KAll (H : Hp) : List NestedKey → List V → Prop
  | nil : KAll H [] []
  | cons {k : NestedKey} {v : V} {ks : List NestedKey} {vs : List V} : KIs H k v → KAll H ks vs → KAll H (k :: ks) (v :: vs)
end
mutual
theorem KIs.real {P : Program} {w : World} {H : Hp} {h : Heap} (ok : HOk P w H h) : ∀ {k : NestedKey} {v : V} {u : Value}, KIs H k v → RelV v u → NestedIs h k u
  | _, _, _, .num i, r => by obtain ⟨t, rfl⟩ := r; exact .int i t
  | _, _, _, .tup (a := a) e al, r => by
    cases r
    obtain ⟨_, its, rv, o, ho, hc, n, hd⟩ := ok a _ e
    exact .tup ho hc hd (by simpa using KAll.real ok al rv)
theorem KAll.real {P : Program} {w : World} {H : Hp} {h : Heap} (ok : HOk P w H h) : ∀ {ks : List NestedKey} {vs : List V} {us : List Value}, KAll H ks vs → Vals vs us → NestedAll h ks us
  | _, _, _, .nil, .nil => .nil
  | _, _, _, .cons a b, .cons r t => .cons (KIs.real ok a r) (KAll.real ok b t)
end
abbrev NXs : Type := List (NestedKey × Addr × Value)
def NR (P : Program) (w : World) (a : Addr) (xs : NXs) (h : Heap) : Prop := (a == sysModules) = false ∧ xs.length ≤ sizeLine ∧ ∃ o es ep, h.get? a = some o ∧ o.ExactDict ∧ o.data = .dict es ep ∧ es.toList = xs.map (entryOfKey (nestedKind P w))
def NdO (P : Program) (w : World) (a : Addr) (xs : NXs) : HO := .ext (NR P w a xs)
theorem nd_new {P : Program} {w : World} {H : Hp} {h : Heap} {a : Addr} {xs : NXs} (r : NR P w a xs h) : ObjOk P w H h a (NdO P w a xs) := by
  obtain ⟨z, l, o, es, ep, ho, q⟩ := id r
  exact ⟨r, ⟨o, ho⟩, fun h1 h2 ⟨z, l, o, es, ep, ho, q⟩ k => ⟨z, l, o, es, ep, k o ho, q⟩⟩
def NKeys (H : Hp) (xs : NXs) : Prop := (∀ x ∈ xs, KIs H x.1 (.ref x.2.1) ∧ x.1.depth ≤ 8) ∧ (xs.map (·.1)).Nodup
def RdN (P : Program) (w : World) (H : Hp) (a : Addr) (xs : NXs) : Prop := H a = some (NdO P w a xs) ∨ ∃ o, H a = some (.frz o (NdO P w a xs))
theorem nd_of {P : Program} {w : World} {H : Hp} {h : Heap} {a : Addr} {xs : NXs} (ok : HOk P w H h) (e : RdN P w H a xs) (k : NKeys H xs) : (a == sysModules) = false ∧ xs.length ≤ sizeLine ∧ h.DictOfH (nestedKind P w) a xs := by
  have r : NR P w a xs h := by
    rcases e with e | ⟨o, e⟩
    · exact (ok a _ e).1
    · exact (ok a _ e).2.1
  obtain ⟨z, l, o, es, ep, ho, hx, hd, he⟩ := r
  exact ⟨z, l, o, es, ep, ho, hx, hd, he, fun x hx' => ⟨KIs.real ok (k.1 x hx').1 rfl, (k.1 x hx').2⟩, k.2⟩
theorem nr_of {P : Program} {w : World} {h : Heap} {a : Addr} {xs : NXs} (z : (a == sysModules) = false) (l : xs.length ≤ sizeLine) (d : h.DictOfH (nestedKind P w) a xs) : NR P w a xs h := by
  obtain ⟨o, es, ep, ho, hx, hd, he, _⟩ := d
  exact ⟨z, l, o, es, ep, ho, hx, hd, he⟩
theorem nd_key {P : Program} {w : World} {H : Hp} {h : Heap} {k : NestedKey} {b : Addr} (ok : HOk P w H h) (q : KIs H k (.ref b)) (d : k.depth ≤ 8) : (nestedKind P w).is h k b := ⟨KIs.real ok q rfl, d⟩
/-- {} -/
def tNNew (P : Program) (w : World) : TE := fun _ H Q => ∀ p, H p = none → Q (.ref p) (upd H p (NdO P w p []))
/-- what a key tells -/
def NGet (P : Program) (w : World) (H : Hp) (a : Addr) (y : V) (o : Option V) : Prop := ∃ xs k b, RdN P w H a xs ∧ NKeys H xs ∧ y = .ref b ∧ KIs H k (.ref b) ∧ k.depth ≤ 8 ∧ RelO o ((atKey xs k).map (·.2))
def IsN (P : Program) (w : World) (H : Hp) (a : Addr) : Prop := ∃ xs, RdN P w H a xs ∧ NKeys H xs
def tNGet (P : Program) (w : World) (td ty : TE) : TE := fun σ H Q => td σ H fun x H1 => ty σ H1 fun y H2 => ∃ a v, x = .ref a ∧ NGet P w H2 a y (some v) ∧ Q v H2
def tNGet2 (P : Program) (w : World) (td ty tx : TE) : TE := fun σ H Q => td σ H fun x H1 => ∃ a, x = .ref a ∧ IsN P w H1 a ∧ ty σ H1 fun y H2 => tx σ H2 fun z H3 => ∃ o, NGet P w H3 a y o ∧ Q (o.getD z) H3
def sNPut (P : Program) (w : World) (td ty tv : TE) : TS := fun D σ H => tv σ H fun v H1 => td σ H1 fun x H2 => ty σ H2 fun y H3 => ∃ a xs k b, x = .ref a ∧ H3 a = some (NdO P w a xs) ∧ NKeys H3 xs ∧ y = .ref b ∧ KIs H3 k (.ref b) ∧ k.depth ≤ 8 ∧ xs.length < sizeLine ∧ ∀ r : Value, RelV v r → D.nx σ (upd H3 a (NdO P w a (storedH xs k b r)))
section
variable {X : Cx} {o i e f value : Expr} {pos pos' apos cpos : Pos} {td ty tx tv : TE}
theorem pe_nnew : PE X (.Dict [] [] pos) (tNNew X.prog X.w) := ⟨fun pins s σ H Q I h =>
  wpAny_Dict_empty ⟨.ref s.heap.objs.size, _, I.laid (a := s.heap.objs.size) (o := NdO X.prog X.w s.heap.objs.size []) (t' := s.toks) (fun _ _ q => Heap.get?_push_of_some _ q) (Nat.le_refl _)
    (nd_new ⟨beq_eq_false_iff_ne.mpr (Ne.symm (Nat.ne_of_lt I.big)), Nat.zero_le _, _, #[], 0, Heap.get?_push_size _ rfl, ⟨rfl, rfl, rfl⟩, rfl, rfl⟩), rfl, h _ (I.hok.fresh (Nat.le_refl _))⟩⟩
theorem nroom {A : Around} (hu : A.units + 65 < cLine) {P : Program} {w : World} : (nestedKind P w).room A.in1 := by
  show A.units + 1 + 8 < cLine
  omega
theorem ndict_typeIs {pins : List (Addr × Obj)} {σ : L2.St} {H : Hp} {s : Shared} {a : Addr} (I : Inv X pins σ H s) (d : IsN X.prog X.w H a) :
    s.TypeIs (.ref a) "dict" ∧ (∀ b, Value.ref a = .ref b → ∃ ob, s.heap.get? b = some ob ∧ ob.dict = none) := by
  obtain ⟨xs, e, k⟩ := d
  obtain ⟨z, l, dd⟩ := nd_of I.hok e k
  refine ⟨dd.typeIs, fun b q => ?_⟩
  cases q
  obtain ⟨ob, _, _, h1, h2, _⟩ := dd
  exact ⟨ob, h1, h2.2.1⟩
theorem NGet.is {P : Program} {w : World} {H : Hp} {a : Addr} {y : V} {o : Option V} (g : NGet P w H a y o) : IsN P w H a := by
  obtain ⟨xs, _, _, e, k, _⟩ := g
  exact ⟨xs, e, k⟩
theorem pe_nget (hu : X.A.units + 65 < cLine) (ho : PE X o td) (hi : PE X i ty) (hs : NoSl i) : PE X (.Subscript o i pos) (tNGet X.prog X.w td ty) := by
  refine ⟨fun pins s σ H Q I h => ?_⟩
  refine subD_of PySem.F.slot_dict_getitem.lookup hs (thn (ho.run pins s σ H _ I h) fun u s1 ⟨x, H1, I1, rx, q1⟩ => thn (hi.run pins s1 σ H1 _ I1 q1) fun iv s2 ⟨y, H2, I2, ry, a, v, ex, g, q2⟩ => ?_)
  subst ex
  obtain rfl : u = Value.ref a := rx
  refine ⟨(ndict_typeIs I2 g.is).1, ?_⟩
  obtain ⟨xs, k, b, e, nk, ey, kb, kd, l⟩ := g
  subst ey
  cases (show iv = Value.ref b from ry)
  obtain ⟨z, _, dd⟩ := nd_of I2.hok e nk
  obtain ⟨w', hw, rw'⟩ := RelO.some_of (v := v) (o := (atKey xs k).map (·.2)) l
  obtain ⟨p, hp, hp2⟩ := Option.map_eq_some_iff.mp hw
  refine wpAny_getItem_heap (nroom hu) (nd_key I2.hok kb kd) dd hp ?_
  rw [hp2]
  exact ⟨v, H2, I2.tok _, rw', q2⟩
theorem pe_ngetK {P : Program} {w : World} (hp : X.prog = P) (hw : X.w = w) (hu : X.A.units + 65 < cLine) (ho : PE X o td) (hi : PE X i ty) (hs : NoSl i) : PE X (.Subscript o i pos) (tNGet P w td ty) := by
  subst hp hw
  exact pe_nget hu ho hi hs
theorem pe_nget2 (hu : X.A.units + 65 < cLine) (ho : PE X o td) (he : PE X e ty) (hf : PE X f tx) (m : M2 X o "get" apos e f cpos) : PE X (.Call (.Attribute o "get" apos) [e, f] [] cpos) (tNGet2 X.prog X.w td ty tx) := by
  refine ⟨fun pins s σ H Q I h => ?_⟩
  refine wpAny_Call_method m.base m.few m.line PySem.F.plainAttrs_dict PySem.F.slot_dict_get PySem.F.type_dict_get (thn (ho.run pins s σ H _ I h) fun u s1 ⟨x, H1, I1, rx, a, ex, d, q1⟩ => ?_)
  subst ex
  obtain rfl : u = Value.ref a := rx
  obtain ⟨t1, t2⟩ := ndict_typeIs I1 d
  refine ⟨t1, t2, ?_⟩
  rw [m.trees]
  refine Calls.callWith_builtin rfl (Calls.evalArgs_plain (Calls.spliced_cons (thn (he.run pins s1 σ H1 _ I1 q1) fun iv s2 ⟨y, H2, I2, ry, q2⟩ =>
    Calls.spliced_cons (thn (hf.run pins s2 σ H2 _ I2 q2) fun fv s3 ⟨z, H3, I3, rz, ov, g, q3⟩ => Calls.spliced_nil ?_))))
  obtain ⟨xs, k, b, e', nk, ey, kb, kd, l⟩ := g
  subst ey
  cases (show iv = Value.ref b from ry)
  obtain ⟨zs, _, dd⟩ := nd_of I3.hok e' nk
  refine call_meetsIn PySem.F.slot_dict_get dd.typeIs PySem.F.entry_dict_get (PySem.F.args_dict_get_3 _ _ _) (meetsH_dict_get_default (nestedKind X.prog X.w) a b zs fv) ⟨nroom hu, k, xs, nd_key I3.hok kb kd, dd, ?_⟩
  exact ⟨_, H3, I3.tok _, l.getD rz, q3⟩
theorem ps_nput (hu : X.A.units + 65 < cLine) (ho : PE X o td) (hi : PE X i ty) (hv : PE X value tv) (hs : swapsWith value (some (.Subscript o i pos')) pos.line X.env = pure false) :
    PS X (.Assign [.Subscript o i pos'] value pos) (sNPut X.prog X.w td ty tv) := by
  refine ⟨fun pins s σ H D I h => ?_⟩
  refine wpAny_Assign_Subscript (thn (hv.run pins s σ H _ I h) fun r s1 ⟨v, H1, I1, rv, q1⟩ => thn (ho.run pins s1 σ H1 _ I1 q1) fun u s2 ⟨x, H2, I2, rx, q2⟩ => thn (hi.run pins s2 σ H2 _ I2 q2) fun iv s3 ⟨y, H3, I3, ry, a, xs, k, b, ex, ha, nk, ey, kb, kd, hl, q3⟩ => ?_) hs
  subst ex
  subst ey
  obtain rfl : u = Value.ref a := rx
  cases (show iv = Value.ref b from ry)
  obtain ⟨z, l, dd⟩ := nd_of I3.hok (.inl ha) nk
  refine wpAny_setItem_heap (hsz := l) (nroom hu) (nd_key I3.hok kb kd) dd fun h' dd' hs' => ?_
  have he : ∃ q, h'.get? a = some q := by
    obtain ⟨q, _, _, hq, _⟩ := id dd'
    exact ⟨q, hq⟩
  have hl' : (storedH xs k b r).length ≤ sizeLine := by
    unfold storedH
    split
    · rw [List.length_map]; exact l
    · rw [List.length_append]; simp; omega
  exact ⟨σ, _, d_write I3 (by rw [ha]; exact True.intro) hs' he (nd_new (nr_of z hl' dd')), q3 r rv⟩
end

/-! ### .. as the layer sees them -/
mutual
def nkD : PyData → NestedKey
  | .int i => .num i
  | .tuple ds => .tup (nkDs ds)
  | _ => .none
def nkDs : List PyData → List NestedKey
  | [] => []
  | d :: ds => nkD d :: nkDs ds
end
mutual
def FlatK : PyData → Prop
  | .int _ => True
  | .tuple ds => FlatKs ds
  | _ => False
def FlatKs : List PyData → Prop
  | [] => True
  | d :: ds => FlatK d ∧ FlatKs ds
end
mutual
theorem Rep.kis {K : PySem.W.Frag} {X : Addr → Prop} {H : Hp} : ∀ {d : PyData} {v : V}, FlatK d → Rep K X H d v → KIs H (nkD d) v
  | _, _, _, .int i => by rw [nkD]; exact .num i
  | _, _, f, .tup h r => by rw [nkD]; rw [FlatK] at f; exact .tup h (Reps.kis f r)
  | .none, _, f, _ => by simp [FlatK] at f
  | .bool _, _, f, _ => by simp [FlatK] at f
  | .str _, _, f, _ => by simp [FlatK] at f
  | .list _, _, f, _ => by simp [FlatK] at f
theorem Reps.kis {K : PySem.W.Frag} {X : Addr → Prop} {H : Hp} : ∀ {ds : List PyData} {vs : List V}, FlatKs ds → Reps K X H ds vs → KAll H (nkDs ds) vs
  | _, _, _, .nil => by rw [nkDs]; exact .nil
  | _, _, f, .cons r t => by rw [nkDs]; rw [FlatKs] at f; exact .cons (Rep.kis f.1 r) (Reps.kis f.2 t)
end
mutual
theorem nkD_inj : ∀ {d e : PyData}, FlatK d → FlatK e → nkD d = nkD e → d = e
  | .int i, .int j, _, _, h => by simp [nkD] at h; rw [h]
  | .tuple ds, .tuple es, f, g, h => by
    rw [FlatK] at f g
    rw [nkD, nkD] at h
    injection h with h
    rw [nkDs_inj f g h]
  | .int i, .tuple es, _, _, h => by simp [nkD] at h
  | .tuple ds, .int j, _, _, h => by simp [nkD] at h
  | .int i, .none, _, g, _ => by simp [FlatK] at g
  | .int i, .bool _, _, g, _ => by simp [FlatK] at g
  | .int i, .str _, _, g, _ => by simp [FlatK] at g
  | .int i, .list _, _, g, _ => by simp [FlatK] at g
  | .int i, .dict _, _, g, _ => by simp [FlatK] at g
  | .tuple _, .none, _, g, _ => by simp [FlatK] at g
  | .tuple _, .bool _, _, g, _ => by simp [FlatK] at g
  | .tuple _, .str _, _, g, _ => by simp [FlatK] at g
  | .tuple _, .list _, _, g, _ => by simp [FlatK] at g
  | .tuple _, .dict _, _, g, _ => by simp [FlatK] at g
  | .none, _, f, _, _ => by simp [FlatK] at f
  | .bool _, _, f, _, _ => by simp [FlatK] at f
  | .str _, _, f, _, _ => by simp [FlatK] at f
  | .list _, _, f, _, _ => by simp [FlatK] at f
  | .dict _, _, f, _, _ => by simp [FlatK] at f
theorem nkDs_inj : ∀ {ds es : List PyData}, FlatKs ds → FlatKs es → nkDs ds = nkDs es → ds = es
  | [], [], _, _, _ => rfl
  | d :: ds, e :: es, f, g, h => by
    rw [FlatKs] at f g
    rw [nkDs, nkDs] at h
    injection h with h1 h2
    rw [nkD_inj f.1 g.1 h1, nkDs_inj f.2 g.2 h2]
  | [], e :: es, _, _, h => by simp [nkDs] at h
  | d :: ds, [], _, _, h => by simp [nkDs] at h
end
class Nk (α : Type) [Py α] where
  flat : ∀ k : α, FlatK (enc k)
  dep : ∀ k : α, (nkD (enc k)).depth ≤ 8
  inj : ∀ k l : α, enc k = enc l → k = l
  tup : ∀ k : α, ∃ ds, enc k = PyData.tuple ds

instance : Nk (T2 (T3 Int (T2 Int Int) (T2 Int Int)) (T3 Int Int Int)) where
  flat := fun k => by simp [enc, FlatK, FlatKs]
  dep := fun k => by simp [enc, nkD, nkDs, NestedKey.depth, NestedKey.depthAll]
  inj := fun k l h => by
    obtain ⟨⟨a, ⟨b, c⟩, ⟨d, e⟩⟩, ⟨f, g, i⟩⟩ := k
    obtain ⟨⟨a', ⟨b', c'⟩, ⟨d', e'⟩⟩, ⟨f', g', i'⟩⟩ := l
    simp [enc] at h
    simp [h]
  tup := fun k => ⟨_, rfl⟩
instance : Nk (T2 (T3 Int Int Int) (T3 Int Int Int)) where
  flat := fun k => by simp [enc, FlatK, FlatKs]
  dep := fun k => by simp [enc, nkD, nkDs, NestedKey.depth, NestedKey.depthAll]
  inj := fun k l h => by
    obtain ⟨⟨a, b, c⟩, ⟨f, g, i⟩⟩ := k
    obtain ⟨⟨a', b', c'⟩, ⟨f', g', i'⟩⟩ := l
    simp [enc] at h
    simp [h]
  tup := fun k => ⟨_, rfl⟩
inductive NEnt (K : PySem.W.Frag) (X : Addr → Prop) (H : Hp) : List (PyData × Int) → NXs → Prop
  | nil : NEnt K X H [] []
  | cons {d : PyData} {i : Int} {t : Tok} {b : Addr} {es : List (PyData × Int)} {xs : NXs} : Rep K X H d (.ref b) → FlatK d → (nkD d).depth ≤ 8 → NEnt K X H es xs → NEnt K X H ((d, i) :: es) ((nkD d, b, .int i t) :: xs)
section
variable {K : PySem.W.Frag} {X Y : Addr → Prop} {H H' : Hp}
theorem NEnt.keep (k : Keep X H H') : ∀ {es : List (PyData × Int)} {xs : NXs}, NEnt K X H es xs → NEnt K X H' es xs
  | _, _, .nil => .nil
  | _, _, .cons r f d t => .cons (r.keep k) f d (t.keep k)
theorem NEnt.anti (h : ∀ a, Y a → X a) : ∀ {es : List (PyData × Int)} {xs : NXs}, NEnt K X H es xs → NEnt K Y H es xs
  | _, _, .nil => .nil
  | _, _, .cons r f d t => .cons (r.anti h) f d (t.anti h)
theorem NEnt.more {p : Addr} (h : H p = none) : ∀ {es : List (PyData × Int)} {xs : NXs}, NEnt K X H es xs → NEnt K (fun a => X a ∨ a = p) H es xs
  | _, _, .nil => .nil
  | _, _, .cons r f d t => .cons (r.more h) f d (t.more h)
theorem NEnt.len : ∀ {es : List (PyData × Int)} {xs : NXs}, NEnt K X H es xs → xs.length = es.length
  | _, _, .nil => rfl
  | _, _, .cons _ _ _ t => congrArg (· + 1) t.len
theorem NEnt.flat : ∀ {es : List (PyData × Int)} {xs : NXs}, NEnt K X H es xs → ∀ e ∈ es, FlatK e.1
  | _, _, .nil, _, h => nomatch h
  | _, _, .cons _ f _ t, e, h => by
    rcases List.mem_cons.mp h with z | z
    · rw [z]; exact f
    · exact t.flat e z
theorem NEnt.keys : ∀ {es : List (PyData × Int)} {xs : NXs}, NEnt K X H es xs → (es.map (·.1)).Nodup → NKeys H xs
  | _, _, .nil, _ => ⟨fun _ h => (nomatch h), List.nodup_nil⟩
  | _, _, .cons (d := d) r f dp t, n => by
    rw [List.map_cons, List.nodup_cons] at n
    obtain ⟨k1, k2⟩ := t.keys n.2
    refine ⟨fun x hx => ?_, ?_⟩
    · rcases List.mem_cons.mp hx with z | z
      · rw [z]; exact ⟨Rep.kis f r, dp⟩
      · exact k1 x z
    · rw [List.map_cons, List.nodup_cons]
      refine ⟨fun hm => ?_, k2⟩
      have : ∀ {es : List (PyData × Int)} {xs : NXs}, NEnt K X H es xs → nkD d ∈ xs.map (·.1) → d ∈ es.map (·.1) := by
        intro es xs t
        induction t with
        | nil => intro h; exact (nomatch h)
        | cons r' f' dp' t' ih =>
          intro h
          rw [List.map_cons] at h ⊢
          rcases List.mem_cons.mp h with z | z
          · rw [nkD_inj f f' z]; exact List.mem_cons_self
          · exact List.mem_cons_of_mem _ (ih z)
      exact n.1 (this t hm)
end
def ngetM {κ β : Type} [DecidableEq κ] (kvs : List (κ × β)) (k : κ) : Option β := (kvs.find? fun kv => decide (kv.1 = k)).map (·.2)
def nputM {κ β : Type} [DecidableEq κ] (kvs : List (κ × β)) (k : κ) (v : β) : List (κ × β) :=
  if (kvs.any fun kv => decide (kv.1 = k)) = true then kvs.map (fun kv => if kv.1 = k then (kv.1, v) else kv) else kvs ++ [(k, v)]
def NdR (K : PySem.W.Frag) (P : Program) (w : World) (es : List (PyData × Int)) : Addr → (Addr → Prop) → Hp → Prop := fun p X H => (es.map (·.1)).Nodup ∧ ∃ xs, H p = some (NdO P w p xs) ∧ NEnt K X H es xs
theorem ndR_rx (K : PySem.W.Frag) (P : Program) (w : World) (es : List (PyData × Int)) : RX (NdR K P w es) where
  keep := fun k e ⟨n, xs, h, t⟩ => ⟨n, xs, e.trans h, t.keep k⟩
  anti := fun h ⟨n, xs, e, t⟩ => ⟨n, xs, e, t.anti h⟩
  more := fun h ⟨n, xs, e, t⟩ => ⟨n, xs, e, t.more h⟩
  nn := fun ⟨n, xs, e, t⟩ => by rw [e]; exact fun z => nomatch z
  ntup := fun ⟨n, xs, e, t⟩ => by
    rw [e]
    constructor
    · intro _ z; cases z
    · intro _ _ z; cases z
def nes {κ : Type} [Py κ] (kvs : List (κ × Int)) : List (PyData × Int) := kvs.map fun e => (enc e.1, e.2)
abbrev mn (K : PySem.W.Frag) (P : Program) (w : World) {κ : Type} [Py κ] (kvs : List (κ × Int)) : MO := .ex (NdR K P w (nes kvs))
section
variable {K : PySem.W.Frag} {X : Addr → Prop} {H : Hp} {κ : Type} [Py κ] [DecidableEq κ] [Nk κ]
theorem nes_key (kvs : List (κ × Int)) : (nes kvs).map (·.1) = kvs.map fun e => enc e.1 := by unfold nes; rw [List.map_map]; rfl
theorem nent_get {k : κ} : ∀ {kvs : List (κ × Int)} {xs : NXs}, NEnt K X H (nes kvs) xs → RelO ((ngetM kvs k).map V.int) ((atKey xs (nkD (enc k))).map (·.2))
  | [], _, .nil => trivial
  | (l, i) :: kvs, _, .cons (t := t) (b := b) (xs := xs) r f d q => by
    by_cases z : l = k
    · subst z
      have e1 : ngetM ((l, i) :: kvs) l = some i := by simp [ngetM]
      have e2 : atKey ((nkD (enc l), b, Value.int i t) :: xs) (nkD (enc l)) = some (b, Value.int i t) := by simp [atKey]
      rw [e1, e2]; exact ⟨t, rfl⟩
    · have zn : ¬ nkD (enc l) = nkD (enc k) := fun e => z (Nk.inj _ _ (nkD_inj (Nk.flat l) (Nk.flat k) e))
      have e1 : ngetM ((l, i) :: kvs) k = ngetM kvs k := by simp [ngetM, List.find?_cons, z]
      have e2 : atKey ((nkD (enc l), b, Value.int i t) :: xs) (nkD (enc k)) = atKey xs (nkD (enc k)) := by simp [atKey, List.find?_cons, zn]
      rw [e1, e2]
      exact nent_get q
theorem nent_any {k : κ} : ∀ {kvs : List (κ × Int)} {xs : NXs}, NEnt K X H (nes kvs) xs → (atKey xs (nkD (enc k))).isSome = (kvs.any fun kv => decide (kv.1 = k))
  | [], _, .nil => rfl
  | (l, i) :: kvs, _, .cons (t := t) (b := b) (xs := xs) r f d q => by
    rw [List.any_cons]
    by_cases z : l = k
    · subst z
      simp [atKey]
    · have zn : ¬ nkD (enc l) = nkD (enc k) := fun e => z (Nk.inj _ _ (nkD_inj (Nk.flat l) (Nk.flat k) e))
      have e2 : atKey ((nkD (enc l), b, Value.int i t) :: xs) (nkD (enc k)) = atKey xs (nkD (enc k)) := by simp [atKey, List.find?_cons, zn]
      rw [e2, decide_eq_false z, Bool.false_or]
      exact nent_any q
theorem nent_map {k : κ} {j : Int} {u : Tok} : ∀ {kvs : List (κ × Int)} {xs : NXs}, NEnt K X H (nes kvs) xs → NEnt K X H (nes (kvs.map fun kv => if kv.1 = k then (kv.1, j) else kv)) (xs.map (putAt (nkD (enc k)) (.int j u)))
  | [], _, .nil => .nil
  | (l, i) :: kvs, _, .cons (t := t) (b := b) (xs := xs) r f d q => by
    rw [List.map_cons, List.map_cons]
    by_cases z : l = k
    · subst z
      rw [if_pos rfl]
      have : putAt (nkD (enc l)) (.int j u) (nkD (enc l), b, Value.int i t) = (nkD (enc l), b, Value.int j u) := by simp [putAt]
      rw [this]
      exact .cons r f d (nent_map q)
    · have zn : ¬ nkD (enc l) = nkD (enc k) := fun e => z (Nk.inj _ _ (nkD_inj (Nk.flat l) (Nk.flat k) e))
      rw [if_neg z]
      have : putAt (nkD (enc k)) (.int j u) (nkD (enc l), b, Value.int i t) = (nkD (enc l), b, Value.int i t) := by simp [putAt, zn]
      rw [this]
      exact .cons r f d (nent_map q)
theorem nent_snoc {d : PyData} {i : Int} {t : Tok} {b : Addr} (r : Rep K X H d (.ref b)) (f : FlatK d) (dp : (nkD d).depth ≤ 8) : ∀ {es : List (PyData × Int)} {xs : NXs}, NEnt K X H es xs → NEnt K X H (es ++ [(d, i)]) (xs ++ [(nkD d, b, .int i t)])
  | _, _, .nil => .cons r f dp .nil
  | _, _, .cons r' f' d' q => .cons r' f' d' (nent_snoc r f dp q)
theorem nent_put {k : κ} {j : Int} {u : Tok} {b : Addr} {kvs : List (κ × Int)} {xs : NXs} (r : Rep K X H (enc k) (.ref b)) (q : NEnt K X H (nes kvs) xs) : NEnt K X H (nes (nputM kvs k j)) (storedH xs (nkD (enc k)) b (.int j u)) := by
  unfold nputM storedH
  rw [nent_any q]
  split
  · exact nent_map q
  · unfold nes
    rw [List.map_append]
    exact nent_snoc r (Nk.flat k) (Nk.dep k) q
theorem nput_nodup {k : κ} {j : Int} {kvs : List (κ × Int)} (n : ((nes kvs).map (·.1)).Nodup) : ((nes (nputM kvs k j)).map (·.1)).Nodup := by
  rw [nes_key] at n ⊢
  unfold nputM
  split
  · rw [List.map_map]
    have : ((fun e : κ × Int => enc e.1) ∘ fun kv : κ × Int => if kv.1 = k then (kv.1, j) else kv) = fun e => enc e.1 := by
      funext e
      show enc (if e.1 = k then (e.1, j) else e).1 = enc e.1
      split <;> rfl
    rw [this]; exact n
  · rename_i h
    rw [List.map_append]
    refine List.nodup_append.mpr ⟨n, by simp, fun a ha c hc => ?_⟩
    obtain ⟨e, he, rfl⟩ := List.mem_map.mp ha
    rw [List.mem_singleton.mp hc]
    intro eq
    apply h
    rw [List.any_eq_true]
    exact ⟨e, he, by simpa using Nk.inj _ _ eq⟩
end
section
variable {C : Cn} {X : Addr → Prop} {H : Hp} {σ : L2.St} {Γ Γ' : List Sl} {Q : VK} {ρ κ : Type} [Py κ] [DecidableEq κ] [Nk κ] {P : Program} {w : World}
theorem x_nnew (L : Lo C X H σ Γ) (h : ∀ p X' H1, C.H0 p = none → ¬ C.X0 p → Lo C X' H1 σ (Γ ++ [.tmp p (mn C.K P w ([] : List (κ × Int)))]) → (∀ d u, Rep C.K X H d u → Rep C.K X' H1 d u) → Q (.ref p) H1) : tNNew P w σ H Q := fun p hp => by
  have s : Same H (upd H p (NdO P w p [])) := same_upd hp
  obtain ⟨L1, le, h0, hx⟩ := L.lay (o := mn C.K P w ([] : List (κ × Int))) hp s ⟨ndR_rx _ _ _ _, List.nodup_nil, [], upd_same, .nil⟩
  exact h p _ _ h0 hx L1 le
theorem nkey_rep {K : PySem.W.Frag} {k : κ} {y : V} (r : Rep K X H (enc k) y) : ∃ b, y = .ref b ∧ Rep K X H (enc k) (.ref b) := by
  obtain ⟨ds, e⟩ := Nk.tup k
  have r' := r
  rw [e] at r'
  cases r' with
  | tup h q => exact ⟨_, rfl, r⟩
def KNg (P : Program) (w : World) (x : V) (Q : VK) : VK := fun y H2 => ∃ a v, x = .ref a ∧ NGet P w H2 a y (some v) ∧ Q v H2
def KNG2 (P : Program) (w : World) (a : Addr) (y : V) (Q : VK) : VK := fun z H3 => ∃ o, NGet P w H3 a y o ∧ Q (o.getD z) H3
theorem x_ng {td ty : TE} (h : td σ H fun x H1 => ty σ H1 (KNg P w x Q)) : tNGet P w td ty σ H Q := h
theorem x_ng2 {td ty tx : TE} (h : td σ H fun x H1 => ∃ a, x = .ref a ∧ IsN P w H1 a ∧ ty σ H1 fun y H2 => tx σ H2 (KNG2 P w a y Q)) : tNGet2 P w td ty tx σ H Q := h
theorem x_isN {i : Nat} {p : Addr} {kvs : List (κ × Int)} {R : Addr → Prop} (L : Lo C X H σ Γ) (g : Γ[i]? = some (.mu p (mn C.K P w kvs))) (h : R p) : ∃ a, V.ref p = .ref a ∧ IsN P w H a ∧ R a := by
  obtain ⟨_, n, xs, e, q⟩ := L.mrep g
  exact ⟨p, rfl, ⟨xs, .inl e, q.keys n⟩, h⟩
theorem x_nget2 {kvs : List (κ × Int)} {k : κ} {d : Int} {i : Nat} {p : Addr} {y : V} (L : Lo C X H σ Γ) (g : Γ[i]? = some (.mu p (mn C.K P w kvs))) (ry : Rep C.K X H (enc k) y)
    (h : Q (.int ((ngetM kvs k).getD d)) H) : KNG2 P w p y Q (.int d) H := by
  obtain ⟨_, n, xs, e, q⟩ := L.mrep g
  obtain ⟨b, rfl, rb⟩ := nkey_rep ry
  refine ⟨(ngetM kvs k).map V.int, ⟨xs, _, b, .inl e, q.keys n, rfl, Rep.kis (Nk.flat k) rb, Nk.dep k, nent_get q⟩, ?_⟩
  cases hk : ngetM kvs k with
  | none => rw [hk] at h; exact h
  | some j => rw [hk] at h; exact h
theorem x_nputS {td ty tv : TE} {nx bk ct : L2.St → Hp → Prop} {rt : VK} (h : tv σ H fun v H1 => td σ H1 fun x H2 => ty σ H2 fun y H3 => ∃ a xs k b, x = .ref a ∧ H3 a = some (NdO P w a xs) ∧ NKeys H3 xs ∧ y = .ref b ∧ KIs H3 k (.ref b) ∧ k.depth ≤ 8 ∧ xs.length < sizeLine ∧ ∀ r : Value, RelV v r → nx σ (upd H3 a (NdO P w a (storedH xs k b r)))) : sNPut P w td ty tv ⟨nx, rt, bk, ct⟩ σ H := h
theorem x_nput {kvs : List (κ × Int)} {k : κ} {j : Int} {i : Nat} {p : Addr} {y : V} {kk : Unit → Option ρ} {r : ρ} {R : Hp → Prop} (L : Lo C X H σ Γ) (g : Γ[i]? = some (.mu p (mn C.K P w kvs))) (hm : (lenOk (kvs.length + 1)).bind kk = some r) (ry : Rep C.K X H (enc k) y)
    (e : Γ.set i (.mu p (mn C.K P w (nputM kvs k j))) = Γ') (h : ∀ H1, kk () = some r → Lo C X H1 σ Γ' → (∀ d u, Rep C.K X H d u → Rep C.K X H1 d u) → R H1) :
    ∃ a xs k b, V.ref p = .ref a ∧ H a = some (NdO P w a xs) ∧ NKeys H xs ∧ y = .ref b ∧ KIs H k (.ref b) ∧ k.depth ≤ 8 ∧ xs.length < sizeLine ∧ ∀ r : Value, RelV (.int j) r → R (upd H a (NdO P w a (storedH xs k b r))) := by
  subst e
  obtain ⟨_, hl, hk⟩ := ob hm
  obtain ⟨_, n, xs, hw, q⟩ := L.mrep g
  obtain ⟨b, rfl, rb⟩ := nkey_rep ry
  have hX : X p := L.mx p (mem_muts.mpr ⟨i, _, g, rfl⟩)
  have kp : ∀ o, Keep X H (upd H p o) := fun o => ⟨fun a u h n => by rw [upd_ne (fun z => n (by rw [z]; exact hX))]; exact h, fun a us h => by rw [upd_ne (fun z => by rw [z, hw] at h; cases h)]; exact h, fun a u w h => by rw [upd_ne (fun z => by rw [z, hw] at h; cases h)]; exact h⟩
  refine ⟨p, xs, nkD (enc k), b, rfl, hw, q.keys n, rfl, Rep.kis (Nk.flat k) rb, Nk.dep k, ?_, fun rv hr => ?_⟩
  · have := lenOk_le hl
    have := q.len
    unfold nes at this
    rw [List.length_map] at this
    rw [line_eq]; omega
  · obtain ⟨t, rfl⟩ := hr
    obtain ⟨L1, le⟩ := L.wrote (H' := upd H p (NdO P w p (storedH xs (nkD (enc k)) b (.int j t)))) (o := mn C.K P w (nputM kvs k j)) g rfl (fun a u h n => by rw [upd_ne n]; exact h) (fun a h => by
        by_cases z : a = p
        · rw [z, upd_same]; exact fun y => nomatch y
        · rw [upd_ne z]; exact h) ⟨ndR_rx _ _ _ _, nput_nodup n, _, upd_same, (nent_put rb q).keep (kp _)⟩
    exact h _ hk L1 le
end

/-! ### [d[k] == 0 for k in d] -/
def ItNk (P : Program) (w : World) (d : Addr) (o : Obj) (xs : NXs) : It :=
  ⟨fun i H => H d = some (.frz o (NdO P w d xs)) ∧ i < xs.length, fun i H x H' => H' = H ∧ ∃ e, xs[i]? = some e ∧ x = .ref e.2.1, fun i H => H d = some (.frz o (NdO P w d xs)) ∧ xs.length ≤ i⟩
theorem nd_frz {X : Cx} {pins : List (Addr × Obj)} {σ : L2.St} {H : Hp} {s : Shared} {d : Addr} {o : Obj} {xs : NXs} (I : Inv X pins σ H s) (h : H d = some (.frz o (NdO X.prog X.w d xs))) :
    (d == sysModules) = false ∧ s.heap.get? d = some o ∧ o.ExactDict ∧ ∃ (es : Array DictEntry) (ep : Nat), o.data = .dict es ep ∧ es.size = xs.length ∧ ∀ (i : Nat) e, xs[i]? = some e → ∃ en : DictEntry, es[i]? = some en ∧ en.key = .ref e.2.1 := by
  obtain ⟨hd, ⟨z, l, o', es, ep, ho, hx, hdt, he⟩, _⟩ := I.hok d _ h
  rw [hd] at ho
  cases ho
  refine ⟨z, hd, hx, es, ep, hdt, size_of_entries he, fun i e q => ?_⟩
  have := entry_at he i
  rw [q] at this
  exact ⟨_, this, rfl⟩
theorem turn_nkeys {P : Program} {w : World} {K : PySem.W.Frag} {tg : Expr} {d : Addr} {o : Obj} {xs : NXs} {es : Array DictEntry} {ep : Nat} (it : Addr) (hod : o.data = .dict es ep) : Turn P w K tg (ItNk P w d o xs) [it] it (fun i h => h.IsKeyIter it d i xs.length ep) where
  mem := by simp
  obj := fun i h st b hb => by
    have e : b = it := by simpa using hb
    subst e
    obtain ⟨oi, e, c, dd⟩ := st
    exact ⟨oi, e, fun v z => by rw [dd] at z; cases z⟩
  keep := fun i h h' st k => st.at fun oi e => k it (by simp) oi e
  item := by
    intro X hP hw hK hc i pins s σ H E I hf st hg
    subst hP hw hK
    obtain ⟨hd, hi⟩ := hg
    obtain ⟨f0, f1, f2, f3, f4, f5⟩ := hf it (by simp)
    obtain ⟨hs, hgd, hx, es', ep', hdt, hsz, ent⟩ := nd_frz I hd
    obtain ⟨rfl, rfl⟩ := dict_ep hod hdt
    obtain ⟨e, he⟩ : ∃ e, xs[i]? = some e := ⟨xs[i], List.getElem?_eq_getElem hi⟩
    obtain ⟨en, hen, hkey⟩ := ent i e he
    refine next_key_item st hgd hdt hsz hen fun h' st' sb => ?_
    have I1 : Inv X pins σ H { s with heap := h' } := I.turned (t' := s.toks) (fun b ob hb e => (sb.2 b hb).trans e) f0 f1 f3 f4 f5
    obtain ⟨oi, e', c, dd⟩ := id st'
    exact ⟨en.key, rfl, go_of (s := { s with heap := h' }) e' c dd (by decide) ⟨.ref e.2.1, H, I1, hkey, ⟨rfl, e, he, rfl⟩, st', fun b hb => (hf b hb).1⟩⟩
  done := by
    intro X hP hw hK hc i pins s σ H E I hf st hg
    subst hP hw hK
    obtain ⟨hd, hi⟩ := hg
    obtain ⟨f0, f1, f2, f3, f4, f5⟩ := hf it (by simp)
    obtain ⟨hs, hgd, hx, es', ep', hdt, hsz, ent⟩ := nd_frz I hd
    obtain ⟨rfl, rfl⟩ := dict_ep hod hdt
    exact next_key_end (I.ok.hd hc) st hgd hdt hsz hi fun h' eb => ⟨rfl, I.turned (t' := s.toks) (fun b ob hb e => eb b ob hb e) f0 f1 f3 f4 f5⟩
  self := fun A i s Q E st h => by
    refine wpAny_pyIter_slot st.typeIs PySem.F.slot_dict_keyiterator_iter (wpAny_call_entry PySem.F.slot_dict_keyiterator_iter st.typeIs PySem.F.entry_dict_keyiterator_iter ?_ (PySem.F.args_dict_keyiterator_iter_1 _))
    show wpAny _ _ (ret (.ref it)) _ _ s
    exact wpAny_pure ⟨_, rfl, "dict_keyiterator", _, st.typeIs, PySem.F.slot_dict_keyiterator_next.lookup, h⟩
def iNKeys (P : Program) (w : World) (td : TE) : TI := fun σ H R => td σ H fun x H1 => ∃ d o xs, x = .ref d ∧ H1 d = some (.frz o (NdO P w d xs)) ∧ R (ItNk P w d o xs) H1
theorem pi_nkeys {X : Cx} {tg e : Expr} {td : TE} (he : PE X e td) : PI X tg e (iNKeys X.prog X.w td) := by
  refine ⟨fun pins s σ H R I h => ?_⟩
  refine thn (he.run pins s σ H _ I h) fun u s1 ⟨x, H1, I1, rx, d, o, xs, ex, hd, q⟩ => ?_
  subst ex
  obtain rfl : u = Value.ref d := rx
  obtain ⟨hs, hgd, hx, es, ep, hdt, hsz, ent⟩ := nd_frz I1 hd
  refine iter_keys hs hgd hx hdt (pi_one (tk := s1.toks) I1 _ (turn_nkeys _ hdt) ⟨_, Heap.get?_push_size _ rfl, rfl, ?_⟩ q)
  rw [hsz] <;> rfl
theorem NEnt.at {K : PySem.W.Frag} {X : Addr → Prop} {H : Hp} : ∀ {es : List (PyData × Int)} {xs : NXs} {i : Nat} {e}, NEnt K X H es xs → xs[i]? = some e → ∃ d z t, es[i]? = some (d, z) ∧ e = (nkD d, e.2.1, Value.int z t) ∧ Rep K X H d (.ref e.2.1) ∧ FlatK d ∧ (nkD d).depth ≤ 8
  | _, _, _, _, .nil, h => by simp at h
  | _, _, 0, _, .cons (d := d) (i := z) (t := t) r f dp q, h => by
    have := Option.some.inj h
    subst this
    exact ⟨d, z, t, rfl, rfl, r, f, dp⟩
  | _, _, i + 1, _, .cons r f dp q, h => NEnt.at (i := i) q h
theorem atKey_nd : ∀ {xs : NXs} {i : Nat} {e}, (xs.map (·.1)).Nodup → xs[i]? = some e → atKey xs e.1 = some e.2
  | [], _, _, _, h => by simp at h
  | x :: xs, 0, _, n, h => by
    have := Option.some.inj h
    subst this
    simp [atKey]
  | x :: xs, i + 1, e, n, h => by
    rw [List.map_cons, List.nodup_cons] at n
    have hx : xs[i]? = some e := h
    have ne : ¬ x.1 = e.1 := fun q => n.1 (q ▸ List.mem_map.mpr ⟨e, List.mem_of_getElem? hx, rfl⟩)
    have : atKey (x :: xs) e.1 = atKey xs e.1 := by simp [atKey, List.find?_cons, ne]
    rw [this]
    exact atKey_nd n.2 hx
theorem x_lcNd {C : Cn} {X : Addr → Prop} {H : Hp} {σ : L2.St} {Γ : List Sl} {Q : VK} {κ : Type} [Py κ] [DecidableEq κ] [Nk κ] {P : Program} {w : World} {kvs : List (κ × Int)} {i j : Nat} {p : Addr} {te : TE} (L : Lo C X H σ Γ) (g : Γ[i]? = some (.mu p (mn C.K P w kvs))) (hij : i ≠ j) (hj : j < C.n) (hl : kvs.length ≤ 16777216)
    (body : ∀ (σ2 : L2.St) (H2 : Hp) (y : V) (z : Int) (Qy : VK), σ2[i]? = some (some (.ref p)) → σ2[j]? = some (some y) → NGet P w H2 p y (some (.int z)) → Qy (.bl (decide (z = 0))) H2 → te σ2 H2 Qy)
    (h : ∀ D H', Lo C X H' σ Γ → (∀ d u, Rep C.K X H d u → Rep C.K X H' d u) → Rep C.K X H' (enc (kvs.map fun e => decide (e.2 = 0))) (.ref D) → Q (.ref D) H') :
    tLockE (tLc (iNKeys P w (tVar i)) (gName j) tYes te [j]) σ H Q := by
  obtain ⟨hv, _, n, xs, hw, q⟩ := L.at_ i _ g
  refine ⟨p, NdO P w p xs, hw, True.intro, fun od => ?_⟩
  refine ⟨.ref p, hv, p, od, xs, rfl, upd_same, fun D hD => ?_⟩
  have hDp : D ≠ p := fun e => by rw [e, upd_same] at hD; cases hD
  have hD0 : H D = none := by rw [upd_ne hDp] at hD; exact hD
  have hX : X p := L.mx p (mem_muts.mpr ⟨i, _, g, rfl⟩)
  have kp : ∀ acc, Keep X H (upd (upd H p (.frz od (NdO P w p xs))) D (.lst acc)) := fun acc => by
    have ne : ∀ a u, H a = some u → a ≠ D := fun a u e z => by rw [z, hD0] at e; cases e
    have ne2 : ∀ a u, H a = some u → u ≠ NdO P w p xs → a ≠ p := fun a u e m z => by rw [z, hw] at e; exact m (Option.some.inj e).symm
    refine ⟨fun a u e nx => ?_, fun a us e => ?_, fun a u w' e => ?_⟩
    · have na : a ≠ p := fun z => nx (by rw [z]; exact hX)
      rw [upd_ne (ne _ _ e), upd_ne na]; exact e
    · rw [upd_ne (ne _ _ e), upd_ne (ne2 _ _ e fun z => nomatch z)]; exact e
    · rw [upd_ne (ne _ _ e), upd_ne (ne2 _ _ e fun z => nomatch z)]; exact e
  have ql := q.len
  have nl : (nes kvs).length = kvs.length := by unfold nes; rw [List.length_map]
  let bs : Nat → List V := fun i => (kvs.take i).map fun e => V.bl (decide (e.2 = 0))
  refine ⟨fun i m H' => m = xs.length - i ∧ i ≤ xs.length ∧ H' = upd (upd H p (.frz od (NdO P w p xs))) D (.lst (bs i)), ⟨xs.length, by simp, Nat.zero_le _, rfl⟩, ?_⟩
  rintro i' m H' ⟨rfl, hi, rfl⟩
  have atp : (upd (upd H p (.frz od (NdO P w p xs))) D (.lst (bs i'))) p = some (.frz od (NdO P w p xs)) := by rw [upd_ne (Ne.symm hDp), upd_same]
  by_cases hlt : i' < xs.length
  · refine .inr ⟨⟨atp, hlt⟩, fun H' => H' = upd (upd H p (.frz od (NdO P w p xs))) D (.lst (bs (i' + 1))), fun H' e => ⟨xs.length - (i' + 1), by omega, rfl, hlt, e⟩, ?_⟩
    rintro x H' ⟨rfl, e, he, rfl⟩
    obtain ⟨d, z, t, e1, e2, r, f, dp⟩ := q.at he
    refine ⟨?_, ?_⟩
    · show ((σ.set j none).set j (some (V.ref e.2.1))).set j none = σ.set j none
      rw [List.set_set, List.set_set]
    have qk := (q.keep (kp (bs i'))).keys n
    refine body _ _ (.ref e.2.1) z _ ?_ ?_ ⟨xs, e.1, e.2.1, .inr ⟨od, atp⟩, qk, rfl, ?_, ?_, ?_⟩ ⟨bs i', upd_same, ?_, ?_⟩
    · show ((σ.set j none).set j (some (V.ref e.2.1)))[i]? = _
      rw [List.set_set, List.getElem?_set_ne (Ne.symm hij)]; exact hv
    · show ((σ.set j none).set j (some (V.ref e.2.1)))[j]? = _
      rw [List.set_set, List.getElem?_set_self (by rw [L.len]; exact hj)]
    · have := (qk.1 e (List.mem_of_getElem? he)).1; exact this
    · exact (qk.1 e (List.mem_of_getElem? he)).2
    · rw [atKey_nd qk.2 he, e2]; exact ⟨t, rfl⟩
    · show ((kvs.take i').map _).length < sizeLine
      rw [List.length_map, List.length_take, line_eq]; omega
    · have ek : kvs[i']? = some (kvs[i']'(by omega)) := List.getElem?_eq_getElem (by omega)
      have ez : (kvs[i']'(by omega)).2 = z := by
        unfold nes at e1
        rw [List.getElem?_map, ek] at e1
        have := Option.some.inj e1
        exact congrArg Prod.snd this
      have : bs (i' + 1) = bs i' ++ [V.bl (decide (z = 0))] := by
        show (kvs.take (i' + 1)).map _ = (kvs.take i').map _ ++ _
        rw [List.take_add_one, ek, List.map_append, ← ez]; rfl
      rw [this]
      funext a
      unfold upd
      split <;> rfl
  · have ei : i' = xs.length := by omega
    subst ei
    refine .inl ⟨⟨atp, Nat.le_refl _⟩, atp, ?_⟩
    have ebs : bs xs.length = kvs.map fun e => V.bl (decide (e.2 = 0)) := by
      show (kvs.take _).map _ = _
      rw [List.take_of_length_le (by omega)]
    have eH : upd (upd (upd H p (.frz od (NdO P w p xs))) D (.lst (bs xs.length))) p (NdO P w p xs) = upd H D (.lst (bs xs.length)) := by
      funext a
      by_cases z : a = p
      · rw [z, upd_same, upd_ne (Ne.symm hDp), hw]
      · rw [upd_ne z]
        by_cases z2 : a = D
        · rw [z2, upd_same, upd_same]
        · rw [upd_ne z2, upd_ne z2, upd_ne z]
    rw [eH, ebs]
    have s : Same H (upd H D (.lst (kvs.map fun e => V.bl (decide (e.2 = 0))))) := same_upd hD0
    refine h D _ (L.same s) (fun _ _ r => r.keep (.same s)) ?_
    have hnX : ¬ X D := fun y => L.xd D y hD0
    refine .lst hnX (.inl upd_same) ?_
    rw [List.map_map]
    have : ∀ l : List (κ × Int), Reps C.K X (upd H D (.lst (kvs.map fun e => V.bl (decide (e.2 = 0))))) (l.map ((enc : Bool → PyData) ∘ fun e => decide (e.2 = 0))) (l.map fun e => V.bl (decide (e.2 = 0))) := by
      intro l
      induction l with
      | nil => exact .nil
      | cons e l ih => exact .cons (.bl _) ih
    exact this kvs

theorem x_ndEq {P : Program} {w : World} {i j : Nat} {p : Addr} {σ2 : L2.St} {H2 : Hp} {y : V} {z : Int} {Qy : VK} (h1 : σ2[i]? = some (some (.ref p))) (h2 : σ2[j]? = some (some y)) (hg : NGet P w H2 p y (some (.int z))) (hq : Qy (.bl (decide (z = 0))) H2) : tOp rEq (tNGet P w (tVar i) (tVar j)) (tC (V.int 0)) σ2 H2 Qy := by
  refine ⟨_, h1, _, h2, p, _, rfl, hg, ?_⟩
  exact x_eqi hq

/-! ### for k, x in enumerate(xs) -/
def enumL {α : Type} (xs : List α) : List (T2 Int α) := List.zipWith T2.mk (rangeL 0 xs.length) xs
theorem enumL_at {α : Type} {xs : List α} {i : Nat} {x : α} (h : xs[i]? = some x) : (enumL xs)[i]? = some ⟨(i : Int), x⟩ := by
  have hi := (List.getElem?_eq_some_iff.mp h).1
  unfold enumL rangeL
  rw [List.getElem?_zipWith, List.getElem?_map, List.getElem?_range hi, h]
  show some (T2.mk ((0 : Int) + (i : Int)) x) = _
  rw [Int.zero_add]
theorem enumL_len {α : Type} (xs : List α) : (enumL xs).length = xs.length := by
  unfold enumL rangeL
  rw [List.length_zipWith, List.length_map, List.length_range]; exact Nat.min_self _
def KForE (K : PySem.W.Frag) (g : TG) (tb : TS) (D : Ends) (σ : L2.St) : List V → Hp → Prop := fun vs H => ∃ a xs, vs = [.ref a] ∧ SqL K H a xs ∧ ∃ W : Nat → Nat → L2.St → Hp → Prop, (∃ m, W 0 m σ H) ∧ ∀ i m σ H, W i m σ H →
      ((Ite K a).stop i H ∧ D.nx σ H) ∨ ((Ite K a).go i H ∧ ∃ N : L2.St → Hp → Prop, (∀ σ' H', N σ' H' → ∃ m', m' < m ∧ W (i + 1) m' σ' H') ∧ ∀ v H', (Ite K a).yld i H v H' → g v σ H' fun σ2 H2 => tb { D with nx := N, ct := N, bk := D.nx } σ2 H2)
section
variable {C : Cn} {X : Addr → Prop} {H : Hp} {σ : L2.St} {Γ Γ' : List Sl} {Q : VK} {α τ ρ : Type}
theorem x_tforE {ta : TA} {g : TG} {tb : TS} {D : Ends} {K : PySem.W.Frag} (h : ta σ H (KForE K g tb D σ)) : tFor (iEnum K ta) g tb D σ H := h
theorem x_foE [Py α] {xs : List α} {f : T2 Int α → τ → Option τ} {G : τ → List Sl} {s0 : τ} {u : V} {g : TG} {tb : TS} {nx bk ct : L2.St → Hp → Prop} {rt : VK} {k : τ → Option ρ} {res : ρ}
    (L : Lo C X H σ (G s0)) (hG : ∀ s s', muts (G s) = muts (G s')) (r : Rep C.K X H (enc xs) u) (hm : (foldO f (enumL xs) s0).bind k = some res)
    (body : ∀ x s, BodyO C X G (enc x) s (f x s) g tb) (done : ∀ s σ' H', k s = some res → Lo C X H' σ' (G s) → nx σ' H') : KForE C.K g tb ⟨nx, rt, bk, ct⟩ σ [u] H := by
  obtain ⟨s1, h1, h2⟩ := ob hm
  obtain ⟨a, vs, rfl, hna, hrd, hrs⟩ := rep_lst (ds := xs.map enc) r
  have e1 : vs.length = xs.length := by rw [hrs.length, List.length_map]
  have hm0 := foldO_loop h1
  refine ⟨a, vs, rfl, .inl hrd, fun i m σ' H' => m = xs.length - i ∧ i ≤ xs.length ∧ ∃ s, Lo C X H' σ' (G s) ∧ Reps C.K X H' (xs.map enc) vs ∧ Rd H' a (.lst vs) ∧ loopL (ρ := Empty) (fun x s => (f x s).bind fun s' => some (.nxt s')) ((enumL xs).drop i) s = some (.nxt s1), ⟨xs.length, by simp, Nat.zero_le _, s0, L, hrs, hrd, hm0⟩, ?_⟩
  rintro i m σ' H' ⟨rfl, hi, s, L', r', hd, hm'⟩
  by_cases hlt : i < xs.length
  · refine .inr ⟨⟨vs, vs[i]'(by omega), .inl hd, List.getElem?_eq_getElem (by omega)⟩, fun σ'' H'' => i + 1 ≤ xs.length ∧ ∃ s, Lo C X H'' σ'' (G s) ∧ Reps C.K X H'' (xs.map enc) vs ∧ Rd H'' a (.lst vs) ∧ loopL (ρ := Empty) (fun x s => (f x s).bind fun s' => some (.nxt s')) ((enumL xs).drop (i + 1)) s = some (.nxt s1), fun σ'' H'' p' => ⟨xs.length - (i + 1), by omega, rfl, p'⟩, ?_⟩
    rintro w H2 ⟨T, y, rfl, hT, rfl, hall⟩
    have hy : vs[i]? = some y := hall vs (.inl hd)
    obtain ⟨d, hd1, rd⟩ := r'.get' hy
    rw [List.getElem?_map] at hd1
    cases hx : xs[i]? with
    | none => rw [hx] at hd1; cases hd1
    | some x =>
      rw [hx] at hd1
      cases hd1
      obtain ⟨o1, g1, g2, g3, g4⟩ := loop_drop (enumL_at hx) hm'
      have sT : Same H' (upd H' T (.tup [.int (i : Nat), y])) := same_upd hT
      have LT := L'.same sT
      have rT : Rep C.K X (upd H' T (.tup [.int (i : Nat), y])) (enc (T2.mk (i : Int) x)) (.ref T) := .tup upd_same (.cons (.int _) (.cons (rd.keep (.same sT)) .nil))
      have rT1 := r'.keep (.same sT)
      have kd : ∀ {c : Addr} {ws : List V}, Rd H' c (.lst ws) → Rd (upd H' T (.tup [.int (i : Nat), y])) c (.lst ws) := fun h => h.elim (fun h => .inl (sT _ _ h)) fun ⟨o, h⟩ => .inr ⟨o, sT _ _ h⟩
      refine (body (T2.mk (i : Int) x) s).body _ σ' _ _ _ _ _ o1 g1 LT.enter rT ?_ ?_ ?_ ?_
      · intro s' e X' σ'' H'' L''
        have k := LT.keep L''
        exact ⟨hlt, s', LT.leave L'' (hG _ _), rT1.keep k, k.rd hna (kd hd), g2 s' e⟩
      · intro s' e X' σ'' H'' L''
        have k := LT.keep L''
        exact ⟨hlt, s', LT.leave L'' (hG _ _), rT1.keep k, k.rd hna (kd hd), g2 s' e⟩
      · intro s' e
        have := g3 s' e
        cases this
      · intro q e
        exact q.elim
  · have ei : i = xs.length := by omega
    subst ei
    rw [List.drop_eq_nil_of_le (by rw [enumL_len]; omega)] at hm'
    have e : s = s1 := by
      have : (some (Lp.nxt s) : Option (Lp τ Empty)) = some (.nxt s1) := hm'
      cases this; rfl
    subst e
    exact .inl ⟨⟨vs, .inl hd, by omega⟩, done _ _ _ h2 L'⟩
end

/-! ### max(list of ints) -/
theorem x_maxL {C : Cn} {X : Addr → Prop} {H : Hp} {Q : VK} {ρ : Type} {ns : List Int} {v : V} {k : Int → Option ρ} {r : ρ} (hm : (ns.max?).bind k = some r) (rv : Rep C.K X H (enc ns) v) (h : ∀ m, k m = some r → Q (.int m) H) : rMax C.K [v] H Q := by
  obtain ⟨m, e, hk⟩ := ob hm
  obtain ⟨a, us, rfl, hna, hrd, hrs⟩ := rep_lst (ds := ns.map enc) rv
  have e2 : us = ns.map V.int := Reps.toInts hrs
  subst e2
  have hm' := List.max?_eq_some_iff.mp e
  refine ⟨a, ns, rfl, .inl hrd, List.length_pos_of_mem hm'.1, fun m' h1 h2 => ?_⟩
  have : m' = m := by
    have := h2 m hm'.1
    have := hm'.2 m' h1
    omega
  subst this
  exact h m' hk
open Py (enc)
/-! ### sorted of pairs of pairs -/
end Sc
namespace ScQ
open PySem PySem.W PyProof.Rows SrtO
abbrev PP := (Int × Int) × (Int × Int)
def lex2 (p q : PP) : Bool := if p.1 = q.1 then lexB p.2 q.2 else lexB p.1 q.1
theorem lexB_irr (p : Int × Int) : lexB p p = false := lexB_no.mpr (by omega)
theorem lexB_tot {p q : Int × Int} (h : p ≠ q) (h1 : lexB p q = false) : lexB q p = true := by
  have a := lexB_no.mp h1
  refine lexB_iff.mpr ?_
  obtain ⟨p1, p2⟩ := p
  obtain ⟨q1, q2⟩ := q
  simp only at a ⊢
  by_cases e : p1 = q1
  · by_cases e2 : p2 = q2
    · exact (h (by rw [e, e2])).elim
    · omega
  · omega
theorem lex2_swo {α : Type} (k : α → PP) : Swo fun v u => lex2 (k v) (k u) := by
  refine ⟨fun x y h => ?_, fun x y z h1 h2 => ?_⟩
  · unfold lex2 at h ⊢
    by_cases e : (k x).1 = (k y).1
    · rw [if_pos e] at h
      rw [if_pos e.symm]
      have a := lexB_iff.mp h
      exact lexB_no.mpr (by omega)
    · rw [if_neg e] at h
      rw [if_neg (Ne.symm e)]
      have a := lexB_iff.mp h
      exact lexB_no.mpr (by omega)
  · unfold lex2 at h1 h2 ⊢
    by_cases e : (k y).1 = (k x).1
    · rw [if_pos e] at h1
      by_cases e2 : (k z).1 = (k y).1
      · rw [if_pos e2] at h2
        rw [if_pos (e2.trans e)]
        have a := lexB_no.mp h1
        have b := lexB_no.mp h2
        exact lexB_no.mpr (by omega)
      · rw [if_neg e2] at h2
        rw [if_neg (fun z => e2 (z.trans e.symm)), ← e]
        exact h2
    · rw [if_neg e] at h1
      by_cases e2 : (k z).1 = (k y).1
      · rw [if_pos e2] at h2
        rw [if_neg (fun z => e (e2.symm.trans z)), e2]
        exact h1
      · rw [if_neg e2] at h2
        by_cases e3 : (k z).1 = (k x).1
        · exfalso
          rw [e3] at h2
          have := lexB_tot e h1
          rw [h2] at this
          cases this
        · rw [if_neg e3]
          have a := lexB_no.mp h1
          have b := lexB_no.mp h2
          exact lexB_no.mpr (by omega)
theorem lexLt_two {a b c d : Int} : HT.lexLt [a, b] [c, d] = lexB (a, b) (c, d) := by
  rw [HT.lexLt_cons, HT.lexLt_cons, HT.lexLt_nil_nil]
  unfold lexB
  simp only
  by_cases e : a = c
  · rw [if_pos e, if_pos e]
    by_cases e2 : b = d
    · rw [if_pos e2, e2]
      exact (decide_eq_false (Int.lt_irrefl _)).symm
    · rw [if_neg e2]
  · rw [if_neg e, if_neg e]
section
variable {prog : Program} {w : World} {A : Around} {E : Value → Shared → Prop} {s : Shared}
/-- v is a pair of pairs of ints -/
def IsPP (h : Heap) (v : Value) (k : PP) : Prop := ∃ a b c, v = .ref a ∧ IsTup h a #[.ref b, .ref c] ∧ Srt.IsPair h (.ref b) k.1.1 k.1.2 ∧ Srt.IsPair h (.ref c) k.2.1 k.2.2
theorem IsPP.keeps {h h' : Heap} {v : Value} {k : PP} (p : IsPP h v k) (kp : ∀ b o, h.get? b = some o → o.cls = .type "tuple" → h'.get? b = some o) : IsPP h' v k := by
  obtain ⟨a, b, c, e, ⟨o, ho, hc, r⟩, p1, p2⟩ := p
  exact ⟨a, b, c, e, ⟨o, kp _ _ ho hc, hc, r⟩, p1.keeps kp, p2.keeps kp⟩
theorem pair_T {h : Heap} {b : Addr} {x y : Int} (p : Srt.IsPair h (.ref b) x y) : L2.IsT prog w h [x, y] b := by
  obtain ⟨a, o, t, u, n, e, ho, hc, hd⟩ := p
  cases e
  exact ⟨o, _, n, ho, hc, hd, .cons (by simp [L2.TK, intKind, Value.isInt]) (.cons (by simp [intKind, Value.isInt]) .nil)⟩
theorem pair_I {h : Heap} {b : Addr} {x y : Int} (p : Srt.IsPair h (.ref b) x y) : ∃ its, IsTup h b its ∧ IntsAre its.toList [x, y] := by
  obtain ⟨a, o, t, u, n, e, ho, hc, hd⟩ := p
  cases e
  exact ⟨_, ⟨o, ho, hc, n, hd⟩, .cons _ _ (.cons _ _ .nil)⟩
theorem pp_cmp {vs : List Value} {k : Value → PP} (hu : A.units < cLine) (hp : ∀ v ∈ vs, IsPP s.heap v (k v)) : Cmp prog w A s (tuples' false) (fun p => p.1 ∈ vs) (lt2 fun v u => lex2 (k v) (k u)) := by
  intro p q hm hm'
  have h1 := hp _ hm
  have h2 := hp _ hm'
  show wpAny (model prog w) A (keyLt' (tuples' false) p.1 q.1) (fun r s' => s' = s ∧ r = lex2 (k p.1) (k q.1)) (fun _ _ => False) s
  generalize k p.1 = x at h1 ⊢
  generalize k q.1 = y at h2 ⊢
  obtain ⟨a, b, c, e, ⟨o, ho, hc, n, hd⟩, p1, p2⟩ := h1
  obtain ⟨a', b', c', e', ⟨o', ho', hc', n', hd'⟩, q1, q2⟩ := h2
  rw [e, e']
  refine kat_lt ho hd ho' hd' ?_
  show KatLex prog w A false (decide (2 < 2)) _ [(.ref b, .ref b'), (.ref c, .ref c')] 0 s
  refine kat_cons (wpAny_eqBool_tuple hu (pair_T p1) (pair_T q1) ?_)
  refine kat_go (fun e1 => ?_) (fun e1 => ?_)
  · have e1 := of_decide_eq_true e1
    have ex : x.1 = y.1 := Prod.ext (by injection e1) (by injection e1 with _ z; injection z)
    refine kat_yes (kat_cons (wpAny_eqBool_tuple hu (pair_T p2) (pair_T q2) ?_))
    refine kat_go (fun e2 => ?_) (fun e2 => ?_)
    · have e2 := of_decide_eq_true e2
      have ey : x.2 = y.2 := Prod.ext (by injection e2) (by injection e2 with _ z; injection z)
      refine kat_yes (kat_nil ⟨rfl, ?_⟩)
      unfold lex2
      rw [if_pos ex, ey, lexB_irr]
      rfl
    · obtain ⟨i1, t1, r1⟩ := pair_I p2
      obtain ⟨i2, t2, r2⟩ := pair_I q2
      refine kat_no ?_
      show wpAny _ _ (oneLt' false _ _) _ _ _
      refine kat_one _ _ (HT.lt_tupInts t1 t2 r1 r2 hu ⟨rfl, ?_⟩)
      unfold lex2
      rw [if_pos ex, lexLt_two]
  · have e1 := of_decide_eq_false e1
    have ex : x.1 ≠ y.1 := fun z => e1 (by rw [z])
    obtain ⟨i1, t1, r1⟩ := pair_I p1
    obtain ⟨i2, t2, r2⟩ := pair_I q1
    refine kat_no ?_
    show wpAny _ _ (oneLt' false _ _) _ _ _
    refine kat_one _ _ (HT.lt_tupInts t1 t2 r1 r2 hu ⟨rfl, ?_⟩)
    unfold lex2
    rw [if_neg ex, lexLt_two]
theorem firsts_of {h : Heap} : ∀ {vs : List Value}, (∀ v ∈ vs, ∃ k, IsPP h v k) → ∃ fs : List Value, KatTups h vs fs ∧ fs.length = vs.length ∧ ∀ f ∈ fs, ∃ q o, f = Value.ref q ∧ h.get? q = some o ∧ o.cls = .type "tuple"
  | [], _ => ⟨[], KatTups.nil, rfl, fun _ hm => by simp at hm⟩
  | v :: vs, hp => by
    obtain ⟨fs, h1, h2, h3⟩ := firsts_of (vs := vs) fun v' hm => hp v' (List.mem_cons_of_mem _ hm)
    obtain ⟨k, a, b, c, rfl, ⟨o, ho, hc, n, hd⟩, ⟨_, o2, _, _, _, e2, ho2, hc2, _⟩, _⟩ := hp v (List.mem_cons_self ..)
    cases e2
    refine ⟨.ref b :: fs, KatTups.cons ho hc hd rfl h1, by rw [List.length_cons, List.length_cons, h2], fun f hm => ?_⟩
    rcases List.mem_cons.mp hm with rfl | hm
    · exact ⟨b, o2, rfl, ho2, hc2⟩
    · exact h3 f hm
theorem pp_sortable {a : Addr} {vs : List Value} {k : Value → PP} (hu : A.units < cLine) (h0 : 0 < vs.length) (hp : ∀ v ∈ vs, IsPP s.heap v (k v)) (ha : ∀ o, s.heap.get? a = some o → o.cls ≠ .type "tuple") : SortableO prog w A s a vs fun v u => lex2 (k v) (k u) := by
  intro h' keep
  have hp' : ∀ v ∈ vs, IsPP h' v (k v) := fun v hm => (hp v hm).keeps fun b o e c => keep b o (fun z => by subst z; exact ha o e c) e
  obtain ⟨fs, h1, h2, h3⟩ := firsts_of fun v hm => ⟨_, hp' v hm⟩
  refine ⟨tuples' false, fun Q E hq => ?_, pp_cmp (s := { s with heap := h' }) hu hp'⟩
  refine kat_kind (T := .type "tuple") h1 (by omega) (fun f hm => ?_) (by rfl) ?_
  · obtain ⟨q, o, rfl, ho, hc⟩ := h3 f hm
    have z : PySem.W.Looks (model prog w) h' (typeOf (.ref q)) o.cls := (PySem.W.Looks.ld ho).andThen .now
    rw [hc] at z
    exact z
  · have e : (Value.type "tuple" != Value.type "tuple") = false := by first | rfl | decide | simp
    rw [e]
    exact hq
theorem sorted_pp {l : Addr} {vs : List Value} {k : Value → PP} {Q : Value → Shared → Prop} (hu : A.units + 64 < cLine) (hl : s.heap.IsList l vs.toArray) (hz : vs.length ≤ sizeLine) (hp : ∀ v ∈ vs, IsPP s.heap v (k v))
    (h : ∀ (h' : Heap) (d : Addr) (out : List Value), Srtd (fun v u => lex2 (k v) (k u)) out → Stb (fun v u => lex2 (k v) (k u)) out vs → (∀ b o, s.heap.get? b = some o → h'.get? b = some o) → s.heap.objs.size ≤ d → (∃ n, h'.get? d = some (seqObj "list" out.toArray n)) → Q (.ref d) { s with heap := h' }) :
    wpAny (model prog w) A (call (.builtin "sorted") [.ref l]) Q E s := by
  refine sorted_ord (lex2_swo k) hl hz (fun h2 h₁ a ha kk => ?_) fun out hs hb => ?_
  · refine pp_sortable (s := { s with heap := h₁ }) (show A.units + 2 < cLine by omega) (by omega) (fun v hm => (hp v hm).keeps fun b o e _ => (kk b o e).2) fun o e => ?_
    have e' : some o = some (seqObj "list" vs.toArray 0) := e.symm.trans ha
    cases e'
    intro c
    exact absurd (Value.type.inj c) (by decide)
  · exact h _ _ out hs hb (fun b o e => sortedAll_old e) (Nat.le_succ _) (sortedAll_at s.heap vs out.toArray)
end
end ScQ
namespace Sc
open PySem PySem.Spec PyProof.Rows L2
open Py (enc)
abbrev QQ := T2 (T2 Int Int) (T2 Int Int)
def qk (q : QQ) : ScQ.PP := ((q.a.a, q.a.b), (q.b.a, q.b.b))
theorem qk_inj {p q : QQ} (h : qk p = qk q) : p = q := by
  obtain ⟨⟨a, b⟩, ⟨c, d⟩⟩ := p
  obtain ⟨⟨e, f⟩, ⟨g, i⟩⟩ := q
  unfold qk at h
  simp at h
  obtain ⟨⟨h1, h2⟩, h3, h4⟩ := h
  rw [h1, h2, h3, h4]
def rSortedQ (K : PySem.W.Frag) : List V → Hp → VK → Prop := fun vs H Q => ∃ (a : Addr) (xs : List V) (k : V → ScQ.PP), vs = [V.ref a] ∧ SqL K H a xs ∧
  (∀ x ∈ xs, ∃ t u v, x = V.ref t ∧ H t = some (.tup [.ref u, .ref v]) ∧ H u = some (.tup [.int (k x).1.1, .int (k x).1.2]) ∧ H v = some (.tup [.int (k x).2.1, .int (k x).2.2])) ∧
  ∀ ys p, SrtO.Srtd (fun v u => ScQ.lex2 (k v) (k u)) ys → SrtO.Stb (fun v u => ScQ.lex2 (k v) (k u)) ys xs → H p = none → Q (.ref p) (upd H p (.lst ys))
theorem hok_pair {X : Cx} {pins : List (Addr × Obj)} {σ : L2.St} {H : Hp} {s : Shared} {t : Addr} {x y : Int} (I : Inv X pins σ H s) (ht : H t = some (.tup [.int x, .int y])) : Srt.IsPair s.heap (.ref t) x y := by
  obtain ⟨_, its2, r2, o, ho, hc, n, hd⟩ := I.hok _ _ ht
  obtain ⟨u1, u2, rfl, ri, rj⟩ := vals2 r2
  obtain ⟨t1, rfl⟩ := ri
  obtain ⟨t2, rfl⟩ := rj
  exact ⟨t, o, t1, t2, n, rfl, ho, hc, hd⟩
theorem cr_sortedQ {X : Cx} (hu : X.A.units + 64 < cLine) : CallR X (.builtin "sorted") (rSortedQ X.K) := by
  intro pins s σ H vs us Q I r h
  obtain ⟨a, xs, k, rfl, hs, hx, q⟩ := h
  obtain ⟨its, rv, hl, hz⟩ := I.list hs
  obtain ⟨u, rfl, ru⟩ := vals1 r
  obtain rfl : u = Value.ref a := ru
  obtain ⟨e1, e2⟩ := refs_back rv fun x m => by
    obtain ⟨t, _, _, e, _⟩ := hx x m
    exact ⟨t, e⟩
  refine ScQ.sorted_pp (k := fun u => k (backV u)) hu hl.isList (by rw [← rv.length]; exact hz) (fun v hv => ?_) fun h' d out h1 h2 kp hd hn => ?_
  · obtain ⟨t, rfl⟩ := e2 v hv
    have hm : V.ref t ∈ xs := by rw [e1]; exact List.mem_map.mpr ⟨_, hv, rfl⟩
    obtain ⟨t', u, v, e, ht, hu', hv'⟩ := hx _ hm
    cases e
    obtain ⟨_, its2, r2, o, ho, hc, n, hd⟩ := I.hok _ _ ht
    obtain ⟨u1, u2, rfl, ri, rj⟩ := vals2 r2
    obtain rfl : u1 = Value.ref u := ri
    obtain rfl : u2 = Value.ref v := rj
    exact ⟨t, u, v, rfl, ⟨o, ho, hc, n, hd⟩, hok_pair I hu', hok_pair I hv'⟩
  · have h3 : ∀ u ∈ out, ∃ a, u = Value.ref a := fun u hu => e2 u (h2.perm.mem_iff.mp hu)
    obtain ⟨n, hn⟩ := hn
    have hb : SrtO.Stb (fun v u => ScQ.lex2 (k v) (k u)) (out.map backV) xs := by
      rw [e1]
      exact SrtO.Stb.map (ScQ.lex2_swo k) backV h2
    refine ⟨.ref d, upd H d (.lst (out.map backV)), I.laid (t' := s.toks) kp hd ⟨?_, out, n, vals_back h3, hn⟩, rfl, q _ d (SrtO.srtd_map h1) hb (I.hok.fresh hd)⟩
    rw [hb.len]
    exact hz
def ltQ (x y : QQ) : Bool := ScQ.lex2 (qk x) (qk y)
def sortQ (xs : List QQ) : List QQ := xs.mergeSort fun x y => !ltQ y x
theorem ltQ_swo : SrtO.Swo ltQ := ScQ.lex2_swo qk
theorem ltQ_eq {x y : QQ} (h : SrtO.eqv ltQ x y = true) : x = y := by
  obtain ⟨h1, h2⟩ := SrtO.eqv_iff.mp h
  refine qk_inj ?_
  unfold ltQ ScQ.lex2 at h1 h2
  by_cases e : (qk x).1 = (qk y).1
  · rw [if_pos e] at h1
    rw [if_pos e.symm] at h2
    by_cases e2 : (qk x).2 = (qk y).2
    · exact Prod.ext e e2
    · have := ScQ.lexB_tot e2 h1
      rw [h2] at this; cases this
  · rw [if_neg e] at h1
    rw [if_neg (Ne.symm e)] at h2
    have := ScQ.lexB_tot e h1
    rw [h2] at this; cases this
theorem filtQ {x : QQ} (l : List QQ) : l.filter (SrtO.eqv ltQ x) = List.replicate (l.filter (SrtO.eqv ltQ x)).length x :=
  List.eq_replicate_of_mem fun y hy => (ltQ_eq (List.mem_filter.mp hy).2).symm
theorem stb_permQ {l m : List QQ} (h : l.Perm m) : SrtO.Stb ltQ l m := ⟨h, fun x => by
  rw [filtQ l, filtQ m, (h.filter _).length_eq]⟩
theorem sortQ_perm (xs : List QQ) : (sortQ xs).Perm xs := List.mergeSort_perm _ _
theorem sortQ_srtd (xs : List QQ) : SrtO.Srtd ltQ (sortQ xs) := by
  have := List.pairwise_mergeSort (le := fun x y => !ltQ y x) (fun x y z h1 h2 => by
    simp only [Bool.not_eq_true'] at *
    exact ltQ_swo.tr x y z h1 h2) (fun x y => by
    cases e : ltQ y x with
    | false => rfl
    | true => rw [ltQ_swo.asym y x e]; rfl) xs
  exact this.imp fun h => by simpa using h
section
variable {C : Cn} {X : Addr → Prop} {H : Hp} {σ : L2.St} {Γ Γ' : List Sl} {Q : VK} {α β ρ : Type}
def kQ (H : Hp) : V → ScQ.PP
  | .ref b => match H b with
    | some (.tup [u, v]) => (kOf H u, kOf H v)
    | _ => ((0, 0), (0, 0))
  | _ => ((0, 0), (0, 0))
theorem kQ_at {b u v : Addr} {q : QQ} (h : H b = some (.tup [.ref u, .ref v])) (hu : H u = some (.tup ((kq q.a).map kV))) (hv : H v = some (.tup ((kq q.b).map kV))) : kQ H (.ref b) = qk q := by
  unfold kQ
  simp only [h]
  rw [kOf_at hu, kOf_at hv]
  rfl
theorem q_rep {K : PySem.W.Frag} {q : QQ} {y : V} (r : Rep K X H (enc q) y) : ∃ b u v, y = .ref b ∧ H b = some (.tup [.ref u, .ref v]) ∧ H u = some (.tup ((kq q.a).map kV)) ∧ H v = some (.tup ((kq q.b).map kV)) := by
  obtain ⟨a, vs, rfl, h, w⟩ := rep_tupS (ds := [enc q.a, enc q.b]) r
  cases w with
  | cons q1 w => cases w with
    | cons q2 w =>
      cases w
      obtain ⟨u, rfl, hu⟩ := key_rep q1
      obtain ⟨v, rfl, hv⟩ := key_rep q2
      exact ⟨a, u, v, rfl, h, hu, hv⟩
def unQ (k : ScQ.PP) : QQ := ⟨⟨k.1.1, k.1.2⟩, ⟨k.2.1, k.2.2⟩⟩
def PQ (H : Hp) (y : V) : Prop := ∃ b u v, y = .ref b ∧ H b = some (.tup [.ref u, .ref v]) ∧ H u = some (.tup [.int (kQ H y).1.1, .int (kQ H y).1.2]) ∧ H v = some (.tup [.int (kQ H y).2.1, .int (kQ H y).2.2])
theorem qs_rep {K : PySem.W.Frag} : ∀ {xs : List QQ} {vs : List V}, Reps K X H (xs.map enc) vs → (∀ y ∈ vs, PQ H y) ∧ vs.map (fun y => unQ (kQ H y)) = xs
  | [], _, .nil => ⟨fun _ h => (nomatch h), rfl⟩
  | x :: xs, _, .cons r t => by
    obtain ⟨h1, h2⟩ := qs_rep t
    obtain ⟨b, u, v, rfl, hb, hu, hv⟩ := q_rep r
    have e := kQ_at (q := x) hb hu hv
    refine ⟨fun y hy => ?_, ?_⟩
    · rcases List.mem_cons.mp hy with z | hy
      · subst z; exact ⟨b, u, v, rfl, hb, by rw [e]; exact hu, by rw [e]; exact hv⟩
      · exact h1 y hy
    · rw [List.map_cons, h2, e]
      rfl
theorem reps_qs {K : PySem.W.Frag} : ∀ {ys : List V}, (∀ y ∈ ys, PQ H y) → Reps K X H ((ys.map fun y => unQ (kQ H y)).map enc) ys
  | [], _ => .nil
  | y :: ys, h => by
    obtain ⟨b, u, v, e, hb, hu, hv⟩ := h y List.mem_cons_self
    refine .cons ?_ (reps_qs fun z hz => h z (List.mem_cons_of_mem _ hz))
    rw [e] at hu hv ⊢
    exact .tup hb (.cons (.tup hu (.cons (.int _) (.cons (.int _) .nil))) (.cons (.tup hv (.cons (.int _) (.cons (.int _) .nil))) .nil))
theorem unQ_qk (x : V) : qk (unQ (kQ H x)) = kQ H x := rfl
theorem sortedQ_core {xs : List QQ} {a : Addr} {vs : List V} (hs : Rd H a (.lst vs)) (q : Reps C.K X H (xs.map enc) vs) (h : ∀ ys, Reps C.K X H ((sortQ xs).map enc) ys → ∀ p, H p = none → Q (.ref p) (upd H p (.lst ys))) : rSortedQ C.K [.ref a] H Q := by
  obtain ⟨k1, k2⟩ := qs_rep q
  refine ⟨a, vs, kQ H, rfl, .inl hs, fun x hx => k1 x hx, fun ys q hs hb hq => ?_⟩
  have es : ys.map (fun y => unQ (kQ H y)) = sortQ xs := by
    refine SrtO.stb_uniq ltQ_swo (SrtO.srtd_map (lt := ltQ) (f := fun y => unQ (kQ H y)) hs) (sortQ_srtd _) (stb_permQ ?_)
    refine ((hb.perm.map _).trans ?_).trans (sortQ_perm _).symm
    rw [k2]
  refine h ys ?_ q hq
  rw [← es]
  exact reps_qs fun y hy => k1 y (hb.perm.mem_iff.mp hy)
/-- sorted of data, of a list of the body's own: data, a list of the body's own -/
theorem x_sortedQ {xs : List QQ} {v : V} (L : Lo C X H σ Γ) (r : Rep C.K X H (enc xs) v) (h : ∀ v H1, Lo C X H1 σ Γ → (∀ d u, Rep C.K X H d u → Rep C.K X H1 d u) → Rep C.K X H1 (enc (sortQ xs)) v → Q v H1) : rSortedQ C.K [v] H Q := by
  obtain ⟨a, vs, rfl, _, hs, q⟩ := rep_lst (ds := xs.map enc) r
  exact sortedQ_core hs q fun ys rp => x_new L rp h
theorem x_sortedQN {xs : List QQ} {v : V} (L : Lo C X H σ Γ) (r : Rep C.K X H (enc xs) v) (h : ∀ p X' H1, C.H0 p = none → ¬ C.X0 p → Lo C X' H1 σ (Γ ++ [.tmp p (ml (sortQ xs))]) → (∀ d u, Rep C.K X H d u → Rep C.K X' H1 d u) → Q (.ref p) H1) : rSortedQ C.K [v] H Q := by
  obtain ⟨a, vs, rfl, _, hs, q⟩ := rep_lst (ds := xs.map enc) r
  exact sortedQ_core hs q fun ys rp => x_newN L rp h
theorem x_sortedQM {xs : List QQ} {i : Nat} {p : Addr} (L : Lo C X H σ Γ) (g : Γ[i]? = some (.mu p (ml xs))) (h : ∀ v H1, Lo C X H1 σ Γ → (∀ d u, Rep C.K X H d u → Rep C.K X H1 d u) → Rep C.K X H1 (enc (sortQ xs)) v → Q v H1) : rSortedQ C.K [.ref p] H Q := by
  obtain ⟨vs, hv, q⟩ := L.mrep g
  exact sortedQ_core (.inl hv) q fun ys rp => x_new L rp h
theorem x_sortedQMN {xs : List QQ} {i : Nat} {p : Addr} (L : Lo C X H σ Γ) (g : Γ[i]? = some (.mu p (ml xs))) (h : ∀ p X' H1, C.H0 p = none → ¬ C.X0 p → Lo C X' H1 σ (Γ ++ [.tmp p (ml (sortQ xs))]) → (∀ d u, Rep C.K X H d u → Rep C.K X' H1 d u) → Q (.ref p) H1) : rSortedQ C.K [.ref p] H Q := by
  obtain ⟨vs, hv, q⟩ := L.mrep g
  exact sortedQ_core (.inl hv) q fun ys rp => x_newN L rp h
end
end Sc
/-! ### an inner list of a new list of new lists is written -/
namespace Sc
open PySem PySem.Spec PyProof.Rows L2
open Py (enc)
theorem Rd.fn {H : Hp} {a : Addr} {us vs : List V} (h : Rd H a (.lst us)) (k : Rd H a (.lst vs)) : us = vs := by
  rcases h with h | ⟨o, h⟩ <;> rcases k with k | ⟨q, k⟩ <;> rw [h] at k <;> cases k <;> rfl
mutual
theorem Rep.fn {K : PySem.W.Frag} {X Y : Addr → Prop} {H : Hp} : ∀ {d e : PyData} {v : V}, Rep K X H d v → Rep K Y H e v → d = e
  | _, _, _, .non, .non => rfl
  | _, _, _, .bl _, .bl _ => rfl
  | _, _, _, .int _, .int _ => rfl
  | _, _, _, .str _, .str _ => rfl
  | _, _, _, .tup h r, .tup k q => by
    have e := h.symm.trans k
    cases e
    rw [Reps.fn r q]
  | _, _, _, .tup h r, .lst n k q => by
    rcases k with k | ⟨o, k⟩ <;> rw [h] at k <;> cases k
  | _, _, _, .lst n k q, .tup h r => by
    rcases k with k | ⟨o, k⟩ <;> rw [h] at k <;> cases k
  | _, _, _, .lst _ h r, .lst _ k q => by
    have e := Rd.fn h k
    subst e
    rw [Reps.fn r q]
theorem Reps.fn {K : PySem.W.Frag} {X Y : Addr → Prop} {H : Hp} : ∀ {d e : List PyData} {v : List V}, Reps K X H d v → Reps K Y H e v → d = e
  | _, _, _, .nil, .nil => rfl
  | _, _, _, .cons r t, .cons q u => by rw [Rep.fn r q, Reps.fn t u]
end
theorem encs_inj [Py α] [IT α] : ∀ {xs ys : List α}, xs.map enc = ys.map enc → xs = ys
  | [], [], _ => rfl
  | [], _ :: _, h => nomatch h
  | _ :: _, [], h => nomatch h
  | x :: xs, y :: ys, h => by
    injection h with h1 h2
    rw [IT.enc_eq, IT.enc_eq] at h1
    injection h1 with h1
    have inj : ∀ {a b : List Int}, a.map PyData.int = b.map PyData.int → a = b := by
      intro a
      induction a with
      | nil => intro b e; cases b with | nil => rfl | cons _ _ => cases e
      | cons n a ih =>
        intro b e
        cases b with
        | nil => cases e
        | cons m b => injection e with e1 e2; injection e1 with e1; rw [e1, ih e2]
    rw [IT.inj _ _ (inj h1), encs_inj h2]
/-- the item of xs at i, unlike any other one: what is ahead, itself, what is behind -/
def takeO {α : Type} [DecidableEq α] (xs : List α) (i : Int) : Option (T3 (List α) α (List α)) :=
  (ixN xs.length i).bind fun k => xs[k]?.bind fun x => if x ∈ xs.take k ∨ x ∈ xs.drop (k + 1) then none else some ⟨xs.take k, x, xs.drop (k + 1)⟩
theorem takeO_eq {α : Type} [DecidableEq α] {xs : List α} {i : Int} {q : T3 (List α) α (List α)} (h : takeO xs i = some q) : xs = q.a ++ q.b :: q.c ∧ ixN xs.length i = some q.a.length ∧ q.b ∉ q.a ∧ q.b ∉ q.c := by
  unfold takeO at h
  obtain ⟨k, hk, h⟩ := ob h
  obtain ⟨x, hx, h⟩ := ob h
  split at h
  · cases h
  · next n =>
    cases h
    have hlt := (List.getElem?_eq_some_iff.mp hx).1
    refine ⟨?_, ?_, fun z => n (.inl z), fun z => n (.inr z)⟩
    · show xs = xs.take k ++ x :: xs.drop (k + 1)
      have e := List.getElem?_eq_some_iff.mp hx
      obtain ⟨e1, e2⟩ := e
      rw [← e2, ← List.drop_eq_getElem_cons e1, List.take_append_drop]
    · rw [hk, List.length_take, Nat.min_eq_left (Nat.le_of_lt hlt)]
def HoleR (K : PySem.W.Frag) (b : Addr) (d1 d2 : List PyData) : Addr → (Addr → Prop) → Hp → Prop := fun p X H => ∃ v1 v2, H p = some (.lst (v1 ++ .ref b :: v2)) ∧ Reps K X H d1 v1 ∧ Reps K X H d2 v2
theorem HoleR.rx {K : PySem.W.Frag} {b : Addr} {d1 d2 : List PyData} : RX (HoleR K b d1 d2) where
  keep := fun k e ⟨v1, v2, h, r1, r2⟩ => ⟨v1, v2, e.trans h, r1.keep k, r2.keep k⟩
  anti := fun k ⟨v1, v2, h, r1, r2⟩ => ⟨v1, v2, h, r1.anti k, r2.anti k⟩
  more := fun k ⟨v1, v2, h, r1, r2⟩ => ⟨v1, v2, h, r1.more k, r2.more k⟩
  nn := fun ⟨v1, v2, h, _⟩ => by rw [h]; exact fun z => (nomatch z)
  ntup := fun ⟨v1, v2, h, _⟩ => by
    rw [h]
    exact ⟨fun _ z => (nomatch z), fun _ _ z => (nomatch z)⟩
section
variable {C : Cn} {X : Addr → Prop} {H : Hp} {σ : L2.St} {Γ Γ' : List Sl} {Q : VK} {α ρ : Type}
theorem Reps.split {K : PySem.W.Frag} : ∀ {d1 d2 : List PyData} {vs : List V}, Reps K X H (d1 ++ d2) vs → ∃ v1 v2, vs = v1 ++ v2 ∧ Reps K X H d1 v1 ∧ Reps K X H d2 v2
  | [], d2, vs, r => ⟨[], vs, rfl, .nil, r⟩
  | _ :: d1, d2, _, .cons r t => by
    obtain ⟨v1, v2, rfl, r1, r2⟩ := Reps.split (d1 := d1) t
    exact ⟨_ :: v1, v2, rfl, .cons r r1, r2⟩
/-- other lists than the one at b -/
theorem Reps.unlike [Py α] [IT α] [Flat α] {K : PySem.W.Frag} {Y : Addr → Prop} {b : Addr} {x : List α} {us : List V} (hb : H b = some (.lst us)) (rb : Reps K Y H (x.map enc) us) : ∀ {xs : List (List α)} {vs : List V}, x ∉ xs → Reps K Y H (xs.map enc) vs → (∀ a, X a → Y a) → Reps K (fun a => X a ∨ a = b) H (xs.map enc) vs
  | [], _, _, .nil, _ => .nil
  | y :: xs, _, n, .cons r t, hy => by
    refine .cons ?_ (Reps.unlike hb rb (fun z => n (List.mem_cons_of_mem _ z)) t hy)
    obtain ⟨a, ws, rfl, na, rd, q⟩ := rep_lst (ds := y.map enc) r
    refine .lst (fun z => z.elim (fun z => na (hy a z)) fun z => ?_) rd q.flat
    subst z
    have e := Rd.fn rd (.inl hb)
    subst e
    exact n (encs_inj (Reps.fn rb q) ▸ List.mem_cons_self)
theorem muts_set_new {Γ : List Sl} {j : Nat} {b : Addr} {o : MO} (hj : Γ[j]? = some .unk) (nb : b ∉ muts Γ) (nd : (muts Γ).Nodup) : (muts (Γ.set j (.mu b o))).Nodup ∧ ∀ q, q ∈ muts (Γ.set j (.mu b o)) → q = b ∨ q ∈ muts Γ := by
  have hmem : ∀ q, q ∈ muts (Γ.set j (.mu b o)) → q = b ∨ q ∈ muts Γ := fun q hq => by
    obtain ⟨k, s, hk, e⟩ := mem_muts.mp hq
    by_cases z : k = j
    · subst z
      rw [List.getElem?_set_self (List.getElem?_eq_some_iff.mp hj).1] at hk
      cases hk; cases e; exact .inl rfl
    · rw [List.getElem?_set_ne (Ne.symm z)] at hk
      exact .inr (mem_muts.mpr ⟨k, s, hk, e⟩)
  refine ⟨?_, hmem⟩
  clear hmem
  induction Γ generalizing j with
  | nil => cases hj
  | cons s Γ ih =>
    cases j with
    | zero =>
      have e : s = .unk := by simpa using hj
      subst e
      exact List.nodup_cons.mpr ⟨nb, nd⟩
    | succ j =>
      have hj' : Γ[j]? = some .unk := by simpa using hj
      rw [List.set_cons_succ]
      unfold muts at nb nd ⊢
      rw [List.filterMap_cons] at nb nd ⊢
      cases e : s.ad with
      | none =>
        rw [e] at nb nd
        exact ih hj' nb nd
      | some q =>
        rw [e] at nb nd
        obtain ⟨n1, n2⟩ := List.nodup_cons.mp nd
        have ih' := ih hj' (fun z => nb (List.mem_cons_of_mem _ z)) n2
        refine List.nodup_cons.mpr ⟨fun z => ?_, ih'⟩
        obtain ⟨k, s', hk, e'⟩ := mem_muts.mp z
        by_cases y : k = j
        · subst y
          rw [List.getElem?_set_self (List.getElem?_eq_some_iff.mp hj').1] at hk
          cases hk; cases e'
          exact nb List.mem_cons_self
        · rw [List.getElem?_set_ne (Ne.symm y)] at hk
          exact n1 (mem_muts.mpr ⟨k, s', hk, e'⟩)
/-- a new list's address joins what may be written -/
theorem Lo.grow {Z : Addr → Prop} {b : Addr} {us : List V} (L : Lo C X H σ Γ) (h0 : C.H0 b = none) (nb : ¬ X b) (zb : Z b) (h : H b = some (.lst us)) (old : ∀ s ∈ Γ, OldS Z s) : Lo C (fun a => X a ∨ a = b) H σ Γ := by
  refine ⟨L.len, fun i s hi => ?_, L.nd, fun p hp => .inl (L.mx p hp), fun a z => .inl (L.m0 a z), fun a z => z.elim (L.xd a) (fun z => by rw [z, h]; exact fun y => nomatch y), L.base, L.dom, L.own, L.tf⟩
  have hs := L.at_ i s hi
  have ho := old s (List.mem_of_getElem? hi)
  cases s with
  | unk => trivial
  | ref a => exact hs
  | scr ns => exact ho.elim
  | imm d =>
    obtain ⟨u, e, r⟩ := hs
    exact ⟨u, e, (ho _ _ _ _ r).anti fun _ _ => trivial⟩
  | fixN Z' d => exact ho.elim
  | lax i j => exact ho.elim
  | fix Z' d =>
    obtain ⟨u, e, r⟩ := hs
    exact ⟨u, e, r.anti fun a z => z.elim (fun z => z.elim .inl fun z => .inr fun y => ho a y (z ▸ zb)) .inr⟩
  | mu p o =>
    obtain ⟨e, r⟩ := hs
    refine ⟨e, ?_⟩
    cases o with
    | lst ds =>
      obtain ⟨vs, hv, r⟩ := r
      exact ⟨vs, hv, (ho _ _ _ _ r).anti fun _ _ => trivial⟩
    | lstZ _ _ => exact ho.elim
    | dct _ => exact ho.elim
    | ex _ => exact ho.elim
    | any => exact r
  | tmp p o => exact ho.elim
/-- name = xs[i], xs a new list of new lists: the item is the body's own now -/
theorem x_take [Py α] [IT α] [Flat α] [DecidableEq α] {xs : List (List α)} {Z : Addr → Prop} {i j : Nat} {p : Addr} {ix : Int} {k : T3 (List (List α)) (List α) (List (List α)) → Option ρ} {r : ρ} {N : L2.St → Hp → Prop} {G' : Addr → T3 (List (List α)) (List α) (List (List α)) → List Sl} (L : Lo C X H σ Γ) (hZ : ∀ a, Z a → C.H0 a = none) (hj : j < C.n)
    (g : Γ[i]? = some (.mu p (.lstZ Z (xs.map enc)))) (gj : Γ[j]? = some .unk) (old : ∀ s ∈ Γ.set i (.mu p .any), OldS Z s) (hm : (takeO xs ix).bind k = some r)
    (e : ∀ b q, (Γ.set i (.mu p (.ex (HoleR C.K b (q.a.map enc) (q.c.map enc))))).set j (.mu b (ml q.b)) = G' b q)
    (h : ∀ q b X' σ', k q = some r → C.H0 b = none → ¬ C.X0 b → Lo C X' H σ' (G' b q) → N σ' H) : rIxL C.K (.ref p) (.int ix) H fun v H1 => gName j v σ H1 N := by
  obtain ⟨q, hq, hk⟩ := ob hm
  obtain ⟨hx, hix, n1, n2⟩ := takeO_eq hq
  have hil : i < Γ.length := (List.getElem?_eq_some_iff.mp g).1
  have ne : i ≠ j := fun z => by subst z; rw [g] at gj; cases gj
  obtain ⟨hp, vs, hv, rv⟩ := L.at_ i _ g
  rw [hx, List.map_append, List.map_cons] at rv
  obtain ⟨v1, v2', rfl, r1, r2⟩ := rv.split
  cases r2 with
  | @cons _ _ vb v2 rb r2 =>
    obtain ⟨b, us, rfl, nb, rd, qb⟩ := rep_lst (ds := q.b.map enc) rb
    have hb : H b = some (.lst us) := by
      rcases rd with rd | ⟨o, rd⟩
      · exact rd
      · exact (nb (.inr (.inr ⟨_, _, rd⟩))).elim
    have zb : Z b := Classical.not_not.mp fun h => nb (.inr (.inl h))
    have nX : ¬ X b := fun h => nb (.inl h)
    have hl : v1.length = q.a.length := by rw [r1.length, List.length_map]
    have hlen : (v1 ++ V.ref b :: v2).length = xs.length := by
      have := congrArg List.length hx
      rw [List.length_append, List.length_cons] at this ⊢
      rw [r2.length, List.length_map, hl, this]
    refine ⟨p, v1 ++ V.ref b :: v2, ix, .ref b, rfl, rfl, .inl (.inl hv), ?_, ?_⟩
    · show (ixN (v1 ++ V.ref b :: v2).length ix).bind _ = _
      rw [hlen, hix]
      show (v1 ++ V.ref b :: v2)[q.a.length]? = _
      rw [← hl, List.getElem?_append_right (Nat.le_refl _), Nat.sub_self]
      rfl
    have L1 : Lo C X H σ (Γ.set i (.mu p .any)) := L.resl g rfl fun v ⟨e, vs, h, _⟩ => ⟨e, vs, h⟩
    have L2 := L1.grow (hZ b zb) nX zb hb old
    have g2 : (Γ.set i (Sl.mu p .any))[i]? = some (.mu p .any) := List.getElem?_set_self hil
    have L3 : Lo C (fun a => X a ∨ a = b) H σ ((Γ.set i (.mu p .any)).set i (.mu p (.ex (HoleR C.K b (q.a.map enc) (q.c.map enc))))) :=
      L2.resl g2 rfl fun v ⟨e, _⟩ => ⟨e, HoleR.rx, v1, v2, hv, Reps.unlike hb qb n1 r1 fun a z => .inl z, Reps.unlike hb qb n2 r2 fun a z => .inl z⟩
    rw [List.set_set] at L3
    have gj3 : (Γ.set i (Sl.mu p (.ex (HoleR C.K b (q.a.map enc) (q.c.map enc)))))[j]? = some .unk := by rw [List.getElem?_set_ne ne]; exact gj
    have nm : b ∉ muts (Γ.set i (Sl.mu p (.ex (HoleR C.K b (q.a.map enc) (q.c.map enc))))) := fun z => by
      obtain ⟨m, s, hm, e⟩ := mem_muts.mp z
      by_cases y : m = i
      · subst y
        rw [List.getElem?_set_self hil] at hm
        cases hm; cases e
        exact nX (L.mx p (mem_muts.mpr ⟨m, _, g, rfl⟩))
      · rw [List.getElem?_set_ne (Ne.symm y)] at hm
        exact nX (L.mx b (mem_muts.mpr ⟨m, s, hm, e⟩))
    obtain ⟨nd, mem⟩ := muts_set_new (o := ml q.b) gj3 nm L3.nd
    have hjl : j < σ.length := by rw [L.len]; exact hj
    refine h q b (fun a => X a ∨ a = b) (σ.set j (some (.ref b))) hk (hZ b zb) (fun z => nX (L.m0 b z)) ?_
    rw [← e]
    refine ⟨by rw [List.length_set]; exact L.len, fun m s hm => ?_, nd, fun a ha => (mem a ha).elim .inr (L3.mx a), L3.m0, L3.xd, L3.base, L3.dom, fun a ha => (mem a ha).elim (fun z => .inr (z ▸ hZ b zb)) (L3.own a), L3.tf⟩
    by_cases z : m = j
    · subst z
      rw [List.getElem?_set_self (List.getElem?_eq_some_iff.mp gj3).1] at hm
      cases hm
      exact ⟨List.getElem?_set_self hjl, us, hb, qb.flat⟩
    · rw [List.getElem?_set_ne (Ne.symm z)] at hm
      have := L3.at_ m s hm
      rwa [List.getElem?_set_ne (Ne.symm z)]
/-- the item is put back -/
theorem Lo.putBack {p b : Addr} {d1 d2 ds : List PyData} {i j : Nat} (L : Lo C X H σ Γ) (hx : ¬ C.X0 b) (gi : Γ[i]? = some (.mu p (.ex (HoleR C.K b d1 d2)))) (gj : Γ[j]? = some (.mu b (.lst ds))) (e : (Γ.set j .unk).set i (.mu p (.lst (d1 ++ .list ds :: d2))) = Γ') :
    Lo C (fun a => X a ∧ a ≠ b) H σ Γ' := by
  subst e
  have ne : i ≠ j := fun z => by subst z; rw [gi] at gj; cases gj
  have hjl : j < Γ.length := (List.getElem?_eq_some_iff.mp gj).1
  have L1 := L.freeze gj hx
  have hv := (L.at_ j _ gj).1
  obtain ⟨u, e1, r⟩ := L1.at_ j _ (List.getElem?_set_self hjl)
  rw [hv] at e1
  cases e1
  have L2 : Lo C (fun a => X a ∧ a ≠ b) H σ ((Γ.set j (.imm (.list ds))).set j .unk) := L1.resl (List.getElem?_set_self hjl) rfl fun _ _ => trivial
  rw [List.set_set] at L2
  refine L2.resl (i := i) (s := .mu p (.ex (HoleR C.K b d1 d2))) (by rw [List.getElem?_set_ne (Ne.symm ne)]; exact gi) rfl fun v ⟨e, _, v1, v2, h, r1, r2⟩ => ⟨e, _, h, r1.append (.cons r r2)⟩
theorem Lo.putB [Py α] {p b : Addr} {d1 d2 : List (List α)} {ds : List α} {i j : Nat} (L : Lo C X H σ Γ) (hx : ¬ C.X0 b) (gi : Γ[i]? = some (.mu p (.ex (HoleR C.K b (d1.map enc) (d2.map enc))))) (gj : Γ[j]? = some (.mu b (ml ds))) (e : (Γ.set j .unk).set i (.mu p (ml (d1 ++ ds :: d2))) = Γ') :
    Lo C (fun a => X a ∧ a ≠ b) H σ Γ' :=
  L.putBack hx gi gj (by rw [← e, ml, List.map_append, List.map_cons]; rfl)
end
def m__law_cell (a__law_script : (List Int)) (a__law_k : Int) : Option Int :=
 if (decide (a__law_k < (a__law_script.length : Int))) = true then
 ((ix a__law_script a__law_k).bind fun x1 =>
 some x1)
 else
 (some 0)
def m__law_bag (a__law_cell_here : Int) : Option (List Int) :=
 if (decide (1000000000000000000 ≤ a__law_cell_here)) = true then
 (some ([(a__law_cell_here % 1000000000000000000000000000000000000000000000000000000000000000000000000000000000000000000000000000000000000000000000000), (a__law_cell_here % 2147483647)]))
 else
 (some ([0, ((((a__law_cell_here % 2147483647) * 69621) + 4099) % 2147483647)]))
def m__law_draw (a__law_bag_here : (List Int)) (a__law_many : Int) : Option (Int × (List Int)) :=
 (ix a__law_bag_here 0).bind fun x1 =>
 if (decide (a__law_many ≤ x1)) = true then
 ((ix a__law_bag_here 0).bind fun x2 =>
 (modG x2 a__law_many).bind fun z1 =>
 (ix a__law_bag_here 0).bind fun x3 =>
 (divG x3 a__law_many).bind fun z2 =>
 (setI a__law_bag_here 0 z2).bind fun y1 =>
 some ((z1, y1)))
 else
 ((setI a__law_bag_here 0 0).bind fun y2 =>
 (ix y2 1).bind fun x4 =>
 (setI y2 1 ((((x4 * 48271) + 4099) % 2147483647))).bind fun y3 =>
 (ix y3 1).bind fun x5 =>
 (ix y3 1).bind fun x6 =>
 (mulG x5 (((x6 / 65536) + 7))).bind fun z3 =>
 (modG (((z3 % 2147483629) / 32)) a__law_many).bind fun z4 =>
 some ((z4, y3)))
def m__law_star (a__law_bag_here : (List Int)) (a__law_most : Int) (a__law_far : Int) : Option ((List (T2 Int Int)) × (List Int)) :=
 (some ((T6.mk ((T2.mk 5 0)) ((T2.mk 5 1)) ((T2.mk 5 2)) ((T2.mk 4 3)) ((T2.mk 3 4)) ((T2.mk 2 5))))).bind fun (spokes_1 : (T6 (T2 Int Int) (T2 Int Int) (T2 Int Int) (T2 Int Int) (T2 Int Int) (T2 Int Int))) =>
 (m__law_draw a__law_bag_here 8).bind fun z1 =>
 (some ((a__law_most - 3))).bind fun (left_1 : Int) =>
 (foldO (fun (x1 : Int) (s1 : ((List Int) × Int × (List (T2 Int Int)))) =>
 ((ix [spokes_1.a, spokes_1.b, spokes_1.c, spokes_1.d, spokes_1.e, spokes_1.f] ((x1 % 6))).bind fun x2 =>
 (rngOk ((x1 / 6))).bind fun _ =>
 (foldO (fun (x3 : Int) (s3 : (Int × Int)) =>
 (some (((-s3.2), s3.1)))) (rangeL 0 ((x1 / 6)).toNat) ((x2.a, x2.b))).bind fun (s4 : (Int × Int)) =>
 (m__law_draw s1.1 a__law_far).bind fun z2 =>
 (some ((1 + z2.1))).bind fun (long_1 : Int) =>
 (if (decide (0 < s1.2.1)) = true then
 ((m__law_draw z2.2 24).bind fun z4 =>
 some ((decide (z4.1 < a__law_most)), z4.2))
 else some (false, z2.2)).bind fun b1 =>
 (if (decide ((x1 % 8) = z1.1)) = true then
 ((mulG long_1 s4.1).bind fun z5 =>
 (mulG long_1 s4.2).bind fun z6 =>
 (lenOk (s1.2.2.length + 1)).bind fun _ =>
 some ((s1.2.1, (s1.2.2 ++ [(T2.mk z5 z6)]))))
 else
 ((if b1.1 = true then
 ((mulG long_1 s4.1).bind fun z7 =>
 (mulG long_1 s4.2).bind fun z8 =>
 (lenOk (s1.2.2.length + 1)).bind fun _ =>
 (some (s1.2.1 - 1)).bind fun (left_2 : Int) =>
 some ((left_2, (s1.2.2 ++ [(T2.mk z7 z8)]))))
 else
 (some ((s1.2.1, s1.2.2)))).bind fun (s7 : (Int × (List (T2 Int Int)))) =>
 some ((s7.1, s7.2)))).bind fun (s6 : (Int × (List (T2 Int Int)))) =>
 some ((b1.2, s6.1, s6.2)))) (rangeL 0 24) ((z1.2, left_1, ([] : (List (T2 Int Int)))))).bind fun (s2 : ((List Int) × Int × (List (T2 Int Int)))) =>
 some ((s2.2.2, s2.1))
def m__law_steps (a__law_bag_here : (List Int)) (a__law_far : Int) : Option ((List (T2 Int Int)) × (List Int)) :=
 (m__law_draw a__law_bag_here 11).bind fun z1 =>
 (some ((1 + z1.1))).bind fun (many_1 : Int) =>
 ((rngOk ((many_1 - 1))).bind fun _ => rngOk ((-1))).bind fun _ =>
 (foldO (fun (x1 : Int) (s1 : ((List Int) × (List (T2 Int Int)))) =>
 ((m__law_draw s1.1 a__law_far).bind fun z2 =>
 (some ((1 + z2.1))).bind fun (high_1 : Int) =>
 (ix s1.2 ((-1))).bind fun x2 =>
 (if (!decide (x2 = (T2.mk ((x1 + 1)) high_1))) = true then
 ((lenOk (s1.2.length + 1)).bind fun _ =>
 some ((s1.2 ++ [(T2.mk ((x1 + 1)) high_1)])))
 else
 (some s1.2)).bind fun (s3 : (List (T2 Int Int))) =>
 (lenOk (s3.length + 1)).bind fun _ =>
 some ((z2.2, (s3 ++ [(T2.mk x1 high_1)]))))) (downL ((many_1 - 1)) (((many_1 - 1)) - ((-1))).toNat) ((z1.2, [(T2.mk 0 0), (T2.mk many_1 0)]))).bind fun (s2 : ((List Int) × (List (T2 Int Int)))) =>
 some ((s2.2, s2.1))
def m__law_rings (a__law_bag_here : (List Int)) (a__law_far : Int) : Option ((List (List (T2 Int Int))) × (List Int)) :=
 (m__law_draw a__law_bag_here 8).bind fun z1 =>
 if (decide (z1.1 < 3)) = true then
 ((m__law_draw z1.2 22).bind fun z2 =>
 (m__law_star z2.2 ((3 + z2.1)) a__law_far).bind fun z3 =>
 some (([z3.1], z3.2)))
 else
 (if (decide (z1.1 = 3)) = true then
 ((m__law_steps z1.2 a__law_far).bind fun z4 =>
 some (([z4.1], z4.2)))
 else
 (if (decide (z1.1 = 4)) = true then
 (some ((([] : (List (List (T2 Int Int)))), z1.2)))
 else
 ((m__law_draw z1.2 4).bind fun z5 =>
 (m__law_star z5.2 ((3 + z5.1)) a__law_far).bind fun z6 =>
 (m__law_draw z6.2 8).bind fun z7 =>
 (some ((1 + z7.1))).bind fun (many_1 : Int) =>
 (loopW (ρ := Empty) (fun (s1 : ((List Int) × (List (List (T2 Int Int))) × Int × (List (T2 Int Int)))) =>
 (if ((decide ((s1.2.1.length : Int) < many_1)) && (decide ((s1.2.2.2.length : Int) ≤ s1.2.2.1))) = true then
 ((some ((many_1 - (s1.2.1.length : Int)))).bind fun (deep_1 : Int) =>
 (if (decide (z1.1 < 7)) = true then
 ((lenOk s1.2.2.2.length).bind fun _ =>
 (mapO (fun (x2 : (T2 Int Int)) =>
 ((mulG x2.a deep_1).bind fun z8 =>
 (mulG x2.b deep_1).bind fun z9 =>
 some ((T2.mk z8 z9)))) s1.2.2.2).bind fun ys1 =>
 (if (decide (((s1.2.1.length : Int) % 2) = 1)) = true then
 (some ys1.reverse)
 else
 (some ys1)).bind fun (s5 : (List (T2 Int Int))) =>
 some ((s1.1, s1.2.2.2, s5)))
 else
 ((lenOk s1.2.2.2.length).bind fun _ =>
 (mapO (fun (x3 : (T2 Int Int)) =>
 ((mulG ((40 * a__law_far)) deep_1).bind fun z10 =>
 some ((T2.mk ((x3.a + z10)) x3.b)))) s1.2.2.2).bind fun ys2 =>
 (m__law_draw s1.1 4).bind fun z11 =>
 (m__law_star z11.2 ((3 + z11.1)) a__law_far).bind fun z12 =>
 some ((z12.2, z12.1, ys2)))).bind fun (s3 : ((List Int) × (List (T2 Int Int)) × (List (T2 Int Int)))) =>
 (lenOk (s1.2.1.length + 1)).bind fun _ =>
 (some ((s1.2.2.1 - (s3.2.2.length : Int)))).bind fun (room_1 : Int) =>
 some (.nxt ((s3.1, (s1.2.1 ++ [s3.2.2]), room_1, s3.2.1))))
 else
 (some (.brk ((s1.1, s1.2.1, s1.2.2.1, s1.2.2.2)))))) (many_1.natAbs + 2) ((z7.2, ([] : (List (List (T2 Int Int)))), 24, z6.1))).bind fun o => o.out (fun (e : Empty) => e.elim) fun (s2 : ((List Int) × (List (List (T2 Int Int))) × Int × (List (T2 Int Int)))) =>
 some ((s2.2.1, s2.1)))))
def m__law_cloth (a__law_bag_here : (List Int)) : Option ((T2 (List (List (T2 Int Int))) Int) × (List Int)) :=
 (m__law_draw a__law_bag_here 3).bind fun z1 =>
 (some ((1 + z1.1))).bind fun (bottom_1 : Int) =>
 (m__law_draw z1.2 8).bind fun z2 =>
 (if (decide (z2.1 = 5)) = true then
 ((m__law_draw z2.2 1000000).bind fun z3 =>
 (some ((1 + z3.1))).bind fun (bottom_2 : Int) =>
 some ((z3.2, bottom_2, 1000000)))
 else
 (some ((z2.2, bottom_1, 6)))).bind fun (s1 : ((List Int) × Int × Int)) =>
 (m__law_rings s1.1 s1.2.2).bind fun z4 =>
 (foldO (fun (x1 : (List (T2 Int Int))) (s2 : ((List Int) × (List (List (T2 Int Int))))) =>
 ((m__law_draw s2.1 ((x1.length : Int))).bind fun z5 =>
 (lenOk (((slice x1 (some z5.1) none)).length + ((slice x1 none (some z5.1))).length)).bind fun _ =>
 (lenOk (s2.2.length + 1)).bind fun _ =>
 some ((z5.2, (s2.2 ++ [((slice x1 (some z5.1) none) ++ (slice x1 none (some z5.1)))]))))) z4.1 ((z4.2, ([] : (List (List (T2 Int Int))))))).bind fun (s3 : ((List Int) × (List (List (T2 Int Int))))) =>
 some (((T2.mk s3.2 s1.2.1), s3.1))
def m__law_measure (a__law_one : Int) (a__law_other : Int) : Option Int :=
 (some ((iabs a__law_one))).bind fun (one_1 : Int) =>
 (some ((iabs a__law_other))).bind fun (other_1 : Int) =>
 (loopW (ρ := Empty) (fun (s1 : (Int × Int)) =>
 (if (decide (0 < s1.2)) = true then
 ((modG s1.1 s1.2).bind fun z1 =>
 some (.nxt ((s1.2, z1))))
 else
 (some (.brk ((s1.1, s1.2)))))) (other_1.natAbs + 2) ((one_1, other_1))).bind fun o => o.out (fun (e : Empty) => e.elim) fun (s2 : (Int × Int)) =>
 some s2.1
def m__law_spot (a__law_x : Int) (a__law_y : Int) (a__law_bottom : Int) : Option (T3 Int Int Int) :=
 (m__law_measure a__law_x a__law_y).bind fun z1 =>
 (m__law_measure z1 a__law_bottom).bind fun z2 =>
 (divG a__law_x z2).bind fun z3 =>
 (divG a__law_y z2).bind fun z4 =>
 (divG a__law_bottom z2).bind fun z5 =>
 some ((T3.mk z3 z4 z5))
def m__law_told (a__law_cloth_here : (T2 (List (List (T2 Int Int))) Int)) : Option (List (List (T3 Int Int Int))) :=
 (lenOk a__law_cloth_here.a.length).bind fun _ =>
 (mapO (fun (x1 : (List (T2 Int Int))) =>
 ((lenOk x1.length).bind fun _ =>
 (mapO (fun (x2 : (T2 Int Int)) =>
 ((m__law_spot x2.a x2.b a__law_cloth_here.b).bind fun z1 =>
 some z1)) x1).bind fun ys2 =>
 some ys2)) a__law_cloth_here.a).bind fun ys1 =>
 some ys1
def m_greatest_divisor (a_a : Int) (a_b : Int) : Option Int :=
 (some ((iabs a_a))).bind fun (one_1 : Int) =>
 (some ((iabs a_b))).bind fun (other_1 : Int) =>
 (loopW (ρ := Empty) (fun (s1 : (Int × Int)) =>
 (if (decide (0 < s1.2)) = true then
 ((modG s1.1 s1.2).bind fun z1 =>
 some (.nxt ((s1.2, z1))))
 else
 (some (.brk ((s1.1, s1.2)))))) (other_1.natAbs + 2) ((one_1, other_1))).bind fun o => o.out (fun (e : Empty) => e.elim) fun (s2 : (Int × Int)) =>
 some s2.1
def m_point (a_a : Int) (a_b : Int) (a_n : Int) : Option (T3 Int Int Int) :=
 if (decide (a_n = 0)) = true then
 (none)
 else
 ((m_greatest_divisor a_a a_n).bind fun z1 =>
 (m_greatest_divisor z1 a_b).bind fun z2 =>
 (if (decide (a_n < 0)) = true then
 ((some ((-z2))).bind fun (divisor_1 : Int) =>
 some divisor_1)
 else
 (some z2)).bind fun (s1 : Int) =>
 (divG a_a s1).bind fun z3 =>
 (divG a_b s1).bind fun z4 =>
 (divG a_n s1).bind fun z5 =>
 some ((T3.mk z3 z4 z5)))
def m_step_to (a_p : (T3 Int Int Int)) (a_q : (T3 Int Int Int)) : Option (T3 Int Int Int) :=
 (mulG a_q.a a_p.c).bind fun z1 =>
 (mulG a_p.a a_q.c).bind fun z2 =>
 (mulG a_q.b a_p.c).bind fun z3 =>
 (mulG a_p.b a_q.c).bind fun z4 =>
 (mulG a_p.c a_q.c).bind fun z5 =>
 (m_point ((z1 - z2)) ((z3 - z4)) z5).bind fun z6 =>
 some z6
def m_common_of (a_one : Int) (a_other : Int) : Option Int :=
 (some ((iabs a_one))).bind fun (one_1 : Int) =>
 (some ((iabs a_other))).bind fun (other_1 : Int) =>
 (loopW (ρ := Empty) (fun (s1 : (Int × Int)) =>
 (if (decide (0 < s1.2)) = true then
 ((modG s1.1 s1.2).bind fun z1 =>
 some (.nxt ((s1.2, z1))))
 else
 (some (.brk ((s1.1, s1.2)))))) (other_1.natAbs + 2) ((one_1, other_1))).bind fun o => o.out (fun (e : Empty) => e.elim) fun (s2 : (Int × Int)) =>
 some s2.1
def m_ratio (a_top : Int) (a_bottom : Int) : Option (T2 Int Int) :=
 if (decide (a_bottom = 0)) = true then
 (none)
 else
 ((m_greatest_divisor a_top a_bottom).bind fun z1 =>
 (if (decide (a_bottom < 0)) = true then
 ((some ((-z1))).bind fun (divisor_1 : Int) =>
 some divisor_1)
 else
 (some z1)).bind fun (s1 : Int) =>
 (divG a_top s1).bind fun z2 =>
 (divG a_bottom s1).bind fun z3 =>
 some ((T2.mk z2 z3)))
def m_way_of (a_step : (T3 Int Int Int)) : Option (T2 (T2 Int Int) (T2 Int Int)) :=
 (m_common_of a_step.a a_step.b).bind fun z1 =>
 (if ((decide (a_step.b < 0)) || ((decide (a_step.b = 0)) && (decide (a_step.a < 0)))) = true then
 ((some ((-z1))).bind fun (often_1 : Int) =>
 some often_1)
 else
 (some z1)).bind fun (s1 : Int) =>
 (divG a_step.a s1).bind fun z2 =>
 (divG a_step.b s1).bind fun z3 =>
 (m_ratio s1 a_step.c).bind fun z4 =>
 some ((T2.mk ((T2.mk z2 z3)) z4))
def m_ways_of_sides (a_cloth : (List (List (T3 Int Int Int)))) : Option (List (T2 (T2 Int Int) (T2 Int Int))) :=
 (foldO (fun (x1 : (List (T3 Int Int Int))) (s1 : (List (T2 (T2 Int Int) (T2 Int Int)))) =>
 ((rngOk ((x1.length : Int))).bind fun _ =>
 (foldO (fun (x2 : Int) (s3 : (List (T2 (T2 Int Int) (T2 Int Int)))) =>
 ((ix x1 ((x2 - 1))).bind fun x3 =>
 (ix x1 x2).bind fun x4 =>
 (m_step_to x3 x4).bind fun z1 =>
 (m_way_of z1).bind fun z2 =>
 (lenOk (s3.length + 1)).bind fun _ =>
 some ((s3 ++ [z2])))) (rangeL 0 ((x1.length : Int)).toNat) s1).bind fun (s4 : (List (T2 (T2 Int Int) (T2 Int Int)))) =>
 some s4)) a_cloth (([] : (List (T2 (T2 Int Int) (T2 Int Int)))))).bind fun (s2 : (List (T2 (T2 Int Int) (T2 Int Int)))) =>
 some s2
def m_plus (a_one : (T2 Int Int)) (a_other : (T2 Int Int)) : Option (T2 Int Int) :=
 (mulG a_one.a a_other.b).bind fun z1 =>
 (mulG a_other.a a_one.b).bind fun z2 =>
 (mulG a_one.b a_other.b).bind fun z3 =>
 (m_ratio ((z1 + z2)) z3).bind fun z4 =>
 some z4
def m_mark_sums (a_cloth : (List (List (T3 Int Int Int)))) : Option (List ((T2 Int Int) × (T2 Int Int))) :=
 (m_ways_of_sides a_cloth).bind fun z1 =>
 (foldO (fun (x1 : (T2 (T2 Int Int) (T2 Int Int))) (s1 : (List ((T2 Int Int) × (T2 Int Int)))) =>
 ((m_plus (((dgetM s1 x1.a).getD ((T2.mk (0 : Int) (1 : Int))))) x1.b).bind fun z2 =>
 (lenOk (s1.length + 1)).bind fun _ =>
 some ((dputM s1 x1.a z2)))) z1 (([] : (List ((T2 Int Int) × (T2 Int Int)))))).bind fun (s2 : (List ((T2 Int Int) × (T2 Int Int)))) =>
 some s2
def m_marks (a_cloth : (List (List (T3 Int Int Int)))) : Option (List (T2 (T2 Int Int) (T2 Int Int))) :=
 (m_mark_sums a_cloth).bind fun z1 =>
 (lenOk (((sortP (List.map (fun e => e.1) z1))).length)).bind fun _ =>
 (filO (fun (x1 : (T2 Int Int)) =>
 ((dgetM z1 x1).bind fun x2 =>
 if (!decide (x2 = (T2.mk (0 : Int) (1 : Int)))) = true then
 ((dgetM z1 x1).bind fun x3 =>
 some (some ((T2.mk x1 x3))))
 else
 (some none))) (sortP (List.map (fun e => e.1) z1))).bind fun ys1 =>
 some ys1
def m__law_moved (a__law_cloth_here : (T2 (List (List (T2 Int Int))) Int)) (a__law_often : Int) (a__law_x : Int) (a__law_y : Int) : Option (T2 (List (List (T2 Int Int))) Int) :=
 (lenOk a__law_cloth_here.a.length).bind fun _ =>
 (mapO (fun (x1 : (List (T2 Int Int))) =>
 ((lenOk x1.length).bind fun _ =>
 (mapO (fun (x2 : (T2 Int Int)) =>
 ((mulG a__law_often x2.a).bind fun z1 =>
 (mulG a__law_often x2.b).bind fun z2 =>
 some ((T2.mk ((z1 + a__law_x)) ((z2 + a__law_y)))))) x1).bind fun ys2 =>
 some ys2)) a__law_cloth_here.a).bind fun ys1 =>
 some ((T2.mk ys1 a__law_cloth_here.b))
def m__law_come_to_nothing (a__law_some : (List (T2 (T2 Int Int) (T2 Int Int)))) : Option Bool :=
 (foldO (fun (x1 : (T2 (T2 Int Int) (T2 Int Int))) (s1 : Int) =>
 ((mulG s1 x1.b.b).bind fun z1 =>
 some z1)) a__law_some 1).bind fun (s2 : Int) =>
 (lenOk a__law_some.length).bind fun _ =>
 (mapO (fun (x2 : (T2 (T2 Int Int) (T2 Int Int))) =>
 ((mulG x2.a.a x2.b.a).bind fun z2 =>
 (divG s2 x2.b.b).bind fun z3 =>
 (mulG z2 z3).bind fun z4 =>
 some z4)) a__law_some).bind fun ys1 =>
 (lenOk a__law_some.length).bind fun _ =>
 (mapO (fun (x3 : (T2 (T2 Int Int) (T2 Int Int))) =>
 ((mulG x3.a.b x3.b.a).bind fun z5 =>
 (divG s2 x3.b.b).bind fun z6 =>
 (mulG z5 z6).bind fun z7 =>
 some z7)) a__law_some).bind fun ys2 =>
 some (((decide (ys1.sum = 0)) && (decide (ys2.sum = 0))))
def m__law_tilted (a__law_cloth_here : (T2 (List (List (T2 Int Int))) Int)) (a__law_top : Int) (a__law_under_it : Int) : Option (T2 (List (List (T2 Int Int))) Int) :=
 (foldO (fun (x1 : (List (T2 Int Int))) (s1 : (List (List (T2 Int Int)))) =>
 ((lenOk x1.length).bind fun _ =>
 (mapO (fun (x2 : (T2 Int Int)) =>
 ((mulG x2.a a__law_under_it).bind fun z1 =>
 (mulG x2.b a__law_under_it).bind fun z2 =>
 (mulG x2.a a__law_top).bind fun z3 =>
 some ((T2.mk z1 ((z2 + z3)))))) x1).bind fun ys1 =>
 (lenOk (s1.length + 1)).bind fun _ =>
 some ((s1 ++ [ys1])))) a__law_cloth_here.a (([] : (List (List (T2 Int Int)))))).bind fun (s2 : (List (List (T2 Int Int)))) =>
 (mulG a__law_cloth_here.b a__law_under_it).bind fun z4 =>
 some ((T2.mk s2 z4))
def m__law_way_tilted (a__law_way : (T2 Int Int)) (a__law_top : Int) (a__law_under_it : Int) : Option (T2 (T2 Int Int) Int) :=
 (mulG a__law_way.a a__law_under_it).bind fun z1 =>
 (mulG a__law_way.b a__law_under_it).bind fun z2 =>
 (mulG a__law_way.a a__law_top).bind fun z3 =>
 (some ((z2 + z3))).bind fun (y_1 : Int) =>
 (m__law_measure z1 y_1).bind fun z4 =>
 (if ((decide (y_1 < 0)) || ((decide (y_1 = 0)) && (decide (z1 < 0)))) = true then
 ((some ((-z4))).bind fun (often_1 : Int) =>
 some often_1)
 else
 (some z4)).bind fun (s1 : Int) =>
 (divG z1 s1).bind fun z5 =>
 (divG y_1 s1).bind fun z6 =>
 some ((T2.mk ((T2.mk z5 z6)) s1))
def m__law_low (a__law_top : Int) (a__law_bottom : Int) : Option (T2 Int Int) :=
 (m__law_measure a__law_top a__law_bottom).bind fun z1 =>
 (if (decide (a__law_bottom < 0)) = true then
 ((some ((-z1))).bind fun (often_1 : Int) =>
 some often_1)
 else
 (some z1)).bind fun (s1 : Int) =>
 (divG a__law_top s1).bind fun z2 =>
 (divG a__law_bottom s1).bind fun z3 =>
 some ((T2.mk z2 z3))
def m__law_due (a__law_some : (List (T2 (T2 Int Int) (T2 Int Int)))) (a__law_top : Int) (a__law_under_it : Int) : Option (List (T2 (T2 Int Int) (T2 Int Int))) :=
 (foldO (fun (x1 : (T2 (T2 Int Int) (T2 Int Int))) (s1 : (List (T2 (T2 Int Int) (T2 Int Int)))) =>
 ((m__law_way_tilted x1.a a__law_top a__law_under_it).bind fun z1 =>
 (mulG x1.b.a z1.b).bind fun z2 =>
 (mulG x1.b.b a__law_under_it).bind fun z3 =>
 (m__law_low z2 z3).bind fun z4 =>
 (lenOk (s1.length + 1)).bind fun _ =>
 some ((s1 ++ [(T2.mk z1.a z4)])))) a__law_some (([] : (List (T2 (T2 Int Int) (T2 Int Int)))))).bind fun (s2 : (List (T2 (T2 Int Int) (T2 Int Int)))) =>
 some ((sortQ s2))
def m__law_one_more (a__law_cloth_here : (T2 (List (List (T2 Int Int))) Int)) (a__law_bag_here : (List Int)) : Option ((T2 (List (List (T2 Int Int))) Int) × (List Int)) :=
 (lenOk a__law_cloth_here.a.length).bind fun _ =>
 (mapO (fun (x1 : (List (T2 Int Int))) =>
 ((lenOk x1.length).bind fun _ =>
 (mapO (fun (x2 : (T2 Int Int)) =>
 (some ((T2.mk ((3 * x2.a)) ((3 * x2.b)))))) x1).bind fun ys2 =>
 some ys2)) a__law_cloth_here.a).bind fun ys1 =>
 if (decide (0 < (ys1.length : Int))) = true then
 ((m__law_draw a__law_bag_here ((ys1.length : Int))).bind fun z1 =>
 (takeO ys1 z1.1).bind fun q1 =>
 (m__law_draw z1.2 ((q1.b.length : Int))).bind fun z2 =>
 (ix q1.b z2.1).bind fun x3 =>
 (ix q1.b ((z2.1 - 1))).bind fun x4 =>
 (some ((((2 * x3.a) + x4.a) / 3))).bind fun (x_1 : Int) =>
 (ix q1.b z2.1).bind fun x5 =>
 (ix q1.b ((z2.1 - 1))).bind fun x6 =>
 (some ((((2 * x5.b) + x6.b) / 3))).bind fun (y_1 : Int) =>
 (insO q1.b z2.1 ((T2.mk x_1 y_1))).bind fun y3 =>
 some (((T2.mk (((q1.a ++ y3 :: q1.c)).reverse) ((3 * a__law_cloth_here.b))), z2.2)))
 else
 (some (((T2.mk ys1.reverse ((3 * a__law_cloth_here.b))), a__law_bag_here)))
def m__law_right (a__law_bag_here : (List Int)) (a__law_cloth_here : (T2 (List (List (T2 Int Int))) Int)) : Option (Bool × (List Int)) :=
 (m__law_told a__law_cloth_here).bind fun z1 =>
 (m_marks z1).bind fun z2 =>
 (m__law_draw a__law_bag_here ((2 * 1000000000))).bind fun z3 =>
 (some ((z3.1 - 1000000000))).bind fun (x_1 : Int) =>
 (m__law_draw z3.2 ((2 * 1000000000))).bind fun z4 =>
 (some ((z4.1 - 1000000000))).bind fun (y_1 : Int) =>
 (m__law_moved a__law_cloth_here 1 x_1 y_1).bind fun z5 =>
 (m__law_told z5).bind fun z6 =>
 (m_marks z6).bind fun z7 =>
 if (!decide (z7 = z2)) = true then
 (some ((false, z4.2)))
 else
 ((m__law_come_to_nothing z2).bind fun z8 =>
 if (!z8) = true then
 (some ((false, z4.2)))
 else
 ((lenOk z2.length).bind fun _ =>
 (mapO (fun (x1 : (T2 (T2 Int Int) (T2 Int Int))) =>
 (some ((T2.mk x1.a ((T2.mk ((-x1.b.a)) x1.b.b)))))) z2).bind fun ys1 =>
 (m__law_moved a__law_cloth_here ((-1)) x_1 y_1).bind fun z9 =>
 (m__law_told z9).bind fun z10 =>
 (m_marks z10).bind fun z11 =>
 if (!decide (z11 = ys1)) = true then
 (some ((false, z4.2)))
 else
 ((m__law_draw z4.2 61).bind fun z12 =>
 (some ((z12.1 - 30))).bind fun (top_1 : Int) =>
 (m__law_draw z12.2 12).bind fun z13 =>
 (some ((1 + z13.1))).bind fun (under_it_1 : Int) =>
 (m__law_tilted a__law_cloth_here top_1 under_it_1).bind fun z14 =>
 (m__law_told z14).bind fun z15 =>
 (m_marks z15).bind fun z16 =>
 (m__law_due z2 top_1 under_it_1).bind fun z17 =>
 if (!decide (z16 = z17)) = true then
 (some ((false, z13.2)))
 else
 ((lenOk a__law_cloth_here.a.length).bind fun _ =>
 (mapO (fun (x2 : (List (T2 Int Int))) =>
 (some ((x2.length : Int)))) a__law_cloth_here.a).bind fun ys2 =>
 if (decide (ys2.sum < 24)) = true then
 ((m__law_one_more a__law_cloth_here z13.2).bind fun z18 =>
 (m__law_told z18.1).bind fun z19 =>
 (m_marks z19).bind fun z20 =>
 some (((decide (z20 = z2)), z18.2)))
 else
 (some ((true, z13.2)))))))
def m_law (a__law_script : (List Int)) : Option Bool :=
 (m__law_cell a__law_script 0).bind fun z1 =>
 (lenOk (([z1]).length + ((slice a__law_script (some 1) (some 6))).length)).bind fun _ =>
 (loopL (ρ := Bool) (fun (x1 : Int) (s1 : Unit) =>
 ((m__law_bag x1).bind fun z2 =>
 (m__law_cloth z2).bind fun z3 =>
 (m__law_right z3.2 z3.1).bind fun z4 =>
 if (!z4.1) = true then
 (some (.ret false))
 else
 (some (.nxt (()))))) ([z1] ++ (slice a__law_script (some 1) (some 6))) (())).bind fun o => o.out (fun r => some r) fun (s2 : Unit) =>
 some true
/-! ### plain: loops, sizes -/
theorem foldO_inv {α τ : Type} {f : α → τ → Option τ} (I : Nat → τ → Prop) : ∀ {xs : List α} {s : τ} (k : Nat), (∀ j x s, I j s → ∃ s', f x s = some s' ∧ I (j + 1) s') → I k s → ∃ s', foldO f xs s = some s' ∧ I (k + xs.length) s'
  | [], s, k, _, h => ⟨s, rfl, h⟩
  | x :: xs, s, k, hf, h => by
    obtain ⟨s1, e1, h1⟩ := hf k x s h
    obtain ⟨s2, e2, h2⟩ := foldO_inv I (xs := xs) (k + 1) hf h1
    refine ⟨s2, ?_, by rw [List.length_cons, Nat.add_comm xs.length 1, ← Nat.add_assoc]; exact h2⟩
    show (f x s).bind _ = _
    rw [e1]; exact e2
/-- .. without a count -/
theorem foldO_inv' {α τ : Type} {f : α → τ → Option τ} (I : τ → Prop) {xs : List α} {s : τ} (hf : ∀ x s, I s → ∃ s', f x s = some s' ∧ I s') (h : I s) : ∃ s', foldO f xs s = some s' ∧ I s' :=
  foldO_inv (fun _ => I) 0 (fun _ => hf) h
/-- a loop that is never left early -/
theorem loopL_inv {α τ ρ : Type} {f : α → τ → Option (Lp τ ρ)} (I : τ → Prop) : ∀ {xs : List α} {s : τ}, (∀ x s, x ∈ xs → I s → ∃ s', f x s = some (.nxt s') ∧ I s') → I s → ∃ s', loopL f xs s = some (.nxt s') ∧ I s'
  | [], s, _, h => ⟨s, rfl, h⟩
  | x :: xs, s, hf, h => by
    obtain ⟨s1, e1, h1⟩ := hf x s List.mem_cons_self h
    obtain ⟨s2, e2, h2⟩ := loopL_inv I (xs := xs) (fun y s hy => hf y s (List.mem_cons_of_mem _ hy)) h1
    refine ⟨s2, ?_, h2⟩
    show (f x s).bind _ = _
    rw [e1]; exact e2
theorem log2_le {a n : Nat} (h : a < 2 ^ n) : a.log2 ≤ n := by
  by_cases z : a = 0
  · subst z; simp
  · exact Nat.le_of_lt ((Nat.log2_lt z).mpr h)
theorem mulG_ok (n m : Nat) {a b : Int} (ha : a.natAbs < 2 ^ n) (hb : b.natAbs < 2 ^ m) (h : n + m < 1000000) : mulG a b = some (a * b) := by
  unfold mulG
  rw [if_pos (Nat.lt_of_le_of_lt (Nat.add_le_add (log2_le ha) (log2_le hb)) h)]
theorem modG_pos {a b : Int} (h : 0 < b) : modG a b = some (a % b) := by
  unfold modG
  rw [if_pos (by omega), Int.fmod_eq_emod_of_nonneg _ (by omega)]
theorem divG_pos (n : Nat) {a b : Int} (h : 0 < b) (hb : b.natAbs < 2 ^ n) (hn : n < 9000) : divG a b = some (a / b) := by
  unfold divG
  rw [if_pos ⟨by omega, Nat.lt_of_le_of_lt (log2_le hb) hn⟩, Int.fdiv_eq_ediv_of_nonneg _ (by omega)]
theorem lenOk_ok {n : Nat} (h : n ≤ 16777216) : lenOk n = some () := by unfold lenOk; rw [if_pos h]
theorem slice_len {α : Type} (xs : List α) (lo hi : Option Int) : (slice xs lo hi).length ≤ xs.length := by
  unfold slice
  rw [List.length_take, List.length_drop]
  omega
theorem ix_lt {α : Type} {xs : List α} {k : Nat} (h : k < xs.length) : ix xs (k : Int) = some xs[k] := by
  unfold ix atI ixN
  have h1 : ¬ ((k : Int) < 0) := by omega
  simp [h]
theorem iabs_eq (i : Int) : iabs i = (i.natAbs : Int) := by unfold iabs; split <;> omega
theorem loopL_bind {α τ ρ β : Type} {f : α → τ → Option (Lp τ ρ)} {xs : List α} {s : τ} {g : Lp τ ρ → Option β} {v : β} (I : τ → Prop) (hf : ∀ x s, x ∈ xs → I s → ∃ s', f x s = some (.nxt s') ∧ I s') (h0 : I s) (hg : ∀ s', I s' → g (.nxt s') = some v) : (loopL f xs s).bind g = some v := by
  obtain ⟨s1, e, h⟩ := loopL_inv I hf h0
  rw [e]; exact hg s1 h
theorem foldO_bind {α τ β : Type} {f : α → τ → Option τ} {xs : List α} {s : τ} {g : τ → Option β} {v : β} (I : τ → Prop) (hf : ∀ x s, I s → ∃ s', f x s = some s' ∧ I s') (h0 : I s) (hg : ∀ s', I s' → g s' = some v) : (foldO f xs s).bind g = some v := by
  obtain ⟨s1, e, h⟩ := foldO_inv' I hf h0
  rw [e]; exact hg s1 h
/-! ### plain: the bag -/
def Bag (xs : List Int) : Prop := ∃ a b : Int, xs = [a, b] ∧ 0 ≤ a ∧ 0 ≤ b ∧ b < 2147483647
theorem draw_ok {xs : List Int} {many : Int} (h : Bag xs) (hm : 0 < many) (hM : many < 1606938044258990275541962092341162602522202993782792835301376) : ∃ r ys, m__law_draw xs many = some (r, ys) ∧ Bag ys ∧ 0 ≤ r ∧ r < many := by
  obtain ⟨a, b, rfl, h1, h2, h3⟩ := h
  unfold m__law_draw
  have i0 : ∀ x y : Int, ix [x, y] 0 = some x := fun _ _ => rfl
  have i1 : ∀ x y : Int, ix [x, y] 1 = some y := fun _ _ => rfl
  have s0 : ∀ x y z : Int, setI [x, y] 0 z = some [z, y] := fun _ _ _ => rfl
  have s1 : ∀ x y z : Int, setI [x, y] 1 z = some [x, z] := fun _ _ _ => rfl
  simp only [i0, i1, s0, s1, Option.bind_some]
  by_cases z : many ≤ a
  · rw [if_pos (by simpa using z), modG_pos hm, divG_pos 200 hm (by omega) (by decide)]
    exact ⟨_, _, rfl, ⟨_, _, rfl, Int.ediv_nonneg h1 (by omega), h2, h3⟩, Int.emod_nonneg _ (by omega), Int.emod_lt_of_pos _ hm⟩
  · rw [if_neg (by simpa using z)]
    have e1 : 0 ≤ (b * 48271 + 4099) % 2147483647 := Int.emod_nonneg _ (by decide)
    have e2 : (b * 48271 + 4099) % 2147483647 < 2147483647 := Int.emod_lt_of_pos _ (by decide)
    rw [mulG_ok 64 64 (by omega) (by omega) (by decide)]
    simp only [Option.bind_some]
    rw [modG_pos hm]
    exact ⟨_, _, rfl, ⟨_, _, rfl, Int.le_refl 0, e1, e2⟩, Int.emod_nonneg _ (by omega), Int.emod_lt_of_pos _ hm⟩
theorem bag_ok (n : Int) : ∃ xs, m__law_bag n = some xs ∧ Bag xs := by
  unfold m__law_bag
  by_cases z : 1000000000000000000 ≤ n
  · rw [if_pos (by simpa using z)]
    exact ⟨_, rfl, _, _, rfl, by omega, by omega, by omega⟩
  · rw [if_neg (by simpa using z)]
    exact ⟨_, rfl, _, _, rfl, by omega, by omega, by omega⟩
theorem gcd_loop {β : Type} : ∀ (n : Nat) (a b : Int), 0 ≤ a → 0 ≤ b → b.natAbs < n →
    loopW (ρ := β) (fun (s : Int × Int) => if (decide (0 < s.2)) = true then ((modG s.1 s.2).bind fun z => some (.nxt (s.2, z))) else (some (.brk (s.1, s.2)))) n (a, b) = some (.brk ((Int.gcd a b : Int), 0))
  | 0, a, b, _, _, h => by omega
  | n + 1, a, b, ha, hb, h => by
    unfold loopW
    by_cases z : 0 < b
    · have h1 := Int.emod_nonneg a (show b ≠ 0 by omega)
      have h2 := Int.emod_lt_of_pos a z
      rw [if_pos (by simpa using z), modG_pos z]
      simp only [Option.bind_some]
      rw [gcd_loop n b (a % b) (by omega) h1 (by omega)]
      congr 4
      rw [Int.gcd_comm, Int.emod_def, Int.gcd_comm]
      rw [show a - b * (a / b) = a + b * (-(a / b)) by rw [Int.mul_neg, Int.sub_eq_add_neg]]
      rw [Int.gcd_add_mul_left_right, Int.gcd_comm]
    · have e : b = 0 := by omega
      subst e
      rw [if_neg (by simp)]
      simp only [Option.bind_some]
      rw [Int.gcd_zero_right]
      congr 3
      omega
theorem gcd_pos {a b : Int} (h : 0 < b) : (0 : Int) < (Int.gcd a b : Int) := by
  have := Int.gcd_pos_of_ne_zero_right (a := a) (b := b) (by omega)
  omega
theorem gcd_le {a b : Int} (h : 0 < b) : (Int.gcd a b : Int) ≤ b := Int.le_of_dvd h (Int.gcd_dvd_right a b)
/-- lowest terms -/
structure Low (t b : Int) (r : T2 Int Int) : Prop where
  pos : 0 < r.b
  le : r.b ≤ b
  abs : r.a.natAbs ≤ t.natAbs
  eq : r.a * b = t * r.b
  one : Int.gcd r.a r.b = 1
theorem low_mk {t b : Int} (h : 0 < b) : Low t b ⟨t / (Int.gcd t b : Int), b / (Int.gcd t b : Int)⟩ := by
  have hg := gcd_pos (a := t) h
  have h1 : (Int.gcd t b : Int) * (t / (Int.gcd t b : Int)) = t := Int.mul_ediv_cancel' (Int.gcd_dvd_left t b)
  have h2 : (Int.gcd t b : Int) * (b / (Int.gcd t b : Int)) = b := Int.mul_ediv_cancel' (Int.gcd_dvd_right t b)
  have hp : 0 < b / (Int.gcd t b : Int) := by
    rcases Int.lt_trichotomy (b / (Int.gcd t b : Int)) 0 with z | z | z
    · have := Int.mul_neg_of_pos_of_neg hg z; omega
    · rw [z, Int.mul_zero] at h2; omega
    · exact z
  refine ⟨hp, Int.ediv_le_self _ (by omega), ?_, ?_, ?_⟩
  · exact Int.natAbs_ediv_le_natAbs _ _
  · show t / _ * b = t * (b / _)
    generalize hG : (Int.gcd t b : Int) = g at *
    generalize hx : t / g = x at *
    generalize hy : b / g = y at *
    rw [← h1, ← h2]
    rw [← Int.mul_assoc, Int.mul_comm x g]
  · show Int.gcd (t / _) (b / _) = 1
    exact Int.gcd_ediv_gcd_ediv_gcd (by omega)
/-! ### plain: sizes -/
theorem pow_le {a n m : Nat} (h : a < 2 ^ n) (hn : n ≤ m) : a < 2 ^ m := Nat.lt_of_lt_of_le h (Nat.pow_le_pow_right (by decide) hn)
theorem sz_mul {a b : Int} {n m : Nat} (ha : a.natAbs < 2 ^ n) (hb : b.natAbs < 2 ^ m) : (a * b).natAbs < 2 ^ (n + m) := by
  rw [Int.natAbs_mul, Nat.pow_add]
  exact Nat.mul_lt_mul'' ha hb
theorem sz_add {a b : Int} {n : Nat} (ha : a.natAbs < 2 ^ n) (hb : b.natAbs < 2 ^ n) : (a + b).natAbs < 2 ^ (n + 1) := by
  rw [Nat.pow_succ]; omega
theorem sz_sub {a b : Int} {n : Nat} (ha : a.natAbs < 2 ^ n) (hb : b.natAbs < 2 ^ n) : (a - b).natAbs < 2 ^ (n + 1) := by
  rw [Nat.pow_succ]; omega
/-! ### plain: ratios -/
structure Rt (n : Nat) (r : T2 Int Int) : Prop where
  pos : 0 < r.b
  sa : r.a.natAbs < 2 ^ n
  sb : r.b.natAbs < 2 ^ n
  one : Int.gcd r.a r.b = 1
theorem Rt.mono {n m : Nat} {r : T2 Int Int} (h : Rt n r) (hn : n ≤ m) : Rt m r := ⟨h.pos, pow_le h.sa hn, pow_le h.sb hn, h.one⟩
theorem Low.rt {t b : Int} {r : T2 Int Int} {n : Nat} (w : Low t b r) (ht : t.natAbs < 2 ^ n) (hb : b.natAbs < 2 ^ n) : Rt n r :=
  ⟨w.pos, Nat.lt_of_le_of_lt w.abs ht, Nat.lt_of_le_of_lt (by have := w.pos; have := w.le; omega) hb, w.one⟩
theorem gcd_dvd {a b d : Int} (h : b ∣ a * d) (g : Int.gcd a b = 1) : b ∣ d := by
  rw [← Int.natAbs_dvd_natAbs, Int.natAbs_mul] at h
  rw [← Int.natAbs_dvd_natAbs]
  exact Nat.Coprime.dvd_of_dvd_mul_left (by rw [Nat.Coprime, Nat.gcd_comm]; exact g) h
theorem rt_same {r q : T2 Int Int} (h1 : 0 < r.b) (h2 : 0 < q.b) (g1 : Int.gcd r.a r.b = 1) (g2 : Int.gcd q.a q.b = 1) (e : r.a * q.b = q.a * r.b) : r = q := by
  obtain ⟨a, b⟩ := r
  obtain ⟨c, d⟩ := q
  simp only at *
  have d1 : b ∣ d := by
    have : b ∣ a * d := ⟨c, by rw [e, Int.mul_comm]⟩
    exact gcd_dvd this g1
  have d2 : d ∣ b := by
    have : d ∣ c * b := ⟨a, by rw [← e, Int.mul_comm]⟩
    exact gcd_dvd this g2
  have l1 := Int.le_of_dvd h2 d1
  have l2 := Int.le_of_dvd h1 d2
  have eb : b = d := by omega
  subst eb
  have : a = c := Int.eq_of_mul_eq_mul_right (by omega) e
  rw [this]
theorem Low.is {t b : Int} {r q : T2 Int Int} {n : Nat} (w : Low t b r) (hb : 0 < b) (h : Rt n q) (e : q.a * b = t * q.b) : r = q := by
  refine rt_same w.pos h.pos w.one h.one ?_
  have h1 := w.eq
  refine Int.eq_of_mul_eq_mul_right (show b ≠ 0 by omega) ?_
  grind
theorem divG_mul {u s : Int} (n : Nat) (h : s ≠ 0) (hb : s.natAbs < 2 ^ n) (hn : n < 9000) : divG (u * s) s = some u := by
  unfold divG
  rw [if_pos ⟨h, Nat.lt_of_le_of_lt (log2_le hb) hn⟩, Int.mul_fdiv_cancel _ h]
theorem pos_l {v s : Int} (hs : 0 < s) (h : 0 < v * s) : 0 < v := by
  rcases Int.lt_or_le 0 v with z | z
  · exact z
  · have := Int.mul_le_mul_of_nonneg_right z (Int.le_of_lt hs)
    rw [Int.zero_mul] at this; omega
/-! ### plain: points -/
def g3 (a b n : Int) : Nat := Int.gcd (Int.gcd a n : Int) b
theorem g3_pos {a b n : Int} (h : n ≠ 0) : 0 < g3 a b n := by
  unfold g3
  have := Int.gcd_pos_of_ne_zero_right (a := a) (b := n) h
  exact Int.gcd_pos_of_ne_zero_left _ (by omega)
theorem g3_a {a b n : Int} : (g3 a b n : Int) ∣ a := Int.dvd_trans (Int.gcd_dvd_left _ _) (Int.gcd_dvd_left _ _)
theorem g3_n {a b n : Int} : (g3 a b n : Int) ∣ n := Int.dvd_trans (Int.gcd_dvd_left _ _) (Int.gcd_dvd_right _ _)
theorem g3_b {a b n : Int} : (g3 a b n : Int) ∣ b := Int.gcd_dvd_right _ _
theorem g3_le {a b n : Int} (h : 0 < n) : (g3 a b n : Int) ≤ n := Int.le_of_dvd h g3_n
theorem g3_mul (k a b n : Int) : g3 (k * a) (k * b) (k * n) = k.natAbs * g3 a b n := by
  unfold g3
  rw [Int.gcd_mul_left, Int.natCast_mul]
  rcases Int.natAbs_eq k with e | e
  · rw [← e, Int.gcd_mul_left]
  · have : (k.natAbs : Int) = -k := by omega
    rw [this, Int.neg_mul, Int.gcd_comm, Int.gcd_neg, Int.gcd_comm, Int.gcd_mul_left]
theorem g3_dvd {a b n d x : Int} (h : g3 a b n = 1) (ha : d ∣ a * x) (hb : d ∣ b * x) (hn : d ∣ n * x) : d ∣ x := by
  have h1 : g3 (x * a) (x * b) (x * n) = x.natAbs := by rw [g3_mul, h, Nat.mul_one]
  have h2 : d ∣ (g3 (x * a) (x * b) (x * n) : Int) := by
    unfold g3
    exact Int.dvd_coe_gcd (Int.dvd_coe_gcd (by rw [Int.mul_comm]; exact ha) (by rw [Int.mul_comm]; exact hn)) (by rw [Int.mul_comm]; exact hb)
  rw [h1] at h2
  exact Int.dvd_natAbs.mp h2
structure Low3 (a b n : Int) (r : T3 Int Int Int) : Prop where
  pos : 0 < r.c
  le : r.c ≤ n
  sa : r.a.natAbs ≤ a.natAbs
  sb : r.b.natAbs ≤ b.natAbs
  ea : r.a * n = a * r.c
  eb : r.b * n = b * r.c
  one : g3 r.a r.b r.c = 1
structure Pt (n : Nat) (r : T3 Int Int Int) : Prop where
  pos : 0 < r.c
  sa : r.a.natAbs < 2 ^ n
  sb : r.b.natAbs < 2 ^ n
  sc : r.c.natAbs < 2 ^ n
  one : g3 r.a r.b r.c = 1
theorem Pt.mono {n m : Nat} {r : T3 Int Int Int} (h : Pt n r) (hn : n ≤ m) : Pt m r := ⟨h.pos, pow_le h.sa hn, pow_le h.sb hn, pow_le h.sc hn, h.one⟩
theorem Low3.pt {a b n : Int} {r : T3 Int Int Int} {k : Nat} (w : Low3 a b n r) (ha : a.natAbs < 2 ^ k) (hb : b.natAbs < 2 ^ k) (hn : n.natAbs < 2 ^ k) : Pt k r :=
  ⟨w.pos, Nat.lt_of_le_of_lt w.sa ha, Nat.lt_of_le_of_lt w.sb hb, Nat.lt_of_le_of_lt (by have := w.pos; have := w.le; omega) hn, w.one⟩
theorem low3_mk {a b n : Int} (h : 0 < n) : Low3 a b n ⟨a / (g3 a b n : Int), b / (g3 a b n : Int), n / (g3 a b n : Int)⟩ := by
  have hg : (0 : Int) < (g3 a b n : Int) := by have := g3_pos (a := a) (b := b) (n := n) (by omega); omega
  have h1 : (g3 a b n : Int) * (a / (g3 a b n : Int)) = a := Int.mul_ediv_cancel' g3_a
  have h2 : (g3 a b n : Int) * (b / (g3 a b n : Int)) = b := Int.mul_ediv_cancel' g3_b
  have h3 : (g3 a b n : Int) * (n / (g3 a b n : Int)) = n := Int.mul_ediv_cancel' g3_n
  have hp : 0 < n / (g3 a b n : Int) := by
    rcases Int.lt_trichotomy (n / (g3 a b n : Int)) 0 with z | z | z
    · have := Int.mul_neg_of_pos_of_neg hg z; omega
    · rw [z, Int.mul_zero] at h3; omega
    · exact z
  have h4 := g3_mul (g3 a b n : Int) (a / (g3 a b n : Int)) (b / (g3 a b n : Int)) (n / (g3 a b n : Int))
  rw [h1, h2, h3] at h4
  have h5 : g3 (a / (g3 a b n : Int)) (b / (g3 a b n : Int)) (n / (g3 a b n : Int)) = 1 := by
    have e : ((g3 a b n : Nat) : Int).natAbs = g3 a b n := Int.natAbs_natCast _
    rw [e] at h4
    exact Nat.eq_of_mul_eq_mul_left (show 0 < g3 a b n by omega) (by rw [Nat.mul_one]; exact h4.symm)
  refine ⟨hp, Int.ediv_le_self _ (by omega), Int.natAbs_ediv_le_natAbs _ _, Int.natAbs_ediv_le_natAbs _ _, ?_, ?_, h5⟩
  · show a / _ * n = a * (n / _)
    generalize hG : (g3 a b n : Int) = g at *
    generalize hx : a / g = x at *
    generalize hy : n / g = y at *
    rw [← h1, ← h3]; grind
  · show b / _ * n = b * (n / _)
    generalize hG : (g3 a b n : Int) = g at *
    generalize hx : b / g = x at *
    generalize hy : n / g = y at *
    rw [← h2, ← h3]; grind
theorem pt_same {p q : T3 Int Int Int} (h1 : 0 < p.c) (h2 : 0 < q.c) (g1 : g3 p.a p.b p.c = 1) (g2 : g3 q.a q.b q.c = 1) (ea : p.a * q.c = q.a * p.c) (eb : p.b * q.c = q.b * p.c) : p = q := by
  obtain ⟨a, b, c⟩ := p
  obtain ⟨x, y, z⟩ := q
  simp only at *
  have d1 : c ∣ z := g3_dvd g1 ⟨x, by rw [ea, Int.mul_comm]⟩ ⟨y, by rw [eb, Int.mul_comm]⟩ ⟨z, rfl⟩
  have d2 : z ∣ c := g3_dvd g2 ⟨a, by rw [← ea, Int.mul_comm]⟩ ⟨b, by rw [← eb, Int.mul_comm]⟩ ⟨c, rfl⟩
  have l1 := Int.le_of_dvd h2 d1
  have l2 := Int.le_of_dvd h1 d2
  have e : c = z := by omega
  subst e
  have e1 : a = x := Int.eq_of_mul_eq_mul_right (by omega) ea
  have e2 : b = y := Int.eq_of_mul_eq_mul_right (by omega) eb
  rw [e1, e2]
theorem Low3.is' {a b n : Int} {r q : T3 Int Int Int} (w : Low3 a b n r) (hn : 0 < n) (h : 0 < q.c) (g : g3 q.a q.b q.c = 1) (ea : q.a * n = a * q.c) (eb : q.b * n = b * q.c) : r = q := by
  refine pt_same w.pos h w.one g ?_ ?_
  · have h1 := w.ea
    refine Int.eq_of_mul_eq_mul_right (show n ≠ 0 by omega) ?_
    grind
  · have h1 := w.eb
    refine Int.eq_of_mul_eq_mul_right (show n ≠ 0 by omega) ?_
    grind
theorem Low3.is {a b n : Int} {r q : T3 Int Int Int} {k : Nat} (w : Low3 a b n r) (hn : 0 < n) (h : Pt k q) (ea : q.a * n = a * q.c) (eb : q.b * n = b * q.c) : r = q := w.is' hn h.pos h.one ea eb
theorem Low3.both {a b n : Int} {r q : T3 Int Int Int} (w : Low3 a b n r) (v : Low3 a b n q) (hn : 0 < n) : r = q := w.is' hn v.pos v.one v.ea v.eb
/-! ### plain: lists by place -/
theorem foldO_at {α τ : Type} {f : α → τ → Option τ} (I : Nat → τ → Prop) : ∀ {xs : List α} {s : τ} (k : Nat), (∀ j x s, xs[j]? = some x → I (k + j) s → ∃ s', f x s = some s' ∧ I (k + j + 1) s') → I k s → ∃ s', foldO f xs s = some s' ∧ I (k + xs.length) s'
  | [], s, k, _, h => ⟨s, rfl, h⟩
  | x :: xs, s, k, hf, h => by
    obtain ⟨s1, e1, h1⟩ := hf 0 x s rfl h
    obtain ⟨s2, e2, h2⟩ := foldO_at I (xs := xs) (s := s1) (k + 1) (fun j y s hy hi => by
      have := hf (j + 1) y s (by simpa using hy) (by rw [show k + (j + 1) = k + 1 + j by omega]; exact hi)
      rwa [show k + (j + 1) + 1 = k + 1 + j + 1 by omega] at this) (by simpa using h1)
    refine ⟨s2, ?_, by rw [List.length_cons, show k + (xs.length + 1) = k + 1 + xs.length by omega]; exact h2⟩
    show (f x s).bind _ = _
    rw [e1]; exact e2
theorem rangeL_len (lo : Int) (n : Nat) : (rangeL lo n).length = n := by unfold rangeL; rw [List.length_map, List.length_range]
theorem rangeL_at {lo : Int} {n j : Nat} {x : Int} (h : (rangeL lo n)[j]? = some x) : x = lo + (j : Int) ∧ j < n := by
  have hl : j < n := by
    have := (List.getElem?_eq_some_iff.mp h).1
    rwa [rangeL_len] at this
  rw [rangeL_get hl] at h
  exact ⟨(Option.some.inj h).symm, hl⟩
theorem foldO_range {τ : Type} {f : Int → τ → Option τ} {lo : Int} {n : Nat} {s : τ} (I : Nat → τ → Prop) (hf : ∀ j s, j < n → I j s → ∃ s', f (lo + (j : Int)) s = some s' ∧ I (j + 1) s') (h : I 0 s) : ∃ s', foldO f (rangeL lo n) s = some s' ∧ I n s' := by
  obtain ⟨s', e, h'⟩ := foldO_at I (xs := rangeL lo n) (s := s) (f := f) 0 (fun j x s hx hi => by
    obtain ⟨e, hl⟩ := rangeL_at hx
    subst e
    rw [Nat.zero_add] at hi ⊢
    exact hf j s hl hi) h
  rw [Nat.zero_add, rangeL_len] at h'
  exact ⟨s', e, h'⟩
theorem ix_neg {α : Type} {xs : List α} {k : Nat} (h : k < xs.length) : ix xs (-1 - (k : Int)) = some (xs[xs.length - 1 - k]'(by omega)) := by
  unfold ix atI ixN
  rw [if_neg (by omega), if_pos (by omega)]
  simp only [Option.bind_some]
  rw [show (-1 - (k : Int) + (xs.length : Int)).toNat = xs.length - 1 - k by omega]
  exact List.getElem?_eq_getElem _
theorem slice_from {α : Type} {xs : List α} {k : Nat} (h : k ≤ xs.length) : slice xs (some (k : Int)) none = xs.drop k := by
  unfold slice
  rw [HT.sIx_nat, HT.sIx_none, Nat.min_eq_left h]
  exact List.take_of_length_le (by rw [List.length_drop]; omega)
theorem slice_to {α : Type} {xs : List α} {k : Nat} (h : k ≤ xs.length) : slice xs none (some (k : Int)) = xs.take k := by
  unfold slice
  rw [HT.sIx_nat, HT.sIx_none, Nat.min_eq_left h]
  rfl
theorem mapO_all {α β : Type} {f : α → Option β} {g : α → β} : ∀ {xs : List α}, (∀ x ∈ xs, f x = some (g x)) → mapO f xs = some (xs.map g)
  | [], _ => rfl
  | x :: xs, h => by
    show (f x).bind _ = _
    rw [h x List.mem_cons_self]
    simp only [Option.bind_some]
    rw [mapO_all fun y hy => h y (List.mem_cons_of_mem _ hy)]
    rfl
/-! ### plain: closed ways -/
section
variable {α : Type}
def ps (f : α → α → Int) : α → List α → Int
  | _, [] => 0
  | a, x :: xs => f a x + ps f x xs
theorem ps_append (f : α → α → Int) : ∀ (a : α) (xs ys : List α) (b : α), xs.getLast? = some b → ps f a (xs ++ ys) = ps f a xs + ps f b ys
  | a, [], ys, b, h => by cases h
  | a, [x], ys, b, h => by cases h; simp [ps]
  | a, x :: y :: xs, ys, b, h => by
    have := ps_append f x (y :: xs) ys b (by simpa using h)
    show f a x + ps f x (y :: xs ++ ys) = f a x + ps f x (y :: xs) + ps f b ys
    rw [this]; omega
/-- once round -/
def cy (f : α → α → Int) (xs : List α) : Int := match xs.getLast? with
  | some l => ps f l xs
  | none => 0
theorem cy_rot (f : α → α → Int) (xs ys : List α) : cy f (xs ++ ys) = cy f (ys ++ xs) := by
  cases hx : xs.getLast? with
  | none => rw [List.getLast?_eq_none_iff] at hx; subst hx; simp
  | some a =>
    cases hy : ys.getLast? with
    | none => rw [List.getLast?_eq_none_iff] at hy; subst hy; simp
    | some b =>
      have e1 : (xs ++ ys).getLast? = some b := by rw [List.getLast?_append, hy]; rfl
      have e2 : (ys ++ xs).getLast? = some a := by rw [List.getLast?_append, hx]; rfl
      unfold cy
      rw [e1, e2]
      show ps f b (xs ++ ys) = ps f a (ys ++ xs)
      rw [ps_append f b xs ys a hx, ps_append f a ys xs b hy]; omega
theorem ps_one (f : α → α → Int) : ∀ (a : α) (xs : List α) (b c : α), (a :: xs).getLast? = some c → ps f a (xs ++ [b]) = ps f a xs + f c b
  | a, [], b, c, h => by cases h; simp [ps]
  | a, x :: xs, b, c, h => by
    have := ps_one f x xs b c (by simpa using h)
    show f a x + ps f x (xs ++ [b]) = f a x + ps f x xs + f c b
    rw [this]; omega
theorem ps_rev (f : α → α → Int) (hf : ∀ a b, f b a = -f a b) : ∀ (xs : List α) (a b : α), ps f b (xs.reverse ++ [a]) = -ps f a (xs ++ [b])
  | [], a, b => by simp [ps, hf a b]
  | x :: xs, a, b => by
    have ih := ps_rev f hf xs x b
    rw [List.reverse_cons]
    have e : ((b :: (xs.reverse ++ [x])).getLast?) = some x := by simp [List.getLast?_cons]
    rw [ps_one f b (xs.reverse ++ [x]) a x e, ih]
    show -ps f x (xs ++ [b]) + f x a = -(f a x + ps f x (xs ++ [b]))
    rw [hf a x]; omega
theorem cy_rev (f : α → α → Int) (hf : ∀ a b, f b a = -f a b) (xs : List α) : cy f xs.reverse = -cy f xs := by
  cases xs with
  | nil => rfl
  | cons x t =>
    obtain ⟨l, hl⟩ : ∃ l, (x :: t).getLast? = some l := by cases h : (x :: t).getLast? with
      | none => rw [List.getLast?_eq_none_iff] at h; cases h
      | some l => exact ⟨l, rfl⟩
    have e1 : (x :: t).reverse.getLast? = some x := by simp
    unfold cy
    rw [hl, e1]
    show ps f x (x :: t).reverse = -ps f l (x :: t)
    rw [List.reverse_cons, ps_rev f hf t x x, ps_one f x t x l hl]
    show -(ps f x t + f l x) = -(f l x + ps f x t)
    omega
end
abbrev P3 : Type := T3 Int Int Int
def prev (xs : List P3) (j : Nat) : P3 := xs.getD (if j = 0 then xs.length - 1 else j - 1) ⟨0, 0, 0⟩
theorem ix_prev {xs : List P3} {j : Nat} (h : j < xs.length) : ix xs ((j : Int) - 1) = some (prev xs j) := by
  unfold prev
  by_cases z : j = 0
  · subst z
    have := ix_neg (xs := xs) (k := 0) h
    rw [show (-1 : Int) - ((0 : Nat) : Int) = ((0 : Nat) : Int) - 1 by omega] at this
    rw [this, if_pos rfl, List.getD_eq_getElem?_getD, List.getElem?_eq_getElem (by omega)]
    rfl
  · have h2 : j - 1 < xs.length := by omega
    have := ix_lt h2
    rw [show ((j - 1 : Nat) : Int) = (j : Int) - 1 by omega] at this
    rw [this, if_neg z, List.getD_eq_getElem?_getD, List.getElem?_eq_getElem h2]
    rfl
theorem prev_mem {xs : List P3} {j : Nat} (h : j < xs.length) : prev xs j ∈ xs := by
  unfold prev
  rw [List.getD_eq_getElem?_getD]
  have hl : (if j = 0 then xs.length - 1 else j - 1) < xs.length := by split <;> omega
  rw [List.getElem?_eq_getElem hl]
  exact List.getElem_mem hl
/-- the sum so far -/
def St (f : P3 → P3 → Int) (xs : List P3) : Nat → Int
  | 0 => 0
  | k + 1 => St f xs k + f (prev xs k) (xs.getD k ⟨0, 0, 0⟩)
theorem st_ps (f : P3 → P3 → Int) (xs : List P3) : ∀ k, k < xs.length → St f xs k + ps f (prev xs k) (xs.drop k) = ps f (prev xs 0) xs
  | 0, h => by simp [St]
  | k + 1, h => by
    have ih := st_ps f xs k (by omega)
    rw [List.drop_eq_getElem_cons (show k < xs.length by omega)] at ih
    show St f xs k + f (prev xs k) (xs.getD k ⟨0, 0, 0⟩) + ps f (prev xs (k + 1)) (xs.drop (k + 1)) = _
    have e : xs.getD k ⟨0, 0, 0⟩ = xs[k] := by rw [List.getD_eq_getElem?_getD, List.getElem?_eq_getElem (by omega)]; rfl
    have e2 : prev xs (k + 1) = xs[k] := by
      unfold prev
      rw [if_neg (by omega), Nat.add_sub_cancel]; exact e
    rw [e2, e]
    have ih' : St f xs k + (f (prev xs k) xs[k] + ps f xs[k] (xs.drop (k + 1))) = ps f (prev xs 0) xs := ih
    omega
theorem st_cy (f : P3 → P3 → Int) (xs : List P3) (h : 0 < xs.length) : St f xs xs.length = cy f xs := by
  obtain ⟨n, hn⟩ : ∃ n, xs.length = n + 1 := ⟨xs.length - 1, by omega⟩
  have e0 : xs.getLast? = some (prev xs 0) := by
    unfold prev
    rw [List.getLast?_eq_getElem?, if_pos rfl, List.getD_eq_getElem?_getD, List.getElem?_eq_getElem (by omega)]
    rfl
  have := st_ps f xs n (by omega)
  unfold cy
  rw [e0]
  show _ = ps f (prev xs 0) xs
  rw [← this, hn, List.drop_eq_getElem_cons (show n < xs.length by omega), List.drop_eq_nil_of_le (by omega)]
  show St f xs n + f (prev xs n) (xs.getD n ⟨0, 0, 0⟩) = St f xs n + (f (prev xs n) xs[n] + 0)
  rw [List.getD_eq_getElem?_getD, List.getElem?_eq_getElem (by omega)]
  simp
/-- the bottoms of all -/
def PB : List P3 → Int
  | [] => 1
  | p :: xs => p.c * PB xs
theorem pb_append : ∀ (xs ys : List P3), PB (xs ++ ys) = PB xs * PB ys
  | [], ys => by simp [PB]
  | x :: xs, ys => by show x.c * PB (xs ++ ys) = x.c * PB xs * PB ys; rw [pb_append xs ys, Int.mul_assoc]
theorem pb_dvd : ∀ {xs : List P3} {p : P3}, p ∈ xs → p.c ∣ PB xs
  | x :: xs, p, h => by
    rcases List.mem_cons.mp h with e | e
    · subst e; exact Int.dvd_mul_right _ _
    · exact Int.dvd_trans (pb_dvd e) (Int.dvd_mul_left _ _)
theorem pb_pos : ∀ {xs : List P3}, (∀ p ∈ xs, 0 < p.c) → 0 < PB xs
  | [], _ => by decide
  | x :: xs, h => Int.mul_pos (h x List.mem_cons_self) (pb_pos fun p hp => h p (List.mem_cons_of_mem _ hp))
/-- twice the triangle with (0, 0), over P * P -/
def cr (P : Int) (p q : P3) : Int := (p.a * q.b - q.a * p.b) * ((P / p.c) * (P / q.c))
theorem cr_neg (P : Int) (p q : P3) : cr P q p = -cr P p q := by unfold cr; grind
theorem cr_eq {P : Int} {p q : P3} (hp : p.c ∣ P) (hq : q.c ∣ P) : cr P p q * (p.c * q.c) = (p.a * q.b - q.a * p.b) * (P * P) := by
  unfold cr
  have h1 := Int.ediv_mul_cancel hp
  have h2 := Int.ediv_mul_cancel hq
  generalize P / p.c = u at *
  generalize P / q.c = v at *
  grind
/-! ### plain: the sides of a closed way -/
section
variable {α β : Type}
def sdf : α → List α → List (T2 α α)
  | _, [] => []
  | a, x :: xs => ⟨a, x⟩ :: sdf x xs
def sd (xs : List α) : List (T2 α α) := match xs.getLast? with
  | some l => sdf l xs
  | none => []
theorem sdf_len : ∀ (a : α) (xs : List α), (sdf a xs).length = xs.length
  | _, [] => rfl
  | a, x :: xs => by show (sdf x xs).length + 1 = _; rw [sdf_len]; rfl
theorem sd_len (xs : List α) : (sd xs).length = xs.length := by
  unfold sd
  cases h : xs.getLast? with
  | none => rw [List.getLast?_eq_none_iff] at h; subst h; rfl
  | some l => exact sdf_len l xs
theorem sdf_at : ∀ {xs : List α} {a : α} {j : Nat} {q : α}, xs[j]? = some q → (sdf a xs)[j]? = some ⟨(a :: xs)[j]?.getD q, q⟩
  | [], _, _, _, h => by simp at h
  | x :: xs, a, 0, q, h => by simp at h; subst h; rfl
  | x :: xs, a, j + 1, q, h => by
    have := sdf_at (xs := xs) (a := x) (j := j) (q := q) (by simpa using h)
    show (sdf x xs)[j]? = _
    rw [this]
    rfl
/-- side j: the item ahead, item j -/
theorem sd_at {xs : List α} {j : Nat} (h : j < xs.length) : ∃ p q, (sd xs)[j]? = some ⟨p, q⟩ ∧ ix xs ((j : Int) - 1) = some p ∧ ix xs (j : Int) = some q ∧ p ∈ xs ∧ q ∈ xs := by
  obtain ⟨l, hl⟩ : ∃ l, xs.getLast? = some l := by
    cases h2 : xs.getLast? with
    | none => rw [List.getLast?_eq_none_iff] at h2; subst h2; simp at h
    | some l => exact ⟨l, rfl⟩
  have hq : xs[j]? = some xs[j] := List.getElem?_eq_getElem h
  have e := sdf_at (a := l) hq
  have es : sd xs = sdf l xs := by unfold sd; rw [hl]
  rw [es]
  by_cases z : j = 0
  · subst z
    refine ⟨l, xs[0], e, ?_, ix_lt h, List.mem_of_getLast? hl, List.getElem_mem h⟩
    have := ix_neg (xs := xs) (k := 0) h
    rw [show (-1 : Int) - ((0 : Nat) : Int) = ((0 : Nat) : Int) - 1 by omega] at this
    rw [this]
    rw [List.getLast?_eq_getElem?] at hl
    rw [← hl, List.getElem?_eq_getElem (by omega)]
    simp
  · have h2 : j - 1 < xs.length := by omega
    have e1 : (l :: xs)[j]?.getD xs[j] = xs[j - 1] := by
      obtain ⟨i, rfl⟩ : ∃ i, j = i + 1 := ⟨j - 1, by omega⟩
      show xs[i]?.getD _ = _
      rw [List.getElem?_eq_getElem (by omega)]
      rfl
    rw [e1] at e
    refine ⟨xs[j - 1], xs[j], e, ?_, ix_lt h, List.getElem_mem h2, List.getElem_mem h⟩
    have := ix_lt h2
    rw [show ((j - 1 : Nat) : Int) = (j : Int) - 1 by omega] at this
    exact this
theorem sd_mem {xs : List α} {p q : α} (h : ⟨p, q⟩ ∈ sd xs) : p ∈ xs ∧ q ∈ xs := by
  obtain ⟨j, hj⟩ := List.getElem?_of_mem h
  have hl := (List.getElem?_eq_some_iff.mp hj).1
  rw [sd_len] at hl
  obtain ⟨p', q', e, _, _, h1, h2⟩ := sd_at hl
  rw [hj] at e
  cases e
  exact ⟨h1, h2⟩
theorem sdf_map (f : α → β) : ∀ (a : α) (xs : List α), sdf (f a) (xs.map f) = (sdf a xs).map fun s => ⟨f s.a, f s.b⟩
  | _, [] => rfl
  | a, x :: xs => by show _ :: sdf (f x) (xs.map f) = _; rw [sdf_map f x xs]; rfl
theorem sd_map (f : α → β) (xs : List α) : sd (xs.map f) = (sd xs).map fun s => ⟨f s.a, f s.b⟩ := by
  unfold sd
  rw [List.getLast?_map]
  cases xs.getLast? with
  | none => rfl
  | some l => exact sdf_map f l xs
theorem ps_sum (f : α → α → Int) : ∀ (a : α) (xs : List α), ps f a xs = ((sdf a xs).map fun s => f s.a s.b).sum
  | _, [] => rfl
  | a, x :: xs => by show f a x + ps f x xs = _; rw [ps_sum f x xs]; rfl
theorem cy_sum (f : α → α → Int) (xs : List α) : cy f xs = ((sd xs).map fun s => f s.a s.b).sum := by
  unfold cy sd
  cases xs.getLast? with
  | none => rfl
  | some l => exact ps_sum f l xs
theorem cy_map (f : β → β → Int) (h : α → β) (xs : List α) : cy f (xs.map h) = cy (fun a b => f (h a) (h b)) xs := by
  rw [cy_sum, cy_sum, sd_map, List.map_map]
  rfl
theorem ps_tel (φ : α → Int) : ∀ (a : α) (xs : List α) (l : α), (a :: xs).getLast? = some l → ps (fun p q => φ q - φ p) a xs = φ l - φ a
  | a, [], l, h => by cases h; simp [ps]
  | a, x :: xs, l, h => by
    have := ps_tel φ x xs l (by simpa using h)
    show φ x - φ a + ps _ x xs = _
    rw [this]; omega
theorem cy_tel (φ : α → Int) (xs : List α) : cy (fun p q => φ q - φ p) xs = 0 := by
  unfold cy
  cases h : xs.getLast? with
  | none => rfl
  | some l =>
    show ps _ l xs = 0
    rw [ps_tel φ l xs l (by rw [List.getLast?_cons, h]; rfl)]; omega
theorem cy_congr {f g : α → α → Int} {xs : List α} (h : ∀ p ∈ xs, ∀ q ∈ xs, f p q = g p q) : cy f xs = cy g xs := by
  rw [cy_sum, cy_sum]
  congr 1
  refine List.map_congr_left fun s hs => ?_
  obtain ⟨p, q⟩ := s
  exact h p (sd_mem hs).1 q (sd_mem hs).2
theorem cy_add (f g : α → α → Int) (xs : List α) : cy (fun p q => f p q + g p q) xs = cy f xs + cy g xs := by
  rw [cy_sum, cy_sum, cy_sum]
  induction sd xs with
  | nil => rfl
  | cons s l ih => rw [List.map_cons, List.map_cons, List.map_cons, List.sum_cons, List.sum_cons, List.sum_cons, ih]; omega
theorem cy_mul (k : Int) (f : α → α → Int) (xs : List α) : cy (fun p q => k * f p q) xs = k * cy f xs := by
  rw [cy_sum, cy_sum]
  induction sd xs with
  | nil => simp
  | cons s l ih => rw [List.map_cons, List.map_cons, List.sum_cons, List.sum_cons, ih, Int.mul_add]
theorem cy_le {f : α → α → Int} {xs : List α} {B : Nat} (h : ∀ p ∈ xs, ∀ q ∈ xs, (f p q).natAbs ≤ B) : (cy f xs).natAbs ≤ xs.length * B := by
  rw [cy_sum, ← sd_len xs]
  have : ∀ s ∈ sd xs, (f s.a s.b).natAbs ≤ B := fun s hs => h _ (sd_mem hs).1 _ (sd_mem hs).2
  revert this
  induction sd xs with
  | nil => intro _; simp
  | cons s l ih =>
    intro this
    have h1 := this s List.mem_cons_self
    have h2 := ih fun t ht => this t (List.mem_cons_of_mem _ ht)
    rw [List.map_cons, List.sum_cons, List.length_cons, Nat.succ_mul]
    omega
end
/-! ### loops with a state -/
theorem mapS_inv {α β τ : Type} {f : α → τ → Option (β × τ)} (I : τ → Prop) (P : α → β → Prop) : ∀ {xs : List α} {s : τ}, (∀ x s, x ∈ xs → I s → ∃ y s', f x s = some (y, s') ∧ I s' ∧ P x y) → I s → ∃ ys s', mapS f xs s = some (ys, s') ∧ I s' ∧ ys.length = xs.length ∧ ∀ y ∈ ys, ∃ x ∈ xs, P x y
  | [], s, _, h => ⟨[], s, rfl, h, rfl, fun _ h => nomatch h⟩
  | x :: xs, s, hf, h => by
    obtain ⟨y, s1, e1, h1, p1⟩ := hf x s List.mem_cons_self h
    obtain ⟨ys, s2, e2, h2, l2, p2⟩ := mapS_inv I P (xs := xs) (fun x s hx => hf x s (List.mem_cons_of_mem _ hx)) h1
    refine ⟨y :: ys, s2, ?_, h2, by rw [List.length_cons, List.length_cons, l2], fun z hz => ?_⟩
    · show (f x s).bind _ = _
      rw [e1]
      show (mapS f xs s1).bind _ = _
      rw [e2]; rfl
    · rcases List.mem_cons.mp hz with e | hz
      · subst e; exact ⟨x, List.mem_cons_self, p1⟩
      · obtain ⟨w, hw, p⟩ := p2 z hz
        exact ⟨w, List.mem_cons_of_mem _ hw, p⟩
theorem compL_inv {α β τ : Type} {f : α → τ → Option (Option β × τ)} (I : τ → Prop) (P : α → β → Prop) : ∀ {xs : List α} {s : τ}, (∀ x s, x ∈ xs → I s → ∃ y s', f x s = some (y, s') ∧ I s' ∧ ∀ z, y = some z → P x z) → I s → ∃ ys s', compL f xs s = some (ys, s') ∧ I s' ∧ ys.length ≤ xs.length ∧ ∀ y ∈ ys, ∃ x ∈ xs, P x y
  | [], s, _, h => ⟨[], s, rfl, h, Nat.le_refl _, fun _ h => nomatch h⟩
  | x :: xs, s, hf, h => by
    obtain ⟨y, s1, e1, h1, p1⟩ := hf x s List.mem_cons_self h
    obtain ⟨ys, s2, e2, h2, l2, p2⟩ := compL_inv I P (xs := xs) (fun x s hx => hf x s (List.mem_cons_of_mem _ hx)) h1
    have e3 : ∀ y', y' = y → compL f (x :: xs) s = some ((match y' with | some z => z :: ys | none => ys), s2) := by
      intro y' ey
      subst ey
      show (f x s).bind _ = _
      rw [e1]
      show (compL f xs s1).bind _ = _
      rw [e2]; rfl
    have e3 := e3 y rfl
    cases y with
    | none => exact ⟨ys, s2, e3, h2, by rw [List.length_cons]; omega, fun z hz => by
        obtain ⟨w, hw, p⟩ := p2 z hz
        exact ⟨w, List.mem_cons_of_mem _ hw, p⟩⟩
    | some y => exact ⟨y :: ys, s2, e3, h2, by rw [List.length_cons, List.length_cons]; omega, fun z hz => by
        rcases List.mem_cons.mp hz with e | hz
        · subst e; exact ⟨x, List.mem_cons_self, p1 _ rfl⟩
        · obtain ⟨w, hw, p⟩ := p2 z hz
          exact ⟨w, List.mem_cons_of_mem _ hw, p⟩⟩
theorem slice_sub {α : Type} {xs : List α} {lo hi : Option Int} {x : α} (h : x ∈ slice xs lo hi) : x ∈ xs := by
  unfold slice at h
  exact List.mem_of_mem_drop (List.mem_of_mem_take h)
theorem rngOk_ok {n : Int} (h1 : -1000000 ≤ n) (h2 : n ≤ 1000000) : rngOk n = some () := by unfold rngOk; rw [if_pos (by omega)]
theorem rangeL_mem {lo : Int} {n : Nat} {x : Int} (h : x ∈ rangeL lo n) : lo ≤ x ∧ x < lo + (n : Int) := by
  obtain ⟨j, hj⟩ := List.getElem?_of_mem h
  obtain ⟨e, l⟩ := rangeL_at hj
  omega
/-- a loop that tells whether all turns pass -/
theorem loopL_all {α ρ : Type} {f : α → Unit → Option (Lp Unit ρ)} {r : ρ} (P : α → Prop) : ∀ {xs : List α}, (∀ x ∈ xs, (P x ∧ f x () = some (.nxt ())) ∨ (¬ P x ∧ f x () = some (.ret r))) → ((∀ x ∈ xs, P x) ∧ loopL f xs () = some (.nxt ())) ∨ ((∃ x ∈ xs, ¬ P x) ∧ loopL f xs () = some (.ret r))
  | [], _ => .inl ⟨fun _ h => (nomatch h), rfl⟩
  | x :: xs, h => by
    rcases h x List.mem_cons_self with ⟨p, e⟩ | ⟨p, e⟩
    · rcases loopL_all P (xs := xs) fun y hy => h y (List.mem_cons_of_mem _ hy) with ⟨q, e2⟩ | ⟨⟨y, hy, q⟩, e2⟩
      · refine .inl ⟨fun y hy => ?_, ?_⟩
        · rcases List.mem_cons.mp hy with z | hy
          · subst z; exact p
          · exact q y hy
        · show (f x ()).bind _ = _
          rw [e]; exact e2
      · refine .inr ⟨⟨y, List.mem_cons_of_mem _ hy, q⟩, ?_⟩
        show (f x ()).bind _ = _
        rw [e]; exact e2
    · refine .inr ⟨⟨x, List.mem_cons_self, p⟩, ?_⟩
      show (f x ()).bind _ = _
      rw [e]; rfl
/-! ### plain: places in the plane, over one bottom -/
abbrev P2 : Type := T2 Int Int
def cr2 (p q : P2) : Int := p.a * q.b - q.a * p.b
def crs3 (o p q : P2) : Int := (p.a - o.a) * (q.b - o.b) - (p.b - o.b) * (q.a - o.a)
def hd (n : Int) (p : P2) : P3 := ⟨p.a / (g3 p.a p.b n : Int), p.b / (g3 p.a p.b n : Int), n / (g3 p.a p.b n : Int)⟩
theorem hd_low {n : Int} (hn : 0 < n) (p : P2) : Low3 p.a p.b n (hd n p) := low3_mk hn
theorem filO_all {α : Type} {f : α → Option (Option α)} {c : α → Bool} : ∀ {xs : List α}, (∀ x ∈ xs, f x = some (if c x = true then some x else none)) → filO f xs = some (xs.filter c)
  | [], _ => rfl
  | x :: xs, h => by
    show (f x).bind _ = _
    rw [h x List.mem_cons_self, Option.bind_some, filO_all fun y hy => h y (List.mem_cons_of_mem _ hy), Option.bind_some, List.filter_cons]
    cases c x <;> rfl
theorem ix_map {α β : Type} (f : α → β) (xs : List α) (i : Int) : ix (xs.map f) i = (ix xs i).map f := by
  unfold ix atI
  rw [List.length_map]
  cases ixN xs.length i with
  | none => rfl
  | some j => exact List.getElem?_map
/-! ### plain: points over one bottom -/
/-- r is u over P -/
structure Ov (P : Int) (r : P3) (u : P2) : Prop where
  pos : 0 < r.c
  ea : r.a * P = u.a * r.c
  eb : r.b * P = u.b * r.c
  one : g3 r.a r.b r.c = 1
theorem Ov.dvd {P : Int} {r : P3} {u : P2} (h : Ov P r u) : r.c ∣ P := g3_dvd h.one ⟨u.a, by rw [h.ea, Int.mul_comm]⟩ ⟨u.b, by rw [h.eb, Int.mul_comm]⟩ ⟨P, rfl⟩
theorem Ov.a {P : Int} {r : P3} {u : P2} (h : Ov P r u) : r.a * (P / r.c) = u.a := by
  obtain ⟨k, hk⟩ := h.dvd
  have hp := h.pos
  have e : P / r.c = k := by rw [hk, Int.mul_ediv_cancel_left _ (by omega)]
  rw [e]
  refine Int.eq_of_mul_eq_mul_right (show r.c ≠ 0 by omega) ?_
  rw [← h.ea, hk, Int.mul_assoc, Int.mul_comm k]
theorem Ov.b {P : Int} {r : P3} {u : P2} (h : Ov P r u) : r.b * (P / r.c) = u.b := by
  obtain ⟨k, hk⟩ := h.dvd
  have hp := h.pos
  have e : P / r.c = k := by rw [hk, Int.mul_ediv_cancel_left _ (by omega)]
  rw [e]
  refine Int.eq_of_mul_eq_mul_right (show r.c ≠ 0 by omega) ?_
  rw [← h.eb, hk, Int.mul_assoc, Int.mul_comm k]
theorem cr_ov {P : Int} {r s : P3} {u v : P2} (h : Ov P r u) (g : Ov P s v) : cr P r s = cr2 u v := by
  unfold cr cr2
  rw [← h.a, ← h.b, ← g.a, ← g.b]
  grind
theorem hd_ov {n : Int} (hn : 0 < n) (p : P2) : Ov n (hd n p) p := by
  have w := hd_low hn p
  exact ⟨w.pos, w.ea, w.eb, w.one⟩
theorem hd_pt {n : Int} (hn : 0 < n) {p : P2} {k : Nat} (ha : p.a.natAbs < 2 ^ k) (hb : p.b.natAbs < 2 ^ k) (h2 : n.natAbs < 2 ^ k) : Pt k (hd n p) := (hd_low hn p).pt ha hb h2
theorem low3_ov {a b c P A B : Int} {r : P3} (w : Low3 a b c r) (hc : c ≠ 0) (ea : a * P = A * c) (eb : b * P = B * c) : Ov P r ⟨A, B⟩ := by
  refine ⟨w.pos, Int.eq_of_mul_eq_mul_right hc ?_, Int.eq_of_mul_eq_mul_right hc ?_, w.one⟩
  · have := w.ea
    show r.a * P * c = A * r.c * c
    rw [Int.mul_right_comm, this, Int.mul_right_comm, ea]
    rw [Int.mul_right_comm]
  · have := w.eb
    show r.b * P * c = B * r.c * c
    rw [Int.mul_right_comm, this, Int.mul_right_comm, eb]
    rw [Int.mul_right_comm]
/-- r is S over B, in lowest terms -/
structure Is (B S : Int) (r : T2 Int Int) : Prop where
  pos : 0 < r.b
  one : Int.gcd r.a r.b = 1
  eq : r.a * B = S * r.b
theorem Is.dvd {B S : Int} {r : T2 Int Int} (h : Is B S r) : r.b ∣ B := gcd_dvd (a := r.a) ⟨S, by rw [h.eq, Int.mul_comm]⟩ h.one
theorem Is.rt {B S : Int} {r : T2 Int Int} {n : Nat} (h : Is B S r) (hB : 0 < B) (sB : B.natAbs < 2 ^ n) (sS : S.natAbs < 2 ^ n) : Rt n r := by
  have hb := Int.le_of_dvd hB h.dvd
  have hp := h.pos
  refine ⟨h.pos, ?_, Nat.lt_of_le_of_lt (by omega) sB, h.one⟩
  have e : r.a.natAbs * B.natAbs = S.natAbs * r.b.natAbs := by rw [← Int.natAbs_mul, h.eq, Int.natAbs_mul]
  have l : S.natAbs * r.b.natAbs ≤ S.natAbs * B.natAbs := Nat.mul_le_mul_left _ (by omega)
  rw [← e] at l
  exact Nat.lt_of_le_of_lt (Nat.le_of_mul_le_mul_right l (by omega)) sS
theorem Is.same {B S : Int} {r q : T2 Int Int} (hB : 0 < B) (h : Is B S r) (g : Is B S q) : r = q := by
  refine rt_same h.pos g.pos h.one g.one (Int.eq_of_mul_eq_mul_right (show B ≠ 0 by omega) ?_)
  have := h.eq; have := g.eq; grind
theorem Is.sum {B S T : Int} {p q r : T2 Int Int} (hp : Is B S p) (hq : Is B T q) (w : Low (p.a * q.b + q.a * p.b) (p.b * q.b) r) : Is B (S + T) r := by
  refine ⟨w.pos, w.one, Int.eq_of_mul_eq_mul_right (show p.b * q.b ≠ 0 by have := Int.mul_pos hp.pos hq.pos; omega) ?_⟩
  have := w.eq; have := hp.eq; have := hq.eq; grind
theorem Is.sub {B S T : Int} {p q r : T2 Int Int} (hp : Is B S p) (hq : Is B T q) (w : Low (p.a * q.b - q.a * p.b) (p.b * q.b) r) : Is B (S - T) r := by
  refine ⟨w.pos, w.one, Int.eq_of_mul_eq_mul_right (show p.b * q.b ≠ 0 by have := Int.mul_pos hp.pos hq.pos; omega) ?_⟩
  have := w.eq; have := hp.eq; have := hq.eq; grind
theorem meas_ok (a b : Int) : m__law_measure a b = some (Int.gcd a b : Int) := by
  unfold m__law_measure
  simp only [Option.bind_some, iabs_eq]
  rw [gcd_loop _ _ _ (by omega) (by omega) (by omega)]
  simp only [Option.bind_some, Lp.out]
  congr 2
theorem g3_swap (x y n : Int) : Int.gcd (Int.gcd x y : Int) n = g3 x y n := by
  unfold g3
  rw [Int.gcd_assoc, Int.gcd_comm y n, ← Int.gcd_assoc]
theorem spot_ok {a b n : Int} (h : 0 < n) (hn : n.natAbs < 2 ^ 8000) : ∃ r, m__law_spot a b n = some r ∧ Low3 a b n r := by
  unfold m__law_spot
  have hg : (0 : Int) < (g3 a b n : Int) := by have := g3_pos (a := a) (b := b) (n := n) (by omega); omega
  have hl := g3_le (a := a) (b := b) h
  have hs : (g3 a b n : Int).natAbs < 2 ^ 8000 := Nat.lt_of_le_of_lt (by omega) hn
  rw [meas_ok]
  simp only [Option.bind_some]
  rw [meas_ok]
  simp only [Option.bind_some]
  rw [g3_swap, divG_pos 8000 hg hs (by decide), divG_pos 8000 hg hs (by decide), divG_pos 8000 hg hs (by decide)]
  exact ⟨_, rfl, low3_mk h⟩
theorem spot_hd {a b n : Int} (h : 0 < n) (hn : n.natAbs < 2 ^ 8000) : m__law_spot a b n = some (hd n ⟨a, b⟩) := by
  obtain ⟨r, e, w⟩ := spot_ok (a := a) (b := b) h hn
  rw [e, w.both (hd_low h ⟨a, b⟩) h]
/-! ### plain: loops once more -/
theorem foldO_rangeE {τ β : Type} {f : Int → τ → Option τ} {n : Nat} {s : τ} {g : τ → Option β} {P : β → Prop} (I : Nat → τ → Prop) (hf : ∀ (j : Nat) s, j < n → I j s → ∃ s', f (j : Int) s = some s' ∧ I (j + 1) s') (h : I 0 s) (hg : ∀ s', I n s' → ∃ r, g s' = some r ∧ P r) : ∃ r, (foldO f (rangeL 0 n) s).bind g = some r ∧ P r := by
  obtain ⟨s', e, h'⟩ := foldO_range (f := f) (lo := 0) (n := n) (s := s) I (fun j s hj i => by rw [Int.zero_add]; exact hf j s hj i) h
  rw [e]; exact hg s' h'
theorem foldO_downE {τ β : Type} {f : Int → τ → Option τ} {lo : Int} {n : Nat} {s : τ} {g : τ → Option β} {P : β → Prop} (I : Nat → τ → Prop) (hf : ∀ (j : Nat) s, j < n → I j s → ∃ s', f (lo - (j : Int)) s = some s' ∧ I (j + 1) s') (h : I 0 s) (hg : ∀ s', I n s' → ∃ r, g s' = some r ∧ P r) : ∃ r, (foldO f (downL lo n) s).bind g = some r ∧ P r := by
  have hl : (downL lo n).length = n := by unfold downL; rw [List.length_map, List.length_range]
  obtain ⟨s', e, h'⟩ := foldO_at (f := f) I (xs := downL lo n) (s := s) 0 (fun j x s hx i => by
    have hj : j < n := by
      have := (List.getElem?_eq_some_iff.mp hx).1
      rwa [hl] at this
    have ex : x = lo - (j : Int) := by
      unfold downL at hx
      rw [List.getElem?_map, List.getElem?_range hj] at hx
      have : lo + (j : Int) * -1 = x := Option.some.inj hx
      omega
    subst ex
    rw [Nat.zero_add] at i ⊢
    exact hf j s hj i) h
  rw [Nat.zero_add, hl] at h'
  rw [e]; exact hg s' h'
theorem foldO_memE {α τ β : Type} {f : α → τ → Option τ} {xs : List α} {s : τ} {g : τ → Option β} {P : β → Prop} (I : Nat → τ → Prop) (hf : ∀ j x s, xs[j]? = some x → I j s → ∃ s', f x s = some s' ∧ I (j + 1) s') (h : I 0 s) (hg : ∀ s', I xs.length s' → ∃ r, g s' = some r ∧ P r) : ∃ r, (foldO f xs s).bind g = some r ∧ P r := by
  obtain ⟨s', e, h'⟩ := foldO_at (f := f) I (xs := xs) (s := s) 0 (fun j x s hx i => by
    rw [Nat.zero_add] at i ⊢
    exact hf j x s hx i) h
  rw [Nat.zero_add] at h'
  rw [e]; exact hg s' h'
theorem loopW_E {τ β ρ : Type} {f : τ → Option (Lp τ ρ)} {g : Lp τ ρ → Option β} {P : β → Prop} (I : Nat → τ → Prop) : ∀ (n : Nat) (s : τ), I n s → (∀ s, ¬ I 0 s) → (∀ n s, I (n + 1) s → (∃ s', f s = some (.nxt s') ∧ I n s') ∨ (∃ s', f s = some (.brk s') ∧ ∃ r, g (.brk s') = some r ∧ P r)) → ∃ r, (loopW f n s).bind g = some r ∧ P r
  | 0, s, h, h0, _ => absurd h (h0 s)
  | n + 1, s, h, h0, hs => by
    rcases hs n s h with ⟨s', e, h'⟩ | ⟨s', e, h'⟩
    · obtain ⟨r, er, hr⟩ := loopW_E I n s' h' h0 hs
      refine ⟨r, ?_, hr⟩
      rw [← er]
      show ((f s).bind _).bind g = _
      rw [e]; rfl
    · obtain ⟨r, er, hr⟩ := h'
      refine ⟨r, ?_, hr⟩
      show ((f s).bind _).bind g = _
      rw [e]; exact er
theorem optE {α β : Type} {m : Option α} {k : α → Option β} {P : β → Prop} {Q : α → Prop} (h : ∃ r, m = some r ∧ Q r) (g : ∀ r, Q r → ∃ q, k r = some q ∧ P q) : ∃ q, m.bind k = some q ∧ P q := by
  obtain ⟨r, e, q⟩ := h
  rw [e]; exact g r q
theorem divisor_ok (a b : Int) : m_greatest_divisor a b = some (Int.gcd a b : Int) := by
  unfold m_greatest_divisor
  simp only [Option.bind_some, iabs_eq]
  rw [gcd_loop _ _ _ (by omega) (by omega) (by omega)]
  simp only [Option.bind_some, Lp.out]
  congr 2
theorem ratio_ok {t b : Int} (h : 0 < b) (hb : b.natAbs < 2 ^ 8000) : ∃ r, m_ratio t b = some r ∧ Low t b r := by
  unfold m_ratio
  have hg := gcd_pos (a := t) h
  have hl := gcd_le (a := t) h
  have hs : (Int.gcd t b : Int).natAbs < 2 ^ 8000 := Nat.lt_of_le_of_lt (by omega) hb
  rw [if_neg (by simp; omega), divisor_ok]
  simp only [Option.bind_some]
  rw [if_neg (by simp; omega)]
  simp only [Option.bind_some]
  rw [divG_pos 8000 hg hs (by decide), divG_pos 8000 hg hs (by decide)]
  exact ⟨_, rfl, low_mk h⟩
theorem plus_ok {p q : T2 Int Int} {n m : Nat} (hp : Rt n p) (hq : Rt m q) (h : n + m ≤ 7000) : ∃ r, m_plus p q = some r ∧ Low (p.a * q.b + q.a * p.b) (p.b * q.b) r ∧ Rt (n + m + 1) r := by
  unfold m_plus
  have hb : 0 < p.b * q.b := Int.mul_pos hp.pos hq.pos
  have s1 := sz_mul hp.sa hq.sb
  have s2 := sz_mul hq.sa hp.sb
  have s3 := sz_mul hp.sb hq.sb
  obtain ⟨r, e, w⟩ := ratio_ok (t := p.a * q.b + q.a * p.b) hb (pow_le s3 (by omega))
  rw [mulG_ok _ _ hp.sa hq.sb (by omega), mulG_ok _ _ hq.sa hp.sb (by omega), mulG_ok _ _ hp.sb hq.sb (by omega)]
  simp only [Option.bind_some, e]
  exact ⟨r, rfl, w, w.rt (sz_add s1 (by rw [Nat.add_comm]; exact s2)) (pow_le s3 (by omega))⟩
theorem point_ok {a b n : Int} (h : 0 < n) (hn : n.natAbs < 2 ^ 8000) : ∃ r, m_point a b n = some r ∧ Low3 a b n r := by
  unfold m_point
  have hg : (0 : Int) < (g3 a b n : Int) := by have := g3_pos (a := a) (b := b) (n := n) (by omega); omega
  have hl := g3_le (a := a) (b := b) h
  have hs : (g3 a b n : Int).natAbs < 2 ^ 8000 := Nat.lt_of_le_of_lt (by omega) hn
  rw [if_neg (by simp; omega), divisor_ok]
  simp only [Option.bind_some]
  rw [divisor_ok]
  simp only [Option.bind_some]
  rw [if_neg (by simp; omega)]
  simp only [Option.bind_some]
  have e3 : ((Int.gcd (Int.gcd a n : Int) b : Nat) : Int) = (g3 a b n : Int) := rfl
  rw [e3, divG_pos 8000 hg hs (by decide), divG_pos 8000 hg hs (by decide), divG_pos 8000 hg hs (by decide)]
  exact ⟨_, rfl, low3_mk h⟩
structure Stp (p : T3 Int Int Int) : Prop where
  pos : 0 < p.c
  sa : p.a.natAbs < 2 ^ 120
  sb : p.b.natAbs < 2 ^ 120
  sc : p.c.natAbs < 2 ^ 120
  nz : p.a ≠ 0 ∨ p.b ≠ 0
theorem common_ok (a b : Int) : m_common_of a b = some (Int.gcd a b : Int) := by
  unfold m_common_of
  simp only [Option.bind_some, iabs_eq]
  rw [gcd_loop _ _ _ (by omega) (by omega) (by omega)]
  simp only [Option.bind_some, Lp.out]
  congr 2
theorem way_ok {p : T3 Int Int Int} (h : Stp p) : ∃ (u v s : Int) (r : T2 Int Int), m_way_of p = some ⟨⟨u, v⟩, r⟩ ∧ p.a = u * s ∧ p.b = v * s ∧ Int.gcd u v = 1 ∧ (0 < v ∨ v = 0 ∧ u = 1) ∧ Low s p.c r ∧ s ≠ 0 ∧ s.natAbs < 2 ^ 120 := by
  unfold m_way_of
  rw [common_ok]
  simp only [Option.bind_some]
  have hg : 0 < Int.gcd p.a p.b := by
    rcases h.nz with z | z
    · exact Int.gcd_pos_of_ne_zero_left _ z
    · exact Int.gcd_pos_of_ne_zero_right _ z
  have hl : Int.gcd p.a p.b < 2 ^ 120 := by
    rcases h.nz with z | z
    · exact Nat.lt_of_le_of_lt (Nat.le_of_dvd (by omega) (by have := Int.gcd_dvd_left p.a p.b; rwa [← Int.natAbs_dvd_natAbs, Int.natAbs_natCast] at this)) h.sa
    · exact Nat.lt_of_le_of_lt (Nat.le_of_dvd (by omega) (by have := Int.gcd_dvd_right p.a p.b; rwa [← Int.natAbs_dvd_natAbs, Int.natAbs_natCast] at this)) h.sb
  have hs : ∃ s : Int, (if (decide (p.b < 0) || decide (p.b = 0) && decide (p.a < 0)) = true then some (-(Int.gcd p.a p.b : Int)) else some (Int.gcd p.a p.b : Int)) = some s ∧ s.natAbs = Int.gcd p.a p.b ∧ (0 < s ↔ (0 < p.b ∨ p.b = 0 ∧ 0 ≤ p.a)) := by
    by_cases z : p.b < 0 ∨ p.b = 0 ∧ p.a < 0
    · rw [if_pos (by simpa using z)]; exact ⟨_, rfl, by omega, by omega⟩
    · rw [if_neg (by simpa using z)]; exact ⟨_, rfl, by omega, by omega⟩
  obtain ⟨s, es, ns, ss⟩ := hs
  rw [es]; simp only [Option.bind_some]
  have hs0 : s ≠ 0 := by omega
  have dg : s ∣ (Int.gcd p.a p.b : Int) := by rw [← ns]; exact Int.dvd_natAbs.mpr (Int.dvd_refl s)
  obtain ⟨u, hu⟩ := Int.dvd_trans dg (Int.gcd_dvd_left p.a p.b)
  obtain ⟨v, hv⟩ := Int.dvd_trans dg (Int.gcd_dvd_right p.a p.b)
  rw [Int.mul_comm] at hu hv
  have n2 : s.natAbs < 2 ^ 120 := by rw [ns]; exact hl
  have one : Int.gcd u v = 1 := by
    have e := Int.gcd_mul_right u s v
    rw [← hu, ← hv, ← ns] at e
    have : 0 < s.natAbs := by omega
    exact (Nat.eq_of_mul_eq_mul_right this (by rw [Nat.one_mul]; exact e)).symm
  obtain ⟨r, er, wr⟩ := ratio_ok (t := s) h.pos (pow_le h.sc (by decide))
  refine ⟨u, v, s, r, ?_, hu, hv, one, ?_, wr, hs0, n2⟩
  · rw [show divG p.a s = some u by rw [hu]; exact divG_mul 120 hs0 n2 (by decide), show divG p.b s = some v by rw [hv]; exact divG_mul 120 hs0 n2 (by decide)]
    simp only [Option.bind_some, er]
  · rcases Int.lt_trichotomy p.b 0 with z | z | z
    · left
      have : ¬ 0 < s := by rw [ss]; omega
      exact pos_l (s := -s) (by omega) (by rw [Int.mul_neg]; omega)
    · right
      have v0 : v = 0 := by
        rw [z] at hv
        rcases Int.mul_eq_zero.mp hv.symm with t | t
        · exact t
        · omega
      refine ⟨v0, ?_⟩
      rw [v0, Int.gcd_zero_right] at one
      have pa : p.a ≠ 0 := by have := h.nz; omega
      rcases Int.lt_or_le p.a 0 with q | q
      · have : ¬ 0 < s := by rw [ss]; omega
        have := pos_l (v := u) (s := -s) (by omega) (by rw [Int.mul_neg]; omega)
        omega
      · have : 0 < s := by rw [ss]; omega
        have := pos_l (v := u) this (by omega)
        omega
    · left
      exact pos_l (s := s) (by rw [ss]; omega) (by omega)
/-! ### plain: the cloths drawn -/
def spk (j : Nat) : P2 := ([⟨5, 0⟩, ⟨5, 1⟩, ⟨5, 2⟩, ⟨4, 3⟩, ⟨3, 4⟩, ⟨2, 5⟩, ⟨0, 5⟩, ⟨-1, 5⟩, ⟨-2, 5⟩, ⟨-3, 4⟩, ⟨-4, 3⟩, ⟨-5, 2⟩, ⟨-5, 0⟩, ⟨-5, -1⟩, ⟨-5, -2⟩, ⟨-4, -3⟩, ⟨-3, -4⟩, ⟨-2, -5⟩, ⟨0, -5⟩, ⟨1, -5⟩, ⟨2, -5⟩, ⟨3, -4⟩, ⟨4, -3⟩, ⟨5, -2⟩] : List P2).getD j ⟨0, 0⟩
theorem spk_ok : ∀ j : Nat, j < 24 → ((ix [(⟨5, 0⟩ : P2), ⟨5, 1⟩, ⟨5, 2⟩, ⟨4, 3⟩, ⟨3, 4⟩, ⟨2, 5⟩] ((j : Int) % 6)).bind fun x2 => (rngOk ((j : Int) / 6)).bind fun _ => (foldO (fun (x3 : Int) (s3 : (Int × Int)) => some (-s3.2, s3.1)) (rangeL 0 ((j : Int) / 6).toNat) (x2.a, x2.b))) = some ((spk j).a, (spk j).b) := by decide +kernel
theorem spk_sm : ∀ j < 24, (spk j).a.natAbs ≤ 5 ∧ (spk j).b.natAbs ≤ 5 := by decide +kernel
theorem spk_un : ∀ j < 24, ∀ i < j, (spk i).a * (spk j).b - (spk j).a * (spk i).b ≠ 0 ∨ (spk i).a * (spk j).a + (spk i).b * (spk j).b < 0 := by decide +kernel
def spt (a : Int) (j : Nat) : P2 := ⟨a * (spk j).a, a * (spk j).b⟩
theorem sq0 (x : Int) : 0 ≤ x * x := by
  rcases Int.le_total 0 x with h | h
  · exact Int.mul_nonneg h h
  · exact Int.mul_nonneg_of_nonpos_of_nonpos h h
theorem spt_ne {i j : Nat} {a c : Int} (hi : i < j) (hj : j < 24) (ha : 1 ≤ a) (hc : 1 ≤ c) : spt a i ≠ spt c j := by
  intro e
  unfold spt at e
  injection e with e1 e2
  have hac : 0 < a * c := Int.mul_pos (by omega) (by omega)
  rcases spk_un j hj i hi with h | h
  · generalize (spk i).a = x1 at *
    generalize (spk i).b = y1 at *
    generalize (spk j).a = x2 at *
    generalize (spk j).b = y2 at *
    have : a * c * (x1 * y2 - x2 * y1) = 0 := by
      rw [show a * c * (x1 * y2 - x2 * y1) = (a * x1) * (c * y2) - (c * x2) * (a * y1) by grind, e1, e2]; grind
    rcases Int.mul_eq_zero.mp this with t | t
    · omega
    · exact h t
  · generalize (spk i).a = x1 at *
    generalize (spk i).b = y1 at *
    generalize (spk j).a = x2 at *
    generalize (spk j).b = y2 at *
    have : a * c * (x1 * x2 + y1 * y2) = (c * x2) * (c * x2) + (c * y2) * (c * y2) := by
      rw [show a * c * (x1 * x2 + y1 * y2) = (a * x1) * (c * x2) + (a * y1) * (c * y2) by grind, e1, e2]
    have q1 : 0 ≤ (c * x2) * (c * x2) := sq0 _
    have q2 : 0 ≤ (c * y2) * (c * y2) := sq0 _
    have := Int.mul_neg_of_pos_of_neg hac h
    omega
structure Rn (B : Nat) (us : List P2) : Prop where
  nd : us.Nodup
  l3 : 3 ≤ us.length
  l24 : us.length ≤ 24
  sm : ∀ u ∈ us, u.a.natAbs ≤ B ∧ u.b.natAbs ≤ B
theorem Rn.mono {B C : Nat} {us : List P2} (h : Rn B us) (hB : B ≤ C) : Rn C us := ⟨h.nd, h.l3, h.l24, fun u hu => ⟨Nat.le_trans (h.sm u hu).1 hB, Nat.le_trans (h.sm u hu).2 hB⟩⟩
theorem sm5 {a x : Int} {far : Int} (h1 : 1 ≤ a) (h2 : a ≤ far) (hx : x.natAbs ≤ 5) : (a * x).natAbs ≤ 5 * far.natAbs := by
  rw [Int.natAbs_mul, Nat.mul_comm]
  exact Nat.mul_le_mul hx (by omega)
structure SI (far z : Int) (k : Nat) (us : List P2) : Prop where
  nd : us.Nodup
  mem : ∀ u ∈ us, ∃ a j, j < k ∧ 1 ≤ a ∧ a ≤ far ∧ u = spt a j
  le : us.length ≤ k
  ge : ((k : Int) + 7 - z) / 8 ≤ us.length
theorem SI.rg {far z : Int} {us : List P2} (h : SI far z 24 us) (hz : z ≤ 7) : Rn (5 * far.natAbs) us := by
  refine ⟨h.nd, by have := h.ge; omega, h.le, fun u hu => ?_⟩
  obtain ⟨a, j, hj, a1, a2, e⟩ := h.mem u hu
  subst e
  exact ⟨sm5 a1 a2 (spk_sm j hj).1, sm5 a1 a2 (spk_sm j hj).2⟩
theorem SI.add {far z c : Int} {k : Nat} {us : List P2} (h : SI far z k us) (hk : k < 24) (h1 : 1 ≤ c) (h2 : c ≤ far) : SI far z (k + 1) (us ++ [spt c k]) := by
  refine ⟨List.nodup_append.mpr ⟨h.nd, by simp, fun u hu v hv => ?_⟩, fun u hu => ?_, by have := h.le; simp; omega, by have := h.ge; simp; omega⟩
  · obtain ⟨a, j, hj, a1, a2, e⟩ := h.mem u hu
    rw [List.mem_singleton.mp hv, e]
    exact spt_ne hj hk a1 h1
  · rcases List.mem_append.mp hu with hu | hu
    · obtain ⟨a, j, hj, a1, a2, e⟩ := h.mem u hu
      exact ⟨a, j, by omega, a1, a2, e⟩
    · exact ⟨c, k, by omega, h1, h2, List.mem_singleton.mp hu⟩
theorem SI.skip {far z : Int} {k : Nat} {us : List P2} (h : SI far z k us) (hz : 0 ≤ z) (hz7 : z ≤ 7) (n : (k : Int) % 8 ≠ z) : SI far z (k + 1) us := by
  refine ⟨h.nd, fun u hu => ?_, by have := h.le; omega, by have := h.ge; omega⟩
  obtain ⟨a, j, hj, a1, a2, e⟩ := h.mem u hu
  exact ⟨a, j, by omega, a1, a2, e⟩
theorem star_ok {xs : List Int} {most far : Int} (h : Bag xs) (f1 : 1 ≤ far) (f2 : far ≤ 1000000) : ∃ r, m__law_star xs most far = some r ∧ Bag r.2 ∧ Rn (5 * far.natAbs) r.1 := by
  unfold m__law_star
  obtain ⟨z, y0, e0, b0, l0, u0⟩ := draw_ok h (many := 8) (by decide) (by decide)
  rw [Option.bind_some, e0, Option.bind_some, Option.bind_some]
  dsimp only
  refine foldO_rangeE (fun k (s : List Int × Int × List P2) => Bag s.1 ∧ SI far z k s.2.2) (fun j s hj i => ?_) ⟨b0, List.nodup_nil, fun _ h => (nomatch h), Nat.le_refl _, by simp; omega⟩ (fun s' i => ⟨_, rfl, i.1, i.2.rg (by omega)⟩)
  obtain ⟨bg, si⟩ := i
  obtain ⟨p, ep, h1⟩ := ob (spk_ok j hj)
  obtain ⟨_, er, h2⟩ := ob h1
  rw [ep, Option.bind_some, er, Option.bind_some, h2, Option.bind_some]
  obtain ⟨l, y1, e1, b1, l1, u1⟩ := draw_ok bg (many := far) (by omega) (by omega)
  rw [e1, Option.bind_some, Option.bind_some]
  dsimp only
  have hb : ∃ b : Bool × List Int, (if decide (0 < s.2.1) = true then (m__law_draw y1 24).bind fun z4 => some (decide (z4.1 < most), z4.2) else some (false, y1)) = some b ∧ Bag b.2 := by
    split
    · obtain ⟨l, y2, e2, b2, l2, u2⟩ := draw_ok b1 (many := 24) (by decide) (by decide)
      rw [e2]; exact ⟨_, rfl, b2⟩
    · exact ⟨_, rfl, b1⟩
  obtain ⟨b, eb, bb⟩ := hb
  rw [eb, Option.bind_some]
  have s1 := (spk_sm j hj).1
  have s2 := (spk_sm j hj).2
  rw [mulG_ok 30 30 (a := 1 + l) (b := (spk j).a) (by omega) (by omega) (by decide), mulG_ok 30 30 (a := 1 + l) (b := (spk j).b) (by omega) (by omega) (by decide)]
  have hl := si.le
  simp only [Option.bind_some]
  rw [lenOk_ok (by omega)]
  simp only [Option.bind_some]
  by_cases c : (j : Int) % 8 = z
  · rw [if_pos (by simpa using c), Option.bind_some]
    exact ⟨_, rfl, bb, si.add hj (by omega) (by omega)⟩
  · rw [if_neg (by simpa using c)]
    cases b.1 with
    | true => exact ⟨_, rfl, bb, si.add hj (by omega) (by omega)⟩
    | false => exact ⟨_, rfl, bb, si.skip (by omega) (by omega) c⟩
structure TI (far many : Int) (j : Nat) (us : List P2) : Prop where
  ex : ∃ l q, us = ⟨0, 0⟩ :: (l ++ [q]) ∧ (l ++ [q]).Nodup ∧ q.a = many - j ∧ (∀ u ∈ l, q.a < u.a) ∧ (∀ u ∈ l ++ [q], (0 < u.a ∨ 0 < u.b) ∧ 0 ≤ u.a ∧ u.a ≤ 11 ∧ 0 ≤ u.b ∧ u.b ≤ far) ∧ l.length ≤ 2 * j ∧ j ≤ l.length
theorem TI.rg {far many : Int} {us : List P2} (h : TI far many many.toNat us) (h1 : 1 ≤ many) (h2 : many ≤ 11) (hf : 6 ≤ far) : Rn (5 * far.natAbs) us := by
  obtain ⟨l, q, e, nd, qa, lt, sm, le, ge⟩ := h.ex
  subst e
  refine ⟨List.nodup_cons.mpr ⟨fun hm => ?_, nd⟩, by simp; omega, by simp; omega, fun u hu => ?_⟩
  · have := (sm _ hm).1
    simp at this
  · rcases List.mem_cons.mp hu with e | hu
    · subst e; simp
    · have := sm u hu; omega
theorem ix_last {α : Type} (l : List α) (q : α) (x : α) : ix (x :: (l ++ [q])) (-1) = some q := by
  have := ix_neg (xs := x :: (l ++ [q])) (k := 0) (by simp)
  rw [show (-1 : Int) - ((0 : Nat) : Int) = -1 by omega] at this
  rw [this]
  simp
theorem steps_ok {xs : List Int} {far : Int} (h : Bag xs) (f1 : 6 ≤ far) (f2 : far ≤ 1000000) : ∃ r, m__law_steps xs far = some r ∧ Bag r.2 ∧ Rn (5 * far.natAbs) r.1 := by
  unfold m__law_steps
  obtain ⟨z, y0, e0, b0, l0, u0⟩ := draw_ok h (many := 11) (by decide) (by decide)
  rw [e0, Option.bind_some, Option.bind_some]
  dsimp only
  rw [rngOk_ok (by omega) (by omega), Option.bind_some, rngOk_ok (by omega) (by omega), Option.bind_some, show (1 + z - 1 - -1).toNat = (1 + z).toNat by omega]
  generalize hM : 1 + z = many at *
  have m1 : 1 ≤ many := by omega
  have m2 : many ≤ 11 := by omega
  refine foldO_downE (fun k (s : List Int × List P2) => Bag s.1 ∧ TI far many k s.2) (fun j s hj i => ?_) ⟨b0, ⟨[], ⟨many, 0⟩, rfl, by simp, by simp, fun _ h => (nomatch h), fun u hu => ?_, by simp, by simp⟩⟩ (fun s' i => ⟨_, rfl, i.1, i.2.rg m1 m2 f1⟩)
  · obtain ⟨bg, l, q, e, nd, qa, lt, sm, le, ge⟩ := i
    obtain ⟨d, y1, e1, b1, l1, u1⟩ := draw_ok bg (many := far) (by omega) (by omega)
    rw [e1, Option.bind_some, Option.bind_some]
    dsimp only
    obtain ⟨s1, s2⟩ := s
    simp only at e
    subst e
    rw [ix_last, Option.bind_some]
    have hlen : ((⟨0, 0⟩ : P2) :: (l ++ [q])).length = l.length + 2 := by simp
    rw [lenOk_ok (by rw [hlen]; omega), Option.bind_some]
    have ek : many - 1 - (j : Int) + 1 = q.a := by omega
    rw [ek]
    have hjm : (j : Int) < many := by omega
    by_cases c : q = ⟨q.a, 1 + d⟩
    · rw [if_neg (by simpa using c), Option.bind_some, lenOk_ok (by rw [hlen]; omega)]
      refine ⟨_, rfl, b1, l ++ [q], ⟨many - 1 - j, 1 + d⟩, by simp, ?_, by show many - 1 - (j : Int) = many - ((j + 1 : Nat) : Int); omega, fun u hu => ?_, fun u hu => ?_, by simp; omega, by simp; omega⟩
      · refine List.nodup_append.mpr ⟨nd, by simp, fun u hu v hv => ?_⟩
        rw [List.mem_singleton.mp hv]
        intro e
        have : u.a = many - 1 - j := by rw [e]
        rcases List.mem_append.mp hu with hu | hu
        · have := lt u hu; omega
        · rw [List.mem_singleton.mp hu] at this; omega
      · rcases List.mem_append.mp hu with hu | hu
        · have := lt u hu; show many - 1 - (j : Int) < _; omega
        · rw [List.mem_singleton.mp hu]; show many - 1 - (j : Int) < _; omega
      · rcases List.mem_append.mp hu with hu | hu
        · exact sm u hu
        · rw [List.mem_singleton.mp hu]; exact ⟨.inr (by show 0 < 1 + d; omega), by show 0 ≤ many - 1 - (j : Int); omega, by show many - 1 - (j : Int) ≤ 11; omega, by show 0 ≤ 1 + d; omega, by show 1 + d ≤ far; omega⟩
    · rw [if_pos (by simpa using c), Option.bind_some, lenOk_ok (by rw [List.length_append, hlen]; simp; omega)]
      refine ⟨_, rfl, b1, l ++ [q] ++ [⟨q.a, 1 + d⟩], ⟨many - 1 - j, 1 + d⟩, by simp, ?_, by show many - 1 - (j : Int) = many - ((j + 1 : Nat) : Int); omega, fun u hu => ?_, fun u hu => ?_, by simp; omega, by simp; omega⟩
      · refine List.nodup_append.mpr ⟨List.nodup_append.mpr ⟨nd, by simp, fun u hu v hv => ?_⟩, by simp, fun u hu v hv => ?_⟩
        · rw [List.mem_singleton.mp hv]
          intro e
          rcases List.mem_append.mp hu with hu | hu
          · have := lt u hu
            rw [e] at this
            simp at this
          · rw [List.mem_singleton.mp hu] at e
            exact c e
        · rw [List.mem_singleton.mp hv]
          intro e
          have : u.a = many - 1 - j := by rw [e]
          rcases List.mem_append.mp hu with hu | hu
          · rcases List.mem_append.mp hu with hu | hu
            · have := lt u hu; omega
            · rw [List.mem_singleton.mp hu] at this; omega
          · rw [List.mem_singleton.mp hu] at this
            simp only at this; omega
      · rcases List.mem_append.mp hu with hu | hu
        · rcases List.mem_append.mp hu with hu | hu
          · have := lt u hu; show many - 1 - (j : Int) < _; omega
          · rw [List.mem_singleton.mp hu]; show many - 1 - (j : Int) < _; omega
        · rw [List.mem_singleton.mp hu]; show many - 1 - (j : Int) < q.a; omega
      · have hq := sm q (by simp)
        rcases List.mem_append.mp hu with hu | hu
        · rcases List.mem_append.mp hu with hu | hu
          · exact sm u hu
          · rw [List.mem_singleton.mp hu]; exact ⟨.inr (by show 0 < 1 + d; omega), hq.2.1, hq.2.2.1, by show 0 ≤ 1 + d; omega, by show 1 + d ≤ far; omega⟩
        · rw [List.mem_singleton.mp hu]; exact ⟨.inr (by show 0 < 1 + d; omega), by show 0 ≤ many - 1 - (j : Int); omega, by show many - 1 - (j : Int) ≤ 11; omega, by show 0 ≤ 1 + d; omega, by show 1 + d ≤ far; omega⟩
  · have : u = ⟨many, 0⟩ := by simpa using hu
    subst this
    exact ⟨.inl (by show 0 < many; omega), by show 0 ≤ many; omega, m2, Int.le_refl _, by show (0 : Int) ≤ far; omega⟩
theorem Rn.map {B C : Nat} {us : List P2} {f : P2 → P2} (h : Rn B us) (inj : ∀ u v, f u = f v → u = v) (sm : ∀ u ∈ us, (f u).a.natAbs ≤ C ∧ (f u).b.natAbs ≤ C) : Rn C (us.map f) := by
  refine ⟨?_, by rw [List.length_map]; exact h.l3, by rw [List.length_map]; exact h.l24, fun u hu => ?_⟩
  · exact List.Pairwise.map f (fun a b hab e => hab (inj a b e)) h.nd
  · obtain ⟨v, hv, e⟩ := List.mem_map.mp hu
    subst e; exact sm v hv
theorem Rn.perm {B : Nat} {us vs : List P2} (h : Rn B us) (p : vs.Perm us) : Rn B vs := ⟨p.nodup_iff.mpr h.nd, by rw [p.length_eq]; exact h.l3, by rw [p.length_eq]; exact h.l24, fun u hu => h.sm u (p.mem_iff.mp hu)⟩
theorem mul_in {a x k : Int} (hk : 0 < k) (h : a * k = x * k) : a = x := Int.eq_of_mul_eq_mul_right (by omega) h
theorem sm8 {x k : Int} {B : Nat} (hx : x.natAbs ≤ B) (h1 : 1 ≤ k) (h2 : k ≤ 8) : (x * k).natAbs ≤ 8 * B := by
  rw [Int.natAbs_mul, Nat.mul_comm]
  exact Nat.mul_le_mul (by omega) hx
def Rgs (B : Nat) (r : List (List P2)) : Prop := r.length ≤ 8 ∧ ∀ us ∈ r, Rn B us
theorem rings_ok {xs : List Int} {far : Int} (h : Bag xs) (f1 : 6 ≤ far) (f2 : far ≤ 1000000) : ∃ r, m__law_rings xs far = some r ∧ Bag r.2 ∧ Rgs (400 * far.natAbs) r.1 := by
  unfold m__law_rings
  obtain ⟨z, y0, e0, b0, l0, u0⟩ := draw_ok h (many := 8) (by decide) (by decide)
  rw [e0, Option.bind_some]
  dsimp only
  by_cases c1 : z < 3
  · rw [if_pos (by simpa using c1)]
    obtain ⟨w, y1, e1, b1, l1, u1⟩ := draw_ok b0 (many := 22) (by decide) (by decide)
    obtain ⟨r, e2, b2, g2⟩ := star_ok (most := 3 + w) b1 (by omega) f2
    rw [e1, Option.bind_some]
    dsimp only
    rw [e2]
    exact ⟨_, rfl, b2, by simp, fun us hus => by rw [List.mem_singleton.mp hus]; exact g2.mono (by omega)⟩
  rw [if_neg (by simpa using c1)]
  by_cases c2 : z = 3
  · rw [if_pos (by simpa using c2)]
    obtain ⟨r, e2, b2, g2⟩ := steps_ok b0 f1 f2
    rw [e2]
    exact ⟨_, rfl, b2, by simp, fun us hus => by rw [List.mem_singleton.mp hus]; exact g2.mono (by omega)⟩
  rw [if_neg (by simpa using c2)]
  by_cases c3 : z = 4
  · rw [if_pos (by simpa using c3)]
    exact ⟨_, rfl, b0, by simp, fun us hus => (nomatch hus)⟩
  rw [if_neg (by simpa using c3)]
  obtain ⟨w, y1, e1, b1, l1, u1⟩ := draw_ok b0 (many := 4) (by decide) (by decide)
  obtain ⟨st, e2, b2, g2⟩ := star_ok (most := 3 + w) b1 (by omega) f2
  rw [e1, Option.bind_some]
  dsimp only
  rw [e2, Option.bind_some]
  obtain ⟨v, y3, e3, b3, l3, u3⟩ := draw_ok b2 (many := 8) (by decide) (by decide)
  rw [e3, Option.bind_some, Option.bind_some]
  dsimp only
  generalize hM : 1 + v = many at *
  have m1 : 1 ≤ many := by omega
  have m2 : many ≤ 8 := by omega
  refine loopW_E (fun n (s : List Int × List (List P2) × Int × List P2) => Bag s.1 ∧ (s.2.1.length ≤ many.toNat ∧ many.toNat - s.2.1.length + 1 < n + 1 ∧ 0 < n) ∧ (∀ us ∈ s.2.1, Rn (400 * far.natAbs) us) ∧ Rn (5 * far.natAbs) s.2.2.2) _ _ ⟨b3, ⟨by simp, by simp; omega, by omega⟩, fun us hus => (nomatch hus), g2⟩ (fun s hs => by omega) (fun n s hs => ?_)
  obtain ⟨bg, ⟨le, fu, _⟩, rg, sg⟩ := hs
  by_cases c : ((decide ((s.2.1.length : Int) < many)) && (decide ((s.2.2.2.length : Int) ≤ s.2.2.1))) = true
  · rw [if_pos c, Option.bind_some]
    left
    simp only [Bool.and_eq_true, decide_eq_true_eq] at c
    have d1 : 1 ≤ many - (s.2.1.length : Int) := by omega
    have d2 : many - (s.2.1.length : Int) ≤ 8 := by omega
    generalize hD : many - (s.2.1.length : Int) = deep at *
    have hl := sg.l24
    suffices hs : ∃ t : List Int × List P2 × List P2, (if (decide (z < 7)) = true then
 ((lenOk s.2.2.2.length).bind fun _ =>
 (mapO (fun (x2 : (T2 Int Int)) =>
 ((mulG x2.a deep).bind fun z8 =>
 (mulG x2.b deep).bind fun z9 =>
 some ((T2.mk z8 z9)))) s.2.2.2).bind fun ys1 =>
 (if (decide (((s.2.1.length : Int) % 2) = 1)) = true then
 (some ys1.reverse)
 else
 (some ys1)).bind fun (s5 : (List (T2 Int Int))) =>
 some ((s.1, s.2.2.2, s5)))
 else
 ((lenOk s.2.2.2.length).bind fun _ =>
 (mapO (fun (x3 : (T2 Int Int)) =>
 ((mulG ((40 * far)) deep).bind fun z10 =>
 some ((T2.mk ((x3.a + z10)) x3.b)))) s.2.2.2).bind fun ys2 =>
 (m__law_draw s.1 4).bind fun z11 =>
 (m__law_star z11.2 ((3 + z11.1)) far).bind fun z12 =>
 some ((z12.2, z12.1, ys2)))) = some t ∧ Bag t.1 ∧ Rn (5 * far.natAbs) t.2.1 ∧ Rn (400 * far.natAbs) t.2.2 by
      obtain ⟨t, et, bt, t1, t2⟩ := hs
      rw [et, Option.bind_some, lenOk_ok (by omega), Option.bind_some, Option.bind_some]
      refine ⟨_, rfl, bt, ⟨by simp; omega, by simp; omega, by omega⟩, fun us hus => ?_, t1⟩
      rcases List.mem_append.mp hus with hu | hu
      · exact rg us hu
      · rw [List.mem_singleton.mp hu]; exact t2
    rw [lenOk_ok (by omega), Option.bind_some, Option.bind_some]
    by_cases c7 : z < 7
    · rw [if_pos (by simpa using c7), mapO_all (g := fun u : P2 => ⟨u.a * deep, u.b * deep⟩) (fun u hu => by
        have := sg.sm u hu
        rw [mulG_ok 40 40 (by omega) (by omega) (by decide), Option.bind_some, mulG_ok 40 40 (by omega) (by omega) (by decide)]
        rfl), Option.bind_some]
      have g4 : Rn (400 * far.natAbs) (s.2.2.2.map fun u : P2 => ⟨u.a * deep, u.b * deep⟩) := sg.map (fun u w e => by
        obtain ⟨u1, u2⟩ := u
        obtain ⟨w1, w2⟩ := w
        injection e with e1 e2
        simp only at e1 e2
        rw [mul_in (show 0 < deep by omega) e1, mul_in (show 0 < deep by omega) e2]) fun u hu => by
          obtain ⟨q1, q2⟩ := sg.sm u hu
          have := sm8 q1 d1 d2
          have := sm8 q2 d1 d2
          dsimp only
          omega
      split
      · exact ⟨_, rfl, bg, sg, g4.perm (List.reverse_perm _)⟩
      · exact ⟨_, rfl, bg, sg, g4⟩
    · rw [if_neg (by simpa using c7), mapO_all (g := fun u : P2 => ⟨u.a + 40 * far * deep, u.b⟩) (fun u hu => by
        rw [mulG_ok 40 40 (by omega) (by omega) (by decide)]
        rfl), Option.bind_some]
      obtain ⟨w5, y5, e5, b5, l5, u5⟩ := draw_ok bg (many := 4) (by decide) (by decide)
      obtain ⟨st2, e6, b6, g6⟩ := star_ok (most := 3 + w5) b5 (by omega) f2
      rw [e5, Option.bind_some]
      dsimp only
      rw [e6]
      refine ⟨_, rfl, b6, g6, sg.map (fun u w e => by
        obtain ⟨u1, u2⟩ := u
        obtain ⟨w1, w2⟩ := w
        injection e with e1 e2
        simp only at e1 e2
        rw [e2, show u1 = w1 by omega]) fun u hu => ?_⟩
      obtain ⟨q1, q2⟩ := sg.sm u hu
      have : (40 * far * deep).natAbs ≤ 320 * far.natAbs := by
        rw [Int.mul_assoc, Int.natAbs_mul, show (40 : Int).natAbs = 40 from rfl]
        have := sm8 (x := far) (k := deep) (B := far.natAbs) (Nat.le_refl _) d1 d2
        omega
      dsimp only
      omega
  · rw [if_neg c]
    right
    exact ⟨_, rfl, _, rfl, bg, by show s.2.1.length ≤ 8; omega, rg⟩
/-- a cloth: rings over a bottom -/
structure Cl (B : Nat) (c : T2 (List (List P2)) Int) : Prop where
  b1 : 1 ≤ c.b
  b2 : c.b ≤ 1000000
  rs : Rgs B c.a
theorem rot_perm {α : Type} (us : List α) (k : Nat) : (us.drop k ++ us.take k).Perm us := by
  have := List.perm_append_comm (l₁ := us.drop k) (l₂ := us.take k)
  rwa [List.take_append_drop] at this
theorem cloth_ok {xs : List Int} (h : Bag xs) : ∃ r, m__law_cloth xs = some r ∧ Bag r.2 ∧ Cl 400000000 r.1 := by
  unfold m__law_cloth
  obtain ⟨z, y0, e0, b0, l0, u0⟩ := draw_ok h (many := 3) (by decide) (by decide)
  obtain ⟨w, y1, e1, b1, l1, u1⟩ := draw_ok b0 (many := 8) (by decide) (by decide)
  rw [e0, Option.bind_some, Option.bind_some]
  dsimp only
  rw [e1, Option.bind_some]
  dsimp only
  have hq : ∃ q : List Int × Int × Int, (if (decide (w = 5)) = true then
 ((m__law_draw y1 1000000).bind fun z3 =>
 (some ((1 + z3.1))).bind fun (bottom_2 : Int) =>
 some ((z3.2, bottom_2, 1000000)))
 else
 (some ((y1, 1 + z, 6)))) = some q ∧ Bag q.1 ∧ (1 ≤ q.2.1 ∧ q.2.1 ≤ 1000000) ∧ (6 ≤ q.2.2 ∧ q.2.2 ≤ 1000000) := by
    split
    · obtain ⟨v, y2, e2, b2, l2, u2⟩ := draw_ok b1 (many := 1000000) (by decide) (by decide)
      rw [e2]; exact ⟨_, rfl, b2, ⟨by show 1 ≤ 1 + v; omega, by show 1 + v ≤ _; omega⟩, by show (6 : Int) ≤ 1000000; decide, by show (1000000 : Int) ≤ 1000000; decide⟩
    · exact ⟨_, rfl, b1, ⟨by show 1 ≤ 1 + z; omega, by show 1 + z ≤ _; omega⟩, by show (6 : Int) ≤ 6; decide, by show (6 : Int) ≤ 1000000; decide⟩
  obtain ⟨q, eq, bq, ⟨q1, q2⟩, q3, q4⟩ := hq
  rw [eq, Option.bind_some]
  obtain ⟨r, er, br, r8, rr⟩ := rings_ok bq q3 q4
  rw [er, Option.bind_some]
  refine foldO_memE (fun k (s : List Int × List (List P2)) => Bag s.1 ∧ s.2.length = k ∧ ∀ us ∈ s.2, Rn 400000000 us) (fun j us s hj i => ?_) ⟨br, rfl, fun us hus => (nomatch hus)⟩ (fun s i => ⟨_, rfl, i.1, q1, q2, by rw [i.2.1]; exact r8, i.2.2⟩)
  obtain ⟨bg, ln, rg⟩ := i
  have hr := rr us (List.mem_of_getElem? hj)
  have h3 := hr.l3
  have h24 := hr.l24
  obtain ⟨d, y2, e2, b2, l2, u2⟩ := draw_ok bg (many := (us.length : Int)) (by omega) (by omega)
  rw [e2, Option.bind_some]
  dsimp only
  have hj8 : j < 8 := by have := (List.getElem?_eq_some_iff.mp hj).1; omega
  obtain ⟨k, ek⟩ : ∃ k : Nat, d = (k : Int) := ⟨d.toNat, by omega⟩
  subst ek
  rw [slice_from (by omega), slice_to (by omega), lenOk_ok (by rw [List.length_drop, List.length_take]; omega), Option.bind_some, lenOk_ok (by omega)]
  refine ⟨_, rfl, b2, by simp [ln], fun vs hvs => ?_⟩
  rcases List.mem_append.mp hvs with hv | hv
  · exact rg vs hv
  · rw [List.mem_singleton.mp hv]; exact (hr.perm (rot_perm us k)).mono (by omega)
/-! ### plain: sides that do not meet -/
abbrev Sx : Type := T2 P2 P2
/-- both, between their ends, have a point in common -/
def Mt (s t : Sx) : Prop := ∃ a b g d : Int, 0 < a ∧ 0 < b ∧ 0 < g ∧ 0 < d ∧ a + b = g + d ∧ a * s.a.a + b * s.b.a = g * t.a.a + d * t.b.a ∧ a * s.a.b + b * s.b.b = g * t.a.b + d * t.b.b
def NU (s t : Sx) : Prop := s.a.a ≠ s.b.a → t.a.a ≠ t.b.a → ¬ Mt s t
def swp {α : Type} (s : T2 α α) : T2 α α := ⟨s.b, s.a⟩
theorem Mt.symm {s t : Sx} (h : Mt s t) : Mt t s := by
  obtain ⟨a, b, g, d, h1, h2, h3, h4, e, e1, e2⟩ := h
  exact ⟨g, d, a, b, h3, h4, h1, h2, e.symm, e1.symm, e2.symm⟩
theorem Mt.swp {s t : Sx} (h : Mt (swp s) t) : Mt s t := by
  obtain ⟨a, b, g, d, h1, h2, h3, h4, e, e1, e2⟩ := h
  exact ⟨b, a, g, d, h2, h1, h3, h4, by omega, by rw [Int.add_comm]; exact e1, by rw [Int.add_comm]; exact e2⟩
theorem NU.symm {s t : Sx} (h : NU s t) : NU t s := fun h1 h2 m => h h2 h1 m.symm
theorem NU.swl {s t : Sx} (h : NU s t) : NU (swp s) t := fun h1 h2 m => h (Ne.symm h1) h2 m.swp
theorem NU.swr {s t : Sx} (h : NU s t) : NU s (swp t) := h.symm.swl.symm
def wd (s : Sx) : Int := s.b.a - s.a.a
/-- how high a side's line lies over X / c, times c times its width -/
def hn (c X : Int) (s : Sx) : Int := c * s.a.b * wd s + (X - c * s.a.a) * (s.b.b - s.a.b)
def dif (c X : Int) (s t : Sx) : Int := hn c X t * wd s - hn c X s * wd t
structure In (c X : Int) (s : Sx) : Prop where
  l : c * s.a.a < X
  r : X < c * s.b.a
def NC (s t : Sx) : Prop := ∀ c X, 0 < c → In c X s → In c X t → dif c X s t ≠ 0
theorem NU.nc {s t : Sx} (hs : s.a.a < s.b.a) (ht : t.a.a < t.b.a) (h : NU s t) : NC s t := by
  intro c X hc is it e
  refine h (by omega) (by omega) ⟨wd t * (c * s.b.a - X), wd t * (X - c * s.a.a), wd s * (c * t.b.a - X), wd s * (X - c * t.a.a), Int.mul_pos (by unfold wd; omega) (by have := is.r; omega), Int.mul_pos (by unfold wd; omega) (by have := is.l; omega), Int.mul_pos (by unfold wd; omega) (by have := it.r; omega), Int.mul_pos (by unfold wd; omega) (by have := it.l; omega), ?_, ?_, ?_⟩
  · unfold wd; grind
  · unfold wd; grind
  · unfold dif hn at e
    have e1 : wd t * (c * s.b.a - X) * s.a.b + wd t * (X - c * s.a.a) * s.b.b = hn c X s * wd t := by unfold hn wd; grind
    have e2 : wd s * (c * t.b.a - X) * t.a.b + wd s * (X - c * t.a.a) * t.b.b = hn c X t * wd s := by unfold hn wd; grind
    rw [e1, e2]; unfold hn; omega
theorem NC.symm {s t : Sx} (h : NC s t) : NC t s := by
  intro c X hc is it e
  refine h c X hc it is ?_
  unfold dif at *; omega
theorem dif_lin (c X d Y u v : Int) (s t : Sx) : dif (v * c + u * d) (v * X + u * Y) s t = v * dif c X s t + u * dif d Y s t := by unfold dif hn; grind
/-- the order stays, up to the ends -/
theorem NC.ends {s t : Sx} (h : NC s t) {c X d Y : Int} (hc : 0 < c) (hd : 0 < d) (i1 : In c X s) (i2 : In c X t) (l1 : d * s.a.a ≤ Y) (r1 : Y ≤ d * s.b.a) (l2 : d * t.a.a ≤ Y) (r2 : Y ≤ d * t.b.a) (p : 0 < dif c X s t) : 0 ≤ dif d Y s t := by
  rcases Int.lt_or_le (dif d Y s t) 0 with z | z
  · exfalso
    have hv : 0 < -dif d Y s t := by omega
    have e := dif_lin c X d Y (dif c X s t) (-dif d Y s t) s t
    generalize hu' : dif c X s t = u at *
    generalize hv' : -dif d Y s t = v at *
    have e' : dif (v * c + u * d) (v * X + u * Y) s t = 0 := by rw [e, show dif d Y s t = -v by omega, Int.mul_neg, Int.mul_comm u v]; omega
    refine h _ _ (Int.add_pos (Int.mul_pos hv hc) (Int.mul_pos p hd)) ⟨?_, ?_⟩ ⟨?_, ?_⟩ e'
    · have a1 := Int.mul_lt_mul_of_pos_left i1.l hv
      have a2 := Int.mul_le_mul_of_nonneg_left l1 (Int.le_of_lt p)
      rw [show (v * c + u * d) * s.a.a = v * (c * s.a.a) + u * (d * s.a.a) by grind]; omega
    · have a1 := Int.mul_lt_mul_of_pos_left i1.r hv
      have a2 := Int.mul_le_mul_of_nonneg_left r1 (Int.le_of_lt p)
      rw [show (v * c + u * d) * s.b.a = v * (c * s.b.a) + u * (d * s.b.a) by grind]; omega
    · have a1 := Int.mul_lt_mul_of_pos_left i2.l hv
      have a2 := Int.mul_le_mul_of_nonneg_left l2 (Int.le_of_lt p)
      rw [show (v * c + u * d) * t.a.a = v * (c * t.a.a) + u * (d * t.a.a) by grind]; omega
    · have a1 := Int.mul_lt_mul_of_pos_left i2.r hv
      have a2 := Int.mul_le_mul_of_nonneg_left r2 (Int.le_of_lt p)
      rw [show (v * c + u * d) * t.b.a = v * (c * t.b.a) + u * (d * t.b.a) by grind]; omega
  · exact z
theorem NC.keep {s t : Sx} (h : NC s t) {c X d Y : Int} (hc : 0 < c) (hd : 0 < d) (i1 : In c X s) (i2 : In c X t) (j1 : In d Y s) (j2 : In d Y t) (p : 0 < dif c X s t) : 0 < dif d Y s t := by
  have := h.ends hc hd i1 i2 (Int.le_of_lt j1.l) (Int.le_of_lt j1.r) (Int.le_of_lt j2.l) (Int.le_of_lt j2.r) p
  have := h d Y hd j1 j2
  omega
/-- a side from left to right, if it is not upright -/
def ori (s : Sx) : Option Sx := if s.a.a < s.b.a then some s else if s.b.a < s.a.a then some (swp s) else none
theorem ori_nc {s t s' t' : Sx} (h : NU s t) (es : ori s = some s') (et : ori t = some t') : NC s' t' := by
  have one : ∀ {s s' : Sx}, ori s = some s' → (s' = s ∨ s' = swp s) ∧ s'.a.a < s'.b.a := by
    intro s s' e
    unfold ori at e
    split at e
    · cases e; exact ⟨.inl rfl, by assumption⟩
    · split at e
      · cases e; exact ⟨.inr rfl, by assumption⟩
      · cases e
  obtain ⟨o1, l1⟩ := one es
  obtain ⟨o2, l2⟩ := one et
  refine NU.nc l1 l2 ?_
  rcases o1 with rfl | rfl <;> rcases o2 with rfl | rfl
  · exact h
  · exact h.swr
  · exact h.swl
  · exact h.swl.swr
theorem pw_ori : ∀ {ss : List Sx}, ss.Pairwise NU → (ss.filterMap ori).Pairwise NC
  | [], _ => List.Pairwise.nil
  | s :: ss, h => by
    rw [List.pairwise_cons] at h
    have ih := pw_ori h.2
    rw [List.filterMap_cons]
    cases e : ori s with
    | none => exact ih
    | some s' =>
      refine List.pairwise_cons.mpr ⟨fun t' ht => ?_, ih⟩
      obtain ⟨t, ht, et⟩ := List.mem_filterMap.mp ht
      exact ori_nc (h.1 t ht) e et
/-! ### plain: sides beside one another -/
theorem NU.beside {s t : Sx} (m : Int) (h1 : s.a.a ≤ m) (h2 : s.b.a ≤ m) (h3 : m ≤ t.a.a) (h4 : m ≤ t.b.a) : NU s t := by
  intro n1 _ ⟨a, b, g, d, ha, hb, hg, hd, e, e1, _⟩
  have a1 := Int.mul_le_mul_of_nonneg_left h1 (Int.le_of_lt ha)
  have a2 := Int.mul_le_mul_of_nonneg_left h2 (Int.le_of_lt hb)
  have a3 := Int.mul_le_mul_of_nonneg_left h3 (Int.le_of_lt hg)
  have a4 := Int.mul_le_mul_of_nonneg_left h4 (Int.le_of_lt hd)
  have hm : a * m + b * m = g * m + d * m := by rw [← Int.add_mul, ← Int.add_mul, e]
  rcases Int.lt_or_eq_of_le h1 with z | z
  · have := Int.mul_lt_mul_of_pos_left z ha; omega
  · have : s.b.a < m := by omega
    have := Int.mul_lt_mul_of_pos_left this hb; omega
theorem NU.level {s t : Sx} {h k : Int} (h1 : s.a.b = h) (h2 : s.b.b = h) (h3 : t.a.b = k) (h4 : t.b.b = k) (n : h ≠ k) : NU s t := by
  intro _ _ ⟨a, b, g, d, ha, hb, hg, hd, e, _, e2⟩
  rw [h1, h2, h3, h4, ← Int.add_mul, ← Int.add_mul, ← e] at e2
  exact n (Int.eq_of_mul_eq_mul_left (by omega) e2)
theorem NU.upl {s t : Sx} (h : s.a.a = s.b.a) : NU s t := fun n => absurd h n
theorem NU.upr {s t : Sx} (h : t.a.a = t.b.a) : NU s t := fun _ n => absurd h n
/-! ### plain: sides between spokes -/
def sk (j : Nat) : P2 := spk (j % 24)
theorem sk_ar0 : ∀ j < 24, ∀ d < 25, (d ≤ 12 → 0 ≤ cr2 (spk j) (spk ((j + d) % 24))) ∧ (1 ≤ d → d ≤ 8 → 0 < cr2 (spk j) (spk ((j + d) % 24))) ∧ (12 ≤ d → cr2 (spk j) (spk ((j + d) % 24)) ≤ 0) := by decide +kernel
theorem sk_ar (j k : Nat) (h : j ≤ k) (h2 : k ≤ j + 24) : (k ≤ j + 12 → 0 ≤ cr2 (sk j) (sk k)) ∧ (j < k → k ≤ j + 8 → 0 < cr2 (sk j) (sk k)) ∧ (j + 12 ≤ k → cr2 (sk j) (sk k) ≤ 0) := by
  have := sk_ar0 (j % 24) (Nat.mod_lt _ (by decide)) (k - j) (by omega)
  have e : sk k = spk ((j % 24 + (k - j)) % 24) := by unfold sk; congr 1; omega
  rw [e]
  unfold sk
  exact ⟨fun h => this.1 (by omega), fun h1 h2 => this.2.1 (by omega) (by omega), fun h => this.2.2 (by omega)⟩
theorem cr2_sw (p q : P2) : cr2 q p = -cr2 p q := by unfold cr2; grind
theorem cr2_self (p : P2) : cr2 p p = 0 := by unfold cr2; grind
def mlp (x : Int) (p : P2) : P2 := ⟨x * p.a, x * p.b⟩
/-- between the spokes i and j -/
def Sec (i j : Nat) (s : Sx) : Prop := i < j ∧ j ≤ i + 8 ∧ ∃ x y : Int, 0 < x ∧ 0 < y ∧ s = ⟨mlp x (sk i), mlp y (sk j)⟩
theorem sep {w p q r t : P2} {a b g d x y u v : Int} (e1 : a * (x * p.a) + b * (y * q.a) = g * (u * r.a) + d * (v * t.a)) (e2 : a * (x * p.b) + b * (y * q.b) = g * (u * r.b) + d * (v * t.b)) :
    a * x * cr2 w p + b * y * cr2 w q = g * u * cr2 w r + d * v * cr2 w t := by
  have f1 : a * x * cr2 w p + b * y * cr2 w q = w.a * (a * (x * p.b) + b * (y * q.b)) - w.b * (a * (x * p.a) + b * (y * q.a)) := by unfold cr2; grind
  have f2 : g * u * cr2 w r + d * v * cr2 w t = w.a * (g * (u * r.b) + d * (v * t.b)) - w.b * (g * (u * r.a) + d * (v * t.a)) := by unfold cr2; grind
  rw [f1, f2, e1, e2]
theorem Sec.nu {i j k l : Nat} {s t : Sx} (hs : Sec i j s) (ht : Sec k l t) (h1 : j ≤ k) (h2 : l ≤ i + 24) : NU s t := by
  obtain ⟨ij, ij8, x, y, hx, hy, rfl⟩ := hs
  obtain ⟨kl, kl8, u, v, hu, hv, rfl⟩ := ht
  intro _ _ ⟨a, b, g, d, ha, hb, hg, hd, _, e1, e2⟩
  have ax := Int.mul_pos ha hx
  have bY := Int.mul_pos hb hy
  have gu := Int.mul_pos hg hu
  have dv := Int.mul_pos hd hv
  have S := fun w => sep (w := w) e1 e2
  by_cases c1 : l ≤ j + 12
  · have f := S (sk j)
    have q1 := (sk_ar i j (by omega) (by omega)).2.1 ij ij8
    have q2 := (sk_ar j k (by omega) (by omega)).1 (by omega)
    have q3 := (sk_ar j l (by omega) (by omega)).1 (by omega)
    rw [cr2_sw (sk i) (sk j), cr2_self] at f
    have := Int.mul_pos ax q1
    have := Int.mul_nonneg (Int.le_of_lt gu) q2
    have := Int.mul_nonneg (Int.le_of_lt dv) q3
    rw [Int.mul_neg] at f
    omega
  · by_cases c2 : i + 12 ≤ k
    · have f := S (sk i)
      have q1 := (sk_ar i j (by omega) (by omega)).2.1 ij ij8
      have q2 := (sk_ar i k (by omega) (by omega)).2.2 (by omega)
      have q3 := (sk_ar i l (by omega) (by omega)).2.2 (by omega)
      rw [cr2_self] at f
      have := Int.mul_pos bY q1
      have := Int.mul_nonpos_of_nonneg_of_nonpos (Int.le_of_lt gu) q2
      have := Int.mul_nonpos_of_nonneg_of_nonpos (Int.le_of_lt dv) q3
      omega
    · have f := S (sk k)
      have q1 := (sk_ar k l (by omega) (by omega)).2.1 kl kl8
      have q2 := (sk_ar i k (by omega) (by omega)).1 (by omega)
      have q3 := (sk_ar j k (by omega) (by omega)).1 (by omega)
      rw [cr2_self, cr2_sw (sk i) (sk k), cr2_sw (sk j) (sk k), Int.mul_neg, Int.mul_neg] at f
      have := Int.mul_pos dv q1
      have := Int.mul_nonneg (Int.le_of_lt ax) q2
      have := Int.mul_nonneg (Int.le_of_lt bY) q3
      omega
def scl (m : Int) (s : Sx) : Sx := ⟨⟨s.a.a * m, s.a.b * m⟩, ⟨s.b.a * m, s.b.b * m⟩⟩
theorem Sec.scl {i j : Nat} {s : Sx} {m : Int} (h : Sec i j s) (hm : 0 < m) : Sec i j (scl m s) := by
  obtain ⟨ij, ij8, x, y, hx, hy, rfl⟩ := h
  refine ⟨ij, ij8, x * m, y * m, Int.mul_pos hx hm, Int.mul_pos hy hm, ?_⟩
  unfold Sc.scl mlp
  dsimp only
  simp only [Int.mul_right_comm]
theorem Sec.same {i j : Nat} {s : Sx} {m n : Int} (h : Sec i j s) (hm : 0 < m) (hn : 0 < n) (ne : m ≠ n) : NU (Sc.scl m s) (Sc.scl n s) := by
  obtain ⟨ij, ij8, x, y, hx, hy, rfl⟩ := h
  have q := (sk_ar i j (by omega) (by omega)).2.1 ij ij8
  generalize hp : sk i = p at *
  generalize hq : sk j = r at *
  intro _ _ ⟨a, b, g, d, ha, hb, hg, hd, e, e1, e2⟩
  have e1' : a * (x * p.a * m) + b * (y * r.a * m) = g * (x * p.a * n) + d * (y * r.a * n) := e1
  have e2' : a * (x * p.b * m) + b * (y * r.b * m) = g * (x * p.b * n) + d * (y * r.b * n) := e2
  have f1 : (a * m - g * n) * (x * cr2 p r) = 0 := by
    have : (a * m - g * n) * (x * cr2 p r) = (a * (x * p.a * m) + b * (y * r.a * m)) * r.b - (a * (x * p.b * m) + b * (y * r.b * m)) * r.a - ((g * (x * p.a * n) + d * (y * r.a * n)) * r.b - (g * (x * p.b * n) + d * (y * r.b * n)) * r.a) := by unfold cr2; grind
    rw [this, e1', e2']; omega
  have f2 : (b * m - d * n) * (y * cr2 p r) = 0 := by
    have : (b * m - d * n) * (y * cr2 p r) = p.a * (a * (x * p.b * m) + b * (y * r.b * m)) - p.b * (a * (x * p.a * m) + b * (y * r.a * m)) - (p.a * (g * (x * p.b * n) + d * (y * r.b * n)) - p.b * (g * (x * p.a * n) + d * (y * r.a * n))) := by unfold cr2; grind
    rw [this, e1', e2']; omega
  have g1 : a * m = g * n := by
    rcases Int.mul_eq_zero.mp f1 with z | z
    · omega
    · have := Int.mul_pos hx q; omega
  have g2 : b * m = d * n := by
    rcases Int.mul_eq_zero.mp f2 with z | z
    · omega
    · have := Int.mul_pos hy q; omega
  have : (a + b) * m = (a + b) * n := by rw [Int.add_mul, g1, g2, ← Int.add_mul, ← e]
  exact ne (Int.eq_of_mul_eq_mul_left (by omega) this)
/-- in sectors apart -/
def Sp30 (s t : Sx) : Prop := ∃ i j k l, Sec i j s ∧ Sec k l t ∧ (j ≤ k ∧ l ≤ i + 24 ∨ l ≤ i ∧ j ≤ k + 24)
theorem Sp30.nu {s t : Sx} (h : Sp30 s t) : NU s t := by
  obtain ⟨i, j, k, l, hs, ht, h | h⟩ := h
  · exact hs.nu ht h.1 h.2
  · exact (ht.nu hs h.1 h.2).symm
theorem Sp30.scl {s t : Sx} {m n : Int} (h : Sp30 s t) (hm : 0 < m) (hn : 0 < n) : Sp30 (Sc.scl m s) (Sc.scl n t) := by
  obtain ⟨i, j, k, l, hs, ht, h⟩ := h
  exact ⟨i, j, k, l, hs.scl hm, ht.scl hn, h⟩
/-! ### plain: sides, once more -/
section
variable {α : Type}
theorem sdf_add : ∀ (a : α) (xs : List α) (y l : α), (a :: xs).getLast? = some l → sdf a (xs ++ [y]) = sdf a xs ++ [⟨l, y⟩]
  | a, [], y, l, h => by cases h; rfl
  | a, x :: xs, y, l, h => by
    show _ :: sdf x (xs ++ [y]) = _
    rw [sdf_add x xs y l (by simpa using h)]; rfl
theorem sdf_app : ∀ (a : α) (xs ys : List α) (l : α), xs.getLast? = some l → sdf a (xs ++ ys) = sdf a xs ++ sdf l ys
  | a, [], ys, l, h => by cases h
  | a, [x], ys, l, h => by cases h; rfl
  | a, x :: y :: xs, ys, l, h => by
    show _ :: sdf x (y :: xs ++ ys) = _
    rw [sdf_app x (y :: xs) ys l (by simpa using h)]; rfl
theorem sd_rot (xs ys : List α) : (sd (xs ++ ys)).Perm (sd (ys ++ xs)) := by
  cases hx : xs.getLast? with
  | none => rw [List.getLast?_eq_none_iff] at hx; subst hx; simp
  | some a =>
    cases hy : ys.getLast? with
    | none => rw [List.getLast?_eq_none_iff] at hy; subst hy; simp
    | some b =>
      have e1 : (xs ++ ys).getLast? = some b := by rw [List.getLast?_append, hy]; rfl
      have e2 : (ys ++ xs).getLast? = some a := by rw [List.getLast?_append, hx]; rfl
      unfold sd
      rw [e1, e2]
      show (sdf b (xs ++ ys)).Perm (sdf a (ys ++ xs))
      rw [sdf_app b xs ys a hx, sdf_app a ys xs b hy]
      exact List.perm_append_comm
theorem sdf_rev : ∀ (xs : List α) (a b : α), (sdf b (xs.reverse ++ [a])).Perm ((sdf a (xs ++ [b])).map swp)
  | [], a, b => List.Perm.refl _
  | x :: xs, a, b => by
    rw [List.reverse_cons, sdf_add b (xs.reverse ++ [x]) a x (by simp [List.getLast?_cons])]
    refine List.perm_append_comm.trans ?_
    exact List.Perm.cons _ (sdf_rev xs x b)
theorem sd_rev (xs : List α) : (sd xs.reverse).Perm ((sd xs).map swp) := by
  cases xs with
  | nil => exact List.Perm.refl _
  | cons x t =>
    obtain ⟨l, hl⟩ : ∃ l, (x :: t).getLast? = some l := by cases h : (x :: t).getLast? with
      | none => rw [List.getLast?_eq_none_iff] at h; cases h
      | some l => exact ⟨l, rfl⟩
    have e1 : (x :: t).reverse.getLast? = some x := by simp
    unfold sd
    rw [hl, e1]
    show (sdf x (x :: t).reverse).Perm _
    rw [List.reverse_cons]
    refine (sdf_rev t x x).trans ?_
    rw [sdf_add x t x l hl, List.map_append]
    exact List.perm_append_comm
theorem pw_mem {R : α → α → Prop} : ∀ {xs : List α} {x y : α}, xs.Pairwise R → x ∈ xs → y ∈ xs → x = y ∨ R x y ∨ R y x
  | [], _, _, _, h, _ => (nomatch h)
  | a :: xs, x, y, h, hx, hy => by
    rw [List.pairwise_cons] at h
    rcases List.mem_cons.mp hx with ex | kx
    · rcases List.mem_cons.mp hy with ey | ky
      · exact .inl (ex.trans ey.symm)
      · rw [ex]; exact .inr (.inl (h.1 y ky))
    · rcases List.mem_cons.mp hy with ey | ky
      · rw [ey]; exact .inr (.inr (h.1 x kx))
      · exact pw_mem h.2 kx ky
end
/-! ### plain: a ring about a middle -/
def sE (e : Int × Nat) : P2 := spt e.1 e.2
structure Ls (z k : Nat) (ls : List (Int × Nat)) : Prop where
  mem : ∀ e ∈ ls, 1 ≤ e.1 ∧ e.2 < k
  hd : ∀ e rest, ls = e :: rest → e.2 ≤ z
  lt : z < k → ∃ e, ls.getLast? = some e ∧ z + 8 * ((k - 1 - z) / 8) ≤ e.2
  ch : ∀ e rest l, ls = e :: rest → ls.getLast? = some l → e.2 ≤ l.2 ∧ (∀ s ∈ sdf e rest, e.2 ≤ s.a.2 ∧ s.a.2 < s.b.2 ∧ s.b.2 ≤ s.a.2 + 8 ∧ s.b.2 ≤ l.2) ∧ (sdf e rest).Pairwise fun s t => s.b.2 ≤ t.a.2
theorem Ls.nil (z : Nat) : Ls z 0 [] := ⟨fun _ h => (nomatch h), fun _ _ h => (nomatch h), fun h => absurd h (by omega), fun _ _ _ h => (nomatch h)⟩
theorem Ls.skip {z k : Nat} {ls : List (Int × Nat)} (h : Ls z k ls) (hz : z ≤ 7) (n : k % 8 ≠ z) : Ls z (k + 1) ls := by
  refine ⟨fun e he => ⟨(h.mem e he).1, by have := (h.mem e he).2; omega⟩, h.hd, fun hk => ?_, h.ch⟩
  obtain ⟨e, e1, e2⟩ := h.lt (by omega)
  exact ⟨e, e1, by omega⟩
theorem Ls.add {z k : Nat} {ls : List (Int × Nat)} {c : Int} (h : Ls z k ls) (hz : z ≤ 7) (hc : 1 ≤ c) : Ls z (k + 1) (ls ++ [(c, k)]) := by
  refine ⟨fun e he => ?_, fun e rest el => ?_, fun hk => ⟨(c, k), by simp, by show _ ≤ k; omega⟩, fun e rest l el ll => ?_⟩
  · rcases List.mem_append.mp he with he | he
    · exact ⟨(h.mem e he).1, by have := (h.mem e he).2; omega⟩
    · rw [List.mem_singleton.mp he]; exact ⟨hc, by show k < k + 1; omega⟩
  · cases ls with
    | nil =>
      have e1 : (c, k) = e := by injection el
      subst e1
      by_cases zk : z < k
      · obtain ⟨_, e1, _⟩ := h.lt zk; cases e1
      · show k ≤ z; omega
    | cons f fs =>
      have e1 : f = e := by injection el
      subst e1
      exact h.hd f fs rfl
  · have e3 : l = (c, k) := by simpa using ll.symm
    subst e3
    cases ls with
    | nil =>
      have e1 : (c, k) = e := by injection el
      have e2 : rest = [] := by injection el with _ q; exact q.symm
      subst e1; subst e2
      exact ⟨Nat.le_refl _, fun _ h => (nomatch h), List.Pairwise.nil⟩
    | cons f fs =>
      have e1 : f = e := by injection el
      have e2 : rest = fs ++ [(c, k)] := by injection el with _ q; exact q.symm
      subst e1; subst e2
      obtain ⟨m, hm⟩ : ∃ m, (f :: fs).getLast? = some m := by cases h : (f :: fs).getLast? with
        | none => rw [List.getLast?_eq_none_iff] at h; cases h
        | some l => exact ⟨l, rfl⟩
      obtain ⟨c1, c2, c3⟩ := h.ch f fs m rfl hm
      have hmk := (h.mem m (List.mem_of_getLast? hm)).2
      have hmk8 : k ≤ m.2 + 8 := by
        by_cases zk : z < k
        · obtain ⟨e, e1, e2⟩ := h.lt zk
          rw [hm] at e1
          have : m = e := Option.some.inj e1
          subst this; omega
        · omega
      rw [sdf_add f fs (c, k) m hm]
      refine ⟨by show f.2 ≤ k; omega, fun s hs => ?_, ?_⟩
      · rcases List.mem_append.mp hs with hs | hs
        · have := c2 s hs
          exact ⟨this.1, this.2.1, this.2.2.1, by show s.b.2 ≤ k; omega⟩
        · rw [List.mem_singleton.mp hs]
          exact ⟨c1, hmk, hmk8, Nat.le_refl _⟩
      · refine List.pairwise_append.mpr ⟨c3, List.pairwise_singleton _ _, fun s hs t ht => ?_⟩
        rw [List.mem_singleton.mp ht]
        exact (c2 s hs).2.2.2
/-- sides in sectors of their own -/
def Str30 (us : List P2) : Prop := (∀ s ∈ sd us, ∃ i j, Sec i j s) ∧ (sd us).Pairwise Sp30
theorem spt_ml (e : Int × Nat) (h : e.2 < 24) : sE e = mlp e.1 (sk e.2) := by
  unfold sE spt mlp sk
  rw [Nat.mod_eq_of_lt h]
theorem Ls.str {z : Nat} {ls : List (Int × Nat)} (h : Ls z 24 ls) (hz : z ≤ 7) : Str30 (ls.map sE) := by
  obtain ⟨l, hl, hl2⟩ := h.lt (by omega)
  cases hL : ls with
  | nil => rw [hL] at hl; cases hl
  | cons e rest =>
    obtain ⟨c1, c2, c3⟩ := h.ch e rest l hL hl
    have he := h.hd e rest hL
    have hlm := h.mem l (List.mem_of_getLast? hl)
    have hem := h.mem e (by rw [hL]; exact List.mem_cons_self)
    have hs : sd ls = ⟨l, e⟩ :: sdf e rest := by
      unfold sd
      rw [hl, hL]; rfl
    have mm : ∀ s ∈ sdf e rest, s.a ∈ ls ∧ s.b ∈ ls := fun s hs' => by
      have : (⟨s.a, s.b⟩ : T2 _ _) ∈ sd ls := by rw [hs]; exact List.mem_cons_of_mem _ hs'
      exact sd_mem this
    have sec1 : Sec l.2 (e.2 + 24) (⟨sE l, sE e⟩ : Sx) := by
      refine ⟨by omega, by omega, l.1, e.1, by omega, by omega, ?_⟩
      rw [spt_ml l hlm.2, spt_ml e hem.2]
      congr 2
      unfold sk
      congr 1; omega
    have sec2 : ∀ s ∈ sdf e rest, Sec s.a.2 s.b.2 (⟨sE s.a, sE s.b⟩ : Sx) := fun s hs' => by
      have k1 := h.mem _ (mm s hs').1
      have k2 := h.mem _ (mm s hs').2
      have := c2 s hs'
      refine ⟨by omega, by omega, s.a.1, s.b.1, by omega, by omega, ?_⟩
      rw [spt_ml s.a k1.2, spt_ml s.b k2.2]
    rw [← hL]
    unfold Str30
    rw [sd_map, hs, List.map_cons]
    refine ⟨fun s hs => ?_, List.pairwise_cons.mpr ⟨fun t ht => ?_, ?_⟩⟩
    · rcases List.mem_cons.mp hs with e | hs
      · subst e; exact ⟨_, _, sec1⟩
      · obtain ⟨s', hs', rfl⟩ := List.mem_map.mp hs
        exact ⟨_, _, sec2 s' hs'⟩
    · obtain ⟨s, hs, rfl⟩ := List.mem_map.mp ht
      have := c2 s hs
      exact ⟨_, _, _, _, sec1, sec2 s hs, .inr ⟨by omega, by omega⟩⟩
    · rw [List.pairwise_map]
      refine List.Pairwise.imp_of_mem (fun {s t} hs ht q => ?_) c3
      have := c2 s hs
      have := c2 t ht
      exact ⟨_, _, _, _, sec2 s hs, sec2 t ht, .inl ⟨q, by have := (h.mem _ (mm t ht).2).2; omega⟩⟩
/-! ### plain: the rings drawn, once more -/
theorem star_ok2 {xs : List Int} {most far : Int} (h : Bag xs) (f1 : 1 ≤ far) (f2 : far ≤ 1000000) : ∃ r, m__law_star xs most far = some r ∧ Str30 r.1 := by
  unfold m__law_star
  obtain ⟨z, y0, e0, b0, l0, u0⟩ := draw_ok h (many := 8) (by decide) (by decide)
  rw [Option.bind_some, e0, Option.bind_some, Option.bind_some]
  dsimp only
  obtain ⟨zn, rfl⟩ : ∃ n : Nat, z = (n : Int) := ⟨z.toNat, by omega⟩
  have zn7 : zn ≤ 7 := by omega
  refine foldO_rangeE (fun k (s : List Int × Int × List P2) => Bag s.1 ∧ ∃ ls, s.2.2 = ls.map sE ∧ ls.length ≤ k ∧ Ls zn k ls) (fun j s hj i => ?_) ⟨b0, [], rfl, Nat.le_refl _, Ls.nil zn⟩ (fun s' i => ?_)
  · obtain ⟨bg, ls, els, len, si⟩ := i
    obtain ⟨p, ep, h1⟩ := ob (spk_ok j hj)
    obtain ⟨_, er, h2⟩ := ob h1
    rw [ep, Option.bind_some, er, Option.bind_some, h2, Option.bind_some]
    obtain ⟨l, y1, e1, b1, l1, u1⟩ := draw_ok bg (many := far) (by omega) (by omega)
    rw [e1, Option.bind_some, Option.bind_some]
    dsimp only
    have hb : ∃ b : Bool × List Int, (if decide (0 < s.2.1) = true then (m__law_draw y1 24).bind fun z4 => some (decide (z4.1 < most), z4.2) else some (false, y1)) = some b ∧ Bag b.2 := by
      split
      · obtain ⟨l, y2, e2, b2, l2, u2⟩ := draw_ok b1 (many := 24) (by decide) (by decide)
        rw [e2]; exact ⟨_, rfl, b2⟩
      · exact ⟨_, rfl, b1⟩
    obtain ⟨b, eb, bb⟩ := hb
    rw [eb, Option.bind_some]
    have s1 := (spk_sm j hj).1
    have s2 := (spk_sm j hj).2
    rw [mulG_ok 30 30 (a := 1 + l) (b := (spk j).a) (by omega) (by omega) (by decide), mulG_ok 30 30 (a := 1 + l) (b := (spk j).b) (by omega) (by omega) (by decide)]
    have hlen : s.2.2.length ≤ j := by rw [els, List.length_map]; exact len
    have adds : ∃ ls', s.2.2 ++ [⟨(1 + l) * (spk j).a, (1 + l) * (spk j).b⟩] = ls'.map sE ∧ ls'.length ≤ j + 1 ∧ Ls zn (j + 1) ls' := ⟨ls ++ [(1 + l, j)], by rw [els, List.map_append]; rfl, by simp; omega, si.add zn7 (by omega)⟩
    simp only [Option.bind_some]
    rw [lenOk_ok (by omega)]
    simp only [Option.bind_some]
    by_cases c : (j : Int) % 8 = (zn : Int)
    · rw [if_pos (by simpa using c), Option.bind_some]
      exact ⟨_, rfl, bb, adds⟩
    · rw [if_neg (by simpa using c)]
      cases b.1 with
      | true => exact ⟨_, rfl, bb, adds⟩
      | false => exact ⟨_, rfl, bb, ls, els, by omega, si.skip zn7 (by omega)⟩
  · obtain ⟨bg, ls, els, len, si⟩ := i
    exact ⟨_, rfl, by show Str30 s'.2.2; rw [els]; exact si.str zn7⟩
def Nr (rs : List (List P2)) : Prop := (rs.flatMap sd).Pairwise NU
theorem pw_perm {ss ts : List Sx} (h : ss.Pairwise NU) (p : ts.Perm ss) : ts.Pairwise NU := (p.pairwise_iff (R := NU) fun h => h.symm).mpr h
/-- steps so far, the last corner q -/
def Tsd (us : List P2) (q : P2) : Prop := ∃ xs, us = ⟨0, 0⟩ :: xs ∧ us.getLast? = some q ∧ (sdf ⟨0, 0⟩ xs).Pairwise NU ∧ ∀ s ∈ sdf (⟨0, 0⟩ : P2) xs, s.a.a = s.b.a ∨ (s.a.b = 0 ∧ s.b.b = 0) ∨ (q.a ≤ s.a.a ∧ q.a ≤ s.b.a)
theorem Tsd.up {us : List P2} {q p : P2} (h : Tsd us q) (e : p.a = q.a) : Tsd (us ++ [p]) p := by
  obtain ⟨xs, rfl, hl, pw, al⟩ := h
  refine ⟨xs ++ [p], rfl, by rw [List.getLast?_append]; rfl, ?_, ?_⟩
  · rw [sdf_add _ _ _ q hl]
    exact List.pairwise_append.mpr ⟨pw, List.pairwise_singleton _ _, fun s hs t ht => by rw [List.mem_singleton.mp ht]; exact NU.upr (by exact e.symm)⟩
  · rw [sdf_add _ _ _ q hl]
    intro s hs
    rcases List.mem_append.mp hs with hs | hs
    · rw [e]; exact al s hs
    · rw [List.mem_singleton.mp hs]; exact .inl e.symm
theorem Tsd.lv {us : List P2} {q p : P2} (h : Tsd us q) (e : p.b = q.b) (h0 : 0 < q.b) (le : p.a ≤ q.a) : Tsd (us ++ [p]) p := by
  obtain ⟨xs, rfl, hl, pw, al⟩ := h
  refine ⟨xs ++ [p], rfl, by rw [List.getLast?_append]; rfl, ?_, ?_⟩
  · rw [sdf_add _ _ _ q hl]
    refine List.pairwise_append.mpr ⟨pw, List.pairwise_singleton _ _, fun s hs t ht => ?_⟩
    rw [List.mem_singleton.mp ht]
    rcases al s hs with a | a | a
    · exact NU.upl a
    · exact NU.level (h := 0) (k := q.b) a.1 a.2 rfl e (by omega)
    · exact (NU.beside q.a (Int.le_refl _) le a.1 a.2).symm
  · rw [sdf_add _ _ _ q hl]
    intro s hs
    rcases List.mem_append.mp hs with hs | hs
    · rcases al s hs with a | a | a
      · exact .inl a
      · exact .inr (.inl a)
      · exact .inr (.inr ⟨by omega, by omega⟩)
    · rw [List.mem_singleton.mp hs]; exact .inr (.inr ⟨le, Int.le_refl _⟩)
theorem Tsd.nr {us : List P2} {q : P2} (h : Tsd us q) (e : q.a = 0) : (sd us).Pairwise NU := by
  obtain ⟨xs, rfl, hl, pw, al⟩ := h
  unfold sd
  rw [hl]
  exact List.pairwise_cons.mpr ⟨fun t _ => NU.upl e, pw⟩
theorem steps_ok2 {xs : List Int} {far : Int} (h : Bag xs) (f1 : 6 ≤ far) (f2 : far ≤ 1000000) : ∃ r, m__law_steps xs far = some r ∧ (sd r.1).Pairwise NU := by
  unfold m__law_steps
  obtain ⟨z, y0, e0, b0, l0, u0⟩ := draw_ok h (many := 11) (by decide) (by decide)
  rw [e0, Option.bind_some, Option.bind_some]
  dsimp only
  rw [rngOk_ok (by omega) (by omega), Option.bind_some, rngOk_ok (by omega) (by omega), Option.bind_some, show (1 + z - 1 - -1).toNat = (1 + z).toNat by omega]
  generalize hM : 1 + z = many at *
  have m1 : 1 ≤ many := by omega
  have m2 : many ≤ 11 := by omega
  refine foldO_downE (fun k (s : List Int × List P2) => Bag s.1 ∧ ∃ q, Tsd s.2 q ∧ q.a = many - k ∧ s.2.length ≤ 2 * k + 2) (fun j s hj i => ?_) ⟨b0, ⟨many, 0⟩, ⟨[⟨many, 0⟩], rfl, rfl, List.pairwise_singleton _ _, fun s hs => ?_⟩, by show many = many - ((0 : Nat) : Int); omega, by simp⟩ (fun s' i => ?_)
  · obtain ⟨bg, q, ts, qa, le⟩ := i
    obtain ⟨d, y1, e1, b1, l1, u1⟩ := draw_ok bg (many := far) (by omega) (by omega)
    rw [e1, Option.bind_some, Option.bind_some]
    dsimp only
    have hix : ix s.2 (-1) = some q := by
      obtain ⟨xs, _, hl, _⟩ := ts
      have hp : 0 < s.2.length := by cases hq : s.2 with
        | nil => rw [hq] at hl; cases hl
        | cons _ _ => simp
      have := ix_neg (xs := s.2) (k := 0) hp
      rw [show (-1 : Int) - ((0 : Nat) : Int) = -1 by omega] at this
      rw [this, ← hl, List.getLast?_eq_getElem?]
      simp only [Nat.sub_zero]
      exact (List.getElem?_eq_getElem _).symm
    rw [hix, Option.bind_some]
    have ek : many - 1 - (j : Int) + 1 = q.a := by omega
    rw [ek, lenOk_ok (by omega), Option.bind_some]
    have fin : ∀ (us : List P2), Tsd us ⟨q.a, 1 + d⟩ → us.length ≤ 2 * j + 3 → ∃ s', ((lenOk (us.length + 1)).bind fun _ => some (y1, us ++ [(⟨many - 1 - (j : Int), 1 + d⟩ : P2)])) = some s' ∧ Bag s'.1 ∧ ∃ q, Tsd s'.2 q ∧ q.a = many - ((j + 1 : Nat) : Int) ∧ s'.2.length ≤ 2 * (j + 1) + 2 := by
      intro us t l
      rw [lenOk_ok (by omega)]
      exact ⟨_, rfl, b1, _, t.lv rfl (by show 0 < 1 + d; omega) (by show many - 1 - (j : Int) ≤ q.a; omega), by show many - 1 - (j : Int) = many - ((j + 1 : Nat) : Int); omega, by simp; omega⟩
    by_cases c : q = ⟨q.a, 1 + d⟩
    · rw [if_neg (by simpa using c), Option.bind_some]
      exact fin _ (by rw [← c]; exact ts) (by omega)
    · rw [if_pos (by simpa using c), Option.bind_some]
      exact fin _ (ts.up rfl) (by simp; omega)
  · rw [List.mem_singleton.mp hs]; exact .inr (.inl ⟨rfl, rfl⟩)
  · obtain ⟨bg, q, ts, qa, le⟩ := i
    exact ⟨_, rfl, ts.nr (by omega)⟩
theorem both {α : Type} {m : Option α} {P Q : α → Prop} (h : ∃ r, m = some r ∧ P r) (g : ∃ r, m = some r ∧ Q r) : ∃ r, m = some r ∧ P r ∧ Q r := by
  obtain ⟨r, e, p⟩ := h
  obtain ⟨r', e', q⟩ := g
  rw [e] at e'
  cases Option.some.inj e'
  exact ⟨r, e, p, q⟩
theorem Str30.nu {us : List P2} (h : Str30 us) : (sd us).Pairwise NU := h.2.imp fun q => q.nu
/-- so many times as large as one of them -/
def Lk (st : List P2) (m : Int) (us : List P2) : Prop := ∀ t ∈ sd us, ∃ s ∈ sd st, t = scl m s ∨ t = swp (scl m s)
theorem lk_map (st : List P2) (m : Int) : Lk st m (st.map fun u => ⟨u.a * m, u.b * m⟩) ∧ Lk st m (st.map fun u : P2 => (⟨u.a * m, u.b * m⟩ : P2)).reverse := by
  have h1 : Lk st m (st.map fun u => ⟨u.a * m, u.b * m⟩) := by
    intro t ht
    rw [sd_map] at ht
    obtain ⟨s, hs, e⟩ := List.mem_map.mp ht
    exact ⟨s, hs, .inl e.symm⟩
  refine ⟨h1, fun t ht => ?_⟩
  obtain ⟨t', ht', e⟩ := List.mem_map.mp ((sd_rev _).mem_iff.mp ht)
  obtain ⟨s, hs, e'⟩ := h1 t' ht'
  refine ⟨s, hs, ?_⟩
  subst e
  rcases e' with e' | e'
  · exact .inr (by rw [e'])
  · exact .inl (by rw [e']; rfl)
theorem lk_nu {st us vs : List P2} {m n : Int} (h : Str30 st) (hm : 0 < m) (hn : 0 < n) (ne : m ≠ n) (hu : Lk st m us) (hv : Lk st n vs) : ∀ s ∈ sd us, ∀ t ∈ sd vs, NU s t := by
  intro s hs t ht
  obtain ⟨s', hs', e⟩ := hu s hs
  obtain ⟨t', ht', f⟩ := hv t ht
  have key : NU (scl m s') (scl n t') := by
    rcases pw_mem h.2 hs' ht' with q | q | q
    · subst q
      obtain ⟨i, j, sec⟩ := h.1 s' hs'
      exact sec.same hm hn ne
    · exact (q.scl hm hn).nu
    · exact (q.scl hn hm).nu.symm
  rcases e with e | e <;> rcases f with f | f <;> rw [e, f]
  · exact key
  · exact key.swr
  · exact key.swl
  · exact key.swl.swr
theorem nu_scl {s t : Sx} {m : Int} (hm : 0 < m) (h : NU s t) : NU (scl m s) (scl m t) := by
  intro h1 h2 ⟨a, b, g, d, ha, hb, hg, hd, e, e1, e2⟩
  refine h (fun q => h1 (by show s.a.a * m = s.b.a * m; rw [q])) (fun q => h2 (by show t.a.a * m = t.b.a * m; rw [q])) ⟨a, b, g, d, ha, hb, hg, hd, e, ?_, ?_⟩
  · have e1' : a * (s.a.a * m) + b * (s.b.a * m) = g * (t.a.a * m) + d * (t.b.a * m) := e1
    refine mul_in hm ?_
    grind
  · have e2' : a * (s.a.b * m) + b * (s.b.b * m) = g * (t.a.b * m) + d * (t.b.b * m) := e2
    refine mul_in hm ?_
    grind
theorem nu_swp {s t : Sx} (h : NU s t) : NU (swp s) (swp t) := h.swl.swr
theorem pw_scl {us : List P2} {m : Int} (hm : 0 < m) (h : (sd us).Pairwise NU) : (sd (us.map fun u => (⟨u.a * m, u.b * m⟩ : P2))).Pairwise NU := by
  rw [sd_map, List.pairwise_map]
  exact h.imp fun q => nu_scl hm q
theorem pw_rev {us : List P2} (h : (sd us).Pairwise NU) : (sd us.reverse).Pairwise NU := by
  refine pw_perm ?_ (sd_rev us)
  rw [List.pairwise_map]
  exact h.imp fun q => nu_swp q
theorem nu_shf {s t : Sx} (k : Int) (h : NU s t) : NU (⟨⟨s.a.a + k, s.a.b⟩, ⟨s.b.a + k, s.b.b⟩⟩ : Sx) (⟨⟨t.a.a + k, t.a.b⟩, ⟨t.b.a + k, t.b.b⟩⟩ : Sx) := by
  intro h1 h2 ⟨a, b, g, d, ha, hb, hg, hd, e, e1, e2⟩
  refine h (fun q => h1 (by show s.a.a + k = s.b.a + k; rw [q])) (fun q => h2 (by show t.a.a + k = t.b.a + k; rw [q])) ⟨a, b, g, d, ha, hb, hg, hd, e, ?_, e2⟩
  have e1' : a * (s.a.a + k) + b * (s.b.a + k) = g * (t.a.a + k) + d * (t.b.a + k) := e1
  have : (a + b) * k = (g + d) * k := by rw [e]
  grind
theorem pw_shf {us : List P2} (k : Int) (h : (sd us).Pairwise NU) : (sd (us.map fun u => (⟨u.a + k, u.b⟩ : P2))).Pairwise NU := by
  rw [sd_map, List.pairwise_map]
  exact h.imp fun q => nu_shf k q
theorem nr_add {rs : List (List P2)} {us : List P2} (h : Nr rs) (hu : (sd us).Pairwise NU) (x : ∀ vs ∈ rs, ∀ s ∈ sd vs, ∀ t ∈ sd us, NU s t) : Nr (rs ++ [us]) := by
  unfold Nr
  rw [List.flatMap_append]
  refine List.pairwise_append.mpr ⟨h, by simpa using hu, fun s hs t ht => ?_⟩
  obtain ⟨vs, hv, hs⟩ := List.mem_flatMap.mp hs
  exact x vs hv s hs t (by simpa using ht)
theorem sd_mem' {us : List P2} {s : Sx} (h : s ∈ sd us) : s.a ∈ us ∧ s.b ∈ us := sd_mem (p := s.a) (q := s.b) h
theorem rings_ok30 {xs : List Int} {far : Int} (h : Bag xs) (f1 : 6 ≤ far) (f2 : far ≤ 1000000) : ∃ r, m__law_rings xs far = some r ∧ (Bag r.2 ∧ Rgs (400 * far.natAbs) r.1) ∧ Nr r.1 := by
  refine both (rings_ok h f1 f2) ?_
  unfold m__law_rings
  obtain ⟨z, y0, e0, b0, l0, u0⟩ := draw_ok h (many := 8) (by decide) (by decide)
  rw [e0, Option.bind_some]
  dsimp only
  by_cases c1 : z < 3
  · rw [if_pos (by simpa using c1)]
    obtain ⟨w, y1, e1, b1, l1, u1⟩ := draw_ok b0 (many := 22) (by decide) (by decide)
    obtain ⟨r, e2, g2⟩ := star_ok2 (most := 3 + w) b1 (by omega) f2
    rw [e1, Option.bind_some]
    dsimp only
    rw [e2]
    exact ⟨_, rfl, by unfold Nr; simpa using g2.nu⟩
  rw [if_neg (by simpa using c1)]
  by_cases c2 : z = 3
  · rw [if_pos (by simpa using c2)]
    obtain ⟨r, e2, g2⟩ := steps_ok2 b0 f1 f2
    rw [e2]
    exact ⟨_, rfl, by unfold Nr; simpa using g2⟩
  rw [if_neg (by simpa using c2)]
  by_cases c3 : z = 4
  · rw [if_pos (by simpa using c3)]
    exact ⟨_, rfl, List.Pairwise.nil⟩
  rw [if_neg (by simpa using c3)]
  obtain ⟨w, y1, e1, b1, l1, u1⟩ := draw_ok b0 (many := 4) (by decide) (by decide)
  obtain ⟨st, e2, ⟨b2, g2⟩, str⟩ := both (star_ok (most := 3 + w) b1 (by omega) f2) (star_ok2 (most := 3 + w) b1 (by omega) f2)
  rw [e1, Option.bind_some]
  dsimp only
  rw [e2, Option.bind_some]
  obtain ⟨v, y3, e3, b3, l3, u3⟩ := draw_ok b2 (many := 8) (by decide) (by decide)
  rw [e3, Option.bind_some, Option.bind_some]
  dsimp only
  generalize hM : 1 + v = many at *
  have m1 : 1 ≤ many := by omega
  have m2 : many ≤ 8 := by omega
  refine loopW_E (fun n (s : List Int × List (List P2) × Int × List P2) => Bag s.1 ∧ (s.2.1.length ≤ many.toNat ∧ many.toNat - s.2.1.length + 1 < n + 1 ∧ 0 < n) ∧ Rn (5 * far.natAbs) s.2.2.2 ∧ Str30 s.2.2.2 ∧ Nr s.2.1 ∧ (z < 7 → ∀ us ∈ s.2.1, ∃ m, many - (s.2.1.length : Int) < m ∧ Lk s.2.2.2 m us) ∧ (¬ z < 7 → ∀ us ∈ s.2.1, ∀ u ∈ us, 40 * far * (many - (s.2.1.length : Int)) + 30 * far ≤ u.a)) _ _ ⟨b3, ⟨by simp, by simp; omega, by omega⟩, g2, str, List.Pairwise.nil, fun _ us hus => (nomatch hus), fun _ us hus => (nomatch hus)⟩ (fun s hs => by omega) (fun n s hs => ?_)
  obtain ⟨bg, ⟨le, fu, _⟩, sg, st', nr, q7, q8⟩ := hs
  by_cases c : ((decide ((s.2.1.length : Int) < many)) && (decide ((s.2.2.2.length : Int) ≤ s.2.2.1))) = true
  · rw [if_pos c, Option.bind_some]
    left
    simp only [Bool.and_eq_true, decide_eq_true_eq] at c
    have d1 : 1 ≤ many - (s.2.1.length : Int) := by omega
    have d2 : many - (s.2.1.length : Int) ≤ 8 := by omega
    have el : many - ((s.2.1.length + 1 : Nat) : Int) = many - (s.2.1.length : Int) - 1 := by omega
    generalize hD : many - (s.2.1.length : Int) = deep at *
    have hl := sg.l24
    suffices hs : ∃ t : List Int × List P2 × List P2, (if (decide (z < 7)) = true then
 ((lenOk s.2.2.2.length).bind fun _ =>
 (mapO (fun (x2 : (T2 Int Int)) =>
 ((mulG x2.a deep).bind fun z8 =>
 (mulG x2.b deep).bind fun z9 =>
 some ((T2.mk z8 z9)))) s.2.2.2).bind fun ys1 =>
 (if (decide (((s.2.1.length : Int) % 2) = 1)) = true then
 (some ys1.reverse)
 else
 (some ys1)).bind fun (s5 : (List (T2 Int Int))) =>
 some ((s.1, s.2.2.2, s5)))
 else
 ((lenOk s.2.2.2.length).bind fun _ =>
 (mapO (fun (x3 : (T2 Int Int)) =>
 ((mulG ((40 * far)) deep).bind fun z10 =>
 some ((T2.mk ((x3.a + z10)) x3.b)))) s.2.2.2).bind fun ys2 =>
 (m__law_draw s.1 4).bind fun z11 =>
 (m__law_star z11.2 ((3 + z11.1)) far).bind fun z12 =>
 some ((z12.2, z12.1, ys2)))) = some t ∧ Bag t.1 ∧ Rn (5 * far.natAbs) t.2.1 ∧ Str30 t.2.1 ∧ Nr (s.2.1 ++ [t.2.2]) ∧ (z < 7 → ∀ us ∈ s.2.1 ++ [t.2.2], ∃ m, deep - 1 < m ∧ Lk t.2.1 m us) ∧ (¬ z < 7 → ∀ us ∈ s.2.1 ++ [t.2.2], ∀ u ∈ us, 40 * far * (deep - 1) + 30 * far ≤ u.a) by
      obtain ⟨t, et, bt, t1, t2, t3, t4, t5⟩ := hs
      rw [et, Option.bind_some, lenOk_ok (by omega), Option.bind_some, Option.bind_some]
      refine ⟨_, rfl, bt, ⟨by simp; omega, by simp; omega, by omega⟩, t1, t2, t3, ?_, ?_⟩
      · show z < 7 → ∀ us ∈ s.2.1 ++ [t.2.2], ∃ m, many - ((s.2.1 ++ [t.2.2]).length : Int) < m ∧ Lk t.2.1 m us
        rw [List.length_append, List.length_singleton, el]; exact t4
      · show ¬ z < 7 → ∀ us ∈ s.2.1 ++ [t.2.2], ∀ u ∈ us, 40 * far * (many - ((s.2.1 ++ [t.2.2]).length : Int)) + 30 * far ≤ u.a
        rw [List.length_append, List.length_singleton, el]; exact t5
    rw [lenOk_ok (by omega), Option.bind_some, Option.bind_some]
    by_cases c7 : z < 7
    · rw [if_pos (by simpa using c7), mapO_all (g := fun u : P2 => ⟨u.a * deep, u.b * deep⟩) (fun u hu => by
        have := sg.sm u hu
        rw [mulG_ok 40 40 (by omega) (by omega) (by decide), Option.bind_some, mulG_ok 40 40 (by omega) (by omega) (by decide)]
        rfl), Option.bind_some]
      have fin : ∀ vs : List P2, Lk s.2.2.2 deep vs → (sd vs).Pairwise NU → Nr (s.2.1 ++ [vs]) ∧ (z < 7 → ∀ us ∈ s.2.1 ++ [vs], ∃ m, deep - 1 < m ∧ Lk s.2.2.2 m us) ∧ (¬ z < 7 → ∀ us ∈ s.2.1 ++ [vs], ∀ u ∈ us, 40 * far * (deep - 1) + 30 * far ≤ u.a) := by
        intro vs lk pw
        refine ⟨nr_add nr pw fun us hus => ?_, fun _ us hus => ?_, fun n => absurd c7 n⟩
        · obtain ⟨m, hm, lm⟩ := q7 c7 us hus
          exact lk_nu st' (by omega) (by omega) (by omega) lm lk
        · rcases List.mem_append.mp hus with hu | hu
          · obtain ⟨m, hm, lm⟩ := q7 c7 us hu
            exact ⟨m, by omega, lm⟩
          · rw [List.mem_singleton.mp hu]; exact ⟨deep, by omega, lk⟩
      split
      · exact ⟨_, rfl, bg, sg, st', fin _ (lk_map _ _).2 (pw_rev (pw_scl (by omega) st'.nu))⟩
      · exact ⟨_, rfl, bg, sg, st', fin _ (lk_map _ _).1 (pw_scl (by omega) st'.nu)⟩
    · rw [if_neg (by simpa using c7), mapO_all (g := fun u : P2 => ⟨u.a + 40 * far * deep, u.b⟩) (fun u hu => by
        rw [mulG_ok 40 40 (by omega) (by omega) (by decide)]
        rfl), Option.bind_some]
      obtain ⟨w5, y5, e5, b5, l5, u5⟩ := draw_ok bg (many := 4) (by decide) (by decide)
      obtain ⟨st2, e6, ⟨b6, g6⟩, h6⟩ := both (star_ok (most := 3 + w5) b5 (by omega) f2) (star_ok2 (most := 3 + w5) b5 (by omega) f2)
      rw [e5, Option.bind_some]
      dsimp only
      rw [e6]
      have e40 : 40 * far * (deep - 1) = 40 * far * deep - 40 * far := by rw [Int.mul_sub, Int.mul_one]
      have bd : ∀ u ∈ s.2.2.2.map fun u : P2 => (⟨u.a + 40 * far * deep, u.b⟩ : P2), 40 * far * (deep - 1) + 30 * far ≤ u.a ∧ u.a ≤ 40 * far * deep + 30 * far := fun u hu => by
        obtain ⟨w, hw, e⟩ := List.mem_map.mp hu
        subst e
        have := (sg.sm w hw).1
        dsimp only
        rw [e40]
        omega
      refine ⟨_, rfl, b6, g6, h6, nr_add nr (pw_shf _ st'.nu) fun us hus a ha b hb => ?_, fun n => absurd n c7, fun _ us hus => ?_⟩
      · obtain ⟨a1, a2⟩ := sd_mem' ha
        obtain ⟨b1, b2⟩ := sd_mem' hb
        exact (NU.beside (40 * far * deep + 30 * far) (bd _ b1).2 (bd _ b2).2 (q8 c7 us hus _ a1) (q8 c7 us hus _ a2)).symm
      · rcases List.mem_append.mp hus with hu | hu
        · intro u hu'
          have := q8 c7 us hu u hu'
          rw [e40]; omega
        · rw [List.mem_singleton.mp hu]
          exact fun u hu => (bd u hu).1
  · rw [if_neg c]
    right
    exact ⟨_, rfl, _, rfl, nr⟩
theorem cloth_ok30 {xs : List Int} (h : Bag xs) : ∃ r, m__law_cloth xs = some r ∧ (Bag r.2 ∧ Cl 400000000 r.1) ∧ Nr r.1.a := by
  refine both (cloth_ok h) ?_
  unfold m__law_cloth
  obtain ⟨z, y0, e0, b0, l0, u0⟩ := draw_ok h (many := 3) (by decide) (by decide)
  obtain ⟨w, y1, e1, b1, l1, u1⟩ := draw_ok b0 (many := 8) (by decide) (by decide)
  rw [e0, Option.bind_some, Option.bind_some]
  dsimp only
  rw [e1, Option.bind_some]
  dsimp only
  have hq : ∃ q : List Int × Int × Int, (if (decide (w = 5)) = true then
 ((m__law_draw y1 1000000).bind fun z3 =>
 (some ((1 + z3.1))).bind fun (bottom_2 : Int) =>
 some ((z3.2, bottom_2, 1000000)))
 else
 (some ((y1, 1 + z, 6)))) = some q ∧ Bag q.1 ∧ (6 ≤ q.2.2 ∧ q.2.2 ≤ 1000000) := by
    split
    · obtain ⟨v, y2, e2, b2, l2, u2⟩ := draw_ok b1 (many := 1000000) (by decide) (by decide)
      rw [e2]; exact ⟨_, rfl, b2, by show (6 : Int) ≤ 1000000; decide, by show (1000000 : Int) ≤ 1000000; decide⟩
    · exact ⟨_, rfl, b1, by show (6 : Int) ≤ 6; decide, by show (6 : Int) ≤ 1000000; decide⟩
  obtain ⟨q, eq, bq, q3, q4⟩ := hq
  rw [eq, Option.bind_some]
  obtain ⟨r, er, ⟨br, r8, rr⟩, nr⟩ := rings_ok30 bq q3 q4
  rw [er, Option.bind_some]
  refine foldO_memE (fun k (s : List Int × List (List P2)) => Bag s.1 ∧ s.2.length = k ∧ (s.2.flatMap sd).Perm ((r.1.take k).flatMap sd)) (fun j us s hj i => ?_) ⟨br, rfl, List.Perm.refl _⟩ (fun s i => ⟨_, rfl, ?_⟩)
  · obtain ⟨bg, ln, pm⟩ := i
    have hr := rr us (List.mem_of_getElem? hj)
    have h3 := hr.l3
    have h24 := hr.l24
    obtain ⟨d, y2, e2, b2, l2, u2⟩ := draw_ok bg (many := (us.length : Int)) (by omega) (by omega)
    rw [e2, Option.bind_some]
    dsimp only
    have hj8 : j < 8 := by have := (List.getElem?_eq_some_iff.mp hj).1; omega
    obtain ⟨k, ek⟩ : ∃ k : Nat, d = (k : Int) := ⟨d.toNat, by omega⟩
    subst ek
    rw [slice_from (by omega), slice_to (by omega), lenOk_ok (by rw [List.length_drop, List.length_take]; omega), Option.bind_some, lenOk_ok (by omega)]
    refine ⟨_, rfl, b2, by simp [ln], ?_⟩
    show ((s.2 ++ [us.drop k ++ us.take k]).flatMap sd).Perm ((r.1.take (j + 1)).flatMap sd)
    rw [List.take_add_one, hj, List.flatMap_append, List.flatMap_append]
    refine List.Perm.append pm ?_
    have := sd_rot (us.drop k) (us.take k)
    rw [List.take_append_drop] at this
    simpa using this
  · obtain ⟨bg, ln, pm⟩ := i
    rw [List.take_length] at pm
    exact pw_perm nr pm
/-! ### plain: directions, and how often -/
def wsg (x y : Int) : Int := if y < 0 ∨ (y = 0 ∧ x < 0) then -(Int.gcd x y : Int) else (Int.gcd x y : Int)
def way (x y : Int) : T2 P2 Int := ⟨⟨x / wsg x y, y / wsg x y⟩, wsg x y⟩
structure Wy (x y : Int) (w : T2 P2 Int) : Prop where
  ea : x = w.a.a * w.b
  eb : y = w.a.b * w.b
  one : Int.gcd w.a.a w.a.b = 1
  nm : 0 < w.a.b ∨ w.a.b = 0 ∧ w.a.a = 1
  nz : w.b ≠ 0
theorem wsg_abs (x y : Int) : (wsg x y).natAbs = Int.gcd x y := by unfold wsg; split <;> omega
theorem gcd_nz {x y : Int} (h : x ≠ 0 ∨ y ≠ 0) : 0 < Int.gcd x y := by
  rcases h with z | z
  · exact Int.gcd_pos_of_ne_zero_left _ z
  · exact Int.gcd_pos_of_ne_zero_right _ z
theorem way_wy {x y : Int} (h : x ≠ 0 ∨ y ≠ 0) : Wy x y (way x y) := by
  have hg := gcd_nz h
  have na := wsg_abs x y
  have ss : 0 < wsg x y ↔ (0 < y ∨ y = 0 ∧ 0 ≤ x) := by unfold wsg; split <;> omega
  generalize hs : wsg x y = s at *
  have hs0 : s ≠ 0 := by omega
  have dg : s ∣ (Int.gcd x y : Int) := by rw [← na]; exact Int.dvd_natAbs.mpr (Int.dvd_refl s)
  obtain ⟨u, hu⟩ := Int.dvd_trans dg (Int.gcd_dvd_left x y)
  obtain ⟨v, hv⟩ := Int.dvd_trans dg (Int.gcd_dvd_right x y)
  rw [Int.mul_comm] at hu hv
  have one : Int.gcd u v = 1 := by
    have e := Int.gcd_mul_right u s v
    rw [← hu, ← hv, ← na] at e
    have : 0 < s.natAbs := by omega
    exact (Nat.eq_of_mul_eq_mul_right this (by rw [Nat.one_mul]; exact e)).symm
  have ew : way x y = ⟨⟨u, v⟩, s⟩ := by
    unfold way
    rw [hs, hu, hv, Int.mul_ediv_cancel _ hs0, Int.mul_ediv_cancel _ hs0]
  rw [ew]
  refine ⟨hu, hv, one, ?_, hs0⟩
  show 0 < v ∨ v = 0 ∧ u = 1
  rcases Int.lt_trichotomy y 0 with z | z | z
  · left
    have : ¬ 0 < s := by rw [ss]; omega
    exact pos_l (s := -s) (by omega) (by rw [Int.mul_neg]; omega)
  · right
    have v0 : v = 0 := by
      rw [z] at hv
      rcases Int.mul_eq_zero.mp hv.symm with t | t
      · exact t
      · omega
    refine ⟨v0, ?_⟩
    rw [v0, Int.gcd_zero_right] at one
    rcases Int.lt_or_le x 0 with q | q
    · have : ¬ 0 < s := by rw [ss]; omega
      have := pos_l (v := u) (s := -s) (by omega) (by rw [Int.mul_neg]; omega)
      omega
    · have : 0 < s := by rw [ss]; omega
      have := pos_l (v := u) this (by omega)
      omega
  · left
    exact pos_l (s := s) (by rw [ss]; omega) (by omega)
theorem cop_same {u v U V s t : Int} (h1 : u * s = U * t) (h2 : v * s = V * t) (o : Int.gcd u v = 1) (O : Int.gcd U V = 1) (n : 0 < v ∨ v = 0 ∧ u = 1) (N : 0 < V ∨ V = 0 ∧ U = 1) (hs : s ≠ 0) : u = U ∧ v = V ∧ s = t := by
  have e : s.natAbs = t.natAbs := by
    have e1 := Int.gcd_mul_right u s v
    have e2 := Int.gcd_mul_right U t V
    rw [h1, h2, e2, o, O] at e1
    omega
  have : s = t ∨ s = -t := by omega
  rcases this with z | z
  · subst z
    exact ⟨Int.eq_of_mul_eq_mul_right hs h1, Int.eq_of_mul_eq_mul_right hs h2, rfl⟩
  · exfalso
    have ht : t ≠ 0 := by omega
    rw [z] at h1 h2
    have a1 : -u = U := Int.eq_of_mul_eq_mul_right ht (by rw [← h1, Int.mul_neg, Int.neg_mul])
    have a2 : -v = V := Int.eq_of_mul_eq_mul_right ht (by rw [← h2, Int.mul_neg, Int.neg_mul])
    omega
theorem Wy.same {x y X Y k l : Int} {w v : T2 P2 Int} (a : Wy x y w) (b : Wy X Y v) (hk : k ≠ 0) (h1 : x * k = X * l) (h2 : y * k = Y * l) : w.a = v.a ∧ w.b * k = v.b * l := by
  obtain ⟨⟨u, u'⟩, s⟩ := w
  obtain ⟨⟨z, z'⟩, t⟩ := v
  obtain ⟨a1, a2, a3, a4, a5⟩ := a
  obtain ⟨b1, b2, b3, b4, b5⟩ := b
  simp only at *
  obtain ⟨q1, q2, q3⟩ := cop_same (u := u) (v := u') (U := z) (V := z') (s := s * k) (t := t * l) (by rw [← Int.mul_assoc, ← Int.mul_assoc, ← a1, ← b1, h1]) (by rw [← Int.mul_assoc, ← Int.mul_assoc, ← a2, ← b2, h2]) a3 b3 a4 b4 (Int.mul_ne_zero a5 hk)
  exact ⟨by rw [q1, q2], q3⟩
theorem wsg_sm {x y : Int} {n : Nat} (h : x ≠ 0 ∨ y ≠ 0) (sx : x.natAbs < 2 ^ n) (sy : y.natAbs < 2 ^ n) : (wsg x y).natAbs < 2 ^ n := by
  rw [wsg_abs]
  rcases h with z | z
  · exact Nat.lt_of_le_of_lt (Nat.le_of_dvd (by omega) (by have := Int.gcd_dvd_left x y; rwa [← Int.natAbs_dvd_natAbs, Int.natAbs_natCast] at this)) sx
  · exact Nat.lt_of_le_of_lt (Nat.le_of_dvd (by omega) (by have := Int.gcd_dvd_right x y; rwa [← Int.natAbs_dvd_natAbs, Int.natAbs_natCast] at this)) sy
/-- v over b in lowest terms -/
def lowF (v b : Int) : T2 Int Int := ⟨v / (Int.gcd v b : Int), b / (Int.gcd v b : Int)⟩
theorem lowF_low (v : Int) {b : Int} (h : 0 < b) : Low v b (lowF v b) := low_mk h
theorem Low.iss {v b : Int} {r : T2 Int Int} (w : Low v b r) : Is b v r := ⟨w.pos, w.one, w.eq⟩
theorem lowF_is (v : Int) {b : Int} (h : 0 < b) : Is b v (lowF v b) := (lowF_low v h).iss
theorem Is.low {v b : Int} {r : T2 Int Int} (hb : 0 < b) (h : Is b v r) : r = lowF v b := h.same hb (lowF_is v hb)
theorem lowF_zero {b : Int} (h : 0 < b) : lowF 0 b = ⟨0, 1⟩ := (Is.low h ⟨by decide, by decide, by simp⟩).symm
theorem lowF_nz {v b : Int} (h : 0 < b) : lowF v b = ⟨0, 1⟩ ↔ v = 0 := by
  constructor
  · intro e
    have := (lowF_is v h).eq
    rw [e] at this
    simp at this
    exact this.symm
  · intro e
    rw [e, lowF_zero h]
theorem lowF_rt {v b : Int} {n : Nat} (h : 0 < b) (sv : v.natAbs < 2 ^ n) (sb : b.natAbs < 2 ^ n) : Rt n (lowF v b) := (lowF_low v h).rt sv sb
/-! ### the program's -/
theorem stp_ov {b x y : Int} {r : P3} (hb : 0 < b) (o : Ov b r ⟨x, y⟩) (sb : b.natAbs < 2 ^ 120) (sx : x.natAbs < 2 ^ 120) (sy : y.natAbs < 2 ^ 120) (nz : x ≠ 0 ∨ y ≠ 0) : Stp r := by
  have hp := o.pos
  have hl := Int.le_of_dvd hb o.dvd
  have small : ∀ a x : Int, a * b = x * r.c → x.natAbs < 2 ^ 120 → a.natAbs < 2 ^ 120 := fun a x e h => by
    have e' : a.natAbs * b.natAbs = x.natAbs * r.c.natAbs := by rw [← Int.natAbs_mul, e, Int.natAbs_mul]
    have l : x.natAbs * r.c.natAbs ≤ x.natAbs * b.natAbs := Nat.mul_le_mul_left _ (by omega)
    rw [← e'] at l
    exact Nat.lt_of_le_of_lt (Nat.le_of_mul_le_mul_right l (by omega)) h
  refine ⟨hp, small _ _ o.ea sx, small _ _ o.eb sy, by omega, ?_⟩
  rcases nz with z | z
  · left; intro e
    have := o.ea
    rw [e, Int.zero_mul] at this
    rcases Int.mul_eq_zero.mp this.symm with t | t
    · exact z t
    · omega
  · right; intro e
    have := o.eb
    rw [e, Int.zero_mul] at this
    rcases Int.mul_eq_zero.mp this.symm with t | t
    · exact z t
    · omega
theorem wayof_ok {b x y : Int} {r : P3} (hb : 0 < b) (o : Ov b r ⟨x, y⟩) (sb : b.natAbs < 2 ^ 120) (sx : x.natAbs < 2 ^ 120) (sy : y.natAbs < 2 ^ 120) (nz : x ≠ 0 ∨ y ≠ 0) : m_way_of r = some ⟨(way x y).a, lowF (way x y).b b⟩ := by
  obtain ⟨u, v, s, q, e, hu, hv, one, nm, wr, hs, _⟩ := way_ok (stp_ov hb o sb sx sy nz)
  have W : Wy r.a r.b ⟨⟨u, v⟩, s⟩ := ⟨hu, hv, one, nm, hs⟩
  obtain ⟨h1, h2⟩ := W.same (way_wy nz) (k := b) (l := r.c) (by omega) o.ea o.eb
  rw [e, ← h1]
  congr 2
  refine Is.low hb ⟨wr.pos, wr.one, Int.eq_of_mul_eq_mul_right (show r.c ≠ 0 by have := o.pos; omega) ?_⟩
  have := wr.eq
  simp only at h2
  rw [Int.mul_right_comm, this, Int.mul_right_comm, h2, Int.mul_right_comm]
theorem stepto_ok {b : Int} {p q : P3} {u v : P2} {n : Nat} (op : Ov b p u) (oq : Ov b q v) (hp : Pt n p) (hq : Pt n q) (hn : n ≤ 1000) : ∃ r, m_step_to p q = some r ∧ Ov b r ⟨v.a - u.a, v.b - u.b⟩ := by
  have hc : 0 < p.c * q.c := Int.mul_pos hp.pos hq.pos
  unfold m_step_to
  obtain ⟨r, e, w⟩ := point_ok (a := q.a * p.c - p.a * q.c) (b := q.b * p.c - p.b * q.c) hc (pow_le (sz_mul hp.sc hq.sc) (by omega))
  rw [mulG_ok n n hq.sa hp.sc (by omega), Option.bind_some, mulG_ok n n hp.sa hq.sc (by omega), Option.bind_some, mulG_ok n n hq.sb hp.sc (by omega), Option.bind_some, mulG_ok n n hp.sb hq.sc (by omega), Option.bind_some, mulG_ok n n hp.sc hq.sc (by omega), Option.bind_some, e]
  refine ⟨r, rfl, low3_ov w (by omega) ?_ ?_⟩
  · have h1 := op.ea
    have h2 := oq.ea
    clear e w
    grind
  · have h1 := op.eb
    have h2 := oq.eb
    clear e w
    grind
/-! ### plain: dicts of sums -/
theorem foldO_append {α τ : Type} {f : α → τ → Option τ} : ∀ (xs ys : List α) (s : τ), foldO f (xs ++ ys) s = (foldO f xs s).bind (foldO f ys)
  | [], _, _ => rfl
  | x :: xs, ys, s => by
    show (f x s).bind _ = ((f x s).bind _).bind _
    rw [Option.bind_assoc]
    congr 1
    funext s'
    exact foldO_append xs ys s'
theorem foldO_zip {α β τ : Type} {f : α → τ → Option τ} {g : β → τ → Option τ} : ∀ {xs : List α} {ys : List β}, xs.length = ys.length → (∀ (j : Nat) x y, xs[j]? = some x → ys[j]? = some y → ∀ s, f x s = g y s) → ∀ s, foldO f xs s = foldO g ys s
  | [], [], _, _, _ => rfl
  | x :: xs, y :: ys, h, hf, s => by
    show (f x s).bind _ = (g y s).bind _
    rw [hf 0 x y rfl rfl s]
    congr 1
    funext s'
    exact foldO_zip (by simpa using h) (fun j a b ha hb => hf (j + 1) a b (by simpa using ha) (by simpa using hb)) s'
theorem foldO_map {α β τ : Type} {f : β → τ → Option τ} (h : α → β) : ∀ (xs : List α) (s : τ), foldO f (xs.map h) s = foldO (fun x => f (h x)) xs s
  | [], _ => rfl
  | x :: xs, s => by
    show (f (h x) s).bind _ = (f (h x) s).bind _
    congr 1
    funext s'
    exact foldO_map h xs s'
theorem foldO_sim {α τ σ : Type} {f : α → τ → Option τ} {g : σ → α → σ} (R : Nat → τ → σ → Prop) : ∀ {xs : List α} {s : τ} {t : σ} (k : Nat), (∀ j x s t, xs[j]? = some x → R (k + j) s t → ∃ s', f x s = some s' ∧ R (k + j + 1) s' (g t x)) → R k s t → ∃ s', foldO f xs s = some s' ∧ R (k + xs.length) s' (xs.foldl g t)
  | [], s, t, k, _, h => ⟨s, rfl, h⟩
  | x :: xs, s, t, k, hf, h => by
    obtain ⟨s1, e1, h1⟩ := hf 0 x s t rfl h
    obtain ⟨s2, e2, h2⟩ := foldO_sim R (xs := xs) (s := s1) (t := g t x) (k + 1) (fun j y s t hy hi => by
      have := hf (j + 1) y s t (by simpa using hy) (by rw [show k + (j + 1) = k + 1 + j by omega]; exact hi)
      rwa [show k + (j + 1) + 1 = k + 1 + j + 1 by omega] at this) (by simpa using h1)
    refine ⟨s2, ?_, by rw [List.length_cons, show k + (xs.length + 1) = k + 1 + xs.length by omega]; exact h2⟩
    show (f x s).bind _ = _
    rw [e1]; exact e2
/-- a fold over all sides of all rings -/
theorem sides_fold {α τ : Type} {f : T2 α α → τ → Option τ} {G : List α → τ → Option τ} : ∀ {rs : List (List α)}, (∀ us ∈ rs, ∀ s, G us s = foldO f (sd us) s) → ∀ s, foldO G rs s = foldO f (rs.flatMap sd) s
  | [], _, _ => rfl
  | us :: rs, h, s => by
    show (G us s).bind _ = _
    rw [List.flatMap_cons, foldO_append, h us List.mem_cons_self]
    congr 1
    funext s'
    exact sides_fold (fun vs hvs => h vs (List.mem_cons_of_mem _ hvs)) s'
theorem ring_fold {α τ : Type} {f : T2 α α → τ → Option τ} {g : Int → τ → Option τ} {us : List α} (hl : us.length ≤ 1000) (h : ∀ (j : Nat) p q, j < us.length → (sd us)[j]? = some ⟨p, q⟩ → ix us ((j : Int) - 1) = some p → ix us (j : Int) = some q → p ∈ us → q ∈ us → ∀ s, g (j : Int) s = f ⟨p, q⟩ s) (s : τ) :
    ((rngOk (us.length : Int)).bind fun _ => (foldO g (rangeL 0 (us.length : Int).toNat) s).bind fun s4 => some s4) = foldO f (sd us) s := by
  rw [rngOk_ok (by omega) (by omega), Option.bind_some, Option.bind_fun_some]
  refine foldO_zip (by rw [rangeL_len, sd_len]; omega) (fun j x y hx hy s => ?_) s
  obtain ⟨ex, hj⟩ := rangeL_at hx
  obtain ⟨p, q, e, e1, e2, m1, m2⟩ := sd_at (xs := us) (j := j) (by omega)
  rw [hy] at e
  cases e
  rw [ex, Int.zero_add]
  exact h j p q (by omega) hy e1 e2 m1 m2 s
theorem dget_mem {β : Type} {kvs : List (P2 × β)} {k : P2} {v : β} (h : dgetM kvs k = some v) : (k, v) ∈ kvs := by
  unfold dgetM at h
  obtain ⟨kv, e1, e2⟩ := Option.map_eq_some_iff.mp h
  have h1 := List.mem_of_find?_eq_some e1
  have h2 := List.find?_some e1
  simp at h2
  obtain ⟨a, b⟩ := kv
  simp only at h2 e2
  subst h2; subst e2
  exact h1
theorem dget_key {β : Type} {kvs : List (P2 × β)} {k : P2} (h : k ∈ kvs.map (·.1)) : ∃ v, dgetM kvs k = some v := by
  unfold dgetM
  cases e : kvs.find? fun kv => decide (kv.1 = k) with
  | some kv => exact ⟨_, rfl⟩
  | none =>
    obtain ⟨kv, hm, hk⟩ := List.mem_map.mp h
    have := List.find?_eq_none.mp e kv hm
    simp [hk] at this
theorem dget_map {β γ : Type} (φ : β → γ) (kvs : List (P2 × β)) (k : P2) : dgetM (kvs.map fun kv => (kv.1, φ kv.2)) k = (dgetM kvs k).map φ := by
  unfold dgetM
  rw [List.find?_map, Option.map_map, Option.map_map]
  rfl
theorem dput_map {β γ : Type} (φ : β → γ) (kvs : List (P2 × β)) (k : P2) (v : β) : dputM (kvs.map fun kv => (kv.1, φ kv.2)) k (φ v) = (dputM kvs k v).map fun kv => (kv.1, φ kv.2) := by
  unfold dputM
  rw [List.any_map]
  have e : ((fun kv : P2 × γ => decide (kv.1 = k)) ∘ fun kv : P2 × β => (kv.1, φ kv.2)) = fun kv => decide (kv.1 = k) := rfl
  rw [e]
  split
  · rw [List.map_map, List.map_map]
    refine List.map_congr_left fun kv _ => ?_
    show (if kv.1 = k then (kv.1, φ v) else (kv.1, φ kv.2)) = _
    simp only [Function.comp_apply]
    split <;> rfl
  · rw [List.map_append]; rfl
theorem dput_len {β : Type} (kvs : List (P2 × β)) (k : P2) (v : β) : (dputM kvs k v).length ≤ kvs.length + 1 := by
  unfold dputM
  split
  · rw [List.length_map]; omega
  · simp
theorem dput_mem {β : Type} {kvs : List (P2 × β)} {k : P2} {v : β} {kv : P2 × β} (h : kv ∈ dputM kvs k v) : kv ∈ kvs ∨ kv = (k, v) := by
  unfold dputM at h
  split at h
  · obtain ⟨x, hx, e⟩ := List.mem_map.mp h
    split at e
    · next z => right; rw [← e, z]
    · left; rw [← e]; exact hx
  · rcases List.mem_append.mp h with h | h
    · exact .inl h
    · exact .inr (List.mem_singleton.mp h)
/-! ### plain: marks -/
structure Clo (c : T2 (List (List P2)) Int) : Prop where
  bp : 0 < c.b
  bs : c.b.natAbs < 2 ^ 100
  h8 : c.a.length ≤ 1000
  rl : ∀ us ∈ c.a, us.length ≤ 1000
  sm : ∀ us ∈ c.a, ∀ u ∈ us, u.a.natAbs < 2 ^ 100 ∧ u.b.natAbs < 2 ^ 100
  nz : ∀ us ∈ c.a, ∀ s ∈ sd us, s.a ≠ s.b
theorem sd_ne {α : Type} {us : List α} (nd : us.Nodup) (h : 2 ≤ us.length) : ∀ s ∈ sd us, s.a ≠ s.b := by
  intro s hs e
  obtain ⟨p, q⟩ := s
  simp only at e
  subst e
  obtain ⟨j, hj⟩ := List.getElem?_of_mem hs
  have hl := (List.getElem?_eq_some_iff.mp hj).1
  rw [sd_len] at hl
  obtain ⟨p', q', e, e1, e2, _, _⟩ := sd_at hl
  rw [hj] at e
  cases e
  have uniq : ∀ i k : Nat, us[i]? = some p → us[k]? = some p → i = k := fun i k hi hk => by
    have h1 := (List.getElem?_eq_some_iff.mp hi).1
    exact (List.getElem?_inj h1 nd).mp (by rw [hi, hk])
  have e2' : us[j]? = some p := by
    have := ix_lt hl
    rw [this] at e2
    rw [List.getElem?_eq_getElem hl]; exact e2
  by_cases z : j = 0
  · subst z
    have := ix_neg (xs := us) (k := 0) hl
    rw [show (-1 : Int) - ((0 : Nat) : Int) = ((0 : Nat) : Int) - 1 by omega] at this
    rw [this] at e1
    have := uniq _ _ (by rw [List.getElem?_eq_getElem (show us.length - 1 - 0 < us.length by omega)]; exact e1) e2'
    omega
  · have h2 : j - 1 < us.length := by omega
    have := ix_lt h2
    rw [show ((j - 1 : Nat) : Int) = (j : Int) - 1 by omega] at this
    rw [this] at e1
    have := uniq _ _ (by rw [List.getElem?_eq_getElem h2]; exact e1) e2'
    omega
theorem Rn.ne {B : Nat} {us : List P2} (h : Rn B us) : ∀ s ∈ sd us, s.a ≠ s.b := sd_ne h.nd (by have := h.l3; omega)
theorem Cl.clo {B : Nat} {c : T2 (List (List P2)) Int} (h : Cl B c) (hB : B < 2 ^ 100) : Clo c := by
  have h1 := h.b1
  have h2 := h.b2
  have h3 := h.rs.1
  exact ⟨by omega, by omega, by omega, fun us hus => by have := (h.rs.2 us hus).l24; omega, fun us hus u hu => by
    have := (h.rs.2 us hus).sm u hu
    exact ⟨Nat.lt_of_le_of_lt this.1 hB, Nat.lt_of_le_of_lt this.2 hB⟩, fun us hus => (h.rs.2 us hus).ne⟩
def wy (s : T2 P2 P2) : T2 P2 Int := way (s.b.a - s.a.a) (s.b.b - s.a.b)
def sides (c : T2 (List (List P2)) Int) : List (T2 P2 P2) := c.a.flatMap sd
def putW (kvs : List (P2 × Int)) (s : T2 P2 P2) : List (P2 × Int) := dputM kvs (wy s).a ((dgetM kvs (wy s).a).getD 0 + (wy s).b)
def Sums (c : T2 (List (List P2)) Int) : List (P2 × Int) := (sides c).foldl putW []
structure Sd (s : T2 P2 P2) : Prop where
  sa : (s.b.a - s.a.a).natAbs < 2 ^ 101
  sb : (s.b.b - s.a.b).natAbs < 2 ^ 101
  nz : s.b.a - s.a.a ≠ 0 ∨ s.b.b - s.a.b ≠ 0
theorem Clo.sd {c : T2 (List (List P2)) Int} (h : Clo c) {us : List P2} (hus : us ∈ c.a) {s : T2 P2 P2} (hs : s ∈ Sc.sd us) : Sd s := by
  obtain ⟨p, q⟩ := s
  obtain ⟨m1, m2⟩ := sd_mem hs
  obtain ⟨a1, a2⟩ := h.sm us hus p m1
  obtain ⟨b1, b2⟩ := h.sm us hus q m2
  refine ⟨by show (q.a - p.a).natAbs < _; omega, by show (q.b - p.b).natAbs < _; omega, ?_⟩
  show q.a - p.a ≠ 0 ∨ q.b - p.b ≠ 0
  have := h.nz us hus _ hs
  by_cases z : q.a - p.a = 0
  · right
    intro y
    refine this ?_
    obtain ⟨x1, y1⟩ := p
    obtain ⟨x2, y2⟩ := q
    simp only at *
    rw [show x1 = x2 by omega, show y1 = y2 by omega]
  · exact .inl z
theorem Clo.sds {c : T2 (List (List P2)) Int} (h : Clo c) {s : T2 P2 P2} (hs : s ∈ sides c) : Sd s := by
  obtain ⟨us, h1, h2⟩ := List.mem_flatMap.mp hs
  exact h.sd h1 h2
theorem flat_len {α : Type} : ∀ {rs : List (List α)} {n : Nat}, (∀ us ∈ rs, us.length ≤ n) → (rs.flatMap sd).length ≤ rs.length * n
  | [], _, _ => by simp
  | us :: rs, n, h => by
    have h1 := h us List.mem_cons_self
    have h2 := flat_len (rs := rs) fun vs hvs => h vs (List.mem_cons_of_mem _ hvs)
    rw [List.flatMap_cons, List.length_append, sd_len, List.length_cons, Nat.succ_mul]
    omega
theorem Clo.len {c : T2 (List (List P2)) Int} (h : Clo c) : (sides c).length ≤ 1000000 := by
  have := flat_len h.rl
  have h8 := h.h8
  have h3 : c.a.length * 1000 ≤ 1000 * 1000 := Nat.mul_le_mul_right _ h8
  exact Nat.le_trans this h3
/-- the dict so far -/
structure DB (j : Nat) (kvs : List (P2 × Int)) : Prop where
  le : kvs.length ≤ j
  sm : ∀ kv ∈ kvs, kv.2.natAbs ≤ j * 2 ^ 101
theorem DB.get {j : Nat} {kvs : List (P2 × Int)} (h : DB j kvs) (k : P2) : ((dgetM kvs k).getD 0).natAbs ≤ j * 2 ^ 101 := by
  cases e : dgetM kvs k with
  | none => simp
  | some v => exact h.sm _ (dget_mem e)
theorem wy_sm {s : T2 P2 P2} (h : Sd s) : (wy s).b.natAbs < 2 ^ 101 := wsg_sm h.nz h.sa h.sb
theorem DB.put {j : Nat} {kvs : List (P2 × Int)} {s : T2 P2 P2} (h : DB j kvs) (hs : Sd s) : DB (j + 1) (putW kvs s) := by
  have h1 := h.get (wy s).a
  have h2 := wy_sm hs
  unfold putW
  refine ⟨Nat.le_trans (dput_len _ _ _) (by have := h.le; omega), fun kv hkv => ?_⟩
  rw [Nat.succ_mul]
  rcases dput_mem hkv with z | z
  · exact Nat.le_trans (h.sm kv z) (Nat.le_add_right _ _)
  · rw [z]
    show ((dgetM kvs (wy s).a).getD 0 + (wy s).b).natAbs ≤ _
    exact Nat.le_trans (Int.natAbs_add_le _ _) (Nat.add_le_add h1 (Nat.le_of_lt h2))
theorem DB.nil : DB 0 [] := ⟨Nat.le_refl _, fun _ h => nomatch h⟩
theorem Clo.db {c : T2 (List (List P2)) Int} (h : Clo c) : DB (sides c).length (Sums c) := by
  unfold Sums
  have : ∀ (xs : List (T2 P2 P2)) (k : Nat) (kvs : List (P2 × Int)), (∀ s ∈ xs, Sd s) → DB k kvs → DB (k + xs.length) (xs.foldl putW kvs) := by
    intro xs
    induction xs with
    | nil => intro k kvs _ h; exact h
    | cons s xs ih =>
      intro k kvs h1 h2
      have := ih (k + 1) _ (fun t ht => h1 t (List.mem_cons_of_mem _ ht)) (h2.put (h1 s List.mem_cons_self))
      rwa [show k + 1 + xs.length = k + (s :: xs).length by rw [List.length_cons]; omega] at this
  have := this (sides c) 0 [] (fun s hs => h.sds hs) DB.nil
  rwa [Nat.zero_add] at this
def told (c : T2 (List (List P2)) Int) : List (List P3) := c.a.map fun us => us.map (hd c.b)
def psi (b : Int) (s : T2 P2 P2) : T2 P2 (T2 Int Int) := ⟨(wy s).a, lowF (wy s).b b⟩
theorem ways_ok {c : T2 (List (List P2)) Int} (h : Clo c) : m_ways_of_sides (told c) = some ((sides c).map (psi c.b)) := by
  unfold m_ways_of_sides told
  rw [Option.bind_fun_some, foldO_map]
  rw [sides_fold (f := fun (s : T2 P2 P2) (t : List (T2 P2 (T2 Int Int))) => (m_step_to (hd c.b s.a) (hd c.b s.b)).bind fun z1 => (m_way_of z1).bind fun z2 => (lenOk (t.length + 1)).bind fun _ => some (t ++ [z2])) (fun us hus s => by
    have hl := h.rl us hus
    rw [show ((us.map (hd c.b)).length : Int) = (us.length : Int) by rw [List.length_map]]
    refine ring_fold hl (fun j p q hj hs e1 e2 m1 m2 t => ?_) s
    rw [ix_map, e1, Option.map_some, Option.bind_some, ix_map, e2, Option.map_some, Option.bind_some])]
  obtain ⟨s', e, h'⟩ := foldO_at (f := fun (s : T2 P2 P2) (t : List (T2 P2 (T2 Int Int))) => (m_step_to (hd c.b s.a) (hd c.b s.b)).bind fun z1 => (m_way_of z1).bind fun z2 => (lenOk (t.length + 1)).bind fun _ => some (t ++ [z2]))
    (fun k t => t = ((sides c).take k).map (psi c.b)) (xs := sides c) (s := []) 0 (fun j s t hj i => by
      rw [Nat.zero_add] at i ⊢
      have hs : s ∈ sides c := List.mem_of_getElem? hj
      obtain ⟨us, hus, hsd⟩ := List.mem_flatMap.mp hs
      have hS := h.sds hs
      have bs := h.bs
      obtain ⟨p, q⟩ := s
      obtain ⟨m1, m2⟩ := sd_mem hsd
      obtain ⟨a1, a2⟩ := h.sm us hus p m1
      obtain ⟨b1, b2⟩ := h.sm us hus q m2
      obtain ⟨r, er, orr⟩ := stepto_ok (hd_ov h.bp p) (hd_ov h.bp q) (hd_pt h.bp a1 a2 h.bs) (hd_pt h.bp b1 b2 h.bs) (by decide)
      have ew := wayof_ok h.bp orr (by omega) (pow_le hS.sa (by decide)) (pow_le hS.sb (by decide)) hS.nz
      have hlen := h.len
      have hjl := (List.getElem?_eq_some_iff.mp hj).1
      refine ⟨_, by rw [er, Option.bind_some, ew, Option.bind_some, lenOk_ok (by rw [i, List.length_map, List.length_take]; omega)]; rfl, ?_⟩
      rw [i, List.take_succ, hj, List.map_append]
      rfl) (by simp)
  refine e.trans ?_
  rw [Nat.zero_add] at h'
  rw [h', List.take_length]
def low2 (b : Int) (kvs : List (P2 × Int)) : List (P2 × T2 Int Int) := kvs.map fun kv => (kv.1, lowF kv.2 b)
theorem get_low {b : Int} (hb : 0 < b) (kvs : List (P2 × Int)) (k : P2) : (dgetM (low2 b kvs) k).getD ⟨0, 1⟩ = lowF ((dgetM kvs k).getD 0) b := by
  unfold low2
  rw [dget_map fun v => lowF v b]
  cases dgetM kvs k with
  | none => exact (lowF_zero hb).symm
  | some v => rfl
theorem mark_sums_ok {c : T2 (List (List P2)) Int} (h : Clo c) : m_mark_sums (told c) = some (low2 c.b (Sums c)) := by
  unfold m_mark_sums
  rw [ways_ok h, Option.bind_some, foldO_map]
  obtain ⟨s', e, h'⟩ := foldO_sim (f := fun (x1 : T2 P2 P2) (s1 : List (P2 × T2 Int Int)) => ((m_plus (((dgetM s1 (psi c.b x1).a).getD ((T2.mk (0 : Int) (1 : Int))))) (psi c.b x1).b).bind fun z2 =>
 (lenOk (s1.length + 1)).bind fun _ => some ((dputM s1 (psi c.b x1).a z2)))) (g := putW) (fun k s t => s = low2 c.b t ∧ DB k t) (xs := sides c) (s := []) (t := []) 0 (fun j s t u hj i => by
      rw [Nat.zero_add] at i ⊢
      obtain ⟨e, db⟩ := i
      have hlen := h.len
      have hjl := (List.getElem?_eq_some_iff.mp hj).1
      have hS := h.sds (List.mem_of_getElem? hj)
      have g1 := db.get (wy s).a
      have w1 := wy_sm hS
      have bs := h.bs
      have bp := h.bp
      have s1 : ((dgetM u (wy s).a).getD 0).natAbs < 2 ^ 130 := by
        have : j * 2 ^ 101 ≤ 1000000 * 2 ^ 101 := Nat.mul_le_mul_right _ (by omega)
        omega
      subst e
      obtain ⟨r, er, wr, rr⟩ := plus_ok (lowF_rt (n := 130) bp s1 (pow_le bs (by decide))) (lowF_rt (v := (wy s).b) (n := 130) bp (pow_le w1 (by decide)) (pow_le bs (by decide))) (by decide)
      have e2 : r = lowF ((dgetM u (wy s).a).getD 0 + (wy s).b) c.b := Is.low bp (Is.sum (lowF_is _ bp) (lowF_is _ bp) wr)
      refine ⟨low2 c.b (putW u s), ?_, rfl, db.put hS⟩
      show (m_plus ((dgetM (low2 c.b u) (wy s).a).getD ⟨0, 1⟩) (lowF (wy s).b c.b)).bind _ = _
      rw [get_low bp, er, Option.bind_some, lenOk_ok (by unfold low2; rw [List.length_map]; have := db.le; omega), Option.bind_some, e2]
      unfold low2 putW
      rw [← dput_map fun v => lowF v c.b]
      rfl) ⟨rfl, DB.nil⟩
  refine (congrArg (fun o => Option.bind o _) e).trans ?_
  rw [Option.bind_some, h'.1]
  rfl
def MkF (D : List (P2 × Int)) (b : Int) (k : P2) : Option (T2 P2 (T2 Int Int)) := match dgetM D k with
  | some v => if v = 0 then none else some ⟨k, lowF v b⟩
  | none => none
def Mk (c : T2 (List (List P2)) Int) : List (T2 P2 (T2 Int Int)) := (sortP ((Sums c).map (·.1))).filterMap (MkF (Sums c) c.b)
theorem filO_fm {α β : Type} {f : α → Option (Option β)} {g : α → Option β} : ∀ {xs : List α}, (∀ x ∈ xs, f x = some (g x)) → filO f xs = some (xs.filterMap g)
  | [], _ => rfl
  | x :: xs, h => by
    show (f x).bind _ = _
    rw [h x List.mem_cons_self, Option.bind_some, filO_fm fun y hy => h y (List.mem_cons_of_mem _ hy), Option.bind_some, List.filterMap_cons]
    cases g x <;> rfl
theorem sortP_mem {xs : List P2} {x : P2} : x ∈ sortP xs ↔ x ∈ xs := List.mem_mergeSort
theorem sortP_len (xs : List P2) : (sortP xs).length = xs.length := List.length_mergeSort xs
theorem told_ok {c : T2 (List (List P2)) Int} (h : Clo c) : m__law_told c = some (told c) := by
  unfold m__law_told
  have h8 := h.h8
  have bs := h.bs
  rw [lenOk_ok (by omega), Option.bind_some, Option.bind_fun_some]
  refine mapO_all fun us hus => ?_
  have := h.rl us hus
  rw [lenOk_ok (by omega), Option.bind_some, Option.bind_fun_some]
  exact mapO_all fun u _ => by rw [spot_hd h.bp (pow_le h.bs (by decide))]; rfl
theorem marks_ok {c : T2 (List (List P2)) Int} (h : Clo c) : m_marks (told c) = some (Mk c) := by
  unfold m_marks
  have hk : List.map (fun e => e.1) (low2 c.b (Sums c)) = (Sums c).map (·.1) := by unfold low2; rw [List.map_map]; rfl
  have hl := h.db.le
  have hlen := h.len
  rw [mark_sums_ok h, Option.bind_some, hk, lenOk_ok (by rw [sortP_len, List.length_map]; omega), Option.bind_some, Option.bind_fun_some]
  refine filO_fm fun k hkm => ?_
  obtain ⟨v, ev⟩ := dget_key (sortP_mem.mp hkm)
  have e2 : dgetM (low2 c.b (Sums c)) k = some (lowF v c.b) := by unfold low2; rw [dget_map fun v => lowF v c.b, ev]; rfl
  rw [e2, Option.bind_some, Option.bind_some]
  unfold MkF
  rw [ev]
  by_cases z : v = 0
  · rw [if_neg (by simp [lowF_nz h.bp, z])]; simp [z]
  · rw [if_pos (by simp [lowF_nz h.bp, z])]; simp [z]
def sm (c : T2 (List (List P2)) Int) (d : P2) : Int := (dgetM (Sums c) d).getD 0
def nr (c : T2 (List (List P2)) Int) (d : P2) : T2 Int Int := lowF (sm c d) c.b
theorem dget_put {β : Type} (kvs : List (P2 × β)) (k l : P2) (v : β) : dgetM (dputM kvs k v) l = if l = k then some v else dgetM kvs l := by
  induction kvs with
  | nil =>
    show ((([(k, v)] : List (P2 × β)).find? fun kv => decide (kv.1 = l)).map (·.2)) = _
    by_cases z : l = k
    · subst z; simp
    · rw [if_neg z, List.find?_cons_of_neg (by simpa using fun e => z e.symm)]; rfl
  | cons x xs ih =>
    obtain ⟨a, b⟩ := x
    by_cases za : a = k
    · subst za
      have e : dputM ((a, b) :: xs) a v = (a, v) :: xs.map (fun kv => if kv.1 = a then (kv.1, v) else kv) := by
        unfold dputM
        rw [if_pos (by simp), List.map_cons, if_pos rfl]
      rw [e]
      by_cases z : l = a
      · subst z; unfold dgetM; simp
      · rw [if_neg z]
        unfold dgetM
        rw [List.find?_cons_of_neg (by simpa using fun e => z e.symm), List.find?_cons_of_neg (by simpa using fun e => z e.symm), List.find?_map, Option.map_map]
        have e2 : ((fun kv : P2 × β => decide (kv.1 = l)) ∘ fun kv => if kv.1 = a then (kv.1, v) else kv) = fun kv => decide (kv.1 = l) := by
          funext kv; simp only [Function.comp_apply]; split <;> rfl
        rw [e2]
        cases h : xs.find? fun kv => decide (kv.1 = l) with
        | none => rfl
        | some kv =>
          have := List.find?_some h
          simp at this
          simp only [Option.map_some, Function.comp_apply]
          rw [if_neg (by rw [this]; exact z)]
    · have e : dputM ((a, b) :: xs) k v = (a, b) :: dputM xs k v := by
        unfold dputM
        rw [List.any_cons]
        simp only [za, decide_false, Bool.false_or]
        split
        · rw [List.map_cons, if_neg za]
        · rfl
      rw [e]
      by_cases z : l = a
      · subst z
        rw [if_neg za]; unfold dgetM; simp
      · have e3 : ∀ ys : List (P2 × β), dgetM ((a, b) :: ys) l = dgetM ys l := fun ys => by
          unfold dgetM
          rw [List.find?_cons_of_neg (by simpa using fun e => z e.symm)]
        rw [e3, e3, ih]
theorem dget_keys {β : Type} {kvs : List (P2 × β)} {k : P2} : k ∈ kvs.map (·.1) ↔ dgetM kvs k ≠ none := by
  constructor
  · intro h
    obtain ⟨v, e⟩ := dget_key h
    rw [e]; exact fun e => nomatch e
  · intro h
    cases e : dgetM kvs k with
    | none => exact absurd e h
    | some v => exact List.mem_map.mpr ⟨_, dget_mem e, rfl⟩
theorem mk_mem {c : T2 (List (List P2)) Int} {p : T2 P2 (T2 Int Int)} : p ∈ Mk c ↔ sm c p.a ≠ 0 ∧ p.b = nr c p.a := by
  unfold Mk
  rw [List.mem_filterMap]
  constructor
  · rintro ⟨k, hk, e⟩
    unfold MkF at e
    unfold sm nr sm
    cases ev : dgetM (Sums c) k with
    | none => rw [ev] at e; cases e
    | some v =>
      rw [ev] at e
      simp only at e
      split at e
      · cases e
      · next z =>
        cases e
        simp only [ev]
        exact ⟨z, rfl⟩
  · rintro ⟨h1, h2⟩
    unfold nr at h2
    unfold sm at h1 h2
    cases ev : dgetM (Sums c) p.a with
    | none => rw [ev] at h1; exact absurd rfl h1
    | some v =>
      rw [ev] at h1 h2
      refine ⟨p.a, sortP_mem.mpr (List.mem_map.mpr ⟨_, dget_mem ev, rfl⟩), ?_⟩
      unfold MkF
      rw [ev]
      simp only [Option.getD_some] at h1 h2 ⊢
      rw [if_neg h1, ← h2]
theorem mk_keys {c : T2 (List (List P2)) Int} {k : P2} : k ∈ (Mk c).map (·.a) ↔ sm c k ≠ 0 := by
  rw [List.mem_map]
  constructor
  · rintro ⟨p, hp, e⟩
    subst e
    exact (mk_mem.mp hp).1
  · intro h
    exact ⟨⟨k, nr c k⟩, mk_mem.mpr ⟨h, rfl⟩, rfl⟩
theorem lawlow_ok {v b : Int} (h : 0 < b) (hb : b.natAbs < 2 ^ 8000) : m__law_low v b = some (lowF v b) := by
  unfold m__law_low
  have hg := gcd_pos (a := v) h
  have hl := gcd_le (a := v) h
  have hs : (Int.gcd v b : Int).natAbs < 2 ^ 8000 := Nat.lt_of_le_of_lt (by omega) hb
  rw [meas_ok, Option.bind_some, if_neg (by simp; omega), Option.bind_some, divG_pos 8000 hg hs (by decide), divG_pos 8000 hg hs (by decide)]
  rfl
/-- the law's loop over its cells -/
theorem cell0_ok (ns : List Int) : ∃ c, m__law_cell ns 0 = some c := by
  unfold m__law_cell
  by_cases z : 0 < ns.length
  · rw [if_pos (by simpa using z)]
    have := ix_lt z
    rw [show ((0 : Nat) : Int) = 0 from rfl] at this
    rw [this]; exact ⟨_, rfl⟩
  · rw [if_neg (by simpa using z)]; exact ⟨_, rfl⟩
/-! ### plain: the sums of marks -/
abbrev Mks := T2 P2 (T2 Int Int)
def wt (d : P2) (s : T2 P2 P2) : Int := if (wy s).a = d then (wy s).b else 0
theorem sums_get (ss : List (T2 P2 P2)) (kvs : List (P2 × Int)) (d : P2) : (dgetM (ss.foldl putW kvs) d).getD 0 = (dgetM kvs d).getD 0 + (ss.map (wt d)).sum := by
  induction ss generalizing kvs with
  | nil => simp
  | cons s ss ih =>
    rw [List.foldl_cons, ih, List.map_cons, List.sum_cons]
    unfold putW wt
    rw [dget_put]
    by_cases z : d = (wy s).a
    · rw [if_pos z, if_pos z.symm, Option.getD_some, z, Int.add_assoc]
    · rw [if_neg z, if_neg (Ne.symm z), Int.zero_add]
theorem sm_sum (c : T2 (List (List P2)) Int) (d : P2) : sm c d = ((sides c).map (wt d)).sum := by
  unfold sm Sums
  rw [sums_get, show (dgetM ([] : List (P2 × Int)) d).getD 0 = 0 from rfl, Int.zero_add]
theorem dput_keys {β : Type} (kvs : List (P2 × β)) (k : P2) (v : β) : (dputM kvs k v).map (·.1) = if k ∈ kvs.map (·.1) then kvs.map (·.1) else kvs.map (·.1) ++ [k] := by
  unfold dputM
  by_cases z : k ∈ kvs.map (·.1)
  · rw [if_pos z, if_pos (by
      obtain ⟨kv, h1, h2⟩ := List.mem_map.mp z
      exact List.any_eq_true.mpr ⟨kv, h1, by simp [h2]⟩), List.map_map]
    refine List.map_congr_left fun kv _ => ?_
    show (if kv.1 = k then (kv.1, v) else kv).1 = kv.1
    split <;> rfl
  · rw [if_neg z, if_neg (fun h => by
      obtain ⟨kv, h1, h2⟩ := List.any_eq_true.mp h
      exact z (List.mem_map.mpr ⟨kv, h1, by simpa using h2⟩)), List.map_append]
    rfl
theorem dput_nd {β : Type} {kvs : List (P2 × β)} {k : P2} {v : β} (h : (kvs.map (·.1)).Nodup) : ((dputM kvs k v).map (·.1)).Nodup := by
  rw [dput_keys]
  split
  · exact h
  · next z => exact List.nodup_append.mpr ⟨h, by simp, fun a ha b hb e => z (by rw [List.mem_singleton.mp hb] at e; rw [← e]; exact ha)⟩
theorem fold_nd : ∀ (ss : List (T2 P2 P2)) {kvs : List (P2 × Int)}, (kvs.map (·.1)).Nodup → ((ss.foldl putW kvs).map (·.1)).Nodup
  | [], _, h => h
  | s :: ss, _, h => fold_nd ss (dput_nd h)
theorem sums_nd (c : T2 (List (List P2)) Int) : ((Sums c).map (·.1)).Nodup := fold_nd _ List.nodup_nil
/-! strictly sorted lists with the same items are the same -/
theorem pw_ext {α : Type} {r : α → α → Prop} (asym : ∀ a b, r a b → ¬ r b a) : ∀ {l m : List α}, l.Pairwise r → m.Pairwise r → (∀ x, x ∈ l ↔ x ∈ m) → l = m
  | [], [], _, _, _ => rfl
  | [], y :: m, _, _, h => nomatch (h y).mpr List.mem_cons_self
  | x :: l, [], _, _, h => nomatch (h x).mp List.mem_cons_self
  | x :: l, y :: m, hl, hm, h => by
    obtain ⟨l1, l2⟩ := List.pairwise_cons.mp hl
    obtain ⟨m1, m2⟩ := List.pairwise_cons.mp hm
    have e : x = y := by
      rcases List.mem_cons.mp ((h x).mp List.mem_cons_self) with z | z
      · exact z
      · rcases List.mem_cons.mp ((h y).mpr List.mem_cons_self) with w | w
        · exact w.symm
        · exact (asym _ _ (m1 x z) (l1 y w)).elim
    subst e
    rw [pw_ext asym l2 m2 fun z => ⟨fun hz => ?_, fun hz => ?_⟩]
    · rcases List.mem_cons.mp ((h z).mp (List.mem_cons_of_mem _ hz)) with w | w
      · subst w; exact (asym _ _ (l1 _ hz) (l1 _ hz)).elim
      · exact w
    · rcases List.mem_cons.mp ((h z).mpr (List.mem_cons_of_mem _ hz)) with w | w
      · subst w; exact (asym _ _ (m1 _ hz) (m1 _ hz)).elim
      · exact w
def Stm (p q : Mks) : Prop := lt2P p.a q.a = true
theorem Stm.asym (p q : Mks) (h : Stm p q) : ¬ Stm q p := fun k => by
  have := lt2P_swo.asym _ _ h
  rw [k] at this; cases this
theorem lt_tot {x y : P2} (n : x ≠ y) (h : lt2P y x = false) : lt2P x y = true := by
  cases e : lt2P x y with
  | true => rfl
  | false => exact (n (lt2P_eq (SrtO.eqv_iff.mpr ⟨e, h⟩))).elim
theorem mk_st (c : T2 (List (List P2)) Int) : (Mk c).Pairwise Stm := by
  unfold Mk
  rw [List.pairwise_filterMap]
  have nd : (sortP ((Sums c).map (·.1))).Nodup := (sortP_perm _).nodup_iff.mpr (sums_nd c)
  refine (sortP_srtd ((Sums c).map (·.1))).imp₂ (S := fun a b => a ≠ b) (fun a b h1 h2 p hp q hq => ?_) nd
  have key : ∀ k (p : Mks), MkF (Sums c) c.b k = some p → p.a = k := fun k p h => by
    unfold MkF at h
    split at h
    · split at h
      · cases h
      · cases h; rfl
    · cases h
  unfold Stm
  rw [key _ _ hp, key _ _ hq]
  exact lt_tot h2 h1
theorem mk_ext {c : T2 (List (List P2)) Int} {l : List Mks} (h : l.Pairwise Stm) (m : ∀ p, p ∈ l ↔ sm c p.a ≠ 0 ∧ p.b = nr c p.a) : Mk c = l :=
  pw_ext Stm.asym (mk_st c) h fun p => mk_mem.trans (m p).symm
/-! a side's direction -/
def Nm (d : P2) : Prop := Int.gcd d.a d.b = 1 ∧ (0 < d.b ∨ d.b = 0 ∧ d.a = 1)
theorem Nm.nz {d : P2} (h : Nm d) : d.a ≠ 0 ∨ d.b ≠ 0 := by
  rcases h.2 with z | ⟨_, z⟩
  · right; omega
  · left; omega
theorem way_of_wy {x y : Int} {w : T2 P2 Int} (h : Wy x y w) : way x y = w := by
  have nz : x ≠ 0 ∨ y ≠ 0 := by
    have := h.nz
    rcases h.nm with z | ⟨_, z⟩
    · right; rw [h.eb]; exact Int.mul_ne_zero (by omega) this
    · left; rw [h.ea]; exact Int.mul_ne_zero (by omega) this
  obtain ⟨e1, e2⟩ := (way_wy nz).same h (k := 1) (l := 1) (by decide) rfl rfl
  rw [Int.mul_one, Int.mul_one] at e2
  generalize way x y = v at *
  obtain ⟨v1, v2⟩ := v
  obtain ⟨w1, w2⟩ := w
  simp only at e1 e2
  rw [e1, e2]
theorem way_mul {x y k : Int} (h : x ≠ 0 ∨ y ≠ 0) (hk : k ≠ 0) : way (k * x) (k * y) = ⟨(way x y).a, k * (way x y).b⟩ := by
  have w := way_wy h
  refine way_of_wy ⟨?_, ?_, w.one, w.nm, Int.mul_ne_zero hk w.nz⟩
  · show k * x = (way x y).a.a * (k * (way x y).b)
    rw [Int.mul_left_comm, ← w.ea]
  · show k * y = (way x y).a.b * (k * (way x y).b)
    rw [Int.mul_left_comm, ← w.eb]
theorem Sd.nm {s : T2 P2 P2} (h : Sd s) : Nm (wy s).a := ⟨(way_wy h.nz).one, (way_wy h.nz).nm⟩
theorem sum_zero {α : Type} {f : α → Int} : ∀ {xs : List α}, (∀ x ∈ xs, f x = 0) → (xs.map f).sum = 0
  | [], _ => rfl
  | x :: xs, h => by rw [List.map_cons, List.sum_cons, h x List.mem_cons_self, sum_zero fun y hy => h y (List.mem_cons_of_mem _ hy)]; rfl
theorem sum_mul {α : Type} {f g : α → Int} {k : Int} : ∀ {xs : List α}, (∀ x ∈ xs, f x = k * g x) → (xs.map f).sum = k * (xs.map g).sum
  | [], _ => by simp
  | x :: xs, h => by rw [List.map_cons, List.sum_cons, h x List.mem_cons_self, sum_mul fun y hy => h y (List.mem_cons_of_mem _ hy), List.map_cons, List.sum_cons, Int.mul_add]
/-- a direction whose sum is not 0 is a side's -/
theorem sm_dir {c : T2 (List (List P2)) Int} {d : P2} (h : sm c d ≠ 0) : ∃ s ∈ sides c, (wy s).a = d := by
  rw [sm_sum] at h
  by_cases z : ∃ s ∈ sides c, (wy s).a = d
  · exact z
  · exact (h (sum_zero fun s hs => if_neg fun e => z ⟨s, hs, e⟩)).elim
theorem sm_nm {c : T2 (List (List P2)) Int} (hc : Clo c) {d : P2} (h : sm c d ≠ 0) : Nm d := by
  obtain ⟨s, hs, e⟩ := sm_dir h
  rw [← e]; exact (hc.sds hs).nm
theorem sides_map (f : P2 → P2) (rs : List (List P2)) (b b' : Int) : sides ⟨rs.map (List.map f), b'⟩ = (sides ⟨rs, b⟩).map fun s => ⟨f s.a, f s.b⟩ := by
  unfold sides
  show (rs.map (List.map f)).flatMap sd = (rs.flatMap sd).map _
  rw [List.flatMap_map, List.map_flatMap]
  congr 1
  exact funext fun us => sd_map f us
/-! slid, turned, enlarged -/
theorem sm_scale {c : T2 (List (List P2)) Int} (hc : Clo c) {k : Int} (hk : k ≠ 0) {f : P2 → P2} {b' : Int} (hf : ∀ p q : P2, (f q).a - (f p).a = k * (q.a - p.a) ∧ (f q).b - (f p).b = k * (q.b - p.b)) (d : P2) : sm ⟨c.a.map (List.map f), b'⟩ d = k * sm c d := by
  rw [sm_sum, sm_sum, sides_map f c.a c.b b', List.map_map]
  refine sum_mul fun s hs => ?_
  obtain ⟨h1, h2⟩ := hf s.a s.b
  have e : wy ⟨f s.a, f s.b⟩ = ⟨(wy s).a, k * (wy s).b⟩ := by
    unfold wy
    show way ((f s.b).a - (f s.a).a) ((f s.b).b - (f s.a).b) = _
    rw [h1, h2, way_mul (hc.sds hs).nz hk]
  show (if (wy ⟨f s.a, f s.b⟩).a = d then (wy ⟨f s.a, f s.b⟩).b else 0) = k * (if (wy s).a = d then (wy s).b else 0)
  rw [e]
  show (if (wy s).a = d then k * (wy s).b else 0) = _
  split
  · rfl
  · rw [Int.mul_zero]
theorem lowF_neg {v b : Int} : lowF (-v) b = ⟨-(lowF v b).a, (lowF v b).b⟩ := by
  unfold lowF
  have e : Int.gcd (-v) b = Int.gcd v b := by simp
  rw [e, Int.neg_ediv_of_dvd (Int.gcd_dvd_left v b)]
theorem lowF_mul {v b k : Int} (hk : 0 < k) (hb : 0 < b) : lowF (k * v) (k * b) = lowF v b := by
  refine (Is.low (Int.mul_pos hk hb) ⟨(lowF_is v hb).pos, (lowF_is v hb).one, ?_⟩).symm
  have := (lowF_is v hb).eq
  rw [Int.mul_left_comm, this, Int.mul_assoc]
/-! the way closes -/
theorem sdf_tele (f : P2 → Int) : ∀ (xs : List P2) (a l : P2), (a :: xs).getLast? = some l → ((sdf a xs).map fun s => f s.b - f s.a).sum = f l - f a
  | [], a, l, h => by
    have e : a = l := by simpa using h
    subst e
    show (0 : Int) = _
    omega
  | x :: xs, a, l, h => by
    have h' : (x :: xs).getLast? = some l := by rw [List.getLast?_cons_cons] at h; exact h
    show ((⟨a, x⟩ :: sdf x xs).map fun s : T2 P2 P2 => f s.b - f s.a).sum = _
    rw [List.map_cons, List.sum_cons, sdf_tele f xs x l h']
    show f x - f a + _ = _
    omega
theorem sd_tele (f : P2 → Int) (us : List P2) : ((sd us).map fun s => f s.b - f s.a).sum = 0 := by
  unfold sd
  cases h : us.getLast? with
  | none => rfl
  | some l =>
    show ((sdf l us).map _).sum = 0
    rw [sdf_tele f us l l (by
      cases us with
      | nil => cases h
      | cons x xs => rw [List.getLast?_cons_cons]; exact h)]
    omega
theorem sum_flat {α β : Type} {f : β → Int} {g : α → List β} : ∀ (xs : List α), ((xs.flatMap g).map f).sum = (xs.map fun x => ((g x).map f).sum).sum
  | [] => rfl
  | x :: xs => by rw [List.flatMap_cons, List.map_append, List.sum_append, List.map_cons, List.sum_cons, sum_flat xs]
theorem sides_tele (f : P2 → Int) (c : T2 (List (List P2)) Int) : ((sides c).map fun s => f s.b - f s.a).sum = 0 := by
  unfold sides
  rw [sum_flat]
  exact sum_zero fun us _ => sd_tele f us
/-! ### plain: slid, turned, tilted -/
theorem Cl.map {B : Nat} {c : T2 (List (List P2)) Int} (h : Cl B c) {f : P2 → P2} {b : Int} (hb : 0 < b) (hs : b.natAbs < 2 ^ 100) (inj : ∀ u v, f u = f v → u = v) (sm : ∀ us ∈ c.a, ∀ u ∈ us, (f u).a.natAbs < 2 ^ 100 ∧ (f u).b.natAbs < 2 ^ 100) : Clo ⟨c.a.map (List.map f), b⟩ := by
  have h3 := h.rs.1
  refine ⟨hb, hs, by show (c.a.map _).length ≤ 1000; rw [List.length_map]; omega, fun us hus => ?_, fun us hus u hu => ?_, fun us hus s hs => ?_⟩
  · obtain ⟨vs, hv, rfl⟩ := List.mem_map.mp hus
    rw [List.length_map]
    have := (h.rs.2 vs hv).l24; omega
  · obtain ⟨vs, hv, rfl⟩ := List.mem_map.mp hus
    obtain ⟨v, hv2, rfl⟩ := List.mem_map.mp hu
    exact sm vs hv v hv2
  · obtain ⟨vs, hv, rfl⟩ := List.mem_map.mp hus
    rw [sd_map] at hs
    obtain ⟨t, ht, rfl⟩ := List.mem_map.mp hs
    exact fun e => (h.rs.2 vs hv).ne t ht (inj _ _ e)
def mv (o x y : Int) (p : P2) : P2 := ⟨o * p.a + x, o * p.b + y⟩
theorem moved_ok {B : Nat} (hB : B < 2 ^ 90) {c : T2 (List (List P2)) Int} (h : Cl B c) {o : Int} (ho : o = 1 ∨ o = -1) (x y : Int) : m__law_moved c o x y = some ⟨c.a.map (List.map (mv o x y)), c.b⟩ := by
  unfold m__law_moved
  have h8 := h.rs.1
  rw [lenOk_ok (by omega), Option.bind_some, mapO_all (g := List.map (mv o x y)) (fun us hus => ?_)]
  · rfl
  · have hl := (h.rs.2 us hus).l24
    rw [lenOk_ok (by omega), Option.bind_some, Option.bind_fun_some]
    refine mapO_all fun u hu => ?_
    have s1 := ((h.rs.2 us hus).sm u hu).1
    have s2 := ((h.rs.2 us hus).sm u hu).2
    have n : o.natAbs < 2 ^ 1 := by rcases ho with z | z <;> subst z <;> decide
    rw [mulG_ok 1 90 n (by omega) (by decide), Option.bind_some, mulG_ok 1 90 n (by omega) (by decide)]
    rfl
theorem moved_clo {B : Nat} (hB : B < 2 ^ 90) {c : T2 (List (List P2)) Int} (h : Cl B c) {o : Int} (ho : o = 1 ∨ o = -1) {x y : Int} (hx : x.natAbs < 2 ^ 90) (hy : y.natAbs < 2 ^ 90) : Clo ⟨c.a.map (List.map (mv o x y)), c.b⟩ := by
  have h1 := h.b1
  have h2 := h.b2
  refine h.map (by omega) (by omega) (fun u v e => ?_) fun us hus u hu => ?_
  · obtain ⟨u1, u2⟩ := u
    obtain ⟨v1, v2⟩ := v
    unfold mv at e
    injection e with e1 e2
    simp only at e1 e2
    rcases ho with z | z <;> subst z
    · rw [show u1 = v1 by omega, show u2 = v2 by omega]
    · rw [show u1 = v1 by omega, show u2 = v2 by omega]
  · have s1 := ((h.rs.2 us hus).sm u hu).1
    have s2 := ((h.rs.2 us hus).sm u hu).2
    show (o * u.a + x).natAbs < _ ∧ (o * u.b + y).natAbs < _
    rcases ho with z | z <;> subst z
    · constructor <;> omega
    · constructor <;> omega
theorem moved_sm {c : T2 (List (List P2)) Int} (h : Clo c) {o : Int} (ho : o ≠ 0) {x y : Int} (d : P2) : sm ⟨c.a.map (List.map (mv o x y)), c.b⟩ d = o * sm c d :=
  sm_scale h ho (fun p q => by
    unfold mv
    constructor
    · show o * q.a + x - (o * p.a + x) = _; rw [Int.mul_sub]; omega
    · show o * q.b + y - (o * p.b + y) = _; rw [Int.mul_sub]; omega) d
theorem slid_mk {c : T2 (List (List P2)) Int} (h : Clo c) (x y : Int) : Mk ⟨c.a.map (List.map (mv 1 x y)), c.b⟩ = Mk c :=
  mk_ext (mk_st c) fun p => by
    rw [mk_mem, moved_sm h (by decide), Int.one_mul]
    unfold nr
    rw [moved_sm h (by decide), Int.one_mul]
def ngm (p : Mks) : Mks := ⟨p.a, ⟨-p.b.a, p.b.b⟩⟩
theorem turned_mk {c : T2 (List (List P2)) Int} (h : Clo c) (x y : Int) : Mk ⟨c.a.map (List.map (mv (-1) x y)), c.b⟩ = (Mk c).map ngm := by
  refine mk_ext ?_ fun p => ?_
  · rw [List.pairwise_map]
    exact mk_st c
  · have e : ∀ d, nr ⟨c.a.map (List.map (mv (-1) x y)), c.b⟩ d = ⟨-(nr c d).a, (nr c d).b⟩ := fun d => by
      unfold nr
      rw [moved_sm h (by decide), Int.neg_mul, Int.one_mul, lowF_neg]
    rw [moved_sm h (by decide), e, List.mem_map]
    constructor
    · rintro ⟨q, hq, rfl⟩
      obtain ⟨h1, h2⟩ := mk_mem.mp hq
      refine ⟨by show -1 * sm c q.a ≠ 0; omega, ?_⟩
      show (⟨-q.b.a, q.b.b⟩ : T2 Int Int) = ⟨-(nr c q.a).a, (nr c q.a).b⟩
      rw [h2]
    · rintro ⟨h1, h2⟩
      refine ⟨⟨p.a, nr c p.a⟩, mk_mem.mpr ⟨fun z => h1 (by rw [z]; rfl), rfl⟩, ?_⟩
      obtain ⟨pa, pb⟩ := p
      simp only at h2
      rw [h2]; rfl
/-! tilted -/
def tlt (u t : Int) (p : P2) : P2 := ⟨p.a * u, p.b * u + p.a * t⟩
def tw (u t : Int) (d : P2) : T2 P2 Int := way (d.a * u) (d.b * u + d.a * t)
theorem tlt_nz {u t : Int} (hu : u ≠ 0) {d : P2} (h : d.a ≠ 0 ∨ d.b ≠ 0) : d.a * u ≠ 0 ∨ d.b * u + d.a * t ≠ 0 := by
  by_cases z : d.a = 0
  · right
    rw [z, Int.zero_mul, Int.add_zero]
    exact Int.mul_ne_zero (h.resolve_left fun e => e z) hu
  · exact .inl (Int.mul_ne_zero z hu)
theorem wy_tlt {u t : Int} (hu : u ≠ 0) {s : T2 P2 P2} (h : Sd s) : wy ⟨tlt u t s.a, tlt u t s.b⟩ = ⟨(tw u t (wy s).a).a, (wy s).b * (tw u t (wy s).a).b⟩ := by
  have w := way_wy h.nz
  have n := tlt_nz (t := t) hu h.nm.nz
  have v := way_wy n
  unfold wy
  refine way_of_wy ⟨?_, ?_, v.one, v.nm, Int.mul_ne_zero w.nz v.nz⟩
  · show s.b.a * u - s.a.a * u = (tw u t (wy s).a).a.a * ((wy s).b * (tw u t (wy s).a).b)
    rw [← Int.sub_mul, w.ea, Int.mul_left_comm]
    unfold tw
    rw [← v.ea, Int.mul_right_comm, Int.mul_comm]
    rfl
  · show s.b.b * u + s.b.a * t - (s.a.b * u + s.a.a * t) = (tw u t (wy s).a).a.b * ((wy s).b * (tw u t (wy s).a).b)
    rw [Int.mul_left_comm]
    unfold tw
    rw [← v.eb]
    have e1 := w.ea
    have e2 := w.eb
    have f1 : (wy s).a.a * (wy s).b = s.b.a - s.a.a := e1.symm
    have f2 : (wy s).a.b * (wy s).b = s.b.b - s.a.b := e2.symm
    generalize (wy s).a.a = a at *
    generalize (wy s).a.b = b at *
    generalize (wy s).b = k at *
    have : k * (b * u + a * t) = (b * k) * u + (a * k) * t := by grind
    rw [this, f1, f2, Int.sub_mul, Int.sub_mul]
    omega
theorem tw_inj {u t : Int} (hu : u ≠ 0) {d e : P2} (hd : Nm d) (he : Nm e) (h : (tw u t d).a = (tw u t e).a) : d = e := by
  have v := way_wy (tlt_nz (t := t) hu hd.nz)
  have w := way_wy (tlt_nz (t := t) hu he.nz)
  have v1 : d.a * u = (tw u t d).a.a * (tw u t d).b := v.ea
  have v2 : d.b * u + d.a * t = (tw u t d).a.b * (tw u t d).b := v.eb
  have w1 : e.a * u = (tw u t e).a.a * (tw u t e).b := w.ea
  have w2 : e.b * u + e.a * t = (tw u t e).a.b * (tw u t e).b := w.eb
  have vz : (tw u t d).b ≠ 0 := v.nz
  have wz : (tw u t e).b ≠ 0 := w.nz
  rw [h] at v1 v2
  generalize (tw u t e).a = D at *
  generalize (tw u t d).b = p at *
  generalize (tw u t e).b = q at *
  have a1 : d.a * q = e.a * p := by
    refine Int.eq_of_mul_eq_mul_right hu ?_
    have : d.a * u * q = e.a * u * p := by rw [v1, w1]; grind
    grind
  have a2 : d.b * q = e.b * p := by
    refine Int.eq_of_mul_eq_mul_right hu ?_
    have : (d.b * u + d.a * t) * q = (e.b * u + e.a * t) * p := by rw [v2, w2]; grind
    grind
  obtain ⟨r1, r2, _⟩ := cop_same a1 a2 hd.1 he.1 hd.2 he.2 wz
  obtain ⟨d1, d2⟩ := d
  obtain ⟨e1, e2⟩ := e
  simp only at r1 r2
  rw [r1, r2]
abbrev tc (c : T2 (List (List P2)) Int) (u t : Int) : T2 (List (List P2)) Int := ⟨c.a.map (List.map (tlt u t)), c.b * u⟩
theorem tilt_sm {c : T2 (List (List P2)) Int} (h : Clo c) {u t : Int} (hu : u ≠ 0) {d : P2} (hd : Nm d) : sm (tc c u t) (tw u t d).a = (tw u t d).b * sm c d := by
  rw [sm_sum, sm_sum, sides_map (tlt u t) c.a c.b (c.b * u), List.map_map]
  refine sum_mul fun s hs => ?_
  have hS := h.sds hs
  show (if (wy ⟨tlt u t s.a, tlt u t s.b⟩).a = _ then (wy ⟨tlt u t s.a, tlt u t s.b⟩).b else 0) = _ * (if (wy s).a = d then (wy s).b else 0)
  rw [wy_tlt hu hS]
  show (if (tw u t (wy s).a).a = (tw u t d).a then (wy s).b * (tw u t (wy s).a).b else 0) = _
  by_cases z : (wy s).a = d
  · rw [z, if_pos rfl, if_pos rfl, Int.mul_comm]
  · rw [if_neg z, if_neg fun e => z (tw_inj hu hS.nm hd e), Int.mul_zero]
def tmk (u t : Int) (q : Mks) : Mks := ⟨(tw u t q.a).a, lowF (q.b.a * (tw u t q.a).b) (q.b.b * u)⟩
theorem tilt_mem {c : T2 (List (List P2)) Int} (h : Clo c) {u t : Int} (hu : 0 < u) (p : Mks) : p ∈ (Mk c).map (tmk u t) ↔ p ∈ Mk (tc c u t) := by
  have hu0 : u ≠ 0 := by omega
  have low : ∀ d, Nm d → lowF ((nr c d).a * (tw u t d).b) ((nr c d).b * u) = nr (tc c u t) (tw u t d).a := fun d hd => by
    unfold nr
    rw [tilt_sm h hu0 hd]
    refine Is.low (Int.mul_pos h.bp hu) ?_
    have i := lowF_is (sm c d) h.bp
    generalize lowF (sm c d) c.b = r at *
    have j := lowF_is (r.a * (tw u t d).b) (Int.mul_pos i.pos hu)
    refine ⟨j.pos, j.one, ?_⟩
    have e1 := i.eq
    have e2 := j.eq
    generalize lowF (r.a * (tw u t d).b) (r.b * u) = x at *
    generalize (tw u t d).b = k at *
    have hp := i.pos
    refine Int.eq_of_mul_eq_mul_right (show r.b ≠ 0 by omega) ?_
    have : x.a * (c.b * u) * r.b = (x.a * (r.b * u)) * c.b := by grind
    rw [this, e2]
    have : r.a * k * x.b * c.b = (r.a * c.b) * (k * x.b) := by grind
    rw [this, e1]; grind
  rw [mk_mem, List.mem_map]
  constructor
  · rintro ⟨q, hq, rfl⟩
    obtain ⟨h1, h2⟩ := mk_mem.mp hq
    have hd := sm_nm h h1
    have vz : (tw u t q.a).b ≠ 0 := (way_wy (tlt_nz (t := t) hu0 hd.nz)).nz
    refine ⟨?_, ?_⟩
    · show sm (tc c u t) (tw u t q.a).a ≠ 0
      rw [tilt_sm h hu0 hd]
      exact Int.mul_ne_zero vz h1
    · show lowF (q.b.a * (tw u t q.a).b) (q.b.b * u) = nr (tc c u t) (tw u t q.a).a
      rw [h2]; exact low _ hd
  · rintro ⟨h1, h2⟩
    obtain ⟨s, hs, e⟩ := sm_dir h1
    rw [sides_map (tlt u t) c.a c.b (c.b * u)] at hs
    obtain ⟨s0, hs0, rfl⟩ := List.mem_map.mp hs
    have hS := h.sds hs0
    rw [wy_tlt hu0 hS] at e
    have e : (tw u t (wy s0).a).a = p.a := e
    have hd := hS.nm
    rw [← e, tilt_sm h hu0 hd] at h1
    have n : sm c (wy s0).a ≠ 0 := fun z => h1 (by rw [z, Int.mul_zero])
    refine ⟨⟨(wy s0).a, nr c (wy s0).a⟩, mk_mem.mpr ⟨n, rfl⟩, ?_⟩
    obtain ⟨pa, pb⟩ := p
    simp only at e h2
    subst e
    rw [h2, ← low _ hd]
    rfl
theorem tilt_mk {c : T2 (List (List P2)) Int} (h : Clo c) {u t : Int} (hu : 0 < u) : Mk (tc c u t) = sortQ ((Mk c).map (tmk u t)) := by
  have hu0 : u ≠ 0 := by omega
  have st2 : ∀ p q : Mks, Stm p q → ltQ q p = false := fun p q z => by
    have n : p.a ≠ q.a := fun e => by
      unfold Stm at z
      rw [e] at z
      have := lt2P_swo.asym _ _ z
      rw [z] at this; cases this
    unfold ltQ ScQ.lex2 qk
    rw [if_neg (fun e => n (by
      obtain ⟨⟨a, b⟩, c⟩ := p
      obtain ⟨⟨d, e'⟩, f⟩ := q
      simp only [Prod.mk.injEq] at e
      rw [e.1, e.2]))]
    exact lt2P_swo.asym _ _ z
  have s1 : SrtO.Srtd ltQ (Mk (tc c u t)) := (mk_st _).imp fun {p q} z => st2 p q z
  have nd1 : (Mk (tc c u t)).Nodup := by
    refine List.Pairwise.imp (fun {p q} z => ?_) (mk_st _)
    intro e
    subst e
    exact Stm.asym _ _ z z
  have nd2 : ((Mk c).map (tmk u t)).Nodup := by
    refine List.pairwise_map.mpr ((mk_st c).imp_of_mem fun {p q} hp hq z e => ?_)
    have n : p.a ≠ q.a := fun e => by
      unfold Stm at z
      rw [e] at z
      have := lt2P_swo.asym _ _ z
      rw [z] at this; cases this
    have e1 : (tmk u t p).a = (tmk u t q).a := by rw [e]
    exact n (tw_inj hu0 (sm_nm h (mk_mem.mp hp).1) (sm_nm h (mk_mem.mp hq).1) e1)
  refine SrtO.stb_uniq ltQ_swo s1 (sortQ_srtd _) (stb_permQ ?_)
  refine List.Perm.trans ?_ (sortQ_perm _).symm
  exact (List.perm_ext_iff_of_nodup nd1 nd2).mpr fun p => (tilt_mem h hu p).symm
/-! ### plain: all marks times their directions come to nothing -/
def Dsum (f : P2 → Int) (kvs : List (P2 × Int)) : Int := (kvs.map fun kv => f kv.1 * kv.2).sum
theorem dput_cons_ne {β : Type} {a k : P2} {b v : β} {xs : List (P2 × β)} (h : a ≠ k) : dputM ((a, b) :: xs) k v = (a, b) :: dputM xs k v := by
  unfold dputM
  rw [List.any_cons]
  simp only [h, decide_false, Bool.false_or]
  split
  · rw [List.map_cons, if_neg h]
  · rfl
theorem dget_cons_ne {β : Type} {a k : P2} {b : β} {xs : List (P2 × β)} (h : a ≠ k) : dgetM ((a, b) :: xs) k = dgetM xs k := by
  unfold dgetM
  rw [List.find?_cons_of_neg (by simpa using h)]
theorem dget_cons_eq {β : Type} {k : P2} {b : β} {xs : List (P2 × β)} : dgetM ((k, b) :: xs) k = some b := by
  unfold dgetM
  simp
theorem dput_sum (f : P2 → Int) (k : P2) (w : Int) : ∀ {kvs : List (P2 × Int)}, (kvs.map (·.1)).Nodup → Dsum f (dputM kvs k w) = Dsum f kvs + f k * (w - (dgetM kvs k).getD 0)
  | [], _ => by
    show (([(k, w)] : List (P2 × Int)).map fun kv => f kv.1 * kv.2).sum = 0 + f k * (w - 0)
    simp
  | (a, b) :: xs, h => by
    obtain ⟨h1, h2⟩ := List.nodup_cons.mp h
    by_cases z : a = k
    · subst z
      have e : dputM ((a, b) :: xs) a w = (a, w) :: xs := by
        unfold dputM
        rw [if_pos (by simp), List.map_cons, if_pos rfl]
        congr 1
        have : xs.map (fun kv => if kv.1 = a then (kv.1, w) else kv) = xs.map id := List.map_congr_left fun kv hkv => by
          rw [if_neg fun e => h1 (by rw [← e]; exact List.mem_map.mpr ⟨kv, hkv, rfl⟩)]; rfl
        rw [this, List.map_id]
      rw [e, dget_cons_eq]
      unfold Dsum
      rw [List.map_cons, List.sum_cons, List.map_cons, List.sum_cons]
      show f a * w + _ = f a * b + _ + f a * (w - b)
      rw [Int.mul_sub]; omega
    · rw [dput_cons_ne z, dget_cons_ne z]
      have := dput_sum f k w h2
      unfold Dsum at this ⊢
      rw [List.map_cons, List.sum_cons, List.map_cons, List.sum_cons, this]
      omega
theorem put_sum (f : P2 → Int) (s : T2 P2 P2) {kvs : List (P2 × Int)} (h : (kvs.map (·.1)).Nodup) : Dsum f (putW kvs s) = Dsum f kvs + f (wy s).a * (wy s).b := by
  unfold putW
  rw [dput_sum f _ _ h]
  congr 2
  omega
theorem fold_sum (f : P2 → Int) : ∀ (ss : List (T2 P2 P2)) {kvs : List (P2 × Int)}, (kvs.map (·.1)).Nodup → Dsum f (ss.foldl putW kvs) = Dsum f kvs + (ss.map fun s => f (wy s).a * (wy s).b).sum
  | [], _, _ => by simp
  | s :: ss, kvs, h => by
    rw [List.foldl_cons, fold_sum f ss (kvs := putW kvs s) (dput_nd h), put_sum f s h, List.map_cons, List.sum_cons]
    omega
theorem dget_of {kvs : List (P2 × Int)} (h : (kvs.map (·.1)).Nodup) : ∀ kv ∈ kvs, dgetM kvs kv.1 = some kv.2 := by
  induction kvs with
  | nil => exact fun _ h => (nomatch h)
  | cons x xs ih =>
    obtain ⟨h1, h2⟩ := List.nodup_cons.mp h
    obtain ⟨a, b⟩ := x
    intro kv hkv
    rcases List.mem_cons.mp hkv with e | hkv
    · subst e; exact dget_cons_eq
    · rw [dget_cons_ne fun e => h1 (List.mem_map.mpr ⟨kv, hkv, e.symm⟩)]
      exact ih h2 kv hkv
theorem sum_perm {xs ys : List Int} (h : xs.Perm ys) : xs.sum = ys.sum := by
  induction h with
  | nil => rfl
  | cons x _ ih => rw [List.sum_cons, List.sum_cons, ih]
  | swap x y l => rw [List.sum_cons, List.sum_cons, List.sum_cons, List.sum_cons]; omega
  | trans _ _ i1 i2 => rw [i1, i2]
theorem sum_fm {α β : Type} {g : α → Option β} {F : β → Int} {G : α → Int} : ∀ {xs : List α}, (∀ x ∈ xs, G x = match g x with | some y => F y | none => 0) → ((xs.filterMap g).map F).sum = (xs.map G).sum
  | [], _ => rfl
  | x :: xs, h => by
    have e := h x List.mem_cons_self
    have ih := sum_fm fun y hy => h y (List.mem_cons_of_mem _ hy)
    rw [List.filterMap_cons, List.map_cons, List.sum_cons, e]
    cases hg : g x with
    | none => simp only [Int.zero_add]; exact ih
    | some y => simp only [List.map_cons, List.sum_cons, ih]
theorem mk_sum (f : P2 → Int) (c : T2 (List (List P2)) Int) : ((Mk c).map fun p => f p.a * sm c p.a).sum = ((sides c).map fun s => f (wy s).a * (wy s).b).sum := by
  unfold Mk
  rw [sum_fm (G := fun k => f k * sm c k) (fun k hk => by
    unfold MkF
    obtain ⟨v, ev⟩ := dget_key (sortP_mem.mp hk)
    rw [ev]
    by_cases z : v = 0
    · simp only [z, if_true]
      unfold sm
      rw [ev, z]; simp
    · simp only [if_neg z])]
  rw [sum_perm ((sortP_perm _).map _), List.map_map]
  have := fold_sum f (sides c) (kvs := []) List.nodup_nil
  rw [show Dsum f [] = 0 from rfl, Int.zero_add] at this
  rw [← this]
  unfold Dsum
  show (List.map _ (Sums c)).sum = ((Sums c).map fun kv => f kv.1 * kv.2).sum
  congr 1
  refine List.map_congr_left fun kv hkv => ?_
  show f kv.1 * sm c kv.1 = _
  unfold sm
  rw [dget_of (sums_nd c) kv hkv]
  rfl
theorem mk_zero {c : T2 (List (List P2)) Int} (h : Clo c) : ((Mk c).map fun p => p.a.a * sm c p.a).sum = 0 ∧ ((Mk c).map fun p => p.a.b * sm c p.a).sum = 0 := by
  rw [mk_sum fun d => d.a, mk_sum fun d => d.b]
  have e1 : ((sides c).map fun s => (wy s).a.a * (wy s).b) = (sides c).map fun s => s.b.a - s.a.a := List.map_congr_left fun s hs => (way_wy (h.sds hs).nz).ea.symm
  have e2 : ((sides c).map fun s => (wy s).a.b * (wy s).b) = (sides c).map fun s => s.b.b - s.a.b := List.map_congr_left fun s hs => (way_wy (h.sds hs).nz).eb.symm
  rw [e1, e2]
  exact ⟨sides_tele (fun p => p.a) c, sides_tele (fun p => p.b) c⟩
/-- over one bottom, too -/
theorem over_zero {c : T2 (List (List P2)) Int} (hb : 0 < c.b) {S : Int} (hd : ∀ p ∈ Mk c, p.b.b ∣ S) {f : P2 → Int} (z : ((Mk c).map fun p => f p.a * sm c p.a).sum = 0) : ((Mk c).map fun p => f p.a * p.b.a * (S / p.b.b)).sum = 0 := by
  have e : c.b * ((Mk c).map fun p => f p.a * p.b.a * (S / p.b.b)).sum = S * ((Mk c).map fun p => f p.a * sm c p.a).sum := by
    rw [← sum_mul (f := fun p => c.b * (f p.a * p.b.a * (S / p.b.b))) (g := fun p : Mks => f p.a * p.b.a * (S / p.b.b)) fun _ _ => rfl]
    refine sum_mul fun p hp => ?_
    obtain ⟨q, hq⟩ := hd p hp
    have hn := (mk_mem.mp hp).2
    have i := lowF_is (sm c p.a) hb
    rw [show lowF (sm c p.a) c.b = p.b from hn.symm] at i
    have e1 := i.eq
    have hp0 := i.pos
    rw [hq, Int.mul_ediv_cancel_left _ (by omega)]
    generalize p.b.a = a at *
    generalize p.b.b = b at *
    generalize sm c p.a = s at *
    generalize f p.a = g at *
    have : c.b * (g * a * q) = a * c.b * (g * q) := by grind
    rw [this, e1]; grind
  rw [z, Int.mul_zero] at e
  rcases Int.mul_eq_zero.mp e with w | w
  · omega
  · exact w
theorem nothing_ok {B : Nat} (hB : B < 2 ^ 90) {c : T2 (List (List P2)) Int} (h : Cl B c) : m__law_come_to_nothing (Mk c) = some true := by
  have hc := h.clo (by omega)
  have b1 := h.b1
  have b2 := h.b2
  have hl : (Mk c).length ≤ 192 := by
    unfold Mk
    refine Nat.le_trans (List.length_filterMap_le _ _) ?_
    rw [sortP_len, List.length_map]
    refine Nat.le_trans hc.db.le ?_
    have := flat_len (rs := c.a) (n := 24) fun us hus => (h.rs.2 us hus).l24
    have h8 := h.rs.1
    unfold sides
    omega
  have bot : ∀ p ∈ Mk c, 0 < p.b.b ∧ p.b.b ≤ 1000000 := fun p hp => by
    have hn := (mk_mem.mp hp).2
    have i := lowF_is (sm c p.a) hc.bp
    rw [show lowF (sm c p.a) c.b = p.b from hn.symm] at i
    have := Int.le_of_dvd hc.bp i.dvd
    exact ⟨i.pos, by omega⟩
  have top : ∀ p ∈ Mk c, p.b.a.natAbs < 2 ^ 130 ∧ p.a.a.natAbs < 2 ^ 130 ∧ p.a.b.natAbs < 2 ^ 130 := fun p hp => by
    obtain ⟨h1, h2⟩ := mk_mem.mp hp
    have db := hc.db
    have g : (sm c p.a).natAbs < 2 ^ 130 := by
      have g1 := db.get p.a
      have := hc.len
      have : (sides c).length * 2 ^ 101 ≤ 1000000 * 2 ^ 101 := Nat.mul_le_mul_right _ this
      unfold sm
      omega
    have rt := lowF_rt (n := 130) hc.bp g (by have := hc.bs; omega)
    obtain ⟨s, hs, e⟩ := sm_dir h1
    have hS := hc.sds hs
    have w := way_wy hS.nz
    have d1 : (wy s).a.a.natAbs < 2 ^ 130 := by
      have : s.b.a - s.a.a = (wy s).a.a * (wy s).b := w.ea
      have e1 : (s.b.a - s.a.a).natAbs = (wy s).a.a.natAbs * (wy s).b.natAbs := by rw [this, Int.natAbs_mul]
      have sa := hS.sa
      have nz : (wy s).b ≠ 0 := w.nz
      have : (wy s).a.a.natAbs * 1 ≤ (wy s).a.a.natAbs * (wy s).b.natAbs := Nat.mul_le_mul_left _ (by omega)
      omega
    have d2 : (wy s).a.b.natAbs < 2 ^ 130 := by
      have : s.b.b - s.a.b = (wy s).a.b * (wy s).b := w.eb
      have e1 : (s.b.b - s.a.b).natAbs = (wy s).a.b.natAbs * (wy s).b.natAbs := by rw [this, Int.natAbs_mul]
      have sb := hS.sb
      have nz : (wy s).b ≠ 0 := w.nz
      have : (wy s).a.b.natAbs * 1 ≤ (wy s).a.b.natAbs * (wy s).b.natAbs := Nat.mul_le_mul_left _ (by omega)
      omega
    rw [e] at d1 d2
    refine ⟨?_, d1, d2⟩
    rw [h2]
    exact rt.sa
  unfold m__law_come_to_nothing
  obtain ⟨S, eS, pS, lS, dS⟩ := foldO_at (f := fun (x1 : (T2 (T2 Int Int) (T2 Int Int))) (s1 : Int) => (mulG s1 x1.b.b).bind fun z1 => some z1) (fun k S => 0 < S ∧ S ≤ 2 ^ (20 * k) ∧ ∀ p ∈ (Mk c).take k, p.b.b ∣ S) (xs := Mk c) (s := 1) 0 (fun j p S hj ⟨i1, i2, i3⟩ => by
      rw [Nat.zero_add] at i2 i3 ⊢
      obtain ⟨p1, p2⟩ := bot p (List.mem_of_getElem? hj)
      have hjl := (List.getElem?_eq_some_iff.mp hj).1
      refine ⟨S * p.b.b, ?_, Int.mul_pos i1 p1, ?_, fun q hq => ?_⟩
      · rw [mulG_ok (20 * j + 1) 20 (by
          have : (2 : Int) ^ (20 * j) = ((2 ^ (20 * j) : Nat) : Int) := by simp
          rw [this] at i2
          rw [Nat.pow_succ]
          have : 0 < 2 ^ (20 * j) := Nat.pow_pos (by decide)
          omega) (by omega) (by omega)]
        rfl
      · have e : (2 : Int) ^ (20 * (j + 1)) = 2 ^ (20 * j) * 1048576 := by
          rw [show 20 * (j + 1) = 20 * j + 20 by omega, Int.pow_add]
          rfl
        rw [e]
        exact Int.mul_le_mul i2 (by omega) (by omega) (Int.le_of_lt (Int.lt_of_lt_of_le i1 i2))
      · rw [List.take_succ, hj] at hq
        rcases List.mem_append.mp hq with hq | hq
        · exact Int.dvd_trans (i3 q hq) (Int.dvd_mul_right _ _)
        · have : q = p := by simpa using hq
          subst this
          exact Int.dvd_mul_left _ _) ⟨by decide, by decide, fun _ h => nomatch h⟩
  rw [Nat.zero_add, List.take_length] at dS
  rw [Nat.zero_add] at lS
  refine (congrArg (fun o => Option.bind o _) eS).trans ?_
  rw [Option.bind_some]
  have sS : S.natAbs < 2 ^ 3841 := by
    have : (2 : Int) ^ (20 * (Mk c).length) ≤ 2 ^ 3840 := by
      have e1 : (2 : Int) ^ (20 * (Mk c).length) = ((2 ^ (20 * (Mk c).length) : Nat) : Int) := by simp
      have e2 : (2 : Int) ^ 3840 = ((2 ^ 3840 : Nat) : Int) := by norm_cast
      rw [e1, e2]
      exact Int.ofNat_le.mpr (Nat.pow_le_pow_right (by decide) (by omega))
    have e2 : (2 : Int) ^ 3840 = ((2 ^ 3840 : Nat) : Int) := by norm_cast
    have e3 : (2 : Nat) ^ 3841 = 2 ^ 3840 * 2 := Nat.pow_add 2 3840 1
    rw [e2] at this
    rw [e3]
    generalize (2 : Nat) ^ 3840 = M at *
    omega
  have row : ∀ f : P2 → Int, (∀ p ∈ Mk c, (f p.a).natAbs < 2 ^ 130) → mapO (fun (x2 : Mks) => (mulG (f x2.a) x2.b.a).bind fun z2 => (divG S x2.b.b).bind fun z3 => (mulG z2 z3).bind fun z4 => some z4) (Mk c) = some ((Mk c).map fun p => f p.a * p.b.a * (S / p.b.b)) := fun f hf => mapO_all fun p hp => by
    obtain ⟨p1, p2⟩ := bot p hp
    obtain ⟨t1, t2, t3⟩ := top p hp
    have hq : (S / p.b.b).natAbs < 2 ^ 3841 := by
      have : 0 ≤ S / p.b.b := Int.ediv_nonneg (Int.le_of_lt pS) (Int.le_of_lt p1)
      have := Int.ediv_le_self p.b.b (Int.le_of_lt pS)
      omega
    have hp : (f p.a * p.b.a).natAbs < 2 ^ 260 := by
      rw [Int.natAbs_mul, show (2 : Nat) ^ 260 = 2 ^ 130 * 2 ^ 130 from (Nat.pow_add 2 130 130)]
      exact Nat.mul_lt_mul'' (hf p hp) t1
    rw [mulG_ok 130 130 (hf p ‹_›) t1 (by decide), Option.bind_some, divG_pos 20 p1 (by omega) (by decide), Option.bind_some, mulG_ok 260 3841 hp hq (by decide)]
    rfl
  rw [lenOk_ok (by omega), Option.bind_some, row (fun d => d.a) (fun p hp => (top p hp).2.1), Option.bind_some, Option.bind_some, row (fun d => d.b) (fun p hp => (top p hp).2.2), Option.bind_some]
  obtain ⟨z1, z2⟩ := mk_zero hc
  rw [over_zero (f := fun d => d.a) hc.bp dS z1, over_zero (f := fun d => d.b) hc.bp dS z2]
  rfl
/-! ### plain: the marks that are due of a tilted one -/
theorem mk_sz {c : T2 (List (List P2)) Int} (hc : Clo c) {p : Mks} (hp : p ∈ Mk c) : (0 < p.b.b ∧ p.b.b ≤ c.b) ∧ p.b.a.natAbs < 2 ^ 130 ∧ p.a.a.natAbs < 2 ^ 130 ∧ p.a.b.natAbs < 2 ^ 130 := by
  obtain ⟨h1, h2⟩ := mk_mem.mp hp
  have i := lowF_is (sm c p.a) hc.bp
  rw [show lowF (sm c p.a) c.b = p.b from h2.symm] at i
  have b := Int.le_of_dvd hc.bp i.dvd
  have db := hc.db
  have g : (sm c p.a).natAbs < 2 ^ 130 := by
    have g1 := db.get p.a
    have := hc.len
    have : (sides c).length * 2 ^ 101 ≤ 1000000 * 2 ^ 101 := Nat.mul_le_mul_right _ this
    unfold sm
    omega
  have rt := lowF_rt (n := 130) hc.bp g (by have := hc.bs; omega)
  obtain ⟨s, hs, e⟩ := sm_dir h1
  have hS := hc.sds hs
  have w := way_wy hS.nz
  have nz : (wy s).b ≠ 0 := w.nz
  have d1 : (wy s).a.a.natAbs < 2 ^ 130 := by
    have : s.b.a - s.a.a = (wy s).a.a * (wy s).b := w.ea
    have e1 : (s.b.a - s.a.a).natAbs = (wy s).a.a.natAbs * (wy s).b.natAbs := by rw [this, Int.natAbs_mul]
    have sa := hS.sa
    have : (wy s).a.a.natAbs * 1 ≤ (wy s).a.a.natAbs * (wy s).b.natAbs := Nat.mul_le_mul_left _ (by omega)
    omega
  have d2 : (wy s).a.b.natAbs < 2 ^ 130 := by
    have : s.b.b - s.a.b = (wy s).a.b * (wy s).b := w.eb
    have e1 : (s.b.b - s.a.b).natAbs = (wy s).a.b.natAbs * (wy s).b.natAbs := by rw [this, Int.natAbs_mul]
    have sb := hS.sb
    have : (wy s).a.b.natAbs * 1 ≤ (wy s).a.b.natAbs * (wy s).b.natAbs := Nat.mul_le_mul_left _ (by omega)
    omega
  rw [e] at d1 d2
  refine ⟨⟨i.pos, b⟩, ?_, d1, d2⟩
  rw [h2]
  exact rt.sa
theorem tilted_ok {B : Nat} (hB : B < 2 ^ 90) {c : T2 (List (List P2)) Int} (h : Cl B c) {u t : Int} (hu : u.natAbs < 2 ^ 10) (ht : t.natAbs < 2 ^ 10) : m__law_tilted c t u = some (tc c u t) := by
  unfold m__law_tilted
  have h8 := h.rs.1
  have h1 := h.b1
  have h2 := h.b2
  obtain ⟨s', e, h'⟩ := foldO_at (f := fun (x1 : (List (T2 Int Int))) (s1 : (List (List (T2 Int Int)))) =>
 ((lenOk x1.length).bind fun _ =>
 (mapO (fun (x2 : (T2 Int Int)) =>
 ((mulG x2.a u).bind fun z1 =>
 (mulG x2.b u).bind fun z2 =>
 (mulG x2.a t).bind fun z3 =>
 some ((T2.mk z1 ((z2 + z3)))))) x1).bind fun ys1 =>
 (lenOk (s1.length + 1)).bind fun _ =>
 some ((s1 ++ [ys1])))) (fun k s => s = (c.a.take k).map (List.map (tlt u t))) (xs := c.a) (s := []) 0 (fun j us s hj i => by
      rw [Nat.zero_add] at i ⊢
      have hus := h.rs.2 us (List.mem_of_getElem? hj)
      have hl := hus.l24
      have hjl := (List.getElem?_eq_some_iff.mp hj).1
      refine ⟨_, by
        rw [lenOk_ok (by omega), Option.bind_some, mapO_all (g := tlt u t) (fun v hv => by
          have s1 := (hus.sm v hv).1
          have s2 := (hus.sm v hv).2
          rw [mulG_ok 90 10 (by omega) hu (by decide), Option.bind_some, mulG_ok 90 10 (by omega) hu (by decide), Option.bind_some, mulG_ok 90 10 (by omega) ht (by decide)]
          rfl), Option.bind_some, lenOk_ok (by rw [i, List.length_map, List.length_take]; omega)]
        rfl, ?_⟩
      rw [i, List.take_succ, hj, List.map_append]
      rfl) (by simp)
  rw [e, Option.bind_some, mulG_ok 20 10 (by omega) hu (by decide)]
  rw [Nat.zero_add] at h'
  rw [h', List.take_length]
  rfl
theorem tilted_clo {B : Nat} (hB : B < 2 ^ 80) {c : T2 (List (List P2)) Int} (h : Cl B c) {u t : Int} (hu : 1 ≤ u) (hu2 : u ≤ 12) (ht : t.natAbs ≤ 30) : Clo (tc c u t) := by
  have h1 := h.b1
  have h2 := h.b2
  have hbu : c.b * u ≤ 1000000 * 12 := Int.mul_le_mul h2 hu2 (by omega) (by decide)
  have hb0 : 0 < c.b * u := Int.mul_pos (by omega) (by omega)
  refine h.map hb0 (by omega) (fun p q e => ?_) fun us hus v hv => ?_
  · obtain ⟨p1, p2⟩ := p
    obtain ⟨q1, q2⟩ := q
    unfold tlt at e
    injection e with e1 e2
    simp only at e1 e2
    have f1 := mul_in (show 0 < u by omega) e1
    subst f1
    rw [mul_in (show 0 < u by omega) (show p2 * u = q2 * u by omega)]
  · have s1 := ((h.rs.2 us hus).sm v hv).1
    have s2 := ((h.rs.2 us hus).sm v hv).2
    have m : ∀ {x k : Int}, x.natAbs < 2 ^ 80 → k.natAbs ≤ 30 → (x * k).natAbs < 2 ^ 85 := fun {x k} hx hk => by
      rw [Int.natAbs_mul]
      have : x.natAbs * k.natAbs ≤ x.natAbs * 30 := Nat.mul_le_mul_left _ hk
      omega
    have m1 := m (x := v.a) (k := u) (by omega) (by omega)
    have m2 := m (x := v.b) (k := u) (by omega) (by omega)
    have m3 := m (x := v.a) (k := t) (by omega) ht
    show (v.a * u).natAbs < _ ∧ (v.b * u + v.a * t).natAbs < _
    omega
theorem mul30 {x k : Int} (hx : x.natAbs < 2 ^ 130) (hk : k.natAbs ≤ 30) : (x * k).natAbs < 2 ^ 135 := by
  rw [Int.natAbs_mul]
  have : x.natAbs * k.natAbs ≤ x.natAbs * 30 := Nat.mul_le_mul_left _ hk
  omega
theorem waytilted_ok {u t : Int} (hu : 1 ≤ u) (hu2 : u ≤ 12) (ht : t.natAbs ≤ 30) {d : P2} (hd : Nm d) (s1 : d.a.natAbs < 2 ^ 130) (s2 : d.b.natAbs < 2 ^ 130) : m__law_way_tilted d t u = some (tw u t d) ∧ (tw u t d).b.natAbs < 2 ^ 136 := by
  have m1 := mul30 (k := u) s1 (by omega)
  have m2 := mul30 (k := u) s2 (by omega)
  have m3 := mul30 (k := t) s1 ht
  have nz := tlt_nz (t := t) (show u ≠ 0 by omega) hd.nz
  have y1 : (d.b * u + d.a * t).natAbs < 2 ^ 136 := by omega
  refine ⟨?_, wsg_sm nz (Nat.lt_trans m1 (by decide)) y1⟩
  unfold m__law_way_tilted
  rw [mulG_ok 130 10 s1 (by omega) (by decide), Option.bind_some, mulG_ok 130 10 s2 (by omega) (by decide), Option.bind_some, mulG_ok 130 10 s1 (by omega) (by decide), Option.bind_some, Option.bind_some]
  unfold tw
  generalize d.a * u = x at *
  generalize d.b * u + d.a * t = y at *
  rw [meas_ok, Option.bind_some]
  have e : (if (decide (y < 0) || decide (y = 0) && decide (x < 0)) = true then (some (-(Int.gcd x y : Int))).bind fun (often_1 : Int) => some often_1 else some (Int.gcd x y : Int)) = some (wsg x y) := by
    unfold wsg
    by_cases z : y < 0 ∨ y = 0 ∧ x < 0
    · rw [if_pos (by simpa using z), if_pos z]; rfl
    · rw [if_neg (by simpa using z), if_neg z]
  rw [e, Option.bind_some]
  have w := way_wy nz
  have nb := wsg_sm nz (Nat.lt_trans m1 (by decide)) y1
  have e1 : divG x (wsg x y) = some (way x y).a.a := by
    have := w.ea
    generalize (way x y).a.a = u at this
    rw [show (way x y).b = wsg x y from rfl] at this
    rw [show divG x (wsg x y) = divG (u * wsg x y) (wsg x y) by rw [← this]]
    exact divG_mul 136 w.nz nb (by decide)
  have e2 : divG y (wsg x y) = some (way x y).a.b := by
    have := w.eb
    generalize (way x y).a.b = u at this
    rw [show (way x y).b = wsg x y from rfl] at this
    rw [show divG y (wsg x y) = divG (u * wsg x y) (wsg x y) by rw [← this]]
    exact divG_mul 136 w.nz nb (by decide)
  rw [e1, e2]
  rfl
theorem due_ok {c : T2 (List (List P2)) Int} (h : Clo c) (hl : (Mk c).length ≤ 1000000) {u t : Int} (hu : 1 ≤ u) (hu2 : u ≤ 12) (ht : t.natAbs ≤ 30) : m__law_due (Mk c) t u = some (sortQ ((Mk c).map (tmk u t))) := by
  unfold m__law_due
  obtain ⟨s', e, h'⟩ := foldO_at (f := fun (x1 : (T2 (T2 Int Int) (T2 Int Int))) (s1 : (List (T2 (T2 Int Int) (T2 Int Int)))) =>
 ((m__law_way_tilted x1.a t u).bind fun z1 =>
 (mulG x1.b.a z1.b).bind fun z2 =>
 (mulG x1.b.b u).bind fun z3 =>
 (m__law_low z2 z3).bind fun z4 =>
 (lenOk (s1.length + 1)).bind fun _ =>
 some ((s1 ++ [(T2.mk z1.a z4)])))) (fun k s => s = ((Mk c).take k).map (tmk u t)) (xs := Mk c) (s := []) 0 (fun j p s hj i => by
      rw [Nat.zero_add] at i ⊢
      have hp := List.mem_of_getElem? hj
      obtain ⟨⟨b1, b2⟩, t1, d1, d2⟩ := mk_sz h hp
      have hjl := (List.getElem?_eq_some_iff.mp hj).1
      obtain ⟨e1, e2⟩ := waytilted_ok hu hu2 ht (sm_nm h (mk_mem.mp hp).1) d1 d2
      have bs := h.bs
      have m2 := mul30 (x := p.b.b) (k := u) (by omega) (by omega)
      refine ⟨_, by
        rw [e1, Option.bind_some, mulG_ok 130 136 t1 e2 (by decide), Option.bind_some, mulG_ok 130 10 (by omega) (by omega) (by decide), Option.bind_some, lawlow_ok (Int.mul_pos b1 (by omega)) (Nat.lt_trans m2 (Nat.pow_lt_pow_right (by decide) (by decide))), Option.bind_some, lenOk_ok (by rw [i, List.length_map, List.length_take]; omega)]
        rfl, ?_⟩
      rw [i, List.take_succ, hj, List.map_append]
      rfl) (by simp)
  rw [e, Option.bind_some]
  rw [Nat.zero_add] at h'
  rw [h', List.take_length]
/-! ### plain: the rings drawn are unlike -/
def NEv (us : List P2) : Prop := ∃ u ∈ us, ∃ v ∈ us, u.a ≠ v.a
theorem NEv.map {us : List P2} {f : P2 → P2} (h : NEv us) (hf : ∀ u v : P2, u.a ≠ v.a → (f u).a ≠ (f v).a) : NEv (us.map f) := by
  obtain ⟨u, hu, v, hv, n⟩ := h
  exact ⟨f u, List.mem_map.mpr ⟨u, hu, rfl⟩, f v, List.mem_map.mpr ⟨v, hv, rfl⟩, hf u v n⟩
theorem NEv.perm {us vs : List P2} (h : NEv us) (p : vs.Perm us) : NEv vs := by
  obtain ⟨u, hu, v, hv, n⟩ := h
  exact ⟨u, p.mem_iff.mpr hu, v, p.mem_iff.mpr hv, n⟩
theorem sdf_up : ∀ (xs : List P2) (a : P2), (∀ s ∈ sdf a xs, s.a.a = s.b.a) → ∀ u ∈ xs, u.a = a.a
  | [], _, _, _, h => nomatch h
  | x :: xs, a, h, u, hu => by
    have e : a.a = x.a := h ⟨a, x⟩ List.mem_cons_self
    rcases List.mem_cons.mp hu with z | hu
    · rw [z, e]
    · rw [sdf_up xs x (fun s hs => h s (List.mem_cons_of_mem _ hs)) u hu, e]
theorem NEv.side {us : List P2} (h : NEv us) : ∃ s ∈ sd us, s.a.a ≠ s.b.a := by
  by_cases z : ∃ s ∈ sd us, s.a.a ≠ s.b.a
  · exact z
  · exfalso
    obtain ⟨u, hu, v, hv, n⟩ := h
    have all : ∀ s ∈ sd us, s.a.a = s.b.a := fun s hs => by
      by_cases y : s.a.a = s.b.a
      · exact y
      · exact (z ⟨s, hs, y⟩).elim
    unfold sd at all
    cases e : us.getLast? with
    | none => rw [List.getLast?_eq_none_iff] at e; subst e; cases hu
    | some l =>
      rw [e] at all
      have := sdf_up us l all
      exact n (by rw [this u hu, this v hv])
theorem Str30.ne {us : List P2} (h : Str30 us) (h1 : us ≠ []) : NEv us := by
  by_cases z : NEv us
  · exact z
  · exfalso
    obtain ⟨x, xs, rfl⟩ : ∃ x xs, us = x :: xs := by
      cases us with
      | nil => exact (h1 rfl).elim
      | cons x xs => exact ⟨x, xs, rfl⟩
    have all : ∀ u ∈ x :: xs, u.a = x.a := fun u hu => by
      by_cases y : u.a = x.a
      · exact y
      · exact (z ⟨u, hu, x, List.mem_cons_self, y⟩).elim
    have pos : ∀ s ∈ sd (x :: xs), 0 < x.a * s.b.b - x.a * s.a.b := fun s hs => by
      obtain ⟨m1, m2⟩ := sd_mem' hs
      obtain ⟨i, j, ij, ji, a, b, ha, hb, e⟩ := h.1 s hs
      have c := (sk_ar i j (by omega) (by omega)).2.1 ij ji
      have e1 := all _ m1
      have e2 := all _ m2
      rw [e] at e1 e2 ⊢
      have f1 : a * (sk i).a = x.a := e1
      have f2 : b * (sk j).a = x.a := e2
      show 0 < x.a * (b * (sk j).b) - x.a * (a * (sk i).b)
      have : x.a * (b * (sk j).b) - x.a * (a * (sk i).b) = a * b * cr2 (sk i) (sk j) := by
        have g1 : x.a * (b * (sk j).b) = a * (sk i).a * (b * (sk j).b) := by rw [f1]
        have g2 : x.a * (a * (sk i).b) = b * (sk j).a * (a * (sk i).b) := by rw [f2]
        rw [g1, g2]
        unfold cr2; grind
      rw [this]
      exact Int.mul_pos (Int.mul_pos ha hb) c
    have t := sd_tele (fun p => x.a * p.b) (x :: xs)
    have sumpos : ∀ ss : List (T2 P2 P2), ss ≠ [] → (∀ s ∈ ss, 0 < x.a * s.b.b - x.a * s.a.b) → 0 < (ss.map fun s => x.a * s.b.b - x.a * s.a.b).sum := by
      intro ss
      induction ss with
      | nil => intro n _; exact (n rfl).elim
      | cons s ss ih =>
        intro _ hp
        rw [List.map_cons, List.sum_cons]
        have p1 := hp s List.mem_cons_self
        by_cases y : ss = []
        · subst y; simpa using p1
        · have := ih y fun t ht => hp t (List.mem_cons_of_mem _ ht)
          omega
    have := sumpos (sd (x :: xs)) (fun e => by
      have := congrArg List.length e
      rw [sd_len] at this
      cases this) pos
    omega
theorem star_ne {xs : List Int} {most far : Int} (h : Bag xs) (f1 : 1 ≤ far) (f2 : far ≤ 1000000) : ∃ r, m__law_star xs most far = some r ∧ (Bag r.2 ∧ Rn (5 * far.natAbs) r.1) ∧ NEv r.1 := by
  obtain ⟨r, e, ⟨b, g⟩, s⟩ := both (star_ok (most := most) h f1 f2) (star_ok2 (most := most) h f1 f2)
  exact ⟨r, e, ⟨b, g⟩, s.ne fun z => by have := g.l3; rw [z] at this; simp at this⟩
theorem rings_ne {xs : List Int} {far : Int} (h : Bag xs) (f1 : 6 ≤ far) (f2 : far ≤ 1000000) : ∃ r, m__law_rings xs far = some r ∧ (r.1.length ≤ 1 ∨ ∀ us ∈ r.1, NEv us) := by
  unfold m__law_rings
  obtain ⟨z, y0, e0, b0, l0, u0⟩ := draw_ok h (many := 8) (by decide) (by decide)
  rw [e0, Option.bind_some]
  dsimp only
  by_cases c1 : z < 3
  · rw [if_pos (by simpa using c1)]
    obtain ⟨w, y1, e1, b1, l1, u1⟩ := draw_ok b0 (many := 22) (by decide) (by decide)
    obtain ⟨r, e2, b2, g2⟩ := star_ok (most := 3 + w) b1 (by omega) f2
    rw [e1, Option.bind_some]
    dsimp only
    rw [e2]
    exact ⟨_, rfl, .inl (Nat.le_refl 1)⟩
  rw [if_neg (by simpa using c1)]
  by_cases c2 : z = 3
  · rw [if_pos (by simpa using c2)]
    obtain ⟨r, e2, b2, g2⟩ := steps_ok b0 f1 f2
    rw [e2]
    exact ⟨_, rfl, .inl (Nat.le_refl 1)⟩
  rw [if_neg (by simpa using c2)]
  by_cases c3 : z = 4
  · rw [if_pos (by simpa using c3)]
    exact ⟨_, rfl, .inl (Nat.zero_le 1)⟩
  rw [if_neg (by simpa using c3)]
  obtain ⟨w, y1, e1, b1, l1, u1⟩ := draw_ok b0 (many := 4) (by decide) (by decide)
  obtain ⟨st, e2, ⟨b2, g2⟩, n2⟩ := star_ne (most := 3 + w) b1 (by omega) f2
  rw [e1, Option.bind_some]
  dsimp only
  rw [e2, Option.bind_some]
  obtain ⟨v, y3, e3, b3, l3, u3⟩ := draw_ok b2 (many := 8) (by decide) (by decide)
  rw [e3, Option.bind_some, Option.bind_some]
  dsimp only
  generalize hM : 1 + v = many at *
  have m1 : 1 ≤ many := by omega
  have m2 : many ≤ 8 := by omega
  refine loopW_E (fun n (s : List Int × List (List P2) × Int × List P2) => Bag s.1 ∧ (s.2.1.length ≤ many.toNat ∧ many.toNat - s.2.1.length + 1 < n + 1 ∧ 0 < n) ∧ (∀ us ∈ s.2.1, NEv us) ∧ Rn (5 * far.natAbs) s.2.2.2 ∧ NEv s.2.2.2) _ _ ⟨b3, ⟨by simp, by simp; omega, by omega⟩, fun us hus => (nomatch hus), g2, n2⟩ (fun s hs => by omega) (fun n s hs => ?_)
  obtain ⟨bg, ⟨le, fu, _⟩, rg, sg, sn⟩ := hs
  by_cases c : ((decide ((s.2.1.length : Int) < many)) && (decide ((s.2.2.2.length : Int) ≤ s.2.2.1))) = true
  · rw [if_pos c, Option.bind_some]
    left
    simp only [Bool.and_eq_true, decide_eq_true_eq] at c
    have d1 : 1 ≤ many - (s.2.1.length : Int) := by omega
    have d2 : many - (s.2.1.length : Int) ≤ 8 := by omega
    generalize hD : many - (s.2.1.length : Int) = deep at *
    have hl := sg.l24
    suffices hs : ∃ t : List Int × List P2 × List P2, (if (decide (z < 7)) = true then
 ((lenOk s.2.2.2.length).bind fun _ =>
 (mapO (fun (x2 : (T2 Int Int)) =>
 ((mulG x2.a deep).bind fun z8 =>
 (mulG x2.b deep).bind fun z9 =>
 some ((T2.mk z8 z9)))) s.2.2.2).bind fun ys1 =>
 (if (decide (((s.2.1.length : Int) % 2) = 1)) = true then
 (some ys1.reverse)
 else
 (some ys1)).bind fun (s5 : (List (T2 Int Int))) =>
 some ((s.1, s.2.2.2, s5)))
 else
 ((lenOk s.2.2.2.length).bind fun _ =>
 (mapO (fun (x3 : (T2 Int Int)) =>
 ((mulG ((40 * far)) deep).bind fun z10 =>
 some ((T2.mk ((x3.a + z10)) x3.b)))) s.2.2.2).bind fun ys2 =>
 (m__law_draw s.1 4).bind fun z11 =>
 (m__law_star z11.2 ((3 + z11.1)) far).bind fun z12 =>
 some ((z12.2, z12.1, ys2)))) = some t ∧ Bag t.1 ∧ (Rn (5 * far.natAbs) t.2.1 ∧ NEv t.2.1) ∧ NEv t.2.2 by
      obtain ⟨t, et, bt, t1, t2⟩ := hs
      rw [et, Option.bind_some, lenOk_ok (by omega), Option.bind_some, Option.bind_some]
      refine ⟨_, rfl, bt, ⟨by simp; omega, by simp; omega, by omega⟩, fun us hus => ?_, t1⟩
      rcases List.mem_append.mp hus with hu | hu
      · exact rg us hu
      · rw [List.mem_singleton.mp hu]; exact t2
    rw [lenOk_ok (by omega), Option.bind_some, Option.bind_some]
    by_cases c7 : z < 7
    · rw [if_pos (by simpa using c7), mapO_all (g := fun u : P2 => ⟨u.a * deep, u.b * deep⟩) (fun u hu => by
        have := sg.sm u hu
        rw [mulG_ok 40 40 (by omega) (by omega) (by decide), Option.bind_some, mulG_ok 40 40 (by omega) (by omega) (by decide)]
        rfl), Option.bind_some]
      have g4 : NEv (s.2.2.2.map fun u : P2 => ⟨u.a * deep, u.b * deep⟩) := sn.map fun u v n e => n (mul_in (show 0 < deep by omega) e)
      split
      · exact ⟨_, rfl, bg, ⟨sg, sn⟩, g4.perm (List.reverse_perm _)⟩
      · exact ⟨_, rfl, bg, ⟨sg, sn⟩, g4⟩
    · rw [if_neg (by simpa using c7), mapO_all (g := fun u : P2 => ⟨u.a + 40 * far * deep, u.b⟩) (fun u hu => by
        rw [mulG_ok 40 40 (by omega) (by omega) (by decide)]
        rfl), Option.bind_some]
      obtain ⟨w5, y5, e5, b5, l5, u5⟩ := draw_ok bg (many := 4) (by decide) (by decide)
      obtain ⟨st2, e6, ⟨b6, g6⟩, n6⟩ := star_ne (most := 3 + w5) b5 (by omega) f2
      rw [e5, Option.bind_some]
      dsimp only
      rw [e6]
      exact ⟨_, rfl, b6, ⟨g6, n6⟩, sn.map fun u v n e => n (by simp only at e; omega)⟩
  · rw [if_neg c]
    right
    exact ⟨_, rfl, _, rfl, .inr rg⟩
theorem cloth_ne {xs : List Int} (h : Bag xs) : ∃ r, m__law_cloth xs = some r ∧ (r.1.a.length ≤ 1 ∨ ∀ us ∈ r.1.a, NEv us) := by
  unfold m__law_cloth
  obtain ⟨z, y0, e0, b0, l0, u0⟩ := draw_ok h (many := 3) (by decide) (by decide)
  obtain ⟨w, y1, e1, b1, l1, u1⟩ := draw_ok b0 (many := 8) (by decide) (by decide)
  rw [e0, Option.bind_some, Option.bind_some]
  dsimp only
  rw [e1, Option.bind_some]
  dsimp only
  have hq : ∃ q : List Int × Int × Int, (if (decide (w = 5)) = true then
 ((m__law_draw y1 1000000).bind fun z3 =>
 (some ((1 + z3.1))).bind fun (bottom_2 : Int) =>
 some ((z3.2, bottom_2, 1000000)))
 else
 (some ((y1, 1 + z, 6)))) = some q ∧ Bag q.1 ∧ (6 ≤ q.2.2 ∧ q.2.2 ≤ 1000000) := by
    split
    · obtain ⟨v, y2, e2, b2, l2, u2⟩ := draw_ok b1 (many := 1000000) (by decide) (by decide)
      rw [e2]; exact ⟨_, rfl, b2, by show (6 : Int) ≤ 1000000; decide, by show (1000000 : Int) ≤ 1000000; decide⟩
    · exact ⟨_, rfl, b1, by show (6 : Int) ≤ 6; decide, by show (6 : Int) ≤ 1000000; decide⟩
  obtain ⟨q, eq, bq, q3, q4⟩ := hq
  rw [eq, Option.bind_some]
  obtain ⟨r, er, ⟨br, r8, rr⟩, nr⟩ := both (rings_ok bq q3 q4) (rings_ne bq q3 q4)
  rw [er, Option.bind_some]
  refine foldO_memE (fun k (s : List Int × List (List P2)) => Bag s.1 ∧ s.2.length = k ∧ (r.1.length ≤ 1 ∨ ∀ us ∈ s.2, NEv us)) (fun j us s hj i => ?_) ⟨br, rfl, .inr fun us hus => (nomatch hus)⟩ (fun s i => ⟨_, rfl, i.2.2.imp (fun z => by show s.2.length ≤ 1; rw [i.2.1]; exact z) id⟩)
  obtain ⟨bg, ln, rg⟩ := i
  have hr := rr us (List.mem_of_getElem? hj)
  have h3 := hr.l3
  have h24 := hr.l24
  obtain ⟨d, y2, e2, b2, l2, u2⟩ := draw_ok bg (many := (us.length : Int)) (by omega) (by omega)
  rw [e2, Option.bind_some]
  dsimp only
  have hj8 : j < 8 := by have := (List.getElem?_eq_some_iff.mp hj).1; omega
  obtain ⟨k, ek⟩ : ∃ k : Nat, d = (k : Int) := ⟨d.toNat, by omega⟩
  subst ek
  rw [slice_from (by omega), slice_to (by omega), lenOk_ok (by rw [List.length_drop, List.length_take]; omega), Option.bind_some, lenOk_ok (by omega)]
  refine ⟨_, rfl, b2, by simp [ln], ?_⟩
  rcases nr with z | nr
  · exact .inl z
  · rcases rg with z | rg
    · exact .inl z
    · refine .inr fun vs hvs => ?_
      rcases List.mem_append.mp hvs with hv | hv
      · exact rg vs hv
      · rw [List.mem_singleton.mp hv]; exact (nr us (List.mem_of_getElem? hj)).perm (rot_perm us k)
theorem nr_nd : ∀ {rs : List (List P2)}, Nr rs → (∀ us ∈ rs, NEv us) → rs.Nodup
  | [], _, _ => List.nodup_nil
  | us :: rs, h, ne => by
    unfold Nr at h
    rw [List.flatMap_cons] at h
    obtain ⟨h1, h2, h3⟩ := List.pairwise_append.mp h
    refine List.nodup_cons.mpr ⟨fun hm => ?_, nr_nd h2 fun vs hv => ne vs (List.mem_cons_of_mem _ hv)⟩
    obtain ⟨s, hs, n⟩ := (ne us List.mem_cons_self).side
    exact h3 s hs s (List.mem_flatMap.mpr ⟨us, hm, hs⟩) n n ⟨1, 1, 1, 1, by decide, by decide, by decide, by decide, rfl, rfl, rfl⟩
theorem cloth_nd {xs : List Int} (h : Bag xs) : ∃ r, m__law_cloth xs = some r ∧ (Bag r.2 ∧ Cl 400000000 r.1) ∧ r.1.a.Nodup := by
  obtain ⟨r, e, ⟨bc, nr⟩, ne⟩ := both (cloth_ok30 h) (cloth_ne h)
  refine ⟨r, e, bc, ?_⟩
  rcases ne with z | ne
  · match r.1.a, z with
    | [], _ => exact List.nodup_nil
    | [x], _ => exact List.nodup_cons.mpr ⟨fun h => (nomatch h), List.nodup_nil⟩
    | _ :: _ :: _, z => simp at z
  · exact nr_nd nr ne
/-! ### plain: a corner more amid a side -/
theorem insO_ok {α : Type} {xs : List α} {q : Nat} {y : α} (h1 : q ≤ 1000000) (h2 : xs.length ≤ 1000000) : insO xs (q : Int) y = some (xs.take q ++ [y] ++ xs.drop q) := by
  unfold insO
  have e : (2 : Int) ^ 62 = 4611686018427387904 := by decide
  rw [if_pos ⟨by omega, by rw [e]; omega, by omega⟩, Int.toNat_natCast]
theorem takeO_ok {α : Type} [DecidableEq α] {xs : List α} {i : Nat} (h : i < xs.length) (nd : xs.Nodup) : takeO xs (i : Int) = some ⟨xs.take i, xs[i], xs.drop (i + 1)⟩ := by
  have e := ix_lt h
  unfold ix atI at e
  unfold takeO
  cases hk : ixN xs.length (i : Int) with
  | none => rw [hk] at e; cases e
  | some k =>
    have hki : k = i := by
      unfold ixN at hk
      rw [if_pos (by omega), if_pos (by omega)] at hk
      have := Option.some.inj hk
      omega
    subst hki
    rw [Option.bind_some, List.getElem?_eq_getElem h, Option.bind_some]
    have sp : xs = xs.take k ++ xs[k] :: xs.drop (k + 1) := by
      rw [← List.drop_eq_getElem_cons h, List.take_append_drop]
    rw [sp] at nd
    obtain ⟨n1, n2, n3⟩ := List.nodup_append.mp nd
    obtain ⟨m1, m2⟩ := List.nodup_cons.mp n2
    rw [if_neg fun z => z.elim (fun z => n3 _ z _ List.mem_cons_self rfl) m1]
theorem sdf_mid {α : Type} (q : α) (B : List α) : ∀ (A : List α) (a : α), (sdf a (A ++ q :: B))[A.length]? = some ⟨(a :: A).getLast (List.cons_ne_nil _ _), q⟩
  | [], a => rfl
  | x :: A, a => by
    show (sdf x (A ++ q :: B))[A.length]? = _
    rw [sdf_mid q B A x, List.getLast_cons_cons]
theorem sdf_ins {α : Type} (F : T2 α α → Int) (q m : α) (B : List α) : ∀ (A : List α) (a : α), F ⟨(a :: A).getLast (List.cons_ne_nil _ _), m⟩ + F ⟨m, q⟩ = F ⟨(a :: A).getLast (List.cons_ne_nil _ _), q⟩ → ((sdf a (A ++ m :: q :: B)).map F).sum = ((sdf a (A ++ q :: B)).map F).sum
  | [], a, h => by
    show ((⟨a, m⟩ :: ⟨m, q⟩ :: sdf q B).map F).sum = ((⟨a, q⟩ :: sdf q B).map F).sum
    have h : F ⟨a, m⟩ + F ⟨m, q⟩ = F ⟨a, q⟩ := h
    rw [List.map_cons, List.map_cons, List.sum_cons, List.sum_cons, List.map_cons, List.sum_cons, ← h]
    omega
  | x :: A, a, h => by
    show ((⟨a, x⟩ :: sdf x (A ++ m :: q :: B)).map F).sum = ((⟨a, x⟩ :: sdf x (A ++ q :: B)).map F).sum
    rw [List.map_cons, List.sum_cons, List.map_cons, List.sum_cons, sdf_ins F q m B A x (by rw [List.getLast_cons_cons] at h; exact h)]
theorem sdf_insm {α : Type} (q m : α) (B : List α) : ∀ (A : List α) (a : α) (s : T2 α α), s ∈ sdf a (A ++ m :: q :: B) → s ∈ sdf a (A ++ q :: B) ∨ s = ⟨(a :: A).getLast (List.cons_ne_nil _ _), m⟩ ∨ s = ⟨m, q⟩
  | [], a, s, h => by
    rcases List.mem_cons.mp h with e | h
    · exact .inr (.inl e)
    · rcases List.mem_cons.mp h with e | h
      · exact .inr (.inr e)
      · exact .inl (List.mem_cons_of_mem _ h)
  | x :: A, a, s, h => by
    rcases List.mem_cons.mp h with e | h
    · exact .inl (by rw [e]; exact List.mem_cons_self)
    · rw [List.getLast_cons_cons]
      rcases sdf_insm q m B A x s h with z | z
      · exact .inl (List.mem_cons_of_mem _ z)
      · exact .inr z
theorem last_app {α : Type} (A : List α) (q : α) (B : List α) : (A ++ q :: B).getLast? = (q :: B).getLast? := by
  rw [List.getLast?_append]
  cases h : (q :: B).getLast? with
  | none => rw [List.getLast?_eq_none_iff] at h; cases h
  | some l => rfl
theorem sd_ins {α : Type} {A B : List α} {p q m : α} (h : (sd (A ++ q :: B))[A.length]? = some ⟨p, q⟩) : (∀ F : T2 α α → Int, F ⟨p, m⟩ + F ⟨m, q⟩ = F ⟨p, q⟩ → ((sd (A ++ m :: q :: B)).map F).sum = ((sd (A ++ q :: B)).map F).sum) ∧ ∀ s ∈ sd (A ++ m :: q :: B), s ∈ sd (A ++ q :: B) ∨ s = ⟨p, m⟩ ∨ s = ⟨m, q⟩ := by
  unfold sd at h ⊢
  have e1 := last_app A q B
  have e2 : (A ++ m :: q :: B).getLast? = (q :: B).getLast? := by rw [last_app A m (q :: B), List.getLast?_cons_cons]
  rw [e1] at h ⊢
  rw [e2]
  cases hl : (q :: B).getLast? with
  | none => rw [List.getLast?_eq_none_iff] at hl; cases hl
  | some l =>
    rw [hl] at h
    have h : (sdf l (A ++ q :: B))[A.length]? = some ⟨p, q⟩ := h
    rw [sdf_mid] at h
    injection h with h
    injection h with h _
    subst h
    exact ⟨fun F hF => sdf_ins F q m B A l hF, fun s hs => sdf_insm q m B A l s hs⟩
theorem sm_rs (R : List (List P2)) (b : Int) (d : P2) : sm ⟨R, b⟩ d = (R.map fun us => ((sd us).map (wt d)).sum).sum := by
  rw [sm_sum]
  exact sum_flat R
def f3 (p : P2) : P2 := ⟨3 * p.a, 3 * p.b⟩
theorem wt_third {p q : P2} (n : p ≠ q) (d : P2) : wt d ⟨f3 p, ⟨2 * q.a + p.a, 2 * q.b + p.b⟩⟩ + wt d ⟨⟨2 * q.a + p.a, 2 * q.b + p.b⟩, f3 q⟩ = wt d ⟨f3 p, f3 q⟩ := by
  have nz : q.a - p.a ≠ 0 ∨ q.b - p.b ≠ 0 := by
    by_cases z : q.a - p.a = 0
    · right; intro y
      refine n ?_
      obtain ⟨x1, y1⟩ := p
      obtain ⟨x2, y2⟩ := q
      simp only at z y
      rw [show x1 = x2 by omega, show y1 = y2 by omega]
    · exact .inl z
  have w : ∀ (k : Int) (s : T2 P2 P2), k ≠ 0 → s.b.a - s.a.a = k * (q.a - p.a) → s.b.b - s.a.b = k * (q.b - p.b) → wy s = ⟨(way (q.a - p.a) (q.b - p.b)).a, k * (way (q.a - p.a) (q.b - p.b)).b⟩ := fun k s hk h1 h2 => by
    unfold wy
    rw [h1, h2, way_mul nz hk]
  unfold wt
  rw [w 2 ⟨f3 p, ⟨2 * q.a + p.a, 2 * q.b + p.b⟩⟩ (by decide) (by show 2 * q.a + p.a - 3 * p.a = _; omega) (by show 2 * q.b + p.b - 3 * p.b = _; omega),
    w 1 ⟨⟨2 * q.a + p.a, 2 * q.b + p.b⟩, f3 q⟩ (by decide) (by show 3 * q.a - (2 * q.a + p.a) = _; omega) (by show 3 * q.b - (2 * q.b + p.b) = _; omega),
    w 3 ⟨f3 p, f3 q⟩ (by decide) (by show 3 * q.a - 3 * p.a = _; omega) (by show 3 * q.b - 3 * p.b = _; omega)]
  simp only
  split <;> omega
theorem f3_inj (u v : P2) (e : f3 u = f3 v) : u = v := by
  obtain ⟨u1, u2⟩ := u
  obtain ⟨v1, v2⟩ := v
  unfold f3 at e
  injection e with e1 e2
  simp only at e1 e2
  rw [show u1 = v1 by omega, show u2 = v2 by omega]
theorem f3_clo {B : Nat} (hB : B < 2 ^ 80) {c : T2 (List (List P2)) Int} (h : Cl B c) : Clo ⟨c.a.map (List.map f3), 3 * c.b⟩ := by
  have h1 := h.b1
  have h2 := h.b2
  refine h.map (by omega) (by omega) f3_inj fun us hus u hu => ?_
  have s1 := ((h.rs.2 us hus).sm u hu).1
  have s2 := ((h.rs.2 us hus).sm u hu).2
  show (3 * u.a).natAbs < _ ∧ (3 * u.b).natAbs < _
  omega
theorem f3_sm {c : T2 (List (List P2)) Int} (h : Clo c) (d : P2) : sm ⟨c.a.map (List.map f3), 3 * c.b⟩ d = 3 * sm c d :=
  sm_scale h (by decide) (fun p q => by
    unfold f3
    constructor
    · show 3 * q.a - 3 * p.a = _; omega
    · show 3 * q.b - 3 * p.b = _; omega) d
/-- the same marks -/
theorem same_mk {c e : T2 (List (List P2)) Int} (hc : 0 < c.b) (hb : e.b = 3 * c.b) (hs : ∀ d, sm e d = 3 * sm c d) : Mk e = Mk c :=
  mk_ext (mk_st c) fun p => by
    have : nr e p.a = nr c p.a := by
      unfold nr
      rw [hs, hb, lowF_mul (by decide) hc]
    rw [mk_mem, hs, this]
    constructor
    · rintro ⟨h1, h2⟩
      exact ⟨by omega, h2⟩
    · rintro ⟨h1, h2⟩
      exact ⟨fun z => h1 (by rw [z]; rfl), h2⟩
/-- the rings with a corner more -/
def mrR (R : List (List P2)) (i j : Nat) (us : List P2) (m : P2) : List (List P2) := R.take i ++ ((us.map f3).take j ++ [m] ++ (us.map f3).drop j) :: R.drop (i + 1)
def mid (p q : P2) : P2 := ⟨2 * q.a + p.a, 2 * q.b + p.b⟩
theorem third (a b : Int) : (2 * (3 * a) + 3 * b) / 3 = 2 * a + b := by omega
theorem map_f3_inj : ∀ {a b : List P2}, a.map f3 = b.map f3 → a = b
  | [], [], _ => rfl
  | [], _ :: _, e => nomatch e
  | _ :: _, [], e => nomatch e
  | x :: a, y :: b, e => by
    injection e with e1 e2
    rw [f3_inj _ _ e1, map_f3_inj e2]
theorem onemore_eval {B : Nat} {c : T2 (List (List P2)) Int} (h : Cl B c) (nd : c.a.Nodup) {xs : List Int} (bg : Bag xs) : ∃ r, m__law_one_more c xs = some r ∧
    (r.1 = ⟨(c.a.map (List.map f3)).reverse, 3 * c.b⟩ ∨ ∃ (i j : Nat) (us : List P2) (p q : P2), c.a[i]? = some us ∧ (sd us)[j]? = some ⟨p, q⟩ ∧ us[j]? = some q ∧ r.1 = ⟨(mrR (c.a.map (List.map f3)) i j us (mid p q)).reverse, 3 * c.b⟩) := by
  have h8 := h.rs.1
  unfold m__law_one_more
  rw [lenOk_ok (by omega), Option.bind_some, mapO_all (g := List.map f3) (fun us hus => by
    have := (h.rs.2 us hus).l24
    rw [lenOk_ok (by omega), Option.bind_some, Option.bind_fun_some]
    exact mapO_all fun u _ => rfl), Option.bind_some]
  by_cases z : 0 < ((c.a.map (List.map f3)).length : Int)
  · rw [if_pos (decide_eq_true z)]
    rw [List.length_map] at z ⊢
    obtain ⟨i, y1, e1, b1, l1, u1⟩ := draw_ok bg (many := (c.a.length : Int)) z (by omega)
    rw [e1, Option.bind_some]
    dsimp only
    obtain ⟨i, rfl⟩ : ∃ n : Nat, i = (n : Int) := ⟨i.toNat, by omega⟩
    have hi : i < c.a.length := by omega
    rw [takeO_ok (by rw [List.length_map]; exact hi) (List.Pairwise.map _ (fun a b n e => n (map_f3_inj e)) nd), Option.bind_some]
    rw [List.getElem_map]
    have hu := h.rs.2 _ (List.getElem_mem hi)
    have hat : c.a[i]? = some c.a[i] := List.getElem?_eq_getElem hi
    generalize hus : c.a[i] = us at *
    have l3 := hu.l3
    have l24 := hu.l24
    dsimp only
    rw [List.length_map]
    obtain ⟨j, y2, e2, b2, l2, u2⟩ := draw_ok b1 (many := (us.length : Int)) (by omega) (by omega)
    rw [e2, Option.bind_some]
    dsimp only
    obtain ⟨j, rfl⟩ : ∃ n : Nat, j = (n : Int) := ⟨j.toNat, by omega⟩
    have hj : j < us.length := by omega
    obtain ⟨p, q, es, ep, eq, m1, m2⟩ := sd_at hj
    have eqj : us[j]? = some q := by
      have := ix_lt hj
      rw [this] at eq
      rw [List.getElem?_eq_getElem hj]; exact eq
    rw [ix_map, ix_map, ep, eq, Option.map_some, Option.map_some, Option.bind_some, Option.bind_some, Option.bind_some, Option.bind_some, Option.bind_some, Option.bind_some]
    rw [insO_ok (by omega) (by rw [List.length_map]; omega), Option.bind_some]
    refine ⟨_, rfl, .inr ⟨i, j, us, p, q, hat, es, eqj, ?_⟩⟩
    unfold mrR mid f3
    dsimp only
    rw [third, third]
  · rw [if_neg (by simpa using z)]
    exact ⟨_, rfl, .inl rfl⟩
theorem mr_ok {B : Nat} (hB : B < 2 ^ 80) {c : T2 (List (List P2)) Int} (h : Cl B c) {i j : Nat} {us : List P2} {p q : P2} (hi : c.a[i]? = some us) (es : (sd us)[j]? = some ⟨p, q⟩) (eqj : us[j]? = some q) :
    Clo ⟨mrR (c.a.map (List.map f3)) i j us (mid p q), 3 * c.b⟩ ∧ ∀ d, sm ⟨mrR (c.a.map (List.map f3)) i j us (mid p q), 3 * c.b⟩ d = 3 * sm c d := by
  have hc := h.clo (by omega)
  have hf := f3_clo hB h
  have hum : us ∈ c.a := List.mem_of_getElem? hi
  have hu := h.rs.2 us hum
  have l24 := hu.l24
  have hil := (List.getElem?_eq_some_iff.mp hi).1
  have hil' : i < (c.a.map (List.map f3)).length := by rw [List.length_map]; exact hil
  have spl : c.a.map (List.map f3) = (c.a.map (List.map f3)).take i ++ (us.map f3) :: (c.a.map (List.map f3)).drop (i + 1) := by
    have : us.map f3 = (c.a.map (List.map f3))[i] := by
      rw [List.getElem_map, (List.getElem?_eq_some_iff.mp hi).2]
    rw [this, ← List.drop_eq_getElem_cons, List.take_append_drop]
  have hj := (List.getElem?_eq_some_iff.mp eqj).1
  have pq0 : (⟨p, q⟩ : T2 P2 P2) ∈ sd us := List.mem_of_getElem? es
  obtain ⟨m1, m2⟩ := sd_mem pq0
  have ns : p ≠ q := hc.nz us hum ⟨p, q⟩ pq0
  have hjm : j < (us.map f3).length := by rw [List.length_map]; exact hj
  have g3 : f3 q = (us.map f3)[j] := by
    rw [List.getElem_map, (List.getElem?_eq_some_iff.mp eqj).2]
  have sp3 : (us.map f3).drop j = f3 q :: (us.map f3).drop (j + 1) := by
    rw [g3, ← List.drop_eq_getElem_cons]
  have sp2 : us.map f3 = (us.map f3).take j ++ f3 q :: (us.map f3).drop (j + 1) := by
    rw [← sp3, List.take_append_drop]
  unfold mrR
  have ey : (us.map f3).take j ++ [mid p q] ++ (us.map f3).drop j = (us.map f3).take j ++ mid p q :: f3 q :: (us.map f3).drop (j + 1) := by
    rw [sp3, List.append_assoc]; rfl
  rw [ey]
  have hA : ((us.map f3).take j).length = j := by rw [List.length_take]; omega
  have hat : (sd ((us.map f3).take j ++ f3 q :: (us.map f3).drop (j + 1)))[((us.map f3).take j).length]? = some ⟨f3 p, f3 q⟩ := by
    rw [← sp2, hA, sd_map, List.getElem?_map, es]; rfl
  obtain ⟨sums, mem⟩ := sd_ins (m := mid p q) hat
  rw [← sp2] at sums mem
  generalize hY : (us.map f3).take j ++ mid p q :: f3 q :: (us.map f3).drop (j + 1) = Y at *
  have hYl : Y.length ≤ 1000 := by
    rw [← hY, List.length_append, List.length_cons, List.length_cons, List.length_take, List.length_drop, List.length_map]
    omega
  have hYm : ∀ u ∈ Y, u = mid p q ∨ u ∈ us.map f3 := fun u hu => by
    rw [← hY] at hu
    rw [sp2]
    rcases List.mem_append.mp hu with hu | hu
    · exact .inr (List.mem_append_left _ hu)
    · rcases List.mem_cons.mp hu with z | hu
      · exact .inl z
      · exact .inr (List.mem_append_right _ hu)
  clear hY ey sp2 sp3 hat hA
  generalize hC1 : (c.a.map (List.map f3)).take i = C1 at *
  generalize hC2 : (c.a.map (List.map f3)).drop (i + 1) = C2 at *
  have hin : us.map f3 ∈ c.a.map (List.map f3) := List.mem_map.mpr ⟨us, hum, rfl⟩
  have mem2 : ∀ vs ∈ C1 ++ Y :: C2, vs = Y ∨ vs ∈ c.a.map (List.map f3) := fun vs hvs => by
    rw [spl]
    rcases List.mem_append.mp hvs with z | z
    · exact .inr (List.mem_append_left _ z)
    · rcases List.mem_cons.mp z with z | z
      · exact .inl z
      · exact .inr (List.mem_append_right _ (List.mem_cons_of_mem _ z))
  refine ⟨⟨hf.bp, hf.bs, ?_, fun vs hvs => ?_, fun vs hvs u hu' => ?_, fun vs hvs s hs => ?_⟩, fun d => ?_⟩
  · have := hf.h8
    have e : (c.a.map (List.map f3)).length = (C1 ++ Y :: C2).length := by
      rw [spl, List.length_append, List.length_append]; rfl
    show (C1 ++ Y :: C2).length ≤ 1000
    rw [← e]; exact this
  · rcases mem2 vs hvs with z | z
    · rw [z]; exact hYl
    · exact hf.rl vs z
  · rcases mem2 vs hvs with z | z
    · rw [z] at hu'
      rcases hYm u hu' with y | y
      · have s1 := hu.sm p m1
        have s2 := hu.sm q m2
        rw [y]
        show (2 * q.a + p.a).natAbs < _ ∧ (2 * q.b + p.b).natAbs < _
        omega
      · exact hf.sm _ hin u y
    · exact hf.sm vs z u hu'
  · rcases mem2 vs hvs with z | z
    · rw [z] at hs
      have ne : ∀ {u v : P2}, (u.a ≠ v.a ∨ u.b ≠ v.b) → u ≠ v := fun z e => by rw [e] at z; exact z.elim (fun z => z rfl) fun z => z rfl
      have pq : p.a ≠ q.a ∨ p.b ≠ q.b := by
        by_cases y : p.a = q.a
        · right; intro w
          obtain ⟨p1, p2⟩ := p
          obtain ⟨q1, q2⟩ := q
          simp only at y w
          exact ns (by rw [y, w])
        · exact .inl y
      rcases mem s hs with y | y | y
      · exact hf.nz _ hin s y
      · rw [y]
        refine ne ?_
        show 3 * p.a ≠ 2 * q.a + p.a ∨ 3 * p.b ≠ 2 * q.b + p.b
        omega
      · rw [y]
        refine ne ?_
        show 2 * q.a + p.a ≠ 3 * q.a ∨ 2 * q.b + p.b ≠ 3 * q.b
        omega
    · exact hf.nz vs z s hs
  · rw [← f3_sm hc d, sm_rs, sm_rs, spl, List.map_append, List.map_append, List.sum_append, List.sum_append, List.map_cons, List.map_cons, List.sum_cons, List.sum_cons]
    rw [sums (wt d) (wt_third ns d)]
theorem rev_ok {c : T2 (List (List P2)) Int} (hc : Clo c) {R : List (List P2)} (cl : Clo ⟨R, 3 * c.b⟩) (hs : ∀ d, sm ⟨R, 3 * c.b⟩ d = 3 * sm c d) : Clo ⟨R.reverse, 3 * c.b⟩ ∧ Mk ⟨R.reverse, 3 * c.b⟩ = Mk c := by
  refine ⟨⟨cl.bp, cl.bs, by show R.reverse.length ≤ _; rw [List.length_reverse]; exact cl.h8, fun us hus => cl.rl us (List.mem_reverse.mp hus), fun us hus => cl.sm us (List.mem_reverse.mp hus), fun us hus => cl.nz us (List.mem_reverse.mp hus)⟩, same_mk hc.bp rfl fun d => ?_⟩
  rw [← hs d, sm_rs, sm_rs]
  exact sum_perm ((List.reverse_perm R).map _)
theorem onemore_ok {B : Nat} (hB : B < 2 ^ 80) {c : T2 (List (List P2)) Int} (h : Cl B c) (nd : c.a.Nodup) {xs : List Int} (bg : Bag xs) : ∃ r, m__law_one_more c xs = some r ∧ Clo r.1 ∧ Mk r.1 = Mk c := by
  have hc := h.clo (by omega)
  obtain ⟨r, e, z | ⟨i, j, us, p, q, hi, es, eqj, z⟩⟩ := onemore_eval h nd bg
  · refine ⟨r, e, ?_⟩
    rw [z]
    exact rev_ok hc (f3_clo hB h) (f3_sm hc)
  · refine ⟨r, e, ?_⟩
    rw [z]
    obtain ⟨h1, h2⟩ := mr_ok hB h hi es eqj
    exact rev_ok hc h1 h2
/-! ### plain: marks of the same, all of it -/
theorem mk_few {B : Nat} (hB : B < 2 ^ 90) {c : T2 (List (List P2)) Int} (h : Cl B c) : (Mk c).length ≤ 1000000 := by
  have hc := h.clo (by omega)
  unfold Mk
  refine Nat.le_trans (List.length_filterMap_le _ _) ?_
  rw [sortP_len, List.length_map]
  exact Nat.le_trans hc.db.le hc.len
theorem right_ok {c : T2 (List (List P2)) Int} (h : Cl 400000000 c) (nd : c.a.Nodup) {xs : List Int} (bg : Bag xs) : ∃ ys, m__law_right xs c = some (true, ys) := by
  have hc := h.clo (by decide)
  have h8 := h.rs.1
  have few := mk_few (by decide) h
  have eN : mapO (fun (x1 : T2 (T2 Int Int) (T2 Int Int)) => some (T2.mk x1.a (T2.mk (-x1.b.a) x1.b.b))) (Mk c) = some ((Mk c).map ngm) := mapO_all fun _ _ => rfl
  have eL : mapO (fun (x2 : List (T2 Int Int)) => some ((x2.length : Int))) c.a = some (c.a.map fun x2 => (x2.length : Int)) := mapO_all fun _ _ => rfl
  unfold m__law_right
  rw [told_ok hc, Option.bind_some, marks_ok hc, Option.bind_some]
  obtain ⟨x, y1, e1, b1, l1, u1⟩ := draw_ok bg (many := 2 * 1000000000) (by decide) (by decide)
  obtain ⟨y, y2, e2, b2, l2, u2⟩ := draw_ok b1 (many := 2 * 1000000000) (by decide) (by decide)
  rw [e1, Option.bind_some, Option.bind_some]
  dsimp only
  rw [e2, Option.bind_some, Option.bind_some]
  dsimp only
  have hx : (x - 1000000000).natAbs < 2 ^ 90 := by omega
  have hy : (y - 1000000000).natAbs < 2 ^ 90 := by omega
  have c1 := moved_clo (o := 1) (by decide) h (.inl rfl) hx hy
  have c2 := moved_clo (o := -1) (by decide) h (.inr rfl) hx hy
  rw [moved_ok (by decide) h (.inl rfl), Option.bind_some, told_ok c1, Option.bind_some, marks_ok c1, Option.bind_some, slid_mk hc]
  rw [if_neg (by simp), nothing_ok (by decide) h, Option.bind_some, if_neg (by simp), lenOk_ok (by omega), Option.bind_some, eN, Option.bind_some]
  rw [moved_ok (by decide) h (.inr rfl), Option.bind_some, told_ok c2, Option.bind_some, marks_ok c2, Option.bind_some, turned_mk hc, if_neg (by simp)]
  obtain ⟨t, y3, e3, b3, l3, u3⟩ := draw_ok b2 (many := 61) (by decide) (by decide)
  obtain ⟨u, y4, e4, b4, l4, u4⟩ := draw_ok b3 (many := 12) (by decide) (by decide)
  rw [e3, Option.bind_some, Option.bind_some]
  dsimp only
  rw [e4, Option.bind_some, Option.bind_some]
  dsimp only
  have c3 := tilted_clo (u := 1 + u) (t := t - 30) (by decide) h (by omega) (by omega) (by omega)
  rw [tilted_ok (by decide) h (by omega) (by omega), Option.bind_some, told_ok c3, Option.bind_some, marks_ok c3, Option.bind_some, due_ok hc few (by omega) (by omega) (by omega), Option.bind_some, tilt_mk hc (by omega), if_neg (by simp), lenOk_ok (by omega), Option.bind_some, eL, Option.bind_some]
  split
  · obtain ⟨r, er, cr, mr⟩ := onemore_ok (by decide) h nd b4
    rw [er, Option.bind_some, told_ok cr, Option.bind_some, marks_ok cr, Option.bind_some, mr]
    exact ⟨_, by rw [decide_eq_true rfl]⟩
  · exact ⟨_, rfl⟩
theorem law_true : ∀ ns : List Int, ns.length ≤ 63 → m_law ns = some true := by
  intro ns hl
  unfold m_law
  obtain ⟨c, hc⟩ := cell0_ok ns
  have hs := slice_len ns (some 1) (some 6)
  rw [hc, Option.bind_some, lenOk_ok (by simp only [List.length_cons, List.length_nil]; omega), Option.bind_some]
  refine loopL_bind (fun _ => True) ?_ trivial fun _ _ => rfl
  intro x s _ _
  refine ⟨(), ?_, trivial⟩
  obtain ⟨g, eg, bg⟩ := bag_ok x
  obtain ⟨r, er, ⟨br, cr⟩, nd⟩ := cloth_nd bg
  obtain ⟨ys, ey⟩ := right_ok cr nd br
  rw [eg, Option.bind_some, er, Option.bind_some, ey]
  rfl
def top (i : Nat) : Stmt := PySem.Challenge.pw_slidecut_k21_marks_of_the_same.main.body.getD i (.Pass ⟨0, 0, 0, 0⟩)
abbrev s__law_cell : Stmt := top 19
abbrev s__law_bag : Stmt := top 20
abbrev s__law_draw : Stmt := top 21
abbrev s__law_star : Stmt := top 25
abbrev s__law_steps : Stmt := top 26
abbrev s__law_rings : Stmt := top 27
abbrev s__law_cloth : Stmt := top 28
abbrev s__law_measure : Stmt := top 22
abbrev s__law_spot : Stmt := top 24
abbrev s__law_told : Stmt := top 29
abbrev s_greatest_divisor : Stmt := top 5
abbrev s_point : Stmt := top 9
abbrev s_step_to : Stmt := top 10
abbrev s_common_of : Stmt := top 13
abbrev s_ratio : Stmt := top 6
abbrev s_way_of : Stmt := top 14
abbrev s_ways_of_sides : Stmt := top 15
abbrev s_plus : Stmt := top 7
abbrev s_mark_sums : Stmt := top 16
abbrev s_marks : Stmt := top 17
abbrev s__law_moved : Stmt := top 33
abbrev s__law_come_to_nothing : Stmt := top 38
abbrev s__law_tilted : Stmt := top 34
abbrev s__law_way_tilted : Stmt := top 36
abbrev s__law_low : Stmt := top 23
abbrev s__law_due : Stmt := top 37
abbrev s__law_one_more : Stmt := top 35
abbrev s__law_right : Stmt := top 39
abbrev s_law : Stmt := top 40
structure Txt (K : PySem.W.Frag) (mg : Str → Option Value) where
  A__law_cell : Addr
  D__law_cell : FuncData
  F__law_cell : Fun K "_law_cell" "_law_cell" s__law_cell A__law_cell D__law_cell
  g__law_cell : mg "_law_cell" = some (.ref A__law_cell)
  b__law_cell : Binds K D__law_cell ["_law_script", "_law_k"] []
  A__law_bag : Addr
  D__law_bag : FuncData
  F__law_bag : Fun K "_law_bag" "_law_bag" s__law_bag A__law_bag D__law_bag
  g__law_bag : mg "_law_bag" = some (.ref A__law_bag)
  b__law_bag : Binds K D__law_bag ["_law_cell_here"] []
  A__law_draw : Addr
  D__law_draw : FuncData
  F__law_draw : Fun K "_law_draw" "_law_draw" s__law_draw A__law_draw D__law_draw
  g__law_draw : mg "_law_draw" = some (.ref A__law_draw)
  b__law_draw : Binds K D__law_draw ["_law_bag_here", "_law_many"] []
  A__law_star : Addr
  D__law_star : FuncData
  F__law_star : Fun K "_law_star" "_law_star" s__law_star A__law_star D__law_star
  g__law_star : mg "_law_star" = some (.ref A__law_star)
  b__law_star : Binds K D__law_star ["_law_bag_here", "_law_most", "_law_far"] []
  A__law_steps : Addr
  D__law_steps : FuncData
  F__law_steps : Fun K "_law_steps" "_law_steps" s__law_steps A__law_steps D__law_steps
  g__law_steps : mg "_law_steps" = some (.ref A__law_steps)
  b__law_steps : Binds K D__law_steps ["_law_bag_here", "_law_far"] []
  A__law_rings : Addr
  D__law_rings : FuncData
  F__law_rings : Fun K "_law_rings" "_law_rings" s__law_rings A__law_rings D__law_rings
  g__law_rings : mg "_law_rings" = some (.ref A__law_rings)
  b__law_rings : Binds K D__law_rings ["_law_bag_here", "_law_far"] []
  A__law_cloth : Addr
  D__law_cloth : FuncData
  F__law_cloth : Fun K "_law_cloth" "_law_cloth" s__law_cloth A__law_cloth D__law_cloth
  g__law_cloth : mg "_law_cloth" = some (.ref A__law_cloth)
  b__law_cloth : Binds K D__law_cloth ["_law_bag_here"] []
  A__law_measure : Addr
  D__law_measure : FuncData
  F__law_measure : Fun K "_law_measure" "_law_measure" s__law_measure A__law_measure D__law_measure
  g__law_measure : mg "_law_measure" = some (.ref A__law_measure)
  b__law_measure : Binds K D__law_measure ["_law_one", "_law_other"] []
  A__law_spot : Addr
  D__law_spot : FuncData
  F__law_spot : Fun K "_law_spot" "_law_spot" s__law_spot A__law_spot D__law_spot
  g__law_spot : mg "_law_spot" = some (.ref A__law_spot)
  b__law_spot : Binds K D__law_spot ["_law_x", "_law_y", "_law_bottom"] []
  A__law_told : Addr
  D__law_told : FuncData
  F__law_told : Fun K "_law_told" "_law_told" s__law_told A__law_told D__law_told
  g__law_told : mg "_law_told" = some (.ref A__law_told)
  b__law_told : Binds K D__law_told ["_law_cloth_here"] []
  A_greatest_divisor : Addr
  D_greatest_divisor : FuncData
  F_greatest_divisor : Fun K "greatest_divisor" "greatest_divisor" s_greatest_divisor A_greatest_divisor D_greatest_divisor
  g_greatest_divisor : mg "greatest_divisor" = some (.ref A_greatest_divisor)
  b_greatest_divisor : Binds K D_greatest_divisor ["a", "b"] []
  A_point : Addr
  D_point : FuncData
  F_point : Fun K "point" "point" s_point A_point D_point
  g_point : mg "point" = some (.ref A_point)
  b_point : Binds K D_point ["a", "b", "n"] []
  A_step_to : Addr
  D_step_to : FuncData
  F_step_to : Fun K "step_to" "step_to" s_step_to A_step_to D_step_to
  g_step_to : mg "step_to" = some (.ref A_step_to)
  b_step_to : Binds K D_step_to ["p", "q"] []
  A_common_of : Addr
  D_common_of : FuncData
  F_common_of : Fun K "common_of" "common_of" s_common_of A_common_of D_common_of
  g_common_of : mg "common_of" = some (.ref A_common_of)
  b_common_of : Binds K D_common_of ["one", "other"] []
  A_ratio : Addr
  D_ratio : FuncData
  F_ratio : Fun K "ratio" "ratio" s_ratio A_ratio D_ratio
  g_ratio : mg "ratio" = some (.ref A_ratio)
  b_ratio : Binds K D_ratio ["top", "bottom"] []
  A_way_of : Addr
  D_way_of : FuncData
  F_way_of : Fun K "way_of" "way_of" s_way_of A_way_of D_way_of
  g_way_of : mg "way_of" = some (.ref A_way_of)
  b_way_of : Binds K D_way_of ["step"] []
  A_ways_of_sides : Addr
  D_ways_of_sides : FuncData
  F_ways_of_sides : Fun K "ways_of_sides" "ways_of_sides" s_ways_of_sides A_ways_of_sides D_ways_of_sides
  g_ways_of_sides : mg "ways_of_sides" = some (.ref A_ways_of_sides)
  b_ways_of_sides : Binds K D_ways_of_sides ["cloth"] []
  A_plus : Addr
  D_plus : FuncData
  F_plus : Fun K "plus" "plus" s_plus A_plus D_plus
  g_plus : mg "plus" = some (.ref A_plus)
  b_plus : Binds K D_plus ["one", "other"] []
  A_mark_sums : Addr
  D_mark_sums : FuncData
  F_mark_sums : Fun K "mark_sums" "mark_sums" s_mark_sums A_mark_sums D_mark_sums
  g_mark_sums : mg "mark_sums" = some (.ref A_mark_sums)
  b_mark_sums : Binds K D_mark_sums ["cloth"] []
  A_marks : Addr
  D_marks : FuncData
  F_marks : Fun K "marks" "marks" s_marks A_marks D_marks
  g_marks : mg "marks" = some (.ref A_marks)
  b_marks : Binds K D_marks ["cloth"] []
  A__law_moved : Addr
  D__law_moved : FuncData
  F__law_moved : Fun K "_law_moved" "_law_moved" s__law_moved A__law_moved D__law_moved
  g__law_moved : mg "_law_moved" = some (.ref A__law_moved)
  b__law_moved : Binds K D__law_moved ["_law_cloth_here", "_law_often", "_law_x", "_law_y"] []
  A__law_come_to_nothing : Addr
  D__law_come_to_nothing : FuncData
  F__law_come_to_nothing : Fun K "_law_come_to_nothing" "_law_come_to_nothing" s__law_come_to_nothing A__law_come_to_nothing D__law_come_to_nothing
  g__law_come_to_nothing : mg "_law_come_to_nothing" = some (.ref A__law_come_to_nothing)
  b__law_come_to_nothing : Binds K D__law_come_to_nothing ["_law_some"] []
  A__law_tilted : Addr
  D__law_tilted : FuncData
  F__law_tilted : Fun K "_law_tilted" "_law_tilted" s__law_tilted A__law_tilted D__law_tilted
  g__law_tilted : mg "_law_tilted" = some (.ref A__law_tilted)
  b__law_tilted : Binds K D__law_tilted ["_law_cloth_here", "_law_top", "_law_under_it"] []
  A__law_way_tilted : Addr
  D__law_way_tilted : FuncData
  F__law_way_tilted : Fun K "_law_way_tilted" "_law_way_tilted" s__law_way_tilted A__law_way_tilted D__law_way_tilted
  g__law_way_tilted : mg "_law_way_tilted" = some (.ref A__law_way_tilted)
  b__law_way_tilted : Binds K D__law_way_tilted ["_law_way", "_law_top", "_law_under_it"] []
  A__law_low : Addr
  D__law_low : FuncData
  F__law_low : Fun K "_law_low" "_law_low" s__law_low A__law_low D__law_low
  g__law_low : mg "_law_low" = some (.ref A__law_low)
  b__law_low : Binds K D__law_low ["_law_top", "_law_bottom"] []
  A__law_due : Addr
  D__law_due : FuncData
  F__law_due : Fun K "_law_due" "_law_due" s__law_due A__law_due D__law_due
  g__law_due : mg "_law_due" = some (.ref A__law_due)
  b__law_due : Binds K D__law_due ["_law_some", "_law_top", "_law_under_it"] []
  A__law_one_more : Addr
  D__law_one_more : FuncData
  F__law_one_more : Fun K "_law_one_more" "_law_one_more" s__law_one_more A__law_one_more D__law_one_more
  g__law_one_more : mg "_law_one_more" = some (.ref A__law_one_more)
  b__law_one_more : Binds K D__law_one_more ["_law_cloth_here", "_law_bag_here"] []
  A__law_right : Addr
  D__law_right : FuncData
  F__law_right : Fun K "_law_right" "_law_right" s__law_right A__law_right D__law_right
  g__law_right : mg "_law_right" = some (.ref A__law_right)
  b__law_right : Binds K D__law_right ["_law_bag_here", "_law_cloth_here"] []
  A_law : Addr
  D_law : FuncData
  F_law : Fun K "law" "law" s_law A_law D_law
  g_law : mg "law" = some (.ref A_law)
  b_law : Binds K D_law ["_law_script"] []
  z_abs : mg "abs" = none
  z_len : mg "len" = none
  z_range : mg "range" = none
  z_sorted : mg "sorted" = none
  z_sum : mg "sum" = none
  a_NOTHING : Addr
  c_NOTHING : mg "NOTHING" = some (.ref a_NOTHING)
  s_NOTHING : ∀ (H : Hp), SqT K H a_NOTHING [.int (0), .int (1)]
section
variable {P : Program} {w : World} {K : PySem.W.Frag} {mg : Str → Option Value} {base : Heap}
abbrev sp__law_cell (K : PySem.W.Frag) : Sp := fun vs H Q _ => ∃ (X : Addr → Prop)  (a__law_script : (List Int)) (a__law_k : Int) (r : Int), m__law_cell a__law_script a__law_k = some r ∧ Cond K X H [.scr a__law_script, .imm (.int a__law_k)] vs ∧ ∀ H', Fin K X H [] [] (.imm (.int r)) (.int r) H' → Q (.int r) H'
theorem mk__law_cell {K : PySem.W.Frag} {X : Addr → Prop} {H : Hp} {vs : List V} {Q : VK} {E : XK}  {a__law_script : (List Int)} {a__law_k : Int} {r : Int} (hm : m__law_cell a__law_script a__law_k = some r) (c : Cond K X H [.scr a__law_script, .imm (.int a__law_k)] vs) (k : ∀ H', Fin K X H [] [] (.imm (.int r)) (.int r) H' → Q (.int r) H') : sp__law_cell K vs H Q E := ⟨X, a__law_script, a__law_k, r, hm, c, k⟩
abbrev n__law_cell : List Str := ["_law_script", "_law_k"]
theorem sc__law_cell : FnScope n__law_cell ["_law_script", "_law_k"] (defScope s__law_cell) := ⟨rfl, rfl, rfl, by decide +kernel, rfl, by decide +kernel, by decide +kernel⟩
theorem ok__law_cell (T : Txt K mg) : FnOk P w K mg base CX0 1 T.A__law_cell T.D__law_cell ["_law_script", "_law_k"] (sp__law_cell K) := by
  refine Fun.ok T.F__law_cell sc__law_cell (fun vs H Q E h => ?_) (fun cdv A outer s H vs Q E hr h => ?_)
  · obtain ⟨X, a__law_script, a__law_k, r, hm, c, kont⟩ := h
    exact c.len
  · obtain ⟨X, a__law_script, a__law_k, r, hm, c, kont⟩ := h
    refine ⟨_, (pss_cons (ps_if (pt_cmpR op_lt (pv 1) (pe_callB (r := rLenX K) call_lenX (by rfl) T.z_len (by decide +kernel) (pa_cons (pv 0) pa_nil)) (nomark _)) (pss_one (ps_ret (pe_ix (r := rIxL K) ix_list (pv 0) (pv 1) (fun _ _ => rfl)))) pss_nil)
      (pss_one (ps_ret pe_int))), ?_⟩
    have L0 : Lo ⟨K, X, H, muts [.scr a__law_script, .imm (.int a__law_k)], n__law_cell.length⟩ X H (L2.start n__law_cell vs) [.scr a__law_script, .imm (.int a__law_k)] := c.start n__law_cell (show (2 : Nat) ≤ 2 by decide)
    unfold m__law_cell at hm
    refine x_seq (x_ifS (x_test (x_op (x_vI (x := a__law_k) L0 rfl (x_cb (x_cons (x_vscr L0 rfl fun v1 r1 => x_nil (x_lenS r1 (x_r0 (x_kb (x_if hm (fun hm1 => ?_) fun hm1 => ?_)))))))))))
    · exact x_ret (x_op (x_vscr L0 rfl fun v2 r2 => x_vI (x := a__law_k) L0 rfl (x_ixS hm1 r2 fun x1 _ hm2 => x_finI (Q := Q) (ps := (fun (r : Int) => [])) (sc := fun (r : Int) => r) x1 hm2 kont (L0.fin hp0 (.int _)))))
    · refine x_next ?_
      exact x_ret (x_c (x_finI (Q := Q) (ps := (fun (r : Int) => [])) (sc := fun (r : Int) => r) 0 hm1 kont (L0.fin hp0 (.int _))))
abbrev sp__law_bag (K : PySem.W.Frag) : Sp := fun vs H Q _ => ∃ (X : Addr → Prop)  (a__law_cell_here : Int) (r : (List Int)), m__law_bag a__law_cell_here = some r ∧ Cond K X H [.imm (.int a__law_cell_here)] vs ∧ ∀ p H', Fin K X H [] [] (.new (ml (r : (List Int)))) (.ref p) H' → Q (.ref p) H'
theorem mk__law_bag {K : PySem.W.Frag} {X : Addr → Prop} {H : Hp} {vs : List V} {Q : VK} {E : XK}  {a__law_cell_here : Int} {r : (List Int)} (hm : m__law_bag a__law_cell_here = some r) (c : Cond K X H [.imm (.int a__law_cell_here)] vs) (k : ∀ p H', Fin K X H [] [] (.new (ml (r : (List Int)))) (.ref p) H' → Q (.ref p) H') : sp__law_bag K vs H Q E := ⟨X, a__law_cell_here, r, hm, c, k⟩
abbrev n__law_bag : List Str := ["_law_cell_here"]
theorem sc__law_bag : FnScope n__law_bag ["_law_cell_here"] (defScope s__law_bag) := ⟨rfl, rfl, rfl, by decide +kernel, rfl, by decide +kernel, by decide +kernel⟩
theorem ok__law_bag (T : Txt K mg) : FnOk P w K mg base CX0 1 T.A__law_bag T.D__law_bag ["_law_cell_here"] (sp__law_bag K) := by
  refine Fun.ok T.F__law_bag sc__law_bag (fun vs H Q E h => ?_) (fun cdv A outer s H vs Q E hr h => ?_)
  · obtain ⟨X, a__law_cell_here, r, hm, c, kont⟩ := h
    exact c.len
  · obtain ⟨X, a__law_cell_here, r, hm, c, kont⟩ := h
    refine ⟨_, (pss_cons (ps_if (pt_cmpR op_ge (pv 0) (pe_op op_pow pe_int pe_int) (nomark _)) (pss_one (ps_ret (pe_lst (pa_cons (pe_op op_mod (pv 0) (pe_op op_mulW (pe_op op_pow pe_int pe_int) (pe_op op_pow pe_int pe_int))) (pa_cons (pe_op op_mod (pv 0) pe_int) pa_nil))))) pss_nil)
      (pss_one (ps_ret (pe_lst (pa_cons pe_int (pa_cons (pe_op op_mod (pe_op op_add (pe_op op_mul (pe_op op_mod (pv 0) pe_int) pe_int) pe_int) pe_int) pa_nil)))))), ?_⟩
    have L0 : Lo ⟨K, X, H, muts [.imm (.int a__law_cell_here)], n__law_bag.length⟩ X H (L2.start n__law_bag vs) [.imm (.int a__law_cell_here)] := c.start n__law_bag (show (1 : Nat) ≤ 1 by decide)
    unfold m__law_bag at hm
    refine x_seq (x_ifS (x_test (x_op (x_vI (x := a__law_cell_here) L0 rfl (x_op (x_c (x_c (x_powc (n := 1000000000000000000) ⟨by decide, by decide, by decide⟩ (by decide +kernel) (x_r0 (x_kb (x_if hm (fun hm1 => ?_) fun hm1 => ?_)))))))))))
    · exact x_ret (x_lst (x_cons (x_op (x_vI (x := a__law_cell_here) L0 rfl (x_op (x_op (x_c (x_c (x_powc (n := 1000000000000000000000000000000000000000000000000000000000000) ⟨by decide, by decide, by decide⟩ (by decide +kernel) (x_op (x_c (x_c (x_powc (n := 1000000000000000000000000000000000000000000000000000000000000) ⟨by decide, by decide, by decide⟩ (by decide +kernel) (x_mulc (n := 1000000000000000000000000000000000000000000000000000000000000000000000000000000000000000000000000000000000000000000000000) (by decide +kernel) (by decide +kernel) (x_modc (by decide) (x_cons (x_op (x_vI (x := a__law_cell_here) L0 rfl (x_c (x_modc (by decide) (x_nil (x_mkN L0 (.cons (.int _) (.cons (.int _) .nil)) (show (2 : Nat) ≤ 16777216 by decide) fun p1 _ _ h01 hx1 L1 le1 => x_finP (Q := Q) (ps := (fun (r : (List Int)) => [])) (o := fun (r : (List Int)) => (ml (r : (List Int)))) (e := [(a__law_cell_here % 1000000000000000000000000000000000000000000000000000000000000000000000000000000000000000000000000000000000000000000000000), (a__law_cell_here % 2147483647)]) hm1 kont (L1.finT (p := p1) (i := 1) (o := (ml ([(a__law_cell_here % 1000000000000000000000000000000000000000000000000000000000000000000000000000000000000000000000000000000000000000000000000), (a__law_cell_here % 2147483647)] : (List Int)))) hp0 rfl h01)))))))))))))))))))))))
    · refine x_next ?_
      exact x_ret (x_lst (x_cons (x_c (x_cons (x_op (x_op (x_op (x_op (x_vI (x := a__law_cell_here) L0 rfl (x_c (x_modc (by decide) (x_c (x_mulR (by decide) (x_c (x_r0 (x_c (x_modc (by decide) (x_nil (x_mkN L0 (.cons (.int _) (.cons (.int _) .nil)) (show (2 : Nat) ≤ 16777216 by decide) fun p2 _ _ h02 hx2 L2 le2 => x_finP (Q := Q) (ps := (fun (r : (List Int)) => [])) (o := fun (r : (List Int)) => (ml (r : (List Int)))) (e := [0, ((((a__law_cell_here % 2147483647) * 69621) + 4099) % 2147483647)]) hm1 kont (L2.finT (p := p2) (i := 1) (o := (ml ([0, ((((a__law_cell_here % 2147483647) * 69621) + 4099) % 2147483647)] : (List Int)))) hp0 rfl h02))))))))))))))))))))
abbrev sp__law_draw (K : PySem.W.Frag) : Sp := fun vs H Q _ => ∃ (X : Addr → Prop) (p__law_bag_here : Addr) (a__law_bag_here : (List Int)) (a__law_many : Int) (r : (Int × (List Int))), m__law_draw a__law_bag_here a__law_many = some r ∧ Cond K X H [.mu p__law_bag_here (ml (a__law_bag_here : (List Int))), .imm (.int a__law_many)] vs ∧ ∀ H', Fin K X H [p__law_bag_here] [(p__law_bag_here, (ml (r.2 : (List Int))))] (.imm (.int r.1)) (.int r.1) H' → Q (.int r.1) H'
theorem mk__law_draw {K : PySem.W.Frag} {X : Addr → Prop} {H : Hp} {vs : List V} {Q : VK} {E : XK} {p__law_bag_here : Addr} {a__law_bag_here : (List Int)} {a__law_many : Int} {r : (Int × (List Int))} (hm : m__law_draw a__law_bag_here a__law_many = some r) (c : Cond K X H [.mu p__law_bag_here (ml (a__law_bag_here : (List Int))), .imm (.int a__law_many)] vs) (k : ∀ H', Fin K X H [p__law_bag_here] [(p__law_bag_here, (ml (r.2 : (List Int))))] (.imm (.int r.1)) (.int r.1) H' → Q (.int r.1) H') : sp__law_draw K vs H Q E := ⟨X, p__law_bag_here, a__law_bag_here, a__law_many, r, hm, c, k⟩
abbrev n__law_draw : List Str := ["_law_bag_here", "_law_many", "_law_found"]
theorem sc__law_draw : FnScope n__law_draw ["_law_bag_here", "_law_many"] (defScope s__law_draw) := ⟨rfl, rfl, rfl, by decide +kernel, rfl, by decide +kernel, by decide +kernel⟩
theorem ok__law_draw (T : Txt K mg) : FnOk P w K mg base CX0 1 T.A__law_draw T.D__law_draw ["_law_bag_here", "_law_many"] (sp__law_draw K) := by
  refine Fun.ok T.F__law_draw sc__law_draw (fun vs H Q E h => ?_) (fun cdv A outer s H vs Q E hr h => ?_)
  · obtain ⟨X, p__law_bag_here, a__law_bag_here, a__law_many, r, hm, c, kont⟩ := h
    exact c.len
  · obtain ⟨X, p__law_bag_here, a__law_bag_here, a__law_many, r, hm, c, kont⟩ := h
    refine ⟨_, (pss_cons (ps_if (pt_cmpR op_ge (pe_ix (r := rIxL K) ix_list (pv 0) pe_int (fun _ _ => rfl)) (pv 1) (nomark _)) (pss_cons (ps_set (i := 2) sc__law_draw.nd rfl (Or.inl rfl) (pe_op op_modN (pe_ix (r := rIxL K) ix_list (pv 0) pe_int (fun _ _ => rfl)) (pv 1)))
      (pss_cons (ps_asg (pe_op op_divG (pe_ix (r := rIxL K) ix_list (pv 0) pe_int (fun _ _ => rfl)) (pv 1)) (pg_sub (pv 0) pe_int set_list))
      (pss_one (ps_ret (pv 2))))) pss_nil)
      (pss_cons (ps_asg pe_int (pg_sub (pv 0) pe_int set_list))
      (pss_cons (ps_asg (pe_op op_mod (pe_op op_add (pe_op op_mul (pe_ix (r := rIxL K) ix_list (pv 0) pe_int (fun _ _ => rfl)) pe_int) pe_int) pe_int) (pg_sub (pv 0) pe_int set_list))
      (pss_one (ps_ret (pe_op op_modN (pe_op op_fdiv (pe_op op_mod (pe_op op_mulW (pe_ix (r := rIxL K) ix_list (pv 0) pe_int (fun _ _ => rfl)) (pe_op op_add (pe_op op_fdiv (pe_ix (r := rIxL K) ix_list (pv 0) pe_int (fun _ _ => rfl)) pe_int) pe_int)) pe_int) pe_int) (pv 1))))))), ?_⟩
    have L0 : Lo ⟨K, X, H, muts [.mu p__law_bag_here (ml (a__law_bag_here : (List Int))), .imm (.int a__law_many)], n__law_draw.length⟩ X H (L2.start n__law_draw vs) [.mu p__law_bag_here (ml (a__law_bag_here : (List Int))), .imm (.int a__law_many), .unk] := c.start n__law_draw (show (2 : Nat) ≤ 3 by decide)
    unfold m__law_draw at hm
    refine x_seq (x_ifS (x_test (x_op (x_op (x_vm L0 rfl (x_c (x_ixMI (xs := a__law_bag_here) (j := 0) L0 rfl hm fun x1 _ hm1 => x_vI (x := a__law_many) L0 rfl (x_r0 (x_kb (x_if hm1 (fun hm2 => ?_) fun hm2 => ?_))))))))))
    · refine x_seq (x_asg (x_op (x_op (x_vm L0 rfl (x_c (x_ixMI (xs := a__law_bag_here) (j := 0) L0 rfl hm2 fun x2 _ hm3 => x_vI (x := a__law_many) L0 rfl (x_mod hm3 fun z1 _ hm4 => x_set (d := (.int z1)) (Γ' := [.mu p__law_bag_here (ml (a__law_bag_here : (List Int))), .imm (.int a__law_many), .imm (.int z1)]) L0 (.int _) (show (2 : Nat) < 3 by decide) rfl fun _ L1 => ?_)))))))
      refine x_seq (x_asg (x_op (x_op (x_vm L1 rfl (x_c (x_ixMI (xs := a__law_bag_here) (j := 0) L1 rfl hm4 fun x3 _ hm5 => x_vI (x := a__law_many) L1 rfl (x_div hm5 fun z2 _ hm6 => x_gSub (x_vm L1 rfl (x_c (x_setI (xs := a__law_bag_here) (x := z2) (j := 0) L1 rfl hm6 (.int _) fun y1 _ _ hm7 L2 => have L3 : Lo _ _ _ _ [.mu p__law_bag_here (ml (y1 : (List Int))), .imm (.int a__law_many), .imm (.int z1)] := L2; ?_))))))))))
      exact x_ret (x_vI (x := z1) L3 rfl (x_finI (Q := Q) (ps := (fun (r : (Int × (List Int))) => [(p__law_bag_here, (ml (r.2 : (List Int))))])) (sc := fun (r : (Int × (List Int))) => r.1) ((z1, y1)) hm7 kont (L3.fin (hp1 (L3.mrep (i := 0) rfl)) (.int _))))
    · refine x_next ?_
      refine x_seq (x_asg (x_c (x_gSub (x_vm L0 rfl (x_c (x_setI (xs := a__law_bag_here) (x := 0) (j := 0) L0 rfl hm2 (.int _) fun y2 _ _ hm8 L4 => have L5 : Lo _ _ _ _ [.mu p__law_bag_here (ml (y2 : (List Int))), .imm (.int a__law_many), .unk] := L4; ?_))))))
      refine x_seq (x_asg (x_op (x_op (x_op (x_op (x_vm L5 rfl (x_c (x_ixMI (xs := y2) (j := 0) L5 rfl hm8 fun x4 _ hm9 => x_c (x_mulR (by decide) (x_c (x_r0 (x_c (x_modc (by decide) (x_gSub (x_vm L5 rfl (x_c (x_setI (xs := y2) (x := (((x4 * 48271) + 4099) % 2147483647)) (j := 0) L5 rfl hm9 (.int _) fun y3 _ _ hm10 L6 => have L7 : Lo _ _ _ _ [.mu p__law_bag_here (ml (y3 : (List Int))), .imm (.int a__law_many), .unk] := L6; ?_)))))))))))))))))
      exact x_ret (x_op (x_op (x_op (x_op (x_op (x_vm L7 rfl (x_c (x_ixMI (xs := y3) (j := 0) L7 rfl hm10 fun x5 _ hm11 => x_op (x_op (x_op (x_vm L7 rfl (x_c (x_ixMI (xs := y3) (j := 0) L7 rfl hm11 fun x6 _ hm12 => x_c (x_divc ⟨by decide, by decide⟩ (x_c (x_r0 (x_mul hm12 fun z3 _ hm13 => x_c (x_modc (by decide) (x_c (x_divc ⟨by decide, by decide⟩ (x_vI (x := a__law_many) L7 rfl (x_mod hm13 fun z4 _ hm14 => x_finI (Q := Q) (ps := (fun (r : (Int × (List Int))) => [(p__law_bag_here, (ml (r.2 : (List Int))))])) (sc := fun (r : (Int × (List Int))) => r.1) ((z4, y3)) hm14 kont (L7.fin (hp1 (L7.mrep (i := 0) rfl)) (.int _))))))))))))))))))))))))
abbrev sp__law_star (K : PySem.W.Frag) : Sp := fun vs H Q _ => ∃ (X : Addr → Prop) (p__law_bag_here : Addr) (a__law_bag_here : (List Int)) (a__law_most : Int) (a__law_far : Int) (r : ((List (T2 Int Int)) × (List Int))), m__law_star a__law_bag_here a__law_most a__law_far = some r ∧ Cond K X H [.mu p__law_bag_here (ml (a__law_bag_here : (List Int))), .imm (.int a__law_most), .imm (.int a__law_far)] vs ∧ ∀ p H', Fin K X H [p__law_bag_here] [(p__law_bag_here, (ml (r.2 : (List Int))))] (.new (ml (r.1 : (List (T2 Int Int))))) (.ref p) H' → Q (.ref p) H'
theorem mk__law_star {K : PySem.W.Frag} {X : Addr → Prop} {H : Hp} {vs : List V} {Q : VK} {E : XK} {p__law_bag_here : Addr} {a__law_bag_here : (List Int)} {a__law_most : Int} {a__law_far : Int} {r : ((List (T2 Int Int)) × (List Int))} (hm : m__law_star a__law_bag_here a__law_most a__law_far = some r) (c : Cond K X H [.mu p__law_bag_here (ml (a__law_bag_here : (List Int))), .imm (.int a__law_most), .imm (.int a__law_far)] vs) (k : ∀ p H', Fin K X H [p__law_bag_here] [(p__law_bag_here, (ml (r.2 : (List Int))))] (.new (ml (r.1 : (List (T2 Int Int))))) (.ref p) H' → Q (.ref p) H') : sp__law_star K vs H Q E := ⟨X, p__law_bag_here, a__law_bag_here, a__law_most, a__law_far, r, hm, c, k⟩
abbrev n__law_star : List Str := ["_law_bag_here", "_law_most", "_law_far", "_law_spokes", "_law_shift", "_law_left", "_law_ring", "_law_k", "_law_x", "_law_y", "_law_turn", "_law_long", "_law_more"]
theorem sc__law_star : FnScope n__law_star ["_law_bag_here", "_law_most", "_law_far"] (defScope s__law_star) := ⟨rfl, rfl, rfl, by decide +kernel, rfl, by decide +kernel, by decide +kernel⟩
theorem ok__law_star (T : Txt K mg) : FnOk P w K mg base CX0 2 T.A__law_star T.D__law_star ["_law_bag_here", "_law_most", "_law_far"] (sp__law_star K) := by
  refine Fun.ok T.F__law_star sc__law_star (fun vs H Q E h => ?_) (fun cdv A outer s H vs Q E hr h => ?_)
  · obtain ⟨X, p__law_bag_here, a__law_bag_here, a__law_most, a__law_far, r, hm, c, kont⟩ := h
    exact c.len
  · obtain ⟨X, p__law_bag_here, a__law_bag_here, a__law_most, a__law_far, r, hm, c, kont⟩ := h
    refine ⟨_, (pss_cons (ps_set (i := 3) sc__law_star.nd rfl (Or.inl rfl) (pe_tup (pa_cons (pe_tup (pa_cons pe_int (pa_cons pe_int pa_nil))) (pa_cons (pe_tup (pa_cons pe_int (pa_cons pe_int pa_nil))) (pa_cons (pe_tup (pa_cons pe_int (pa_cons pe_int pa_nil))) (pa_cons (pe_tup (pa_cons pe_int (pa_cons pe_int pa_nil))) (pa_cons (pe_tup (pa_cons pe_int (pa_cons pe_int pa_nil))) (pa_cons (pe_tup (pa_cons pe_int (pa_cons pe_int pa_nil))) pa_nil))))))))
      (pss_cons (ps_set (i := 4) sc__law_star.nd rfl (Or.inl rfl) (pe_call (ok__law_draw T) hr (by rfl) T.g__law_draw T.F__law_draw.kp T.b__law_draw .nil pass0 (pa_cons (pv 0) (pa_cons pe_int pa_nil))))
      (pss_cons (ps_set (i := 5) sc__law_star.nd rfl (Or.inl rfl) (pe_op op_sub (pv 1) pe_int))
      (pss_cons (ps_set (i := 6) sc__law_star.nd rfl (Or.inl rfl) (pe_lst pa_nil))
      (pss_cons (ps_for PassesOwn.never rfl (pi_range1 (by rfl) T.z_range (pa_cons pe_int pa_nil)) (pg_name (i := 7) sc__law_star.nd rfl (Or.inl rfl)) (pss_cons (ps_asg (pe_ix (r := rIxT K) ix_tup (pv 3) (pe_op op_mod (pv 7) pe_int) (fun _ _ => rfl)) (pg_tup rfl (pgs_cons (pg_name (i := 8) sc__law_star.nd rfl (Or.inl rfl)) (pgs_cons (pg_name (i := 9) sc__law_star.nd rfl (Or.inl rfl)) pgs_nil))))
      (pss_cons (ps_for PassesOwn.never rfl (pi_range1 (by rfl) T.z_range (pa_cons (pe_op op_fdiv (pv 7) pe_int) pa_nil)) (pg_name (i := 10) sc__law_star.nd rfl (Or.inl rfl)) (pss_one (ps_par (i := 8) (j := 9) (by rfl) sc__law_star.nd rfl rfl (by decide) rfl rfl (pa_cons (pe_un un_neg (pv 9)) (pa_cons (pv 8) pa_nil)) (by rfl))))
      (pss_cons (ps_set (i := 11) sc__law_star.nd rfl (Or.inl rfl) (pe_op op_add pe_int (pe_call (ok__law_draw T) hr (by rfl) T.g__law_draw T.F__law_draw.kp T.b__law_draw .nil pass0 (pa_cons (pv 0) (pa_cons (pv 2) pa_nil)))))
      (pss_cons (ps_set (i := 12) sc__law_star.nd rfl (Or.inl rfl) (pe_and (pe_cmpR op_gt (pv 5) pe_int (nomark _)) (pe_one (pe_cmpR op_lt (pe_call (ok__law_draw T) hr (by rfl) T.g__law_draw T.F__law_draw.kp T.b__law_draw .nil pass0 (pa_cons (pv 0) (pa_cons pe_int pa_nil))) (pv 1) (nomark _)))))
      (pss_one (ps_if (pt_cmpR op_eq (pe_op op_mod (pv 7) pe_int) (pv 4) (nomark _)) (pss_one (ps_expr (pe_bm PySem.F.plainAttrs_list PySem.F.slot_list_append PySem.F.type_list_append mt_append (pv 6) (pa_cons (pe_tup (pa_cons (pe_op op_mulW (pv 11) (pv 8)) (pa_cons (pe_op op_mulW (pv 11) (pv 9)) pa_nil))) pa_nil)))) (pss_one (ps_if (pt_val (pv 12)) (pss_cons (ps_expr (pe_bm PySem.F.plainAttrs_list PySem.F.slot_list_append PySem.F.type_list_append mt_append (pv 6) (pa_cons (pe_tup (pa_cons (pe_op op_mulW (pv 11) (pv 8)) (pa_cons (pe_op op_mulW (pv 11) (pv 9)) pa_nil))) pa_nil)))
      (pss_one (ps_aug (i := 5) sc__law_star.nd rfl (Or.inl rfl) pe_int ip_sub))) pss_nil)))))))))
      (pss_one (ps_ret (pv 6)))))))), ?_⟩
    have L0 : Lo ⟨K, X, H, muts [.mu p__law_bag_here (ml (a__law_bag_here : (List Int))), .imm (.int a__law_most), .imm (.int a__law_far)], n__law_star.length⟩ X H (L2.start n__law_star vs) [.mu p__law_bag_here (ml (a__law_bag_here : (List Int))), .imm (.int a__law_most), .imm (.int a__law_far), .unk, .unk, .unk, .unk, .unk, .unk, .unk, .unk, .unk, .unk] := c.start n__law_star (show (3 : Nat) ≤ 13 by decide)
    unfold m__law_star at hm
    refine x_seq (x_asg (x_tup (x_cons (x_tup (x_cons (x_c (x_cons (x_c (x_nil (x_mkT L0 (.cons (.int _) (.cons (.int _) .nil)) (show (2 : Nat) ≤ 16777216 by decide) fun v1 _ L1 le1 r1 => have r2 : Rep _ _ _ (enc ((T2.mk 5 0) : (T2 Int Int))) v1 := r1; x_cons (x_tup (x_cons (x_c (x_cons (x_c (x_nil (x_mkT L1 (.cons (.int _) (.cons (.int _) .nil)) (show (2 : Nat) ≤ 16777216 by decide) fun v2 _ L2 le2 r3 => have r4 := le2 _ _ r2; have r5 : Rep _ _ _ (enc ((T2.mk 5 1) : (T2 Int Int))) v2 := r3; x_cons (x_tup (x_cons (x_c (x_cons (x_c (x_nil (x_mkT L2 (.cons (.int _) (.cons (.int _) .nil)) (show (2 : Nat) ≤ 16777216 by decide) fun v3 _ L3 le3 r6 => have r7 := le3 _ _ r4; have r8 := le3 _ _ r5; have r9 : Rep _ _ _ (enc ((T2.mk 5 2) : (T2 Int Int))) v3 := r6; x_cons (x_tup (x_cons (x_c (x_cons (x_c (x_nil (x_mkT L3 (.cons (.int _) (.cons (.int _) .nil)) (show (2 : Nat) ≤ 16777216 by decide) fun v4 _ L4 le4 r10 => have r11 := le4 _ _ r7; have r12 := le4 _ _ r8; have r13 := le4 _ _ r9; have r14 : Rep _ _ _ (enc ((T2.mk 4 3) : (T2 Int Int))) v4 := r10; x_cons (x_tup (x_cons (x_c (x_cons (x_c (x_nil (x_mkT L4 (.cons (.int _) (.cons (.int _) .nil)) (show (2 : Nat) ≤ 16777216 by decide) fun v5 _ L5 le5 r15 => have r16 := le5 _ _ r11; have r17 := le5 _ _ r12; have r18 := le5 _ _ r13; have r19 := le5 _ _ r14; have r20 : Rep _ _ _ (enc ((T2.mk 3 4) : (T2 Int Int))) v5 := r15; x_cons (x_tup (x_cons (x_c (x_cons (x_c (x_nil (x_mkT L5 (.cons (.int _) (.cons (.int _) .nil)) (show (2 : Nat) ≤ 16777216 by decide) fun v6 _ L6 le6 r21 => have r22 := le6 _ _ r16; have r23 := le6 _ _ r17; have r24 := le6 _ _ r18; have r25 := le6 _ _ r19; have r26 := le6 _ _ r20; have r27 : Rep _ _ _ (enc ((T2.mk 2 5) : (T2 Int Int))) v6 := r21; x_nil (x_mkT L6 (.cons r22 (.cons r23 (.cons r24 (.cons r25 (.cons r26 (.cons r27 .nil)))))) (show (6 : Nat) ≤ 16777216 by decide) fun v7 _ L7 le7 r28 => have r29 : Rep _ _ _ (enc ((T6.mk ((T2.mk 5 0)) ((T2.mk 5 1)) ((T2.mk 5 2)) ((T2.mk 4 3)) ((T2.mk 3 4)) ((T2.mk 2 5))) : (T6 (T2 Int Int) (T2 Int Int) (T2 Int Int) (T2 Int Int) (T2 Int Int) (T2 Int Int)))) v7 := r28; x_bset (x0 := (T6.mk ((T2.mk 5 0)) ((T2.mk 5 1)) ((T2.mk 5 2)) ((T2.mk 4 3)) ((T2.mk 3 4)) ((T2.mk 2 5)))) (d := fun spokes_1 => (enc (spokes_1 : (T6 (T2 Int Int) (T2 Int Int) (T2 Int Int) (T2 Int Int) (T2 Int Int) (T2 Int Int))))) (Γf := fun spokes_1 => [.mu p__law_bag_here (ml (a__law_bag_here : (List Int))), .imm (.int a__law_most), .imm (.int a__law_far), .imm (enc (spokes_1 : (T6 (T2 Int Int) (T2 Int Int) (T2 Int Int) (T2 Int Int) (T2 Int Int) (T2 Int Int)))), .unk, .unk, .unk, .unk, .unk, .unk, .unk, .unk, .unk]) hm L7 r29 (show (3 : Nat) < 13 by decide) (fun _ => rfl) fun spokes_1 _ hm1 L8 => ?_))))))))))))))))))))))))))))))))))))))))))))))
    refine x_seq (x_asg (x_call (x_cons (x_vm L8 rfl (x_cons (x_c (x_nil (obE hm1 fun z1 hz1 hm2 => mk__law_draw hz1 (L8.cond1 (i := 0) (.m (L8.mrep (i := 0) rfl) (.im (.int _) .nil)) rfl rfl rfl) fun _ F1 => k1 L8 F1 (i := 0) (Γ' := [.mu p__law_bag_here (ml (z1.2 : (List Int))), .imm (.int a__law_most), .imm (.int a__law_far), .imm (enc (spokes_1 : (T6 (T2 Int Int) (T2 Int Int) (T2 Int Int) (T2 Int Int) (T2 Int Int) (T2 Int Int)))), .unk, .unk, .unk, .unk, .unk, .unk, .unk, .unk, .unk]) rfl rfl rfl fun L9 le8 => x_set (d := (.int z1.1)) (Γ' := [.mu p__law_bag_here (ml (z1.2 : (List Int))), .imm (.int a__law_most), .imm (.int a__law_far), .imm (enc (spokes_1 : (T6 (T2 Int Int) (T2 Int Int) (T2 Int Int) (T2 Int Int) (T2 Int Int) (T2 Int Int)))), .imm (.int z1.1), .unk, .unk, .unk, .unk, .unk, .unk, .unk, .unk]) L9 (.int _) (show (4 : Nat) < 13 by decide) rfl fun _ L10 => ?_))))))))
    refine x_seq (x_asg (x_op (x_vI (x := a__law_most) L10 rfl (x_c (x_r0 (x_bset (x0 := (a__law_most - 3)) (d := fun left_1 => (.int left_1)) (Γf := fun left_1 => [.mu p__law_bag_here (ml (z1.2 : (List Int))), .imm (.int a__law_most), .imm (.int a__law_far), .imm (enc (spokes_1 : (T6 (T2 Int Int) (T2 Int Int) (T2 Int Int) (T2 Int Int) (T2 Int Int) (T2 Int Int)))), .imm (.int z1.1), .imm (.int left_1), .unk, .unk, .unk, .unk, .unk, .unk, .unk]) hm2 L10 (.int _) (show (5 : Nat) < 13 by decide) (fun _ => rfl) fun left_1 _ hm3 L11 => ?_))))))
    refine x_seq (x_asg (x_lst (x_nil (x_mkN L11 .nil (show (0 : Nat) ≤ 16777216 by decide) fun p1 _ _ h01 hx1 L12 le9 => x_setN (Γ := [.mu p__law_bag_here (ml (z1.2 : (List Int))), .imm (.int a__law_most), .imm (.int a__law_far), .imm (enc (spokes_1 : (T6 (T2 Int Int) (T2 Int Int) (T2 Int Int) (T2 Int Int) (T2 Int Int) (T2 Int Int)))), .imm (.int z1.1), .imm (.int left_1), .unk, .unk, .unk, .unk, .unk, .unk, .unk]) (p := p1) (o := (ml (([] : (List (T2 Int Int))) : (List (T2 Int Int))))) (Γ' := [.mu p__law_bag_here (ml (z1.2 : (List Int))), .imm (.int a__law_most), .imm (.int a__law_far), .imm (enc (spokes_1 : (T6 (T2 Int Int) (T2 Int Int) (T2 Int Int) (T2 Int Int) (T2 Int Int) (T2 Int Int)))), .imm (.int z1.1), .imm (.int left_1), .mu p1 (ml (([] : (List (T2 Int Int))) : (List (T2 Int Int)))), .unk, .unk, .unk, .unk, .unk, .unk]) L12 (show (6 : Nat) < 13 by decide) (show (6 : Nat) < 13 by decide) rfl fun _ L13 => ?_))))
    refine x_seq (x_tforR1 (x_cons (x_c (x_nil (x_r1c (n := 24) (by decide) (x_foR (G := (fun (s1 : ((List Int) × Int × (List (T2 Int Int)))) => [.mu p__law_bag_here (ml (s1.1 : (List Int))), .imm (.int a__law_most), .imm (.int a__law_far), .imm (enc (spokes_1 : (T6 (T2 Int Int) (T2 Int Int) (T2 Int Int) (T2 Int Int) (T2 Int Int) (T2 Int Int)))), .imm (.int z1.1), .imm (.int s1.2.1), .mu p1 (ml (s1.2.2 : (List (T2 Int Int)))), .unk, .unk, .unk, .unk, .unk, .unk])) (s0 := (z1.2, left_1, ([] : (List (T2 Int Int))))) (L13.weak (Γ' := [.mu p__law_bag_here (ml (z1.2 : (List Int))), .imm (.int a__law_most), .imm (.int a__law_far), .imm (enc (spokes_1 : (T6 (T2 Int Int) (T2 Int Int) (T2 Int Int) (T2 Int Int) (T2 Int Int) (T2 Int Int)))), .imm (.int z1.1), .imm (.int left_1), .mu p1 (ml (([] : (List (T2 Int Int))) : (List (T2 Int Int)))), .unk, .unk, .unk, .unk, .unk, .unk]) (.k (.k (.k (.k (.k (.k (.k (.k (.k (.k (.k (.k (.k .e)))))))))))))) (fun _ _ => rfl) hm3 (fun x1 s1 H1 _ u1 _ _ _ _ _ hm4 L14 r30 hN1 hC1 => ?_) (fun s2 _ _ hm5 L15 => ?_)))))))
    · refine x_set (d := (.int x1)) (Γ' := [.mu p__law_bag_here (ml (s1.1 : (List Int))), .imm (.int a__law_most), .imm (.int a__law_far), .imm (enc (spokes_1 : (T6 (T2 Int Int) (T2 Int Int) (T2 Int Int) (T2 Int Int) (T2 Int Int) (T2 Int Int)))), .imm (.int z1.1), .imm (.int s1.2.1), .mu p1 (ml (s1.2.2 : (List (T2 Int Int)))), .imm (.int x1), .unk, .unk, .unk, .unk, .unk]) L14 r30 (show (7 : Nat) < 13 by decide) rfl fun _ L16 => ?_
      refine x_seq (x_asg (x_op (x_vd (d := (enc (spokes_1 : (T6 (T2 Int Int) (T2 Int Int) (T2 Int Int) (T2 Int Int) (T2 Int Int) (T2 Int Int))))) L16 rfl fun v9 r31 => x_op (x_vI (x := x1) L16 rfl (x_c (x_modc (by decide) (x_ixTv (xs := [spokes_1.a, spokes_1.b, spokes_1.c, spokes_1.d, spokes_1.e, spokes_1.f]) r31 hm4 fun x2 v10 hm7 r32 => x_gTup r32 rfl fun vs1 rs1 => x_gCons rs1 fun v11 _ r33 rs2 => x_set (d := (.int x2.a)) (Γ' := [.mu p__law_bag_here (ml (s1.1 : (List Int))), .imm (.int a__law_most), .imm (.int a__law_far), .imm (enc (spokes_1 : (T6 (T2 Int Int) (T2 Int Int) (T2 Int Int) (T2 Int Int) (T2 Int Int) (T2 Int Int)))), .imm (.int z1.1), .imm (.int s1.2.1), .mu p1 (ml (s1.2.2 : (List (T2 Int Int)))), .imm (.int x1), .imm (.int x2.a), .unk, .unk, .unk, .unk]) L16 r33 (show (8 : Nat) < 13 by decide) rfl fun _ L17 => x_gCons rs2 fun v12 _ r34 rs3 => x_set (d := (.int x2.b)) (Γ' := [.mu p__law_bag_here (ml (s1.1 : (List Int))), .imm (.int a__law_most), .imm (.int a__law_far), .imm (enc (spokes_1 : (T6 (T2 Int Int) (T2 Int Int) (T2 Int Int) (T2 Int Int) (T2 Int Int) (T2 Int Int)))), .imm (.int z1.1), .imm (.int s1.2.1), .mu p1 (ml (s1.2.2 : (List (T2 Int Int)))), .imm (.int x1), .imm (.int x2.a), .imm (.int x2.b), .unk, .unk, .unk]) L17 r34 (show (9 : Nat) < 13 by decide) rfl fun _ L18 => x_gNil rs3 (?_))))))))
      refine x_seq (x_tforR1 (x_cons (x_op (x_vI (x := x1) L18 rfl (x_c (x_divc ⟨by decide, by decide⟩ (x_nil (x_r1 hm7 fun hm8 => x_foR (G := (fun (s3 : (Int × Int)) => [.mu p__law_bag_here (ml (s1.1 : (List Int))), .imm (.int a__law_most), .imm (.int a__law_far), .imm (enc (spokes_1 : (T6 (T2 Int Int) (T2 Int Int) (T2 Int Int) (T2 Int Int) (T2 Int Int) (T2 Int Int)))), .imm (.int z1.1), .imm (.int s1.2.1), .mu p1 (ml (s1.2.2 : (List (T2 Int Int)))), .imm (.int x1), .imm (.int s3.1), .imm (.int s3.2), .unk, .unk, .unk])) (s0 := (x2.a, x2.b)) (L18.weak (Γ' := [.mu p__law_bag_here (ml (s1.1 : (List Int))), .imm (.int a__law_most), .imm (.int a__law_far), .imm (enc (spokes_1 : (T6 (T2 Int Int) (T2 Int Int) (T2 Int Int) (T2 Int Int) (T2 Int Int) (T2 Int Int)))), .imm (.int z1.1), .imm (.int s1.2.1), .mu p1 (ml (s1.2.2 : (List (T2 Int Int)))), .imm (.int x1), .imm (.int x2.a), .imm (.int x2.b), .unk, .unk, .unk]) (.k (.k (.k (.k (.k (.k (.k (.k (.k (.k (.k (.k (.k .e)))))))))))))) (fun _ _ => rfl) hm8 (fun x3 s3 H2 _ u2 _ _ _ _ _ hm9 L19 r35 hN2 hC2 => ?_) (fun s4 _ _ hm10 L20 => ?_)))))))))
      · refine x_set (d := (.int x3)) (Γ' := [.mu p__law_bag_here (ml (s1.1 : (List Int))), .imm (.int a__law_most), .imm (.int a__law_far), .imm (enc (spokes_1 : (T6 (T2 Int Int) (T2 Int Int) (T2 Int Int) (T2 Int Int) (T2 Int Int) (T2 Int Int)))), .imm (.int z1.1), .imm (.int s1.2.1), .mu p1 (ml (s1.2.2 : (List (T2 Int Int)))), .imm (.int x1), .imm (.int s3.1), .imm (.int s3.2), .imm (.int x3), .unk, .unk]) L19 r35 (show (10 : Nat) < 13 by decide) rfl fun _ L21 => ?_
        refine x_par (x_cons (x_un (x_vI (x := s3.2) L21 rfl (x_u (x_cons (x_vI (x := s3.1) L21 rfl (x_nil (x_par2 (x := (.int ((-s3.2)))) (y := (.int s3.1)) (Γ' := [.mu p__law_bag_here (ml (s1.1 : (List Int))), .imm (.int a__law_most), .imm (.int a__law_far), .imm (enc (spokes_1 : (T6 (T2 Int Int) (T2 Int Int) (T2 Int Int) (T2 Int Int) (T2 Int Int) (T2 Int Int)))), .imm (.int z1.1), .imm (.int s1.2.1), .mu p1 (ml (s1.2.2 : (List (T2 Int Int)))), .imm (.int x1), .imm (.int ((-s3.2))), .imm (.int s3.1), .imm (.int x3), .unk, .unk]) L21 (.int _) (.int _) (show (8 : Nat) < 13 by decide) (show (9 : Nat) < 13 by decide) rfl fun _ L22 => ?_))))))))
        exact x_leaf (G := (fun (s3 : (Int × Int)) => [.mu p__law_bag_here (ml (s1.1 : (List Int))), .imm (.int a__law_most), .imm (.int a__law_far), .imm (enc (spokes_1 : (T6 (T2 Int Int) (T2 Int Int) (T2 Int Int) (T2 Int Int) (T2 Int Int) (T2 Int Int)))), .imm (.int z1.1), .imm (.int s1.2.1), .mu p1 (ml (s1.2.2 : (List (T2 Int Int)))), .imm (.int x1), .imm (.int s3.1), .imm (.int s3.2), .unk, .unk, .unk])) (e := ((-s3.2), s3.1)) hm9 hN2 (L22.weak (Γ' := [.mu p__law_bag_here (ml (s1.1 : (List Int))), .imm (.int a__law_most), .imm (.int a__law_far), .imm (enc (spokes_1 : (T6 (T2 Int Int) (T2 Int Int) (T2 Int Int) (T2 Int Int) (T2 Int Int) (T2 Int Int)))), .imm (.int z1.1), .imm (.int s1.2.1), .mu p1 (ml (s1.2.2 : (List (T2 Int Int)))), .imm (.int x1), .imm (.int ((-s3.2))), .imm (.int s3.1), .unk, .unk, .unk]) (.k (.k (.k (.k (.k (.k (.k (.k (.k (.k (.d (.k (.k .e))))))))))))))
      refine x_seq (x_asg (x_op (x_c (x_call (x_cons (x_vm L20 rfl (x_cons (x_vI (x := a__law_far) L20 rfl (x_nil (obE hm10 fun z2 hz2 hm12 => mk__law_draw hz2 (L20.cond1 (i := 0) (.m (L20.mrep (i := 0) rfl) (.im (.int _) .nil)) rfl rfl rfl) fun _ F4 => k1 L20 F4 (i := 0) (Γ' := [.mu p__law_bag_here (ml (z2.2 : (List Int))), .imm (.int a__law_most), .imm (.int a__law_far), .imm (enc (spokes_1 : (T6 (T2 Int Int) (T2 Int Int) (T2 Int Int) (T2 Int Int) (T2 Int Int) (T2 Int Int)))), .imm (.int z1.1), .imm (.int s1.2.1), .mu p1 (ml (s1.2.2 : (List (T2 Int Int)))), .imm (.int x1), .imm (.int s4.1), .imm (.int s4.2), .unk, .unk, .unk]) rfl rfl rfl fun L23 le10 => x_r0 (x_bset (x0 := (1 + z2.1)) (d := fun long_1 => (.int long_1)) (Γf := fun long_1 => [.mu p__law_bag_here (ml (z2.2 : (List Int))), .imm (.int a__law_most), .imm (.int a__law_far), .imm (enc (spokes_1 : (T6 (T2 Int Int) (T2 Int Int) (T2 Int Int) (T2 Int Int) (T2 Int Int) (T2 Int Int)))), .imm (.int z1.1), .imm (.int s1.2.1), .mu p1 (ml (s1.2.2 : (List (T2 Int Int)))), .imm (.int x1), .imm (.int s4.1), .imm (.int s4.2), .unk, .imm (.int long_1), .unk]) hm12 L23 (.int _) (show (11 : Nat) < 13 by decide) (fun _ => rfl) fun long_1 _ hm13 L24 => ?_)))))))))))
      refine x_seq (x_asg (x_andV (x_op (x_vI (x := s1.2.1) L24 rfl (x_c (x_r0 (x_kb (x_andVG (G := (fun (s5 : (List Int)) => [.mu p__law_bag_here (ml (s5 : (List Int))), .imm (.int a__law_most), .imm (.int a__law_far), .imm (enc (spokes_1 : (T6 (T2 Int Int) (T2 Int Int) (T2 Int Int) (T2 Int Int) (T2 Int Int) (T2 Int Int)))), .imm (.int z1.1), .imm (.int s1.2.1), .mu p1 (ml (s1.2.2 : (List (T2 Int Int)))), .imm (.int x1), .imm (.int s4.1), .imm (.int s4.2), .unk, .imm (.int long_1), .unk])) (s0 := z2.2) L24 hm13 (fun _ hm15 _ hq => x_op (x_call (x_cons (x_vm L24 rfl (x_cons (x_c (x_nil (obE hm15 fun z4 hz4 hm16 => mk__law_draw hz4 (L24.cond1 (i := 0) (.m (L24.mrep (i := 0) rfl) (.im (.int _) .nil)) rfl rfl rfl) fun _ F6 => k1 L24 F6 (i := 0) (Γ' := [.mu p__law_bag_here (ml (z4.2 : (List Int))), .imm (.int a__law_most), .imm (.int a__law_far), .imm (enc (spokes_1 : (T6 (T2 Int Int) (T2 Int Int) (T2 Int Int) (T2 Int Int) (T2 Int Int) (T2 Int Int)))), .imm (.int z1.1), .imm (.int s1.2.1), .mu p1 (ml (s1.2.2 : (List (T2 Int Int)))), .imm (.int x1), .imm (.int s4.1), .imm (.int s4.2), .unk, .imm (.int long_1), .unk]) rfl rfl rfl fun L26 le12 => x_vI (x := a__law_most) L26 rfl (x_r0 (x_lfVG (G := (fun (s5 : (List Int)) => [.mu p__law_bag_here (ml (s5 : (List Int))), .imm (.int a__law_most), .imm (.int a__law_far), .imm (enc (spokes_1 : (T6 (T2 Int Int) (T2 Int Int) (T2 Int Int) (T2 Int Int) (T2 Int Int) (T2 Int Int)))), .imm (.int z1.1), .imm (.int s1.2.1), .mu p1 (ml (s1.2.2 : (List (T2 Int Int)))), .imm (.int x1), .imm (.int s4.1), .imm (.int s4.2), .unk, .imm (.int long_1), .unk])) (e := z4.2) hm16 hq L26)))))))))) fun b1 _ _ hm17 L27 => x_set (d := (.bool b1.1)) (Γ' := [.mu p__law_bag_here (ml (b1.2 : (List Int))), .imm (.int a__law_most), .imm (.int a__law_far), .imm (enc (spokes_1 : (T6 (T2 Int Int) (T2 Int Int) (T2 Int Int) (T2 Int Int) (T2 Int Int) (T2 Int Int)))), .imm (.int z1.1), .imm (.int s1.2.1), .mu p1 (ml (s1.2.2 : (List (T2 Int Int)))), .imm (.int x1), .imm (.int s4.1), .imm (.int s4.2), .unk, .imm (.int long_1), .imm (.bool b1.1)]) L27 (.bl _) (show (12 : Nat) < 13 by decide) rfl fun _ L28 => ?_))))))))
      refine x_ifS (x_test (x_op (x_op (x_vI (x := x1) L28 rfl (x_c (x_modc (by decide) (x_vI (x := z1.1) L28 rfl (x_eqi (x_kb (x_join (G := (fun (s6 : (Int × (List (T2 Int Int)))) => [.mu p__law_bag_here (ml (b1.2 : (List Int))), .imm (.int a__law_most), .imm (.int a__law_far), .imm (enc (spokes_1 : (T6 (T2 Int Int) (T2 Int Int) (T2 Int Int) (T2 Int Int) (T2 Int Int) (T2 Int Int)))), .imm (.int z1.1), .imm (.int s6.1), .mu p1 (ml (s6.2 : (List (T2 Int Int)))), .imm (.int x1), .imm (.int s4.1), .imm (.int s4.2), .unk, .imm (.int long_1), .imm (.bool b1.1)])) L28 hm17 (fun _ hm18 _ hN3 => ?_) (fun _ hm18 _ hN3 => ?_) fun s6 X1 _ _ hm19 L29 => ?_))))))))))
      · refine x_drop (x_bm (x_vm L28 rfl (x_tyM L28 (i := 6) rfl (?_))))
        refine x_cons (x_tup (x_cons (x_op (x_vI (x := long_1) L28 rfl (x_vI (x := s4.1) L28 rfl (x_mul hm18 fun z5 _ hm20 => x_cons (x_op (x_vI (x := long_1) L28 rfl (x_vI (x := s4.2) L28 rfl (x_mul hm20 fun z6 _ hm21 => x_nil (x_mkT L28 (.cons (.int _) (.cons (.int _) .nil)) (show (2 : Nat) ≤ 16777216 by decide) fun v16 _ L30 le13 r36 => have r37 : Rep _ _ _ (enc ((T2.mk z5 z6) : (T2 Int Int))) v16 := r36; x_nil (x_append (xs := s1.2.2) (x := (T2.mk z5 z6)) (i := 6) (Γ' := [.mu p__law_bag_here (ml (b1.2 : (List Int))), .imm (.int a__law_most), .imm (.int a__law_far), .imm (enc (spokes_1 : (T6 (T2 Int Int) (T2 Int Int) (T2 Int Int) (T2 Int Int) (T2 Int Int) (T2 Int Int)))), .imm (.int z1.1), .imm (.int s1.2.1), .mu p1 (ml ((s1.2.2 ++ [(T2.mk z5 z6)]) : (List (T2 Int Int)))), .imm (.int x1), .imm (.int s4.1), .imm (.int s4.2), .unk, .imm (.int long_1), .imm (.bool b1.1)]) L30 rfl hm21 r37 rfl fun _ hm22 L31 le14 => ?_))))))))))))
        exact x_leaf (G := (fun (s6 : (Int × (List (T2 Int Int)))) => [.mu p__law_bag_here (ml (b1.2 : (List Int))), .imm (.int a__law_most), .imm (.int a__law_far), .imm (enc (spokes_1 : (T6 (T2 Int Int) (T2 Int Int) (T2 Int Int) (T2 Int Int) (T2 Int Int) (T2 Int Int)))), .imm (.int z1.1), .imm (.int s6.1), .mu p1 (ml (s6.2 : (List (T2 Int Int)))), .imm (.int x1), .imm (.int s4.1), .imm (.int s4.2), .unk, .imm (.int long_1), .imm (.bool b1.1)])) (e := (s1.2.1, (s1.2.2 ++ [(T2.mk z5 z6)]))) hm22 hN3 (L31.weak (Γ' := [.mu p__law_bag_here (ml (b1.2 : (List Int))), .imm (.int a__law_most), .imm (.int a__law_far), .imm (enc (spokes_1 : (T6 (T2 Int Int) (T2 Int Int) (T2 Int Int) (T2 Int Int) (T2 Int Int) (T2 Int Int)))), .imm (.int z1.1), .imm (.int s1.2.1), .mu p1 (ml ((s1.2.2 ++ [(T2.mk z5 z6)]) : (List (T2 Int Int)))), .imm (.int x1), .imm (.int s4.1), .imm (.int s4.2), .unk, .imm (.int long_1), .imm (.bool b1.1)]) (.k (.k (.k (.k (.k (.k (.k (.k (.k (.k (.k (.k (.k .e))))))))))))))
      · refine x_ifS (x_tB (x_vB (x := b1.1) L28 rfl (x_kb (x_join (G := (fun (s7 : (Int × (List (T2 Int Int)))) => [.mu p__law_bag_here (ml (b1.2 : (List Int))), .imm (.int a__law_most), .imm (.int a__law_far), .imm (enc (spokes_1 : (T6 (T2 Int Int) (T2 Int Int) (T2 Int Int) (T2 Int Int) (T2 Int Int) (T2 Int Int)))), .imm (.int z1.1), .imm (.int s7.1), .mu p1 (ml (s7.2 : (List (T2 Int Int)))), .imm (.int x1), .imm (.int s4.1), .imm (.int s4.2), .unk, .imm (.int long_1), .imm (.bool b1.1)])) L28 hm18 (fun _ hm23 _ hN4 => ?_) (fun _ hm23 _ hN4 => ?_) fun s7 X2 _ _ hm24 L32 => ?_))))
        · refine x_seq (x_drop (x_bm (x_vm L28 rfl (x_tyM L28 (i := 6) rfl (?_)))))
          refine x_cons (x_tup (x_cons (x_op (x_vI (x := long_1) L28 rfl (x_vI (x := s4.1) L28 rfl (x_mul hm23 fun z7 _ hm25 => x_cons (x_op (x_vI (x := long_1) L28 rfl (x_vI (x := s4.2) L28 rfl (x_mul hm25 fun z8 _ hm26 => x_nil (x_mkT L28 (.cons (.int _) (.cons (.int _) .nil)) (show (2 : Nat) ≤ 16777216 by decide) fun v17 _ L33 le15 r38 => have r39 : Rep _ _ _ (enc ((T2.mk z7 z8) : (T2 Int Int))) v17 := r38; x_nil (x_append (xs := s1.2.2) (x := (T2.mk z7 z8)) (i := 6) (Γ' := [.mu p__law_bag_here (ml (b1.2 : (List Int))), .imm (.int a__law_most), .imm (.int a__law_far), .imm (enc (spokes_1 : (T6 (T2 Int Int) (T2 Int Int) (T2 Int Int) (T2 Int Int) (T2 Int Int) (T2 Int Int)))), .imm (.int z1.1), .imm (.int s1.2.1), .mu p1 (ml ((s1.2.2 ++ [(T2.mk z7 z8)]) : (List (T2 Int Int)))), .imm (.int x1), .imm (.int s4.1), .imm (.int s4.2), .unk, .imm (.int long_1), .imm (.bool b1.1)]) L33 rfl hm26 r39 rfl fun _ hm27 L34 le16 => ?_))))))))))))
          refine x_aug (x := s1.2.1) L34 rfl (x_c (x_augI (obE hm27 fun left_2 hahm28 hm28 => x_augS (z := (s1.2.1 - 1)) (Γ' := [.mu p__law_bag_here (ml (b1.2 : (List Int))), .imm (.int a__law_most), .imm (.int a__law_far), .imm (enc (spokes_1 : (T6 (T2 Int Int) (T2 Int Int) (T2 Int Int) (T2 Int Int) (T2 Int Int) (T2 Int Int)))), .imm (.int z1.1), .imm (.int left_2), .mu p1 (ml ((s1.2.2 ++ [(T2.mk z7 z8)]) : (List (T2 Int Int)))), .imm (.int x1), .imm (.int s4.1), .imm (.int s4.2), .unk, .imm (.int long_1), .imm (.bool b1.1)]) L34 (show (5 : Nat) < 13 by decide) (by cases hahm28; rfl) fun _ L35 => ?_)))
          exact x_leaf (G := (fun (s7 : (Int × (List (T2 Int Int)))) => [.mu p__law_bag_here (ml (b1.2 : (List Int))), .imm (.int a__law_most), .imm (.int a__law_far), .imm (enc (spokes_1 : (T6 (T2 Int Int) (T2 Int Int) (T2 Int Int) (T2 Int Int) (T2 Int Int) (T2 Int Int)))), .imm (.int z1.1), .imm (.int s7.1), .mu p1 (ml (s7.2 : (List (T2 Int Int)))), .imm (.int x1), .imm (.int s4.1), .imm (.int s4.2), .unk, .imm (.int long_1), .imm (.bool b1.1)])) (e := (left_2, (s1.2.2 ++ [(T2.mk z7 z8)]))) hm28 hN4 (L35.weak (Γ' := [.mu p__law_bag_here (ml (b1.2 : (List Int))), .imm (.int a__law_most), .imm (.int a__law_far), .imm (enc (spokes_1 : (T6 (T2 Int Int) (T2 Int Int) (T2 Int Int) (T2 Int Int) (T2 Int Int) (T2 Int Int)))), .imm (.int z1.1), .imm (.int left_2), .mu p1 (ml ((s1.2.2 ++ [(T2.mk z7 z8)]) : (List (T2 Int Int)))), .imm (.int x1), .imm (.int s4.1), .imm (.int s4.2), .unk, .imm (.int long_1), .imm (.bool b1.1)]) (.k (.k (.k (.k (.k (.k (.k (.k (.k (.k (.k (.k (.k .e))))))))))))))
        · refine x_next ?_
          exact x_leaf (G := (fun (s7 : (Int × (List (T2 Int Int)))) => [.mu p__law_bag_here (ml (b1.2 : (List Int))), .imm (.int a__law_most), .imm (.int a__law_far), .imm (enc (spokes_1 : (T6 (T2 Int Int) (T2 Int Int) (T2 Int Int) (T2 Int Int) (T2 Int Int) (T2 Int Int)))), .imm (.int z1.1), .imm (.int s7.1), .mu p1 (ml (s7.2 : (List (T2 Int Int)))), .imm (.int x1), .imm (.int s4.1), .imm (.int s4.2), .unk, .imm (.int long_1), .imm (.bool b1.1)])) (e := (s1.2.1, s1.2.2)) hm23 hN4 (L28.weak (Γ' := [.mu p__law_bag_here (ml (b1.2 : (List Int))), .imm (.int a__law_most), .imm (.int a__law_far), .imm (enc (spokes_1 : (T6 (T2 Int Int) (T2 Int Int) (T2 Int Int) (T2 Int Int) (T2 Int Int) (T2 Int Int)))), .imm (.int z1.1), .imm (.int s1.2.1), .mu p1 (ml (s1.2.2 : (List (T2 Int Int)))), .imm (.int x1), .imm (.int s4.1), .imm (.int s4.2), .unk, .imm (.int long_1), .imm (.bool b1.1)]) (.k (.k (.k (.k (.k (.k (.k (.k (.k (.k (.k (.k (.k .e))))))))))))))
        exact x_leaf (G := (fun (s6 : (Int × (List (T2 Int Int)))) => [.mu p__law_bag_here (ml (b1.2 : (List Int))), .imm (.int a__law_most), .imm (.int a__law_far), .imm (enc (spokes_1 : (T6 (T2 Int Int) (T2 Int Int) (T2 Int Int) (T2 Int Int) (T2 Int Int) (T2 Int Int)))), .imm (.int z1.1), .imm (.int s6.1), .mu p1 (ml (s6.2 : (List (T2 Int Int)))), .imm (.int x1), .imm (.int s4.1), .imm (.int s4.2), .unk, .imm (.int long_1), .imm (.bool b1.1)])) (e := (s7.1, s7.2)) hm24 hN3 (L32.weak (Γ' := [.mu p__law_bag_here (ml (b1.2 : (List Int))), .imm (.int a__law_most), .imm (.int a__law_far), .imm (enc (spokes_1 : (T6 (T2 Int Int) (T2 Int Int) (T2 Int Int) (T2 Int Int) (T2 Int Int) (T2 Int Int)))), .imm (.int z1.1), .imm (.int s7.1), .mu p1 (ml (s7.2 : (List (T2 Int Int)))), .imm (.int x1), .imm (.int s4.1), .imm (.int s4.2), .unk, .imm (.int long_1), .imm (.bool b1.1)]) (.k (.k (.k (.k (.k (.k (.k (.k (.k (.k (.k (.k (.k .e))))))))))))))
      exact x_leaf (G := (fun (s1 : ((List Int) × Int × (List (T2 Int Int)))) => [.mu p__law_bag_here (ml (s1.1 : (List Int))), .imm (.int a__law_most), .imm (.int a__law_far), .imm (enc (spokes_1 : (T6 (T2 Int Int) (T2 Int Int) (T2 Int Int) (T2 Int Int) (T2 Int Int) (T2 Int Int)))), .imm (.int z1.1), .imm (.int s1.2.1), .mu p1 (ml (s1.2.2 : (List (T2 Int Int)))), .unk, .unk, .unk, .unk, .unk, .unk])) (e := (b1.2, s6.1, s6.2)) hm19 hN1 (L29.weak (Γ' := [.mu p__law_bag_here (ml (b1.2 : (List Int))), .imm (.int a__law_most), .imm (.int a__law_far), .imm (enc (spokes_1 : (T6 (T2 Int Int) (T2 Int Int) (T2 Int Int) (T2 Int Int) (T2 Int Int) (T2 Int Int)))), .imm (.int z1.1), .imm (.int s6.1), .mu p1 (ml (s6.2 : (List (T2 Int Int)))), .unk, .unk, .unk, .unk, .unk, .unk]) (.k (.k (.k (.k (.k (.k (.k (.d (.d (.d (.k (.d (.d .e))))))))))))))
    exact x_ret (x_vm L15 rfl (x_finP (Q := Q) (ps := (fun (r : ((List (T2 Int Int)) × (List Int))) => [(p__law_bag_here, (ml (r.2 : (List Int))))])) (o := fun (r : ((List (T2 Int Int)) × (List Int))) => (ml (r.1 : (List (T2 Int Int))))) (e := (s2.2.2, s2.1)) hm5 kont (L15.finM (p := p1) (i := 6) (hp1 (L15.mrep (i := 0) rfl)) rfl h01)))
abbrev sp__law_steps (K : PySem.W.Frag) : Sp := fun vs H Q _ => ∃ (X : Addr → Prop) (p__law_bag_here : Addr) (a__law_bag_here : (List Int)) (a__law_far : Int) (r : ((List (T2 Int Int)) × (List Int))), m__law_steps a__law_bag_here a__law_far = some r ∧ Cond K X H [.mu p__law_bag_here (ml (a__law_bag_here : (List Int))), .imm (.int a__law_far)] vs ∧ ∀ p H', Fin K X H [p__law_bag_here] [(p__law_bag_here, (ml (r.2 : (List Int))))] (.new (ml (r.1 : (List (T2 Int Int))))) (.ref p) H' → Q (.ref p) H'
theorem mk__law_steps {K : PySem.W.Frag} {X : Addr → Prop} {H : Hp} {vs : List V} {Q : VK} {E : XK} {p__law_bag_here : Addr} {a__law_bag_here : (List Int)} {a__law_far : Int} {r : ((List (T2 Int Int)) × (List Int))} (hm : m__law_steps a__law_bag_here a__law_far = some r) (c : Cond K X H [.mu p__law_bag_here (ml (a__law_bag_here : (List Int))), .imm (.int a__law_far)] vs) (k : ∀ p H', Fin K X H [p__law_bag_here] [(p__law_bag_here, (ml (r.2 : (List Int))))] (.new (ml (r.1 : (List (T2 Int Int))))) (.ref p) H' → Q (.ref p) H') : sp__law_steps K vs H Q E := ⟨X, p__law_bag_here, a__law_bag_here, a__law_far, r, hm, c, k⟩
abbrev n__law_steps : List Str := ["_law_bag_here", "_law_far", "_law_many", "_law_ring", "_law_k", "_law_high"]
theorem sc__law_steps : FnScope n__law_steps ["_law_bag_here", "_law_far"] (defScope s__law_steps) := ⟨rfl, rfl, rfl, by decide +kernel, rfl, by decide +kernel, by decide +kernel⟩
theorem ok__law_steps (T : Txt K mg) : FnOk P w K mg base CX0 2 T.A__law_steps T.D__law_steps ["_law_bag_here", "_law_far"] (sp__law_steps K) := by
  refine Fun.ok T.F__law_steps sc__law_steps (fun vs H Q E h => ?_) (fun cdv A outer s H vs Q E hr h => ?_)
  · obtain ⟨X, p__law_bag_here, a__law_bag_here, a__law_far, r, hm, c, kont⟩ := h
    exact c.len
  · obtain ⟨X, p__law_bag_here, a__law_bag_here, a__law_far, r, hm, c, kont⟩ := h
    refine ⟨_, (pss_cons (ps_set (i := 2) sc__law_steps.nd rfl (Or.inl rfl) (pe_op op_add pe_int (pe_call (ok__law_draw T) hr (by rfl) T.g__law_draw T.F__law_draw.kp T.b__law_draw .nil pass0 (pa_cons (pv 0) (pa_cons pe_int pa_nil)))))
      (pss_cons (ps_set (i := 3) sc__law_steps.nd rfl (Or.inl rfl) (pe_lst (pa_cons (pe_tup (pa_cons pe_int (pa_cons pe_int pa_nil))) (pa_cons (pe_tup (pa_cons (pv 2) (pa_cons pe_int pa_nil))) pa_nil))))
      (pss_cons (ps_for PassesOwn.never rfl (pi_range3 (by rfl) T.z_range (pa_cons (pe_op op_sub (pv 2) pe_int) (pa_cons (pe_un un_neg pe_int) (pa_cons (pe_un un_neg pe_int) pa_nil)))) (pg_name (i := 4) sc__law_steps.nd rfl (Or.inl rfl)) (pss_cons (ps_set (i := 5) sc__law_steps.nd rfl (Or.inl rfl) (pe_op op_add pe_int (pe_call (ok__law_draw T) hr (by rfl) T.g__law_draw T.F__law_draw.kp T.b__law_draw .nil pass0 (pa_cons (pv 0) (pa_cons (pv 1) pa_nil)))))
      (pss_cons (ps_if (pt_cmpR (r := rNeD K) (op_neD hr.units) (pe_ix (r := rIxL K) ix_list (pv 3) (pe_un un_neg pe_int) (fun _ _ => rfl)) (pe_tup (pa_cons (pe_op op_add (pv 4) pe_int) (pa_cons (pv 5) pa_nil))) (nomark _)) (pss_one (ps_expr (pe_bm PySem.F.plainAttrs_list PySem.F.slot_list_append PySem.F.type_list_append mt_append (pv 3) (pa_cons (pe_tup (pa_cons (pe_op op_add (pv 4) pe_int) (pa_cons (pv 5) pa_nil))) pa_nil)))) pss_nil)
      (pss_one (ps_expr (pe_bm PySem.F.plainAttrs_list PySem.F.slot_list_append PySem.F.type_list_append mt_append (pv 3) (pa_cons (pe_tup (pa_cons (pv 4) (pa_cons (pv 5) pa_nil))) pa_nil)))))))
      (pss_one (ps_ret (pv 3)))))), ?_⟩
    have L0 : Lo ⟨K, X, H, muts [.mu p__law_bag_here (ml (a__law_bag_here : (List Int))), .imm (.int a__law_far)], n__law_steps.length⟩ X H (L2.start n__law_steps vs) [.mu p__law_bag_here (ml (a__law_bag_here : (List Int))), .imm (.int a__law_far), .unk, .unk, .unk, .unk] := c.start n__law_steps (show (2 : Nat) ≤ 6 by decide)
    unfold m__law_steps at hm
    refine x_seq (x_asg (x_op (x_c (x_call (x_cons (x_vm L0 rfl (x_cons (x_c (x_nil (obE hm fun z1 hz1 hm1 => mk__law_draw hz1 (L0.cond1 (i := 0) (.m (L0.mrep (i := 0) rfl) (.im (.int _) .nil)) rfl rfl rfl) fun _ F1 => k1 L0 F1 (i := 0) (Γ' := [.mu p__law_bag_here (ml (z1.2 : (List Int))), .imm (.int a__law_far), .unk, .unk, .unk, .unk]) rfl rfl rfl fun L1 le1 => x_r0 (x_bset (x0 := (1 + z1.1)) (d := fun many_1 => (.int many_1)) (Γf := fun many_1 => [.mu p__law_bag_here (ml (z1.2 : (List Int))), .imm (.int a__law_far), .imm (.int many_1), .unk, .unk, .unk]) hm1 L1 (.int _) (show (2 : Nat) < 6 by decide) (fun _ => rfl) fun many_1 _ hm2 L2 => ?_)))))))))))
    refine x_seq (x_asg (x_lst (x_cons (x_tup (x_cons (x_c (x_cons (x_c (x_nil (x_mkT L2 (.cons (.int _) (.cons (.int _) .nil)) (show (2 : Nat) ≤ 16777216 by decide) fun v2 _ L3 le2 r1 => have r2 : Rep _ _ _ (enc ((T2.mk 0 0) : (T2 Int Int))) v2 := r1; x_cons (x_tup (x_cons (x_vI (x := many_1) L3 rfl (x_cons (x_c (x_nil (x_mkT L3 (.cons (.int _) (.cons (.int _) .nil)) (show (2 : Nat) ≤ 16777216 by decide) fun v3 _ L4 le3 r3 => have r4 := le3 _ _ r2; have r5 : Rep _ _ _ (enc ((T2.mk many_1 0) : (T2 Int Int))) v3 := r3; x_nil (x_mkN L4 (.cons r4 (.cons r5 .nil)) (show (2 : Nat) ≤ 16777216 by decide) fun p1 _ _ h01 hx1 L5 le4 => x_setN (Γ := [.mu p__law_bag_here (ml (z1.2 : (List Int))), .imm (.int a__law_far), .imm (.int many_1), .unk, .unk, .unk]) (p := p1) (o := (ml ([(T2.mk 0 0), (T2.mk many_1 0)] : (List (T2 Int Int))))) (Γ' := [.mu p__law_bag_here (ml (z1.2 : (List Int))), .imm (.int a__law_far), .imm (.int many_1), .mu p1 (ml ([(T2.mk 0 0), (T2.mk many_1 0)] : (List (T2 Int Int)))), .unk, .unk]) L5 (show (3 : Nat) < 6 by decide) (show (3 : Nat) < 6 by decide) rfl fun _ L6 => ?_))))))))))))))))))
    refine x_seq (x_tforR3 (x_cons (x_op (x_vI (x := many_1) L6 rfl (x_c (x_r0 (x_cons (x_un (x_c (x_u (x_cons (x_un (x_c (x_u (x_nil (x_r3 hm2 fun hm3 => x_foD (G := (fun (s1 : ((List Int) × (List (T2 Int Int)))) => [.mu p__law_bag_here (ml (s1.1 : (List Int))), .imm (.int a__law_far), .imm (.int many_1), .mu p1 (ml (s1.2 : (List (T2 Int Int)))), .unk, .unk])) (s0 := (z1.2, [(T2.mk 0 0), (T2.mk many_1 0)])) (L6.weak (Γ' := [.mu p__law_bag_here (ml (z1.2 : (List Int))), .imm (.int a__law_far), .imm (.int many_1), .mu p1 (ml ([(T2.mk 0 0), (T2.mk many_1 0)] : (List (T2 Int Int)))), .unk, .unk]) (.k (.k (.k (.k (.k (.k .e))))))) (fun _ _ => rfl) hm3 (fun x1 s1 H1 _ u1 _ _ _ _ _ hm4 L7 r6 hN1 hC1 => ?_) (fun s2 _ _ hm5 L8 => ?_)))))))))))))))))
    · refine x_set (d := (.int x1)) (Γ' := [.mu p__law_bag_here (ml (s1.1 : (List Int))), .imm (.int a__law_far), .imm (.int many_1), .mu p1 (ml (s1.2 : (List (T2 Int Int)))), .imm (.int x1), .unk]) L7 r6 (show (4 : Nat) < 6 by decide) rfl fun _ L9 => ?_
      refine x_seq (x_asg (x_op (x_c (x_call (x_cons (x_vm L9 rfl (x_cons (x_vI (x := a__law_far) L9 rfl (x_nil (obE hm4 fun z2 hz2 hm7 => mk__law_draw hz2 (L9.cond1 (i := 0) (.m (L9.mrep (i := 0) rfl) (.im (.int _) .nil)) rfl rfl rfl) fun _ F3 => k1 L9 F3 (i := 0) (Γ' := [.mu p__law_bag_here (ml (z2.2 : (List Int))), .imm (.int a__law_far), .imm (.int many_1), .mu p1 (ml (s1.2 : (List (T2 Int Int)))), .imm (.int x1), .unk]) rfl rfl rfl fun L10 le5 => x_r0 (x_bset (x0 := (1 + z2.1)) (d := fun high_1 => (.int high_1)) (Γf := fun high_1 => [.mu p__law_bag_here (ml (z2.2 : (List Int))), .imm (.int a__law_far), .imm (.int many_1), .mu p1 (ml (s1.2 : (List (T2 Int Int)))), .imm (.int x1), .imm (.int high_1)]) hm7 L10 (.int _) (show (5 : Nat) < 6 by decide) (fun _ => rfl) fun high_1 _ hm8 L11 => ?_)))))))))))
      refine x_seq (x_ifS (x_test (x_op (x_op (x_vm L11 rfl (x_un (x_c (x_u (x_ixM (xs := s1.2) (j := 3) L11 rfl hm8 fun x2 v5 _ hm9 r7 => x_tup (x_cons (x_op (x_vI (x := x1) L11 rfl (x_c (x_r0 (x_cons (x_vI (x := high_1) L11 rfl (x_nil (x_mkT L11 (.cons (.int _) (.cons (.int _) .nil)) (show (2 : Nat) ≤ 16777216 by decide) fun v6 _ L12 le6 r8 => have r9 := le6 _ _ r7; have r10 : Rep _ _ _ (enc ((T2.mk ((x1 + 1)) high_1) : (T2 Int Int))) v6 := r8; x_ned (x := x2) (y := (T2.mk ((x1 + 1)) high_1)) r9.dp r10.dp (by decide) (x_kb (x_join (G := (fun (s3 : (List (T2 Int Int))) => [.mu p__law_bag_here (ml (z2.2 : (List Int))), .imm (.int a__law_far), .imm (.int many_1), .mu p1 (ml (s3 : (List (T2 Int Int)))), .imm (.int x1), .imm (.int high_1)])) L12 hm9 (fun _ hm10 _ hN2 => ?_) (fun _ hm10 _ hN2 => ?_) fun s3 X1 _ _ hm11 L13 => ?_))))))))))))))))))))
      · refine x_drop (x_bm (x_vm L12 rfl (x_tyM L12 (i := 3) rfl (?_))))
        refine x_cons (x_tup (x_cons (x_op (x_vI (x := x1) L12 rfl (x_c (x_r0 (x_cons (x_vI (x := high_1) L12 rfl (x_nil (x_mkT L12 (.cons (.int _) (.cons (.int _) .nil)) (show (2 : Nat) ≤ 16777216 by decide) fun v7 _ L14 le7 r11 => have r12 : Rep _ _ _ (enc ((T2.mk ((x1 + 1)) high_1) : (T2 Int Int))) v7 := r11; x_nil (x_append (xs := s1.2) (x := (T2.mk ((x1 + 1)) high_1)) (i := 3) (Γ' := [.mu p__law_bag_here (ml (z2.2 : (List Int))), .imm (.int a__law_far), .imm (.int many_1), .mu p1 (ml ((s1.2 ++ [(T2.mk ((x1 + 1)) high_1)]) : (List (T2 Int Int)))), .imm (.int x1), .imm (.int high_1)]) L14 rfl hm10 r12 rfl fun _ hm12 L15 le8 => ?_)))))))))))
        exact x_leaf (G := (fun (s3 : (List (T2 Int Int))) => [.mu p__law_bag_here (ml (z2.2 : (List Int))), .imm (.int a__law_far), .imm (.int many_1), .mu p1 (ml (s3 : (List (T2 Int Int)))), .imm (.int x1), .imm (.int high_1)])) (e := (s1.2 ++ [(T2.mk ((x1 + 1)) high_1)])) hm12 hN2 (L15.weak (Γ' := [.mu p__law_bag_here (ml (z2.2 : (List Int))), .imm (.int a__law_far), .imm (.int many_1), .mu p1 (ml ((s1.2 ++ [(T2.mk ((x1 + 1)) high_1)]) : (List (T2 Int Int)))), .imm (.int x1), .imm (.int high_1)]) (.k (.k (.k (.k (.k (.k .e)))))))
      · refine x_next ?_
        exact x_leaf (G := (fun (s3 : (List (T2 Int Int))) => [.mu p__law_bag_here (ml (z2.2 : (List Int))), .imm (.int a__law_far), .imm (.int many_1), .mu p1 (ml (s3 : (List (T2 Int Int)))), .imm (.int x1), .imm (.int high_1)])) (e := s1.2) hm10 hN2 (L12.weak (Γ' := [.mu p__law_bag_here (ml (z2.2 : (List Int))), .imm (.int a__law_far), .imm (.int many_1), .mu p1 (ml (s1.2 : (List (T2 Int Int)))), .imm (.int x1), .imm (.int high_1)]) (.k (.k (.k (.k (.k (.k .e)))))))
      refine x_drop (x_bm (x_vm L13 rfl (x_tyM L13 (i := 3) rfl (?_))))
      refine x_cons (x_tup (x_cons (x_vI (x := x1) L13 rfl (x_cons (x_vI (x := high_1) L13 rfl (x_nil (x_mkT L13 (.cons (.int _) (.cons (.int _) .nil)) (show (2 : Nat) ≤ 16777216 by decide) fun v8 _ L16 le9 r13 => have r14 : Rep _ _ _ (enc ((T2.mk x1 high_1) : (T2 Int Int))) v8 := r13; x_nil (x_append (xs := s3) (x := (T2.mk x1 high_1)) (i := 3) (Γ' := [.mu p__law_bag_here (ml (z2.2 : (List Int))), .imm (.int a__law_far), .imm (.int many_1), .mu p1 (ml ((s3 ++ [(T2.mk x1 high_1)]) : (List (T2 Int Int)))), .imm (.int x1), .imm (.int high_1)]) L16 rfl hm11 r14 rfl fun _ hm13 L17 le10 => ?_))))))))
      exact x_leaf (G := (fun (s1 : ((List Int) × (List (T2 Int Int)))) => [.mu p__law_bag_here (ml (s1.1 : (List Int))), .imm (.int a__law_far), .imm (.int many_1), .mu p1 (ml (s1.2 : (List (T2 Int Int)))), .unk, .unk])) (e := (z2.2, (s3 ++ [(T2.mk x1 high_1)]))) hm13 hN1 (L17.weak (Γ' := [.mu p__law_bag_here (ml (z2.2 : (List Int))), .imm (.int a__law_far), .imm (.int many_1), .mu p1 (ml ((s3 ++ [(T2.mk x1 high_1)]) : (List (T2 Int Int)))), .unk, .unk]) (.k (.k (.k (.k (.d (.d .e)))))))
    exact x_ret (x_vm L8 rfl (x_finP (Q := Q) (ps := (fun (r : ((List (T2 Int Int)) × (List Int))) => [(p__law_bag_here, (ml (r.2 : (List Int))))])) (o := fun (r : ((List (T2 Int Int)) × (List Int))) => (ml (r.1 : (List (T2 Int Int))))) (e := (s2.2, s2.1)) hm5 kont (L8.finM (p := p1) (i := 3) (hp1 (L8.mrep (i := 0) rfl)) rfl h01)))
abbrev sp__law_rings (K : PySem.W.Frag) : Sp := fun vs H Q _ => ∃ (X : Addr → Prop) (p__law_bag_here : Addr) (a__law_bag_here : (List Int)) (a__law_far : Int) (r : ((List (List (T2 Int Int))) × (List Int))), m__law_rings a__law_bag_here a__law_far = some r ∧ Cond K X H [.mu p__law_bag_here (ml (a__law_bag_here : (List Int))), .imm (.int a__law_far)] vs ∧ ∀ p H', Fin K X H [p__law_bag_here] [(p__law_bag_here, (ml (r.2 : (List Int))))] (.new (ml (r.1 : (List (List (T2 Int Int)))))) (.ref p) H' → Q (.ref p) H'
theorem mk__law_rings {K : PySem.W.Frag} {X : Addr → Prop} {H : Hp} {vs : List V} {Q : VK} {E : XK} {p__law_bag_here : Addr} {a__law_bag_here : (List Int)} {a__law_far : Int} {r : ((List (List (T2 Int Int))) × (List Int))} (hm : m__law_rings a__law_bag_here a__law_far = some r) (c : Cond K X H [.mu p__law_bag_here (ml (a__law_bag_here : (List Int))), .imm (.int a__law_far)] vs) (k : ∀ p H', Fin K X H [p__law_bag_here] [(p__law_bag_here, (ml (r.2 : (List Int))))] (.new (ml (r.1 : (List (List (T2 Int Int)))))) (.ref p) H' → Q (.ref p) H') : sp__law_rings K vs H Q E := ⟨X, p__law_bag_here, a__law_bag_here, a__law_far, r, hm, c, k⟩
abbrev n__law_rings : List Str := ["_law_bag_here", "_law_far", "_law_way", "_law_rings_here", "_law_room", "_law_star_here", "_law_many", "_law_deep", "_law_ring", "_law_x", "_law_y"]
theorem sc__law_rings : FnScope n__law_rings ["_law_bag_here", "_law_far"] (defScope s__law_rings) := ⟨rfl, rfl, rfl, by decide +kernel, rfl, by decide +kernel, by decide +kernel⟩
theorem ok__law_rings (T : Txt K mg) : FnOk P w K mg base CX0 3 T.A__law_rings T.D__law_rings ["_law_bag_here", "_law_far"] (sp__law_rings K) := by
  refine Fun.ok T.F__law_rings sc__law_rings (fun vs H Q E h => ?_) (fun cdv A outer s H vs Q E hr h => ?_)
  · obtain ⟨X, p__law_bag_here, a__law_bag_here, a__law_far, r, hm, c, kont⟩ := h
    exact c.len
  · obtain ⟨X, p__law_bag_here, a__law_bag_here, a__law_far, r, hm, c, kont⟩ := h
    refine ⟨_, (pss_cons (ps_set (i := 2) sc__law_rings.nd rfl (Or.inl rfl) (pe_call (ok__law_draw T) (hr.mono (by decide)) (by rfl) T.g__law_draw T.F__law_draw.kp T.b__law_draw .nil pass0 (pa_cons (pv 0) (pa_cons pe_int pa_nil))))
      (pss_cons (ps_if (pt_cmpR op_lt (pv 2) pe_int (nomark _)) (pss_one (ps_ret (pe_lst (pa_cons (pe_call (ok__law_star T) hr (by rfl) T.g__law_star T.F__law_star.kp T.b__law_star .nil pass0 (pa_cons (pv 0) (pa_cons (pe_op op_add pe_int (pe_call (ok__law_draw T) (hr.mono (by decide)) (by rfl) T.g__law_draw T.F__law_draw.kp T.b__law_draw .nil pass0 (pa_cons (pv 0) (pa_cons pe_int pa_nil)))) (pa_cons (pv 1) pa_nil)))) pa_nil)))) pss_nil)
      (pss_cons (ps_if (pt_cmpR op_eq (pv 2) pe_int (nomark _)) (pss_one (ps_ret (pe_lst (pa_cons (pe_call (ok__law_steps T) hr (by rfl) T.g__law_steps T.F__law_steps.kp T.b__law_steps .nil pass0 (pa_cons (pv 0) (pa_cons (pv 1) pa_nil))) pa_nil)))) pss_nil)
      (pss_cons (ps_if (pt_cmpR op_eq (pv 2) pe_int (nomark _)) (pss_one (ps_ret (pe_lst pa_nil))) pss_nil)
      (pss_cons (ps_set (i := 3) sc__law_rings.nd rfl (Or.inl rfl) (pe_lst pa_nil))
      (pss_cons (ps_set (i := 4) sc__law_rings.nd rfl (Or.inl rfl) pe_int)
      (pss_cons (ps_set (i := 5) sc__law_rings.nd rfl (Or.inl rfl) (pe_call (ok__law_star T) hr (by rfl) T.g__law_star T.F__law_star.kp T.b__law_star .nil pass0 (pa_cons (pv 0) (pa_cons (pe_op op_add pe_int (pe_call (ok__law_draw T) (hr.mono (by decide)) (by rfl) T.g__law_draw T.F__law_draw.kp T.b__law_draw .nil pass0 (pa_cons (pv 0) (pa_cons pe_int pa_nil)))) (pa_cons (pv 1) pa_nil)))))
      (pss_cons (ps_set (i := 6) sc__law_rings.nd rfl (Or.inl rfl) (pe_op op_add pe_int (pe_call (ok__law_draw T) (hr.mono (by decide)) (by rfl) T.g__law_draw T.F__law_draw.kp T.b__law_draw .nil pass0 (pa_cons (pv 0) (pa_cons pe_int pa_nil)))))
      (pss_cons (ps_while PassesOwn.never (PW.pt (pw_and (pt_cmpR op_lt (pe_callB (r := rLenX K) call_lenX (by rfl) T.z_len (by decide +kernel) (pa_cons (pv 3) pa_nil)) (pv 6) (nomark _)) (pw_and1 (pt_cmpR op_le (pe_callB (r := rLenX K) call_lenX (by rfl) T.z_len (by decide +kernel) (pa_cons (pv 5) pa_nil)) (pv 4) (nomark _))))) (pss_cons (ps_set (i := 7) sc__law_rings.nd rfl (Or.inr rfl) (pe_op op_sub (pv 6) (pe_callB (r := rLenX K) call_lenX (by rfl) T.z_len (by decide +kernel) (pa_cons (pv 3) pa_nil))))
      (pss_cons (ps_if (pt_cmpR op_lt (pv 2) pe_int (nomark _)) (pss_cons (ps_setLc (i := 8) (own := [("_law_x", 9), ("_law_y", 10)])  (g := gTup K 2 (gCons (gName 9) (gCons (gName 10) gNil))) (tt := tYes) rfl sc__law_rings.nd rfl rfl (sw_true rfl rfl rfl (by decide +kernel)) (pi_list (pv 5)) (blkOk_by (N := n__law_rings) (sc := defScope s__law_rings) (by decide +kernel)) (fun _ _ _ _ _ => (pg_tup rfl (pgs_cons (pg_name (i := 9) sc__law_rings.nd rfl (Or.inl rfl)) (pgs_cons (pg_name (i := 10) sc__law_rings.nd rfl (Or.inl rfl)) pgs_nil)))) (fun _ _ _ _ _ => pts_nil) (fun _ _ _ _ _ => (pe_tup (pa_cons (pe_op op_mulW (pv 9) (pv 7)) (pa_cons (pe_op op_mulW (pv 10) (pv 7)) pa_nil)))))
      (pss_one (ps_if (pt_cmpR op_eq (pe_op op_mod (pe_callB (r := rLenX K) call_lenX (by rfl) T.z_len (by decide +kernel) (pa_cons (pv 3) pa_nil)) pe_int) pe_int (nomark _)) (pss_one (ps_set (i := 8) sc__law_rings.nd rfl (Or.inl rfl) (pe_revL (pv 8)))) pss_nil))) (pss_cons (ps_setLc (i := 8) (own := [("_law_x", 9), ("_law_y", 10)])  (g := gTup K 2 (gCons (gName 9) (gCons (gName 10) gNil))) (tt := tYes) rfl sc__law_rings.nd rfl rfl (sw_true rfl rfl rfl (by decide +kernel)) (pi_list (pv 5)) (blkOk_by (N := n__law_rings) (sc := defScope s__law_rings) (by decide +kernel)) (fun _ _ _ _ _ => (pg_tup rfl (pgs_cons (pg_name (i := 9) sc__law_rings.nd rfl (Or.inl rfl)) (pgs_cons (pg_name (i := 10) sc__law_rings.nd rfl (Or.inl rfl)) pgs_nil)))) (fun _ _ _ _ _ => pts_nil) (fun _ _ _ _ _ => (pe_tup (pa_cons (pe_op op_add (pv 9) (pe_op op_mulW (pe_op op_mul pe_int (pv 1)) (pv 7))) (pa_cons (pv 10) pa_nil)))))
      (pss_one (ps_set (i := 5) sc__law_rings.nd rfl (Or.inl rfl) (pe_call (ok__law_star T) hr (by rfl) T.g__law_star T.F__law_star.kp T.b__law_star .nil pass0 (pa_cons (pv 0) (pa_cons (pe_op op_add pe_int (pe_call (ok__law_draw T) (hr.mono (by decide)) (by rfl) T.g__law_draw T.F__law_draw.kp T.b__law_draw .nil pass0 (pa_cons (pv 0) (pa_cons pe_int pa_nil)))) (pa_cons (pv 1) pa_nil))))))))
      (pss_cons (ps_expr (pe_bm PySem.F.plainAttrs_list PySem.F.slot_list_append PySem.F.type_list_append mt_append (pv 3) (pa_cons (pv 8) pa_nil)))
      (pss_one (ps_set (i := 4) sc__law_rings.nd rfl (Or.inl rfl) (pe_op op_sub (pv 4) (pe_callB (r := rLenX K) call_lenX (by rfl) T.z_len (by decide +kernel) (pa_cons (pv 8) pa_nil)))))))))
      (pss_one (ps_ret (pv 3)))))))))))), ?_⟩
    have L0 : Lo ⟨K, X, H, muts [.mu p__law_bag_here (ml (a__law_bag_here : (List Int))), .imm (.int a__law_far)], n__law_rings.length⟩ X H (L2.start n__law_rings vs) [.mu p__law_bag_here (ml (a__law_bag_here : (List Int))), .imm (.int a__law_far), .unk, .unk, .unk, .unk, .unk, .unk, .unk, .unk, .unk] := c.start n__law_rings (show (2 : Nat) ≤ 11 by decide)
    unfold m__law_rings at hm
    refine x_seq (x_asg (x_call (x_cons (x_vm L0 rfl (x_cons (x_c (x_nil (obE hm fun z1 hz1 hm1 => mk__law_draw hz1 (L0.cond1 (i := 0) (.m (L0.mrep (i := 0) rfl) (.im (.int _) .nil)) rfl rfl rfl) fun _ F1 => k1 L0 F1 (i := 0) (Γ' := [.mu p__law_bag_here (ml (z1.2 : (List Int))), .imm (.int a__law_far), .unk, .unk, .unk, .unk, .unk, .unk, .unk, .unk, .unk]) rfl rfl rfl fun L1 le1 => x_set (d := (.int z1.1)) (Γ' := [.mu p__law_bag_here (ml (z1.2 : (List Int))), .imm (.int a__law_far), .imm (.int z1.1), .unk, .unk, .unk, .unk, .unk, .unk, .unk, .unk]) L1 (.int _) (show (2 : Nat) < 11 by decide) rfl fun _ L2 => ?_))))))))
    refine x_seq (x_ifS (x_test (x_op (x_vI (x := z1.1) L2 rfl (x_c (x_r0 (x_kb (x_if hm1 (fun hm2 => ?_) fun hm2 => ?_))))))))
    · exact x_ret (x_lst (x_cons (x_call (x_cons (x_vm L2 rfl (x_cons (x_op (x_c (x_call (x_cons (x_vm L2 rfl (x_cons (x_c (x_nil (obE hm2 fun z2 hz2 hm3 => mk__law_draw hz2 (L2.cond1 (i := 0) (.m (L2.mrep (i := 0) rfl) (.im (.int _) .nil)) rfl rfl rfl) fun _ F2 => k1 L2 F2 (i := 0) (Γ' := [.mu p__law_bag_here (ml (z2.2 : (List Int))), .imm (.int a__law_far), .imm (.int z1.1), .unk, .unk, .unk, .unk, .unk, .unk, .unk, .unk]) rfl rfl rfl fun L3 le2 => x_r0 (x_cons (x_vI (x := a__law_far) L3 rfl (x_nil (obE hm3 fun z3 hz3 hm4 => mk__law_star hz3 (L3.cond1 (i := 0) (.m (L3.mrep (i := 0) rfl) (.im (.int _) (.im (.int _) .nil))) rfl rfl rfl) fun p1 _ F3 => k1i L3 F3 (i := 0) (Γ' := [.mu p__law_bag_here (ml (z3.2 : (List Int))), .imm (.int a__law_far), .imm (.int z1.1), .unk, .unk, .unk, .unk, .unk, .unk, .unk, .unk]) rfl rfl rfl fun L4 le3 r1 => have r2 : Rep _ _ _ (enc (z3.1 : (List (T2 Int Int)))) (.ref p1) := r1; x_nil (x_mkN L4 (.cons r2 .nil) (show (1 : Nat) ≤ 16777216 by decide) fun p2 _ _ h01 hx1 L5 le4 => x_finP (Q := Q) (ps := (fun (r : ((List (List (T2 Int Int))) × (List Int))) => [(p__law_bag_here, (ml (r.2 : (List Int))))])) (o := fun (r : ((List (List (T2 Int Int))) × (List Int))) => (ml (r.1 : (List (List (T2 Int Int)))))) (e := ([z3.1], z3.2)) hm4 kont (L5.finT (p := p2) (i := 11) (o := (ml ([z3.1] : (List (List (T2 Int Int)))))) (hp1 (L5.mrep (i := 0) rfl)) rfl h01)))))))))))))))))))))
    · refine x_next ?_
      refine x_seq (x_ifS (x_test (x_op (x_vI (x := z1.1) L2 rfl (x_c (x_eqi (x_kb (x_if hm2 (fun hm5 => ?_) fun hm5 => ?_))))))))
      · exact x_ret (x_lst (x_cons (x_call (x_cons (x_vm L2 rfl (x_cons (x_vI (x := a__law_far) L2 rfl (x_nil (obE hm5 fun z4 hz4 hm6 => mk__law_steps hz4 (L2.cond1 (i := 0) (.m (L2.mrep (i := 0) rfl) (.im (.int _) .nil)) rfl rfl rfl) fun p3 _ F4 => k1i L2 F4 (i := 0) (Γ' := [.mu p__law_bag_here (ml (z4.2 : (List Int))), .imm (.int a__law_far), .imm (.int z1.1), .unk, .unk, .unk, .unk, .unk, .unk, .unk, .unk]) rfl rfl rfl fun L6 le5 r3 => have r4 : Rep _ _ _ (enc (z4.1 : (List (T2 Int Int)))) (.ref p3) := r3; x_nil (x_mkN L6 (.cons r4 .nil) (show (1 : Nat) ≤ 16777216 by decide) fun p4 _ _ h02 hx2 L7 le6 => x_finP (Q := Q) (ps := (fun (r : ((List (List (T2 Int Int))) × (List Int))) => [(p__law_bag_here, (ml (r.2 : (List Int))))])) (o := fun (r : ((List (List (T2 Int Int))) × (List Int))) => (ml (r.1 : (List (List (T2 Int Int)))))) (e := ([z4.1], z4.2)) hm6 kont (L7.finT (p := p4) (i := 11) (o := (ml ([z4.1] : (List (List (T2 Int Int)))))) (hp1 (L7.mrep (i := 0) rfl)) rfl h02)))))))))))
      · refine x_next ?_
        refine x_seq (x_ifS (x_test (x_op (x_vI (x := z1.1) L2 rfl (x_c (x_eqi (x_kb (x_if hm5 (fun hm7 => ?_) fun hm7 => ?_))))))))
        · exact x_ret (x_lst (x_nil (x_mkN L2 .nil (show (0 : Nat) ≤ 16777216 by decide) fun p5 _ _ h03 hx3 L8 le7 => x_finP (Q := Q) (ps := (fun (r : ((List (List (T2 Int Int))) × (List Int))) => [(p__law_bag_here, (ml (r.2 : (List Int))))])) (o := fun (r : ((List (List (T2 Int Int))) × (List Int))) => (ml (r.1 : (List (List (T2 Int Int)))))) (e := (([] : (List (List (T2 Int Int)))), z1.2)) hm7 kont (L8.finT (p := p5) (i := 11) (o := (ml (([] : (List (List (T2 Int Int)))) : (List (List (T2 Int Int)))))) (hp1 (L8.mrep (i := 0) rfl)) rfl h03))))
        · refine x_next ?_
          refine x_seq (x_asg (x_lst (x_nil (x_mkN L2 .nil (show (0 : Nat) ≤ 16777216 by decide) fun p6 _ _ h04 hx4 L9 le8 => x_setN (Γ := [.mu p__law_bag_here (ml (z1.2 : (List Int))), .imm (.int a__law_far), .imm (.int z1.1), .unk, .unk, .unk, .unk, .unk, .unk, .unk, .unk]) (p := p6) (o := (ml (([] : (List (List (T2 Int Int)))) : (List (List (T2 Int Int)))))) (Γ' := [.mu p__law_bag_here (ml (z1.2 : (List Int))), .imm (.int a__law_far), .imm (.int z1.1), .mu p6 (ml (([] : (List (List (T2 Int Int)))) : (List (List (T2 Int Int))))), .unk, .unk, .unk, .unk, .unk, .unk, .unk]) L9 (show (3 : Nat) < 11 by decide) (show (3 : Nat) < 11 by decide) rfl fun _ L10 => ?_))))
          refine x_seq (x_asg (x_c (x_set (d := (.int 24)) (Γ' := [.mu p__law_bag_here (ml (z1.2 : (List Int))), .imm (.int a__law_far), .imm (.int z1.1), .mu p6 (ml (([] : (List (List (T2 Int Int)))) : (List (List (T2 Int Int))))), .imm (.int 24), .unk, .unk, .unk, .unk, .unk, .unk]) L10 (.int _) (show (4 : Nat) < 11 by decide) rfl fun _ L11 => ?_)))
          refine x_seq (x_asg (x_call (x_cons (x_vm L11 rfl (x_cons (x_op (x_c (x_call (x_cons (x_vm L11 rfl (x_cons (x_c (x_nil (obE hm7 fun z5 hz5 hm8 => mk__law_draw hz5 (L11.cond1 (i := 0) (.m (L11.mrep (i := 0) rfl) (.im (.int _) .nil)) rfl rfl rfl) fun _ F5 => k1 L11 F5 (i := 0) (Γ' := [.mu p__law_bag_here (ml (z5.2 : (List Int))), .imm (.int a__law_far), .imm (.int z1.1), .mu p6 (ml (([] : (List (List (T2 Int Int)))) : (List (List (T2 Int Int))))), .imm (.int 24), .unk, .unk, .unk, .unk, .unk, .unk]) rfl rfl rfl fun L12 le9 => x_r0 (x_cons (x_vI (x := a__law_far) L12 rfl (x_nil (obE hm8 fun z6 hz6 hm9 => mk__law_star hz6 (L12.cond1 (i := 0) (.m (L12.mrep (i := 0) rfl) (.im (.int _) (.im (.int _) .nil))) rfl rfl rfl) fun p7 _ F6 => k1i L12 F6 (i := 0) (Γ' := [.mu p__law_bag_here (ml (z6.2 : (List Int))), .imm (.int a__law_far), .imm (.int z1.1), .mu p6 (ml (([] : (List (List (T2 Int Int)))) : (List (List (T2 Int Int))))), .imm (.int 24), .unk, .unk, .unk, .unk, .unk, .unk]) rfl rfl rfl fun L13 le10 r5 => have r6 : Rep _ _ _ (enc (z6.1 : (List (T2 Int Int)))) (.ref p7) := r5; x_set (d := (enc (z6.1 : (List (T2 Int Int))))) (Γ' := [.mu p__law_bag_here (ml (z6.2 : (List Int))), .imm (.int a__law_far), .imm (.int z1.1), .mu p6 (ml (([] : (List (List (T2 Int Int)))) : (List (List (T2 Int Int))))), .imm (.int 24), .imm (enc (z6.1 : (List (T2 Int Int)))), .unk, .unk, .unk, .unk, .unk]) L13 r6 (show (5 : Nat) < 11 by decide) rfl fun _ L14 => ?_))))))))))))))))))
          refine x_seq (x_asg (x_op (x_c (x_call (x_cons (x_vm L14 rfl (x_cons (x_c (x_nil (obE hm9 fun z7 hz7 hm10 => mk__law_draw hz7 (L14.cond1 (i := 0) (.m (L14.mrep (i := 0) rfl) (.im (.int _) .nil)) rfl rfl rfl) fun _ F7 => k1 L14 F7 (i := 0) (Γ' := [.mu p__law_bag_here (ml (z7.2 : (List Int))), .imm (.int a__law_far), .imm (.int z1.1), .mu p6 (ml (([] : (List (List (T2 Int Int)))) : (List (List (T2 Int Int))))), .imm (.int 24), .imm (enc (z6.1 : (List (T2 Int Int)))), .unk, .unk, .unk, .unk, .unk]) rfl rfl rfl fun L15 le11 => x_r0 (x_bset (x0 := (1 + z7.1)) (d := fun many_1 => (.int many_1)) (Γf := fun many_1 => [.mu p__law_bag_here (ml (z7.2 : (List Int))), .imm (.int a__law_far), .imm (.int z1.1), .mu p6 (ml (([] : (List (List (T2 Int Int)))) : (List (List (T2 Int Int))))), .imm (.int 24), .imm (enc (z6.1 : (List (T2 Int Int)))), .imm (.int many_1), .unk, .unk, .unk, .unk]) hm10 L15 (.int _) (show (6 : Nat) < 11 by decide) (fun _ => rfl) fun many_1 _ hm11 L16 => ?_)))))))))))
          refine x_seq (x_wh (n := many_1.natAbs + 2) (G := (fun (s1 : ((List Int) × (List (List (T2 Int Int))) × Int × (List (T2 Int Int)))) => [.mu p__law_bag_here (ml (s1.1 : (List Int))), .imm (.int a__law_far), .imm (.int z1.1), .mu p6 (ml (s1.2.1 : (List (List (T2 Int Int))))), .imm (.int s1.2.2.1), .imm (enc (s1.2.2.2 : (List (T2 Int Int)))), .imm (.int many_1), .unk, .unk, .unk, .unk])) (s0 := (z7.2, ([] : (List (List (T2 Int Int)))), 24, z6.1)) (ρ := Empty) (ps := fun _ => []) (rs := fun _ => .imm .none) (L16.weak (Γ' := [.mu p__law_bag_here (ml (z7.2 : (List Int))), .imm (.int a__law_far), .imm (.int z1.1), .mu p6 (ml (([] : (List (List (T2 Int Int)))) : (List (List (T2 Int Int))))), .imm (.int 24), .imm (enc (z6.1 : (List (T2 Int Int)))), .imm (.int many_1), .unk, .unk, .unk, .unk]) (.k (.k (.k (.k (.k (.k (.k (.k (.k (.k (.k .e)))))))))))) (fun _ _ => rfl) hm11 (fun s1 H1 _ _ _ _ _ _ hm12 L17 hN1 hC1 hB1 hR1 _ hQ1 => ?_) (fun s2 _ _ hm13 L18 => ?_) (fun q => q.elim))
          · refine x_and (x_test (x_op (x_cb (x_cons (x_vm L17 rfl (x_nil (x_lenM (xs := s1.2.1) L17 (j := 3) rfl (x_vI (x := many_1) L17 rfl (x_r0 (x_kb (x_andP (B := (decide ((s1.2.2.2.length : Int) ≤ s1.2.2.1))) (fun _ hq => x_test (x_op (x_cb (x_cons (x_vd (d := (enc (s1.2.2.2 : (List (T2 Int Int))))) L17 rfl fun v5 r8 => x_nil (x_lenL (xs := s1.2.2.2) r8 (x_vI (x := s1.2.2.1) L17 rfl (x_r0 (x_kb (hq)))))))))) (hQ1 _ _ (x_whIf hm12 (fun hm15 => ?_) fun hm15 => ?_)))))))))))))
            · refine x_seq (x_asg (x_op (x_vI (x := many_1) L17 rfl (x_cb (x_cons (x_vm L17 rfl (x_nil (x_lenM (xs := s1.2.1) L17 (j := 3) rfl (x_r0 (x_bset (x0 := (many_1 - (s1.2.1.length : Int))) (d := fun deep_1 => (.int deep_1)) (Γf := fun deep_1 => [.mu p__law_bag_here (ml (s1.1 : (List Int))), .imm (.int a__law_far), .imm (.int z1.1), .mu p6 (ml (s1.2.1 : (List (List (T2 Int Int))))), .imm (.int s1.2.2.1), .imm (enc (s1.2.2.2 : (List (T2 Int Int)))), .imm (.int many_1), .imm (.int deep_1), .unk, .unk, .unk]) hm15 L17 (.int _) (show (7 : Nat) < 11 by decide) (fun _ => rfl) fun deep_1 _ hm16 L19 => ?_))))))))))
              refine x_seq (x_ifS (x_test (x_op (x_vI (x := z1.1) L19 rfl (x_c (x_r0 (x_kb (x_join (G := (fun (s3 : ((List Int) × (List (T2 Int Int)) × (List (T2 Int Int)))) => [.mu p__law_bag_here (ml (s3.1 : (List Int))), .imm (.int a__law_far), .imm (.int z1.1), .mu p6 (ml (s1.2.1 : (List (List (T2 Int Int))))), .imm (.int s1.2.2.1), .imm (enc (s3.2.1 : (List (T2 Int Int)))), .imm (.int many_1), .imm (.int deep_1), .imm (enc (s3.2.2 : (List (T2 Int Int)))), .unk, .unk])) L19 hm16 (fun _ hm17 _ hN2 => ?_) (fun _ hm17 _ hN2 => ?_) fun s3 X1 _ _ hm18 L20 => ?_))))))))
              · refine x_seq (x_asg (x_lcl (x_vd (d := (enc (s1.2.2.2 : (List (T2 Int Int))))) L19 rfl fun v6 r9 => obE hm17 fun _ hl1 hm19 => obE hm19 fun ys1 hy1 hm20 => x_lcL (G := (fun (s4 : Unit) => [.mu p__law_bag_here (ml (s1.1 : (List Int))), .imm (.int a__law_far), .imm (.int z1.1), .mu p6 (ml (s1.2.1 : (List (List (T2 Int Int))))), .imm (.int s1.2.2.1), .imm (enc (s1.2.2.2 : (List (T2 Int Int)))), .imm (.int many_1), .imm (.int deep_1), .unk, .unk, .unk])) (s0 := ()) (xs := s1.2.2.2) L19 (fun _ _ => rfl) r9 (mapO_comp hy1) (lenOk_le hl1) (fun x2 s4 _ H2 _ u2 _ _ _ hF1 L21 r10 hn1 hy2 => obE hF1 fun y1 hm21 he1 => x_cTup (d1 := (.int x2.a)) (d2 := (.int x2.b)) (Γ' := [.mu p__law_bag_here (ml (s1.1 : (List Int))), .imm (.int a__law_far), .imm (.int z1.1), .mu p6 (ml (s1.2.1 : (List (List (T2 Int Int))))), .imm (.int s1.2.2.1), .imm (enc (s1.2.2.2 : (List (T2 Int Int)))), .imm (.int many_1), .imm (.int deep_1), .unk, .imm (.int x2.a), .imm (.int x2.b)]) L21 r10 (show (9 : Nat) < 11 by decide) (show (10 : Nat) < 11 by decide) (by decide) rfl fun _ L22 => x_yes (x_tup (x_cons (x_op (x_vI (x := x2.a) L22 rfl (x_vI (x := deep_1) L22 rfl (x_mul hm21 fun z8 _ hm22 => x_cons (x_op (x_vI (x := x2.b) L22 rfl (x_vI (x := deep_1) L22 rfl (x_mul hm22 fun z9 _ hm23 => x_nil (x_mkT L22 (.cons (.int _) (.cons (.int _) .nil)) (show (2 : Nat) ≤ 16777216 by decide) fun v7 _ L23 le12 r11 => have r12 : Rep _ _ _ (enc ((T2.mk z8 z9) : (T2 Int Int))) v7 := r11; x_cy (G := (fun (s4 : Unit) => [.mu p__law_bag_here (ml (s1.1 : (List Int))), .imm (.int a__law_far), .imm (.int z1.1), .mu p6 (ml (s1.2.1 : (List (List (T2 Int Int))))), .imm (.int s1.2.2.1), .imm (enc (s1.2.2.2 : (List (T2 Int Int)))), .imm (.int many_1), .imm (.int deep_1), .unk, .unk, .unk])) (s := s4) (s' := ()) (y := (T2.mk z8 z9)) (by cases hm23; cases he1; rfl) hy2 L21 L23 (.m (.i rfl (.i rfl (.m (.i rfl (.i rfl (.i rfl (.i rfl (.i rfl (.i rfl (.i rfl .e))))))))))) r12)))))))))))) fun p8 _ L24 le13 r13 => have L25 : Lo _ _ _ _ [.mu p__law_bag_here (ml (s1.1 : (List Int))), .imm (.int a__law_far), .imm (.int z1.1), .mu p6 (ml (s1.2.1 : (List (List (T2 Int Int))))), .imm (.int s1.2.2.1), .imm (enc (s1.2.2.2 : (List (T2 Int Int)))), .imm (.int many_1), .imm (.int deep_1), .unk, .unk, .unk] := L24; have r14 : Rep _ _ _ (enc (ys1 : (List (T2 Int Int)))) (.ref p8) := r13; x_set (d := (enc (ys1 : (List (T2 Int Int))))) (Γ' := [.mu p__law_bag_here (ml (s1.1 : (List Int))), .imm (.int a__law_far), .imm (.int z1.1), .mu p6 (ml (s1.2.1 : (List (List (T2 Int Int))))), .imm (.int s1.2.2.1), .imm (enc (s1.2.2.2 : (List (T2 Int Int)))), .imm (.int many_1), .imm (.int deep_1), .imm (enc (ys1 : (List (T2 Int Int)))), .unk, .unk]) L25 r14 (show (8 : Nat) < 11 by decide) rfl fun _ L26 => ?_)))
                refine x_ifS (x_test (x_op (x_op (x_cb (x_cons (x_vm L26 rfl (x_nil (x_lenM (xs := s1.2.1) L26 (j := 3) rfl (x_c (x_modc (by decide) (x_c (x_eqi (x_kb (x_join (G := (fun (s5 : (List (T2 Int Int))) => [.mu p__law_bag_here (ml (s1.1 : (List Int))), .imm (.int a__law_far), .imm (.int z1.1), .mu p6 (ml (s1.2.1 : (List (List (T2 Int Int))))), .imm (.int s1.2.2.1), .imm (enc (s1.2.2.2 : (List (T2 Int Int)))), .imm (.int many_1), .imm (.int deep_1), .imm (enc (s5 : (List (T2 Int Int)))), .unk, .unk])) L26 hm20 (fun _ hm24 _ hN3 => ?_) (fun _ hm24 _ hN3 => ?_) fun s5 X2 _ _ hm25 L27 => ?_))))))))))))))
                · refine x_asg (x_revL (x_vd (d := (enc (ys1 : (List (T2 Int Int))))) L26 rfl fun v8 r15 => x_revv (xs := ys1) L26 r15 fun v9 _ L28 le14 r16 => have r17 : Rep _ _ _ (enc (ys1.reverse : (List (T2 Int Int)))) v9 := r16; x_set (d := (enc (ys1.reverse : (List (T2 Int Int))))) (Γ' := [.mu p__law_bag_here (ml (s1.1 : (List Int))), .imm (.int a__law_far), .imm (.int z1.1), .mu p6 (ml (s1.2.1 : (List (List (T2 Int Int))))), .imm (.int s1.2.2.1), .imm (enc (s1.2.2.2 : (List (T2 Int Int)))), .imm (.int many_1), .imm (.int deep_1), .imm (enc (ys1.reverse : (List (T2 Int Int)))), .unk, .unk]) L28 r17 (show (8 : Nat) < 11 by decide) rfl fun _ L29 => ?_))
                  exact x_leaf (G := (fun (s5 : (List (T2 Int Int))) => [.mu p__law_bag_here (ml (s1.1 : (List Int))), .imm (.int a__law_far), .imm (.int z1.1), .mu p6 (ml (s1.2.1 : (List (List (T2 Int Int))))), .imm (.int s1.2.2.1), .imm (enc (s1.2.2.2 : (List (T2 Int Int)))), .imm (.int many_1), .imm (.int deep_1), .imm (enc (s5 : (List (T2 Int Int)))), .unk, .unk])) (e := ys1.reverse) hm24 hN3 (L29.weak (Γ' := [.mu p__law_bag_here (ml (s1.1 : (List Int))), .imm (.int a__law_far), .imm (.int z1.1), .mu p6 (ml (s1.2.1 : (List (List (T2 Int Int))))), .imm (.int s1.2.2.1), .imm (enc (s1.2.2.2 : (List (T2 Int Int)))), .imm (.int many_1), .imm (.int deep_1), .imm (enc (ys1.reverse : (List (T2 Int Int)))), .unk, .unk]) (.k (.k (.k (.k (.k (.k (.k (.k (.k (.k (.k .e))))))))))))
                · refine x_next ?_
                  exact x_leaf (G := (fun (s5 : (List (T2 Int Int))) => [.mu p__law_bag_here (ml (s1.1 : (List Int))), .imm (.int a__law_far), .imm (.int z1.1), .mu p6 (ml (s1.2.1 : (List (List (T2 Int Int))))), .imm (.int s1.2.2.1), .imm (enc (s1.2.2.2 : (List (T2 Int Int)))), .imm (.int many_1), .imm (.int deep_1), .imm (enc (s5 : (List (T2 Int Int)))), .unk, .unk])) (e := ys1) hm24 hN3 (L26.weak (Γ' := [.mu p__law_bag_here (ml (s1.1 : (List Int))), .imm (.int a__law_far), .imm (.int z1.1), .mu p6 (ml (s1.2.1 : (List (List (T2 Int Int))))), .imm (.int s1.2.2.1), .imm (enc (s1.2.2.2 : (List (T2 Int Int)))), .imm (.int many_1), .imm (.int deep_1), .imm (enc (ys1 : (List (T2 Int Int)))), .unk, .unk]) (.k (.k (.k (.k (.k (.k (.k (.k (.k (.k (.k .e))))))))))))
                exact x_leaf (G := (fun (s3 : ((List Int) × (List (T2 Int Int)) × (List (T2 Int Int)))) => [.mu p__law_bag_here (ml (s3.1 : (List Int))), .imm (.int a__law_far), .imm (.int z1.1), .mu p6 (ml (s1.2.1 : (List (List (T2 Int Int))))), .imm (.int s1.2.2.1), .imm (enc (s3.2.1 : (List (T2 Int Int)))), .imm (.int many_1), .imm (.int deep_1), .imm (enc (s3.2.2 : (List (T2 Int Int)))), .unk, .unk])) (e := (s1.1, s1.2.2.2, s5)) hm25 hN2 (L27.weak (Γ' := [.mu p__law_bag_here (ml (s1.1 : (List Int))), .imm (.int a__law_far), .imm (.int z1.1), .mu p6 (ml (s1.2.1 : (List (List (T2 Int Int))))), .imm (.int s1.2.2.1), .imm (enc (s1.2.2.2 : (List (T2 Int Int)))), .imm (.int many_1), .imm (.int deep_1), .imm (enc (s5 : (List (T2 Int Int)))), .unk, .unk]) (.k (.k (.k (.k (.k (.k (.k (.k (.k (.k (.k .e))))))))))))
              · refine x_seq (x_asg (x_lcl (x_vd (d := (enc (s1.2.2.2 : (List (T2 Int Int))))) L19 rfl fun v10 r18 => obE hm17 fun _ hl2 hm26 => obE hm26 fun ys2 hy3 hm27 => x_lcL (G := (fun (s6 : Unit) => [.mu p__law_bag_here (ml (s1.1 : (List Int))), .imm (.int a__law_far), .imm (.int z1.1), .mu p6 (ml (s1.2.1 : (List (List (T2 Int Int))))), .imm (.int s1.2.2.1), .imm (enc (s1.2.2.2 : (List (T2 Int Int)))), .imm (.int many_1), .imm (.int deep_1), .unk, .unk, .unk])) (s0 := ()) (xs := s1.2.2.2) L19 (fun _ _ => rfl) r18 (mapO_comp hy3) (lenOk_le hl2) (fun x3 s6 _ H3 _ u3 _ _ _ hF2 L30 r19 hn2 hy4 => obE hF2 fun y2 hm28 he2 => x_cTup (d1 := (.int x3.a)) (d2 := (.int x3.b)) (Γ' := [.mu p__law_bag_here (ml (s1.1 : (List Int))), .imm (.int a__law_far), .imm (.int z1.1), .mu p6 (ml (s1.2.1 : (List (List (T2 Int Int))))), .imm (.int s1.2.2.1), .imm (enc (s1.2.2.2 : (List (T2 Int Int)))), .imm (.int many_1), .imm (.int deep_1), .unk, .imm (.int x3.a), .imm (.int x3.b)]) L30 r19 (show (9 : Nat) < 11 by decide) (show (10 : Nat) < 11 by decide) (by decide) rfl fun _ L31 => x_yes (x_tup (x_cons (x_op (x_vI (x := x3.a) L31 rfl (x_op (x_op (x_c (x_vI (x := a__law_far) L31 rfl (x_mulL (by decide) (x_vI (x := deep_1) L31 rfl (x_mul hm28 fun z10 _ hm29 => x_r0 (x_cons (x_vI (x := x3.b) L31 rfl (x_nil (x_mkT L31 (.cons (.int _) (.cons (.int _) .nil)) (show (2 : Nat) ≤ 16777216 by decide) fun v11 _ L32 le15 r20 => have r21 : Rep _ _ _ (enc ((T2.mk ((x3.a + z10)) x3.b) : (T2 Int Int))) v11 := r20; x_cy (G := (fun (s6 : Unit) => [.mu p__law_bag_here (ml (s1.1 : (List Int))), .imm (.int a__law_far), .imm (.int z1.1), .mu p6 (ml (s1.2.1 : (List (List (T2 Int Int))))), .imm (.int s1.2.2.1), .imm (enc (s1.2.2.2 : (List (T2 Int Int)))), .imm (.int many_1), .imm (.int deep_1), .unk, .unk, .unk])) (s := s6) (s' := ()) (y := (T2.mk ((x3.a + z10)) x3.b)) (by cases hm29; cases he2; rfl) hy4 L30 L32 (.m (.i rfl (.i rfl (.m (.i rfl (.i rfl (.i rfl (.i rfl (.i rfl (.i rfl (.i rfl .e))))))))))) r21)))))))))))))))) fun p9 _ L33 le16 r22 => have L34 : Lo _ _ _ _ [.mu p__law_bag_here (ml (s1.1 : (List Int))), .imm (.int a__law_far), .imm (.int z1.1), .mu p6 (ml (s1.2.1 : (List (List (T2 Int Int))))), .imm (.int s1.2.2.1), .imm (enc (s1.2.2.2 : (List (T2 Int Int)))), .imm (.int many_1), .imm (.int deep_1), .unk, .unk, .unk] := L33; have r23 : Rep _ _ _ (enc (ys2 : (List (T2 Int Int)))) (.ref p9) := r22; x_set (d := (enc (ys2 : (List (T2 Int Int))))) (Γ' := [.mu p__law_bag_here (ml (s1.1 : (List Int))), .imm (.int a__law_far), .imm (.int z1.1), .mu p6 (ml (s1.2.1 : (List (List (T2 Int Int))))), .imm (.int s1.2.2.1), .imm (enc (s1.2.2.2 : (List (T2 Int Int)))), .imm (.int many_1), .imm (.int deep_1), .imm (enc (ys2 : (List (T2 Int Int)))), .unk, .unk]) L34 r23 (show (8 : Nat) < 11 by decide) rfl fun _ L35 => ?_)))
                refine x_asg (x_call (x_cons (x_vm L35 rfl (x_cons (x_op (x_c (x_call (x_cons (x_vm L35 rfl (x_cons (x_c (x_nil (obE hm27 fun z11 hz10 hm30 => mk__law_draw hz10 (L35.cond1 (i := 0) (.m (L35.mrep (i := 0) rfl) (.im (.int _) .nil)) rfl rfl rfl) fun _ F9 => k1 L35 F9 (i := 0) (Γ' := [.mu p__law_bag_here (ml (z11.2 : (List Int))), .imm (.int a__law_far), .imm (.int z1.1), .mu p6 (ml (s1.2.1 : (List (List (T2 Int Int))))), .imm (.int s1.2.2.1), .imm (enc (s1.2.2.2 : (List (T2 Int Int)))), .imm (.int many_1), .imm (.int deep_1), .imm (enc (ys2 : (List (T2 Int Int)))), .unk, .unk]) rfl rfl rfl fun L36 le17 => x_r0 (x_cons (x_vI (x := a__law_far) L36 rfl (x_nil (obE hm30 fun z12 hz11 hm31 => mk__law_star hz11 (L36.cond1 (i := 0) (.m (L36.mrep (i := 0) rfl) (.im (.int _) (.im (.int _) .nil))) rfl rfl rfl) fun p10 _ F10 => k1i L36 F10 (i := 0) (Γ' := [.mu p__law_bag_here (ml (z12.2 : (List Int))), .imm (.int a__law_far), .imm (.int z1.1), .mu p6 (ml (s1.2.1 : (List (List (T2 Int Int))))), .imm (.int s1.2.2.1), .imm (enc (s1.2.2.2 : (List (T2 Int Int)))), .imm (.int many_1), .imm (.int deep_1), .imm (enc (ys2 : (List (T2 Int Int)))), .unk, .unk]) rfl rfl rfl fun L37 le18 r24 => have r25 : Rep _ _ _ (enc (z12.1 : (List (T2 Int Int)))) (.ref p10) := r24; x_set (d := (enc (z12.1 : (List (T2 Int Int))))) (Γ' := [.mu p__law_bag_here (ml (z12.2 : (List Int))), .imm (.int a__law_far), .imm (.int z1.1), .mu p6 (ml (s1.2.1 : (List (List (T2 Int Int))))), .imm (.int s1.2.2.1), .imm (enc (z12.1 : (List (T2 Int Int)))), .imm (.int many_1), .imm (.int deep_1), .imm (enc (ys2 : (List (T2 Int Int)))), .unk, .unk]) L37 r25 (show (5 : Nat) < 11 by decide) rfl fun _ L38 => ?_)))))))))))))))))
                exact x_leaf (G := (fun (s3 : ((List Int) × (List (T2 Int Int)) × (List (T2 Int Int)))) => [.mu p__law_bag_here (ml (s3.1 : (List Int))), .imm (.int a__law_far), .imm (.int z1.1), .mu p6 (ml (s1.2.1 : (List (List (T2 Int Int))))), .imm (.int s1.2.2.1), .imm (enc (s3.2.1 : (List (T2 Int Int)))), .imm (.int many_1), .imm (.int deep_1), .imm (enc (s3.2.2 : (List (T2 Int Int)))), .unk, .unk])) (e := (z12.2, z12.1, ys2)) hm31 hN2 (L38.weak (Γ' := [.mu p__law_bag_here (ml (z12.2 : (List Int))), .imm (.int a__law_far), .imm (.int z1.1), .mu p6 (ml (s1.2.1 : (List (List (T2 Int Int))))), .imm (.int s1.2.2.1), .imm (enc (z12.1 : (List (T2 Int Int)))), .imm (.int many_1), .imm (.int deep_1), .imm (enc (ys2 : (List (T2 Int Int)))), .unk, .unk]) (.k (.k (.k (.k (.k (.k (.k (.k (.k (.k (.k .e))))))))))))
              refine x_seq (x_drop (x_bm (x_vm L20 rfl (x_tyM L20 (i := 3) rfl (x_cons (x_vd (d := (enc (s3.2.2 : (List (T2 Int Int))))) L20 rfl fun v13 r26 => x_nil (x_append (xs := s1.2.1) (x := s3.2.2) (i := 3) (Γ' := [.mu p__law_bag_here (ml (s3.1 : (List Int))), .imm (.int a__law_far), .imm (.int z1.1), .mu p6 (ml ((s1.2.1 ++ [s3.2.2]) : (List (List (T2 Int Int))))), .imm (.int s1.2.2.1), .imm (enc (s3.2.1 : (List (T2 Int Int)))), .imm (.int many_1), .imm (.int deep_1), .imm (enc (s3.2.2 : (List (T2 Int Int)))), .unk, .unk]) L20 rfl hm18 r26 rfl fun _ hm32 L39 le19 => ?_)))))))
              refine x_asg (x_op (x_vI (x := s1.2.2.1) L39 rfl (x_cb (x_cons (x_vd (d := (enc (s3.2.2 : (List (T2 Int Int))))) L39 rfl fun v14 r27 => x_nil (x_lenL (xs := s3.2.2) r27 (x_r0 (x_bset (x0 := (s1.2.2.1 - (s3.2.2.length : Int))) (d := fun room_1 => (.int room_1)) (Γf := fun room_1 => [.mu p__law_bag_here (ml (s3.1 : (List Int))), .imm (.int a__law_far), .imm (.int z1.1), .mu p6 (ml ((s1.2.1 ++ [s3.2.2]) : (List (List (T2 Int Int))))), .imm (.int room_1), .imm (enc (s3.2.1 : (List (T2 Int Int)))), .imm (.int many_1), .imm (.int deep_1), .imm (enc (s3.2.2 : (List (T2 Int Int)))), .unk, .unk]) hm32 L39 (.int _) (show (4 : Nat) < 11 by decide) (fun _ => rfl) fun room_1 _ hm33 L40 => ?_))))))))
              exact x_leafN (G := (fun (s1 : ((List Int) × (List (List (T2 Int Int))) × Int × (List (T2 Int Int)))) => [.mu p__law_bag_here (ml (s1.1 : (List Int))), .imm (.int a__law_far), .imm (.int z1.1), .mu p6 (ml (s1.2.1 : (List (List (T2 Int Int))))), .imm (.int s1.2.2.1), .imm (enc (s1.2.2.2 : (List (T2 Int Int)))), .imm (.int many_1), .unk, .unk, .unk, .unk])) (e := (s3.1, (s1.2.1 ++ [s3.2.2]), room_1, s3.2.1)) hm33 hN1 (L40.weak (Γ' := [.mu p__law_bag_here (ml (s3.1 : (List Int))), .imm (.int a__law_far), .imm (.int z1.1), .mu p6 (ml ((s1.2.1 ++ [s3.2.2]) : (List (List (T2 Int Int))))), .imm (.int room_1), .imm (enc (s3.2.1 : (List (T2 Int Int)))), .imm (.int many_1), .unk, .unk, .unk, .unk]) (.k (.k (.k (.k (.k (.k (.k (.d (.d (.k (.k .e))))))))))))
            · exact x_leafB (G := (fun (s1 : ((List Int) × (List (List (T2 Int Int))) × Int × (List (T2 Int Int)))) => [.mu p__law_bag_here (ml (s1.1 : (List Int))), .imm (.int a__law_far), .imm (.int z1.1), .mu p6 (ml (s1.2.1 : (List (List (T2 Int Int))))), .imm (.int s1.2.2.1), .imm (enc (s1.2.2.2 : (List (T2 Int Int)))), .imm (.int many_1), .unk, .unk, .unk, .unk])) (e := (s1.1, s1.2.1, s1.2.2.1, s1.2.2.2)) hm15 hB1 (L17.weak (Γ' := [.mu p__law_bag_here (ml (s1.1 : (List Int))), .imm (.int a__law_far), .imm (.int z1.1), .mu p6 (ml (s1.2.1 : (List (List (T2 Int Int))))), .imm (.int s1.2.2.1), .imm (enc (s1.2.2.2 : (List (T2 Int Int)))), .imm (.int many_1), .unk, .unk, .unk, .unk]) (.k (.k (.k (.k (.k (.k (.k (.k (.k (.k (.k .e))))))))))))
          exact x_ret (x_vm L18 rfl (x_finP (Q := Q) (ps := (fun (r : ((List (List (T2 Int Int))) × (List Int))) => [(p__law_bag_here, (ml (r.2 : (List Int))))])) (o := fun (r : ((List (List (T2 Int Int))) × (List Int))) => (ml (r.1 : (List (List (T2 Int Int)))))) (e := (s2.2.1, s2.1)) hm13 kont (L18.finM (p := p6) (i := 3) (hp1 (L18.mrep (i := 0) rfl)) rfl h04)))
abbrev sp__law_cloth (K : PySem.W.Frag) : Sp := fun vs H Q _ => ∃ (X : Addr → Prop) (p__law_bag_here : Addr) (a__law_bag_here : (List Int)) (r : ((T2 (List (List (T2 Int Int))) Int) × (List Int))), m__law_cloth a__law_bag_here = some r ∧ Cond K X H [.mu p__law_bag_here (ml (a__law_bag_here : (List Int)))] vs ∧ ∀ v H', Fin K X H [p__law_bag_here] [(p__law_bag_here, (ml (r.2 : (List Int))))] (.imm (enc (r.1 : (T2 (List (List (T2 Int Int))) Int)))) v H' → Q v H'
theorem mk__law_cloth {K : PySem.W.Frag} {X : Addr → Prop} {H : Hp} {vs : List V} {Q : VK} {E : XK} {p__law_bag_here : Addr} {a__law_bag_here : (List Int)} {r : ((T2 (List (List (T2 Int Int))) Int) × (List Int))} (hm : m__law_cloth a__law_bag_here = some r) (c : Cond K X H [.mu p__law_bag_here (ml (a__law_bag_here : (List Int)))] vs) (k : ∀ v H', Fin K X H [p__law_bag_here] [(p__law_bag_here, (ml (r.2 : (List Int))))] (.imm (enc (r.1 : (T2 (List (List (T2 Int Int))) Int)))) v H' → Q v H') : sp__law_cloth K vs H Q E := ⟨X, p__law_bag_here, a__law_bag_here, r, hm, c, k⟩
abbrev n__law_cloth : List Str := ["_law_bag_here", "_law_bottom", "_law_far", "_law_rings_here", "_law_ring", "_law_turn"]
theorem sc__law_cloth : FnScope n__law_cloth ["_law_bag_here"] (defScope s__law_cloth) := ⟨rfl, rfl, rfl, by decide +kernel, rfl, by decide +kernel, by decide +kernel⟩
theorem ok__law_cloth (T : Txt K mg) : FnOk P w K mg base CX0 4 T.A__law_cloth T.D__law_cloth ["_law_bag_here"] (sp__law_cloth K) := by
  refine Fun.ok T.F__law_cloth sc__law_cloth (fun vs H Q E h => ?_) (fun cdv A outer s H vs Q E hr h => ?_)
  · obtain ⟨X, p__law_bag_here, a__law_bag_here, r, hm, c, kont⟩ := h
    exact c.len
  · obtain ⟨X, p__law_bag_here, a__law_bag_here, r, hm, c, kont⟩ := h
    refine ⟨_, (pss_cons (ps_set (i := 1) sc__law_cloth.nd rfl (Or.inl rfl) (pe_op op_add pe_int (pe_call (ok__law_draw T) (hr.mono (by decide)) (by rfl) T.g__law_draw T.F__law_draw.kp T.b__law_draw .nil pass0 (pa_cons (pv 0) (pa_cons pe_int pa_nil)))))
      (pss_cons (ps_set (i := 2) sc__law_cloth.nd rfl (Or.inl rfl) pe_int)
      (pss_cons (ps_if (pt_cmpR op_eq (pe_call (ok__law_draw T) (hr.mono (by decide)) (by rfl) T.g__law_draw T.F__law_draw.kp T.b__law_draw .nil pass0 (pa_cons (pv 0) (pa_cons pe_int pa_nil))) pe_int (nomark _)) (pss_cons (ps_set (i := 1) sc__law_cloth.nd rfl (Or.inl rfl) (pe_op op_add pe_int (pe_call (ok__law_draw T) (hr.mono (by decide)) (by rfl) T.g__law_draw T.F__law_draw.kp T.b__law_draw .nil pass0 (pa_cons (pv 0) (pa_cons (pe_op op_pow pe_int pe_int) pa_nil)))))
      (pss_one (ps_set (i := 2) sc__law_cloth.nd rfl (Or.inl rfl) (pe_op op_pow pe_int pe_int)))) pss_nil)
      (pss_cons (ps_set (i := 3) sc__law_cloth.nd rfl (Or.inl rfl) (pe_lst pa_nil))
      (pss_cons (ps_for PassesOwn.never rfl (pi_list (pe_call (ok__law_rings T) hr (by rfl) T.g__law_rings T.F__law_rings.kp T.b__law_rings .nil pass0 (pa_cons (pv 0) (pa_cons (pv 2) pa_nil)))) (pg_name (i := 4) sc__law_cloth.nd rfl (Or.inl rfl)) (pss_cons (ps_set (i := 5) sc__law_cloth.nd rfl (Or.inl rfl) (pe_call (ok__law_draw T) (hr.mono (by decide)) (by rfl) T.g__law_draw T.F__law_draw.kp T.b__law_draw .nil pass0 (pa_cons (pv 0) (pa_cons (pe_callB (r := rLenX K) call_lenX (by rfl) T.z_len (by decide +kernel) (pa_cons (pv 4) pa_nil)) pa_nil))))
      (pss_one (ps_expr (pe_bm PySem.F.plainAttrs_list PySem.F.slot_list_append PySem.F.type_list_append mt_append (pv 3) (pa_cons (pe_op op_catR (pe_slice (r := rSlL K) sl_list (pv 4) (po_some (pv 5)) po_none) (pe_slice (r := rSlL K) sl_list (pv 4) po_none (po_some (pv 5)))) pa_nil))))))
      (pss_one (ps_ret (pe_tup (pa_cons (pv 3) (pa_cons (pv 1) pa_nil)))))))))), ?_⟩
    have L0 : Lo ⟨K, X, H, muts [.mu p__law_bag_here (ml (a__law_bag_here : (List Int)))], n__law_cloth.length⟩ X H (L2.start n__law_cloth vs) [.mu p__law_bag_here (ml (a__law_bag_here : (List Int))), .unk, .unk, .unk, .unk, .unk] := c.start n__law_cloth (show (1 : Nat) ≤ 6 by decide)
    unfold m__law_cloth at hm
    refine x_seq (x_asg (x_op (x_c (x_call (x_cons (x_vm L0 rfl (x_cons (x_c (x_nil (obE hm fun z1 hz1 hm1 => mk__law_draw hz1 (L0.cond1 (i := 0) (.m (L0.mrep (i := 0) rfl) (.im (.int _) .nil)) rfl rfl rfl) fun _ F1 => k1 L0 F1 (i := 0) (Γ' := [.mu p__law_bag_here (ml (z1.2 : (List Int))), .unk, .unk, .unk, .unk, .unk]) rfl rfl rfl fun L1 le1 => x_r0 (x_bset (x0 := (1 + z1.1)) (d := fun bottom_1 => (.int bottom_1)) (Γf := fun bottom_1 => [.mu p__law_bag_here (ml (z1.2 : (List Int))), .imm (.int bottom_1), .unk, .unk, .unk, .unk]) hm1 L1 (.int _) (show (1 : Nat) < 6 by decide) (fun _ => rfl) fun bottom_1 _ hm2 L2 => ?_)))))))))))
    refine x_seq (x_asg (x_c (x_set (d := (.int 6)) (Γ' := [.mu p__law_bag_here (ml (z1.2 : (List Int))), .imm (.int bottom_1), .imm (.int 6), .unk, .unk, .unk]) L2 (.int _) (show (2 : Nat) < 6 by decide) rfl fun _ L3 => ?_)))
    refine x_seq (x_ifS (x_test (x_op (x_call (x_cons (x_vm L3 rfl (x_cons (x_c (x_nil (obE hm2 fun z2 hz2 hm3 => mk__law_draw hz2 (L3.cond1 (i := 0) (.m (L3.mrep (i := 0) rfl) (.im (.int _) .nil)) rfl rfl rfl) fun _ F2 => k1 L3 F2 (i := 0) (Γ' := [.mu p__law_bag_here (ml (z2.2 : (List Int))), .imm (.int bottom_1), .imm (.int 6), .unk, .unk, .unk]) rfl rfl rfl fun L4 le2 => x_c (x_eqi (x_kb (x_join (G := (fun (s1 : ((List Int) × Int × Int)) => [.mu p__law_bag_here (ml (s1.1 : (List Int))), .imm (.int s1.2.1), .imm (.int s1.2.2), .unk, .unk, .unk])) L4 hm3 (fun _ hm4 _ hN1 => ?_) (fun _ hm4 _ hN1 => ?_) fun s1 X1 _ _ hm5 L5 => ?_)))))))))))))
    · refine x_seq (x_asg (x_op (x_c (x_call (x_cons (x_vm L4 rfl (x_cons (x_op (x_c (x_c (x_powc (n := 1000000) ⟨by decide, by decide, by decide⟩ (by decide +kernel) (x_nil (obE hm4 fun z3 hz3 hm6 => mk__law_draw hz3 (L4.cond1 (i := 0) (.m (L4.mrep (i := 0) rfl) (.im (.int _) .nil)) rfl rfl rfl) fun _ F3 => k1 L4 F3 (i := 0) (Γ' := [.mu p__law_bag_here (ml (z3.2 : (List Int))), .imm (.int bottom_1), .imm (.int 6), .unk, .unk, .unk]) rfl rfl rfl fun L6 le3 => x_r0 (x_bset (x0 := (1 + z3.1)) (d := fun bottom_2 => (.int bottom_2)) (Γf := fun bottom_2 => [.mu p__law_bag_here (ml (z3.2 : (List Int))), .imm (.int bottom_2), .imm (.int 6), .unk, .unk, .unk]) hm6 L6 (.int _) (show (1 : Nat) < 6 by decide) (fun _ => rfl) fun bottom_2 _ hm7 L7 => ?_))))))))))))))
      refine x_asg (x_op (x_c (x_c (x_powc (n := 1000000) ⟨by decide, by decide, by decide⟩ (by decide +kernel) (x_set (d := (.int 1000000)) (Γ' := [.mu p__law_bag_here (ml (z3.2 : (List Int))), .imm (.int bottom_2), .imm (.int 1000000), .unk, .unk, .unk]) L7 (.int _) (show (2 : Nat) < 6 by decide) rfl fun _ L8 => ?_)))))
      exact x_leaf (G := (fun (s1 : ((List Int) × Int × Int)) => [.mu p__law_bag_here (ml (s1.1 : (List Int))), .imm (.int s1.2.1), .imm (.int s1.2.2), .unk, .unk, .unk])) (e := (z3.2, bottom_2, 1000000)) hm7 hN1 (L8.weak (Γ' := [.mu p__law_bag_here (ml (z3.2 : (List Int))), .imm (.int bottom_2), .imm (.int 1000000), .unk, .unk, .unk]) (.k (.k (.k (.k (.k (.k .e)))))))
    · refine x_next ?_
      exact x_leaf (G := (fun (s1 : ((List Int) × Int × Int)) => [.mu p__law_bag_here (ml (s1.1 : (List Int))), .imm (.int s1.2.1), .imm (.int s1.2.2), .unk, .unk, .unk])) (e := (z2.2, bottom_1, 6)) hm4 hN1 (L4.weak (Γ' := [.mu p__law_bag_here (ml (z2.2 : (List Int))), .imm (.int bottom_1), .imm (.int 6), .unk, .unk, .unk]) (.k (.k (.k (.k (.k (.k .e)))))))
    refine x_seq (x_asg (x_lst (x_nil (x_mkN L5 .nil (show (0 : Nat) ≤ 16777216 by decide) fun p1 _ _ h01 hx1 L9 le4 => x_setN (Γ := [.mu p__law_bag_here (ml (s1.1 : (List Int))), .imm (.int s1.2.1), .imm (.int s1.2.2), .unk, .unk, .unk]) (p := p1) (o := (ml (([] : (List (List (T2 Int Int)))) : (List (List (T2 Int Int)))))) (Γ' := [.mu p__law_bag_here (ml (s1.1 : (List Int))), .imm (.int s1.2.1), .imm (.int s1.2.2), .mu p1 (ml (([] : (List (List (T2 Int Int)))) : (List (List (T2 Int Int))))), .unk, .unk]) L9 (show (3 : Nat) < 6 by decide) (show (3 : Nat) < 6 by decide) rfl fun _ L10 => ?_))))
    refine x_seq (x_tforL (x_call (x_cons (x_vm L10 rfl (x_cons (x_vI (x := s1.2.2) L10 rfl (x_nil (obE hm5 fun z4 hz4 hm8 => mk__law_rings hz4 (L10.cond1 (i := 0) (.m (L10.mrep (i := 0) rfl) (.im (.int _) .nil)) rfl rfl rfl) fun p2 _ F4 => k1i L10 F4 (i := 0) (Γ' := [.mu p__law_bag_here (ml (z4.2 : (List Int))), .imm (.int s1.2.1), .imm (.int s1.2.2), .mu p1 (ml (([] : (List (List (T2 Int Int)))) : (List (List (T2 Int Int))))), .unk, .unk]) rfl rfl rfl fun L11 le5 r1 => have r2 : Rep _ _ _ (enc (z4.1 : (List (List (T2 Int Int))))) (.ref p2) := r1; x_foL (G := (fun (s2 : ((List Int) × (List (List (T2 Int Int))))) => [.mu p__law_bag_here (ml (s2.1 : (List Int))), .imm (.int s1.2.1), .imm (.int s1.2.2), .mu p1 (ml (s2.2 : (List (List (T2 Int Int))))), .unk, .unk])) (s0 := (z4.2, ([] : (List (List (T2 Int Int)))))) (xs := z4.1) (L11.weak (Γ' := [.mu p__law_bag_here (ml (z4.2 : (List Int))), .imm (.int s1.2.1), .imm (.int s1.2.2), .mu p1 (ml (([] : (List (List (T2 Int Int)))) : (List (List (T2 Int Int))))), .unk, .unk]) (.k (.k (.k (.k (.k (.k .e))))))) (fun _ _ => rfl) r2 hm8 (fun x1 s2 H1 _ u1 _ _ _ _ _ hm9 L12 r3 hN2 hC1 => ?_) (fun s3 _ _ hm10 L13 => ?_)))))))))
    · refine x_set (d := (enc (x1 : (List (T2 Int Int))))) (Γ' := [.mu p__law_bag_here (ml (s2.1 : (List Int))), .imm (.int s1.2.1), .imm (.int s1.2.2), .mu p1 (ml (s2.2 : (List (List (T2 Int Int))))), .imm (enc (x1 : (List (T2 Int Int)))), .unk]) L12 r3 (show (4 : Nat) < 6 by decide) rfl fun _ L14 => ?_
      refine x_seq (x_asg (x_call (x_cons (x_vm L14 rfl (x_cons (x_cb (x_cons (x_vd (d := (enc (x1 : (List (T2 Int Int))))) L14 rfl fun v4 r4 => x_nil (x_lenL (xs := x1) r4 (x_nil (obE hm9 fun z5 hz5 hm12 => mk__law_draw hz5 (L14.cond1 (i := 0) (.m (L14.mrep (i := 0) rfl) (.im (.int _) .nil)) rfl rfl rfl) fun _ F6 => k1 L14 F6 (i := 0) (Γ' := [.mu p__law_bag_here (ml (z5.2 : (List Int))), .imm (.int s1.2.1), .imm (.int s1.2.2), .mu p1 (ml (s2.2 : (List (List (T2 Int Int))))), .imm (enc (x1 : (List (T2 Int Int)))), .unk]) rfl rfl rfl fun L15 le6 => x_set (d := (.int z5.1)) (Γ' := [.mu p__law_bag_here (ml (z5.2 : (List Int))), .imm (.int s1.2.1), .imm (.int s1.2.2), .mu p1 (ml (s2.2 : (List (List (T2 Int Int))))), .imm (enc (x1 : (List (T2 Int Int)))), .imm (.int z5.1)]) L15 (.int _) (show (5 : Nat) < 6 by decide) rfl fun _ L16 => ?_)))))))))))
      refine x_drop (x_bm (x_vm L16 rfl (x_tyM L16 (i := 3) rfl (x_cons (x_op (x_sl (x_vd (d := (enc (x1 : (List (T2 Int Int))))) L16 rfl fun v6 r5 => x_part (x_vI (x := z5.1) L16 rfl (x_partK (x_noP (x_slL (xs := x1) L16 r5 fun v7 _ L17 le7 r6 => have r7 : Rep _ _ _ (enc ((slice x1 (some z5.1) none) : (List (T2 Int Int)))) v7 := r6; x_sl (x_vd (d := (enc (x1 : (List (T2 Int Int))))) L17 rfl fun v8 r8 => x_noP (x_part (x_vI (x := z5.1) L17 rfl (x_partK (x_slL (xs := x1) L17 r8 fun v9 _ L18 le8 r9 => have r10 := le8 _ _ r7; have r11 : Rep _ _ _ (enc ((slice x1 none (some z5.1)) : (List (T2 Int Int)))) v9 := r9; x_cat L18 hm12 r10 r11 fun v10 _ hm13 L19 le9 r12 => have r13 : Rep _ _ _ (enc (((slice x1 (some z5.1) none) ++ (slice x1 none (some z5.1))) : (List (T2 Int Int)))) v10 := r12; x_nil (x_append (xs := s2.2) (x := ((slice x1 (some z5.1) none) ++ (slice x1 none (some z5.1)))) (i := 3) (Γ' := [.mu p__law_bag_here (ml (z5.2 : (List Int))), .imm (.int s1.2.1), .imm (.int s1.2.2), .mu p1 (ml ((s2.2 ++ [((slice x1 (some z5.1) none) ++ (slice x1 none (some z5.1)))]) : (List (List (T2 Int Int))))), .imm (enc (x1 : (List (T2 Int Int)))), .imm (.int z5.1)]) L19 rfl hm13 r13 rfl fun _ hm14 L20 le10 => ?_)))))))))))))))))
      exact x_leaf (G := (fun (s2 : ((List Int) × (List (List (T2 Int Int))))) => [.mu p__law_bag_here (ml (s2.1 : (List Int))), .imm (.int s1.2.1), .imm (.int s1.2.2), .mu p1 (ml (s2.2 : (List (List (T2 Int Int))))), .unk, .unk])) (e := (z5.2, (s2.2 ++ [((slice x1 (some z5.1) none) ++ (slice x1 none (some z5.1)))]))) hm14 hN2 (L20.weak (Γ' := [.mu p__law_bag_here (ml (z5.2 : (List Int))), .imm (.int s1.2.1), .imm (.int s1.2.2), .mu p1 (ml ((s2.2 ++ [((slice x1 (some z5.1) none) ++ (slice x1 none (some z5.1)))]) : (List (List (T2 Int Int))))), .unk, .unk]) (.k (.k (.k (.k (.d (.d .e)))))))
    have L21 : Lo _ _ _ _ [.mu p__law_bag_here (ml (s3.1 : (List Int))), .imm (.int s1.2.1), .imm (.int s1.2.2), .imm (enc (s3.2 : (List (List (T2 Int Int))))), .unk, .unk] := L13.freeze (i := 3) rfl hx1
    exact x_ret (x_tup (x_cons (x_vd (d := (enc (s3.2 : (List (List (T2 Int Int)))))) L21 rfl fun v11 r14 => x_cons (x_vI (x := s1.2.1) L21 rfl (x_nil (x_mkT L21 (.cons r14 (.cons (.int _) .nil)) (show (2 : Nat) ≤ 16777216 by decide) fun v12 _ L22 le11 r15 => have r16 : Rep _ _ _ (enc ((T2.mk s3.2 s1.2.1) : (T2 (List (List (T2 Int Int))) Int))) v12 := r15; x_fin (Q := Q) (ps := (fun (r : ((T2 (List (List (T2 Int Int))) Int) × (List Int))) => [(p__law_bag_here, (ml (r.2 : (List Int))))])) (rs := (fun (r : ((T2 (List (List (T2 Int Int))) Int) × (List Int))) => (.imm (enc (r.1 : (T2 (List (List (T2 Int Int))) Int)))))) (e := ((T2.mk s3.2 s1.2.1), s3.1)) hm10 kont (L22.fin (hp1 (L22.mrep (i := 0) rfl)) r16)))))))
abbrev sp__law_measure (K : PySem.W.Frag) : Sp := fun vs H Q _ => ∃ (X : Addr → Prop)  (a__law_one : Int) (a__law_other : Int) (r : Int), m__law_measure a__law_one a__law_other = some r ∧ Cond K X H [.imm (.int a__law_one), .imm (.int a__law_other)] vs ∧ ∀ H', Fin K X H [] [] (.imm (.int r)) (.int r) H' → Q (.int r) H'
theorem mk__law_measure {K : PySem.W.Frag} {X : Addr → Prop} {H : Hp} {vs : List V} {Q : VK} {E : XK}  {a__law_one : Int} {a__law_other : Int} {r : Int} (hm : m__law_measure a__law_one a__law_other = some r) (c : Cond K X H [.imm (.int a__law_one), .imm (.int a__law_other)] vs) (k : ∀ H', Fin K X H [] [] (.imm (.int r)) (.int r) H' → Q (.int r) H') : sp__law_measure K vs H Q E := ⟨X, a__law_one, a__law_other, r, hm, c, k⟩
abbrev n__law_measure : List Str := ["_law_one", "_law_other", "_law_rest"]
theorem sc__law_measure : FnScope n__law_measure ["_law_one", "_law_other"] (defScope s__law_measure) := ⟨rfl, rfl, rfl, by decide +kernel, rfl, by decide +kernel, by decide +kernel⟩
theorem ok__law_measure (T : Txt K mg) : FnOk P w K mg base CX0 1 T.A__law_measure T.D__law_measure ["_law_one", "_law_other"] (sp__law_measure K) := by
  refine Fun.ok T.F__law_measure sc__law_measure (fun vs H Q E h => ?_) (fun cdv A outer s H vs Q E hr h => ?_)
  · obtain ⟨X, a__law_one, a__law_other, r, hm, c, kont⟩ := h
    exact c.len
  · obtain ⟨X, a__law_one, a__law_other, r, hm, c, kont⟩ := h
    refine ⟨_, (pss_cons (ps_set (i := 0) sc__law_measure.nd rfl (Or.inl rfl) (pe_callB call_absX (by rfl) T.z_abs (by decide +kernel) (pa_cons (pv 0) pa_nil)))
      (pss_cons (ps_set (i := 1) sc__law_measure.nd rfl (Or.inl rfl) (pe_callB call_absX (by rfl) T.z_abs (by decide +kernel) (pa_cons (pv 1) pa_nil)))
      (pss_cons (ps_while PassesOwn.never (pt_cmpR op_gt (pv 1) pe_int (nomark _)) (pss_cons (ps_set (i := 2) sc__law_measure.nd rfl (Or.inl rfl) (pe_op op_modN (pv 0) (pv 1)))
      (pss_cons (ps_set (i := 0) sc__law_measure.nd rfl (Or.inl rfl) (pv 1))
      (pss_one (ps_set (i := 1) sc__law_measure.nd rfl (Or.inl rfl) (pv 2))))))
      (pss_one (ps_ret (pv 0)))))), ?_⟩
    have L0 : Lo ⟨K, X, H, muts [.imm (.int a__law_one), .imm (.int a__law_other)], n__law_measure.length⟩ X H (L2.start n__law_measure vs) [.imm (.int a__law_one), .imm (.int a__law_other), .unk] := c.start n__law_measure (show (2 : Nat) ≤ 3 by decide)
    unfold m__law_measure at hm
    refine x_seq (x_asg (x_cb (x_cons (x_vI (x := a__law_one) L0 rfl (x_nil (x_abs (x_bset (x0 := (iabs a__law_one)) (d := fun one_1 => (.int one_1)) (Γf := fun one_1 => [.imm (.int one_1), .imm (.int a__law_other), .unk]) hm L0 (.int _) (show (0 : Nat) < 3 by decide) (fun _ => rfl) fun one_1 _ hm1 L1 => ?_)))))))
    refine x_seq (x_asg (x_cb (x_cons (x_vI (x := a__law_other) L1 rfl (x_nil (x_abs (x_bset (x0 := (iabs a__law_other)) (d := fun other_1 => (.int other_1)) (Γf := fun other_1 => [.imm (.int one_1), .imm (.int other_1), .unk]) hm1 L1 (.int _) (show (1 : Nat) < 3 by decide) (fun _ => rfl) fun other_1 _ hm2 L2 => ?_)))))))
    refine x_seq (x_wh (n := other_1.natAbs + 2) (G := (fun (s1 : (Int × Int)) => [.imm (.int s1.1), .imm (.int s1.2), .unk])) (s0 := (one_1, other_1)) (ρ := Empty) (ps := fun _ => []) (rs := fun _ => .imm .none) (L2.weak (Γ' := [.imm (.int one_1), .imm (.int other_1), .unk]) (.k (.k (.k .e)))) (fun _ _ => rfl) hm2 (fun s1 H1 _ _ _ _ _ _ hm3 L3 hN1 hC1 hB1 hR1 _ hQ1 => ?_) (fun s2 _ _ hm4 L4 => ?_) (fun q => q.elim))
    · refine x_test (x_op (x_vI (x := s1.2) L3 rfl (x_c (x_r0 (x_kb (hQ1 _ _ (x_whIf hm3 (fun hm6 => ?_) fun hm6 => ?_)))))))
      · refine x_seq (x_asg (x_op (x_vI (x := s1.1) L3 rfl (x_vI (x := s1.2) L3 rfl (x_mod hm6 fun z1 _ hm7 => x_set (d := (.int z1)) (Γ' := [.imm (.int s1.1), .imm (.int s1.2), .imm (.int z1)]) L3 (.int _) (show (2 : Nat) < 3 by decide) rfl fun _ L5 => ?_)))))
        refine x_seq (x_asg (x_vI (x := s1.2) L5 rfl (x_set (d := (.int s1.2)) (Γ' := [.imm (.int s1.2), .imm (.int s1.2), .imm (.int z1)]) L5 (.int _) (show (0 : Nat) < 3 by decide) rfl fun _ L6 => ?_)))
        refine x_asg (x_vI (x := z1) L6 rfl (x_set (d := (.int z1)) (Γ' := [.imm (.int s1.2), .imm (.int z1), .imm (.int z1)]) L6 (.int _) (show (1 : Nat) < 3 by decide) rfl fun _ L7 => ?_))
        exact x_leafN (G := (fun (s1 : (Int × Int)) => [.imm (.int s1.1), .imm (.int s1.2), .unk])) (e := (s1.2, z1)) hm7 hN1 (L7.weak (Γ' := [.imm (.int s1.2), .imm (.int z1), .unk]) (.k (.k (.d .e))))
      · exact x_leafB (G := (fun (s1 : (Int × Int)) => [.imm (.int s1.1), .imm (.int s1.2), .unk])) (e := (s1.1, s1.2)) hm6 hB1 (L3.weak (Γ' := [.imm (.int s1.1), .imm (.int s1.2), .unk]) (.k (.k (.k .e))))
    exact x_ret (x_vI (x := s2.1) L4 rfl (x_finI (Q := Q) (ps := (fun (r : Int) => [])) (sc := fun (r : Int) => r) s2.1 hm4 kont (L4.fin hp0 (.int _))))
abbrev sp__law_spot (K : PySem.W.Frag) : Sp := fun vs H Q _ => ∃ (X : Addr → Prop)  (a__law_x : Int) (a__law_y : Int) (a__law_bottom : Int) (r : (T3 Int Int Int)), m__law_spot a__law_x a__law_y a__law_bottom = some r ∧ Cond K X H [.imm (.int a__law_x), .imm (.int a__law_y), .imm (.int a__law_bottom)] vs ∧ ∀ v H', Fin K X H [] [] (.imm (enc (r : (T3 Int Int Int)))) v H' → Q v H'
theorem mk__law_spot {K : PySem.W.Frag} {X : Addr → Prop} {H : Hp} {vs : List V} {Q : VK} {E : XK}  {a__law_x : Int} {a__law_y : Int} {a__law_bottom : Int} {r : (T3 Int Int Int)} (hm : m__law_spot a__law_x a__law_y a__law_bottom = some r) (c : Cond K X H [.imm (.int a__law_x), .imm (.int a__law_y), .imm (.int a__law_bottom)] vs) (k : ∀ v H', Fin K X H [] [] (.imm (enc (r : (T3 Int Int Int)))) v H' → Q v H') : sp__law_spot K vs H Q E := ⟨X, a__law_x, a__law_y, a__law_bottom, r, hm, c, k⟩
abbrev n__law_spot : List Str := ["_law_x", "_law_y", "_law_bottom", "_law_often"]
theorem sc__law_spot : FnScope n__law_spot ["_law_x", "_law_y", "_law_bottom"] (defScope s__law_spot) := ⟨rfl, rfl, rfl, by decide +kernel, rfl, by decide +kernel, by decide +kernel⟩
theorem ok__law_spot (T : Txt K mg) : FnOk P w K mg base CX0 2 T.A__law_spot T.D__law_spot ["_law_x", "_law_y", "_law_bottom"] (sp__law_spot K) := by
  refine Fun.ok T.F__law_spot sc__law_spot (fun vs H Q E h => ?_) (fun cdv A outer s H vs Q E hr h => ?_)
  · obtain ⟨X, a__law_x, a__law_y, a__law_bottom, r, hm, c, kont⟩ := h
    exact c.len
  · obtain ⟨X, a__law_x, a__law_y, a__law_bottom, r, hm, c, kont⟩ := h
    refine ⟨_, (pss_cons (ps_set (i := 3) sc__law_spot.nd rfl (Or.inl rfl) (pe_call (ok__law_measure T) hr (by rfl) T.g__law_measure T.F__law_measure.kp T.b__law_measure .nil pass0 (pa_cons (pe_call (ok__law_measure T) hr (by rfl) T.g__law_measure T.F__law_measure.kp T.b__law_measure .nil pass0 (pa_cons (pv 0) (pa_cons (pv 1) pa_nil))) (pa_cons (pv 2) pa_nil))))
      (pss_one (ps_ret (pe_tup (pa_cons (pe_op op_divG (pv 0) (pv 3)) (pa_cons (pe_op op_divG (pv 1) (pv 3)) (pa_cons (pe_op op_divG (pv 2) (pv 3)) pa_nil))))))), ?_⟩
    have L0 : Lo ⟨K, X, H, muts [.imm (.int a__law_x), .imm (.int a__law_y), .imm (.int a__law_bottom)], n__law_spot.length⟩ X H (L2.start n__law_spot vs) [.imm (.int a__law_x), .imm (.int a__law_y), .imm (.int a__law_bottom), .unk] := c.start n__law_spot (show (3 : Nat) ≤ 4 by decide)
    unfold m__law_spot at hm
    refine x_seq (x_asg (x_call (x_cons (x_call (x_cons (x_vI (x := a__law_x) L0 rfl (x_cons (x_vI (x := a__law_y) L0 rfl (x_nil (obE hm fun z1 hz1 hm1 => mk__law_measure hz1 (L0.cond0 (.im (.int _) (.im (.int _) .nil)) rfl) fun _ F1 => k0 L0 F1 fun L1 le1 => x_cons (x_vI (x := a__law_bottom) L1 rfl (x_nil (obE hm1 fun z2 hz2 hm2 => mk__law_measure hz2 (L1.cond0 (.im (.int _) (.im (.int _) .nil)) rfl) fun _ F2 => k0 L1 F2 fun L2 le2 => x_set (d := (.int z2)) (Γ' := [.imm (.int a__law_x), .imm (.int a__law_y), .imm (.int a__law_bottom), .imm (.int z2)]) L2 (.int _) (show (3 : Nat) < 4 by decide) rfl fun _ L3 => ?_)))))))))))))
    exact x_ret (x_tup (x_cons (x_op (x_vI (x := a__law_x) L3 rfl (x_vI (x := z2) L3 rfl (x_div hm2 fun z3 _ hm3 => x_cons (x_op (x_vI (x := a__law_y) L3 rfl (x_vI (x := z2) L3 rfl (x_div hm3 fun z4 _ hm4 => x_cons (x_op (x_vI (x := a__law_bottom) L3 rfl (x_vI (x := z2) L3 rfl (x_div hm4 fun z5 _ hm5 => x_nil (x_mkT L3 (.cons (.int _) (.cons (.int _) (.cons (.int _) .nil))) (show (3 : Nat) ≤ 16777216 by decide) fun v3 _ L4 le3 r1 => have r2 : Rep _ _ _ (enc ((T3.mk z3 z4 z5) : (T3 Int Int Int))) v3 := r1; x_fin (Q := Q) (ps := (fun (r : (T3 Int Int Int)) => [])) (rs := (fun (r : (T3 Int Int Int)) => (.imm (enc (r : (T3 Int Int Int)))))) (e := (T3.mk z3 z4 z5)) hm5 kont (L4.fin hp0 r2))))))))))))))))
abbrev sp__law_told (K : PySem.W.Frag) : Sp := fun vs H Q _ => ∃ (X : Addr → Prop)  (a__law_cloth_here : (T2 (List (List (T2 Int Int))) Int)) (r : (List (List (T3 Int Int Int)))), m__law_told a__law_cloth_here = some r ∧ Cond K X H [.imm (enc (a__law_cloth_here : (T2 (List (List (T2 Int Int))) Int)))] vs ∧ ∀ p H', Fin K X H [] [] (.new (ml (r : (List (List (T3 Int Int Int)))))) (.ref p) H' → Q (.ref p) H'
theorem mk__law_told {K : PySem.W.Frag} {X : Addr → Prop} {H : Hp} {vs : List V} {Q : VK} {E : XK}  {a__law_cloth_here : (T2 (List (List (T2 Int Int))) Int)} {r : (List (List (T3 Int Int Int)))} (hm : m__law_told a__law_cloth_here = some r) (c : Cond K X H [.imm (enc (a__law_cloth_here : (T2 (List (List (T2 Int Int))) Int)))] vs) (k : ∀ p H', Fin K X H [] [] (.new (ml (r : (List (List (T3 Int Int Int)))))) (.ref p) H' → Q (.ref p) H') : sp__law_told K vs H Q E := ⟨X, a__law_cloth_here, r, hm, c, k⟩
abbrev n__law_told : List Str := ["_law_cloth_here", "_law_rings_here", "_law_bottom", "_law_ring", "_law_x", "_law_y"]
theorem sc__law_told : FnScope n__law_told ["_law_cloth_here"] (defScope s__law_told) := ⟨rfl, rfl, rfl, by decide +kernel, rfl, by decide +kernel, by decide +kernel⟩
theorem ok__law_told (T : Txt K mg) : FnOk P w K mg base CX0 3 T.A__law_told T.D__law_told ["_law_cloth_here"] (sp__law_told K) := by
  refine Fun.ok T.F__law_told sc__law_told (fun vs H Q E h => ?_) (fun cdv A outer s H vs Q E hr h => ?_)
  · obtain ⟨X, a__law_cloth_here, r, hm, c, kont⟩ := h
    exact c.len
  · obtain ⟨X, a__law_cloth_here, r, hm, c, kont⟩ := h
    refine ⟨_, (pss_cons (ps_asg (pv 0) (pg_tup rfl (pgs_cons (pg_name (i := 1) sc__law_told.nd rfl (Or.inl rfl)) (pgs_cons (pg_name (i := 2) sc__law_told.nd rfl (Or.inr rfl)) pgs_nil))))
      (pss_one (ps_ret (pe_lc (own := [("_law_ring", 3)]) (g := gName 3) (tt := tYes) rfl sc__law_told.nd (pi_list (pv 1)) (blkOk_by (N := n__law_told) (sc := defScope s__law_told) (by decide +kernel)) (fun _ _ _ _ _ => (pg_name (i := 3) sc__law_told.nd rfl (Or.inl rfl))) (fun _ _ _ _ _ => pts_nil) (fun _ _ _ _ _ => (pe_lc (own := [("_law_x", 4), ("_law_y", 5)]) (g := gTup K 2 (gCons (gName 4) (gCons (gName 5) gNil))) (tt := tYes) rfl sc__law_told.nd (pi_listK (K := K) rfl (pv 3)) (blkOk_in (N := n__law_told) (by decide +kernel)) (fun _ _ _ _ _ => (pg_tup rfl (pgs_cons (pg_name (i := 4) sc__law_told.nd rfl (Or.inl rfl)) (pgs_cons (pg_name (i := 5) sc__law_told.nd rfl (Or.inl rfl)) pgs_nil)))) (fun _ _ _ _ _ => pts_nil) (fun _ _ _ _ _ => (pe_call (ok__law_spot T) hr (by rfl) T.g__law_spot T.F__law_spot.kp T.b__law_spot .nil pass0 (pa_cons (pv 4) (pa_cons (pv 5) (pa_cons (pv 2) pa_nil))))))))))), ?_⟩
    have L0 : Lo ⟨K, X, H, muts [.imm (enc (a__law_cloth_here : (T2 (List (List (T2 Int Int))) Int)))], n__law_told.length⟩ X H (L2.start n__law_told vs) [.imm (enc (a__law_cloth_here : (T2 (List (List (T2 Int Int))) Int))), .unk, .unk, .unk, .unk, .unk] := c.start n__law_told (show (1 : Nat) ≤ 6 by decide)
    unfold m__law_told at hm
    refine x_seq (x_asg (x_vd (d := (enc (a__law_cloth_here : (T2 (List (List (T2 Int Int))) Int)))) L0 rfl fun v1 r1 => x_gTup r1 rfl fun vs1 rs1 => x_gCons rs1 fun v2 _ r2 rs2 => x_set (d := (enc (a__law_cloth_here.a : (List (List (T2 Int Int)))))) (Γ' := [.imm (enc (a__law_cloth_here : (T2 (List (List (T2 Int Int))) Int))), .imm (enc (a__law_cloth_here.a : (List (List (T2 Int Int))))), .unk, .unk, .unk, .unk]) L0 r2 (show (1 : Nat) < 6 by decide) rfl fun _ L1 => x_gCons rs2 fun v3 _ r3 rs3 => x_set (d := (.int a__law_cloth_here.b)) (Γ' := [.imm (enc (a__law_cloth_here : (T2 (List (List (T2 Int Int))) Int))), .imm (enc (a__law_cloth_here.a : (List (List (T2 Int Int))))), .imm (.int a__law_cloth_here.b), .unk, .unk, .unk]) L1 r3 (show (2 : Nat) < 6 by decide) rfl fun _ L2 => x_gNil rs3 (?_)))
    exact x_ret (x_lcl (x_vd (d := (enc (a__law_cloth_here.a : (List (List (T2 Int Int)))))) L2 rfl fun v4 r4 => obE hm fun _ hl1 hm1 => obE hm1 fun ys1 hy1 hm2 => x_lcLN (G := (fun (s1 : Unit) => [.imm (enc (a__law_cloth_here : (T2 (List (List (T2 Int Int))) Int))), .imm (enc (a__law_cloth_here.a : (List (List (T2 Int Int))))), .imm (.int a__law_cloth_here.b), .unk, .unk, .unk])) (s0 := ()) (xs := a__law_cloth_here.a) L2 (fun _ _ => rfl) r4 (mapO_comp hy1) (lenOk_le hl1) (fun x1 s1 _ H1 _ u1 _ _ _ hF1 L3 r5 hn1 hy2 => obE hF1 fun y1 hm3 he1 => x_cName (d := (enc (x1 : (List (T2 Int Int))))) (Γ' := [.imm (enc (a__law_cloth_here : (T2 (List (List (T2 Int Int))) Int))), .imm (enc (a__law_cloth_here.a : (List (List (T2 Int Int))))), .imm (.int a__law_cloth_here.b), .imm (enc (x1 : (List (T2 Int Int)))), .unk, .unk]) L3 r5 (show (3 : Nat) < 6 by decide) rfl fun _ L4 => x_yes (x_lcl (x_vd (d := (enc (x1 : (List (T2 Int Int))))) L4 rfl fun v5 r6 => obE hm3 fun _ hl2 hm4 => obE hm4 fun ys2 hy3 hm5 => x_lcL (G := (fun (s2 : Unit) => [.imm (enc (a__law_cloth_here : (T2 (List (List (T2 Int Int))) Int))), .imm (enc (a__law_cloth_here.a : (List (List (T2 Int Int))))), .imm (.int a__law_cloth_here.b), .imm (enc (x1 : (List (T2 Int Int)))), .unk, .unk])) (s0 := ()) (xs := x1) L4 (fun _ _ => rfl) r6 (mapO_comp hy3) (lenOk_le hl2) (fun x2 s2 _ H2 _ u2 _ _ _ hF2 L5 r7 hn2 hy4 => obE hF2 fun y2 hm6 he2 => x_cTup (d1 := (.int x2.a)) (d2 := (.int x2.b)) (Γ' := [.imm (enc (a__law_cloth_here : (T2 (List (List (T2 Int Int))) Int))), .imm (enc (a__law_cloth_here.a : (List (List (T2 Int Int))))), .imm (.int a__law_cloth_here.b), .imm (enc (x1 : (List (T2 Int Int)))), .imm (.int x2.a), .imm (.int x2.b)]) L5 r7 (show (4 : Nat) < 6 by decide) (show (5 : Nat) < 6 by decide) (by decide) rfl fun _ L6 => x_yes (x_call (x_cons (x_vI (x := x2.a) L6 rfl (x_cons (x_vI (x := x2.b) L6 rfl (x_cons (x_vI (x := a__law_cloth_here.b) L6 rfl (x_nil (obE hm6 fun z1 hz3 hm7 => mk__law_spot hz3 (L6.cond0 (.im (.int _) (.im (.int _) (.im (.int _) .nil))) rfl) fun v6 _ F1 => k0d L6 F1 fun L7 le1 r8 => x_cy (G := (fun (s2 : Unit) => [.imm (enc (a__law_cloth_here : (T2 (List (List (T2 Int Int))) Int))), .imm (enc (a__law_cloth_here.a : (List (List (T2 Int Int))))), .imm (.int a__law_cloth_here.b), .imm (enc (x1 : (List (T2 Int Int)))), .unk, .unk])) (s := s2) (s' := ()) (y := z1) (by cases hm7; cases he2; rfl) hy4 L5 L7 (.i rfl (.i rfl (.i rfl (.i rfl (.i rfl (.i rfl .e)))))) r8)))))))))) fun p1 _ L8 le2 r9 => have L9 : Lo _ _ _ _ [.imm (enc (a__law_cloth_here : (T2 (List (List (T2 Int Int))) Int))), .imm (enc (a__law_cloth_here.a : (List (List (T2 Int Int))))), .imm (.int a__law_cloth_here.b), .imm (enc (x1 : (List (T2 Int Int)))), .unk, .unk] := L8; have r10 : Rep _ _ _ (enc (ys2 : (List (T3 Int Int Int)))) (.ref p1) := r9; x_cy (G := (fun (s1 : Unit) => [.imm (enc (a__law_cloth_here : (T2 (List (List (T2 Int Int))) Int))), .imm (enc (a__law_cloth_here.a : (List (List (T2 Int Int))))), .imm (.int a__law_cloth_here.b), .unk, .unk, .unk])) (s := s1) (s' := ()) (y := ys2) (by cases hm5; cases he1; rfl) hy2 L3 L9 (.i rfl (.i rfl (.i rfl (.i rfl (.i rfl (.i rfl .e)))))) r10))) fun p2 _ _ h01 hx1 L10 le3 => x_finP (Q := Q) (ps := (fun (r : (List (List (T3 Int Int Int)))) => [])) (o := fun (r : (List (List (T3 Int Int Int)))) => (ml (r : (List (List (T3 Int Int Int)))))) (e := ys1) hm2 kont (L10.finT (p := p2) (i := 6) (o := (ml (ys1 : (List (List (T3 Int Int Int)))))) hp0 rfl h01)))
abbrev sp_greatest_divisor (K : PySem.W.Frag) : Sp := fun vs H Q _ => ∃ (X : Addr → Prop)  (a_a : Int) (a_b : Int) (r : Int), m_greatest_divisor a_a a_b = some r ∧ Cond K X H [.imm (.int a_a), .imm (.int a_b)] vs ∧ ∀ H', Fin K X H [] [] (.imm (.int r)) (.int r) H' → Q (.int r) H'
theorem mk_greatest_divisor {K : PySem.W.Frag} {X : Addr → Prop} {H : Hp} {vs : List V} {Q : VK} {E : XK}  {a_a : Int} {a_b : Int} {r : Int} (hm : m_greatest_divisor a_a a_b = some r) (c : Cond K X H [.imm (.int a_a), .imm (.int a_b)] vs) (k : ∀ H', Fin K X H [] [] (.imm (.int r)) (.int r) H' → Q (.int r) H') : sp_greatest_divisor K vs H Q E := ⟨X, a_a, a_b, r, hm, c, k⟩
abbrev n_greatest_divisor : List Str := ["a", "b", "one", "other"]
theorem sc_greatest_divisor : FnScope n_greatest_divisor ["a", "b"] (defScope s_greatest_divisor) := ⟨rfl, rfl, rfl, by decide +kernel, rfl, by decide +kernel, by decide +kernel⟩
theorem ok_greatest_divisor (T : Txt K mg) : FnOk P w K mg base CX0 1 T.A_greatest_divisor T.D_greatest_divisor ["a", "b"] (sp_greatest_divisor K) := by
  refine Fun.ok T.F_greatest_divisor sc_greatest_divisor (fun vs H Q E h => ?_) (fun cdv A outer s H vs Q E hr h => ?_)
  · obtain ⟨X, a_a, a_b, r, hm, c, kont⟩ := h
    exact c.len
  · obtain ⟨X, a_a, a_b, r, hm, c, kont⟩ := h
    refine ⟨_, (pss_cons (ps_set (i := 2) sc_greatest_divisor.nd rfl (Or.inl rfl) (pe_callB call_absX (by rfl) T.z_abs (by decide +kernel) (pa_cons (pv 0) pa_nil)))
      (pss_cons (ps_set (i := 3) sc_greatest_divisor.nd rfl (Or.inl rfl) (pe_callB call_absX (by rfl) T.z_abs (by decide +kernel) (pa_cons (pv 1) pa_nil)))
      (pss_cons (ps_while PassesOwn.never (pt_cmpR op_gt (pv 3) pe_int (nomark _)) (pss_one (ps_par (i := 2) (j := 3) (by rfl) sc_greatest_divisor.nd rfl rfl (by decide) rfl rfl (pa_cons (pv 3) (pa_cons (pe_op op_modN (pv 2) (pv 3)) pa_nil)) (by rfl))))
      (pss_one (ps_ret (pv 2)))))), ?_⟩
    have L0 : Lo ⟨K, X, H, muts [.imm (.int a_a), .imm (.int a_b)], n_greatest_divisor.length⟩ X H (L2.start n_greatest_divisor vs) [.imm (.int a_a), .imm (.int a_b), .unk, .unk] := c.start n_greatest_divisor (show (2 : Nat) ≤ 4 by decide)
    unfold m_greatest_divisor at hm
    refine x_seq (x_asg (x_cb (x_cons (x_vI (x := a_a) L0 rfl (x_nil (x_abs (x_bset (x0 := (iabs a_a)) (d := fun one_1 => (.int one_1)) (Γf := fun one_1 => [.imm (.int a_a), .imm (.int a_b), .imm (.int one_1), .unk]) hm L0 (.int _) (show (2 : Nat) < 4 by decide) (fun _ => rfl) fun one_1 _ hm1 L1 => ?_)))))))
    refine x_seq (x_asg (x_cb (x_cons (x_vI (x := a_b) L1 rfl (x_nil (x_abs (x_bset (x0 := (iabs a_b)) (d := fun other_1 => (.int other_1)) (Γf := fun other_1 => [.imm (.int a_a), .imm (.int a_b), .imm (.int one_1), .imm (.int other_1)]) hm1 L1 (.int _) (show (3 : Nat) < 4 by decide) (fun _ => rfl) fun other_1 _ hm2 L2 => ?_)))))))
    refine x_seq (x_wh (n := other_1.natAbs + 2) (G := (fun (s1 : (Int × Int)) => [.imm (.int a_a), .imm (.int a_b), .imm (.int s1.1), .imm (.int s1.2)])) (s0 := (one_1, other_1)) (ρ := Empty) (ps := fun _ => []) (rs := fun _ => .imm .none) (L2.weak (Γ' := [.imm (.int a_a), .imm (.int a_b), .imm (.int one_1), .imm (.int other_1)]) (.k (.k (.k (.k .e))))) (fun _ _ => rfl) hm2 (fun s1 H1 _ _ _ _ _ _ hm3 L3 hN1 hC1 hB1 hR1 _ hQ1 => ?_) (fun s2 _ _ hm4 L4 => ?_) (fun q => q.elim))
    · refine x_test (x_op (x_vI (x := s1.2) L3 rfl (x_c (x_r0 (x_kb (hQ1 _ _ (x_whIf hm3 (fun hm6 => ?_) fun hm6 => ?_)))))))
      · refine x_par (x_cons (x_vI (x := s1.2) L3 rfl (x_cons (x_op (x_vI (x := s1.1) L3 rfl (x_vI (x := s1.2) L3 rfl (x_mod hm6 fun z1 _ hm7 => x_nil (x_par2 (x := (.int s1.2)) (y := (.int z1)) (Γ' := [.imm (.int a_a), .imm (.int a_b), .imm (.int s1.2), .imm (.int z1)]) L3 (.int _) (.int _) (show (2 : Nat) < 4 by decide) (show (3 : Nat) < 4 by decide) rfl fun _ L5 => ?_))))))))
        exact x_leafN (G := (fun (s1 : (Int × Int)) => [.imm (.int a_a), .imm (.int a_b), .imm (.int s1.1), .imm (.int s1.2)])) (e := (s1.2, z1)) hm7 hN1 (L5.weak (Γ' := [.imm (.int a_a), .imm (.int a_b), .imm (.int s1.2), .imm (.int z1)]) (.k (.k (.k (.k .e)))))
      · exact x_leafB (G := (fun (s1 : (Int × Int)) => [.imm (.int a_a), .imm (.int a_b), .imm (.int s1.1), .imm (.int s1.2)])) (e := (s1.1, s1.2)) hm6 hB1 (L3.weak (Γ' := [.imm (.int a_a), .imm (.int a_b), .imm (.int s1.1), .imm (.int s1.2)]) (.k (.k (.k (.k .e)))))
    exact x_ret (x_vI (x := s2.1) L4 rfl (x_finI (Q := Q) (ps := (fun (r : Int) => [])) (sc := fun (r : Int) => r) s2.1 hm4 kont (L4.fin hp0 (.int _))))
abbrev sp_point (K : PySem.W.Frag) : Sp := fun vs H Q _ => ∃ (X : Addr → Prop)  (a_a : Int) (a_b : Int) (a_n : Int) (r : (T3 Int Int Int)), m_point a_a a_b a_n = some r ∧ Cond K X H [.imm (.int a_a), .imm (.int a_b), .imm (.int a_n)] vs ∧ ∀ v H', Fin K X H [] [] (.imm (enc (r : (T3 Int Int Int)))) v H' → Q v H'
theorem mk_point {K : PySem.W.Frag} {X : Addr → Prop} {H : Hp} {vs : List V} {Q : VK} {E : XK}  {a_a : Int} {a_b : Int} {a_n : Int} {r : (T3 Int Int Int)} (hm : m_point a_a a_b a_n = some r) (c : Cond K X H [.imm (.int a_a), .imm (.int a_b), .imm (.int a_n)] vs) (k : ∀ v H', Fin K X H [] [] (.imm (enc (r : (T3 Int Int Int)))) v H' → Q v H') : sp_point K vs H Q E := ⟨X, a_a, a_b, a_n, r, hm, c, k⟩
abbrev n_point : List Str := ["a", "b", "n", "divisor"]
theorem sc_point : FnScope n_point ["a", "b", "n"] (defScope s_point) := ⟨rfl, rfl, rfl, by decide +kernel, rfl, by decide +kernel, by decide +kernel⟩
theorem ok_point (T : Txt K mg) : FnOk P w K mg base CX0 2 T.A_point T.D_point ["a", "b", "n"] (sp_point K) := by
  refine Fun.ok T.F_point sc_point (fun vs H Q E h => ?_) (fun cdv A outer s H vs Q E hr h => ?_)
  · obtain ⟨X, a_a, a_b, a_n, r, hm, c, kont⟩ := h
    exact c.len
  · obtain ⟨X, a_a, a_b, a_n, r, hm, c, kont⟩ := h
    refine ⟨_, (pss_cons (ps_if (pt_cmpR op_eq (pv 2) pe_int (nomark _)) (pss_one ps_never) pss_nil)
      (pss_cons (ps_set (i := 3) sc_point.nd rfl (Or.inl rfl) (pe_call (ok_greatest_divisor T) hr (by rfl) T.g_greatest_divisor T.F_greatest_divisor.kp T.b_greatest_divisor .nil pass0 (pa_cons (pe_call (ok_greatest_divisor T) hr (by rfl) T.g_greatest_divisor T.F_greatest_divisor.kp T.b_greatest_divisor .nil pass0 (pa_cons (pv 0) (pa_cons (pv 2) pa_nil))) (pa_cons (pv 1) pa_nil))))
      (pss_cons (ps_if (pt_cmpR op_lt (pv 2) pe_int (nomark _)) (pss_one (ps_set (i := 3) sc_point.nd rfl (Or.inl rfl) (pe_un un_neg (pv 3)))) pss_nil)
      (pss_one (ps_ret (pe_tup (pa_cons (pe_op op_divG (pv 0) (pv 3)) (pa_cons (pe_op op_divG (pv 1) (pv 3)) (pa_cons (pe_op op_divG (pv 2) (pv 3)) pa_nil))))))))), ?_⟩
    have L0 : Lo ⟨K, X, H, muts [.imm (.int a_a), .imm (.int a_b), .imm (.int a_n)], n_point.length⟩ X H (L2.start n_point vs) [.imm (.int a_a), .imm (.int a_b), .imm (.int a_n), .unk] := c.start n_point (show (3 : Nat) ≤ 4 by decide)
    unfold m_point at hm
    refine x_seq (x_ifS (x_test (x_op (x_vI (x := a_n) L0 rfl (x_c (x_eqi (x_kb (x_if hm (fun hm1 => ?_) fun hm1 => ?_))))))))
    · exact (nomatch hm1)
    · refine x_next ?_
      refine x_seq (x_asg (x_call (x_cons (x_call (x_cons (x_vI (x := a_a) L0 rfl (x_cons (x_vI (x := a_n) L0 rfl (x_nil (obE hm1 fun z1 hz1 hm2 => mk_greatest_divisor hz1 (L0.cond0 (.im (.int _) (.im (.int _) .nil)) rfl) fun _ F1 => k0 L0 F1 fun L1 le1 => x_cons (x_vI (x := a_b) L1 rfl (x_nil (obE hm2 fun z2 hz2 hm3 => mk_greatest_divisor hz2 (L1.cond0 (.im (.int _) (.im (.int _) .nil)) rfl) fun _ F2 => k0 L1 F2 fun L2 le2 => x_set (d := (.int z2)) (Γ' := [.imm (.int a_a), .imm (.int a_b), .imm (.int a_n), .imm (.int z2)]) L2 (.int _) (show (3 : Nat) < 4 by decide) rfl fun _ L3 => ?_)))))))))))))
      refine x_seq (x_ifS (x_test (x_op (x_vI (x := a_n) L3 rfl (x_c (x_r0 (x_kb (x_join (G := (fun (s1 : Int) => [.imm (.int a_a), .imm (.int a_b), .imm (.int a_n), .imm (.int s1)])) L3 hm3 (fun _ hm4 _ hN1 => ?_) (fun _ hm4 _ hN1 => ?_) fun s1 X1 _ _ hm5 L4 => ?_))))))))
      · refine x_asg (x_un (x_vI (x := z2) L3 rfl (x_u (x_bset (x0 := (-z2)) (d := fun divisor_1 => (.int divisor_1)) (Γf := fun divisor_1 => [.imm (.int a_a), .imm (.int a_b), .imm (.int a_n), .imm (.int divisor_1)]) hm4 L3 (.int _) (show (3 : Nat) < 4 by decide) (fun _ => rfl) fun divisor_1 _ hm6 L5 => ?_))))
        exact x_leaf (G := (fun (s1 : Int) => [.imm (.int a_a), .imm (.int a_b), .imm (.int a_n), .imm (.int s1)])) (e := divisor_1) hm6 hN1 (L5.weak (Γ' := [.imm (.int a_a), .imm (.int a_b), .imm (.int a_n), .imm (.int divisor_1)]) (.k (.k (.k (.k .e)))))
      · refine x_next ?_
        exact x_leaf (G := (fun (s1 : Int) => [.imm (.int a_a), .imm (.int a_b), .imm (.int a_n), .imm (.int s1)])) (e := z2) hm4 hN1 (L3.weak (Γ' := [.imm (.int a_a), .imm (.int a_b), .imm (.int a_n), .imm (.int z2)]) (.k (.k (.k (.k .e)))))
      exact x_ret (x_tup (x_cons (x_op (x_vI (x := a_a) L4 rfl (x_vI (x := s1) L4 rfl (x_div hm5 fun z3 _ hm7 => x_cons (x_op (x_vI (x := a_b) L4 rfl (x_vI (x := s1) L4 rfl (x_div hm7 fun z4 _ hm8 => x_cons (x_op (x_vI (x := a_n) L4 rfl (x_vI (x := s1) L4 rfl (x_div hm8 fun z5 _ hm9 => x_nil (x_mkT L4 (.cons (.int _) (.cons (.int _) (.cons (.int _) .nil))) (show (3 : Nat) ≤ 16777216 by decide) fun v3 _ L6 le3 r1 => have r2 : Rep _ _ _ (enc ((T3.mk z3 z4 z5) : (T3 Int Int Int))) v3 := r1; x_fin (Q := Q) (ps := (fun (r : (T3 Int Int Int)) => [])) (rs := (fun (r : (T3 Int Int Int)) => (.imm (enc (r : (T3 Int Int Int)))))) (e := (T3.mk z3 z4 z5)) hm9 kont (L6.fin hp0 r2))))))))))))))))
abbrev sp_step_to (K : PySem.W.Frag) : Sp := fun vs H Q _ => ∃ (X : Addr → Prop)  (a_p : (T3 Int Int Int)) (a_q : (T3 Int Int Int)) (r : (T3 Int Int Int)), m_step_to a_p a_q = some r ∧ Cond K X H [.imm (enc (a_p : (T3 Int Int Int))), .imm (enc (a_q : (T3 Int Int Int)))] vs ∧ ∀ v H', Fin K X H [] [] (.imm (enc (r : (T3 Int Int Int)))) v H' → Q v H'
theorem mk_step_to {K : PySem.W.Frag} {X : Addr → Prop} {H : Hp} {vs : List V} {Q : VK} {E : XK}  {a_p : (T3 Int Int Int)} {a_q : (T3 Int Int Int)} {r : (T3 Int Int Int)} (hm : m_step_to a_p a_q = some r) (c : Cond K X H [.imm (enc (a_p : (T3 Int Int Int))), .imm (enc (a_q : (T3 Int Int Int)))] vs) (k : ∀ v H', Fin K X H [] [] (.imm (enc (r : (T3 Int Int Int)))) v H' → Q v H') : sp_step_to K vs H Q E := ⟨X, a_p, a_q, r, hm, c, k⟩
abbrev n_step_to : List Str := ["p", "q"]
theorem sc_step_to : FnScope n_step_to ["p", "q"] (defScope s_step_to) := ⟨rfl, rfl, rfl, by decide +kernel, rfl, by decide +kernel, by decide +kernel⟩
theorem ok_step_to (T : Txt K mg) : FnOk P w K mg base CX0 3 T.A_step_to T.D_step_to ["p", "q"] (sp_step_to K) := by
  refine Fun.ok T.F_step_to sc_step_to (fun vs H Q E h => ?_) (fun cdv A outer s H vs Q E hr h => ?_)
  · obtain ⟨X, a_p, a_q, r, hm, c, kont⟩ := h
    exact c.len
  · obtain ⟨X, a_p, a_q, r, hm, c, kont⟩ := h
    refine ⟨_, (pss_one (ps_ret (pe_call (ok_point T) hr (by rfl) T.g_point T.F_point.kp T.b_point .nil pass0 (pa_cons (pe_op op_sub (pe_op op_mulW (pe_ix (r := rIxT K) ix_tup (pv 1) pe_int (fun _ _ => rfl)) (pe_ix (r := rIxT K) ix_tup (pv 0) pe_int (fun _ _ => rfl))) (pe_op op_mulW (pe_ix (r := rIxT K) ix_tup (pv 0) pe_int (fun _ _ => rfl)) (pe_ix (r := rIxT K) ix_tup (pv 1) pe_int (fun _ _ => rfl)))) (pa_cons (pe_op op_sub (pe_op op_mulW (pe_ix (r := rIxT K) ix_tup (pv 1) pe_int (fun _ _ => rfl)) (pe_ix (r := rIxT K) ix_tup (pv 0) pe_int (fun _ _ => rfl))) (pe_op op_mulW (pe_ix (r := rIxT K) ix_tup (pv 0) pe_int (fun _ _ => rfl)) (pe_ix (r := rIxT K) ix_tup (pv 1) pe_int (fun _ _ => rfl)))) (pa_cons (pe_op op_mulW (pe_ix (r := rIxT K) ix_tup (pv 0) pe_int (fun _ _ => rfl)) (pe_ix (r := rIxT K) ix_tup (pv 1) pe_int (fun _ _ => rfl))) pa_nil)))))), ?_⟩
    have L0 : Lo ⟨K, X, H, muts [.imm (enc (a_p : (T3 Int Int Int))), .imm (enc (a_q : (T3 Int Int Int)))], n_step_to.length⟩ X H (L2.start n_step_to vs) [.imm (enc (a_p : (T3 Int Int Int))), .imm (enc (a_q : (T3 Int Int Int)))] := c.start n_step_to (show (2 : Nat) ≤ 2 by decide)
    unfold m_step_to at hm
    exact x_ret (x_call (x_cons (x_op (x_op (x_op (x_vd (d := (enc (a_q : (T3 Int Int Int)))) L0 rfl fun v1 r1 => x_c (x_ixTI (x := a_q.a) r1 rfl (x_op (x_vd (d := (enc (a_p : (T3 Int Int Int)))) L0 rfl fun v2 r2 => x_c (x_ixTI (x := a_p.c) r2 rfl (x_mul hm fun z1 _ hm1 => x_op (x_op (x_vd (d := (enc (a_p : (T3 Int Int Int)))) L0 rfl fun v3 r3 => x_c (x_ixTI (x := a_p.a) r3 rfl (x_op (x_vd (d := (enc (a_q : (T3 Int Int Int)))) L0 rfl fun v4 r4 => x_c (x_ixTI (x := a_q.c) r4 rfl (x_mul hm1 fun z2 _ hm2 => x_r0 (x_cons (x_op (x_op (x_op (x_vd (d := (enc (a_q : (T3 Int Int Int)))) L0 rfl fun v5 r5 => x_c (x_ixTI (x := a_q.b) r5 rfl (x_op (x_vd (d := (enc (a_p : (T3 Int Int Int)))) L0 rfl fun v6 r6 => x_c (x_ixTI (x := a_p.c) r6 rfl (x_mul hm2 fun z3 _ hm3 => x_op (x_op (x_vd (d := (enc (a_p : (T3 Int Int Int)))) L0 rfl fun v7 r7 => x_c (x_ixTI (x := a_p.b) r7 rfl (x_op (x_vd (d := (enc (a_q : (T3 Int Int Int)))) L0 rfl fun v8 r8 => x_c (x_ixTI (x := a_q.c) r8 rfl (x_mul hm3 fun z4 _ hm4 => x_r0 (x_cons (x_op (x_op (x_vd (d := (enc (a_p : (T3 Int Int Int)))) L0 rfl fun v9 r9 => x_c (x_ixTI (x := a_p.c) r9 rfl (x_op (x_vd (d := (enc (a_q : (T3 Int Int Int)))) L0 rfl fun v10 r10 => x_c (x_ixTI (x := a_q.c) r10 rfl (x_mul hm4 fun z5 _ hm5 => x_nil (obE hm5 fun z6 hz1 hm6 => mk_point hz1 (L0.cond0 (.im (.int _) (.im (.int _) (.im (.int _) .nil))) rfl) fun v11 _ F1 => k0d L0 F1 fun L1 le1 r11 => x_fin (Q := Q) (ps := (fun (r : (T3 Int Int Int)) => [])) (rs := (fun (r : (T3 Int Int Int)) => (.imm (enc (r : (T3 Int Int Int)))))) (e := z6) hm6 kont (L1.fin hp0 r11))))))))))))))))))))))))))))))))))))))))))))))
abbrev sp_common_of (K : PySem.W.Frag) : Sp := fun vs H Q _ => ∃ (X : Addr → Prop)  (a_one : Int) (a_other : Int) (r : Int), m_common_of a_one a_other = some r ∧ Cond K X H [.imm (.int a_one), .imm (.int a_other)] vs ∧ ∀ H', Fin K X H [] [] (.imm (.int r)) (.int r) H' → Q (.int r) H'
theorem mk_common_of {K : PySem.W.Frag} {X : Addr → Prop} {H : Hp} {vs : List V} {Q : VK} {E : XK}  {a_one : Int} {a_other : Int} {r : Int} (hm : m_common_of a_one a_other = some r) (c : Cond K X H [.imm (.int a_one), .imm (.int a_other)] vs) (k : ∀ H', Fin K X H [] [] (.imm (.int r)) (.int r) H' → Q (.int r) H') : sp_common_of K vs H Q E := ⟨X, a_one, a_other, r, hm, c, k⟩
abbrev n_common_of : List Str := ["one", "other", "rest"]
theorem sc_common_of : FnScope n_common_of ["one", "other"] (defScope s_common_of) := ⟨rfl, rfl, rfl, by decide +kernel, rfl, by decide +kernel, by decide +kernel⟩
theorem ok_common_of (T : Txt K mg) : FnOk P w K mg base CX0 1 T.A_common_of T.D_common_of ["one", "other"] (sp_common_of K) := by
  refine Fun.ok T.F_common_of sc_common_of (fun vs H Q E h => ?_) (fun cdv A outer s H vs Q E hr h => ?_)
  · obtain ⟨X, a_one, a_other, r, hm, c, kont⟩ := h
    exact c.len
  · obtain ⟨X, a_one, a_other, r, hm, c, kont⟩ := h
    refine ⟨_, (pss_cons (ps_set (i := 0) sc_common_of.nd rfl (Or.inl rfl) (pe_callB call_absX (by rfl) T.z_abs (by decide +kernel) (pa_cons (pv 0) pa_nil)))
      (pss_cons (ps_set (i := 1) sc_common_of.nd rfl (Or.inl rfl) (pe_callB call_absX (by rfl) T.z_abs (by decide +kernel) (pa_cons (pv 1) pa_nil)))
      (pss_cons (ps_while PassesOwn.never (pt_cmpR op_gt (pv 1) pe_int (nomark _)) (pss_cons (ps_set (i := 2) sc_common_of.nd rfl (Or.inl rfl) (pe_op op_modN (pv 0) (pv 1)))
      (pss_cons (ps_set (i := 0) sc_common_of.nd rfl (Or.inl rfl) (pv 1))
      (pss_one (ps_set (i := 1) sc_common_of.nd rfl (Or.inl rfl) (pv 2))))))
      (pss_one (ps_ret (pv 0)))))), ?_⟩
    have L0 : Lo ⟨K, X, H, muts [.imm (.int a_one), .imm (.int a_other)], n_common_of.length⟩ X H (L2.start n_common_of vs) [.imm (.int a_one), .imm (.int a_other), .unk] := c.start n_common_of (show (2 : Nat) ≤ 3 by decide)
    unfold m_common_of at hm
    refine x_seq (x_asg (x_cb (x_cons (x_vI (x := a_one) L0 rfl (x_nil (x_abs (x_bset (x0 := (iabs a_one)) (d := fun one_1 => (.int one_1)) (Γf := fun one_1 => [.imm (.int one_1), .imm (.int a_other), .unk]) hm L0 (.int _) (show (0 : Nat) < 3 by decide) (fun _ => rfl) fun one_1 _ hm1 L1 => ?_)))))))
    refine x_seq (x_asg (x_cb (x_cons (x_vI (x := a_other) L1 rfl (x_nil (x_abs (x_bset (x0 := (iabs a_other)) (d := fun other_1 => (.int other_1)) (Γf := fun other_1 => [.imm (.int one_1), .imm (.int other_1), .unk]) hm1 L1 (.int _) (show (1 : Nat) < 3 by decide) (fun _ => rfl) fun other_1 _ hm2 L2 => ?_)))))))
    refine x_seq (x_wh (n := other_1.natAbs + 2) (G := (fun (s1 : (Int × Int)) => [.imm (.int s1.1), .imm (.int s1.2), .unk])) (s0 := (one_1, other_1)) (ρ := Empty) (ps := fun _ => []) (rs := fun _ => .imm .none) (L2.weak (Γ' := [.imm (.int one_1), .imm (.int other_1), .unk]) (.k (.k (.k .e)))) (fun _ _ => rfl) hm2 (fun s1 H1 _ _ _ _ _ _ hm3 L3 hN1 hC1 hB1 hR1 _ hQ1 => ?_) (fun s2 _ _ hm4 L4 => ?_) (fun q => q.elim))
    · refine x_test (x_op (x_vI (x := s1.2) L3 rfl (x_c (x_r0 (x_kb (hQ1 _ _ (x_whIf hm3 (fun hm6 => ?_) fun hm6 => ?_)))))))
      · refine x_seq (x_asg (x_op (x_vI (x := s1.1) L3 rfl (x_vI (x := s1.2) L3 rfl (x_mod hm6 fun z1 _ hm7 => x_set (d := (.int z1)) (Γ' := [.imm (.int s1.1), .imm (.int s1.2), .imm (.int z1)]) L3 (.int _) (show (2 : Nat) < 3 by decide) rfl fun _ L5 => ?_)))))
        refine x_seq (x_asg (x_vI (x := s1.2) L5 rfl (x_set (d := (.int s1.2)) (Γ' := [.imm (.int s1.2), .imm (.int s1.2), .imm (.int z1)]) L5 (.int _) (show (0 : Nat) < 3 by decide) rfl fun _ L6 => ?_)))
        refine x_asg (x_vI (x := z1) L6 rfl (x_set (d := (.int z1)) (Γ' := [.imm (.int s1.2), .imm (.int z1), .imm (.int z1)]) L6 (.int _) (show (1 : Nat) < 3 by decide) rfl fun _ L7 => ?_))
        exact x_leafN (G := (fun (s1 : (Int × Int)) => [.imm (.int s1.1), .imm (.int s1.2), .unk])) (e := (s1.2, z1)) hm7 hN1 (L7.weak (Γ' := [.imm (.int s1.2), .imm (.int z1), .unk]) (.k (.k (.d .e))))
      · exact x_leafB (G := (fun (s1 : (Int × Int)) => [.imm (.int s1.1), .imm (.int s1.2), .unk])) (e := (s1.1, s1.2)) hm6 hB1 (L3.weak (Γ' := [.imm (.int s1.1), .imm (.int s1.2), .unk]) (.k (.k (.k .e))))
    exact x_ret (x_vI (x := s2.1) L4 rfl (x_finI (Q := Q) (ps := (fun (r : Int) => [])) (sc := fun (r : Int) => r) s2.1 hm4 kont (L4.fin hp0 (.int _))))
abbrev sp_ratio (K : PySem.W.Frag) : Sp := fun vs H Q _ => ∃ (X : Addr → Prop)  (a_top : Int) (a_bottom : Int) (r : (T2 Int Int)), m_ratio a_top a_bottom = some r ∧ Cond K X H [.imm (.int a_top), .imm (.int a_bottom)] vs ∧ ∀ v H', Fin K X H [] [] (.imm (enc (r : (T2 Int Int)))) v H' → Q v H'
theorem mk_ratio {K : PySem.W.Frag} {X : Addr → Prop} {H : Hp} {vs : List V} {Q : VK} {E : XK}  {a_top : Int} {a_bottom : Int} {r : (T2 Int Int)} (hm : m_ratio a_top a_bottom = some r) (c : Cond K X H [.imm (.int a_top), .imm (.int a_bottom)] vs) (k : ∀ v H', Fin K X H [] [] (.imm (enc (r : (T2 Int Int)))) v H' → Q v H') : sp_ratio K vs H Q E := ⟨X, a_top, a_bottom, r, hm, c, k⟩
abbrev n_ratio : List Str := ["top", "bottom", "divisor"]
theorem sc_ratio : FnScope n_ratio ["top", "bottom"] (defScope s_ratio) := ⟨rfl, rfl, rfl, by decide +kernel, rfl, by decide +kernel, by decide +kernel⟩
theorem ok_ratio (T : Txt K mg) : FnOk P w K mg base CX0 2 T.A_ratio T.D_ratio ["top", "bottom"] (sp_ratio K) := by
  refine Fun.ok T.F_ratio sc_ratio (fun vs H Q E h => ?_) (fun cdv A outer s H vs Q E hr h => ?_)
  · obtain ⟨X, a_top, a_bottom, r, hm, c, kont⟩ := h
    exact c.len
  · obtain ⟨X, a_top, a_bottom, r, hm, c, kont⟩ := h
    refine ⟨_, (pss_cons (ps_if (pt_cmpR op_eq (pv 1) pe_int (nomark _)) (pss_one ps_never) pss_nil)
      (pss_cons (ps_set (i := 2) sc_ratio.nd rfl (Or.inl rfl) (pe_call (ok_greatest_divisor T) hr (by rfl) T.g_greatest_divisor T.F_greatest_divisor.kp T.b_greatest_divisor .nil pass0 (pa_cons (pv 0) (pa_cons (pv 1) pa_nil))))
      (pss_cons (ps_if (pt_cmpR op_lt (pv 1) pe_int (nomark _)) (pss_one (ps_set (i := 2) sc_ratio.nd rfl (Or.inl rfl) (pe_un un_neg (pv 2)))) pss_nil)
      (pss_one (ps_ret (pe_tup (pa_cons (pe_op op_divG (pv 0) (pv 2)) (pa_cons (pe_op op_divG (pv 1) (pv 2)) pa_nil)))))))), ?_⟩
    have L0 : Lo ⟨K, X, H, muts [.imm (.int a_top), .imm (.int a_bottom)], n_ratio.length⟩ X H (L2.start n_ratio vs) [.imm (.int a_top), .imm (.int a_bottom), .unk] := c.start n_ratio (show (2 : Nat) ≤ 3 by decide)
    unfold m_ratio at hm
    refine x_seq (x_ifS (x_test (x_op (x_vI (x := a_bottom) L0 rfl (x_c (x_eqi (x_kb (x_if hm (fun hm1 => ?_) fun hm1 => ?_))))))))
    · exact (nomatch hm1)
    · refine x_next ?_
      refine x_seq (x_asg (x_call (x_cons (x_vI (x := a_top) L0 rfl (x_cons (x_vI (x := a_bottom) L0 rfl (x_nil (obE hm1 fun z1 hz1 hm2 => mk_greatest_divisor hz1 (L0.cond0 (.im (.int _) (.im (.int _) .nil)) rfl) fun _ F1 => k0 L0 F1 fun L1 le1 => x_set (d := (.int z1)) (Γ' := [.imm (.int a_top), .imm (.int a_bottom), .imm (.int z1)]) L1 (.int _) (show (2 : Nat) < 3 by decide) rfl fun _ L2 => ?_))))))))
      refine x_seq (x_ifS (x_test (x_op (x_vI (x := a_bottom) L2 rfl (x_c (x_r0 (x_kb (x_join (G := (fun (s1 : Int) => [.imm (.int a_top), .imm (.int a_bottom), .imm (.int s1)])) L2 hm2 (fun _ hm3 _ hN1 => ?_) (fun _ hm3 _ hN1 => ?_) fun s1 X1 _ _ hm4 L3 => ?_))))))))
      · refine x_asg (x_un (x_vI (x := z1) L2 rfl (x_u (x_bset (x0 := (-z1)) (d := fun divisor_1 => (.int divisor_1)) (Γf := fun divisor_1 => [.imm (.int a_top), .imm (.int a_bottom), .imm (.int divisor_1)]) hm3 L2 (.int _) (show (2 : Nat) < 3 by decide) (fun _ => rfl) fun divisor_1 _ hm5 L4 => ?_))))
        exact x_leaf (G := (fun (s1 : Int) => [.imm (.int a_top), .imm (.int a_bottom), .imm (.int s1)])) (e := divisor_1) hm5 hN1 (L4.weak (Γ' := [.imm (.int a_top), .imm (.int a_bottom), .imm (.int divisor_1)]) (.k (.k (.k .e))))
      · refine x_next ?_
        exact x_leaf (G := (fun (s1 : Int) => [.imm (.int a_top), .imm (.int a_bottom), .imm (.int s1)])) (e := z1) hm3 hN1 (L2.weak (Γ' := [.imm (.int a_top), .imm (.int a_bottom), .imm (.int z1)]) (.k (.k (.k .e))))
      exact x_ret (x_tup (x_cons (x_op (x_vI (x := a_top) L3 rfl (x_vI (x := s1) L3 rfl (x_div hm4 fun z2 _ hm6 => x_cons (x_op (x_vI (x := a_bottom) L3 rfl (x_vI (x := s1) L3 rfl (x_div hm6 fun z3 _ hm7 => x_nil (x_mkT L3 (.cons (.int _) (.cons (.int _) .nil)) (show (2 : Nat) ≤ 16777216 by decide) fun v2 _ L5 le2 r1 => have r2 : Rep _ _ _ (enc ((T2.mk z2 z3) : (T2 Int Int))) v2 := r1; x_fin (Q := Q) (ps := (fun (r : (T2 Int Int)) => [])) (rs := (fun (r : (T2 Int Int)) => (.imm (enc (r : (T2 Int Int)))))) (e := (T2.mk z2 z3)) hm7 kont (L5.fin hp0 r2))))))))))))
abbrev sp_way_of (K : PySem.W.Frag) : Sp := fun vs H Q _ => ∃ (X : Addr → Prop)  (a_step : (T3 Int Int Int)) (r : (T2 (T2 Int Int) (T2 Int Int))), m_way_of a_step = some r ∧ Cond K X H [.imm (enc (a_step : (T3 Int Int Int)))] vs ∧ ∀ v H', Fin K X H [] [] (.imm (enc (r : (T2 (T2 Int Int) (T2 Int Int))))) v H' → Q v H'
theorem mk_way_of {K : PySem.W.Frag} {X : Addr → Prop} {H : Hp} {vs : List V} {Q : VK} {E : XK}  {a_step : (T3 Int Int Int)} {r : (T2 (T2 Int Int) (T2 Int Int))} (hm : m_way_of a_step = some r) (c : Cond K X H [.imm (enc (a_step : (T3 Int Int Int)))] vs) (k : ∀ v H', Fin K X H [] [] (.imm (enc (r : (T2 (T2 Int Int) (T2 Int Int))))) v H' → Q v H') : sp_way_of K vs H Q E := ⟨X, a_step, r, hm, c, k⟩
abbrev n_way_of : List Str := ["step", "right", "up", "bottom", "often"]
theorem sc_way_of : FnScope n_way_of ["step"] (defScope s_way_of) := ⟨rfl, rfl, rfl, by decide +kernel, rfl, by decide +kernel, by decide +kernel⟩
theorem ok_way_of (T : Txt K mg) : FnOk P w K mg base CX0 3 T.A_way_of T.D_way_of ["step"] (sp_way_of K) := by
  refine Fun.ok T.F_way_of sc_way_of (fun vs H Q E h => ?_) (fun cdv A outer s H vs Q E hr h => ?_)
  · obtain ⟨X, a_step, r, hm, c, kont⟩ := h
    exact c.len
  · obtain ⟨X, a_step, r, hm, c, kont⟩ := h
    refine ⟨_, (pss_cons (ps_asg (pv 0) (pg_tup rfl (pgs_cons (pg_name (i := 1) sc_way_of.nd rfl (Or.inl rfl)) (pgs_cons (pg_name (i := 2) sc_way_of.nd rfl (Or.inl rfl)) (pgs_cons (pg_name (i := 3) sc_way_of.nd rfl (Or.inl rfl)) pgs_nil)))))
      (pss_cons (ps_set (i := 4) sc_way_of.nd rfl (Or.inl rfl) (pe_call (ok_common_of T) (hr.mono (by decide)) (by rfl) T.g_common_of T.F_common_of.kp T.b_common_of .nil pass0 (pa_cons (pv 1) (pa_cons (pv 2) pa_nil))))
      (pss_cons (ps_if (PW.pt (pw_or (pt_cmpR op_lt (pv 2) pe_int (nomark _)) (pw_or1 (PW.pt (pw_and (pt_cmpR op_eq (pv 2) pe_int (nomark _)) (pw_and1 (pt_cmpR op_lt (pv 1) pe_int (nomark _)))))))) (pss_one (ps_set (i := 4) sc_way_of.nd rfl (Or.inl rfl) (pe_un un_neg (pv 4)))) pss_nil)
      (pss_one (ps_ret (pe_tup (pa_cons (pe_tup (pa_cons (pe_op op_divG (pv 1) (pv 4)) (pa_cons (pe_op op_divG (pv 2) (pv 4)) pa_nil))) (pa_cons (pe_call (ok_ratio T) hr (by rfl) T.g_ratio T.F_ratio.kp T.b_ratio .nil pass0 (pa_cons (pv 4) (pa_cons (pv 3) pa_nil))) pa_nil)))))))), ?_⟩
    have L0 : Lo ⟨K, X, H, muts [.imm (enc (a_step : (T3 Int Int Int)))], n_way_of.length⟩ X H (L2.start n_way_of vs) [.imm (enc (a_step : (T3 Int Int Int))), .unk, .unk, .unk, .unk] := c.start n_way_of (show (1 : Nat) ≤ 5 by decide)
    unfold m_way_of at hm
    refine x_seq (x_asg (x_vd (d := (enc (a_step : (T3 Int Int Int)))) L0 rfl fun v1 r1 => x_gTup r1 rfl fun vs1 rs1 => x_gCons rs1 fun v2 _ r2 rs2 => x_set (d := (.int a_step.a)) (Γ' := [.imm (enc (a_step : (T3 Int Int Int))), .imm (.int a_step.a), .unk, .unk, .unk]) L0 r2 (show (1 : Nat) < 5 by decide) rfl fun _ L1 => x_gCons rs2 fun v3 _ r3 rs3 => x_set (d := (.int a_step.b)) (Γ' := [.imm (enc (a_step : (T3 Int Int Int))), .imm (.int a_step.a), .imm (.int a_step.b), .unk, .unk]) L1 r3 (show (2 : Nat) < 5 by decide) rfl fun _ L2 => x_gCons rs3 fun v4 _ r4 rs4 => x_set (d := (.int a_step.c)) (Γ' := [.imm (enc (a_step : (T3 Int Int Int))), .imm (.int a_step.a), .imm (.int a_step.b), .imm (.int a_step.c), .unk]) L2 r4 (show (3 : Nat) < 5 by decide) rfl fun _ L3 => x_gNil rs4 (?_)))
    refine x_seq (x_asg (x_call (x_cons (x_vI (x := a_step.a) L3 rfl (x_cons (x_vI (x := a_step.b) L3 rfl (x_nil (obE hm fun z1 hz1 hm1 => mk_common_of hz1 (L3.cond0 (.im (.int _) (.im (.int _) .nil)) rfl) fun _ F1 => k0 L3 F1 fun L4 le1 => x_set (d := (.int z1)) (Γ' := [.imm (enc (a_step : (T3 Int Int Int))), .imm (.int a_step.a), .imm (.int a_step.b), .imm (.int a_step.c), .imm (.int z1)]) L4 (.int _) (show (4 : Nat) < 5 by decide) rfl fun _ L5 => ?_))))))))
    refine x_seq (x_ifS (x_or (x_test (x_op (x_vI (x := a_step.b) L5 rfl (x_c (x_r0 (x_kb (x_orP (B := ((decide (a_step.b = 0)) && (decide (a_step.a < 0)))) (fun _ hq => x_and (x_test (x_op (x_vI (x := a_step.b) L5 rfl (x_c (x_eqi (x_kb (x_andP (B := (decide (a_step.a < 0))) (fun _ hq => x_test (x_op (x_vI (x := a_step.a) L5 rfl (x_c (x_r0 (x_kb (hq))))))) (hq))))))))) (x_join (G := (fun (s1 : Int) => [.imm (enc (a_step : (T3 Int Int Int))), .imm (.int a_step.a), .imm (.int a_step.b), .imm (.int a_step.c), .imm (.int s1)])) L5 hm1 (fun _ hm2 _ hN1 => ?_) (fun _ hm2 _ hN1 => ?_) fun s1 X1 _ _ hm3 L6 => ?_))))))))))
    · refine x_asg (x_un (x_vI (x := z1) L5 rfl (x_u (x_bset (x0 := (-z1)) (d := fun often_1 => (.int often_1)) (Γf := fun often_1 => [.imm (enc (a_step : (T3 Int Int Int))), .imm (.int a_step.a), .imm (.int a_step.b), .imm (.int a_step.c), .imm (.int often_1)]) hm2 L5 (.int _) (show (4 : Nat) < 5 by decide) (fun _ => rfl) fun often_1 _ hm4 L7 => ?_))))
      exact x_leaf (G := (fun (s1 : Int) => [.imm (enc (a_step : (T3 Int Int Int))), .imm (.int a_step.a), .imm (.int a_step.b), .imm (.int a_step.c), .imm (.int s1)])) (e := often_1) hm4 hN1 (L7.weak (Γ' := [.imm (enc (a_step : (T3 Int Int Int))), .imm (.int a_step.a), .imm (.int a_step.b), .imm (.int a_step.c), .imm (.int often_1)]) (.k (.k (.k (.k (.k .e))))))
    · refine x_next ?_
      exact x_leaf (G := (fun (s1 : Int) => [.imm (enc (a_step : (T3 Int Int Int))), .imm (.int a_step.a), .imm (.int a_step.b), .imm (.int a_step.c), .imm (.int s1)])) (e := z1) hm2 hN1 (L5.weak (Γ' := [.imm (enc (a_step : (T3 Int Int Int))), .imm (.int a_step.a), .imm (.int a_step.b), .imm (.int a_step.c), .imm (.int z1)]) (.k (.k (.k (.k (.k .e))))))
    exact x_ret (x_tup (x_cons (x_tup (x_cons (x_op (x_vI (x := a_step.a) L6 rfl (x_vI (x := s1) L6 rfl (x_div hm3 fun z2 _ hm5 => x_cons (x_op (x_vI (x := a_step.b) L6 rfl (x_vI (x := s1) L6 rfl (x_div hm5 fun z3 _ hm6 => x_nil (x_mkT L6 (.cons (.int _) (.cons (.int _) .nil)) (show (2 : Nat) ≤ 16777216 by decide) fun v6 _ L8 le2 r5 => have r6 : Rep _ _ _ (enc ((T2.mk z2 z3) : (T2 Int Int))) v6 := r5; x_cons (x_call (x_cons (x_vI (x := s1) L8 rfl (x_cons (x_vI (x := a_step.c) L8 rfl (x_nil (obE hm6 fun z4 hz2 hm7 => mk_ratio hz2 (L8.cond0 (.im (.int _) (.im (.int _) .nil)) rfl) fun v7 _ F2 => k0d L8 F2 fun L9 le3 r7 => have r8 := le3 _ _ r6; x_nil (x_mkT L9 (.cons r8 (.cons r7 .nil)) (show (2 : Nat) ≤ 16777216 by decide) fun v8 _ L10 le4 r9 => have r10 : Rep _ _ _ (enc ((T2.mk ((T2.mk z2 z3)) z4) : (T2 (T2 Int Int) (T2 Int Int)))) v8 := r9; x_fin (Q := Q) (ps := (fun (r : (T2 (T2 Int Int) (T2 Int Int))) => [])) (rs := (fun (r : (T2 (T2 Int Int) (T2 Int Int))) => (.imm (enc (r : (T2 (T2 Int Int) (T2 Int Int))))))) (e := (T2.mk ((T2.mk z2 z3)) z4)) hm7 kont (L10.fin hp0 r10))))))))))))))))))))))
abbrev sp_ways_of_sides (K : PySem.W.Frag) : Sp := fun vs H Q _ => ∃ (X : Addr → Prop)  (a_cloth : (List (List (T3 Int Int Int)))) (r : (List (T2 (T2 Int Int) (T2 Int Int)))), m_ways_of_sides a_cloth = some r ∧ Cond K X H [.imm (enc (a_cloth : (List (List (T3 Int Int Int)))))] vs ∧ ∀ p H', Fin K X H [] [] (.new (ml (r : (List (T2 (T2 Int Int) (T2 Int Int)))))) (.ref p) H' → Q (.ref p) H'
theorem mk_ways_of_sides {K : PySem.W.Frag} {X : Addr → Prop} {H : Hp} {vs : List V} {Q : VK} {E : XK}  {a_cloth : (List (List (T3 Int Int Int)))} {r : (List (T2 (T2 Int Int) (T2 Int Int)))} (hm : m_ways_of_sides a_cloth = some r) (c : Cond K X H [.imm (enc (a_cloth : (List (List (T3 Int Int Int)))))] vs) (k : ∀ p H', Fin K X H [] [] (.new (ml (r : (List (T2 (T2 Int Int) (T2 Int Int)))))) (.ref p) H' → Q (.ref p) H') : sp_ways_of_sides K vs H Q E := ⟨X, a_cloth, r, hm, c, k⟩
abbrev n_ways_of_sides : List Str := ["cloth", "found", "ring", "k"]
theorem sc_ways_of_sides : FnScope n_ways_of_sides ["cloth"] (defScope s_ways_of_sides) := ⟨rfl, rfl, rfl, by decide +kernel, rfl, by decide +kernel, by decide +kernel⟩
theorem ok_ways_of_sides (T : Txt K mg) : FnOk P w K mg base CX0 4 T.A_ways_of_sides T.D_ways_of_sides ["cloth"] (sp_ways_of_sides K) := by
  refine Fun.ok T.F_ways_of_sides sc_ways_of_sides (fun vs H Q E h => ?_) (fun cdv A outer s H vs Q E hr h => ?_)
  · obtain ⟨X, a_cloth, r, hm, c, kont⟩ := h
    exact c.len
  · obtain ⟨X, a_cloth, r, hm, c, kont⟩ := h
    refine ⟨_, (pss_cons (ps_set (i := 1) sc_ways_of_sides.nd rfl (Or.inl rfl) (pe_lst pa_nil))
      (pss_cons (ps_for PassesOwn.never rfl (pi_list (pv 0)) (pg_name (i := 2) sc_ways_of_sides.nd rfl (Or.inl rfl)) (pss_one (ps_for PassesOwn.never rfl (pi_range1 (by rfl) T.z_range (pa_cons (pe_callB (r := rLenX K) call_lenX (by rfl) T.z_len (by decide +kernel) (pa_cons (pv 2) pa_nil)) pa_nil)) (pg_name (i := 3) sc_ways_of_sides.nd rfl (Or.inl rfl)) (pss_one (ps_expr (pe_bm PySem.F.plainAttrs_list PySem.F.slot_list_append PySem.F.type_list_append mt_append (pv 1) (pa_cons (pe_call (ok_way_of T) hr (by rfl) T.g_way_of T.F_way_of.kp T.b_way_of .nil pass0 (pa_cons (pe_call (ok_step_to T) hr (by rfl) T.g_step_to T.F_step_to.kp T.b_step_to .nil pass0 (pa_cons (pe_ix (r := rIxL K) ix_list (pv 2) (pe_op op_sub (pv 3) pe_int) (fun _ _ => rfl)) (pa_cons (pe_ix (r := rIxL K) ix_list (pv 2) (pv 3) (fun _ _ => rfl)) pa_nil))) pa_nil)) pa_nil)))))))
      (pss_one (ps_ret (pv 1))))), ?_⟩
    have L0 : Lo ⟨K, X, H, muts [.imm (enc (a_cloth : (List (List (T3 Int Int Int)))))], n_ways_of_sides.length⟩ X H (L2.start n_ways_of_sides vs) [.imm (enc (a_cloth : (List (List (T3 Int Int Int))))), .unk, .unk, .unk] := c.start n_ways_of_sides (show (1 : Nat) ≤ 4 by decide)
    unfold m_ways_of_sides at hm
    refine x_seq (x_asg (x_lst (x_nil (x_mkN L0 .nil (show (0 : Nat) ≤ 16777216 by decide) fun p1 _ _ h01 hx1 L1 le1 => x_setN (Γ := [.imm (enc (a_cloth : (List (List (T3 Int Int Int))))), .unk, .unk, .unk]) (p := p1) (o := (ml (([] : (List (T2 (T2 Int Int) (T2 Int Int)))) : (List (T2 (T2 Int Int) (T2 Int Int)))))) (Γ' := [.imm (enc (a_cloth : (List (List (T3 Int Int Int))))), .mu p1 (ml (([] : (List (T2 (T2 Int Int) (T2 Int Int)))) : (List (T2 (T2 Int Int) (T2 Int Int))))), .unk, .unk]) L1 (show (1 : Nat) < 4 by decide) (show (1 : Nat) < 4 by decide) rfl fun _ L2 => ?_))))
    refine x_seq (x_tforL (x_vd (d := (enc (a_cloth : (List (List (T3 Int Int Int)))))) L2 rfl fun v1 r1 => x_foL (G := (fun (s1 : (List (T2 (T2 Int Int) (T2 Int Int)))) => [.imm (enc (a_cloth : (List (List (T3 Int Int Int))))), .mu p1 (ml (s1 : (List (T2 (T2 Int Int) (T2 Int Int))))), .unk, .unk])) (s0 := ([] : (List (T2 (T2 Int Int) (T2 Int Int))))) (xs := a_cloth) (L2.weak (Γ' := [.imm (enc (a_cloth : (List (List (T3 Int Int Int))))), .mu p1 (ml (([] : (List (T2 (T2 Int Int) (T2 Int Int)))) : (List (T2 (T2 Int Int) (T2 Int Int))))), .unk, .unk]) (.k (.k (.k (.k .e))))) (fun _ _ => rfl) r1 hm (fun x1 s1 H1 _ u1 _ _ _ _ _ hm1 L3 r2 hN1 hC1 => ?_) (fun s2 _ _ hm2 L4 => ?_)))
    · refine x_set (d := (enc (x1 : (List (T3 Int Int Int))))) (Γ' := [.imm (enc (a_cloth : (List (List (T3 Int Int Int))))), .mu p1 (ml (s1 : (List (T2 (T2 Int Int) (T2 Int Int))))), .imm (enc (x1 : (List (T3 Int Int Int)))), .unk]) L3 r2 (show (2 : Nat) < 4 by decide) rfl fun _ L5 => ?_
      refine x_tforR1 (x_cons (x_cb (x_cons (x_vd (d := (enc (x1 : (List (T3 Int Int Int))))) L5 rfl fun v2 r3 => x_nil (x_lenL (xs := x1) r3 (x_nil (x_r1 hm1 fun hm4 => x_foR (G := (fun (s3 : (List (T2 (T2 Int Int) (T2 Int Int)))) => [.imm (enc (a_cloth : (List (List (T3 Int Int Int))))), .mu p1 (ml (s3 : (List (T2 (T2 Int Int) (T2 Int Int))))), .imm (enc (x1 : (List (T3 Int Int Int)))), .unk])) (s0 := s1) (L5.weak (Γ' := [.imm (enc (a_cloth : (List (List (T3 Int Int Int))))), .mu p1 (ml (s1 : (List (T2 (T2 Int Int) (T2 Int Int))))), .imm (enc (x1 : (List (T3 Int Int Int)))), .unk]) (.k (.k (.k (.k .e))))) (fun _ _ => rfl) hm4 (fun x2 s3 H2 _ u2 _ _ _ _ _ hm5 L6 r4 hN2 hC2 => ?_) (fun s4 _ _ hm6 L7 => ?_))))))))
      · refine x_set (d := (.int x2)) (Γ' := [.imm (enc (a_cloth : (List (List (T3 Int Int Int))))), .mu p1 (ml (s3 : (List (T2 (T2 Int Int) (T2 Int Int))))), .imm (enc (x1 : (List (T3 Int Int Int)))), .imm (.int x2)]) L6 r4 (show (3 : Nat) < 4 by decide) rfl fun _ L8 => ?_
        refine x_drop (x_bm (x_vm L8 rfl (x_tyM L8 (i := 1) rfl (x_cons (x_call (x_cons (x_call (x_cons (x_op (x_vd (d := (enc (x1 : (List (T3 Int Int Int))))) L8 rfl fun v3 r5 => x_op (x_vI (x := x2) L8 rfl (x_c (x_r0 (x_ixL (xs := x1) hm5 r5 fun x3 v4 _ hm8 r6 => x_cons (x_op (x_vd (d := (enc (x1 : (List (T3 Int Int Int))))) L8 rfl fun v5 r7 => x_vI (x := x2) L8 rfl (x_ixL (xs := x1) hm8 r7 fun x4 v6 _ hm9 r8 => x_nil (obE hm9 fun z1 hz1 hm10 => mk_step_to hz1 (L8.cond0 (.im r6 (.im r8 .nil)) rfl) fun v7 _ F3 => k0d L8 F3 fun L9 le2 r9 => x_nil (obE hm10 fun z2 hz2 hm11 => mk_way_of hz2 (L9.cond0 (.im r9 .nil) rfl) fun v8 _ F4 => k0d L9 F4 fun L10 le3 r10 => x_nil (x_append (xs := s3) (x := z2) (i := 1) (Γ' := [.imm (enc (a_cloth : (List (List (T3 Int Int Int))))), .mu p1 (ml ((s3 ++ [z2]) : (List (T2 (T2 Int Int) (T2 Int Int))))), .imm (enc (x1 : (List (T3 Int Int Int)))), .imm (.int x2)]) L10 rfl hm11 r10 rfl fun _ hm12 L11 le4 => ?_))))))))))))))))))))
        exact x_leaf (G := (fun (s3 : (List (T2 (T2 Int Int) (T2 Int Int)))) => [.imm (enc (a_cloth : (List (List (T3 Int Int Int))))), .mu p1 (ml (s3 : (List (T2 (T2 Int Int) (T2 Int Int))))), .imm (enc (x1 : (List (T3 Int Int Int)))), .unk])) (e := (s3 ++ [z2])) hm12 hN2 (L11.weak (Γ' := [.imm (enc (a_cloth : (List (List (T3 Int Int Int))))), .mu p1 (ml ((s3 ++ [z2]) : (List (T2 (T2 Int Int) (T2 Int Int))))), .imm (enc (x1 : (List (T3 Int Int Int)))), .unk]) (.k (.k (.k (.d .e)))))
      exact x_leaf (G := (fun (s1 : (List (T2 (T2 Int Int) (T2 Int Int)))) => [.imm (enc (a_cloth : (List (List (T3 Int Int Int))))), .mu p1 (ml (s1 : (List (T2 (T2 Int Int) (T2 Int Int))))), .unk, .unk])) (e := s4) hm6 hN1 (L7.weak (Γ' := [.imm (enc (a_cloth : (List (List (T3 Int Int Int))))), .mu p1 (ml (s4 : (List (T2 (T2 Int Int) (T2 Int Int))))), .unk, .unk]) (.k (.k (.d (.k .e)))))
    exact x_ret (x_vm L4 rfl (x_finP (Q := Q) (ps := (fun (r : (List (T2 (T2 Int Int) (T2 Int Int)))) => [])) (o := fun (r : (List (T2 (T2 Int Int) (T2 Int Int)))) => (ml (r : (List (T2 (T2 Int Int) (T2 Int Int)))))) (e := s2) hm2 kont (L4.finM (p := p1) (i := 1) hp0 rfl h01)))
abbrev sp_plus (K : PySem.W.Frag) : Sp := fun vs H Q _ => ∃ (X : Addr → Prop)  (a_one : (T2 Int Int)) (a_other : (T2 Int Int)) (r : (T2 Int Int)), m_plus a_one a_other = some r ∧ Cond K X H [.lax a_one.a a_one.b, .imm (enc (a_other : (T2 Int Int)))] vs ∧ ∀ v H', Fin K X H [] [] (.imm (enc (r : (T2 Int Int)))) v H' → Q v H'
theorem mk_plus {K : PySem.W.Frag} {X : Addr → Prop} {H : Hp} {vs : List V} {Q : VK} {E : XK}  {a_one : (T2 Int Int)} {a_other : (T2 Int Int)} {r : (T2 Int Int)} (hm : m_plus a_one a_other = some r) (c : Cond K X H [.lax a_one.a a_one.b, .imm (enc (a_other : (T2 Int Int)))] vs) (k : ∀ v H', Fin K X H [] [] (.imm (enc (r : (T2 Int Int)))) v H' → Q v H') : sp_plus K vs H Q E := ⟨X, a_one, a_other, r, hm, c, k⟩
abbrev n_plus : List Str := ["one", "other"]
theorem sc_plus : FnScope n_plus ["one", "other"] (defScope s_plus) := ⟨rfl, rfl, rfl, by decide +kernel, rfl, by decide +kernel, by decide +kernel⟩
theorem ok_plus (T : Txt K mg) : FnOk P w K mg base CX0 3 T.A_plus T.D_plus ["one", "other"] (sp_plus K) := by
  refine Fun.ok T.F_plus sc_plus (fun vs H Q E h => ?_) (fun cdv A outer s H vs Q E hr h => ?_)
  · obtain ⟨X, a_one, a_other, r, hm, c, kont⟩ := h
    exact c.len
  · obtain ⟨X, a_one, a_other, r, hm, c, kont⟩ := h
    refine ⟨_, (pss_one (ps_ret (pe_call (ok_ratio T) hr (by rfl) T.g_ratio T.F_ratio.kp T.b_ratio .nil pass0 (pa_cons (pe_op op_add (pe_op op_mulW (pe_ix (r := rIxT K) ix_tup (pv 0) pe_int (fun _ _ => rfl)) (pe_ix (r := rIxT K) ix_tup (pv 1) pe_int (fun _ _ => rfl))) (pe_op op_mulW (pe_ix (r := rIxT K) ix_tup (pv 1) pe_int (fun _ _ => rfl)) (pe_ix (r := rIxT K) ix_tup (pv 0) pe_int (fun _ _ => rfl)))) (pa_cons (pe_op op_mulW (pe_ix (r := rIxT K) ix_tup (pv 0) pe_int (fun _ _ => rfl)) (pe_ix (r := rIxT K) ix_tup (pv 1) pe_int (fun _ _ => rfl))) pa_nil))))), ?_⟩
    have L0 : Lo ⟨K, X, H, muts [.lax a_one.a a_one.b, .imm (enc (a_other : (T2 Int Int)))], n_plus.length⟩ X H (L2.start n_plus vs) [.lax a_one.a a_one.b, .imm (enc (a_other : (T2 Int Int)))] := c.start n_plus (show (2 : Nat) ≤ 2 by decide)
    unfold m_plus at hm
    exact x_ret (x_call (x_cons (x_op (x_op (x_op (x_vlx L0 rfl fun v1 r1 => x_c (x_ixLx (q := a_one) (n := a_one.a) r1 rfl (x_op (x_vd (d := (enc (a_other : (T2 Int Int)))) L0 rfl fun v2 r2 => x_c (x_ixTI (x := a_other.b) r2 rfl (x_mul hm fun z1 _ hm1 => x_op (x_op (x_vd (d := (enc (a_other : (T2 Int Int)))) L0 rfl fun v3 r3 => x_c (x_ixTI (x := a_other.a) r3 rfl (x_op (x_vlx L0 rfl fun v4 r4 => x_c (x_ixLx (q := a_one) (n := a_one.b) r4 rfl (x_mul hm1 fun z2 _ hm2 => x_r0 (x_cons (x_op (x_op (x_vlx L0 rfl fun v5 r5 => x_c (x_ixLx (q := a_one) (n := a_one.b) r5 rfl (x_op (x_vd (d := (enc (a_other : (T2 Int Int)))) L0 rfl fun v6 r6 => x_c (x_ixTI (x := a_other.b) r6 rfl (x_mul hm2 fun z3 _ hm3 => x_nil (obE hm3 fun z4 hz1 hm4 => mk_ratio hz1 (L0.cond0 (.im (.int _) (.im (.int _) .nil)) rfl) fun v7 _ F1 => k0d L0 F1 fun L1 le1 r7 => x_fin (Q := Q) (ps := (fun (r : (T2 Int Int)) => [])) (rs := (fun (r : (T2 Int Int)) => (.imm (enc (r : (T2 Int Int)))))) (e := z4) hm4 kont (L1.fin hp0 r7)))))))))))))))))))))))))))))
abbrev sp_mark_sums (K : PySem.W.Frag) : Sp := fun vs H Q _ => ∃ (X : Addr → Prop)  (a_cloth : (List (List (T3 Int Int Int)))) (r : (List ((T2 Int Int) × (T2 Int Int)))), m_mark_sums a_cloth = some r ∧ Cond K X H [.imm (enc (a_cloth : (List (List (T3 Int Int Int)))))] vs ∧ ∀ p H', Fin K X H [] [] (.new (md (r : (List ((T2 Int Int) × (T2 Int Int)))))) (.ref p) H' → Q (.ref p) H'
theorem mk_mark_sums {K : PySem.W.Frag} {X : Addr → Prop} {H : Hp} {vs : List V} {Q : VK} {E : XK}  {a_cloth : (List (List (T3 Int Int Int)))} {r : (List ((T2 Int Int) × (T2 Int Int)))} (hm : m_mark_sums a_cloth = some r) (c : Cond K X H [.imm (enc (a_cloth : (List (List (T3 Int Int Int)))))] vs) (k : ∀ p H', Fin K X H [] [] (.new (md (r : (List ((T2 Int Int) × (T2 Int Int)))))) (.ref p) H' → Q (.ref p) H') : sp_mark_sums K vs H Q E := ⟨X, a_cloth, r, hm, c, k⟩
abbrev n_mark_sums : List Str := ["cloth", "sums", "direction", "often"]
theorem sc_mark_sums : FnScope n_mark_sums ["cloth"] (defScope s_mark_sums) := ⟨rfl, rfl, rfl, by decide +kernel, rfl, by decide +kernel, by decide +kernel⟩
theorem ok_mark_sums (T : Txt K mg) : FnOk P w K mg base CX0 5 T.A_mark_sums T.D_mark_sums ["cloth"] (sp_mark_sums K) := by
  refine Fun.ok T.F_mark_sums sc_mark_sums (fun vs H Q E h => ?_) (fun cdv A outer s H vs Q E hr h => ?_)
  · obtain ⟨X, a_cloth, r, hm, c, kont⟩ := h
    exact c.len
  · obtain ⟨X, a_cloth, r, hm, c, kont⟩ := h
    refine ⟨_, (pss_cons (ps_set (i := 1) sc_mark_sums.nd rfl (Or.inl rfl) pe_dnewT)
      (pss_cons (ps_for PassesOwn.never rfl (pi_list (pe_call (ok_ways_of_sides T) hr (by rfl) T.g_ways_of_sides T.F_ways_of_sides.kp T.b_ways_of_sides .nil pass0 (pa_cons (pv 0) pa_nil))) (pg_tup rfl (pgs_cons (pg_name (i := 2) sc_mark_sums.nd rfl (Or.inl rfl)) (pgs_cons (pg_name (i := 3) sc_mark_sums.nd rfl (Or.inl rfl)) pgs_nil))) (pss_one (ps_dput (room1 hr) (pv 1) (pv 2) (pe_call (ok_plus T) (hr.mono (by decide)) (by rfl) T.g_plus T.F_plus.kp T.b_plus .nil pass0 (pa_cons (pe_dget2 (room1 hr) (pv 1) (pv 2) (pe_glob (v := .ref T.a_NOTHING) (u := .ref T.a_NOTHING) rfl T.c_NOTHING rfl) ⟨by rfl, by rfl, by rfl, by rfl⟩) (pa_cons (pv 3) pa_nil))) (by rfl))))
      (pss_one (ps_ret (pv 1))))), ?_⟩
    have L0 : Lo ⟨K, X, H, muts [.imm (enc (a_cloth : (List (List (T3 Int Int Int)))))], n_mark_sums.length⟩ X H (L2.start n_mark_sums vs) [.imm (enc (a_cloth : (List (List (T3 Int Int Int))))), .unk, .unk, .unk] := c.start n_mark_sums (show (1 : Nat) ≤ 4 by decide)
    unfold m_mark_sums at hm
    refine x_seq (x_asg (x_dnew (β := (T2 Int Int)) L0 fun p1 _ _ h01 hx1 L1 le1 => x_setN (Γ := [.imm (enc (a_cloth : (List (List (T3 Int Int Int))))), .unk, .unk, .unk]) (p := p1) (o := (md (([] : (List ((T2 Int Int) × (T2 Int Int)))) : (List ((T2 Int Int) × (T2 Int Int)))))) (Γ' := [.imm (enc (a_cloth : (List (List (T3 Int Int Int))))), .mu p1 (md (([] : (List ((T2 Int Int) × (T2 Int Int)))) : (List ((T2 Int Int) × (T2 Int Int))))), .unk, .unk]) L1 (show (1 : Nat) < 4 by decide) (show (1 : Nat) < 4 by decide) rfl fun _ L2 => ?_))
    refine x_seq (x_tforL (x_call (x_cons (x_vd (d := (enc (a_cloth : (List (List (T3 Int Int Int)))))) L2 rfl fun v1 r1 => x_nil (obE hm fun z1 hz1 hm1 => mk_ways_of_sides hz1 (L2.cond0 (.im r1 .nil) rfl) fun p2 _ F1 => k0i L2 F1 fun L3 le2 r2 => have r3 : Rep _ _ _ (enc (z1 : (List (T2 (T2 Int Int) (T2 Int Int))))) (.ref p2) := r2; x_foL (G := (fun (s1 : (List ((T2 Int Int) × (T2 Int Int)))) => [.imm (enc (a_cloth : (List (List (T3 Int Int Int))))), .mu p1 (md (s1 : (List ((T2 Int Int) × (T2 Int Int))))), .unk, .unk])) (s0 := ([] : (List ((T2 Int Int) × (T2 Int Int))))) (xs := z1) (L3.weak (Γ' := [.imm (enc (a_cloth : (List (List (T3 Int Int Int))))), .mu p1 (md (([] : (List ((T2 Int Int) × (T2 Int Int)))) : (List ((T2 Int Int) × (T2 Int Int))))), .unk, .unk]) (.k (.k (.k (.k .e))))) (fun _ _ => rfl) r3 hm1 (fun x1 s1 H1 _ u1 _ _ _ _ _ hm2 L4 r4 hN1 hC1 => ?_) (fun s2 _ _ hm3 L5 => ?_))))))
    · refine x_gTup r4 rfl fun vs1 rs1 => x_gCons rs1 fun v2 _ r5 rs2 => x_set (d := (enc (x1.a : (T2 Int Int)))) (Γ' := [.imm (enc (a_cloth : (List (List (T3 Int Int Int))))), .mu p1 (md (s1 : (List ((T2 Int Int) × (T2 Int Int))))), .imm (enc (x1.a : (T2 Int Int))), .unk]) L4 r5 (show (2 : Nat) < 4 by decide) rfl fun _ L6 => x_gCons rs2 fun v3 _ r6 rs3 => x_set (d := (enc (x1.b : (T2 Int Int)))) (Γ' := [.imm (enc (a_cloth : (List (List (T3 Int Int Int))))), .mu p1 (md (s1 : (List ((T2 Int Int) × (T2 Int Int))))), .imm (enc (x1.a : (T2 Int Int))), .imm (enc (x1.b : (T2 Int Int)))]) L6 r6 (show (3 : Nat) < 4 by decide) rfl fun _ L7 => x_gNil rs3 (?_)
      refine x_dputS (x_call (x_cons (x_dg2 (x_vm L7 rfl (x_isD (i := 1) L7 rfl (x_vd (d := (enc (x1.a : (T2 Int Int)))) L7 rfl fun v4 r7 => x_c (x_dget2L (kvs := s1) (k := x1.a) (d := (T2.mk (0 : Int) (1 : Int))) (i := 1) L7 rfl r7 (⟨_, rfl, T.s_NOTHING _⟩ : Lax K (T2.mk (0 : Int) (1 : Int)) _ _) fun v5 r8 => x_cons (x_vd (d := (enc (x1.b : (T2 Int Int)))) L7 rfl fun v6 r9 => x_nil (obE hm2 fun z2 hz2 hm5 => mk_plus hz2 (L7.cond0 (As.lx (q := ((dgetM s1 x1.a).getD ((T2.mk (0 : Int) (1 : Int))))) r8 (.im r9 .nil)) rfl) fun v7 _ F3 => k0d L7 F3 fun L8 le3 r10 => x_vm L8 rfl (x_vd (d := (enc (x1.a : (T2 Int Int)))) L8 rfl fun v8 r11 => x_dput (kvs := s1) (k := x1.a) (b := z2) (i := 1) (Γ' := [.imm (enc (a_cloth : (List (List (T3 Int Int Int))))), .mu p1 (md ((dputM s1 x1.a z2) : (List ((T2 Int Int) × (T2 Int Int))))), .imm (enc (x1.a : (T2 Int Int))), .imm (enc (x1.b : (T2 Int Int)))]) L8 rfl hm5 r11 r10 rfl fun _ hm6 L9 le4 => ?_))))))))))
      exact x_leaf (G := (fun (s1 : (List ((T2 Int Int) × (T2 Int Int)))) => [.imm (enc (a_cloth : (List (List (T3 Int Int Int))))), .mu p1 (md (s1 : (List ((T2 Int Int) × (T2 Int Int))))), .unk, .unk])) (e := (dputM s1 x1.a z2)) hm6 hN1 (L9.weak (Γ' := [.imm (enc (a_cloth : (List (List (T3 Int Int Int))))), .mu p1 (md ((dputM s1 x1.a z2) : (List ((T2 Int Int) × (T2 Int Int))))), .unk, .unk]) (.k (.k (.d (.d .e)))))
    exact x_ret (x_vm L5 rfl (x_finP (Q := Q) (ps := (fun (r : (List ((T2 Int Int) × (T2 Int Int)))) => [])) (o := fun (r : (List ((T2 Int Int) × (T2 Int Int)))) => (md (r : (List ((T2 Int Int) × (T2 Int Int)))))) (e := s2) hm3 kont (L5.finM (p := p1) (i := 1) hp0 rfl h01)))
abbrev sp_marks (K : PySem.W.Frag) : Sp := fun vs H Q _ => ∃ (X : Addr → Prop)  (a_cloth : (List (List (T3 Int Int Int)))) (r : (List (T2 (T2 Int Int) (T2 Int Int)))), m_marks a_cloth = some r ∧ Cond K X H [.imm (enc (a_cloth : (List (List (T3 Int Int Int)))))] vs ∧ ∀ p H', Fin K X H [] [] (.new (ml (r : (List (T2 (T2 Int Int) (T2 Int Int)))))) (.ref p) H' → Q (.ref p) H'
theorem mk_marks {K : PySem.W.Frag} {X : Addr → Prop} {H : Hp} {vs : List V} {Q : VK} {E : XK}  {a_cloth : (List (List (T3 Int Int Int)))} {r : (List (T2 (T2 Int Int) (T2 Int Int)))} (hm : m_marks a_cloth = some r) (c : Cond K X H [.imm (enc (a_cloth : (List (List (T3 Int Int Int)))))] vs) (k : ∀ p H', Fin K X H [] [] (.new (ml (r : (List (T2 (T2 Int Int) (T2 Int Int)))))) (.ref p) H' → Q (.ref p) H') : sp_marks K vs H Q E := ⟨X, a_cloth, r, hm, c, k⟩
abbrev n_marks : List Str := ["cloth", "sums", "direction"]
theorem sc_marks : FnScope n_marks ["cloth"] (defScope s_marks) := ⟨rfl, rfl, rfl, by decide +kernel, rfl, by decide +kernel, by decide +kernel⟩
theorem ok_marks (T : Txt K mg) : FnOk P w K mg base CX0 6 T.A_marks T.D_marks ["cloth"] (sp_marks K) := by
  refine Fun.ok T.F_marks sc_marks (fun vs H Q E h => ?_) (fun cdv A outer s H vs Q E hr h => ?_)
  · obtain ⟨X, a_cloth, r, hm, c, kont⟩ := h
    exact c.len
  · obtain ⟨X, a_cloth, r, hm, c, kont⟩ := h
    refine ⟨_, (pss_cons (ps_set (i := 1) sc_marks.nd rfl (Or.inr rfl) (pe_call (ok_mark_sums T) hr (by rfl) T.g_mark_sums T.F_mark_sums.kp T.b_mark_sums .nil pass0 (pa_cons (pv 0) pa_nil)))
      (pss_one (ps_ret (pe_lc (own := [("direction", 2)]) (g := gName 2) (tt := _) rfl sc_marks.nd (pi_list (pe_callB (r := rSortedDT) (cr_sortedDT rfl) (by rfl) T.z_sorted (by decide +kernel) (pa_cons (pv 1) pa_nil))) (blkOk_by (N := n_marks) (sc := defScope s_marks) (by decide +kernel)) (fun _ _ _ _ _ => (pg_name (i := 2) sc_marks.nd rfl (Or.inl rfl))) (fun _ _ _ _ _ => (pts_one (pt_cmpR (r := rNeD K) (op_neD hr.units) (pe_dget (room1 hr) (pv 1) (pv 2) (fun _ _ => rfl)) (pe_glob (v := .ref T.a_NOTHING) (u := .ref T.a_NOTHING) rfl T.c_NOTHING rfl) (nomark _)))) (fun _ _ _ _ _ => (pe_tup (pa_cons (pv 2) (pa_cons (pe_dget (room1 hr) (pv 1) (pv 2) (fun _ _ => rfl)) pa_nil)))))))), ?_⟩
    have L0 : Lo ⟨K, X, H, muts [.imm (enc (a_cloth : (List (List (T3 Int Int Int)))))], n_marks.length⟩ X H (L2.start n_marks vs) [.imm (enc (a_cloth : (List (List (T3 Int Int Int))))), .unk, .unk] := c.start n_marks (show (1 : Nat) ≤ 3 by decide)
    unfold m_marks at hm
    refine x_seq (x_asg (x_call (x_cons (x_vd (d := (enc (a_cloth : (List (List (T3 Int Int Int)))))) L0 rfl fun v1 r1 => x_nil (obE hm fun z1 hz1 hm1 => mk_mark_sums hz1 (L0.cond0 (.im r1 .nil) rfl) fun p1 _ F1 => k0N L0 F1 fun _ h01 hx1 L1 le1 => x_setN (Γ := [.imm (enc (a_cloth : (List (List (T3 Int Int Int))))), .unk, .unk]) (p := p1) (o := (md (z1 : (List ((T2 Int Int) × (T2 Int Int)))))) (Γ' := [.imm (enc (a_cloth : (List (List (T3 Int Int Int))))), .mu p1 (md (z1 : (List ((T2 Int Int) × (T2 Int Int))))), .unk]) L1 (show (1 : Nat) < 3 by decide) (show (1 : Nat) < 3 by decide) rfl fun _ L2 => ?_)))))
    exact x_ret (x_lcl (x_cb (x_cons (x_vm L2 rfl (x_nil (x_sortedD (kvs := z1) (i := 1) L2 rfl fun v2 _ L3 le2 r3 => obE hm1 fun _ hl1 hm2 => obE hm2 fun ys1 hy1 hm3 => x_lcLN (G := (fun (s1 : Unit) => [.imm (enc (a_cloth : (List (List (T3 Int Int Int))))), .mu p1 (md (z1 : (List ((T2 Int Int) × (T2 Int Int))))), .unk])) (s0 := ()) (xs := (sortP (List.map (fun e => e.1) z1))) L3 (fun _ _ => rfl) r3 (filO_comp hy1) (lenOk_le hl1) (fun x1 s1 _ H1 _ u1 _ _ _ hF1 L4 r4 hn1 hy2 => obE hF1 fun y1 hm4 he1 => x_cName (d := (enc (x1 : (T2 Int Int)))) (Γ' := [.imm (enc (a_cloth : (List (List (T3 Int Int Int))))), .mu p1 (md (z1 : (List ((T2 Int Int) × (T2 Int Int))))), .imm (enc (x1 : (T2 Int Int)))]) L4 r4 (show (2 : Nat) < 3 by decide) rfl fun _ L5 => x_test (x_op (x_dg (x_vm L5 rfl (x_vd (d := (enc (x1 : (T2 Int Int)))) L5 rfl fun v3 r5 => x_dgetv (kvs := z1) (k := x1) (i := 1) L5 rfl hm4 r5 fun x2 v4 hm5 r6 => x_c (x_ned (x := x2) (y := (T2.mk (0 : Int) (1 : Int))) r6.dp (Lax.dp (⟨_, rfl, T.s_NOTHING _⟩ : Lax K (T2.mk (0 : Int) (1 : Int)) _ _)) (by decide) (x_kb (x_ct hm5 (fun hm6 => x_tup (x_cons (x_vd (d := (enc (x1 : (T2 Int Int)))) L5 rfl fun v5 r7 => x_cons (x_dg (x_vm L5 rfl (x_vd (d := (enc (x1 : (T2 Int Int)))) L5 rfl fun v6 r8 => x_dgetv (kvs := z1) (k := x1) (i := 1) L5 rfl hm6 r8 fun x3 v7 hm7 r9 => x_nil (x_mkT L5 (.cons r7 (.cons r9 .nil)) (show (2 : Nat) ≤ 16777216 by decide) fun v8 _ L6 le3 r10 => have r11 : Rep _ _ _ (enc ((T2.mk x1 x3) : (T2 (T2 Int Int) (T2 Int Int)))) v8 := r10; x_cy (G := (fun (s1 : Unit) => [.imm (enc (a_cloth : (List (List (T3 Int Int Int))))), .mu p1 (md (z1 : (List ((T2 Int Int) × (T2 Int Int))))), .unk])) (s := s1) (s' := ()) (y := (T2.mk x1 x3)) (by cases hm7; cases he1; rfl) hy2 L4 L6 (.i rfl (.m (.i rfl .e))) r11))))))) (fun hm6 => x_cn (G := (fun (s1 : Unit) => [.imm (enc (a_cloth : (List (List (T3 Int Int Int))))), .mu p1 (md (z1 : (List ((T2 Int Int) × (T2 Int Int))))), .unk])) (s := s1) (s' := ()) (by cases hm6; cases he1; rfl) hn1 L4 L5 (.i rfl (.m (.i rfl .e)))))))))))) fun p2 _ _ h02 hx2 L7 le4 => x_finP (Q := Q) (ps := (fun (r : (List (T2 (T2 Int Int) (T2 Int Int)))) => [])) (o := fun (r : (List (T2 (T2 Int Int) (T2 Int Int)))) => (ml (r : (List (T2 (T2 Int Int) (T2 Int Int)))))) (e := ys1) hm3 kont (L7.finT (p := p2) (i := 3) (o := (ml (ys1 : (List (T2 (T2 Int Int) (T2 Int Int)))))) hp0 rfl h02)))))))
abbrev sp__law_moved (K : PySem.W.Frag) : Sp := fun vs H Q _ => ∃ (X : Addr → Prop)  (a__law_cloth_here : (T2 (List (List (T2 Int Int))) Int)) (a__law_often : Int) (a__law_x : Int) (a__law_y : Int) (r : (T2 (List (List (T2 Int Int))) Int)), m__law_moved a__law_cloth_here a__law_often a__law_x a__law_y = some r ∧ Cond K X H [.imm (enc (a__law_cloth_here : (T2 (List (List (T2 Int Int))) Int))), .imm (.int a__law_often), .imm (.int a__law_x), .imm (.int a__law_y)] vs ∧ ∀ v H', Fin K X H [] [] (.imm (enc (r : (T2 (List (List (T2 Int Int))) Int)))) v H' → Q v H'
theorem mk__law_moved {K : PySem.W.Frag} {X : Addr → Prop} {H : Hp} {vs : List V} {Q : VK} {E : XK}  {a__law_cloth_here : (T2 (List (List (T2 Int Int))) Int)} {a__law_often : Int} {a__law_x : Int} {a__law_y : Int} {r : (T2 (List (List (T2 Int Int))) Int)} (hm : m__law_moved a__law_cloth_here a__law_often a__law_x a__law_y = some r) (c : Cond K X H [.imm (enc (a__law_cloth_here : (T2 (List (List (T2 Int Int))) Int))), .imm (.int a__law_often), .imm (.int a__law_x), .imm (.int a__law_y)] vs) (k : ∀ v H', Fin K X H [] [] (.imm (enc (r : (T2 (List (List (T2 Int Int))) Int)))) v H' → Q v H') : sp__law_moved K vs H Q E := ⟨X, a__law_cloth_here, a__law_often, a__law_x, a__law_y, r, hm, c, k⟩
abbrev n__law_moved : List Str := ["_law_cloth_here", "_law_often", "_law_x", "_law_y", "_law_rings_here", "_law_bottom", "_law_ring", "_law_one", "_law_other"]
theorem sc__law_moved : FnScope n__law_moved ["_law_cloth_here", "_law_often", "_law_x", "_law_y"] (defScope s__law_moved) := ⟨rfl, rfl, rfl, by decide +kernel, rfl, by decide +kernel, by decide +kernel⟩
theorem ok__law_moved (T : Txt K mg) : FnOk P w K mg base CX0 1 T.A__law_moved T.D__law_moved ["_law_cloth_here", "_law_often", "_law_x", "_law_y"] (sp__law_moved K) := by
  refine Fun.ok T.F__law_moved sc__law_moved (fun vs H Q E h => ?_) (fun cdv A outer s H vs Q E hr h => ?_)
  · obtain ⟨X, a__law_cloth_here, a__law_often, a__law_x, a__law_y, r, hm, c, kont⟩ := h
    exact c.len
  · obtain ⟨X, a__law_cloth_here, a__law_often, a__law_x, a__law_y, r, hm, c, kont⟩ := h
    refine ⟨_, (pss_cons (ps_asg (pv 0) (pg_tup rfl (pgs_cons (pg_name (i := 4) sc__law_moved.nd rfl (Or.inl rfl)) (pgs_cons (pg_name (i := 5) sc__law_moved.nd rfl (Or.inl rfl)) pgs_nil))))
      (pss_one (ps_ret (pe_tup (pa_cons (pe_lc (own := [("_law_ring", 6)]) (g := gName 6) (tt := tYes) rfl sc__law_moved.nd (pi_list (pv 4)) (blkOk_by (N := n__law_moved) (sc := defScope s__law_moved) (by decide +kernel)) (fun _ _ _ _ _ => (pg_name (i := 6) sc__law_moved.nd rfl (Or.inl rfl))) (fun _ _ _ _ _ => pts_nil) (fun _ _ _ _ _ => (pe_lc (own := [("_law_one", 7), ("_law_other", 8)]) (g := gTup K 2 (gCons (gName 7) (gCons (gName 8) gNil))) (tt := tYes) rfl sc__law_moved.nd (pi_listK (K := K) rfl (pv 6)) (blkOk_in (N := n__law_moved) (by decide +kernel)) (fun _ _ _ _ _ => (pg_tup rfl (pgs_cons (pg_name (i := 7) sc__law_moved.nd rfl (Or.inl rfl)) (pgs_cons (pg_name (i := 8) sc__law_moved.nd rfl (Or.inl rfl)) pgs_nil)))) (fun _ _ _ _ _ => pts_nil) (fun _ _ _ _ _ => (pe_tup (pa_cons (pe_op op_add (pe_op op_mulW (pv 1) (pv 7)) (pv 2)) (pa_cons (pe_op op_add (pe_op op_mulW (pv 1) (pv 8)) (pv 3)) pa_nil))))))) (pa_cons (pv 5) pa_nil)))))), ?_⟩
    have L0 : Lo ⟨K, X, H, muts [.imm (enc (a__law_cloth_here : (T2 (List (List (T2 Int Int))) Int))), .imm (.int a__law_often), .imm (.int a__law_x), .imm (.int a__law_y)], n__law_moved.length⟩ X H (L2.start n__law_moved vs) [.imm (enc (a__law_cloth_here : (T2 (List (List (T2 Int Int))) Int))), .imm (.int a__law_often), .imm (.int a__law_x), .imm (.int a__law_y), .unk, .unk, .unk, .unk, .unk] := c.start n__law_moved (show (4 : Nat) ≤ 9 by decide)
    unfold m__law_moved at hm
    refine x_seq (x_asg (x_vd (d := (enc (a__law_cloth_here : (T2 (List (List (T2 Int Int))) Int)))) L0 rfl fun v1 r1 => x_gTup r1 rfl fun vs1 rs1 => x_gCons rs1 fun v2 _ r2 rs2 => x_set (d := (enc (a__law_cloth_here.a : (List (List (T2 Int Int)))))) (Γ' := [.imm (enc (a__law_cloth_here : (T2 (List (List (T2 Int Int))) Int))), .imm (.int a__law_often), .imm (.int a__law_x), .imm (.int a__law_y), .imm (enc (a__law_cloth_here.a : (List (List (T2 Int Int))))), .unk, .unk, .unk, .unk]) L0 r2 (show (4 : Nat) < 9 by decide) rfl fun _ L1 => x_gCons rs2 fun v3 _ r3 rs3 => x_set (d := (.int a__law_cloth_here.b)) (Γ' := [.imm (enc (a__law_cloth_here : (T2 (List (List (T2 Int Int))) Int))), .imm (.int a__law_often), .imm (.int a__law_x), .imm (.int a__law_y), .imm (enc (a__law_cloth_here.a : (List (List (T2 Int Int))))), .imm (.int a__law_cloth_here.b), .unk, .unk, .unk]) L1 r3 (show (5 : Nat) < 9 by decide) rfl fun _ L2 => x_gNil rs3 (?_)))
    exact x_ret (x_tup (x_cons (x_lcl (x_vd (d := (enc (a__law_cloth_here.a : (List (List (T2 Int Int)))))) L2 rfl fun v4 r4 => obE hm fun _ hl1 hm1 => obE hm1 fun ys1 hy1 hm2 => x_lcL (G := (fun (s1 : Unit) => [.imm (enc (a__law_cloth_here : (T2 (List (List (T2 Int Int))) Int))), .imm (.int a__law_often), .imm (.int a__law_x), .imm (.int a__law_y), .imm (enc (a__law_cloth_here.a : (List (List (T2 Int Int))))), .imm (.int a__law_cloth_here.b), .unk, .unk, .unk])) (s0 := ()) (xs := a__law_cloth_here.a) L2 (fun _ _ => rfl) r4 (mapO_comp hy1) (lenOk_le hl1) (fun x1 s1 _ H1 _ u1 _ _ _ hF1 L3 r5 hn1 hy2 => obE hF1 fun y1 hm3 he1 => x_cName (d := (enc (x1 : (List (T2 Int Int))))) (Γ' := [.imm (enc (a__law_cloth_here : (T2 (List (List (T2 Int Int))) Int))), .imm (.int a__law_often), .imm (.int a__law_x), .imm (.int a__law_y), .imm (enc (a__law_cloth_here.a : (List (List (T2 Int Int))))), .imm (.int a__law_cloth_here.b), .imm (enc (x1 : (List (T2 Int Int)))), .unk, .unk]) L3 r5 (show (6 : Nat) < 9 by decide) rfl fun _ L4 => x_yes (x_lcl (x_vd (d := (enc (x1 : (List (T2 Int Int))))) L4 rfl fun v5 r6 => obE hm3 fun _ hl2 hm4 => obE hm4 fun ys2 hy3 hm5 => x_lcL (G := (fun (s2 : Unit) => [.imm (enc (a__law_cloth_here : (T2 (List (List (T2 Int Int))) Int))), .imm (.int a__law_often), .imm (.int a__law_x), .imm (.int a__law_y), .imm (enc (a__law_cloth_here.a : (List (List (T2 Int Int))))), .imm (.int a__law_cloth_here.b), .imm (enc (x1 : (List (T2 Int Int)))), .unk, .unk])) (s0 := ()) (xs := x1) L4 (fun _ _ => rfl) r6 (mapO_comp hy3) (lenOk_le hl2) (fun x2 s2 _ H2 _ u2 _ _ _ hF2 L5 r7 hn2 hy4 => obE hF2 fun y2 hm6 he2 => x_cTup (d1 := (.int x2.a)) (d2 := (.int x2.b)) (Γ' := [.imm (enc (a__law_cloth_here : (T2 (List (List (T2 Int Int))) Int))), .imm (.int a__law_often), .imm (.int a__law_x), .imm (.int a__law_y), .imm (enc (a__law_cloth_here.a : (List (List (T2 Int Int))))), .imm (.int a__law_cloth_here.b), .imm (enc (x1 : (List (T2 Int Int)))), .imm (.int x2.a), .imm (.int x2.b)]) L5 r7 (show (7 : Nat) < 9 by decide) (show (8 : Nat) < 9 by decide) (by decide) rfl fun _ L6 => x_yes (x_tup (x_cons (x_op (x_op (x_vI (x := a__law_often) L6 rfl (x_vI (x := x2.a) L6 rfl (x_mul hm6 fun z1 _ hm7 => x_vI (x := a__law_x) L6 rfl (x_r0 (x_cons (x_op (x_op (x_vI (x := a__law_often) L6 rfl (x_vI (x := x2.b) L6 rfl (x_mul hm7 fun z2 _ hm8 => x_vI (x := a__law_y) L6 rfl (x_r0 (x_nil (x_mkT L6 (.cons (.int _) (.cons (.int _) .nil)) (show (2 : Nat) ≤ 16777216 by decide) fun v6 _ L7 le1 r8 => have r9 : Rep _ _ _ (enc ((T2.mk ((z1 + a__law_x)) ((z2 + a__law_y))) : (T2 Int Int))) v6 := r8; x_cy (G := (fun (s2 : Unit) => [.imm (enc (a__law_cloth_here : (T2 (List (List (T2 Int Int))) Int))), .imm (.int a__law_often), .imm (.int a__law_x), .imm (.int a__law_y), .imm (enc (a__law_cloth_here.a : (List (List (T2 Int Int))))), .imm (.int a__law_cloth_here.b), .imm (enc (x1 : (List (T2 Int Int)))), .unk, .unk])) (s := s2) (s' := ()) (y := (T2.mk ((z1 + a__law_x)) ((z2 + a__law_y)))) (by cases hm8; cases he2; rfl) hy4 L5 L7 (.i rfl (.i rfl (.i rfl (.i rfl (.i rfl (.i rfl (.i rfl (.i rfl (.i rfl .e))))))))) r9)))))))))))))))))) fun p1 _ L8 le2 r10 => have L9 : Lo _ _ _ _ [.imm (enc (a__law_cloth_here : (T2 (List (List (T2 Int Int))) Int))), .imm (.int a__law_often), .imm (.int a__law_x), .imm (.int a__law_y), .imm (enc (a__law_cloth_here.a : (List (List (T2 Int Int))))), .imm (.int a__law_cloth_here.b), .imm (enc (x1 : (List (T2 Int Int)))), .unk, .unk] := L8; have r11 : Rep _ _ _ (enc (ys2 : (List (T2 Int Int)))) (.ref p1) := r10; x_cy (G := (fun (s1 : Unit) => [.imm (enc (a__law_cloth_here : (T2 (List (List (T2 Int Int))) Int))), .imm (.int a__law_often), .imm (.int a__law_x), .imm (.int a__law_y), .imm (enc (a__law_cloth_here.a : (List (List (T2 Int Int))))), .imm (.int a__law_cloth_here.b), .unk, .unk, .unk])) (s := s1) (s' := ()) (y := ys2) (by cases hm5; cases he1; rfl) hy2 L3 L9 (.i rfl (.i rfl (.i rfl (.i rfl (.i rfl (.i rfl (.i rfl (.i rfl (.i rfl .e))))))))) r11))) fun p2 _ L10 le3 r12 => have L11 : Lo _ _ _ _ [.imm (enc (a__law_cloth_here : (T2 (List (List (T2 Int Int))) Int))), .imm (.int a__law_often), .imm (.int a__law_x), .imm (.int a__law_y), .imm (enc (a__law_cloth_here.a : (List (List (T2 Int Int))))), .imm (.int a__law_cloth_here.b), .unk, .unk, .unk] := L10; have r13 : Rep _ _ _ (enc (ys1 : (List (List (T2 Int Int))))) (.ref p2) := r12; x_cons (x_vI (x := a__law_cloth_here.b) L11 rfl (x_nil (x_mkT L11 (.cons r13 (.cons (.int _) .nil)) (show (2 : Nat) ≤ 16777216 by decide) fun v7 _ L12 le4 r14 => have r15 : Rep _ _ _ (enc ((T2.mk ys1 a__law_cloth_here.b) : (T2 (List (List (T2 Int Int))) Int))) v7 := r14; x_fin (Q := Q) (ps := (fun (r : (T2 (List (List (T2 Int Int))) Int)) => [])) (rs := (fun (r : (T2 (List (List (T2 Int Int))) Int)) => (.imm (enc (r : (T2 (List (List (T2 Int Int))) Int)))))) (e := (T2.mk ys1 a__law_cloth_here.b)) hm2 kont (L12.fin hp0 r15))))))))
abbrev sp__law_come_to_nothing (K : PySem.W.Frag) : Sp := fun vs H Q _ => ∃ (X : Addr → Prop)  (a__law_some : (List (T2 (T2 Int Int) (T2 Int Int)))) (r : Bool), m__law_come_to_nothing a__law_some = some r ∧ Cond K X H [.imm (enc (a__law_some : (List (T2 (T2 Int Int) (T2 Int Int)))))] vs ∧ ∀ H', Fin K X H [] [] (.imm (.bool r)) (.bl r) H' → Q (.bl r) H'
theorem mk__law_come_to_nothing {K : PySem.W.Frag} {X : Addr → Prop} {H : Hp} {vs : List V} {Q : VK} {E : XK}  {a__law_some : (List (T2 (T2 Int Int) (T2 Int Int)))} {r : Bool} (hm : m__law_come_to_nothing a__law_some = some r) (c : Cond K X H [.imm (enc (a__law_some : (List (T2 (T2 Int Int) (T2 Int Int)))))] vs) (k : ∀ H', Fin K X H [] [] (.imm (.bool r)) (.bl r) H' → Q (.bl r) H') : sp__law_come_to_nothing K vs H Q E := ⟨X, a__law_some, r, hm, c, k⟩
abbrev n__law_come_to_nothing : List Str := ["_law_some", "_law_bottom", "_law_way", "_law_often", "_law_across", "_law_up"]
theorem sc__law_come_to_nothing : FnScope n__law_come_to_nothing ["_law_some"] (defScope s__law_come_to_nothing) := ⟨rfl, rfl, rfl, by decide +kernel, rfl, by decide +kernel, by decide +kernel⟩
theorem ok__law_come_to_nothing (T : Txt K mg) : FnOk P w K mg base CX0 1 T.A__law_come_to_nothing T.D__law_come_to_nothing ["_law_some"] (sp__law_come_to_nothing K) := by
  refine Fun.ok T.F__law_come_to_nothing sc__law_come_to_nothing (fun vs H Q E h => ?_) (fun cdv A outer s H vs Q E hr h => ?_)
  · obtain ⟨X, a__law_some, r, hm, c, kont⟩ := h
    exact c.len
  · obtain ⟨X, a__law_some, r, hm, c, kont⟩ := h
    refine ⟨_, (pss_cons (ps_set (i := 1) sc__law_come_to_nothing.nd rfl (Or.inr rfl) pe_int)
      (pss_cons (ps_for PassesOwn.never rfl (pi_list (pv 0)) (pg_tup rfl (pgs_cons (pg_name (i := 2) sc__law_come_to_nothing.nd rfl (Or.inl rfl)) (pgs_cons (pg_name (i := 3) sc__law_come_to_nothing.nd rfl (Or.inl rfl)) pgs_nil))) (pss_one (ps_set (i := 1) sc__law_come_to_nothing.nd rfl (Or.inr rfl) (pe_op op_mulW (pv 1) (pe_ix (r := rIxT K) ix_tup (pv 3) pe_int (fun _ _ => rfl))))))
      (pss_cons (ps_set (i := 4) sc__law_come_to_nothing.nd rfl (Or.inl rfl) (pe_callB (r := rSum K) (cr_sum rfl) (by rfl) T.z_sum (by decide +kernel) (pa_cons (pe_lc (own := [("_law_way", 2), ("_law_often", 3)]) (g := gTup K 2 (gCons (gName 2) (gCons (gName 3) gNil))) (tt := tYes) rfl sc__law_come_to_nothing.nd (pi_list (pv 0)) (blkOk_by (N := n__law_come_to_nothing) (sc := defScope s__law_come_to_nothing) (by decide +kernel)) (fun _ _ _ _ _ => (pg_tup rfl (pgs_cons (pg_name (i := 2) sc__law_come_to_nothing.nd rfl (Or.inl rfl)) (pgs_cons (pg_name (i := 3) sc__law_come_to_nothing.nd rfl (Or.inl rfl)) pgs_nil)))) (fun _ _ _ _ _ => pts_nil) (fun _ _ _ _ _ => (pe_op op_mulW (pe_op op_mulW (pe_ix (r := rIxT K) ix_tup (pv 2) pe_int (fun _ _ => rfl)) (pe_ix (r := rIxT K) ix_tup (pv 3) pe_int (fun _ _ => rfl))) (pe_op op_divG (pv 1) (pe_ix (r := rIxT K) ix_tup (pv 3) pe_int (fun _ _ => rfl)))))) pa_nil)))
      (pss_cons (ps_set (i := 5) sc__law_come_to_nothing.nd rfl (Or.inl rfl) (pe_callB (r := rSum K) (cr_sum rfl) (by rfl) T.z_sum (by decide +kernel) (pa_cons (pe_lc (own := [("_law_way", 2), ("_law_often", 3)]) (g := gTup K 2 (gCons (gName 2) (gCons (gName 3) gNil))) (tt := tYes) rfl sc__law_come_to_nothing.nd (pi_list (pv 0)) (blkOk_by (N := n__law_come_to_nothing) (sc := defScope s__law_come_to_nothing) (by decide +kernel)) (fun _ _ _ _ _ => (pg_tup rfl (pgs_cons (pg_name (i := 2) sc__law_come_to_nothing.nd rfl (Or.inl rfl)) (pgs_cons (pg_name (i := 3) sc__law_come_to_nothing.nd rfl (Or.inl rfl)) pgs_nil)))) (fun _ _ _ _ _ => pts_nil) (fun _ _ _ _ _ => (pe_op op_mulW (pe_op op_mulW (pe_ix (r := rIxT K) ix_tup (pv 2) pe_int (fun _ _ => rfl)) (pe_ix (r := rIxT K) ix_tup (pv 3) pe_int (fun _ _ => rfl))) (pe_op op_divG (pv 1) (pe_ix (r := rIxT K) ix_tup (pv 3) pe_int (fun _ _ => rfl)))))) pa_nil)))
      (pss_one (ps_ret (pe_and (pe_cmpR op_eq (pv 4) pe_int (nomark _)) (pe_one (pe_cmpR op_eq (pv 5) pe_int (nomark _)))))))))), ?_⟩
    have L0 : Lo ⟨K, X, H, muts [.imm (enc (a__law_some : (List (T2 (T2 Int Int) (T2 Int Int)))))], n__law_come_to_nothing.length⟩ X H (L2.start n__law_come_to_nothing vs) [.imm (enc (a__law_some : (List (T2 (T2 Int Int) (T2 Int Int))))), .unk, .unk, .unk, .unk, .unk] := c.start n__law_come_to_nothing (show (1 : Nat) ≤ 6 by decide)
    unfold m__law_come_to_nothing at hm
    refine x_seq (x_asg (x_c (x_set (d := (.int 1)) (Γ' := [.imm (enc (a__law_some : (List (T2 (T2 Int Int) (T2 Int Int))))), .imm (.int 1), .unk, .unk, .unk, .unk]) L0 (.int _) (show (1 : Nat) < 6 by decide) rfl fun _ L1 => ?_)))
    refine x_seq (x_tforL (x_vd (d := (enc (a__law_some : (List (T2 (T2 Int Int) (T2 Int Int)))))) L1 rfl fun v1 r1 => x_foL (G := (fun (s1 : Int) => [.imm (enc (a__law_some : (List (T2 (T2 Int Int) (T2 Int Int))))), .imm (.int s1), .unk, .unk, .unk, .unk])) (s0 := 1) (xs := a__law_some) (L1.weak (Γ' := [.imm (enc (a__law_some : (List (T2 (T2 Int Int) (T2 Int Int))))), .imm (.int 1), .unk, .unk, .unk, .unk]) (.k (.k (.k (.k (.k (.k .e))))))) (fun _ _ => rfl) r1 hm (fun x1 s1 H1 _ u1 _ _ _ _ _ hm1 L2 r2 hN1 hC1 => ?_) (fun s2 _ _ hm2 L3 => ?_)))
    · refine x_gTup r2 rfl fun vs1 rs1 => x_gCons rs1 fun v2 _ r3 rs2 => x_set (d := (enc (x1.a : (T2 Int Int)))) (Γ' := [.imm (enc (a__law_some : (List (T2 (T2 Int Int) (T2 Int Int))))), .imm (.int s1), .imm (enc (x1.a : (T2 Int Int))), .unk, .unk, .unk]) L2 r3 (show (2 : Nat) < 6 by decide) rfl fun _ L4 => x_gCons rs2 fun v3 _ r4 rs3 => x_set (d := (enc (x1.b : (T2 Int Int)))) (Γ' := [.imm (enc (a__law_some : (List (T2 (T2 Int Int) (T2 Int Int))))), .imm (.int s1), .imm (enc (x1.a : (T2 Int Int))), .imm (enc (x1.b : (T2 Int Int))), .unk, .unk]) L4 r4 (show (3 : Nat) < 6 by decide) rfl fun _ L5 => x_gNil rs3 (?_)
      refine x_asg (x_op (x_vI (x := s1) L5 rfl (x_op (x_vd (d := (enc (x1.b : (T2 Int Int)))) L5 rfl fun v4 r5 => x_c (x_ixTI (x := x1.b.b) r5 rfl (x_mul hm1 fun z1 _ hm4 => x_set (d := (.int z1)) (Γ' := [.imm (enc (a__law_some : (List (T2 (T2 Int Int) (T2 Int Int))))), .imm (.int z1), .imm (enc (x1.a : (T2 Int Int))), .imm (enc (x1.b : (T2 Int Int))), .unk, .unk]) L5 (.int _) (show (1 : Nat) < 6 by decide) rfl fun _ L6 => ?_))))))
      exact x_leaf (G := (fun (s1 : Int) => [.imm (enc (a__law_some : (List (T2 (T2 Int Int) (T2 Int Int))))), .imm (.int s1), .unk, .unk, .unk, .unk])) (e := z1) hm4 hN1 (L6.weak (Γ' := [.imm (enc (a__law_some : (List (T2 (T2 Int Int) (T2 Int Int))))), .imm (.int z1), .unk, .unk, .unk, .unk]) (.k (.k (.d (.d (.k (.k .e)))))))
    refine x_seq (x_asg (x_cb (x_cons (x_lcl (x_vd (d := (enc (a__law_some : (List (T2 (T2 Int Int) (T2 Int Int)))))) L3 rfl fun v5 r6 => obE hm2 fun _ hl1 hm5 => obE hm5 fun ys1 hy1 hm6 => x_lcL (G := (fun (s3 : Unit) => [.imm (enc (a__law_some : (List (T2 (T2 Int Int) (T2 Int Int))))), .imm (.int s2), .unk, .unk, .unk, .unk])) (s0 := ()) (xs := a__law_some) L3 (fun _ _ => rfl) r6 (mapO_comp hy1) (lenOk_le hl1) (fun x2 s3 _ H2 _ u2 _ _ _ hF1 L7 r7 hn1 hy2 => obE hF1 fun y1 hm7 he1 => x_cTup (d1 := (enc (x2.a : (T2 Int Int)))) (d2 := (enc (x2.b : (T2 Int Int)))) (Γ' := [.imm (enc (a__law_some : (List (T2 (T2 Int Int) (T2 Int Int))))), .imm (.int s2), .imm (enc (x2.a : (T2 Int Int))), .imm (enc (x2.b : (T2 Int Int))), .unk, .unk]) L7 r7 (show (2 : Nat) < 6 by decide) (show (3 : Nat) < 6 by decide) (by decide) rfl fun _ L8 => x_yes (x_op (x_op (x_op (x_vd (d := (enc (x2.a : (T2 Int Int)))) L8 rfl fun v6 r8 => x_c (x_ixTI (x := x2.a.a) r8 rfl (x_op (x_vd (d := (enc (x2.b : (T2 Int Int)))) L8 rfl fun v7 r9 => x_c (x_ixTI (x := x2.b.a) r9 rfl (x_mul hm7 fun z2 _ hm8 => x_op (x_vI (x := s2) L8 rfl (x_op (x_vd (d := (enc (x2.b : (T2 Int Int)))) L8 rfl fun v8 r10 => x_c (x_ixTI (x := x2.b.b) r10 rfl (x_div hm8 fun z3 _ hm9 => x_mul hm9 fun z4 _ hm10 => x_cy (G := (fun (s3 : Unit) => [.imm (enc (a__law_some : (List (T2 (T2 Int Int) (T2 Int Int))))), .imm (.int s2), .unk, .unk, .unk, .unk])) (s := s3) (s' := ()) (y := z4) (by cases hm10; cases he1; rfl) hy2 L7 L8 (.i rfl (.i rfl (.i rfl (.i rfl (.i rfl (.i rfl .e)))))) (.int _)))))))))))))))) fun p1 _ L9 le1 r11 => have L10 : Lo _ _ _ _ [.imm (enc (a__law_some : (List (T2 (T2 Int Int) (T2 Int Int))))), .imm (.int s2), .unk, .unk, .unk, .unk] := L9; have r12 : Rep _ _ _ (enc (ys1 : (List Int))) (.ref p1) := r11; x_nil (x_sum (ns := ys1) r12 (x_set (d := (.int ys1.sum)) (Γ' := [.imm (enc (a__law_some : (List (T2 (T2 Int Int) (T2 Int Int))))), .imm (.int s2), .unk, .unk, .imm (.int ys1.sum), .unk]) L10 (.int _) (show (4 : Nat) < 6 by decide) rfl fun _ L11 => ?_)))))))
    refine x_seq (x_asg (x_cb (x_cons (x_lcl (x_vd (d := (enc (a__law_some : (List (T2 (T2 Int Int) (T2 Int Int)))))) L11 rfl fun v9 r13 => obE hm6 fun _ hl2 hm11 => obE hm11 fun ys2 hy3 hm12 => x_lcL (G := (fun (s4 : Unit) => [.imm (enc (a__law_some : (List (T2 (T2 Int Int) (T2 Int Int))))), .imm (.int s2), .unk, .unk, .imm (.int ys1.sum), .unk])) (s0 := ()) (xs := a__law_some) L11 (fun _ _ => rfl) r13 (mapO_comp hy3) (lenOk_le hl2) (fun x3 s4 _ H3 _ u3 _ _ _ hF2 L12 r14 hn2 hy4 => obE hF2 fun y2 hm13 he2 => x_cTup (d1 := (enc (x3.a : (T2 Int Int)))) (d2 := (enc (x3.b : (T2 Int Int)))) (Γ' := [.imm (enc (a__law_some : (List (T2 (T2 Int Int) (T2 Int Int))))), .imm (.int s2), .imm (enc (x3.a : (T2 Int Int))), .imm (enc (x3.b : (T2 Int Int))), .imm (.int ys1.sum), .unk]) L12 r14 (show (2 : Nat) < 6 by decide) (show (3 : Nat) < 6 by decide) (by decide) rfl fun _ L13 => x_yes (x_op (x_op (x_op (x_vd (d := (enc (x3.a : (T2 Int Int)))) L13 rfl fun v10 r15 => x_c (x_ixTI (x := x3.a.b) r15 rfl (x_op (x_vd (d := (enc (x3.b : (T2 Int Int)))) L13 rfl fun v11 r16 => x_c (x_ixTI (x := x3.b.a) r16 rfl (x_mul hm13 fun z5 _ hm14 => x_op (x_vI (x := s2) L13 rfl (x_op (x_vd (d := (enc (x3.b : (T2 Int Int)))) L13 rfl fun v12 r17 => x_c (x_ixTI (x := x3.b.b) r17 rfl (x_div hm14 fun z6 _ hm15 => x_mul hm15 fun z7 _ hm16 => x_cy (G := (fun (s4 : Unit) => [.imm (enc (a__law_some : (List (T2 (T2 Int Int) (T2 Int Int))))), .imm (.int s2), .unk, .unk, .imm (.int ys1.sum), .unk])) (s := s4) (s' := ()) (y := z7) (by cases hm16; cases he2; rfl) hy4 L12 L13 (.i rfl (.i rfl (.i rfl (.i rfl (.i rfl (.i rfl .e)))))) (.int _)))))))))))))))) fun p2 _ L14 le2 r18 => have L15 : Lo _ _ _ _ [.imm (enc (a__law_some : (List (T2 (T2 Int Int) (T2 Int Int))))), .imm (.int s2), .unk, .unk, .imm (.int ys1.sum), .unk] := L14; have r19 : Rep _ _ _ (enc (ys2 : (List Int))) (.ref p2) := r18; x_nil (x_sum (ns := ys2) r19 (x_set (d := (.int ys2.sum)) (Γ' := [.imm (enc (a__law_some : (List (T2 (T2 Int Int) (T2 Int Int))))), .imm (.int s2), .unk, .unk, .imm (.int ys1.sum), .imm (.int ys2.sum)]) L15 (.int _) (show (5 : Nat) < 6 by decide) rfl fun _ L16 => ?_)))))))
    exact x_ret (x_andV (x_op (x_vI (x := ys1.sum) L16 rfl (x_c (x_eqi (x_kb (x_andVP (B := (decide (ys2.sum = 0))) (fun _ hq => x_op (x_vI (x := ys2.sum) L16 rfl (x_c (x_eqi (hq))))) (x_finB (Q := Q) (ps := (fun (r : Bool) => [])) (sc := fun (r : Bool) => r) (((decide (ys1.sum = 0)) && (decide (ys2.sum = 0)))) hm12 kont (L16.fin hp0 (.bl _))))))))))
abbrev sp__law_tilted (K : PySem.W.Frag) : Sp := fun vs H Q _ => ∃ (X : Addr → Prop)  (a__law_cloth_here : (T2 (List (List (T2 Int Int))) Int)) (a__law_top : Int) (a__law_under_it : Int) (r : (T2 (List (List (T2 Int Int))) Int)), m__law_tilted a__law_cloth_here a__law_top a__law_under_it = some r ∧ Cond K X H [.imm (enc (a__law_cloth_here : (T2 (List (List (T2 Int Int))) Int))), .imm (.int a__law_top), .imm (.int a__law_under_it)] vs ∧ ∀ v H', Fin K X H [] [] (.imm (enc (r : (T2 (List (List (T2 Int Int))) Int)))) v H' → Q v H'
theorem mk__law_tilted {K : PySem.W.Frag} {X : Addr → Prop} {H : Hp} {vs : List V} {Q : VK} {E : XK}  {a__law_cloth_here : (T2 (List (List (T2 Int Int))) Int)} {a__law_top : Int} {a__law_under_it : Int} {r : (T2 (List (List (T2 Int Int))) Int)} (hm : m__law_tilted a__law_cloth_here a__law_top a__law_under_it = some r) (c : Cond K X H [.imm (enc (a__law_cloth_here : (T2 (List (List (T2 Int Int))) Int))), .imm (.int a__law_top), .imm (.int a__law_under_it)] vs) (k : ∀ v H', Fin K X H [] [] (.imm (enc (r : (T2 (List (List (T2 Int Int))) Int)))) v H' → Q v H') : sp__law_tilted K vs H Q E := ⟨X, a__law_cloth_here, a__law_top, a__law_under_it, r, hm, c, k⟩
abbrev n__law_tilted : List Str := ["_law_cloth_here", "_law_top", "_law_under_it", "_law_rings_here", "_law_bottom", "_law_made", "_law_ring", "_law_one", "_law_other"]
theorem sc__law_tilted : FnScope n__law_tilted ["_law_cloth_here", "_law_top", "_law_under_it"] (defScope s__law_tilted) := ⟨rfl, rfl, rfl, by decide +kernel, rfl, by decide +kernel, by decide +kernel⟩
theorem ok__law_tilted (T : Txt K mg) : FnOk P w K mg base CX0 1 T.A__law_tilted T.D__law_tilted ["_law_cloth_here", "_law_top", "_law_under_it"] (sp__law_tilted K) := by
  refine Fun.ok T.F__law_tilted sc__law_tilted (fun vs H Q E h => ?_) (fun cdv A outer s H vs Q E hr h => ?_)
  · obtain ⟨X, a__law_cloth_here, a__law_top, a__law_under_it, r, hm, c, kont⟩ := h
    exact c.len
  · obtain ⟨X, a__law_cloth_here, a__law_top, a__law_under_it, r, hm, c, kont⟩ := h
    refine ⟨_, (pss_cons (ps_asg (pv 0) (pg_tup rfl (pgs_cons (pg_name (i := 3) sc__law_tilted.nd rfl (Or.inl rfl)) (pgs_cons (pg_name (i := 4) sc__law_tilted.nd rfl (Or.inl rfl)) pgs_nil))))
      (pss_cons (ps_set (i := 5) sc__law_tilted.nd rfl (Or.inl rfl) (pe_lst pa_nil))
      (pss_cons (ps_for PassesOwn.never rfl (pi_list (pv 3)) (pg_name (i := 6) sc__law_tilted.nd rfl (Or.inl rfl)) (pss_one (ps_expr (pe_bm PySem.F.plainAttrs_list PySem.F.slot_list_append PySem.F.type_list_append mt_append (pv 5) (pa_cons (pe_lc (own := [("_law_one", 7), ("_law_other", 8)]) (g := gTup K 2 (gCons (gName 7) (gCons (gName 8) gNil))) (tt := tYes) rfl sc__law_tilted.nd (pi_list (pv 6)) (blkOk_by (N := n__law_tilted) (sc := defScope s__law_tilted) (by decide +kernel)) (fun _ _ _ _ _ => (pg_tup rfl (pgs_cons (pg_name (i := 7) sc__law_tilted.nd rfl (Or.inl rfl)) (pgs_cons (pg_name (i := 8) sc__law_tilted.nd rfl (Or.inl rfl)) pgs_nil)))) (fun _ _ _ _ _ => pts_nil) (fun _ _ _ _ _ => (pe_tup (pa_cons (pe_op op_mulW (pv 7) (pv 2)) (pa_cons (pe_op op_add (pe_op op_mulW (pv 8) (pv 2)) (pe_op op_mulW (pv 7) (pv 1))) pa_nil))))) pa_nil)))))
      (pss_one (ps_ret (pe_tup (pa_cons (pv 5) (pa_cons (pe_op op_mulW (pv 4) (pv 2)) pa_nil)))))))), ?_⟩
    have L0 : Lo ⟨K, X, H, muts [.imm (enc (a__law_cloth_here : (T2 (List (List (T2 Int Int))) Int))), .imm (.int a__law_top), .imm (.int a__law_under_it)], n__law_tilted.length⟩ X H (L2.start n__law_tilted vs) [.imm (enc (a__law_cloth_here : (T2 (List (List (T2 Int Int))) Int))), .imm (.int a__law_top), .imm (.int a__law_under_it), .unk, .unk, .unk, .unk, .unk, .unk] := c.start n__law_tilted (show (3 : Nat) ≤ 9 by decide)
    unfold m__law_tilted at hm
    refine x_seq (x_asg (x_vd (d := (enc (a__law_cloth_here : (T2 (List (List (T2 Int Int))) Int)))) L0 rfl fun v1 r1 => x_gTup r1 rfl fun vs1 rs1 => x_gCons rs1 fun v2 _ r2 rs2 => x_set (d := (enc (a__law_cloth_here.a : (List (List (T2 Int Int)))))) (Γ' := [.imm (enc (a__law_cloth_here : (T2 (List (List (T2 Int Int))) Int))), .imm (.int a__law_top), .imm (.int a__law_under_it), .imm (enc (a__law_cloth_here.a : (List (List (T2 Int Int))))), .unk, .unk, .unk, .unk, .unk]) L0 r2 (show (3 : Nat) < 9 by decide) rfl fun _ L1 => x_gCons rs2 fun v3 _ r3 rs3 => x_set (d := (.int a__law_cloth_here.b)) (Γ' := [.imm (enc (a__law_cloth_here : (T2 (List (List (T2 Int Int))) Int))), .imm (.int a__law_top), .imm (.int a__law_under_it), .imm (enc (a__law_cloth_here.a : (List (List (T2 Int Int))))), .imm (.int a__law_cloth_here.b), .unk, .unk, .unk, .unk]) L1 r3 (show (4 : Nat) < 9 by decide) rfl fun _ L2 => x_gNil rs3 (?_)))
    refine x_seq (x_asg (x_lst (x_nil (x_mkN L2 .nil (show (0 : Nat) ≤ 16777216 by decide) fun p1 _ _ h01 hx1 L3 le1 => x_setN (Γ := [.imm (enc (a__law_cloth_here : (T2 (List (List (T2 Int Int))) Int))), .imm (.int a__law_top), .imm (.int a__law_under_it), .imm (enc (a__law_cloth_here.a : (List (List (T2 Int Int))))), .imm (.int a__law_cloth_here.b), .unk, .unk, .unk, .unk]) (p := p1) (o := (ml (([] : (List (List (T2 Int Int)))) : (List (List (T2 Int Int)))))) (Γ' := [.imm (enc (a__law_cloth_here : (T2 (List (List (T2 Int Int))) Int))), .imm (.int a__law_top), .imm (.int a__law_under_it), .imm (enc (a__law_cloth_here.a : (List (List (T2 Int Int))))), .imm (.int a__law_cloth_here.b), .mu p1 (ml (([] : (List (List (T2 Int Int)))) : (List (List (T2 Int Int))))), .unk, .unk, .unk]) L3 (show (5 : Nat) < 9 by decide) (show (5 : Nat) < 9 by decide) rfl fun _ L4 => ?_))))
    refine x_seq (x_tforL (x_vd (d := (enc (a__law_cloth_here.a : (List (List (T2 Int Int)))))) L4 rfl fun v4 r4 => x_foL (G := (fun (s1 : (List (List (T2 Int Int)))) => [.imm (enc (a__law_cloth_here : (T2 (List (List (T2 Int Int))) Int))), .imm (.int a__law_top), .imm (.int a__law_under_it), .imm (enc (a__law_cloth_here.a : (List (List (T2 Int Int))))), .imm (.int a__law_cloth_here.b), .mu p1 (ml (s1 : (List (List (T2 Int Int))))), .unk, .unk, .unk])) (s0 := ([] : (List (List (T2 Int Int))))) (xs := a__law_cloth_here.a) (L4.weak (Γ' := [.imm (enc (a__law_cloth_here : (T2 (List (List (T2 Int Int))) Int))), .imm (.int a__law_top), .imm (.int a__law_under_it), .imm (enc (a__law_cloth_here.a : (List (List (T2 Int Int))))), .imm (.int a__law_cloth_here.b), .mu p1 (ml (([] : (List (List (T2 Int Int)))) : (List (List (T2 Int Int))))), .unk, .unk, .unk]) (.k (.k (.k (.k (.k (.k (.k (.k (.k .e)))))))))) (fun _ _ => rfl) r4 hm (fun x1 s1 H1 _ u1 _ _ _ _ _ hm1 L5 r5 hN1 hC1 => ?_) (fun s2 _ _ hm2 L6 => ?_)))
    · refine x_set (d := (enc (x1 : (List (T2 Int Int))))) (Γ' := [.imm (enc (a__law_cloth_here : (T2 (List (List (T2 Int Int))) Int))), .imm (.int a__law_top), .imm (.int a__law_under_it), .imm (enc (a__law_cloth_here.a : (List (List (T2 Int Int))))), .imm (.int a__law_cloth_here.b), .mu p1 (ml (s1 : (List (List (T2 Int Int))))), .imm (enc (x1 : (List (T2 Int Int)))), .unk, .unk]) L5 r5 (show (6 : Nat) < 9 by decide) rfl fun _ L7 => ?_
      refine x_drop (x_bm (x_vm L7 rfl (x_tyM L7 (i := 5) rfl (?_))))
      refine x_cons (x_lcl (x_vd (d := (enc (x1 : (List (T2 Int Int))))) L7 rfl fun v5 r6 => obE hm1 fun _ hl1 hm4 => obE hm4 fun ys1 hy1 hm5 => x_lcL (G := (fun (s3 : Unit) => [.imm (enc (a__law_cloth_here : (T2 (List (List (T2 Int Int))) Int))), .imm (.int a__law_top), .imm (.int a__law_under_it), .imm (enc (a__law_cloth_here.a : (List (List (T2 Int Int))))), .imm (.int a__law_cloth_here.b), .mu p1 (ml (s1 : (List (List (T2 Int Int))))), .imm (enc (x1 : (List (T2 Int Int)))), .unk, .unk])) (s0 := ()) (xs := x1) L7 (fun _ _ => rfl) r6 (mapO_comp hy1) (lenOk_le hl1) (fun x2 s3 _ H2 _ u2 _ _ _ hF1 L8 r7 hn1 hy2 => obE hF1 fun y1 hm6 he1 => x_cTup (d1 := (.int x2.a)) (d2 := (.int x2.b)) (Γ' := [.imm (enc (a__law_cloth_here : (T2 (List (List (T2 Int Int))) Int))), .imm (.int a__law_top), .imm (.int a__law_under_it), .imm (enc (a__law_cloth_here.a : (List (List (T2 Int Int))))), .imm (.int a__law_cloth_here.b), .mu p1 (ml (s1 : (List (List (T2 Int Int))))), .imm (enc (x1 : (List (T2 Int Int)))), .imm (.int x2.a), .imm (.int x2.b)]) L8 r7 (show (7 : Nat) < 9 by decide) (show (8 : Nat) < 9 by decide) (by decide) rfl fun _ L9 => x_yes (x_tup (x_cons (x_op (x_vI (x := x2.a) L9 rfl (x_vI (x := a__law_under_it) L9 rfl (x_mul hm6 fun z1 _ hm7 => x_cons (x_op (x_op (x_vI (x := x2.b) L9 rfl (x_vI (x := a__law_under_it) L9 rfl (x_mul hm7 fun z2 _ hm8 => x_op (x_vI (x := x2.a) L9 rfl (x_vI (x := a__law_top) L9 rfl (x_mul hm8 fun z3 _ hm9 => x_r0 (x_nil (x_mkT L9 (.cons (.int _) (.cons (.int _) .nil)) (show (2 : Nat) ≤ 16777216 by decide) fun v6 _ L10 le2 r8 => have r9 : Rep _ _ _ (enc ((T2.mk z1 ((z2 + z3))) : (T2 Int Int))) v6 := r8; x_cy (G := (fun (s3 : Unit) => [.imm (enc (a__law_cloth_here : (T2 (List (List (T2 Int Int))) Int))), .imm (.int a__law_top), .imm (.int a__law_under_it), .imm (enc (a__law_cloth_here.a : (List (List (T2 Int Int))))), .imm (.int a__law_cloth_here.b), .mu p1 (ml (s1 : (List (List (T2 Int Int))))), .imm (enc (x1 : (List (T2 Int Int)))), .unk, .unk])) (s := s3) (s' := ()) (y := (T2.mk z1 ((z2 + z3)))) (by cases hm9; cases he1; rfl) hy2 L8 L10 (.i rfl (.i rfl (.i rfl (.i rfl (.i rfl (.m (.i rfl (.i rfl (.i rfl .e))))))))) r9))))))))))))))))) fun p2 _ L11 le3 r10 => have L12 : Lo _ _ _ _ [.imm (enc (a__law_cloth_here : (T2 (List (List (T2 Int Int))) Int))), .imm (.int a__law_top), .imm (.int a__law_under_it), .imm (enc (a__law_cloth_here.a : (List (List (T2 Int Int))))), .imm (.int a__law_cloth_here.b), .mu p1 (ml (s1 : (List (List (T2 Int Int))))), .imm (enc (x1 : (List (T2 Int Int)))), .unk, .unk] := L11; have r11 : Rep _ _ _ (enc (ys1 : (List (T2 Int Int)))) (.ref p2) := r10; x_nil (x_append (xs := s1) (x := ys1) (i := 5) (Γ' := [.imm (enc (a__law_cloth_here : (T2 (List (List (T2 Int Int))) Int))), .imm (.int a__law_top), .imm (.int a__law_under_it), .imm (enc (a__law_cloth_here.a : (List (List (T2 Int Int))))), .imm (.int a__law_cloth_here.b), .mu p1 (ml ((s1 ++ [ys1]) : (List (List (T2 Int Int))))), .imm (enc (x1 : (List (T2 Int Int)))), .unk, .unk]) L12 rfl hm5 r11 rfl fun _ hm10 L13 le4 => ?_)))
      exact x_leaf (G := (fun (s1 : (List (List (T2 Int Int)))) => [.imm (enc (a__law_cloth_here : (T2 (List (List (T2 Int Int))) Int))), .imm (.int a__law_top), .imm (.int a__law_under_it), .imm (enc (a__law_cloth_here.a : (List (List (T2 Int Int))))), .imm (.int a__law_cloth_here.b), .mu p1 (ml (s1 : (List (List (T2 Int Int))))), .unk, .unk, .unk])) (e := (s1 ++ [ys1])) hm10 hN1 (L13.weak (Γ' := [.imm (enc (a__law_cloth_here : (T2 (List (List (T2 Int Int))) Int))), .imm (.int a__law_top), .imm (.int a__law_under_it), .imm (enc (a__law_cloth_here.a : (List (List (T2 Int Int))))), .imm (.int a__law_cloth_here.b), .mu p1 (ml ((s1 ++ [ys1]) : (List (List (T2 Int Int))))), .unk, .unk, .unk]) (.k (.k (.k (.k (.k (.k (.d (.k (.k .e))))))))))
    have L14 : Lo _ _ _ _ [.imm (enc (a__law_cloth_here : (T2 (List (List (T2 Int Int))) Int))), .imm (.int a__law_top), .imm (.int a__law_under_it), .imm (enc (a__law_cloth_here.a : (List (List (T2 Int Int))))), .imm (.int a__law_cloth_here.b), .imm (enc (s2 : (List (List (T2 Int Int))))), .unk, .unk, .unk] := L6.freeze (i := 5) rfl hx1
    exact x_ret (x_tup (x_cons (x_vd (d := (enc (s2 : (List (List (T2 Int Int)))))) L14 rfl fun v7 r12 => x_cons (x_op (x_vI (x := a__law_cloth_here.b) L14 rfl (x_vI (x := a__law_under_it) L14 rfl (x_mul hm2 fun z4 _ hm11 => x_nil (x_mkT L14 (.cons r12 (.cons (.int _) .nil)) (show (2 : Nat) ≤ 16777216 by decide) fun v8 _ L15 le5 r13 => have r14 : Rep _ _ _ (enc ((T2.mk s2 z4) : (T2 (List (List (T2 Int Int))) Int))) v8 := r13; x_fin (Q := Q) (ps := (fun (r : (T2 (List (List (T2 Int Int))) Int)) => [])) (rs := (fun (r : (T2 (List (List (T2 Int Int))) Int)) => (.imm (enc (r : (T2 (List (List (T2 Int Int))) Int)))))) (e := (T2.mk s2 z4)) hm11 kont (L15.fin hp0 r14)))))))))
abbrev sp__law_way_tilted (K : PySem.W.Frag) : Sp := fun vs H Q _ => ∃ (X : Addr → Prop)  (a__law_way : (T2 Int Int)) (a__law_top : Int) (a__law_under_it : Int) (r : (T2 (T2 Int Int) Int)), m__law_way_tilted a__law_way a__law_top a__law_under_it = some r ∧ Cond K X H [.imm (enc (a__law_way : (T2 Int Int))), .imm (.int a__law_top), .imm (.int a__law_under_it)] vs ∧ ∀ v H', Fin K X H [] [] (.imm (enc (r : (T2 (T2 Int Int) Int)))) v H' → Q v H'
theorem mk__law_way_tilted {K : PySem.W.Frag} {X : Addr → Prop} {H : Hp} {vs : List V} {Q : VK} {E : XK}  {a__law_way : (T2 Int Int)} {a__law_top : Int} {a__law_under_it : Int} {r : (T2 (T2 Int Int) Int)} (hm : m__law_way_tilted a__law_way a__law_top a__law_under_it = some r) (c : Cond K X H [.imm (enc (a__law_way : (T2 Int Int))), .imm (.int a__law_top), .imm (.int a__law_under_it)] vs) (k : ∀ v H', Fin K X H [] [] (.imm (enc (r : (T2 (T2 Int Int) Int)))) v H' → Q v H') : sp__law_way_tilted K vs H Q E := ⟨X, a__law_way, a__law_top, a__law_under_it, r, hm, c, k⟩
abbrev n__law_way_tilted : List Str := ["_law_way", "_law_top", "_law_under_it", "_law_x", "_law_y", "_law_often"]
theorem sc__law_way_tilted : FnScope n__law_way_tilted ["_law_way", "_law_top", "_law_under_it"] (defScope s__law_way_tilted) := ⟨rfl, rfl, rfl, by decide +kernel, rfl, by decide +kernel, by decide +kernel⟩
theorem ok__law_way_tilted (T : Txt K mg) : FnOk P w K mg base CX0 2 T.A__law_way_tilted T.D__law_way_tilted ["_law_way", "_law_top", "_law_under_it"] (sp__law_way_tilted K) := by
  refine Fun.ok T.F__law_way_tilted sc__law_way_tilted (fun vs H Q E h => ?_) (fun cdv A outer s H vs Q E hr h => ?_)
  · obtain ⟨X, a__law_way, a__law_top, a__law_under_it, r, hm, c, kont⟩ := h
    exact c.len
  · obtain ⟨X, a__law_way, a__law_top, a__law_under_it, r, hm, c, kont⟩ := h
    refine ⟨_, (pss_cons (ps_set (i := 3) sc__law_way_tilted.nd rfl (Or.inl rfl) (pe_op op_mulW (pe_ix (r := rIxT K) ix_tup (pv 0) pe_int (fun _ _ => rfl)) (pv 2)))
      (pss_cons (ps_set (i := 4) sc__law_way_tilted.nd rfl (Or.inl rfl) (pe_op op_add (pe_op op_mulW (pe_ix (r := rIxT K) ix_tup (pv 0) pe_int (fun _ _ => rfl)) (pv 2)) (pe_op op_mulW (pe_ix (r := rIxT K) ix_tup (pv 0) pe_int (fun _ _ => rfl)) (pv 1))))
      (pss_cons (ps_set (i := 5) sc__law_way_tilted.nd rfl (Or.inl rfl) (pe_call (ok__law_measure T) hr (by rfl) T.g__law_measure T.F__law_measure.kp T.b__law_measure .nil pass0 (pa_cons (pv 3) (pa_cons (pv 4) pa_nil))))
      (pss_cons (ps_if (PW.pt (pw_or (pt_cmpR op_lt (pv 4) pe_int (nomark _)) (pw_or1 (PW.pt (pw_and (pt_cmpR op_eq (pv 4) pe_int (nomark _)) (pw_and1 (pt_cmpR op_lt (pv 3) pe_int (nomark _)))))))) (pss_one (ps_set (i := 5) sc__law_way_tilted.nd rfl (Or.inl rfl) (pe_un un_neg (pv 5)))) pss_nil)
      (pss_one (ps_ret (pe_tup (pa_cons (pe_tup (pa_cons (pe_op op_divG (pv 3) (pv 5)) (pa_cons (pe_op op_divG (pv 4) (pv 5)) pa_nil))) (pa_cons (pv 5) pa_nil))))))))), ?_⟩
    have L0 : Lo ⟨K, X, H, muts [.imm (enc (a__law_way : (T2 Int Int))), .imm (.int a__law_top), .imm (.int a__law_under_it)], n__law_way_tilted.length⟩ X H (L2.start n__law_way_tilted vs) [.imm (enc (a__law_way : (T2 Int Int))), .imm (.int a__law_top), .imm (.int a__law_under_it), .unk, .unk, .unk] := c.start n__law_way_tilted (show (3 : Nat) ≤ 6 by decide)
    unfold m__law_way_tilted at hm
    refine x_seq (x_asg (x_op (x_op (x_vd (d := (enc (a__law_way : (T2 Int Int)))) L0 rfl fun v1 r1 => x_c (x_ixTI (x := a__law_way.a) r1 rfl (x_vI (x := a__law_under_it) L0 rfl (x_mul hm fun z1 _ hm1 => x_set (d := (.int z1)) (Γ' := [.imm (enc (a__law_way : (T2 Int Int))), .imm (.int a__law_top), .imm (.int a__law_under_it), .imm (.int z1), .unk, .unk]) L0 (.int _) (show (3 : Nat) < 6 by decide) rfl fun _ L1 => ?_)))))))
    refine x_seq (x_asg (x_op (x_op (x_op (x_vd (d := (enc (a__law_way : (T2 Int Int)))) L1 rfl fun v2 r2 => x_c (x_ixTI (x := a__law_way.b) r2 rfl (x_vI (x := a__law_under_it) L1 rfl (x_mul hm1 fun z2 _ hm2 => x_op (x_op (x_vd (d := (enc (a__law_way : (T2 Int Int)))) L1 rfl fun v3 r3 => x_c (x_ixTI (x := a__law_way.a) r3 rfl (x_vI (x := a__law_top) L1 rfl (x_mul hm2 fun z3 _ hm3 => x_r0 (x_bset (x0 := (z2 + z3)) (d := fun y_1 => (.int y_1)) (Γf := fun y_1 => [.imm (enc (a__law_way : (T2 Int Int))), .imm (.int a__law_top), .imm (.int a__law_under_it), .imm (.int z1), .imm (.int y_1), .unk]) hm3 L1 (.int _) (show (4 : Nat) < 6 by decide) (fun _ => rfl) fun y_1 _ hm4 L2 => ?_))))))))))))))
    refine x_seq (x_asg (x_call (x_cons (x_vI (x := z1) L2 rfl (x_cons (x_vI (x := y_1) L2 rfl (x_nil (obE hm4 fun z4 hz1 hm5 => mk__law_measure hz1 (L2.cond0 (.im (.int _) (.im (.int _) .nil)) rfl) fun _ F1 => k0 L2 F1 fun L3 le1 => x_set (d := (.int z4)) (Γ' := [.imm (enc (a__law_way : (T2 Int Int))), .imm (.int a__law_top), .imm (.int a__law_under_it), .imm (.int z1), .imm (.int y_1), .imm (.int z4)]) L3 (.int _) (show (5 : Nat) < 6 by decide) rfl fun _ L4 => ?_))))))))
    refine x_seq (x_ifS (x_or (x_test (x_op (x_vI (x := y_1) L4 rfl (x_c (x_r0 (x_kb (x_orP (B := ((decide (y_1 = 0)) && (decide (z1 < 0)))) (fun _ hq => x_and (x_test (x_op (x_vI (x := y_1) L4 rfl (x_c (x_eqi (x_kb (x_andP (B := (decide (z1 < 0))) (fun _ hq => x_test (x_op (x_vI (x := z1) L4 rfl (x_c (x_r0 (x_kb (hq))))))) (hq))))))))) (x_join (G := (fun (s1 : Int) => [.imm (enc (a__law_way : (T2 Int Int))), .imm (.int a__law_top), .imm (.int a__law_under_it), .imm (.int z1), .imm (.int y_1), .imm (.int s1)])) L4 hm5 (fun _ hm6 _ hN1 => ?_) (fun _ hm6 _ hN1 => ?_) fun s1 X1 _ _ hm7 L5 => ?_))))))))))
    · refine x_asg (x_un (x_vI (x := z4) L4 rfl (x_u (x_bset (x0 := (-z4)) (d := fun often_1 => (.int often_1)) (Γf := fun often_1 => [.imm (enc (a__law_way : (T2 Int Int))), .imm (.int a__law_top), .imm (.int a__law_under_it), .imm (.int z1), .imm (.int y_1), .imm (.int often_1)]) hm6 L4 (.int _) (show (5 : Nat) < 6 by decide) (fun _ => rfl) fun often_1 _ hm8 L6 => ?_))))
      exact x_leaf (G := (fun (s1 : Int) => [.imm (enc (a__law_way : (T2 Int Int))), .imm (.int a__law_top), .imm (.int a__law_under_it), .imm (.int z1), .imm (.int y_1), .imm (.int s1)])) (e := often_1) hm8 hN1 (L6.weak (Γ' := [.imm (enc (a__law_way : (T2 Int Int))), .imm (.int a__law_top), .imm (.int a__law_under_it), .imm (.int z1), .imm (.int y_1), .imm (.int often_1)]) (.k (.k (.k (.k (.k (.k .e)))))))
    · refine x_next ?_
      exact x_leaf (G := (fun (s1 : Int) => [.imm (enc (a__law_way : (T2 Int Int))), .imm (.int a__law_top), .imm (.int a__law_under_it), .imm (.int z1), .imm (.int y_1), .imm (.int s1)])) (e := z4) hm6 hN1 (L4.weak (Γ' := [.imm (enc (a__law_way : (T2 Int Int))), .imm (.int a__law_top), .imm (.int a__law_under_it), .imm (.int z1), .imm (.int y_1), .imm (.int z4)]) (.k (.k (.k (.k (.k (.k .e)))))))
    exact x_ret (x_tup (x_cons (x_tup (x_cons (x_op (x_vI (x := z1) L5 rfl (x_vI (x := s1) L5 rfl (x_div hm7 fun z5 _ hm9 => x_cons (x_op (x_vI (x := y_1) L5 rfl (x_vI (x := s1) L5 rfl (x_div hm9 fun z6 _ hm10 => x_nil (x_mkT L5 (.cons (.int _) (.cons (.int _) .nil)) (show (2 : Nat) ≤ 16777216 by decide) fun v5 _ L7 le2 r4 => have r5 : Rep _ _ _ (enc ((T2.mk z5 z6) : (T2 Int Int))) v5 := r4; x_cons (x_vI (x := s1) L7 rfl (x_nil (x_mkT L7 (.cons r5 (.cons (.int _) .nil)) (show (2 : Nat) ≤ 16777216 by decide) fun v6 _ L8 le3 r6 => have r7 : Rep _ _ _ (enc ((T2.mk ((T2.mk z5 z6)) s1) : (T2 (T2 Int Int) Int))) v6 := r6; x_fin (Q := Q) (ps := (fun (r : (T2 (T2 Int Int) Int)) => [])) (rs := (fun (r : (T2 (T2 Int Int) Int)) => (.imm (enc (r : (T2 (T2 Int Int) Int)))))) (e := (T2.mk ((T2.mk z5 z6)) s1)) hm10 kont (L8.fin hp0 r7)))))))))))))))))
abbrev sp__law_low (K : PySem.W.Frag) : Sp := fun vs H Q _ => ∃ (X : Addr → Prop)  (a__law_top : Int) (a__law_bottom : Int) (r : (T2 Int Int)), m__law_low a__law_top a__law_bottom = some r ∧ Cond K X H [.imm (.int a__law_top), .imm (.int a__law_bottom)] vs ∧ ∀ v H', Fin K X H [] [] (.imm (enc (r : (T2 Int Int)))) v H' → Q v H'
theorem mk__law_low {K : PySem.W.Frag} {X : Addr → Prop} {H : Hp} {vs : List V} {Q : VK} {E : XK}  {a__law_top : Int} {a__law_bottom : Int} {r : (T2 Int Int)} (hm : m__law_low a__law_top a__law_bottom = some r) (c : Cond K X H [.imm (.int a__law_top), .imm (.int a__law_bottom)] vs) (k : ∀ v H', Fin K X H [] [] (.imm (enc (r : (T2 Int Int)))) v H' → Q v H') : sp__law_low K vs H Q E := ⟨X, a__law_top, a__law_bottom, r, hm, c, k⟩
abbrev n__law_low : List Str := ["_law_top", "_law_bottom", "_law_often"]
theorem sc__law_low : FnScope n__law_low ["_law_top", "_law_bottom"] (defScope s__law_low) := ⟨rfl, rfl, rfl, by decide +kernel, rfl, by decide +kernel, by decide +kernel⟩
theorem ok__law_low (T : Txt K mg) : FnOk P w K mg base CX0 2 T.A__law_low T.D__law_low ["_law_top", "_law_bottom"] (sp__law_low K) := by
  refine Fun.ok T.F__law_low sc__law_low (fun vs H Q E h => ?_) (fun cdv A outer s H vs Q E hr h => ?_)
  · obtain ⟨X, a__law_top, a__law_bottom, r, hm, c, kont⟩ := h
    exact c.len
  · obtain ⟨X, a__law_top, a__law_bottom, r, hm, c, kont⟩ := h
    refine ⟨_, (pss_cons (ps_set (i := 2) sc__law_low.nd rfl (Or.inl rfl) (pe_call (ok__law_measure T) hr (by rfl) T.g__law_measure T.F__law_measure.kp T.b__law_measure .nil pass0 (pa_cons (pv 0) (pa_cons (pv 1) pa_nil))))
      (pss_cons (ps_if (pt_cmpR op_lt (pv 1) pe_int (nomark _)) (pss_one (ps_set (i := 2) sc__law_low.nd rfl (Or.inl rfl) (pe_un un_neg (pv 2)))) pss_nil)
      (pss_one (ps_ret (pe_tup (pa_cons (pe_op op_divG (pv 0) (pv 2)) (pa_cons (pe_op op_divG (pv 1) (pv 2)) pa_nil))))))), ?_⟩
    have L0 : Lo ⟨K, X, H, muts [.imm (.int a__law_top), .imm (.int a__law_bottom)], n__law_low.length⟩ X H (L2.start n__law_low vs) [.imm (.int a__law_top), .imm (.int a__law_bottom), .unk] := c.start n__law_low (show (2 : Nat) ≤ 3 by decide)
    unfold m__law_low at hm
    refine x_seq (x_asg (x_call (x_cons (x_vI (x := a__law_top) L0 rfl (x_cons (x_vI (x := a__law_bottom) L0 rfl (x_nil (obE hm fun z1 hz1 hm1 => mk__law_measure hz1 (L0.cond0 (.im (.int _) (.im (.int _) .nil)) rfl) fun _ F1 => k0 L0 F1 fun L1 le1 => x_set (d := (.int z1)) (Γ' := [.imm (.int a__law_top), .imm (.int a__law_bottom), .imm (.int z1)]) L1 (.int _) (show (2 : Nat) < 3 by decide) rfl fun _ L2 => ?_))))))))
    refine x_seq (x_ifS (x_test (x_op (x_vI (x := a__law_bottom) L2 rfl (x_c (x_r0 (x_kb (x_join (G := (fun (s1 : Int) => [.imm (.int a__law_top), .imm (.int a__law_bottom), .imm (.int s1)])) L2 hm1 (fun _ hm2 _ hN1 => ?_) (fun _ hm2 _ hN1 => ?_) fun s1 X1 _ _ hm3 L3 => ?_))))))))
    · refine x_asg (x_un (x_vI (x := z1) L2 rfl (x_u (x_bset (x0 := (-z1)) (d := fun often_1 => (.int often_1)) (Γf := fun often_1 => [.imm (.int a__law_top), .imm (.int a__law_bottom), .imm (.int often_1)]) hm2 L2 (.int _) (show (2 : Nat) < 3 by decide) (fun _ => rfl) fun often_1 _ hm4 L4 => ?_))))
      exact x_leaf (G := (fun (s1 : Int) => [.imm (.int a__law_top), .imm (.int a__law_bottom), .imm (.int s1)])) (e := often_1) hm4 hN1 (L4.weak (Γ' := [.imm (.int a__law_top), .imm (.int a__law_bottom), .imm (.int often_1)]) (.k (.k (.k .e))))
    · refine x_next ?_
      exact x_leaf (G := (fun (s1 : Int) => [.imm (.int a__law_top), .imm (.int a__law_bottom), .imm (.int s1)])) (e := z1) hm2 hN1 (L2.weak (Γ' := [.imm (.int a__law_top), .imm (.int a__law_bottom), .imm (.int z1)]) (.k (.k (.k .e))))
    exact x_ret (x_tup (x_cons (x_op (x_vI (x := a__law_top) L3 rfl (x_vI (x := s1) L3 rfl (x_div hm3 fun z2 _ hm5 => x_cons (x_op (x_vI (x := a__law_bottom) L3 rfl (x_vI (x := s1) L3 rfl (x_div hm5 fun z3 _ hm6 => x_nil (x_mkT L3 (.cons (.int _) (.cons (.int _) .nil)) (show (2 : Nat) ≤ 16777216 by decide) fun v2 _ L5 le2 r1 => have r2 : Rep _ _ _ (enc ((T2.mk z2 z3) : (T2 Int Int))) v2 := r1; x_fin (Q := Q) (ps := (fun (r : (T2 Int Int)) => [])) (rs := (fun (r : (T2 Int Int)) => (.imm (enc (r : (T2 Int Int)))))) (e := (T2.mk z2 z3)) hm6 kont (L5.fin hp0 r2))))))))))))
abbrev sp__law_due (K : PySem.W.Frag) : Sp := fun vs H Q _ => ∃ (X : Addr → Prop)  (a__law_some : (List (T2 (T2 Int Int) (T2 Int Int)))) (a__law_top : Int) (a__law_under_it : Int) (r : (List (T2 (T2 Int Int) (T2 Int Int)))), m__law_due a__law_some a__law_top a__law_under_it = some r ∧ Cond K X H [.imm (enc (a__law_some : (List (T2 (T2 Int Int) (T2 Int Int))))), .imm (.int a__law_top), .imm (.int a__law_under_it)] vs ∧ ∀ p H', Fin K X H [] [] (.new (ml (r : (List (T2 (T2 Int Int) (T2 Int Int)))))) (.ref p) H' → Q (.ref p) H'
theorem mk__law_due {K : PySem.W.Frag} {X : Addr → Prop} {H : Hp} {vs : List V} {Q : VK} {E : XK}  {a__law_some : (List (T2 (T2 Int Int) (T2 Int Int)))} {a__law_top : Int} {a__law_under_it : Int} {r : (List (T2 (T2 Int Int) (T2 Int Int)))} (hm : m__law_due a__law_some a__law_top a__law_under_it = some r) (c : Cond K X H [.imm (enc (a__law_some : (List (T2 (T2 Int Int) (T2 Int Int))))), .imm (.int a__law_top), .imm (.int a__law_under_it)] vs) (k : ∀ p H', Fin K X H [] [] (.new (ml (r : (List (T2 (T2 Int Int) (T2 Int Int)))))) (.ref p) H' → Q (.ref p) H') : sp__law_due K vs H Q E := ⟨X, a__law_some, a__law_top, a__law_under_it, r, hm, c, k⟩
abbrev n__law_due : List Str := ["_law_some", "_law_top", "_law_under_it", "_law_made", "_law_way", "_law_ratio_of", "_law_other", "_law_often"]
theorem sc__law_due : FnScope n__law_due ["_law_some", "_law_top", "_law_under_it"] (defScope s__law_due) := ⟨rfl, rfl, rfl, by decide +kernel, rfl, by decide +kernel, by decide +kernel⟩
theorem ok__law_due (T : Txt K mg) : FnOk P w K mg base CX0 3 T.A__law_due T.D__law_due ["_law_some", "_law_top", "_law_under_it"] (sp__law_due K) := by
  refine Fun.ok T.F__law_due sc__law_due (fun vs H Q E h => ?_) (fun cdv A outer s H vs Q E hr h => ?_)
  · obtain ⟨X, a__law_some, a__law_top, a__law_under_it, r, hm, c, kont⟩ := h
    exact c.len
  · obtain ⟨X, a__law_some, a__law_top, a__law_under_it, r, hm, c, kont⟩ := h
    refine ⟨_, (pss_cons (ps_set (i := 3) sc__law_due.nd rfl (Or.inl rfl) (pe_lst pa_nil))
      (pss_cons (ps_for PassesOwn.never rfl (pi_list (pv 0)) (pg_tup rfl (pgs_cons (pg_name (i := 4) sc__law_due.nd rfl (Or.inl rfl)) (pgs_cons (pg_name (i := 5) sc__law_due.nd rfl (Or.inl rfl)) pgs_nil))) (pss_cons (ps_asg (pe_call (ok__law_way_tilted T) hr (by rfl) T.g__law_way_tilted T.F__law_way_tilted.kp T.b__law_way_tilted .nil pass0 (pa_cons (pv 4) (pa_cons (pv 1) (pa_cons (pv 2) pa_nil)))) (pg_tup rfl (pgs_cons (pg_name (i := 6) sc__law_due.nd rfl (Or.inl rfl)) (pgs_cons (pg_name (i := 7) sc__law_due.nd rfl (Or.inl rfl)) pgs_nil))))
      (pss_one (ps_expr (pe_bm PySem.F.plainAttrs_list PySem.F.slot_list_append PySem.F.type_list_append mt_append (pv 3) (pa_cons (pe_tup (pa_cons (pv 6) (pa_cons (pe_call (ok__law_low T) hr (by rfl) T.g__law_low T.F__law_low.kp T.b__law_low .nil pass0 (pa_cons (pe_op op_mulW (pe_ix (r := rIxT K) ix_tup (pv 5) pe_int (fun _ _ => rfl)) (pv 7)) (pa_cons (pe_op op_mulW (pe_ix (r := rIxT K) ix_tup (pv 5) pe_int (fun _ _ => rfl)) (pv 2)) pa_nil))) pa_nil))) pa_nil))))))
      (pss_one (ps_ret (pe_callB (r := rSortedQ K) (cr_sortedQ hr.units) (by rfl) T.z_sorted (by decide +kernel) (pa_cons (pv 3) pa_nil)))))), ?_⟩
    have L0 : Lo ⟨K, X, H, muts [.imm (enc (a__law_some : (List (T2 (T2 Int Int) (T2 Int Int))))), .imm (.int a__law_top), .imm (.int a__law_under_it)], n__law_due.length⟩ X H (L2.start n__law_due vs) [.imm (enc (a__law_some : (List (T2 (T2 Int Int) (T2 Int Int))))), .imm (.int a__law_top), .imm (.int a__law_under_it), .unk, .unk, .unk, .unk, .unk] := c.start n__law_due (show (3 : Nat) ≤ 8 by decide)
    unfold m__law_due at hm
    refine x_seq (x_asg (x_lst (x_nil (x_mkN L0 .nil (show (0 : Nat) ≤ 16777216 by decide) fun p1 _ _ h01 hx1 L1 le1 => x_setN (Γ := [.imm (enc (a__law_some : (List (T2 (T2 Int Int) (T2 Int Int))))), .imm (.int a__law_top), .imm (.int a__law_under_it), .unk, .unk, .unk, .unk, .unk]) (p := p1) (o := (ml (([] : (List (T2 (T2 Int Int) (T2 Int Int)))) : (List (T2 (T2 Int Int) (T2 Int Int)))))) (Γ' := [.imm (enc (a__law_some : (List (T2 (T2 Int Int) (T2 Int Int))))), .imm (.int a__law_top), .imm (.int a__law_under_it), .mu p1 (ml (([] : (List (T2 (T2 Int Int) (T2 Int Int)))) : (List (T2 (T2 Int Int) (T2 Int Int))))), .unk, .unk, .unk, .unk]) L1 (show (3 : Nat) < 8 by decide) (show (3 : Nat) < 8 by decide) rfl fun _ L2 => ?_))))
    refine x_seq (x_tforL (x_vd (d := (enc (a__law_some : (List (T2 (T2 Int Int) (T2 Int Int)))))) L2 rfl fun v1 r1 => x_foL (G := (fun (s1 : (List (T2 (T2 Int Int) (T2 Int Int)))) => [.imm (enc (a__law_some : (List (T2 (T2 Int Int) (T2 Int Int))))), .imm (.int a__law_top), .imm (.int a__law_under_it), .mu p1 (ml (s1 : (List (T2 (T2 Int Int) (T2 Int Int))))), .unk, .unk, .unk, .unk])) (s0 := ([] : (List (T2 (T2 Int Int) (T2 Int Int))))) (xs := a__law_some) (L2.weak (Γ' := [.imm (enc (a__law_some : (List (T2 (T2 Int Int) (T2 Int Int))))), .imm (.int a__law_top), .imm (.int a__law_under_it), .mu p1 (ml (([] : (List (T2 (T2 Int Int) (T2 Int Int)))) : (List (T2 (T2 Int Int) (T2 Int Int))))), .unk, .unk, .unk, .unk]) (.k (.k (.k (.k (.k (.k (.k (.k .e))))))))) (fun _ _ => rfl) r1 hm (fun x1 s1 H1 _ u1 _ _ _ _ _ hm1 L3 r2 hN1 hC1 => ?_) (fun s2 _ _ hm2 L4 => ?_)))
    · refine x_gTup r2 rfl fun vs1 rs1 => x_gCons rs1 fun v2 _ r3 rs2 => x_set (d := (enc (x1.a : (T2 Int Int)))) (Γ' := [.imm (enc (a__law_some : (List (T2 (T2 Int Int) (T2 Int Int))))), .imm (.int a__law_top), .imm (.int a__law_under_it), .mu p1 (ml (s1 : (List (T2 (T2 Int Int) (T2 Int Int))))), .imm (enc (x1.a : (T2 Int Int))), .unk, .unk, .unk]) L3 r3 (show (4 : Nat) < 8 by decide) rfl fun _ L5 => x_gCons rs2 fun v3 _ r4 rs3 => x_set (d := (enc (x1.b : (T2 Int Int)))) (Γ' := [.imm (enc (a__law_some : (List (T2 (T2 Int Int) (T2 Int Int))))), .imm (.int a__law_top), .imm (.int a__law_under_it), .mu p1 (ml (s1 : (List (T2 (T2 Int Int) (T2 Int Int))))), .imm (enc (x1.a : (T2 Int Int))), .imm (enc (x1.b : (T2 Int Int))), .unk, .unk]) L5 r4 (show (5 : Nat) < 8 by decide) rfl fun _ L6 => x_gNil rs3 (?_)
      refine x_seq (x_asg (x_call (x_cons (x_vd (d := (enc (x1.a : (T2 Int Int)))) L6 rfl fun v4 r5 => x_cons (x_vI (x := a__law_top) L6 rfl (x_cons (x_vI (x := a__law_under_it) L6 rfl (x_nil (obE hm1 fun z1 hz1 hm4 => mk__law_way_tilted hz1 (L6.cond0 (.im r5 (.im (.int _) (.im (.int _) .nil))) rfl) fun v5 _ F2 => k0d L6 F2 fun L7 le2 r6 => x_gTup r6 rfl fun vs2 rs4 => x_gCons rs4 fun v6 _ r7 rs5 => x_set (d := (enc (z1.a : (T2 Int Int)))) (Γ' := [.imm (enc (a__law_some : (List (T2 (T2 Int Int) (T2 Int Int))))), .imm (.int a__law_top), .imm (.int a__law_under_it), .mu p1 (ml (s1 : (List (T2 (T2 Int Int) (T2 Int Int))))), .imm (enc (x1.a : (T2 Int Int))), .imm (enc (x1.b : (T2 Int Int))), .imm (enc (z1.a : (T2 Int Int))), .unk]) L7 r7 (show (6 : Nat) < 8 by decide) rfl fun _ L8 => x_gCons rs5 fun v7 _ r8 rs6 => x_set (d := (.int z1.b)) (Γ' := [.imm (enc (a__law_some : (List (T2 (T2 Int Int) (T2 Int Int))))), .imm (.int a__law_top), .imm (.int a__law_under_it), .mu p1 (ml (s1 : (List (T2 (T2 Int Int) (T2 Int Int))))), .imm (enc (x1.a : (T2 Int Int))), .imm (enc (x1.b : (T2 Int Int))), .imm (enc (z1.a : (T2 Int Int))), .imm (.int z1.b)]) L8 r8 (show (7 : Nat) < 8 by decide) rfl fun _ L9 => x_gNil rs6 (?_))))))))))
      refine x_drop (x_bm (x_vm L9 rfl (x_tyM L9 (i := 3) rfl (?_))))
      refine x_cons (x_tup (x_cons (x_vd (d := (enc (z1.a : (T2 Int Int)))) L9 rfl fun v8 r9 => x_cons (x_call (x_cons (x_op (x_op (x_vd (d := (enc (x1.b : (T2 Int Int)))) L9 rfl fun v9 r10 => x_c (x_ixTI (x := x1.b.a) r10 rfl (x_vI (x := z1.b) L9 rfl (x_mul hm4 fun z2 _ hm5 => x_cons (x_op (x_op (x_vd (d := (enc (x1.b : (T2 Int Int)))) L9 rfl fun v10 r11 => x_c (x_ixTI (x := x1.b.b) r11 rfl (x_vI (x := a__law_under_it) L9 rfl (x_mul hm5 fun z3 _ hm6 => x_nil (obE hm6 fun z4 hz2 hm7 => mk__law_low hz2 (L9.cond0 (.im (.int _) (.im (.int _) .nil)) rfl) fun v11 _ F3 => k0d L9 F3 fun L10 le3 r12 => have r13 := le3 _ _ r9; x_nil (x_mkT L10 (.cons r13 (.cons r12 .nil)) (show (2 : Nat) ≤ 16777216 by decide) fun v12 _ L11 le4 r14 => have r15 : Rep _ _ _ (enc ((T2.mk z1.a z4) : (T2 (T2 Int Int) (T2 Int Int)))) v12 := r14; x_nil (x_append (xs := s1) (x := (T2.mk z1.a z4)) (i := 3) (Γ' := [.imm (enc (a__law_some : (List (T2 (T2 Int Int) (T2 Int Int))))), .imm (.int a__law_top), .imm (.int a__law_under_it), .mu p1 (ml ((s1 ++ [(T2.mk z1.a z4)]) : (List (T2 (T2 Int Int) (T2 Int Int))))), .imm (enc (x1.a : (T2 Int Int))), .imm (enc (x1.b : (T2 Int Int))), .imm (enc (z1.a : (T2 Int Int))), .imm (.int z1.b)]) L11 rfl hm7 r15 rfl fun _ hm8 L12 le5 => ?_))))))))))))))))))))
      exact x_leaf (G := (fun (s1 : (List (T2 (T2 Int Int) (T2 Int Int)))) => [.imm (enc (a__law_some : (List (T2 (T2 Int Int) (T2 Int Int))))), .imm (.int a__law_top), .imm (.int a__law_under_it), .mu p1 (ml (s1 : (List (T2 (T2 Int Int) (T2 Int Int))))), .unk, .unk, .unk, .unk])) (e := (s1 ++ [(T2.mk z1.a z4)])) hm8 hN1 (L12.weak (Γ' := [.imm (enc (a__law_some : (List (T2 (T2 Int Int) (T2 Int Int))))), .imm (.int a__law_top), .imm (.int a__law_under_it), .mu p1 (ml ((s1 ++ [(T2.mk z1.a z4)]) : (List (T2 (T2 Int Int) (T2 Int Int))))), .unk, .unk, .unk, .unk]) (.k (.k (.k (.k (.d (.d (.d (.d .e)))))))))
    have L13 : Lo _ _ _ _ [.imm (enc (a__law_some : (List (T2 (T2 Int Int) (T2 Int Int))))), .imm (.int a__law_top), .imm (.int a__law_under_it), .imm (enc (s2 : (List (T2 (T2 Int Int) (T2 Int Int))))), .unk, .unk, .unk, .unk] := L4.freeze (i := 3) rfl hx1
    exact x_ret (x_cb (x_cons (x_vd (d := (enc (s2 : (List (T2 (T2 Int Int) (T2 Int Int)))))) L13 rfl fun v13 r16 => x_nil (x_sortedQN (xs := s2) L13 r16 fun p2 _ _ h02 hx2 L14 le6 => x_finP (Q := Q) (ps := (fun (r : (List (T2 (T2 Int Int) (T2 Int Int)))) => [])) (o := fun (r : (List (T2 (T2 Int Int) (T2 Int Int)))) => (ml (r : (List (T2 (T2 Int Int) (T2 Int Int)))))) (e := (sortQ s2)) hm2 kont (L14.finT (p := p2) (i := 8) (o := (ml ((sortQ s2) : (List (T2 (T2 Int Int) (T2 Int Int)))))) hp0 rfl h02)))))
abbrev sp__law_one_more (K : PySem.W.Frag) : Sp := fun vs H Q _ => ∃ (X : Addr → Prop) (p__law_bag_here : Addr) (a__law_cloth_here : (T2 (List (List (T2 Int Int))) Int)) (a__law_bag_here : (List Int)) (r : ((T2 (List (List (T2 Int Int))) Int) × (List Int))), m__law_one_more a__law_cloth_here a__law_bag_here = some r ∧ Cond K X H [.imm (enc (a__law_cloth_here : (T2 (List (List (T2 Int Int))) Int))), .mu p__law_bag_here (ml (a__law_bag_here : (List Int)))] vs ∧ ∀ v H', Fin K X H [p__law_bag_here] [(p__law_bag_here, (ml (r.2 : (List Int))))] (.imm (enc (r.1 : (T2 (List (List (T2 Int Int))) Int)))) v H' → Q v H'
theorem mk__law_one_more {K : PySem.W.Frag} {X : Addr → Prop} {H : Hp} {vs : List V} {Q : VK} {E : XK} {p__law_bag_here : Addr} {a__law_cloth_here : (T2 (List (List (T2 Int Int))) Int)} {a__law_bag_here : (List Int)} {r : ((T2 (List (List (T2 Int Int))) Int) × (List Int))} (hm : m__law_one_more a__law_cloth_here a__law_bag_here = some r) (c : Cond K X H [.imm (enc (a__law_cloth_here : (T2 (List (List (T2 Int Int))) Int))), .mu p__law_bag_here (ml (a__law_bag_here : (List Int)))] vs) (k : ∀ v H', Fin K X H [p__law_bag_here] [(p__law_bag_here, (ml (r.2 : (List Int))))] (.imm (enc (r.1 : (T2 (List (List (T2 Int Int))) Int)))) v H' → Q v H') : sp__law_one_more K vs H Q E := ⟨X, p__law_bag_here, a__law_cloth_here, a__law_bag_here, r, hm, c, k⟩
abbrev n__law_one_more : List Str := ["_law_cloth_here", "_law_bag_here", "_law_rings_here", "_law_bottom", "_law_made", "_law_ring", "_law_k", "_law_x", "_law_y", "_law_one", "_law_other"]
theorem sc__law_one_more : FnScope n__law_one_more ["_law_cloth_here", "_law_bag_here"] (defScope s__law_one_more) := ⟨rfl, rfl, rfl, by decide +kernel, rfl, by decide +kernel, by decide +kernel⟩
theorem ok__law_one_more (T : Txt K mg) : FnOk P w K mg base CX0 2 T.A__law_one_more T.D__law_one_more ["_law_cloth_here", "_law_bag_here"] (sp__law_one_more K) := by
  refine Fun.ok T.F__law_one_more sc__law_one_more (fun vs H Q E h => ?_) (fun cdv A outer s H vs Q E hr h => ?_)
  · obtain ⟨X, p__law_bag_here, a__law_cloth_here, a__law_bag_here, r, hm, c, kont⟩ := h
    exact c.len
  · obtain ⟨X, p__law_bag_here, a__law_cloth_here, a__law_bag_here, r, hm, c, kont⟩ := h
    refine ⟨_, (pss_cons (ps_asg (pv 0) (pg_tup rfl (pgs_cons (pg_name (i := 2) sc__law_one_more.nd rfl (Or.inl rfl)) (pgs_cons (pg_name (i := 3) sc__law_one_more.nd rfl (Or.inl rfl)) pgs_nil))))
      (pss_cons (ps_setLc (i := 4) (own := [("_law_ring", 5)])  (g := gName 5) (tt := tYes) rfl sc__law_one_more.nd rfl rfl (sw_true rfl rfl rfl (by decide +kernel)) (pi_list (pv 2)) (blkOk_by (N := n__law_one_more) (sc := defScope s__law_one_more) (by decide +kernel)) (fun _ _ _ _ _ => (pg_name (i := 5) sc__law_one_more.nd rfl (Or.inl rfl))) (fun _ _ _ _ _ => pts_nil) (fun _ _ _ _ _ => (pe_lc (own := [("_law_one", 9), ("_law_other", 10)]) (g := gTup K 2 (gCons (gName 9) (gCons (gName 10) gNil))) (tt := tYes) rfl sc__law_one_more.nd (pi_listK (K := K) rfl (pv 5)) (blkOk_in (N := n__law_one_more) (by decide +kernel)) (fun _ _ _ _ _ => (pg_tup rfl (pgs_cons (pg_name (i := 9) sc__law_one_more.nd rfl (Or.inl rfl)) (pgs_cons (pg_name (i := 10) sc__law_one_more.nd rfl (Or.inl rfl)) pgs_nil)))) (fun _ _ _ _ _ => pts_nil) (fun _ _ _ _ _ => (pe_tup (pa_cons (pe_op op_mul pe_int (pv 9)) (pa_cons (pe_op op_mul pe_int (pv 10)) pa_nil)))))))
      (pss_cons (ps_if (pt_cmpR op_gt (pe_callB (r := rLenX K) call_lenX (by rfl) T.z_len (by decide +kernel) (pa_cons (pv 4) pa_nil)) pe_int (nomark _)) (pss_cons (ps_set (i := 5) sc__law_one_more.nd rfl (Or.inl rfl) (pe_ix (r := rIxL K) ix_list (pv 4) (pe_call (ok__law_draw T) hr (by rfl) T.g__law_draw T.F__law_draw.kp T.b__law_draw .nil pass0 (pa_cons (pv 1) (pa_cons (pe_callB (r := rLenX K) call_lenX (by rfl) T.z_len (by decide +kernel) (pa_cons (pv 4) pa_nil)) pa_nil))) (fun _ _ => rfl)))
      (pss_cons (ps_set (i := 6) sc__law_one_more.nd rfl (Or.inl rfl) (pe_call (ok__law_draw T) hr (by rfl) T.g__law_draw T.F__law_draw.kp T.b__law_draw .nil pass0 (pa_cons (pv 1) (pa_cons (pe_callB (r := rLenX K) call_lenX (by rfl) T.z_len (by decide +kernel) (pa_cons (pv 5) pa_nil)) pa_nil))))
      (pss_cons (ps_set (i := 7) sc__law_one_more.nd rfl (Or.inl rfl) (pe_op op_fdiv (pe_op op_add (pe_op op_mul pe_int (pe_ix (r := rIxT K) ix_tup (pe_ix (r := rIxL K) ix_list (pv 5) (pv 6) (fun _ _ => rfl)) pe_int (fun _ _ => rfl))) (pe_ix (r := rIxT K) ix_tup (pe_ix (r := rIxL K) ix_list (pv 5) (pe_op op_sub (pv 6) pe_int) (fun _ _ => rfl)) pe_int (fun _ _ => rfl))) pe_int))
      (pss_cons (ps_set (i := 8) sc__law_one_more.nd rfl (Or.inl rfl) (pe_op op_fdiv (pe_op op_add (pe_op op_mul pe_int (pe_ix (r := rIxT K) ix_tup (pe_ix (r := rIxL K) ix_list (pv 5) (pv 6) (fun _ _ => rfl)) pe_int (fun _ _ => rfl))) (pe_ix (r := rIxT K) ix_tup (pe_ix (r := rIxL K) ix_list (pv 5) (pe_op op_sub (pv 6) pe_int) (fun _ _ => rfl)) pe_int (fun _ _ => rfl))) pe_int))
      (pss_one (ps_expr (pe_bm PySem.F.plainAttrs_list PySem.F.slot_list_insert PySem.F.type_list_insert mt_insertX (pv 5) (pa_cons (pv 6) (pa_cons (pe_tup (pa_cons (pv 7) (pa_cons (pv 8) pa_nil))) pa_nil))))))))) pss_nil)
      (pss_one (ps_ret (pe_tup (pa_cons (pe_revL (pv 4)) (pa_cons (pe_op op_mul pe_int (pv 3)) pa_nil)))))))), ?_⟩
    have L0 : Lo ⟨K, X, H, muts [.imm (enc (a__law_cloth_here : (T2 (List (List (T2 Int Int))) Int))), .mu p__law_bag_here (ml (a__law_bag_here : (List Int)))], n__law_one_more.length⟩ X H (L2.start n__law_one_more vs) [.imm (enc (a__law_cloth_here : (T2 (List (List (T2 Int Int))) Int))), .mu p__law_bag_here (ml (a__law_bag_here : (List Int))), .unk, .unk, .unk, .unk, .unk, .unk, .unk, .unk, .unk] := c.start n__law_one_more (show (2 : Nat) ≤ 11 by decide)
    unfold m__law_one_more at hm
    refine x_seq (x_asg (x_vd (d := (enc (a__law_cloth_here : (T2 (List (List (T2 Int Int))) Int)))) L0 rfl fun v1 r1 => x_gTup r1 rfl fun vs1 rs1 => x_gCons rs1 fun v2 _ r2 rs2 => x_set (d := (enc (a__law_cloth_here.a : (List (List (T2 Int Int)))))) (Γ' := [.imm (enc (a__law_cloth_here : (T2 (List (List (T2 Int Int))) Int))), .mu p__law_bag_here (ml (a__law_bag_here : (List Int))), .imm (enc (a__law_cloth_here.a : (List (List (T2 Int Int))))), .unk, .unk, .unk, .unk, .unk, .unk, .unk, .unk]) L0 r2 (show (2 : Nat) < 11 by decide) rfl fun _ L1 => x_gCons rs2 fun v3 _ r3 rs3 => x_set (d := (.int a__law_cloth_here.b)) (Γ' := [.imm (enc (a__law_cloth_here : (T2 (List (List (T2 Int Int))) Int))), .mu p__law_bag_here (ml (a__law_bag_here : (List Int))), .imm (enc (a__law_cloth_here.a : (List (List (T2 Int Int))))), .imm (.int a__law_cloth_here.b), .unk, .unk, .unk, .unk, .unk, .unk, .unk]) L1 r3 (show (3 : Nat) < 11 by decide) rfl fun _ L2 => x_gNil rs3 (?_)))
    obtain ⟨Zn1, hn1, hZ1⟩ := L2.mark
    have L3 : Lo _ _ _ _ [.fix (fun b => ¬ Zn1 b) (enc (a__law_cloth_here : (T2 (List (List (T2 Int Int))) Int))), .mu p__law_bag_here (ml (a__law_bag_here : (List Int))), .imm (enc (a__law_cloth_here.a : (List (List (T2 Int Int))))), .imm (.int a__law_cloth_here.b), .unk, .unk, .unk, .unk, .unk, .unk, .unk] := L2.fix hn1 (i := 0) rfl
    have L4 : Lo _ _ _ _ [.fix (fun b => ¬ Zn1 b) (enc (a__law_cloth_here : (T2 (List (List (T2 Int Int))) Int))), .mu p__law_bag_here (ml (a__law_bag_here : (List Int))), .fix (fun b => ¬ Zn1 b) (enc (a__law_cloth_here.a : (List (List (T2 Int Int))))), .imm (.int a__law_cloth_here.b), .unk, .unk, .unk, .unk, .unk, .unk, .unk] := L3.fix hn1 (i := 2) rfl
    refine x_seq (x_asg (x_lcl (x_vfx (d := (enc (a__law_cloth_here.a : (List (List (T2 Int Int)))))) L4 rfl fun v4 r4 => obE hm fun _ hl1 hm1 => obE hm1 fun ys1 hy1 hm2 => x_lcLNZ (Z := Zn1) (G := (fun (s1 : Unit) => [.fix (fun b => ¬ Zn1 b) (enc (a__law_cloth_here : (T2 (List (List (T2 Int Int))) Int))), .mu p__law_bag_here (ml (a__law_bag_here : (List Int))), .fix (fun b => ¬ Zn1 b) (enc (a__law_cloth_here.a : (List (List (T2 Int Int))))), .imm (.int a__law_cloth_here.b), .unk, .unk, .unk, .unk, .unk, .unk, .unk])) (s0 := ()) (xs := a__law_cloth_here.a) (fun a h e => h ((hn1 a).mpr e)) L4 (fun _ _ => rfl) r4 (mapO_comp hy1) (lenOk_le hl1) (fun x1 s1 _ H1 _ u1 _ _ _ hF1 L5 r5 hz1 hn2 hy2 => obE hF1 fun y1 hm3 he1 => x_cName (d := (enc (x1 : (List (T2 Int Int))))) (Γ' := [.fix (fun b => ¬ Zn1 b) (enc (a__law_cloth_here : (T2 (List (List (T2 Int Int))) Int))), .mu p__law_bag_here (ml (a__law_bag_here : (List Int))), .fix (fun b => ¬ Zn1 b) (enc (a__law_cloth_here.a : (List (List (T2 Int Int))))), .imm (.int a__law_cloth_here.b), .unk, .imm (enc (x1 : (List (T2 Int Int)))), .unk, .unk, .unk, .unk, .unk]) L5 r5 (show (5 : Nat) < 11 by decide) rfl fun _ L6 => x_yes (x_lcl (x_vd (d := (enc (x1 : (List (T2 Int Int))))) L6 rfl fun v5 r6 => obE hm3 fun _ hl2 hm4 => obE hm4 fun ys2 hy3 hm5 => x_lcLZ (Z := Zn1) (G := (fun (s2 : Unit) => [.fix (fun b => ¬ Zn1 b) (enc (a__law_cloth_here : (T2 (List (List (T2 Int Int))) Int))), .mu p__law_bag_here (ml (a__law_bag_here : (List Int))), .fix (fun b => ¬ Zn1 b) (enc (a__law_cloth_here.a : (List (List (T2 Int Int))))), .imm (.int a__law_cloth_here.b), .unk, .imm (enc (x1 : (List (T2 Int Int)))), .unk, .unk, .unk, .unk, .unk])) (s0 := ()) (xs := x1) (fun a h => L6.dom a (hz1 a h)) L6 (fun _ _ => rfl) r6 (mapO_comp hy3) (lenOk_le hl2) (fun x2 s2 _ H2 _ u2 _ _ _ hF2 L7 r7 hz2 hn3 hy4 => obE hF2 fun y2 hm6 he2 => x_cTup (d1 := (.int x2.a)) (d2 := (.int x2.b)) (Γ' := [.fix (fun b => ¬ Zn1 b) (enc (a__law_cloth_here : (T2 (List (List (T2 Int Int))) Int))), .mu p__law_bag_here (ml (a__law_bag_here : (List Int))), .fix (fun b => ¬ Zn1 b) (enc (a__law_cloth_here.a : (List (List (T2 Int Int))))), .imm (.int a__law_cloth_here.b), .unk, .imm (enc (x1 : (List (T2 Int Int)))), .unk, .unk, .unk, .imm (.int x2.a), .imm (.int x2.b)]) L7 r7 (show (9 : Nat) < 11 by decide) (show (10 : Nat) < 11 by decide) (by decide) rfl fun _ L8 => x_yes (x_tup (x_cons (x_op (x_c (x_vI (x := x2.a) L8 rfl (x_mulL (by decide) (x_cons (x_op (x_c (x_vI (x := x2.b) L8 rfl (x_mulL (by decide) (x_nil (x_mkT L8 (.cons (.int _) (.cons (.int _) .nil)) (show (2 : Nat) ≤ 16777216 by decide) fun v6 _ L9 le1 r8 => have r9 : Rep _ _ _ (enc ((T2.mk ((3 * x2.a)) ((3 * x2.b))) : (T2 Int Int))) v6 := r8; x_cyZ (Z := Zn1) (G := (fun (s2 : Unit) => [.fix (fun b => ¬ Zn1 b) (enc (a__law_cloth_here : (T2 (List (List (T2 Int Int))) Int))), .mu p__law_bag_here (ml (a__law_bag_here : (List Int))), .fix (fun b => ¬ Zn1 b) (enc (a__law_cloth_here.a : (List (List (T2 Int Int))))), .imm (.int a__law_cloth_here.b), .unk, .imm (enc (x1 : (List (T2 Int Int)))), .unk, .unk, .unk, .unk, .unk])) (s := s2) (s' := ()) (y := (T2.mk ((3 * x2.a)) ((3 * x2.b)))) (by cases hm6; cases he2; rfl) hy4 L7 L9 (.i rfl (.m (.i rfl (.i rfl (.i rfl (.i rfl (.i rfl (.i rfl (.i rfl (.i rfl (.i rfl .e))))))))))) (Flat.up r9))))))))))))))) fun p1 _ L10 le2 r10 => have L11 : Lo _ _ _ _ [.fix (fun b => ¬ Zn1 b) (enc (a__law_cloth_here : (T2 (List (List (T2 Int Int))) Int))), .mu p__law_bag_here (ml (a__law_bag_here : (List Int))), .fix (fun b => ¬ Zn1 b) (enc (a__law_cloth_here.a : (List (List (T2 Int Int))))), .imm (.int a__law_cloth_here.b), .unk, .imm (enc (x1 : (List (T2 Int Int)))), .unk, .unk, .unk, .unk, .unk] := L10; have r11 : Rep _ _ _ (enc (ys2 : (List (T2 Int Int)))) (.ref p1) := r10; x_cyZ (Z := Zn1) (G := (fun (s1 : Unit) => [.fix (fun b => ¬ Zn1 b) (enc (a__law_cloth_here : (T2 (List (List (T2 Int Int))) Int))), .mu p__law_bag_here (ml (a__law_bag_here : (List Int))), .fix (fun b => ¬ Zn1 b) (enc (a__law_cloth_here.a : (List (List (T2 Int Int))))), .imm (.int a__law_cloth_here.b), .unk, .unk, .unk, .unk, .unk, .unk, .unk])) (s := s1) (s' := ()) (y := ys2) (by cases hm5; cases he1; rfl) hy2 L5 L11 (.i rfl (.m (.i rfl (.i rfl (.i rfl (.i rfl (.i rfl (.i rfl (.i rfl (.i rfl (.i rfl .e))))))))))) r11))) fun p2 _ _ h01 hx1 L12 le3 => x_setN (Γ := [.fix (fun b => ¬ Zn1 b) (enc (a__law_cloth_here : (T2 (List (List (T2 Int Int))) Int))), .mu p__law_bag_here (ml (a__law_bag_here : (List Int))), .fix (fun b => ¬ Zn1 b) (enc (a__law_cloth_here.a : (List (List (T2 Int Int))))), .imm (.int a__law_cloth_here.b), .unk, .unk, .unk, .unk, .unk, .unk, .unk]) (p := p2) (o := (.lstZ Zn1 (List.map enc (ys1 : (List (List (T2 Int Int))))))) (Γ' := [.fix (fun b => ¬ Zn1 b) (enc (a__law_cloth_here : (T2 (List (List (T2 Int Int))) Int))), .mu p__law_bag_here (ml (a__law_bag_here : (List Int))), .fix (fun b => ¬ Zn1 b) (enc (a__law_cloth_here.a : (List (List (T2 Int Int))))), .imm (.int a__law_cloth_here.b), .mu p2 (.lstZ Zn1 (List.map enc (ys1 : (List (List (T2 Int Int)))))), .unk, .unk, .unk, .unk, .unk, .unk]) L12 (show (4 : Nat) < 11 by decide) (show (4 : Nat) < 11 by decide) rfl fun _ L14 => ?_)))
    refine x_seq (x_ifS (x_test (x_op (x_cb (x_cons (x_vm L14 rfl (x_nil (x_lenM (xs := ys1) (L14.unZ (i := 4) rfl) (j := 4) rfl (x_c (x_r0 (x_kb (x_if hm2 (fun hm7 => ?_) fun hm7 => ?_))))))))))))
    · refine x_seq (x_asg (x_op (x_vm L14 rfl (x_call (x_cons (x_vm L14 rfl (x_cons (x_cb (x_cons (x_vm L14 rfl (x_nil (x_lenM (xs := ys1) (L14.unZ (i := 4) rfl) (j := 4) rfl (x_nil (obE hm7 fun z1 hz3 hm8 => mk__law_draw hz3 (L14.cond1 (i := 1) (.m (L14.mrep (i := 1) rfl) (.im (.int _) .nil)) rfl rfl rfl) fun _ F1 => k1 L14 F1 (i := 1) (Γ' := [.fix (fun b => ¬ Zn1 b) (enc (a__law_cloth_here : (T2 (List (List (T2 Int Int))) Int))), .mu p__law_bag_here (ml (z1.2 : (List Int))), .fix (fun b => ¬ Zn1 b) (enc (a__law_cloth_here.a : (List (List (T2 Int Int))))), .imm (.int a__law_cloth_here.b), .mu p2 (.lstZ Zn1 (List.map enc (ys1 : (List (List (T2 Int Int)))))), .unk, .unk, .unk, .unk, .unk, .unk]) rfl rfl rfl fun L15 le4 => x_take (xs := ys1) (i := 4) (j := 5) (G' := fun b1 q1 => [.fix (fun b => ¬ Zn1 b) (enc (a__law_cloth_here : (T2 (List (List (T2 Int Int))) Int))), .mu p__law_bag_here (ml (z1.2 : (List Int))), .fix (fun b => ¬ Zn1 b) (enc (a__law_cloth_here.a : (List (List (T2 Int Int))))), .imm (.int a__law_cloth_here.b), .mu p2 (.ex (HoleR K b1 (List.map enc q1.a) (List.map enc q1.c))), .mu b1 (ml (q1.b : (List (T2 Int Int)))), .unk, .unk, .unk, .unk, .unk]) L15 hZ1 (show (5 : Nat) < 11 by decide) rfl rfl (List.forall_mem_cons.mpr ⟨(fun _ h => h), (List.forall_mem_cons.mpr ⟨OldS.lst, (List.forall_mem_cons.mpr ⟨(fun _ h => h), (List.forall_mem_cons.mpr ⟨OldS.I, (List.forall_mem_cons.mpr ⟨trivial, (List.forall_mem_cons.mpr ⟨trivial, (List.forall_mem_cons.mpr ⟨trivial, (List.forall_mem_cons.mpr ⟨trivial, (List.forall_mem_cons.mpr ⟨trivial, (List.forall_mem_cons.mpr ⟨trivial, (List.forall_mem_cons.mpr ⟨trivial, (fun _ h => nomatch h)⟩)⟩)⟩)⟩)⟩)⟩)⟩)⟩)⟩)⟩)⟩) hm8 (fun _ _ => rfl) fun q1 b1 _ _ hm9 h02 hx2 L16 => ?_))))))))))))))
      refine x_seq (x_asg (x_call (x_cons (x_vm L16 rfl (x_cons (x_cb (x_cons (x_vm L16 rfl (x_nil (x_lenM (xs := q1.b) L16 (j := 5) rfl (x_nil (obE hm9 fun z2 hz4 hm10 => mk__law_draw hz4 (L16.cond1 (i := 1) (.m (L16.mrep (i := 1) rfl) (.im (.int _) .nil)) rfl rfl rfl) fun _ F2 => k1 L16 F2 (i := 1) (Γ' := [.fix (fun b => ¬ Zn1 b) (enc (a__law_cloth_here : (T2 (List (List (T2 Int Int))) Int))), .mu p__law_bag_here (ml (z2.2 : (List Int))), .fix (fun b => ¬ Zn1 b) (enc (a__law_cloth_here.a : (List (List (T2 Int Int))))), .imm (.int a__law_cloth_here.b), .mu p2 (.ex (HoleR K b1 (List.map enc q1.a) (List.map enc q1.c))), .mu b1 (ml (q1.b : (List (T2 Int Int)))), .unk, .unk, .unk, .unk, .unk]) rfl rfl rfl fun L17 le5 => x_set (d := (.int z2.1)) (Γ' := [.fix (fun b => ¬ Zn1 b) (enc (a__law_cloth_here : (T2 (List (List (T2 Int Int))) Int))), .mu p__law_bag_here (ml (z2.2 : (List Int))), .fix (fun b => ¬ Zn1 b) (enc (a__law_cloth_here.a : (List (List (T2 Int Int))))), .imm (.int a__law_cloth_here.b), .mu p2 (.ex (HoleR K b1 (List.map enc q1.a) (List.map enc q1.c))), .mu b1 (ml (q1.b : (List (T2 Int Int)))), .imm (.int z2.1), .unk, .unk, .unk, .unk]) L17 (.int _) (show (6 : Nat) < 11 by decide) rfl fun _ L18 => ?_))))))))))))
      refine x_seq (x_asg (x_op (x_op (x_op (x_c (x_op (x_op (x_vm L18 rfl (x_vI (x := z2.1) L18 rfl (x_ixM (xs := q1.b) (j := 5) L18 rfl hm10 fun x3 v9 _ hm11 r12 => x_c (x_ixTI (x := x3.a) r12 rfl (x_mulL (by decide) (x_op (x_op (x_vm L18 rfl (x_op (x_vI (x := z2.1) L18 rfl (x_c (x_r0 (x_ixM (xs := q1.b) (j := 5) L18 rfl hm11 fun x4 v10 _ hm12 r13 => x_c (x_ixTI (x := x4.a) r13 rfl (x_r0 (x_c (x_divc ⟨by decide, by decide⟩ (x_bset (x0 := (((2 * x3.a) + x4.a) / 3)) (d := fun x_1 => (.int x_1)) (Γf := fun x_1 => [.fix (fun b => ¬ Zn1 b) (enc (a__law_cloth_here : (T2 (List (List (T2 Int Int))) Int))), .mu p__law_bag_here (ml (z2.2 : (List Int))), .fix (fun b => ¬ Zn1 b) (enc (a__law_cloth_here.a : (List (List (T2 Int Int))))), .imm (.int a__law_cloth_here.b), .mu p2 (.ex (HoleR K b1 (List.map enc q1.a) (List.map enc q1.c))), .mu b1 (ml (q1.b : (List (T2 Int Int)))), .imm (.int z2.1), .imm (.int x_1), .unk, .unk, .unk]) hm12 L18 (.int _) (show (7 : Nat) < 11 by decide) (fun _ => rfl) fun x_1 _ hm13 L19 => ?_)))))))))))))))))))))))))
      refine x_seq (x_asg (x_op (x_op (x_op (x_c (x_op (x_op (x_vm L19 rfl (x_vI (x := z2.1) L19 rfl (x_ixM (xs := q1.b) (j := 5) L19 rfl hm13 fun x5 v11 _ hm14 r14 => x_c (x_ixTI (x := x5.b) r14 rfl (x_mulL (by decide) (x_op (x_op (x_vm L19 rfl (x_op (x_vI (x := z2.1) L19 rfl (x_c (x_r0 (x_ixM (xs := q1.b) (j := 5) L19 rfl hm14 fun x6 v12 _ hm15 r15 => x_c (x_ixTI (x := x6.b) r15 rfl (x_r0 (x_c (x_divc ⟨by decide, by decide⟩ (x_bset (x0 := (((2 * x5.b) + x6.b) / 3)) (d := fun y_1 => (.int y_1)) (Γf := fun y_1 => [.fix (fun b => ¬ Zn1 b) (enc (a__law_cloth_here : (T2 (List (List (T2 Int Int))) Int))), .mu p__law_bag_here (ml (z2.2 : (List Int))), .fix (fun b => ¬ Zn1 b) (enc (a__law_cloth_here.a : (List (List (T2 Int Int))))), .imm (.int a__law_cloth_here.b), .mu p2 (.ex (HoleR K b1 (List.map enc q1.a) (List.map enc q1.c))), .mu b1 (ml (q1.b : (List (T2 Int Int)))), .imm (.int z2.1), .imm (.int x_1), .imm (.int y_1), .unk, .unk]) hm15 L19 (.int _) (show (8 : Nat) < 11 by decide) (fun _ => rfl) fun y_1 _ hm16 L20 => ?_)))))))))))))))))))))))))
      refine x_drop (x_bm (x_vm L20 rfl (x_tyM L20 (i := 5) rfl (?_))))
      refine x_cons (x_vI (x := z2.1) L20 rfl (x_cons (x_tup (x_cons (x_vI (x := x_1) L20 rfl (x_cons (x_vI (x := y_1) L20 rfl (x_nil (x_mkT L20 (.cons (.int _) (.cons (.int _) .nil)) (show (2 : Nat) ≤ 16777216 by decide) fun v13 _ L21 le6 r16 => have r17 : Rep _ _ _ (enc ((T2.mk x_1 y_1) : (T2 Int Int))) v13 := r16; x_nil (x_insert (xs := q1.b) (x := (T2.mk x_1 y_1)) (i := 5) (G' := fun y3 => [.fix (fun b => ¬ Zn1 b) (enc (a__law_cloth_here : (T2 (List (List (T2 Int Int))) Int))), .mu p__law_bag_here (ml (z2.2 : (List Int))), .fix (fun b => ¬ Zn1 b) (enc (a__law_cloth_here.a : (List (List (T2 Int Int))))), .imm (.int a__law_cloth_here.b), .mu p2 (.ex (HoleR K b1 (List.map enc q1.a) (List.map enc q1.c))), .mu b1 (ml (y3 : (List (T2 Int Int)))), .imm (.int z2.1), .imm (.int x_1), .imm (.int y_1), .unk, .unk]) L21 rfl hm16 r17 (fun _ => rfl) fun y3 _ hm17 L22 le7 => ?_))))))))))
      have L23 : Lo _ _ _ _ [.fix (fun b => ¬ Zn1 b) (enc (a__law_cloth_here : (T2 (List (List (T2 Int Int))) Int))), .mu p__law_bag_here (ml (z2.2 : (List Int))), .fix (fun b => ¬ Zn1 b) (enc (a__law_cloth_here.a : (List (List (T2 Int Int))))), .imm (.int a__law_cloth_here.b), .mu p2 (ml ((q1.a ++ y3 :: q1.c) : (List (List (T2 Int Int))))), .unk, .imm (.int z2.1), .imm (.int x_1), .imm (.int y_1), .unk, .unk] := L22.putB (d1 := q1.a) (d2 := q1.c) (ds := y3) (i := 4) (j := 5) hx2 rfl rfl rfl
      have L24 : Lo _ _ _ _ [.imm (enc (a__law_cloth_here : (T2 (List (List (T2 Int Int))) Int))), .mu p__law_bag_here (ml (z2.2 : (List Int))), .fix (fun b => ¬ Zn1 b) (enc (a__law_cloth_here.a : (List (List (T2 Int Int))))), .imm (.int a__law_cloth_here.b), .mu p2 (ml ((q1.a ++ y3 :: q1.c) : (List (List (T2 Int Int))))), .unk, .imm (.int z2.1), .imm (.int x_1), .imm (.int y_1), .unk, .unk] := L23.unfix (i := 0) rfl
      have L25 : Lo _ _ _ _ [.imm (enc (a__law_cloth_here : (T2 (List (List (T2 Int Int))) Int))), .mu p__law_bag_here (ml (z2.2 : (List Int))), .imm (enc (a__law_cloth_here.a : (List (List (T2 Int Int))))), .imm (.int a__law_cloth_here.b), .mu p2 (ml ((q1.a ++ y3 :: q1.c) : (List (List (T2 Int Int))))), .unk, .imm (.int z2.1), .imm (.int x_1), .imm (.int y_1), .unk, .unk] := L24.unfix (i := 2) rfl
      have L26 : Lo _ _ _ _ [.imm (enc (a__law_cloth_here : (T2 (List (List (T2 Int Int))) Int))), .mu p__law_bag_here (ml (z2.2 : (List Int))), .imm (enc (a__law_cloth_here.a : (List (List (T2 Int Int))))), .imm (.int a__law_cloth_here.b), .imm (enc ((q1.a ++ y3 :: q1.c) : (List (List (T2 Int Int))))), .unk, .imm (.int z2.1), .imm (.int x_1), .imm (.int y_1), .unk, .unk] := L25.freeze (i := 4) rfl hx1
      exact x_ret (x_tup (x_cons (x_revL (x_vd (d := (enc ((q1.a ++ y3 :: q1.c) : (List (List (T2 Int Int)))))) L26 rfl fun v14 r18 => x_revv (xs := (q1.a ++ y3 :: q1.c)) L26 r18 fun v15 _ L27 le8 r19 => have r20 : Rep _ _ _ (enc (((q1.a ++ y3 :: q1.c)).reverse : (List (List (T2 Int Int))))) v15 := r19; x_cons (x_op (x_c (x_vI (x := a__law_cloth_here.b) L27 rfl (x_mulL (by decide) (x_nil (x_mkT L27 (.cons r20 (.cons (.int _) .nil)) (show (2 : Nat) ≤ 16777216 by decide) fun v16 _ L28 le9 r21 => have r22 : Rep _ _ _ (enc ((T2.mk (((q1.a ++ y3 :: q1.c)).reverse) ((3 * a__law_cloth_here.b))) : (T2 (List (List (T2 Int Int))) Int))) v16 := r21; x_fin (Q := Q) (ps := (fun (r : ((T2 (List (List (T2 Int Int))) Int) × (List Int))) => [(p__law_bag_here, (ml (r.2 : (List Int))))])) (rs := (fun (r : ((T2 (List (List (T2 Int Int))) Int) × (List Int))) => (.imm (enc (r.1 : (T2 (List (List (T2 Int Int))) Int)))))) (e := ((T2.mk (((q1.a ++ y3 :: q1.c)).reverse) ((3 * a__law_cloth_here.b))), z2.2)) hm17 kont (L28.fin (hp1 (L28.mrep (i := 1) rfl)) r22)))))))))))
    · refine x_next ?_
      have L29 : Lo _ _ _ _ [.fix (fun b => ¬ Zn1 b) (enc (a__law_cloth_here : (T2 (List (List (T2 Int Int))) Int))), .mu p__law_bag_here (ml (a__law_bag_here : (List Int))), .fix (fun b => ¬ Zn1 b) (enc (a__law_cloth_here.a : (List (List (T2 Int Int))))), .imm (.int a__law_cloth_here.b), .imm (enc (ys1 : (List (List (T2 Int Int))))), .unk, .unk, .unk, .unk, .unk, .unk] := (L14.unZ (i := 4) rfl).freeze (i := 4) rfl hx1
      exact x_ret (x_tup (x_cons (x_revL (x_vd (d := (enc (ys1 : (List (List (T2 Int Int)))))) L29 rfl fun v17 r23 => x_revv (xs := ys1) L29 r23 fun v18 _ L30 le10 r24 => have r25 : Rep _ _ _ (enc (ys1.reverse : (List (List (T2 Int Int))))) v18 := r24; x_cons (x_op (x_c (x_vI (x := a__law_cloth_here.b) L30 rfl (x_mulL (by decide) (x_nil (x_mkT L30 (.cons r25 (.cons (.int _) .nil)) (show (2 : Nat) ≤ 16777216 by decide) fun v19 _ L31 le11 r26 => have r27 : Rep _ _ _ (enc ((T2.mk ys1.reverse ((3 * a__law_cloth_here.b))) : (T2 (List (List (T2 Int Int))) Int))) v19 := r26; x_fin (Q := Q) (ps := (fun (r : ((T2 (List (List (T2 Int Int))) Int) × (List Int))) => [(p__law_bag_here, (ml (r.2 : (List Int))))])) (rs := (fun (r : ((T2 (List (List (T2 Int Int))) Int) × (List Int))) => (.imm (enc (r.1 : (T2 (List (List (T2 Int Int))) Int)))))) (e := ((T2.mk ys1.reverse ((3 * a__law_cloth_here.b))), a__law_bag_here)) hm7 kont (L31.fin (hp1 (L31.mrep (i := 1) rfl)) r27)))))))))))
abbrev sp__law_right (K : PySem.W.Frag) : Sp := fun vs H Q _ => ∃ (X : Addr → Prop) (p__law_bag_here : Addr) (a__law_bag_here : (List Int)) (a__law_cloth_here : (T2 (List (List (T2 Int Int))) Int)) (r : (Bool × (List Int))), m__law_right a__law_bag_here a__law_cloth_here = some r ∧ Cond K X H [.mu p__law_bag_here (ml (a__law_bag_here : (List Int))), .imm (enc (a__law_cloth_here : (T2 (List (List (T2 Int Int))) Int)))] vs ∧ ∀ H', Fin K X H [p__law_bag_here] [(p__law_bag_here, (ml (r.2 : (List Int))))] (.imm (.bool r.1)) (.bl r.1) H' → Q (.bl r.1) H'
theorem mk__law_right {K : PySem.W.Frag} {X : Addr → Prop} {H : Hp} {vs : List V} {Q : VK} {E : XK} {p__law_bag_here : Addr} {a__law_bag_here : (List Int)} {a__law_cloth_here : (T2 (List (List (T2 Int Int))) Int)} {r : (Bool × (List Int))} (hm : m__law_right a__law_bag_here a__law_cloth_here = some r) (c : Cond K X H [.mu p__law_bag_here (ml (a__law_bag_here : (List Int))), .imm (enc (a__law_cloth_here : (T2 (List (List (T2 Int Int))) Int)))] vs) (k : ∀ H', Fin K X H [p__law_bag_here] [(p__law_bag_here, (ml (r.2 : (List Int))))] (.imm (.bool r.1)) (.bl r.1) H' → Q (.bl r.1) H') : sp__law_right K vs H Q E := ⟨X, p__law_bag_here, a__law_bag_here, a__law_cloth_here, r, hm, c, k⟩
abbrev n__law_right : List Str := ["_law_bag_here", "_law_cloth_here", "_law_found", "_law_x", "_law_y", "_law_turned_one", "_law_top", "_law_under_it", "_law_leaning", "_law_way", "_law_often", "_law_ring"]
theorem sc__law_right : FnScope n__law_right ["_law_bag_here", "_law_cloth_here"] (defScope s__law_right) := ⟨rfl, rfl, rfl, by decide +kernel, rfl, by decide +kernel, by decide +kernel⟩
theorem ok__law_right (T : Txt K mg) : FnOk P w K mg base CX0 7 T.A__law_right T.D__law_right ["_law_bag_here", "_law_cloth_here"] (sp__law_right K) := by
  refine Fun.ok T.F__law_right sc__law_right (fun vs H Q E h => ?_) (fun cdv A outer s H vs Q E hr h => ?_)
  · obtain ⟨X, p__law_bag_here, a__law_bag_here, a__law_cloth_here, r, hm, c, kont⟩ := h
    exact c.len
  · obtain ⟨X, p__law_bag_here, a__law_bag_here, a__law_cloth_here, r, hm, c, kont⟩ := h
    refine ⟨_, (pss_cons (ps_set (i := 2) sc__law_right.nd rfl (Or.inl rfl) (pe_call (ok_marks T) hr (by rfl) T.g_marks T.F_marks.kp T.b_marks .nil pass0 (pa_cons (pe_call (ok__law_told T) (hr.mono (by decide)) (by rfl) T.g__law_told T.F__law_told.kp T.b__law_told .nil pass0 (pa_cons (pv 1) pa_nil)) pa_nil)))
      (pss_cons (ps_set (i := 3) sc__law_right.nd rfl (Or.inl rfl) (pe_op op_sub (pe_call (ok__law_draw T) (hr.mono (by decide)) (by rfl) T.g__law_draw T.F__law_draw.kp T.b__law_draw .nil pass0 (pa_cons (pv 0) (pa_cons (pe_op op_mul pe_int (pe_op op_pow pe_int pe_int)) pa_nil))) (pe_op op_pow pe_int pe_int)))
      (pss_cons (ps_set (i := 4) sc__law_right.nd rfl (Or.inl rfl) (pe_op op_sub (pe_call (ok__law_draw T) (hr.mono (by decide)) (by rfl) T.g__law_draw T.F__law_draw.kp T.b__law_draw .nil pass0 (pa_cons (pv 0) (pa_cons (pe_op op_mul pe_int (pe_op op_pow pe_int pe_int)) pa_nil))) (pe_op op_pow pe_int pe_int)))
      (pss_cons (ps_if (pt_cmpR (r := rNeD K) (op_neD hr.units) (pe_call (ok_marks T) hr (by rfl) T.g_marks T.F_marks.kp T.b_marks .nil pass0 (pa_cons (pe_call (ok__law_told T) (hr.mono (by decide)) (by rfl) T.g__law_told T.F__law_told.kp T.b__law_told .nil pass0 (pa_cons (pe_call (ok__law_moved T) (hr.mono (by decide)) (by rfl) T.g__law_moved T.F__law_moved.kp T.b__law_moved .nil pass0 (pa_cons (pv 1) (pa_cons pe_int (pa_cons (pv 3) (pa_cons (pv 4) pa_nil))))) pa_nil)) pa_nil)) (pv 2) (nomark _)) (pss_one (ps_ret pe_bl)) pss_nil)
      (pss_cons (ps_if (pt_not (pt_val (pe_call (ok__law_come_to_nothing T) (hr.mono (by decide)) (by rfl) T.g__law_come_to_nothing T.F__law_come_to_nothing.kp T.b__law_come_to_nothing .nil pass0 (pa_cons (pv 2) pa_nil)))) (pss_one (ps_ret pe_bl)) pss_nil)
      (pss_cons (ps_setLc (i := 5) (own := [("_law_way", 9), ("_law_often", 10)])  (g := gTup K 2 (gCons (gName 9) (gCons (gName 10) gNil))) (tt := tYes) rfl sc__law_right.nd rfl rfl (sw_true rfl rfl rfl (by decide +kernel)) (pi_list (pv 2)) (blkOk_by (N := n__law_right) (sc := defScope s__law_right) (by decide +kernel)) (fun _ _ _ _ _ => (pg_tup rfl (pgs_cons (pg_name (i := 9) sc__law_right.nd rfl (Or.inl rfl)) (pgs_cons (pg_name (i := 10) sc__law_right.nd rfl (Or.inl rfl)) pgs_nil)))) (fun _ _ _ _ _ => pts_nil) (fun _ _ _ _ _ => (pe_tup (pa_cons (pv 9) (pa_cons (pe_tup (pa_cons (pe_un un_neg (pe_ix (r := rIxT K) ix_tup (pv 10) pe_int (fun _ _ => rfl))) (pa_cons (pe_ix (r := rIxT K) ix_tup (pv 10) pe_int (fun _ _ => rfl)) pa_nil))) pa_nil)))))
      (pss_cons (ps_if (pt_cmpR (r := rNeD K) (op_neD hr.units) (pe_call (ok_marks T) hr (by rfl) T.g_marks T.F_marks.kp T.b_marks .nil pass0 (pa_cons (pe_call (ok__law_told T) (hr.mono (by decide)) (by rfl) T.g__law_told T.F__law_told.kp T.b__law_told .nil pass0 (pa_cons (pe_call (ok__law_moved T) (hr.mono (by decide)) (by rfl) T.g__law_moved T.F__law_moved.kp T.b__law_moved .nil pass0 (pa_cons (pv 1) (pa_cons (pe_un un_neg pe_int) (pa_cons (pv 3) (pa_cons (pv 4) pa_nil))))) pa_nil)) pa_nil)) (pv 5) (nomark _)) (pss_one (ps_ret pe_bl)) pss_nil)
      (pss_cons (ps_set (i := 6) sc__law_right.nd rfl (Or.inl rfl) (pe_op op_sub (pe_call (ok__law_draw T) (hr.mono (by decide)) (by rfl) T.g__law_draw T.F__law_draw.kp T.b__law_draw .nil pass0 (pa_cons (pv 0) (pa_cons pe_int pa_nil))) pe_int))
      (pss_cons (ps_set (i := 7) sc__law_right.nd rfl (Or.inl rfl) (pe_op op_add pe_int (pe_call (ok__law_draw T) (hr.mono (by decide)) (by rfl) T.g__law_draw T.F__law_draw.kp T.b__law_draw .nil pass0 (pa_cons (pv 0) (pa_cons pe_int pa_nil)))))
      (pss_cons (ps_set (i := 8) sc__law_right.nd rfl (Or.inl rfl) (pe_call (ok__law_told T) (hr.mono (by decide)) (by rfl) T.g__law_told T.F__law_told.kp T.b__law_told .nil pass0 (pa_cons (pe_call (ok__law_tilted T) (hr.mono (by decide)) (by rfl) T.g__law_tilted T.F__law_tilted.kp T.b__law_tilted .nil pass0 (pa_cons (pv 1) (pa_cons (pv 6) (pa_cons (pv 7) pa_nil)))) pa_nil)))
      (pss_cons (ps_if (pt_cmpR (r := rNeD K) (op_neD hr.units) (pe_call (ok_marks T) hr (by rfl) T.g_marks T.F_marks.kp T.b_marks .nil pass0 (pa_cons (pv 8) pa_nil)) (pe_call (ok__law_due T) (hr.mono (by decide)) (by rfl) T.g__law_due T.F__law_due.kp T.b__law_due .nil pass0 (pa_cons (pv 2) (pa_cons (pv 6) (pa_cons (pv 7) pa_nil)))) (nomark _)) (pss_one (ps_ret pe_bl)) pss_nil)
      (pss_cons (ps_if (pt_cmpR op_lt (pe_callB (r := rSum K) (cr_sum rfl) (by rfl) T.z_sum (by decide +kernel) (pa_cons (pe_lc (own := [("_law_ring", 11)]) (g := gName 11) (tt := tYes) rfl sc__law_right.nd (pi_list (pe_ix (r := rIxT K) ix_tup (pv 1) pe_int (fun _ _ => rfl))) (blkOk_by (N := n__law_right) (sc := defScope s__law_right) (by decide +kernel)) (fun _ _ _ _ _ => (pg_name (i := 11) sc__law_right.nd rfl (Or.inl rfl))) (fun _ _ _ _ _ => pts_nil) (fun _ _ _ _ _ => (pe_callB (r := rLenX K) call_lenX (by rfl) T.z_len (by decide +kernel) (pa_cons (pv 11) pa_nil)))) pa_nil)) pe_int (nomark _)) (pss_one (ps_ret (pe_cmpR (r := rEqD K) (op_eqD hr.units) (pe_call (ok_marks T) hr (by rfl) T.g_marks T.F_marks.kp T.b_marks .nil pass0 (pa_cons (pe_call (ok__law_told T) (hr.mono (by decide)) (by rfl) T.g__law_told T.F__law_told.kp T.b__law_told .nil pass0 (pa_cons (pe_call (ok__law_one_more T) (hr.mono (by decide)) (by rfl) T.g__law_one_more T.F__law_one_more.kp T.b__law_one_more .nil pass0 (pa_cons (pv 1) (pa_cons (pv 0) pa_nil))) pa_nil)) pa_nil)) (pv 2) (nomark _)))) pss_nil)
      (pss_one (ps_ret pe_bl)))))))))))))), ?_⟩
    have L0 : Lo ⟨K, X, H, muts [.mu p__law_bag_here (ml (a__law_bag_here : (List Int))), .imm (enc (a__law_cloth_here : (T2 (List (List (T2 Int Int))) Int)))], n__law_right.length⟩ X H (L2.start n__law_right vs) [.mu p__law_bag_here (ml (a__law_bag_here : (List Int))), .imm (enc (a__law_cloth_here : (T2 (List (List (T2 Int Int))) Int))), .unk, .unk, .unk, .unk, .unk, .unk, .unk, .unk, .unk, .unk] := c.start n__law_right (show (2 : Nat) ≤ 12 by decide)
    unfold m__law_right at hm
    refine x_seq (x_asg (x_call (x_cons (x_call (x_cons (x_vd (d := (enc (a__law_cloth_here : (T2 (List (List (T2 Int Int))) Int)))) L0 rfl fun v1 r1 => x_nil (obE hm fun z1 hz1 hm1 => mk__law_told hz1 (L0.cond0 (.im r1 .nil) rfl) fun p1 _ F1 => k0i L0 F1 fun L1 le1 r2 => have r3 : Rep _ _ _ (enc (z1 : (List (List (T3 Int Int Int))))) (.ref p1) := r2; x_nil (obE hm1 fun z2 hz2 hm2 => mk_marks hz2 (L1.cond0 (.im r3 .nil) rfl) fun p2 _ F2 => k0i L1 F2 fun L2 le2 r4 => have r5 : Rep _ _ _ (enc (z2 : (List (T2 (T2 Int Int) (T2 Int Int))))) (.ref p2) := r4; x_set (d := (enc (z2 : (List (T2 (T2 Int Int) (T2 Int Int)))))) (Γ' := [.mu p__law_bag_here (ml (a__law_bag_here : (List Int))), .imm (enc (a__law_cloth_here : (T2 (List (List (T2 Int Int))) Int))), .imm (enc (z2 : (List (T2 (T2 Int Int) (T2 Int Int))))), .unk, .unk, .unk, .unk, .unk, .unk, .unk, .unk, .unk]) L2 r5 (show (2 : Nat) < 12 by decide) rfl fun _ L3 => ?_))))))))
    refine x_seq (x_asg (x_op (x_call (x_cons (x_vm L3 rfl (x_cons (x_op (x_c (x_op (x_c (x_c (x_powc (n := 1000000000) ⟨by decide, by decide, by decide⟩ (by decide +kernel) (x_mulL (by decide) (x_nil (obE hm2 fun z3 hz3 hm3 => mk__law_draw hz3 (L3.cond1 (i := 0) (.m (L3.mrep (i := 0) rfl) (.im (.int _) .nil)) rfl rfl rfl) fun _ F3 => k1 L3 F3 (i := 0) (Γ' := [.mu p__law_bag_here (ml (z3.2 : (List Int))), .imm (enc (a__law_cloth_here : (T2 (List (List (T2 Int Int))) Int))), .imm (enc (z2 : (List (T2 (T2 Int Int) (T2 Int Int))))), .unk, .unk, .unk, .unk, .unk, .unk, .unk, .unk, .unk]) rfl rfl rfl fun L4 le3 => x_op (x_c (x_c (x_powc (n := 1000000000) ⟨by decide, by decide, by decide⟩ (by decide +kernel) (x_r0 (x_bset (x0 := (z3.1 - 1000000000)) (d := fun x_1 => (.int x_1)) (Γf := fun x_1 => [.mu p__law_bag_here (ml (z3.2 : (List Int))), .imm (enc (a__law_cloth_here : (T2 (List (List (T2 Int Int))) Int))), .imm (enc (z2 : (List (T2 (T2 Int Int) (T2 Int Int))))), .imm (.int x_1), .unk, .unk, .unk, .unk, .unk, .unk, .unk, .unk]) hm3 L4 (.int _) (show (3 : Nat) < 12 by decide) (fun _ => rfl) fun x_1 _ hm4 L5 => ?_))))))))))))))))))))
    refine x_seq (x_asg (x_op (x_call (x_cons (x_vm L5 rfl (x_cons (x_op (x_c (x_op (x_c (x_c (x_powc (n := 1000000000) ⟨by decide, by decide, by decide⟩ (by decide +kernel) (x_mulL (by decide) (x_nil (obE hm4 fun z4 hz4 hm5 => mk__law_draw hz4 (L5.cond1 (i := 0) (.m (L5.mrep (i := 0) rfl) (.im (.int _) .nil)) rfl rfl rfl) fun _ F4 => k1 L5 F4 (i := 0) (Γ' := [.mu p__law_bag_here (ml (z4.2 : (List Int))), .imm (enc (a__law_cloth_here : (T2 (List (List (T2 Int Int))) Int))), .imm (enc (z2 : (List (T2 (T2 Int Int) (T2 Int Int))))), .imm (.int x_1), .unk, .unk, .unk, .unk, .unk, .unk, .unk, .unk]) rfl rfl rfl fun L6 le4 => x_op (x_c (x_c (x_powc (n := 1000000000) ⟨by decide, by decide, by decide⟩ (by decide +kernel) (x_r0 (x_bset (x0 := (z4.1 - 1000000000)) (d := fun y_1 => (.int y_1)) (Γf := fun y_1 => [.mu p__law_bag_here (ml (z4.2 : (List Int))), .imm (enc (a__law_cloth_here : (T2 (List (List (T2 Int Int))) Int))), .imm (enc (z2 : (List (T2 (T2 Int Int) (T2 Int Int))))), .imm (.int x_1), .imm (.int y_1), .unk, .unk, .unk, .unk, .unk, .unk, .unk]) hm5 L6 (.int _) (show (4 : Nat) < 12 by decide) (fun _ => rfl) fun y_1 _ hm6 L7 => ?_))))))))))))))))))))
    refine x_seq (x_ifS (x_test (x_op (x_call (x_cons (x_call (x_cons (x_call (x_cons (x_vd (d := (enc (a__law_cloth_here : (T2 (List (List (T2 Int Int))) Int)))) L7 rfl fun v4 r6 => x_cons (x_c (x_cons (x_vI (x := x_1) L7 rfl (x_cons (x_vI (x := y_1) L7 rfl (x_nil (obE hm6 fun z5 hz5 hm7 => mk__law_moved hz5 (L7.cond0 (.im r6 (.im (.int _) (.im (.int _) (.im (.int _) .nil)))) rfl) fun v5 _ F5 => k0d L7 F5 fun L8 le5 r7 => x_nil (obE hm7 fun z6 hz6 hm8 => mk__law_told hz6 (L8.cond0 (.im r7 .nil) rfl) fun p3 _ F6 => k0i L8 F6 fun L9 le6 r8 => have r9 : Rep _ _ _ (enc (z6 : (List (List (T3 Int Int Int))))) (.ref p3) := r8; x_nil (obE hm8 fun z7 hz7 hm9 => mk_marks hz7 (L9.cond0 (.im r9 .nil) rfl) fun p4 _ F7 => k0i L9 F7 fun L10 le7 r10 => have r11 : Rep _ _ _ (enc (z7 : (List (T2 (T2 Int Int) (T2 Int Int))))) (.ref p4) := r10; x_vd (d := (enc (z2 : (List (T2 (T2 Int Int) (T2 Int Int)))))) L10 rfl fun v6 r12 => x_ned (x := z7) (y := z2) r11.dp r12.dp (by decide) (x_kb (x_if hm9 (fun hm10 => ?_) fun hm10 => ?_)))))))))))))))))))))
    · exact x_ret (x_c (x_finB (Q := Q) (ps := (fun (r : (Bool × (List Int))) => [(p__law_bag_here, (ml (r.2 : (List Int))))])) (sc := fun (r : (Bool × (List Int))) => r.1) ((false, z4.2)) hm10 kont (L10.fin (hp1 (L10.mrep (i := 0) rfl)) (.bl _))))
    · refine x_next ?_
      refine x_seq (x_ifS (x_not (x_tB (x_call (x_cons (x_vd (d := (enc (z2 : (List (T2 (T2 Int Int) (T2 Int Int)))))) L10 rfl fun v7 r13 => x_nil (obE hm10 fun z8 hz8 hm11 => mk__law_come_to_nothing hz8 (L10.cond0 (.im r13 .nil) rfl) fun _ F8 => k0 L10 F8 fun L11 le8 => x_kb (x_kn (x_if hm11 (fun hm12 => ?_) fun hm12 => ?_)))))))))
      · exact x_ret (x_c (x_finB (Q := Q) (ps := (fun (r : (Bool × (List Int))) => [(p__law_bag_here, (ml (r.2 : (List Int))))])) (sc := fun (r : (Bool × (List Int))) => r.1) ((false, z4.2)) hm12 kont (L11.fin (hp1 (L11.mrep (i := 0) rfl)) (.bl _))))
      · refine x_next ?_
        refine x_seq (x_asg (x_lcl (x_vd (d := (enc (z2 : (List (T2 (T2 Int Int) (T2 Int Int)))))) L11 rfl fun v9 r14 => obE hm12 fun _ hl1 hm13 => obE hm13 fun ys1 hy1 hm14 => x_lcL (G := (fun (s1 : Unit) => [.mu p__law_bag_here (ml (z4.2 : (List Int))), .imm (enc (a__law_cloth_here : (T2 (List (List (T2 Int Int))) Int))), .imm (enc (z2 : (List (T2 (T2 Int Int) (T2 Int Int))))), .imm (.int x_1), .imm (.int y_1), .unk, .unk, .unk, .unk, .unk, .unk, .unk])) (s0 := ()) (xs := z2) L11 (fun _ _ => rfl) r14 (mapO_comp hy1) (lenOk_le hl1) (fun x1 s1 _ H1 _ u1 _ _ _ hF1 L12 r15 hn1 hy2 => obE hF1 fun y1 hm15 he1 => x_cTup (d1 := (enc (x1.a : (T2 Int Int)))) (d2 := (enc (x1.b : (T2 Int Int)))) (Γ' := [.mu p__law_bag_here (ml (z4.2 : (List Int))), .imm (enc (a__law_cloth_here : (T2 (List (List (T2 Int Int))) Int))), .imm (enc (z2 : (List (T2 (T2 Int Int) (T2 Int Int))))), .imm (.int x_1), .imm (.int y_1), .unk, .unk, .unk, .unk, .imm (enc (x1.a : (T2 Int Int))), .imm (enc (x1.b : (T2 Int Int))), .unk]) L12 r15 (show (9 : Nat) < 12 by decide) (show (10 : Nat) < 12 by decide) (by decide) rfl fun _ L13 => x_yes (x_tup (x_cons (x_vd (d := (enc (x1.a : (T2 Int Int)))) L13 rfl fun v10 r16 => x_cons (x_tup (x_cons (x_un (x_op (x_vd (d := (enc (x1.b : (T2 Int Int)))) L13 rfl fun v11 r17 => x_c (x_ixTI (x := x1.b.a) r17 rfl (x_u (x_cons (x_op (x_vd (d := (enc (x1.b : (T2 Int Int)))) L13 rfl fun v12 r18 => x_c (x_ixTI (x := x1.b.b) r18 rfl (x_nil (x_mkT L13 (.cons (.int _) (.cons (.int _) .nil)) (show (2 : Nat) ≤ 16777216 by decide) fun v13 _ L14 le9 r19 => have r20 := le9 _ _ r16; have r21 : Rep _ _ _ (enc ((T2.mk ((-x1.b.a)) x1.b.b) : (T2 Int Int))) v13 := r19; x_nil (x_mkT L14 (.cons r20 (.cons r21 .nil)) (show (2 : Nat) ≤ 16777216 by decide) fun v14 _ L15 le10 r22 => have r23 : Rep _ _ _ (enc ((T2.mk x1.a ((T2.mk ((-x1.b.a)) x1.b.b))) : (T2 (T2 Int Int) (T2 Int Int)))) v14 := r22; x_cy (G := (fun (s1 : Unit) => [.mu p__law_bag_here (ml (z4.2 : (List Int))), .imm (enc (a__law_cloth_here : (T2 (List (List (T2 Int Int))) Int))), .imm (enc (z2 : (List (T2 (T2 Int Int) (T2 Int Int))))), .imm (.int x_1), .imm (.int y_1), .unk, .unk, .unk, .unk, .unk, .unk, .unk])) (s := s1) (s' := ()) (y := (T2.mk x1.a ((T2.mk ((-x1.b.a)) x1.b.b)))) (by cases hm15; cases he1; rfl) hy2 L12 L15 (.m (.i rfl (.i rfl (.i rfl (.i rfl (.i rfl (.i rfl (.i rfl (.i rfl (.i rfl (.i rfl (.i rfl .e)))))))))))) r23)))))))))))))))))) fun p5 _ L16 le11 r24 => have L17 : Lo _ _ _ _ [.mu p__law_bag_here (ml (z4.2 : (List Int))), .imm (enc (a__law_cloth_here : (T2 (List (List (T2 Int Int))) Int))), .imm (enc (z2 : (List (T2 (T2 Int Int) (T2 Int Int))))), .imm (.int x_1), .imm (.int y_1), .unk, .unk, .unk, .unk, .unk, .unk, .unk] := L16; have r25 : Rep _ _ _ (enc (ys1 : (List (T2 (T2 Int Int) (T2 Int Int))))) (.ref p5) := r24; x_set (d := (enc (ys1 : (List (T2 (T2 Int Int) (T2 Int Int)))))) (Γ' := [.mu p__law_bag_here (ml (z4.2 : (List Int))), .imm (enc (a__law_cloth_here : (T2 (List (List (T2 Int Int))) Int))), .imm (enc (z2 : (List (T2 (T2 Int Int) (T2 Int Int))))), .imm (.int x_1), .imm (.int y_1), .imm (enc (ys1 : (List (T2 (T2 Int Int) (T2 Int Int))))), .unk, .unk, .unk, .unk, .unk, .unk]) L17 r25 (show (5 : Nat) < 12 by decide) rfl fun _ L18 => ?_)))
        refine x_seq (x_ifS (x_test (x_op (x_call (x_cons (x_call (x_cons (x_call (x_cons (x_vd (d := (enc (a__law_cloth_here : (T2 (List (List (T2 Int Int))) Int)))) L18 rfl fun v15 r26 => x_cons (x_un (x_c (x_u (x_cons (x_vI (x := x_1) L18 rfl (x_cons (x_vI (x := y_1) L18 rfl (x_nil (obE hm14 fun z9 hz10 hm16 => mk__law_moved hz10 (L18.cond0 (.im r26 (.im (.int _) (.im (.int _) (.im (.int _) .nil)))) rfl) fun v16 _ F9 => k0d L18 F9 fun L19 le12 r27 => x_nil (obE hm16 fun z10 hz11 hm17 => mk__law_told hz11 (L19.cond0 (.im r27 .nil) rfl) fun p6 _ F10 => k0i L19 F10 fun L20 le13 r28 => have r29 : Rep _ _ _ (enc (z10 : (List (List (T3 Int Int Int))))) (.ref p6) := r28; x_nil (obE hm17 fun z11 hz12 hm18 => mk_marks hz12 (L20.cond0 (.im r29 .nil) rfl) fun p7 _ F11 => k0i L20 F11 fun L21 le14 r30 => have r31 : Rep _ _ _ (enc (z11 : (List (T2 (T2 Int Int) (T2 Int Int))))) (.ref p7) := r30; x_vd (d := (enc (ys1 : (List (T2 (T2 Int Int) (T2 Int Int)))))) L21 rfl fun v17 r32 => x_ned (x := z11) (y := ys1) r31.dp r32.dp (by decide) (x_kb (x_if hm18 (fun hm19 => ?_) fun hm19 => ?_)))))))))))))))))))))))
        · exact x_ret (x_c (x_finB (Q := Q) (ps := (fun (r : (Bool × (List Int))) => [(p__law_bag_here, (ml (r.2 : (List Int))))])) (sc := fun (r : (Bool × (List Int))) => r.1) ((false, z4.2)) hm19 kont (L21.fin (hp1 (L21.mrep (i := 0) rfl)) (.bl _))))
        · refine x_next ?_
          refine x_seq (x_asg (x_op (x_call (x_cons (x_vm L21 rfl (x_cons (x_c (x_nil (obE hm19 fun z12 hz13 hm20 => mk__law_draw hz13 (L21.cond1 (i := 0) (.m (L21.mrep (i := 0) rfl) (.im (.int _) .nil)) rfl rfl rfl) fun _ F12 => k1 L21 F12 (i := 0) (Γ' := [.mu p__law_bag_here (ml (z12.2 : (List Int))), .imm (enc (a__law_cloth_here : (T2 (List (List (T2 Int Int))) Int))), .imm (enc (z2 : (List (T2 (T2 Int Int) (T2 Int Int))))), .imm (.int x_1), .imm (.int y_1), .imm (enc (ys1 : (List (T2 (T2 Int Int) (T2 Int Int))))), .unk, .unk, .unk, .unk, .unk, .unk]) rfl rfl rfl fun L22 le15 => x_c (x_r0 (x_bset (x0 := (z12.1 - 30)) (d := fun top_1 => (.int top_1)) (Γf := fun top_1 => [.mu p__law_bag_here (ml (z12.2 : (List Int))), .imm (enc (a__law_cloth_here : (T2 (List (List (T2 Int Int))) Int))), .imm (enc (z2 : (List (T2 (T2 Int Int) (T2 Int Int))))), .imm (.int x_1), .imm (.int y_1), .imm (enc (ys1 : (List (T2 (T2 Int Int) (T2 Int Int))))), .imm (.int top_1), .unk, .unk, .unk, .unk, .unk]) hm20 L22 (.int _) (show (6 : Nat) < 12 by decide) (fun _ => rfl) fun top_1 _ hm21 L23 => ?_)))))))))))
          refine x_seq (x_asg (x_op (x_c (x_call (x_cons (x_vm L23 rfl (x_cons (x_c (x_nil (obE hm21 fun z13 hz14 hm22 => mk__law_draw hz14 (L23.cond1 (i := 0) (.m (L23.mrep (i := 0) rfl) (.im (.int _) .nil)) rfl rfl rfl) fun _ F13 => k1 L23 F13 (i := 0) (Γ' := [.mu p__law_bag_here (ml (z13.2 : (List Int))), .imm (enc (a__law_cloth_here : (T2 (List (List (T2 Int Int))) Int))), .imm (enc (z2 : (List (T2 (T2 Int Int) (T2 Int Int))))), .imm (.int x_1), .imm (.int y_1), .imm (enc (ys1 : (List (T2 (T2 Int Int) (T2 Int Int))))), .imm (.int top_1), .unk, .unk, .unk, .unk, .unk]) rfl rfl rfl fun L24 le16 => x_r0 (x_bset (x0 := (1 + z13.1)) (d := fun under_it_1 => (.int under_it_1)) (Γf := fun under_it_1 => [.mu p__law_bag_here (ml (z13.2 : (List Int))), .imm (enc (a__law_cloth_here : (T2 (List (List (T2 Int Int))) Int))), .imm (enc (z2 : (List (T2 (T2 Int Int) (T2 Int Int))))), .imm (.int x_1), .imm (.int y_1), .imm (enc (ys1 : (List (T2 (T2 Int Int) (T2 Int Int))))), .imm (.int top_1), .imm (.int under_it_1), .unk, .unk, .unk, .unk]) hm22 L24 (.int _) (show (7 : Nat) < 12 by decide) (fun _ => rfl) fun under_it_1 _ hm23 L25 => ?_)))))))))))
          refine x_seq (x_asg (x_call (x_cons (x_call (x_cons (x_vd (d := (enc (a__law_cloth_here : (T2 (List (List (T2 Int Int))) Int)))) L25 rfl fun v20 r33 => x_cons (x_vI (x := top_1) L25 rfl (x_cons (x_vI (x := under_it_1) L25 rfl (x_nil (obE hm23 fun z14 hz15 hm24 => mk__law_tilted hz15 (L25.cond0 (.im r33 (.im (.int _) (.im (.int _) .nil))) rfl) fun v21 _ F14 => k0d L25 F14 fun L26 le17 r34 => x_nil (obE hm24 fun z15 hz16 hm25 => mk__law_told hz16 (L26.cond0 (.im r34 .nil) rfl) fun p8 _ F15 => k0i L26 F15 fun L27 le18 r35 => have r36 : Rep _ _ _ (enc (z15 : (List (List (T3 Int Int Int))))) (.ref p8) := r35; x_set (d := (enc (z15 : (List (List (T3 Int Int Int)))))) (Γ' := [.mu p__law_bag_here (ml (z13.2 : (List Int))), .imm (enc (a__law_cloth_here : (T2 (List (List (T2 Int Int))) Int))), .imm (enc (z2 : (List (T2 (T2 Int Int) (T2 Int Int))))), .imm (.int x_1), .imm (.int y_1), .imm (enc (ys1 : (List (T2 (T2 Int Int) (T2 Int Int))))), .imm (.int top_1), .imm (.int under_it_1), .imm (enc (z15 : (List (List (T3 Int Int Int))))), .unk, .unk, .unk]) L27 r36 (show (8 : Nat) < 12 by decide) rfl fun _ L28 => ?_))))))))))))
          refine x_seq (x_ifS (x_test (x_op (x_call (x_cons (x_vd (d := (enc (z15 : (List (List (T3 Int Int Int)))))) L28 rfl fun v22 r37 => x_nil (obE hm25 fun z16 hz17 hm26 => mk_marks hz17 (L28.cond0 (.im r37 .nil) rfl) fun p9 _ F16 => k0i L28 F16 fun L29 le19 r38 => have r39 : Rep _ _ _ (enc (z16 : (List (T2 (T2 Int Int) (T2 Int Int))))) (.ref p9) := r38; x_call (x_cons (x_vd (d := (enc (z2 : (List (T2 (T2 Int Int) (T2 Int Int)))))) L29 rfl fun v23 r40 => x_cons (x_vI (x := top_1) L29 rfl (x_cons (x_vI (x := under_it_1) L29 rfl (x_nil (obE hm26 fun z17 hz18 hm27 => mk__law_due hz18 (L29.cond0 (.im r40 (.im (.int _) (.im (.int _) .nil))) rfl) fun p10 _ F17 => k0i L29 F17 fun L30 le20 r41 => have r42 := le20 _ _ r39; have r43 : Rep _ _ _ (enc (z17 : (List (T2 (T2 Int Int) (T2 Int Int))))) (.ref p10) := r41; x_ned (x := z16) (y := z17) r42.dp r43.dp (by decide) (x_kb (x_if hm27 (fun hm28 => ?_) fun hm28 => ?_))))))))))))))))
          · exact x_ret (x_c (x_finB (Q := Q) (ps := (fun (r : (Bool × (List Int))) => [(p__law_bag_here, (ml (r.2 : (List Int))))])) (sc := fun (r : (Bool × (List Int))) => r.1) ((false, z13.2)) hm28 kont (L30.fin (hp1 (L30.mrep (i := 0) rfl)) (.bl _))))
          · refine x_next ?_
            refine x_seq (x_ifS (x_test (x_op (x_cb (x_cons (x_lcl (x_op (x_vd (d := (enc (a__law_cloth_here : (T2 (List (List (T2 Int Int))) Int)))) L30 rfl fun v24 r44 => x_c (x_ixT (d := (enc (a__law_cloth_here.a : (List (List (T2 Int Int)))))) r44 rfl fun v25 r45 => obE hm28 fun _ hl2 hm29 => obE hm29 fun ys2 hy3 hm30 => x_lcL (G := (fun (s2 : Unit) => [.mu p__law_bag_here (ml (z13.2 : (List Int))), .imm (enc (a__law_cloth_here : (T2 (List (List (T2 Int Int))) Int))), .imm (enc (z2 : (List (T2 (T2 Int Int) (T2 Int Int))))), .imm (.int x_1), .imm (.int y_1), .imm (enc (ys1 : (List (T2 (T2 Int Int) (T2 Int Int))))), .imm (.int top_1), .imm (.int under_it_1), .imm (enc (z15 : (List (List (T3 Int Int Int))))), .unk, .unk, .unk])) (s0 := ()) (xs := a__law_cloth_here.a) L30 (fun _ _ => rfl) r45 (mapO_comp hy3) (lenOk_le hl2) (fun x2 s2 _ H2 _ u2 _ _ _ hF2 L31 r46 hn2 hy4 => obE hF2 fun y2 hm31 he2 => x_cName (d := (enc (x2 : (List (T2 Int Int))))) (Γ' := [.mu p__law_bag_here (ml (z13.2 : (List Int))), .imm (enc (a__law_cloth_here : (T2 (List (List (T2 Int Int))) Int))), .imm (enc (z2 : (List (T2 (T2 Int Int) (T2 Int Int))))), .imm (.int x_1), .imm (.int y_1), .imm (enc (ys1 : (List (T2 (T2 Int Int) (T2 Int Int))))), .imm (.int top_1), .imm (.int under_it_1), .imm (enc (z15 : (List (List (T3 Int Int Int))))), .unk, .unk, .imm (enc (x2 : (List (T2 Int Int))))]) L31 r46 (show (11 : Nat) < 12 by decide) rfl fun _ L32 => x_yes (x_cb (x_cons (x_vd (d := (enc (x2 : (List (T2 Int Int))))) L32 rfl fun v26 r47 => x_nil (x_lenL (xs := x2) r47 (x_cy (G := (fun (s2 : Unit) => [.mu p__law_bag_here (ml (z13.2 : (List Int))), .imm (enc (a__law_cloth_here : (T2 (List (List (T2 Int Int))) Int))), .imm (enc (z2 : (List (T2 (T2 Int Int) (T2 Int Int))))), .imm (.int x_1), .imm (.int y_1), .imm (enc (ys1 : (List (T2 (T2 Int Int) (T2 Int Int))))), .imm (.int top_1), .imm (.int under_it_1), .imm (enc (z15 : (List (List (T3 Int Int Int))))), .unk, .unk, .unk])) (s := s2) (s' := ()) (y := (x2.length : Int)) (by cases hm31; cases he2; rfl) hy4 L31 L32 (.m (.i rfl (.i rfl (.i rfl (.i rfl (.i rfl (.i rfl (.i rfl (.i rfl (.i rfl (.i rfl (.i rfl .e)))))))))))) (.int _))))))) fun p11 _ L33 le21 r48 => have L34 : Lo _ _ _ _ [.mu p__law_bag_here (ml (z13.2 : (List Int))), .imm (enc (a__law_cloth_here : (T2 (List (List (T2 Int Int))) Int))), .imm (enc (z2 : (List (T2 (T2 Int Int) (T2 Int Int))))), .imm (.int x_1), .imm (.int y_1), .imm (enc (ys1 : (List (T2 (T2 Int Int) (T2 Int Int))))), .imm (.int top_1), .imm (.int under_it_1), .imm (enc (z15 : (List (List (T3 Int Int Int))))), .unk, .unk, .unk] := L33; have r49 : Rep _ _ _ (enc (ys2 : (List Int))) (.ref p11) := r48; x_nil (x_sum (ns := ys2) r49 (x_c (x_r0 (x_kb (x_if hm30 (fun hm32 => ?_) fun hm32 => ?_))))))))))))))
            · exact x_ret (x_op (x_call (x_cons (x_call (x_cons (x_call (x_cons (x_vd (d := (enc (a__law_cloth_here : (T2 (List (List (T2 Int Int))) Int)))) L34 rfl fun v27 r50 => x_cons (x_vm L34 rfl (x_nil (obE hm32 fun z18 hz20 hm33 => mk__law_one_more hz20 (L34.cond1 (i := 0) (.im r50 (.m (L34.mrep (i := 0) rfl) .nil)) rfl rfl rfl) fun v28 _ F18 => k1d L34 F18 (i := 0) (Γ' := [.mu p__law_bag_here (ml (z18.2 : (List Int))), .imm (enc (a__law_cloth_here : (T2 (List (List (T2 Int Int))) Int))), .imm (enc (z2 : (List (T2 (T2 Int Int) (T2 Int Int))))), .imm (.int x_1), .imm (.int y_1), .imm (enc (ys1 : (List (T2 (T2 Int Int) (T2 Int Int))))), .imm (.int top_1), .imm (.int under_it_1), .imm (enc (z15 : (List (List (T3 Int Int Int))))), .unk, .unk, .unk]) rfl rfl rfl fun L35 le22 r51 => x_nil (obE hm33 fun z19 hz21 hm34 => mk__law_told hz21 (L35.cond0 (.im r51 .nil) rfl) fun p12 _ F19 => k0i L35 F19 fun L36 le23 r52 => have r53 : Rep _ _ _ (enc (z19 : (List (List (T3 Int Int Int))))) (.ref p12) := r52; x_nil (obE hm34 fun z20 hz22 hm35 => mk_marks hz22 (L36.cond0 (.im r53 .nil) rfl) fun p13 _ F20 => k0i L36 F20 fun L37 le24 r54 => have r55 : Rep _ _ _ (enc (z20 : (List (T2 (T2 Int Int) (T2 Int Int))))) (.ref p13) := r54; x_vd (d := (enc (z2 : (List (T2 (T2 Int Int) (T2 Int Int)))))) L37 rfl fun v29 r56 => x_eqd (x := z20) (y := z2) r55.dp r56.dp (by decide) (x_finB (Q := Q) (ps := (fun (r : (Bool × (List Int))) => [(p__law_bag_here, (ml (r.2 : (List Int))))])) (sc := fun (r : (Bool × (List Int))) => r.1) (((decide (z20 = z2)), z18.2)) hm35 kont (L37.fin (hp1 (L37.mrep (i := 0) rfl)) (.bl _))))))))))))))))
            · refine x_next ?_
              exact x_ret (x_c (x_finB (Q := Q) (ps := (fun (r : (Bool × (List Int))) => [(p__law_bag_here, (ml (r.2 : (List Int))))])) (sc := fun (r : (Bool × (List Int))) => r.1) ((true, z13.2)) hm32 kont (L34.fin (hp1 (L34.mrep (i := 0) rfl)) (.bl _))))
abbrev sp_law (K : PySem.W.Frag) : Sp := fun vs H Q _ => ∃ (X : Addr → Prop)  (a__law_script : (List Int)) (r : Bool), m_law a__law_script = some r ∧ Cond K X H [.scr a__law_script] vs ∧ ∀ H', Fin K X H [] [] (.imm (.bool r)) (.bl r) H' → Q (.bl r) H'
theorem mk_law {K : PySem.W.Frag} {X : Addr → Prop} {H : Hp} {vs : List V} {Q : VK} {E : XK}  {a__law_script : (List Int)} {r : Bool} (hm : m_law a__law_script = some r) (c : Cond K X H [.scr a__law_script] vs) (k : ∀ H', Fin K X H [] [] (.imm (.bool r)) (.bl r) H' → Q (.bl r) H') : sp_law K vs H Q E := ⟨X, a__law_script, r, hm, c, k⟩
abbrev n_law : List Str := ["_law_script", "_law_cell_here", "_law_bag_here"]
theorem sc_law : FnScope n_law ["_law_script"] (defScope s_law) := ⟨rfl, rfl, rfl, by decide +kernel, rfl, by decide +kernel, by decide +kernel⟩
theorem ok_law (T : Txt K mg) : FnOk P w K mg base CX0 8 T.A_law T.D_law ["_law_script"] (sp_law K) := by
  refine Fun.ok T.F_law sc_law (fun vs H Q E h => ?_) (fun cdv A outer s H vs Q E hr h => ?_)
  · obtain ⟨X, a__law_script, r, hm, c, kont⟩ := h
    exact c.len
  · obtain ⟨X, a__law_script, r, hm, c, kont⟩ := h
    refine ⟨_, (pss_cons (ps_for PassesOwn.never rfl (pi_list (pe_op op_catR (pe_lst (pa_cons (pe_call (ok__law_cell T) (hr.mono (by decide)) (by rfl) T.g__law_cell T.F__law_cell.kp T.b__law_cell .nil pass0 (pa_cons (pv 0) (pa_cons pe_int pa_nil))) pa_nil)) (pe_slice (r := rSlL K) sl_list (pv 0) (po_some pe_int) (po_some pe_int)))) (pg_name (i := 1) sc_law.nd rfl (Or.inl rfl)) (pss_cons (ps_set (i := 2) sc_law.nd rfl (Or.inl rfl) (pe_call (ok__law_bag T) (hr.mono (by decide)) (by rfl) T.g__law_bag T.F__law_bag.kp T.b__law_bag .nil pass0 (pa_cons (pv 1) pa_nil)))
      (pss_one (ps_if (pt_not (pt_val (pe_call (ok__law_right T) hr (by rfl) T.g__law_right T.F__law_right.kp T.b__law_right .nil pass0 (pa_cons (pv 2) (pa_cons (pe_call (ok__law_cloth T) (hr.mono (by decide)) (by rfl) T.g__law_cloth T.F__law_cloth.kp T.b__law_cloth .nil pass0 (pa_cons (pv 2) pa_nil)) pa_nil))))) (pss_one (ps_ret pe_bl)) pss_nil))))
      (pss_one (ps_ret pe_bl))), ?_⟩
    have L0 : Lo ⟨K, X, H, muts [.scr a__law_script], n_law.length⟩ X H (L2.start n_law vs) [.scr a__law_script, .unk, .unk] := c.start n_law (show (1 : Nat) ≤ 3 by decide)
    unfold m_law at hm
    refine x_seq (x_tforL (x_op (x_lst (x_cons (x_call (x_cons (x_vscr L0 rfl fun v1 r1 => x_cons (x_c (x_nil (obE hm fun z1 hz1 hm1 => mk__law_cell hz1 (L0.cond0 (.s r1 (.im (.int _) .nil)) rfl) fun _ F1 => k0 L0 F1 fun L1 le1 => x_nil (x_mkL L1 (.cons (.int _) .nil) (show (1 : Nat) ≤ 16777216 by decide) fun v3 _ L2 le2 r2 => have r3 : Rep _ _ _ (enc ([z1] : (List Int))) v3 := r2; x_sl (x_vscr L2 rfl fun v4 r4 => x_part (x_c (x_partK (x_part (x_c (x_partK (x_slS L2 r4 fun v5 _ L3 le3 r5 => have r6 := le3 _ _ r3; have r7 : Rep _ _ _ (enc ((slice a__law_script (some 1) (some 6)) : (List Int))) v5 := r5; x_cat L3 hm1 r6 r7 fun v6 _ hm2 L4 le4 r8 => have r9 : Rep _ _ _ (enc (([z1] ++ (slice a__law_script (some 1) (some 6))) : (List Int))) v6 := r8; x_flL (G := (fun (s1 : Unit) => [.scr a__law_script, .unk, .unk])) (s0 := ()) (xs := ([z1] ++ (slice a__law_script (some 1) (some 6)))) (ps := (fun (r : Bool) => [])) (rs := (fun (r : Bool) => (.imm (.bool r)))) (L4.weak (Γ' := [.scr a__law_script, .unk, .unk]) (.k (.k (.k .e)))) (fun _ _ => rfl) r9 hm2 (fun x1 s1 H1 _ u1 _ _ _ _ _ hm3 L5 r10 hN1 hC1 hB1 hR1 => ?_) (fun s2 _ _ hm4 L6 => ?_) (fun _ _ _ hm5 F2 => x_finRB (Q := Q) (ps := (fun (r : Bool) => [])) (sc := fun (r : Bool) => r) hm5 kont F2)))))))))))))))))))
    · refine x_set (d := (.int x1)) (Γ' := [.scr a__law_script, .imm (.int x1), .unk]) L5 r10 (show (1 : Nat) < 3 by decide) rfl fun _ L7 => ?_
      refine x_seq (x_asg (x_call (x_cons (x_vI (x := x1) L7 rfl (x_nil (obE hm3 fun z2 hz2 hm6 => mk__law_bag hz2 (L7.cond0 (.im (.int _) .nil) rfl) fun p1 _ F3 => k0N L7 F3 fun _ h01 hx1 L8 le5 => x_setN (Γ := [.scr a__law_script, .imm (.int x1), .unk]) (p := p1) (o := (ml (z2 : (List Int)))) (Γ' := [.scr a__law_script, .imm (.int x1), .mu p1 (ml (z2 : (List Int)))]) L8 (show (2 : Nat) < 3 by decide) (show (2 : Nat) < 3 by decide) rfl fun _ L9 => ?_))))))
      refine x_ifS (x_not (x_tB (x_call (x_cons (x_vm L9 rfl (x_cons (x_call (x_cons (x_vm L9 rfl (x_nil (obE hm6 fun z3 hz3 hm7 => mk__law_cloth hz3 (L9.cond1 (i := 2) (.m (L9.mrep (i := 2) rfl) .nil) rfl rfl rfl) fun v7 _ F4 => k1d L9 F4 (i := 2) (Γ' := [.scr a__law_script, .imm (.int x1), .mu p1 (ml (z3.2 : (List Int)))]) rfl rfl rfl fun L10 le6 r12 => x_nil (obE hm7 fun z4 hz4 hm8 => mk__law_right hz4 (L10.cond1 (i := 2) (.m (L10.mrep (i := 2) rfl) (.im r12 .nil)) rfl rfl rfl) fun _ F5 => k1 L10 F5 (i := 2) (Γ' := [.scr a__law_script, .imm (.int x1), .mu p1 (ml (z4.2 : (List Int)))]) rfl rfl rfl fun L11 le7 => x_kb (x_kn (x_if hm8 (fun hm9 => ?_) fun hm9 => ?_))))))))))))))
      · exact x_ret (x_c (x_leafR (ps := (fun (r : Bool) => [])) (rs := (fun (r : Bool) => (.imm (.bool r)))) (e := false) hm9 hR1 (L11.fin hp0 (.bl _))))
      · refine x_next ?_
        exact x_leafN (G := (fun (s1 : Unit) => [.scr a__law_script, .unk, .unk])) (e := ()) hm9 hN1 (L11.weak (Γ' := [.scr a__law_script, .unk, .unk]) (.k (.d (.d .e))))
    exact x_ret (x_c (x_finB (Q := Q) (ps := (fun (r : Bool) => [])) (sc := fun (r : Bool) => r) true hm4 kont (L6.fin hp0 (.bl _))))
end
theorem all_mk {l : PySem.W.OpenLaw} {w : World} {K : PySem.W.Frag} {h : Heap} {mg : Str → Option Value} {fa : Addr} (X : K.In h) (G : h.Ns mainGlobals mg) (hfa : mg "law" = some (.ref fa))
    {f0 : Addr} {od0 an0 : Option Addr} {sl0 : Array (Option Value)} {oc0 kV0 dc0 pm0 cd0 ct0 : Value}
    (a0 : PySem.W.nsIn K mainGlobals "_law_cell" = some (some (.ref f0))) (l0 : K.lookup f0 = some ⟨oc0, od0, .func (PySem.W.fnOf "_law_cell" "_law_cell" (defArgs s__law_cell) (defBody s__law_cell) (defScope s__law_cell) .none kV0 dc0 pm0 an0 cd0 ct0), sl0⟩) (c0 : PySem.W.codeIn K cd0 "_law_cell" = true) (k0 : PySem.W.keepIn K (.ref f0) = true)
    {f1 : Addr} {od1 an1 : Option Addr} {sl1 : Array (Option Value)} {oc1 kV1 dc1 pm1 cd1 ct1 : Value}
    (a1 : PySem.W.nsIn K mainGlobals "_law_bag" = some (some (.ref f1))) (l1 : K.lookup f1 = some ⟨oc1, od1, .func (PySem.W.fnOf "_law_bag" "_law_bag" (defArgs s__law_bag) (defBody s__law_bag) (defScope s__law_bag) .none kV1 dc1 pm1 an1 cd1 ct1), sl1⟩) (c1 : PySem.W.codeIn K cd1 "_law_bag" = true) (k1 : PySem.W.keepIn K (.ref f1) = true)
    {f2 : Addr} {od2 an2 : Option Addr} {sl2 : Array (Option Value)} {oc2 kV2 dc2 pm2 cd2 ct2 : Value}
    (a2 : PySem.W.nsIn K mainGlobals "_law_draw" = some (some (.ref f2))) (l2 : K.lookup f2 = some ⟨oc2, od2, .func (PySem.W.fnOf "_law_draw" "_law_draw" (defArgs s__law_draw) (defBody s__law_draw) (defScope s__law_draw) .none kV2 dc2 pm2 an2 cd2 ct2), sl2⟩) (c2 : PySem.W.codeIn K cd2 "_law_draw" = true) (k2 : PySem.W.keepIn K (.ref f2) = true)
    {f3 : Addr} {od3 an3 : Option Addr} {sl3 : Array (Option Value)} {oc3 kV3 dc3 pm3 cd3 ct3 : Value}
    (a3 : PySem.W.nsIn K mainGlobals "_law_star" = some (some (.ref f3))) (l3 : K.lookup f3 = some ⟨oc3, od3, .func (PySem.W.fnOf "_law_star" "_law_star" (defArgs s__law_star) (defBody s__law_star) (defScope s__law_star) .none kV3 dc3 pm3 an3 cd3 ct3), sl3⟩) (c3 : PySem.W.codeIn K cd3 "_law_star" = true) (k3 : PySem.W.keepIn K (.ref f3) = true)
    {f4 : Addr} {od4 an4 : Option Addr} {sl4 : Array (Option Value)} {oc4 kV4 dc4 pm4 cd4 ct4 : Value}
    (a4 : PySem.W.nsIn K mainGlobals "_law_steps" = some (some (.ref f4))) (l4 : K.lookup f4 = some ⟨oc4, od4, .func (PySem.W.fnOf "_law_steps" "_law_steps" (defArgs s__law_steps) (defBody s__law_steps) (defScope s__law_steps) .none kV4 dc4 pm4 an4 cd4 ct4), sl4⟩) (c4 : PySem.W.codeIn K cd4 "_law_steps" = true) (k4 : PySem.W.keepIn K (.ref f4) = true)
    {f5 : Addr} {od5 an5 : Option Addr} {sl5 : Array (Option Value)} {oc5 kV5 dc5 pm5 cd5 ct5 : Value}
    (a5 : PySem.W.nsIn K mainGlobals "_law_rings" = some (some (.ref f5))) (l5 : K.lookup f5 = some ⟨oc5, od5, .func (PySem.W.fnOf "_law_rings" "_law_rings" (defArgs s__law_rings) (defBody s__law_rings) (defScope s__law_rings) .none kV5 dc5 pm5 an5 cd5 ct5), sl5⟩) (c5 : PySem.W.codeIn K cd5 "_law_rings" = true) (k5 : PySem.W.keepIn K (.ref f5) = true)
    {f6 : Addr} {od6 an6 : Option Addr} {sl6 : Array (Option Value)} {oc6 kV6 dc6 pm6 cd6 ct6 : Value}
    (a6 : PySem.W.nsIn K mainGlobals "_law_cloth" = some (some (.ref f6))) (l6 : K.lookup f6 = some ⟨oc6, od6, .func (PySem.W.fnOf "_law_cloth" "_law_cloth" (defArgs s__law_cloth) (defBody s__law_cloth) (defScope s__law_cloth) .none kV6 dc6 pm6 an6 cd6 ct6), sl6⟩) (c6 : PySem.W.codeIn K cd6 "_law_cloth" = true) (k6 : PySem.W.keepIn K (.ref f6) = true)
    {f7 : Addr} {od7 an7 : Option Addr} {sl7 : Array (Option Value)} {oc7 kV7 dc7 pm7 cd7 ct7 : Value}
    (a7 : PySem.W.nsIn K mainGlobals "_law_measure" = some (some (.ref f7))) (l7 : K.lookup f7 = some ⟨oc7, od7, .func (PySem.W.fnOf "_law_measure" "_law_measure" (defArgs s__law_measure) (defBody s__law_measure) (defScope s__law_measure) .none kV7 dc7 pm7 an7 cd7 ct7), sl7⟩) (c7 : PySem.W.codeIn K cd7 "_law_measure" = true) (k7 : PySem.W.keepIn K (.ref f7) = true)
    {f8 : Addr} {od8 an8 : Option Addr} {sl8 : Array (Option Value)} {oc8 kV8 dc8 pm8 cd8 ct8 : Value}
    (a8 : PySem.W.nsIn K mainGlobals "_law_spot" = some (some (.ref f8))) (l8 : K.lookup f8 = some ⟨oc8, od8, .func (PySem.W.fnOf "_law_spot" "_law_spot" (defArgs s__law_spot) (defBody s__law_spot) (defScope s__law_spot) .none kV8 dc8 pm8 an8 cd8 ct8), sl8⟩) (c8 : PySem.W.codeIn K cd8 "_law_spot" = true) (k8 : PySem.W.keepIn K (.ref f8) = true)
    {f9 : Addr} {od9 an9 : Option Addr} {sl9 : Array (Option Value)} {oc9 kV9 dc9 pm9 cd9 ct9 : Value}
    (a9 : PySem.W.nsIn K mainGlobals "_law_told" = some (some (.ref f9))) (l9 : K.lookup f9 = some ⟨oc9, od9, .func (PySem.W.fnOf "_law_told" "_law_told" (defArgs s__law_told) (defBody s__law_told) (defScope s__law_told) .none kV9 dc9 pm9 an9 cd9 ct9), sl9⟩) (c9 : PySem.W.codeIn K cd9 "_law_told" = true) (k9 : PySem.W.keepIn K (.ref f9) = true)
    {f10 : Addr} {od10 an10 : Option Addr} {sl10 : Array (Option Value)} {oc10 kV10 dc10 pm10 cd10 ct10 : Value}
    (a10 : PySem.W.nsIn K mainGlobals "greatest_divisor" = some (some (.ref f10))) (l10 : K.lookup f10 = some ⟨oc10, od10, .func (PySem.W.fnOf "greatest_divisor" "greatest_divisor" (defArgs s_greatest_divisor) (defBody s_greatest_divisor) (defScope s_greatest_divisor) .none kV10 dc10 pm10 an10 cd10 ct10), sl10⟩) (c10 : PySem.W.codeIn K cd10 "greatest_divisor" = true) (k10 : PySem.W.keepIn K (.ref f10) = true)
    {f11 : Addr} {od11 an11 : Option Addr} {sl11 : Array (Option Value)} {oc11 kV11 dc11 pm11 cd11 ct11 : Value}
    (a11 : PySem.W.nsIn K mainGlobals "point" = some (some (.ref f11))) (l11 : K.lookup f11 = some ⟨oc11, od11, .func (PySem.W.fnOf "point" "point" (defArgs s_point) (defBody s_point) (defScope s_point) .none kV11 dc11 pm11 an11 cd11 ct11), sl11⟩) (c11 : PySem.W.codeIn K cd11 "point" = true) (k11 : PySem.W.keepIn K (.ref f11) = true)
    {f12 : Addr} {od12 an12 : Option Addr} {sl12 : Array (Option Value)} {oc12 kV12 dc12 pm12 cd12 ct12 : Value}
    (a12 : PySem.W.nsIn K mainGlobals "step_to" = some (some (.ref f12))) (l12 : K.lookup f12 = some ⟨oc12, od12, .func (PySem.W.fnOf "step_to" "step_to" (defArgs s_step_to) (defBody s_step_to) (defScope s_step_to) .none kV12 dc12 pm12 an12 cd12 ct12), sl12⟩) (c12 : PySem.W.codeIn K cd12 "step_to" = true) (k12 : PySem.W.keepIn K (.ref f12) = true)
    {f13 : Addr} {od13 an13 : Option Addr} {sl13 : Array (Option Value)} {oc13 kV13 dc13 pm13 cd13 ct13 : Value}
    (a13 : PySem.W.nsIn K mainGlobals "common_of" = some (some (.ref f13))) (l13 : K.lookup f13 = some ⟨oc13, od13, .func (PySem.W.fnOf "common_of" "common_of" (defArgs s_common_of) (defBody s_common_of) (defScope s_common_of) .none kV13 dc13 pm13 an13 cd13 ct13), sl13⟩) (c13 : PySem.W.codeIn K cd13 "common_of" = true) (k13 : PySem.W.keepIn K (.ref f13) = true)
    {f14 : Addr} {od14 an14 : Option Addr} {sl14 : Array (Option Value)} {oc14 kV14 dc14 pm14 cd14 ct14 : Value}
    (a14 : PySem.W.nsIn K mainGlobals "ratio" = some (some (.ref f14))) (l14 : K.lookup f14 = some ⟨oc14, od14, .func (PySem.W.fnOf "ratio" "ratio" (defArgs s_ratio) (defBody s_ratio) (defScope s_ratio) .none kV14 dc14 pm14 an14 cd14 ct14), sl14⟩) (c14 : PySem.W.codeIn K cd14 "ratio" = true) (k14 : PySem.W.keepIn K (.ref f14) = true)
    {f15 : Addr} {od15 an15 : Option Addr} {sl15 : Array (Option Value)} {oc15 kV15 dc15 pm15 cd15 ct15 : Value}
    (a15 : PySem.W.nsIn K mainGlobals "way_of" = some (some (.ref f15))) (l15 : K.lookup f15 = some ⟨oc15, od15, .func (PySem.W.fnOf "way_of" "way_of" (defArgs s_way_of) (defBody s_way_of) (defScope s_way_of) .none kV15 dc15 pm15 an15 cd15 ct15), sl15⟩) (c15 : PySem.W.codeIn K cd15 "way_of" = true) (k15 : PySem.W.keepIn K (.ref f15) = true)
    {f16 : Addr} {od16 an16 : Option Addr} {sl16 : Array (Option Value)} {oc16 kV16 dc16 pm16 cd16 ct16 : Value}
    (a16 : PySem.W.nsIn K mainGlobals "ways_of_sides" = some (some (.ref f16))) (l16 : K.lookup f16 = some ⟨oc16, od16, .func (PySem.W.fnOf "ways_of_sides" "ways_of_sides" (defArgs s_ways_of_sides) (defBody s_ways_of_sides) (defScope s_ways_of_sides) .none kV16 dc16 pm16 an16 cd16 ct16), sl16⟩) (c16 : PySem.W.codeIn K cd16 "ways_of_sides" = true) (k16 : PySem.W.keepIn K (.ref f16) = true)
    {f17 : Addr} {od17 an17 : Option Addr} {sl17 : Array (Option Value)} {oc17 kV17 dc17 pm17 cd17 ct17 : Value}
    (a17 : PySem.W.nsIn K mainGlobals "plus" = some (some (.ref f17))) (l17 : K.lookup f17 = some ⟨oc17, od17, .func (PySem.W.fnOf "plus" "plus" (defArgs s_plus) (defBody s_plus) (defScope s_plus) .none kV17 dc17 pm17 an17 cd17 ct17), sl17⟩) (c17 : PySem.W.codeIn K cd17 "plus" = true) (k17 : PySem.W.keepIn K (.ref f17) = true)
    {f18 : Addr} {od18 an18 : Option Addr} {sl18 : Array (Option Value)} {oc18 kV18 dc18 pm18 cd18 ct18 : Value}
    (a18 : PySem.W.nsIn K mainGlobals "mark_sums" = some (some (.ref f18))) (l18 : K.lookup f18 = some ⟨oc18, od18, .func (PySem.W.fnOf "mark_sums" "mark_sums" (defArgs s_mark_sums) (defBody s_mark_sums) (defScope s_mark_sums) .none kV18 dc18 pm18 an18 cd18 ct18), sl18⟩) (c18 : PySem.W.codeIn K cd18 "mark_sums" = true) (k18 : PySem.W.keepIn K (.ref f18) = true)
    {f19 : Addr} {od19 an19 : Option Addr} {sl19 : Array (Option Value)} {oc19 kV19 dc19 pm19 cd19 ct19 : Value}
    (a19 : PySem.W.nsIn K mainGlobals "marks" = some (some (.ref f19))) (l19 : K.lookup f19 = some ⟨oc19, od19, .func (PySem.W.fnOf "marks" "marks" (defArgs s_marks) (defBody s_marks) (defScope s_marks) .none kV19 dc19 pm19 an19 cd19 ct19), sl19⟩) (c19 : PySem.W.codeIn K cd19 "marks" = true) (k19 : PySem.W.keepIn K (.ref f19) = true)
    {f20 : Addr} {od20 an20 : Option Addr} {sl20 : Array (Option Value)} {oc20 kV20 dc20 pm20 cd20 ct20 : Value}
    (a20 : PySem.W.nsIn K mainGlobals "_law_moved" = some (some (.ref f20))) (l20 : K.lookup f20 = some ⟨oc20, od20, .func (PySem.W.fnOf "_law_moved" "_law_moved" (defArgs s__law_moved) (defBody s__law_moved) (defScope s__law_moved) .none kV20 dc20 pm20 an20 cd20 ct20), sl20⟩) (c20 : PySem.W.codeIn K cd20 "_law_moved" = true) (k20 : PySem.W.keepIn K (.ref f20) = true)
    {f21 : Addr} {od21 an21 : Option Addr} {sl21 : Array (Option Value)} {oc21 kV21 dc21 pm21 cd21 ct21 : Value}
    (a21 : PySem.W.nsIn K mainGlobals "_law_come_to_nothing" = some (some (.ref f21))) (l21 : K.lookup f21 = some ⟨oc21, od21, .func (PySem.W.fnOf "_law_come_to_nothing" "_law_come_to_nothing" (defArgs s__law_come_to_nothing) (defBody s__law_come_to_nothing) (defScope s__law_come_to_nothing) .none kV21 dc21 pm21 an21 cd21 ct21), sl21⟩) (c21 : PySem.W.codeIn K cd21 "_law_come_to_nothing" = true) (k21 : PySem.W.keepIn K (.ref f21) = true)
    {f22 : Addr} {od22 an22 : Option Addr} {sl22 : Array (Option Value)} {oc22 kV22 dc22 pm22 cd22 ct22 : Value}
    (a22 : PySem.W.nsIn K mainGlobals "_law_tilted" = some (some (.ref f22))) (l22 : K.lookup f22 = some ⟨oc22, od22, .func (PySem.W.fnOf "_law_tilted" "_law_tilted" (defArgs s__law_tilted) (defBody s__law_tilted) (defScope s__law_tilted) .none kV22 dc22 pm22 an22 cd22 ct22), sl22⟩) (c22 : PySem.W.codeIn K cd22 "_law_tilted" = true) (k22 : PySem.W.keepIn K (.ref f22) = true)
    {f23 : Addr} {od23 an23 : Option Addr} {sl23 : Array (Option Value)} {oc23 kV23 dc23 pm23 cd23 ct23 : Value}
    (a23 : PySem.W.nsIn K mainGlobals "_law_way_tilted" = some (some (.ref f23))) (l23 : K.lookup f23 = some ⟨oc23, od23, .func (PySem.W.fnOf "_law_way_tilted" "_law_way_tilted" (defArgs s__law_way_tilted) (defBody s__law_way_tilted) (defScope s__law_way_tilted) .none kV23 dc23 pm23 an23 cd23 ct23), sl23⟩) (c23 : PySem.W.codeIn K cd23 "_law_way_tilted" = true) (k23 : PySem.W.keepIn K (.ref f23) = true)
    {f24 : Addr} {od24 an24 : Option Addr} {sl24 : Array (Option Value)} {oc24 kV24 dc24 pm24 cd24 ct24 : Value}
    (a24 : PySem.W.nsIn K mainGlobals "_law_low" = some (some (.ref f24))) (l24 : K.lookup f24 = some ⟨oc24, od24, .func (PySem.W.fnOf "_law_low" "_law_low" (defArgs s__law_low) (defBody s__law_low) (defScope s__law_low) .none kV24 dc24 pm24 an24 cd24 ct24), sl24⟩) (c24 : PySem.W.codeIn K cd24 "_law_low" = true) (k24 : PySem.W.keepIn K (.ref f24) = true)
    {f25 : Addr} {od25 an25 : Option Addr} {sl25 : Array (Option Value)} {oc25 kV25 dc25 pm25 cd25 ct25 : Value}
    (a25 : PySem.W.nsIn K mainGlobals "_law_due" = some (some (.ref f25))) (l25 : K.lookup f25 = some ⟨oc25, od25, .func (PySem.W.fnOf "_law_due" "_law_due" (defArgs s__law_due) (defBody s__law_due) (defScope s__law_due) .none kV25 dc25 pm25 an25 cd25 ct25), sl25⟩) (c25 : PySem.W.codeIn K cd25 "_law_due" = true) (k25 : PySem.W.keepIn K (.ref f25) = true)
    {f26 : Addr} {od26 an26 : Option Addr} {sl26 : Array (Option Value)} {oc26 kV26 dc26 pm26 cd26 ct26 : Value}
    (a26 : PySem.W.nsIn K mainGlobals "_law_one_more" = some (some (.ref f26))) (l26 : K.lookup f26 = some ⟨oc26, od26, .func (PySem.W.fnOf "_law_one_more" "_law_one_more" (defArgs s__law_one_more) (defBody s__law_one_more) (defScope s__law_one_more) .none kV26 dc26 pm26 an26 cd26 ct26), sl26⟩) (c26 : PySem.W.codeIn K cd26 "_law_one_more" = true) (k26 : PySem.W.keepIn K (.ref f26) = true)
    {f27 : Addr} {od27 an27 : Option Addr} {sl27 : Array (Option Value)} {oc27 kV27 dc27 pm27 cd27 ct27 : Value}
    (a27 : PySem.W.nsIn K mainGlobals "_law_right" = some (some (.ref f27))) (l27 : K.lookup f27 = some ⟨oc27, od27, .func (PySem.W.fnOf "_law_right" "_law_right" (defArgs s__law_right) (defBody s__law_right) (defScope s__law_right) .none kV27 dc27 pm27 an27 cd27 ct27), sl27⟩) (c27 : PySem.W.codeIn K cd27 "_law_right" = true) (k27 : PySem.W.keepIn K (.ref f27) = true)
    {f28 : Addr} {od28 an28 : Option Addr} {sl28 : Array (Option Value)} {oc28 kV28 dc28 pm28 cd28 ct28 : Value}
    (a28 : PySem.W.nsIn K mainGlobals "law" = some (some (.ref f28))) (l28 : K.lookup f28 = some ⟨oc28, od28, .func (PySem.W.fnOf "law" "law" (defArgs s_law) (defBody s_law) (defScope s_law) .none kV28 dc28 pm28 an28 cd28 ct28), sl28⟩) (c28 : PySem.W.codeIn K cd28 "law" = true) (k28 : PySem.W.keepIn K (.ref f28) = true)
    (z_abs : PySem.W.nsIn K mainGlobals "abs" = some none)
    (z_len : PySem.W.nsIn K mainGlobals "len" = some none)
    (z_range : PySem.W.nsIn K mainGlobals "range" = some none)
    (z_sorted : PySem.W.nsIn K mainGlobals "sorted" = some none)
    (z_sum : PySem.W.nsIn K mainGlobals "sum" = some none)
    {a_NOTHING : Addr} {d_NOTHING : Option Addr} {n_NOTHING_ : Nat} {s_NOTHING_ : Array (Option Value)} {u0_NOTHING : Tok} {u1_NOTHING : Tok} (c_NOTHING : PySem.W.nsIn K mainGlobals "NOTHING" = some (some (.ref a_NOTHING)))
    (l_NOTHING : K.lookup a_NOTHING = some ⟨.type "tuple", d_NOTHING, .seq #[.int (0) u0_NOTHING, .int (1) u1_NOTHING] n_NOTHING_, s_NOTHING_⟩)
    : ∃ fd : FuncData, (∀ (s : Shared) (v : Value), BindsTo s fd ⟨[v], []⟩ [("_law_script", v)]) ∧ ∀ base : Heap, K.In base → base.Ns mainGlobals mg → FnOk l.prog w K mg base CX0 8 fa fd ["_law_script"] (sp_law K) := by
  have e := hfa.symm.trans (PySem.W.mg_of X G a28)
  cases e
  let T : Txt K mg := {
    A__law_cell := f0, D__law_cell := PySem.W.fnOf "_law_cell" "_law_cell" (defArgs s__law_cell) (defBody s__law_cell) (defScope s__law_cell) .none kV0 dc0 pm0 an0 cd0 ct0, F__law_cell := fun_mk (st := s__law_cell) l0 c0 k0, g__law_cell := PySem.W.mg_of X G a0, b__law_cell := (fun_mk (st := s__law_cell) l0 c0 k0).binds (ps := ["_law_script", "_law_k"]) fun _ _ _ _ _ _ us hl => match us, hl with | [_, _], _ => rfl,
    A__law_bag := f1, D__law_bag := PySem.W.fnOf "_law_bag" "_law_bag" (defArgs s__law_bag) (defBody s__law_bag) (defScope s__law_bag) .none kV1 dc1 pm1 an1 cd1 ct1, F__law_bag := fun_mk (st := s__law_bag) l1 c1 k1, g__law_bag := PySem.W.mg_of X G a1, b__law_bag := (fun_mk (st := s__law_bag) l1 c1 k1).binds (ps := ["_law_cell_here"]) fun _ _ _ _ _ _ us hl => match us, hl with | [_], _ => rfl,
    A__law_draw := f2, D__law_draw := PySem.W.fnOf "_law_draw" "_law_draw" (defArgs s__law_draw) (defBody s__law_draw) (defScope s__law_draw) .none kV2 dc2 pm2 an2 cd2 ct2, F__law_draw := fun_mk (st := s__law_draw) l2 c2 k2, g__law_draw := PySem.W.mg_of X G a2, b__law_draw := (fun_mk (st := s__law_draw) l2 c2 k2).binds (ps := ["_law_bag_here", "_law_many"]) fun _ _ _ _ _ _ us hl => match us, hl with | [_, _], _ => rfl,
    A__law_star := f3, D__law_star := PySem.W.fnOf "_law_star" "_law_star" (defArgs s__law_star) (defBody s__law_star) (defScope s__law_star) .none kV3 dc3 pm3 an3 cd3 ct3, F__law_star := fun_mk (st := s__law_star) l3 c3 k3, g__law_star := PySem.W.mg_of X G a3, b__law_star := (fun_mk (st := s__law_star) l3 c3 k3).binds (ps := ["_law_bag_here", "_law_most", "_law_far"]) fun _ _ _ _ _ _ us hl => match us, hl with | [_, _, _], _ => rfl,
    A__law_steps := f4, D__law_steps := PySem.W.fnOf "_law_steps" "_law_steps" (defArgs s__law_steps) (defBody s__law_steps) (defScope s__law_steps) .none kV4 dc4 pm4 an4 cd4 ct4, F__law_steps := fun_mk (st := s__law_steps) l4 c4 k4, g__law_steps := PySem.W.mg_of X G a4, b__law_steps := (fun_mk (st := s__law_steps) l4 c4 k4).binds (ps := ["_law_bag_here", "_law_far"]) fun _ _ _ _ _ _ us hl => match us, hl with | [_, _], _ => rfl,
    A__law_rings := f5, D__law_rings := PySem.W.fnOf "_law_rings" "_law_rings" (defArgs s__law_rings) (defBody s__law_rings) (defScope s__law_rings) .none kV5 dc5 pm5 an5 cd5 ct5, F__law_rings := fun_mk (st := s__law_rings) l5 c5 k5, g__law_rings := PySem.W.mg_of X G a5, b__law_rings := (fun_mk (st := s__law_rings) l5 c5 k5).binds (ps := ["_law_bag_here", "_law_far"]) fun _ _ _ _ _ _ us hl => match us, hl with | [_, _], _ => rfl,
    A__law_cloth := f6, D__law_cloth := PySem.W.fnOf "_law_cloth" "_law_cloth" (defArgs s__law_cloth) (defBody s__law_cloth) (defScope s__law_cloth) .none kV6 dc6 pm6 an6 cd6 ct6, F__law_cloth := fun_mk (st := s__law_cloth) l6 c6 k6, g__law_cloth := PySem.W.mg_of X G a6, b__law_cloth := (fun_mk (st := s__law_cloth) l6 c6 k6).binds (ps := ["_law_bag_here"]) fun _ _ _ _ _ _ us hl => match us, hl with | [_], _ => rfl,
    A__law_measure := f7, D__law_measure := PySem.W.fnOf "_law_measure" "_law_measure" (defArgs s__law_measure) (defBody s__law_measure) (defScope s__law_measure) .none kV7 dc7 pm7 an7 cd7 ct7, F__law_measure := fun_mk (st := s__law_measure) l7 c7 k7, g__law_measure := PySem.W.mg_of X G a7, b__law_measure := (fun_mk (st := s__law_measure) l7 c7 k7).binds (ps := ["_law_one", "_law_other"]) fun _ _ _ _ _ _ us hl => match us, hl with | [_, _], _ => rfl,
    A__law_spot := f8, D__law_spot := PySem.W.fnOf "_law_spot" "_law_spot" (defArgs s__law_spot) (defBody s__law_spot) (defScope s__law_spot) .none kV8 dc8 pm8 an8 cd8 ct8, F__law_spot := fun_mk (st := s__law_spot) l8 c8 k8, g__law_spot := PySem.W.mg_of X G a8, b__law_spot := (fun_mk (st := s__law_spot) l8 c8 k8).binds (ps := ["_law_x", "_law_y", "_law_bottom"]) fun _ _ _ _ _ _ us hl => match us, hl with | [_, _, _], _ => rfl,
    A__law_told := f9, D__law_told := PySem.W.fnOf "_law_told" "_law_told" (defArgs s__law_told) (defBody s__law_told) (defScope s__law_told) .none kV9 dc9 pm9 an9 cd9 ct9, F__law_told := fun_mk (st := s__law_told) l9 c9 k9, g__law_told := PySem.W.mg_of X G a9, b__law_told := (fun_mk (st := s__law_told) l9 c9 k9).binds (ps := ["_law_cloth_here"]) fun _ _ _ _ _ _ us hl => match us, hl with | [_], _ => rfl,
    A_greatest_divisor := f10, D_greatest_divisor := PySem.W.fnOf "greatest_divisor" "greatest_divisor" (defArgs s_greatest_divisor) (defBody s_greatest_divisor) (defScope s_greatest_divisor) .none kV10 dc10 pm10 an10 cd10 ct10, F_greatest_divisor := fun_mk (st := s_greatest_divisor) l10 c10 k10, g_greatest_divisor := PySem.W.mg_of X G a10, b_greatest_divisor := (fun_mk (st := s_greatest_divisor) l10 c10 k10).binds (ps := ["a", "b"]) fun _ _ _ _ _ _ us hl => match us, hl with | [_, _], _ => rfl,
    A_point := f11, D_point := PySem.W.fnOf "point" "point" (defArgs s_point) (defBody s_point) (defScope s_point) .none kV11 dc11 pm11 an11 cd11 ct11, F_point := fun_mk (st := s_point) l11 c11 k11, g_point := PySem.W.mg_of X G a11, b_point := (fun_mk (st := s_point) l11 c11 k11).binds (ps := ["a", "b", "n"]) fun _ _ _ _ _ _ us hl => match us, hl with | [_, _, _], _ => rfl,
    A_step_to := f12, D_step_to := PySem.W.fnOf "step_to" "step_to" (defArgs s_step_to) (defBody s_step_to) (defScope s_step_to) .none kV12 dc12 pm12 an12 cd12 ct12, F_step_to := fun_mk (st := s_step_to) l12 c12 k12, g_step_to := PySem.W.mg_of X G a12, b_step_to := (fun_mk (st := s_step_to) l12 c12 k12).binds (ps := ["p", "q"]) fun _ _ _ _ _ _ us hl => match us, hl with | [_, _], _ => rfl,
    A_common_of := f13, D_common_of := PySem.W.fnOf "common_of" "common_of" (defArgs s_common_of) (defBody s_common_of) (defScope s_common_of) .none kV13 dc13 pm13 an13 cd13 ct13, F_common_of := fun_mk (st := s_common_of) l13 c13 k13, g_common_of := PySem.W.mg_of X G a13, b_common_of := (fun_mk (st := s_common_of) l13 c13 k13).binds (ps := ["one", "other"]) fun _ _ _ _ _ _ us hl => match us, hl with | [_, _], _ => rfl,
    A_ratio := f14, D_ratio := PySem.W.fnOf "ratio" "ratio" (defArgs s_ratio) (defBody s_ratio) (defScope s_ratio) .none kV14 dc14 pm14 an14 cd14 ct14, F_ratio := fun_mk (st := s_ratio) l14 c14 k14, g_ratio := PySem.W.mg_of X G a14, b_ratio := (fun_mk (st := s_ratio) l14 c14 k14).binds (ps := ["top", "bottom"]) fun _ _ _ _ _ _ us hl => match us, hl with | [_, _], _ => rfl,
    A_way_of := f15, D_way_of := PySem.W.fnOf "way_of" "way_of" (defArgs s_way_of) (defBody s_way_of) (defScope s_way_of) .none kV15 dc15 pm15 an15 cd15 ct15, F_way_of := fun_mk (st := s_way_of) l15 c15 k15, g_way_of := PySem.W.mg_of X G a15, b_way_of := (fun_mk (st := s_way_of) l15 c15 k15).binds (ps := ["step"]) fun _ _ _ _ _ _ us hl => match us, hl with | [_], _ => rfl,
    A_ways_of_sides := f16, D_ways_of_sides := PySem.W.fnOf "ways_of_sides" "ways_of_sides" (defArgs s_ways_of_sides) (defBody s_ways_of_sides) (defScope s_ways_of_sides) .none kV16 dc16 pm16 an16 cd16 ct16, F_ways_of_sides := fun_mk (st := s_ways_of_sides) l16 c16 k16, g_ways_of_sides := PySem.W.mg_of X G a16, b_ways_of_sides := (fun_mk (st := s_ways_of_sides) l16 c16 k16).binds (ps := ["cloth"]) fun _ _ _ _ _ _ us hl => match us, hl with | [_], _ => rfl,
    A_plus := f17, D_plus := PySem.W.fnOf "plus" "plus" (defArgs s_plus) (defBody s_plus) (defScope s_plus) .none kV17 dc17 pm17 an17 cd17 ct17, F_plus := fun_mk (st := s_plus) l17 c17 k17, g_plus := PySem.W.mg_of X G a17, b_plus := (fun_mk (st := s_plus) l17 c17 k17).binds (ps := ["one", "other"]) fun _ _ _ _ _ _ us hl => match us, hl with | [_, _], _ => rfl,
    A_mark_sums := f18, D_mark_sums := PySem.W.fnOf "mark_sums" "mark_sums" (defArgs s_mark_sums) (defBody s_mark_sums) (defScope s_mark_sums) .none kV18 dc18 pm18 an18 cd18 ct18, F_mark_sums := fun_mk (st := s_mark_sums) l18 c18 k18, g_mark_sums := PySem.W.mg_of X G a18, b_mark_sums := (fun_mk (st := s_mark_sums) l18 c18 k18).binds (ps := ["cloth"]) fun _ _ _ _ _ _ us hl => match us, hl with | [_], _ => rfl,
    A_marks := f19, D_marks := PySem.W.fnOf "marks" "marks" (defArgs s_marks) (defBody s_marks) (defScope s_marks) .none kV19 dc19 pm19 an19 cd19 ct19, F_marks := fun_mk (st := s_marks) l19 c19 k19, g_marks := PySem.W.mg_of X G a19, b_marks := (fun_mk (st := s_marks) l19 c19 k19).binds (ps := ["cloth"]) fun _ _ _ _ _ _ us hl => match us, hl with | [_], _ => rfl,
    A__law_moved := f20, D__law_moved := PySem.W.fnOf "_law_moved" "_law_moved" (defArgs s__law_moved) (defBody s__law_moved) (defScope s__law_moved) .none kV20 dc20 pm20 an20 cd20 ct20, F__law_moved := fun_mk (st := s__law_moved) l20 c20 k20, g__law_moved := PySem.W.mg_of X G a20, b__law_moved := (fun_mk (st := s__law_moved) l20 c20 k20).binds (ps := ["_law_cloth_here", "_law_often", "_law_x", "_law_y"]) fun _ _ _ _ _ _ us hl => match us, hl with | [_, _, _, _], _ => rfl,
    A__law_come_to_nothing := f21, D__law_come_to_nothing := PySem.W.fnOf "_law_come_to_nothing" "_law_come_to_nothing" (defArgs s__law_come_to_nothing) (defBody s__law_come_to_nothing) (defScope s__law_come_to_nothing) .none kV21 dc21 pm21 an21 cd21 ct21, F__law_come_to_nothing := fun_mk (st := s__law_come_to_nothing) l21 c21 k21, g__law_come_to_nothing := PySem.W.mg_of X G a21, b__law_come_to_nothing := (fun_mk (st := s__law_come_to_nothing) l21 c21 k21).binds (ps := ["_law_some"]) fun _ _ _ _ _ _ us hl => match us, hl with | [_], _ => rfl,
    A__law_tilted := f22, D__law_tilted := PySem.W.fnOf "_law_tilted" "_law_tilted" (defArgs s__law_tilted) (defBody s__law_tilted) (defScope s__law_tilted) .none kV22 dc22 pm22 an22 cd22 ct22, F__law_tilted := fun_mk (st := s__law_tilted) l22 c22 k22, g__law_tilted := PySem.W.mg_of X G a22, b__law_tilted := (fun_mk (st := s__law_tilted) l22 c22 k22).binds (ps := ["_law_cloth_here", "_law_top", "_law_under_it"]) fun _ _ _ _ _ _ us hl => match us, hl with | [_, _, _], _ => rfl,
    A__law_way_tilted := f23, D__law_way_tilted := PySem.W.fnOf "_law_way_tilted" "_law_way_tilted" (defArgs s__law_way_tilted) (defBody s__law_way_tilted) (defScope s__law_way_tilted) .none kV23 dc23 pm23 an23 cd23 ct23, F__law_way_tilted := fun_mk (st := s__law_way_tilted) l23 c23 k23, g__law_way_tilted := PySem.W.mg_of X G a23, b__law_way_tilted := (fun_mk (st := s__law_way_tilted) l23 c23 k23).binds (ps := ["_law_way", "_law_top", "_law_under_it"]) fun _ _ _ _ _ _ us hl => match us, hl with | [_, _, _], _ => rfl,
    A__law_low := f24, D__law_low := PySem.W.fnOf "_law_low" "_law_low" (defArgs s__law_low) (defBody s__law_low) (defScope s__law_low) .none kV24 dc24 pm24 an24 cd24 ct24, F__law_low := fun_mk (st := s__law_low) l24 c24 k24, g__law_low := PySem.W.mg_of X G a24, b__law_low := (fun_mk (st := s__law_low) l24 c24 k24).binds (ps := ["_law_top", "_law_bottom"]) fun _ _ _ _ _ _ us hl => match us, hl with | [_, _], _ => rfl,
    A__law_due := f25, D__law_due := PySem.W.fnOf "_law_due" "_law_due" (defArgs s__law_due) (defBody s__law_due) (defScope s__law_due) .none kV25 dc25 pm25 an25 cd25 ct25, F__law_due := fun_mk (st := s__law_due) l25 c25 k25, g__law_due := PySem.W.mg_of X G a25, b__law_due := (fun_mk (st := s__law_due) l25 c25 k25).binds (ps := ["_law_some", "_law_top", "_law_under_it"]) fun _ _ _ _ _ _ us hl => match us, hl with | [_, _, _], _ => rfl,
    A__law_one_more := f26, D__law_one_more := PySem.W.fnOf "_law_one_more" "_law_one_more" (defArgs s__law_one_more) (defBody s__law_one_more) (defScope s__law_one_more) .none kV26 dc26 pm26 an26 cd26 ct26, F__law_one_more := fun_mk (st := s__law_one_more) l26 c26 k26, g__law_one_more := PySem.W.mg_of X G a26, b__law_one_more := (fun_mk (st := s__law_one_more) l26 c26 k26).binds (ps := ["_law_cloth_here", "_law_bag_here"]) fun _ _ _ _ _ _ us hl => match us, hl with | [_, _], _ => rfl,
    A__law_right := f27, D__law_right := PySem.W.fnOf "_law_right" "_law_right" (defArgs s__law_right) (defBody s__law_right) (defScope s__law_right) .none kV27 dc27 pm27 an27 cd27 ct27, F__law_right := fun_mk (st := s__law_right) l27 c27 k27, g__law_right := PySem.W.mg_of X G a27, b__law_right := (fun_mk (st := s__law_right) l27 c27 k27).binds (ps := ["_law_bag_here", "_law_cloth_here"]) fun _ _ _ _ _ _ us hl => match us, hl with | [_, _], _ => rfl,
    A_law := fa, D_law := PySem.W.fnOf "law" "law" (defArgs s_law) (defBody s_law) (defScope s_law) .none kV28 dc28 pm28 an28 cd28 ct28, F_law := fun_mk (st := s_law) l28 c28 k28, g_law := PySem.W.mg_of X G a28, b_law := (fun_mk (st := s_law) l28 c28 k28).binds (ps := ["_law_script"]) fun _ _ _ _ _ _ us hl => match us, hl with | [_], _ => rfl,
    z_abs := PySem.W.mg_none_of X G z_abs,
    z_len := PySem.W.mg_none_of X G z_len,
    z_range := PySem.W.mg_none_of X G z_range,
    z_sorted := PySem.W.mg_none_of X G z_sorted,
    z_sum := PySem.W.mg_none_of X G z_sum,
    a_NOTHING := a_NOTHING, c_NOTHING := PySem.W.mg_of X G c_NOTHING, s_NOTHING := fun _ => .inr ⟨_, _, _, l_NOTHING, rfl, rfl, (show (2 : Nat) ≤ sizeLine by rw [line_eq]; decide), (.cons ⟨_, rfl⟩ (.cons ⟨_, rfl⟩ .nil))⟩ }
  exact ⟨_, fun s v => .of_eq rfl, fun base _ _ => ok_law (P := l.prog) (w := w) (base := base) T⟩
theorem walk {l : PySem.W.OpenLaw} {q : Program} {loose : List Str} {XP : (Str → Option Value) → Heap → Prop} {YP : World → Heap → Prop} {d : DefRec} {K : Params → PySem.W.Frag} (hn : l.most = some 63) (hdf : d.params.defaults = [])
    (hY : ∀ (w : World) (h : Heap), YP w h → (K w.params).In h)
    (F : ∀ (w : World) (mg : Str → Option Value) (fa : Addr) (h : Heap), (K w.params).In h → h.Ns mainGlobals mg → mg d.name = some (.ref fa) →
      ∃ fd : FuncData, (∀ (s : Shared) (u : Value), BindsTo s fd ⟨[u], []⟩ [("_law_script", u)]) ∧ ∀ base : Heap, (K w.params).In base → base.Ns mainGlobals mg → FnOk l.prog w (K w.params) mg base CX0 8 fa fd ["_law_script"] (sp_law (K w.params))) :
    PySem.W.WalkO q loose XP YP l.row.toRowW d [] (fun f vs => PySem.call f vs) :=
  L2.walk_of (n := 63) (k := 8) (x := "_law_script") (CX := fun _ => CX0) (sp := fun w => sp_law (K w.params)) hn (by decide) hdf ⟨rfl, by decide, by decide⟩ hY F (fun _ H a ns hl _ hS => mk_law (X := fun _ => False) (law_true ns hl) ⟨.s (.of hS) .nil, List.nodup_nil, fun _ h => (nomatch h), fun _ h => h.elim⟩ fun _ _ => rfl) fun _ _ _ _ _ z => z
end Sc
open PySem PySem.W PyProof.Rows
set_option maxRecDepth 100000 in
set_option maxHeartbeats 0 in
theorem PySem.Challenge.cw_slidecut_k21_marks_of_the_same_holds : PySem.Challenge.rw_slidecut_k21_marks_of_the_same.Holds := by
  w_on; o_law; k_head; (case hw => w_witness2)
  k_fill
  refine Sc.walk (l := PySem.Challenge.rw_slidecut_k21_marks_of_the_same) rfl rfl (fun w h Y => PySem.W.kIn_of Y) ?F
  case F =>
    intro w mg fa h KX G hmg
    refine' Sc.all_mk KX G hmg ?a0 ?l0 ?c0 ?k0 ?a1 ?l1 ?c1 ?k1 ?a2 ?l2 ?c2 ?k2 ?a3 ?l3 ?c3 ?k3 ?a4 ?l4 ?c4 ?k4 ?a5 ?l5 ?c5 ?k5 ?a6 ?l6 ?c6 ?k6 ?a7 ?l7 ?c7 ?k7 ?a8 ?l8 ?c8 ?k8 ?a9 ?l9 ?c9 ?k9 ?a10 ?l10 ?c10 ?k10 ?a11 ?l11 ?c11 ?k11 ?a12 ?l12 ?c12 ?k12 ?a13 ?l13 ?c13 ?k13 ?a14 ?l14 ?c14 ?k14 ?a15 ?l15 ?c15 ?k15 ?a16 ?l16 ?c16 ?k16 ?a17 ?l17 ?c17 ?k17 ?a18 ?l18 ?c18 ?k18 ?a19 ?l19 ?c19 ?k19 ?a20 ?l20 ?c20 ?k20 ?a21 ?l21 ?c21 ?k21 ?a22 ?l22 ?c22 ?k22 ?a23 ?l23 ?c23 ?k23 ?a24 ?l24 ?c24 ?k24 ?a25 ?l25 ?c25 ?k25 ?a26 ?l26 ?c26 ?k26 ?a27 ?l27 ?c27 ?k27 ?a28 ?l28 ?c28 ?k28 ?z_abs ?z_len ?z_range ?z_sorted ?z_sum ?c_NOTHING ?l_NOTHING
    (case a0 => k_is)
    (case l0 => k_is)
    (case c0 => k_is)
    (case k0 => k_is)
    (case a1 => k_is)
    (case l1 => k_is)
    (case c1 => k_is)
    (case k1 => k_is)
    (case a2 => k_is)
    (case l2 => k_is)
    (case c2 => k_is)
    (case k2 => k_is)
    (case a3 => k_is)
    (case l3 => k_is)
    (case c3 => k_is)
    (case k3 => k_is)
    (case a4 => k_is)
    (case l4 => k_is)
    (case c4 => k_is)
    (case k4 => k_is)
    (case a5 => k_is)
    (case l5 => k_is)
    (case c5 => k_is)
    (case k5 => k_is)
    (case a6 => k_is)
    (case l6 => k_is)
    (case c6 => k_is)
    (case k6 => k_is)
    (case a7 => k_is)
    (case l7 => k_is)
    (case c7 => k_is)
    (case k7 => k_is)
    (case a8 => k_is)
    (case l8 => k_is)
    (case c8 => k_is)
    (case k8 => k_is)
    (case a9 => k_is)
    (case l9 => k_is)
    (case c9 => k_is)
    (case k9 => k_is)
    (case a10 => k_is)
    (case l10 => k_is)
    (case c10 => k_is)
    (case k10 => k_is)
    (case a11 => k_is)
    (case l11 => k_is)
    (case c11 => k_is)
    (case k11 => k_is)
    (case a12 => k_is)
    (case l12 => k_is)
    (case c12 => k_is)
    (case k12 => k_is)
    (case a13 => k_is)
    (case l13 => k_is)
    (case c13 => k_is)
    (case k13 => k_is)
    (case a14 => k_is)
    (case l14 => k_is)
    (case c14 => k_is)
    (case k14 => k_is)
    (case a15 => k_is)
    (case l15 => k_is)
    (case c15 => k_is)
    (case k15 => k_is)
    (case a16 => k_is)
    (case l16 => k_is)
    (case c16 => k_is)
    (case k16 => k_is)
    (case a17 => k_is)
    (case l17 => k_is)
    (case c17 => k_is)
    (case k17 => k_is)
    (case a18 => k_is)
    (case l18 => k_is)
    (case c18 => k_is)
    (case k18 => k_is)
    (case a19 => k_is)
    (case l19 => k_is)
    (case c19 => k_is)
    (case k19 => k_is)
    (case a20 => k_is)
    (case l20 => k_is)
    (case c20 => k_is)
    (case k20 => k_is)
    (case a21 => k_is)
    (case l21 => k_is)
    (case c21 => k_is)
    (case k21 => k_is)
    (case a22 => k_is)
    (case l22 => k_is)
    (case c22 => k_is)
    (case k22 => k_is)
    (case a23 => k_is)
    (case l23 => k_is)
    (case c23 => k_is)
    (case k23 => k_is)
    (case a24 => k_is)
    (case l24 => k_is)
    (case c24 => k_is)
    (case k24 => k_is)
    (case a25 => k_is)
    (case l25 => k_is)
    (case c25 => k_is)
    (case k25 => k_is)
    (case a26 => k_is)
    (case l26 => k_is)
    (case c26 => k_is)
    (case k26 => k_is)
    (case a27 => k_is)
    (case l27 => k_is)
    (case c27 => k_is)
    (case k27 => k_is)
    (case a28 => k_is)
    (case l28 => k_is)
    (case c28 => k_is)
    (case k28 => k_is)
    (case z_abs => k_is)
    (case z_len => k_is)
    (case z_range => k_is)
    (case z_sorted => k_is)
    (case z_sum => k_is)
    (case c_NOTHING => k_is)
    (case l_NOTHING => k_is)
#print axioms PySem.Challenge.cw_slidecut_k21_marks_of_the_same_holds
