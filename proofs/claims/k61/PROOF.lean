import PyProof.Rows.All
import Wide.All
import OpenK.AllK
import Wide.FinOn
import HandS.ForMost
import HandS.Wide
import HandS.IsInst
import HandS.Style
import HandS.Deep
import HandS.TryOnly
import HandS.ExcOwn
import HandS.ExcIs
import HandS.WordsExc
import KE.DataMinMax
import HandS.TupLe
import HandS.TupSets
import HandS.Steps
import HandS.Conv
import HandS.SortRule
import HandS.DictTup
import KE.KDictPairs
import KE.KDictKeyed
import HandS.Zip
import HandS.More
import KE.KDictKeyed
import PySem.Challenge.RW_slidecut_k61_plans_spoiled
set_option Elab.async false
set_option maxRecDepth 100000
set_option maxHeartbeats 4000000
set_option linter.unusedVariables false
namespace Sc
open PySem PySem.Spec PyProof.Rows L2

/-! ### data in the heap -/
mutual
/-- v stands for the data d; no list of it is one of X -/
inductive Rep (K : PySem.W.Frag) (X : Addr → Prop) (H : Hp) : PyData → V → Prop
  | non : Rep K X H .none .non
  | bl (b : Bool) : Rep K X H (.bool b) (.bl b)
  | int (i : Int) : Rep K X H (.int i) (.int i)
  | str (x : Str) : Rep K X H (.str x) (.str x)
  | tup {a : Addr} {ds : List PyData} {vs : List V} : H a = some (.tup vs) → Reps K X H ds vs → Rep K X H (.tuple ds) (.ref a)
  | lst {a : Addr} {ds : List PyData} {vs : List V} : ¬ X a → Rd H a (.lst vs) → Reps K X H ds vs → Rep K X H (.list ds) (.ref a)
inductive Reps (K : PySem.W.Frag) (X : Addr → Prop) (H : Hp) : List PyData → List V → Prop
  | nil : Reps K X H [] []
  | cons {d : PyData} {ds : List PyData} {v : V} {vs : List V} : Rep K X H d v → Reps K X H ds vs → Reps K X H (d :: ds) (v :: vs)
end

/-- what may not be written stands as it stood -/
def Keep (X : Addr → Prop) (H H' : Hp) : Prop :=
  (∀ a o, H a = some o → ¬ X a → H' a = some o) ∧ (∀ a vs, H a = some (.tup vs) → H' a = some (.tup vs)) ∧ (∀ a o u, H a = some (.frz o u) → H' a = some (.frz o u))
theorem Keep.refl {X : Addr → Prop} {H : Hp} : Keep X H H := ⟨fun _ _ h _ => h, fun _ _ h => h, fun _ _ _ h => h⟩
theorem Keep.same {X : Addr → Prop} {H H' : Hp} (s : Same H H') : Keep X H H' := ⟨fun _ _ h _ => s _ _ h, fun _ _ h => s _ _ h, fun _ _ _ h => s _ _ h⟩
theorem Keep.rd {X : Addr → Prop} {H H' : Hp} (k : Keep X H H') {a : Addr} {o : HO} (n : ¬ X a) (h : Rd H a o) : Rd H' a o := by
  rcases h with h | ⟨u, h⟩
  · exact .inl (k.1 _ _ h n)
  · exact .inr ⟨u, k.2.2 _ _ _ h⟩
theorem Keep.sqT {X : Addr → Prop} {K : PySem.W.Frag} {H H' : Hp} (k : Keep X H H') {a : Addr} {vs : List V} (h : SqT K H a vs) : SqT K H' a vs := by
  rcases h with (h | ⟨o, h⟩) | h
  · exact .inl (.inl (k.2.1 _ _ h))
  · exact .inl (.inr ⟨o, k.2.2 _ _ _ h⟩)
  · exact .inr h
theorem Keep.mono {X Y : Addr → Prop} {H H' : Hp} (k : Keep X H H') (h : ∀ a, X a → Y a) : Keep Y H H' := ⟨fun a o e n => k.1 a o e fun z => n (h a z), k.2.1, k.2.2⟩
theorem Keep.trans {X : Addr → Prop} {H H1 H2 : Hp} (k : Keep X H H1) (j : Keep X H1 H2) : Keep X H H2 := ⟨fun a o e n => j.1 a o (k.1 a o e n) n, fun a v e => j.2.1 a v (k.2.1 a v e), fun a o u e => j.2.2 a o u (k.2.2 a o u e)⟩

section
variable {K : PySem.W.Frag} {X Y : Addr → Prop} {H H' : Hp}
mutual
theorem Rep.keep (k : Keep X H H') : ∀ {d : PyData} {v : V}, Rep K X H d v → Rep K X H' d v
  | _, _, .non => .non
  | _, _, .bl b => .bl b
  | _, _, .int i => .int i
  | _, _, .str x => .str x
  | _, _, .tup h r => .tup (k.2.1 _ _ h) (Reps.keep k r)
  | _, _, .lst n h r => .lst n (k.rd n h) (Reps.keep k r)
theorem Reps.keep (k : Keep X H H') : ∀ {d : List PyData} {v : List V}, Reps K X H d v → Reps K X H' d v
  | _, _, .nil => .nil
  | _, _, .cons r t => .cons (Rep.keep k r) (Reps.keep k t)
end
mutual
theorem Rep.anti (h : ∀ a, Y a → X a) : ∀ {d : PyData} {v : V}, Rep K X H d v → Rep K Y H d v
  | _, _, .non => .non
  | _, _, .bl b => .bl b
  | _, _, .int i => .int i
  | _, _, .str x => .str x
  | _, _, .tup q r => .tup q (Reps.anti h r)
  | _, _, .lst n q r => .lst (fun z => n (h _ z)) q (Reps.anti h r)
theorem Reps.anti (h : ∀ a, Y a → X a) : ∀ {d : List PyData} {v : List V}, Reps K X H d v → Reps K Y H d v
  | _, _, .nil => .nil
  | _, _, .cons r t => .cons (Rep.anti h r) (Reps.anti h t)
end
theorem rd_nn {a : Addr} {o : HO} (h : Rd H a o) : H a ≠ none := by
  rcases h with h | ⟨u, h⟩ <;> rw [h] <;> exact fun z => nomatch z
mutual
/-- a new address may be forbidden -/
theorem Rep.more {p : Addr} (hp : H p = none) : ∀ {d : PyData} {v : V}, Rep K X H d v → Rep K (fun a => X a ∨ a = p) H d v
  | _, _, .non => .non
  | _, _, .bl b => .bl b
  | _, _, .int i => .int i
  | _, _, .str x => .str x
  | _, _, .tup q r => .tup q (Reps.more hp r)
  | _, _, .lst n q r => .lst (fun z => z.elim n fun e => rd_nn q (e ▸ hp)) q (Reps.more hp r)
theorem Reps.more {p : Addr} (hp : H p = none) : ∀ {d : List PyData} {v : List V}, Reps K X H d v → Reps K (fun a => X a ∨ a = p) H d v
  | _, _, .nil => .nil
  | _, _, .cons r t => .cons (Rep.more hp r) (Reps.more hp t)
end
mutual
theorem Rep.dp : ∀ {d : PyData} {v : V}, Rep K X H d v → Dp K H v d
  | _, _, .non => .non
  | _, _, .bl b => .bl b
  | _, _, .int i => .int i
  | _, _, .str x => .str x
  | _, _, .tup q r => .tup (.inl (.inl q)) (Reps.dp r)
  | _, _, .lst n q r => .lst (.inl q) (Reps.dp r)
theorem Reps.dp : ∀ {d : List PyData} {v : List V}, Reps K X H d v → DpAll K H v d
  | _, _, .nil => .nil
  | _, _, .cons r t => .cons (Rep.dp r) (Reps.dp t)
end
theorem Reps.length : ∀ {ds : List PyData} {vs : List V}, Reps K X H ds vs → vs.length = ds.length
  | _, _, .nil => rfl
  | _, _, .cons _ t => congrArg (· + 1) (Reps.length t)
theorem Reps.get : ∀ {ds : List PyData} {vs : List V} {i : Nat} {d : PyData}, Reps K X H ds vs → ds[i]? = some d → ∃ v, vs[i]? = some v ∧ Rep K X H d v
  | _, _, _, _, .nil, e => by simp at e
  | _, _, 0, _, .cons r _, e => by simp at e; subst e; exact ⟨_, rfl, r⟩
  | _, _, i + 1, d, .cons _ t, e => by
    obtain ⟨v, h1, h2⟩ := Reps.get (i := i) t (by simpa using e)
    exact ⟨v, by simpa using h1, h2⟩
theorem Reps.get' : ∀ {ds : List PyData} {vs : List V} {i : Nat} {v : V}, Reps K X H ds vs → vs[i]? = some v → ∃ d, ds[i]? = some d ∧ Rep K X H d v
  | _, _, _, _, .nil, e => by simp at e
  | _, _, 0, _, .cons r _, e => by simp at e; subst e; exact ⟨_, rfl, r⟩
  | _, _, i + 1, d, .cons _ t, e => by
    obtain ⟨v, h1, h2⟩ := Reps.get' (i := i) t (by simpa using e)
    exact ⟨v, by simpa using h1, h2⟩
theorem Reps.append : ∀ {d1 d2 : List PyData} {v1 v2 : List V}, Reps K X H d1 v1 → Reps K X H d2 v2 → Reps K X H (d1 ++ d2) (v1 ++ v2)
  | _, _, _, _, .nil, s => s
  | _, _, _, _, .cons r t, s => .cons r (Reps.append t s)
theorem Reps.take : ∀ {d1 : List PyData} {v1 : List V} (n : Nat), Reps K X H d1 v1 → Reps K X H (d1.take n) (v1.take n)
  | _, _, 0, _ => .nil
  | _, _, _ + 1, .nil => .nil
  | _, _, n + 1, .cons r t => .cons r (Reps.take n t)
theorem Reps.drop : ∀ {d1 : List PyData} {v1 : List V} (n : Nat), Reps K X H d1 v1 → Reps K X H (d1.drop n) (v1.drop n)
  | _, _, 0, h => h
  | _, _, _ + 1, .nil => .nil
  | _, _, n + 1, .cons _ t => Reps.drop n t
theorem Reps.set {d : PyData} {v : V} (q : Rep K X H d v) : ∀ {d1 : List PyData} {v1 : List V} (n : Nat), Reps K X H d1 v1 → Reps K X H (d1.set n d) (v1.set n v)
  | _, _, _, .nil => .nil
  | _, _, 0, .cons _ t => .cons q t
  | _, _, n + 1, .cons r t => .cons r (Reps.set q n t)
theorem Reps.reverse {ds : List PyData} {vs : List V} (h : Reps K X H ds vs) : Reps K X H ds.reverse vs.reverse := by
  induction ds generalizing vs with
  | nil => cases h; exact .nil
  | cons d ds ih => cases h with | cons r t => rw [List.reverse_cons, List.reverse_cons]; exact (ih t).append (.cons r .nil)
theorem Reps.ints : ∀ {ns : List Int}, Reps K X H (ns.map PyData.int) (ns.map V.int)
  | [] => .nil
  | n :: ns => .cons (.int n) Reps.ints
theorem Reps.toInts : ∀ {ns : List Int} {vs : List V}, Reps K X H (ns.map PyData.int) vs → vs = ns.map V.int
  | [], _, .nil => rfl
  | n :: ns, _, .cons (.int _) t => by rw [List.map_cons, Reps.toInts t]
theorem Reps.toBools : ∀ {ns : List Bool} {vs : List V}, Reps K X H (ns.map PyData.bool) vs → vs = ns.map V.bl
  | [], _, .nil => rfl
  | n :: ns, _, .cons (.bl _) t => by rw [List.map_cons, Reps.toBools t]
end

/-! ### Lean data as Python data -/
class Py (α : Type) where
  enc : α → PyData
open Py (enc)
instance : Py Int := ⟨.int⟩
instance : Py Bool := ⟨.bool⟩
instance : Py Unit := ⟨fun _ => .none⟩
instance : Py Str := ⟨.str⟩
structure T1 (α : Type) where
  a : α
  deriving DecidableEq
structure T2 (α β : Type) where
  a : α
  b : β
  deriving DecidableEq
structure T3 (α β γ : Type) where
  a : α
  b : β
  c : γ
  deriving DecidableEq
structure T4 (α β γ δ : Type) where
  a : α
  b : β
  c : γ
  d : δ
  deriving DecidableEq
structure T5 (α β γ δ ε : Type) where
  a : α
  b : β
  c : γ
  d : δ
  e : ε
  deriving DecidableEq
section
variable {α β γ δ ε : Type}
instance [Py α] : Py (T1 α) := ⟨fun x => .tuple [enc x.a]⟩
instance [Py α] [Py β] : Py (T2 α β) := ⟨fun x => .tuple [enc x.a, enc x.b]⟩
instance [Py α] [Py β] [Py γ] : Py (T3 α β γ) := ⟨fun x => .tuple [enc x.a, enc x.b, enc x.c]⟩
instance [Py α] [Py β] [Py γ] [Py δ] : Py (T4 α β γ δ) := ⟨fun x => .tuple [enc x.a, enc x.b, enc x.c, enc x.d]⟩
instance [Py α] [Py β] [Py γ] [Py δ] [Py ε] : Py (T5 α β γ δ ε) := ⟨fun x => .tuple [enc x.a, enc x.b, enc x.c, enc x.d, enc x.e]⟩
instance [Py α] : Py (List α) := ⟨fun xs => .list (xs.map enc)⟩
instance [Py α] : Py (Option α) := ⟨fun x => match x with | none => .none | some y => enc y⟩
end

/-- the script -/
def SqX (K : PySem.W.Frag) (X : Addr → Prop) (H : Hp) (ns : List Int) (v : V) : Prop := ∃ a, v = .ref a ∧ ((¬ X a ∧ Rd H a (.lst (ns.map V.int))) ∨ ∀ H', SqL K H' a (ns.map V.int))
section
variable {K : PySem.W.Frag} {X Y : Addr → Prop} {H H' : Hp} {ns : List Int} {v : V}
theorem SqX.keep (k : Keep X H H') (h : SqX K X H ns v) : SqX K X H' ns v := by
  obtain ⟨a, e, h⟩ := h
  exact ⟨a, e, h.imp (fun z => ⟨z.1, k.rd z.1 z.2⟩) id⟩
theorem SqX.anti (g : ∀ a, Y a → X a) (h : SqX K X H ns v) : SqX K Y H ns v := by
  obtain ⟨a, e, h⟩ := h
  exact ⟨a, e, h.imp (fun z => ⟨fun y => z.1 (g _ y), z.2⟩) id⟩
theorem SqX.more {p : Addr} (hp : H p = none) (h : SqX K X H ns v) : SqX K (fun a => X a ∨ a = p) H ns v := by
  obtain ⟨a, e, h⟩ := h
  exact ⟨a, e, h.imp (fun z => ⟨fun y => y.elim z.1 fun e => rd_nn z.2 (e ▸ hp), z.2⟩) id⟩
theorem SqX.sq (h : SqX K X H ns v) : ∃ a, v = .ref a ∧ SqL K H a (ns.map V.int) := by
  obtain ⟨a, e, h⟩ := h
  exact ⟨a, e, h.elim (fun z => .inl z.2) fun z => z H⟩
theorem SqX.of {a : Addr} (h : SqL K H a (ns.map V.int)) : SqX K (fun _ => False) H ns (.ref a) := ⟨a, rfl, h.elim (fun z => .inl ⟨id, z⟩) fun z => .inr fun _ => .inr z⟩
end

/-! ### the state of a def's body -/
/-- an object that the body may write -/
inductive MO where
  | lst (ds : List PyData)
  | lstZ (Z : Addr → Prop) (ds : List PyData)
  | any
  | dct (es : List (List L2.Key × PyData))
  | ex (R : Addr → (Addr → Prop) → Hp → Prop)
/-- an object of a list -/
abbrev ml {α : Type} [Py α] (xs : List α) : MO := .lst (xs.map enc)
/-- a slot: nothing known, data, an object that may be written; tmp: such an object in no slot -/
inductive Sl where
  | unk
  | scr (ns : List Int)
  | ref (a : Addr)
  | imm (d : PyData)
  | fix (Z : Addr → Prop) (d : PyData)
  | fixN (Z : Addr → Prop) (d : PyData)
  | lax (i j : Int)
  | mu (p : Addr) (o : MO)
  | tmp (p : Addr) (o : MO)
def Sl.ad : Sl → Option Addr
  | .mu p _ => some p
  | .tmp p _ => some p
  | _ => none
def muts (Γ : List Sl) : List Addr := Γ.filterMap Sl.ad
/-- a set of addresses that a new list is not in -/
def Frz (H : Hp) (b : Addr) : Prop := ∃ o u, H b = some (.frz o u)
abbrev NewX (X Z : Addr → Prop) (H : Hp) : Addr → Prop := fun b => X b ∨ ¬ Z b ∨ Frz H b
mutual
theorem Rep.keepF {K : PySem.W.Frag} {X Z : Addr → Prop} {H H' : Hp} (k : Keep X H H') : ∀ {d : PyData} {v : V}, Rep K (NewX X Z H) H d v → Rep K (NewX X Z H') H' d v
  | _, _, .non => .non
  | _, _, .bl b => .bl b
  | _, _, .int i => .int i
  | _, _, .str x => .str x
  | _, _, .tup h r => .tup (k.2.1 _ _ h) (Reps.keepF k r)
  | _, _, .lst n h r => by
    rcases h with h | ⟨o, h⟩
    · have h' := k.1 _ _ h fun z => n (.inl z)
      exact .lst (fun z => z.elim (fun z => n (.inl z)) fun z => z.elim (fun z => n (.inr (.inl z))) fun ⟨o, u, z⟩ => by rw [h'] at z; cases z) (.inl h') (Reps.keepF k r)
    · exact (n (.inr (.inr ⟨_, _, h⟩))).elim
theorem Reps.keepF {K : PySem.W.Frag} {X Z : Addr → Prop} {H H' : Hp} (k : Keep X H H') : ∀ {d : List PyData} {v : List V}, Reps K (NewX X Z H) H d v → Reps K (NewX X Z H') H' d v
  | _, _, .nil => .nil
  | _, _, .cons r t => .cons (Rep.keepF k r) (Reps.keepF k t)
end
/-- the entries of a dict, in order -/
inductive DReps (K : PySem.W.Frag) (X : Addr → Prop) (H : Hp) : List (List L2.Key × PyData) → List (List L2.Key × V) → Prop
  | nil : DReps K X H [] []
  | cons {k : List L2.Key} {d : PyData} {v : V} {es : List (List L2.Key × PyData)} {kvs : List (List L2.Key × V)} : Rep K X H d v → DReps K X H es kvs → DReps K X H ((k, d) :: es) ((k, v) :: kvs)
theorem DReps.keep {K : PySem.W.Frag} {X : Addr → Prop} {H H' : Hp} (k : Keep X H H') : ∀ {es : List (List L2.Key × PyData)} {kvs : List (List L2.Key × V)}, DReps K X H es kvs → DReps K X H' es kvs
  | _, _, .nil => .nil
  | _, _, .cons r t => .cons (r.keep k) (DReps.keep k t)
theorem DReps.anti {K : PySem.W.Frag} {X Y : Addr → Prop} {H : Hp} (h : ∀ a, Y a → X a) : ∀ {es : List (List L2.Key × PyData)} {kvs : List (List L2.Key × V)}, DReps K X H es kvs → DReps K Y H es kvs
  | _, _, .nil => .nil
  | _, _, .cons r t => .cons (r.anti h) (DReps.anti h t)
theorem DReps.more {K : PySem.W.Frag} {X : Addr → Prop} {H : Hp} {p : Addr} (h : H p = none) : ∀ {es : List (List L2.Key × PyData)} {kvs : List (List L2.Key × V)}, DReps K X H es kvs → DReps K (fun a => X a ∨ a = p) H es kvs
  | _, _, .nil => .nil
  | _, _, .cons r t => .cons (r.more h) (DReps.more h t)
/-- what any other description of an object must keep -/
structure RX (R : Addr → (Addr → Prop) → Hp → Prop) : Prop where
  keep : ∀ {p : Addr} {X : Addr → Prop} {H H' : Hp}, Keep X H H' → H' p = H p → R p X H → R p X H'
  anti : ∀ {p : Addr} {X Y : Addr → Prop} {H : Hp}, (∀ a, Y a → X a) → R p X H → R p Y H
  more : ∀ {p q : Addr} {X : Addr → Prop} {H : Hp}, H q = none → R p X H → R p (fun a => X a ∨ a = q) H
  nn : ∀ {p : Addr} {X : Addr → Prop} {H : Hp}, R p X H → H p ≠ none
  ntup : ∀ {p : Addr} {X : Addr → Prop} {H : Hp}, R p X H → (∀ vs, H p ≠ some (.tup vs)) ∧ (∀ u w, H p ≠ some (.frz u w))
/-- the object at p is o -/
def MRep (K : PySem.W.Frag) (X : Addr → Prop) (H : Hp) (p : Addr) : MO → Prop
  | .lst ds => ∃ vs, H p = some (.lst vs) ∧ Reps K X H ds vs
  | .lstZ Z ds => ∃ vs, H p = some (.lst vs) ∧ Reps K (NewX X Z H) H ds vs
  | .any => ∃ vs, H p = some (.lst vs)
  | .dct es => ∃ kvs, H p = some (.dT kvs) ∧ DReps K X H es kvs
  | .ex R => RX R ∧ R p X H
def SlOk (K : PySem.W.Frag) (X : Addr → Prop) (H : Hp) (v : Option (Option V)) : Sl → Prop
  | .unk => True
  | .scr ns => ∃ u, v = some (some u) ∧ SqX K X H ns u
  | .ref a => v = some (some (.ref a))
  | .imm d => ∃ u, v = some (some u) ∧ Rep K X H d u
  | .fix Z d => ∃ u, v = some (some u) ∧ Rep K (fun b => X b ∨ ¬ Z b) H d u
  | .fixN Z d => ∃ u, v = some (some u) ∧ Rep K (NewX X Z H) H d u
  | .lax i j => ∃ a, v = some (some (.ref a)) ∧ SqT K H a [.int i, .int j]
  | .mu p o => v = some (some (.ref p)) ∧ MRep K X H p o
  | .tmp p o => MRep K X H p o
/-- the known ones: the written part, what may be written at the entry, the heap there, whose objects the body may change -/
structure Cn where
  K : PySem.W.Frag
  X0 : Addr → Prop
  H0 : Hp
  P0 : List Addr
  n : Nat
structure Lo (C : Cn) (X : Addr → Prop) (H : Hp) (σ : L2.St) (Γ : List Sl) : Prop where
  len : σ.length = C.n
  at_ : ∀ (i : Nat) (s : Sl), Γ[i]? = some s → SlOk C.K X H σ[i]? s
  nd : (muts Γ).Nodup
  mx : ∀ p ∈ muts Γ, X p
  m0 : ∀ a, C.X0 a → X a
  xd : ∀ a, X a → H a ≠ none
  base : ∀ a o, C.H0 a = some o → a ∉ C.P0 → H a = some o
  dom : ∀ a, C.H0 a ≠ none → H a ≠ none
  own : ∀ p ∈ muts Γ, p ∈ C.P0 ∨ C.H0 p = none
  tf : ∀ a ∈ C.P0, (∀ vs, C.H0 a ≠ some (.tup vs)) ∧ (∀ o u, C.H0 a ≠ some (.frz o u))

theorem MRep.keep {K : PySem.W.Frag} {X : Addr → Prop} {H H' : Hp} {p : Addr} (k : Keep X H H') (e : H' p = H p) : ∀ {o : MO}, MRep K X H p o → MRep K X H' p o
  | .lst _, ⟨vs, h, r⟩ => ⟨vs, e.trans h, r.keep k⟩
  | .lstZ _ _, ⟨vs, h, r⟩ => ⟨vs, e.trans h, r.keepF k⟩
  | .any, ⟨vs, h⟩ => ⟨vs, e.trans h⟩
  | .dct _, ⟨vs, h, r⟩ => ⟨vs, e.trans h, r.keep k⟩
  | .ex _, ⟨x, r⟩ => ⟨x, x.keep k e r⟩
theorem MRep.anti {K : PySem.W.Frag} {X Y : Addr → Prop} {H : Hp} {p : Addr} (h : ∀ a, Y a → X a) : ∀ {o : MO}, MRep K X H p o → MRep K Y H p o
  | .lst _, ⟨vs, q, r⟩ => ⟨vs, q, r.anti h⟩
  | .lstZ _ _, ⟨vs, q, r⟩ => ⟨vs, q, r.anti fun a z => z.imp (h a) id⟩
  | .any, h => h
  | .dct _, ⟨vs, q, r⟩ => ⟨vs, q, r.anti h⟩
  | .ex _, ⟨x, r⟩ => ⟨x, x.anti h r⟩
theorem MRep.more {K : PySem.W.Frag} {X : Addr → Prop} {H : Hp} {p q : Addr} (h : H q = none) : ∀ {o : MO}, MRep K X H p o → MRep K (fun a => X a ∨ a = q) H p o
  | .lst _, ⟨vs, e, r⟩ => ⟨vs, e, r.more h⟩
  | .lstZ _ _, ⟨vs, e, r⟩ => ⟨vs, e, (r.more h).anti fun a z => z.elim (fun z => z.elim (fun z => .inl (.inl z)) .inr) fun z => .inl (.inr z)⟩
  | .any, h => h
  | .dct _, ⟨vs, e, r⟩ => ⟨vs, e, r.more h⟩
  | .ex _, ⟨x, r⟩ => ⟨x, x.more h r⟩
theorem MRep.nn {K : PySem.W.Frag} {X : Addr → Prop} {H : Hp} {p : Addr} : ∀ {o : MO}, MRep K X H p o → H p ≠ none
  | .lst _, ⟨vs, e, r⟩ => by rw [e]; exact fun z => nomatch z
  | .lstZ _ _, ⟨vs, e, r⟩ => by rw [e]; exact fun z => nomatch z
  | .any, ⟨vs, e⟩ => by rw [e]; exact fun z => nomatch z
  | .dct _, ⟨vs, e, r⟩ => by rw [e]; exact fun z => nomatch z
  | .ex _, ⟨x, r⟩ => x.nn r
theorem MRep.ntup {K : PySem.W.Frag} {X : Addr → Prop} {H : Hp} {p : Addr} : ∀ {o : MO}, MRep K X H p o → (∀ vs, H p ≠ some (.tup vs)) ∧ (∀ u w, H p ≠ some (.frz u w))
  | .lst _, ⟨vs, e, r⟩ => by
    rw [e]
    constructor
    · intro _ z; cases z
    · intro _ _ z; cases z
  | .lstZ _ _, ⟨vs, e, r⟩ => by
    rw [e]
    constructor
    · intro _ z; cases z
    · intro _ _ z; cases z
  | .any, ⟨vs, e⟩ => by
    rw [e]
    constructor
    · intro _ z; cases z
    · intro _ _ z; cases z
  | .ex _, ⟨x, r⟩ => x.ntup r
  | .dct _, ⟨vs, e, r⟩ => by
    rw [e]
    constructor
    · intro _ z; cases z
    · intro _ _ z; cases z

theorem mem_muts {Γ : List Sl} {p : Addr} : p ∈ muts Γ ↔ ∃ (i : Nat) (s : Sl), Γ[i]? = some s ∧ s.ad = some p := by
  unfold muts
  rw [List.mem_filterMap]
  constructor
  · rintro ⟨s, hs, e⟩
    obtain ⟨i, hi⟩ := List.getElem?_of_mem hs
    exact ⟨i, s, hi, e⟩
  · rintro ⟨i, s, hi, e⟩
    exact ⟨s, List.mem_of_getElem? hi, e⟩

section
variable {C : Cn} {X : Addr → Prop} {H H' : Hp} {σ : L2.St} {Γ : List Sl}
theorem SlOk.mrep {K : PySem.W.Frag} {v : Option (Option V)} {s : Sl} {p : Addr} (h : SlOk K X H v s) (e : s.ad = some p) : ∃ o, MRep K X H p o := by
  cases s with
  | unk => cases e
  | scr ns => cases e
  | ref a => cases e
  | imm d => cases e
  | fix Z d => cases e
  | fixN Z d => cases e
  | lax i j => cases e
  | mu q o => cases e; exact ⟨o, h.2⟩
  | tmp q o => cases e; exact ⟨o, h⟩
theorem SlOk.keep {K : PySem.W.Frag} {v : Option (Option V)} (k : Keep X H H') : ∀ {s : Sl}, (∀ p, s.ad = some p → H' p = H p) → SlOk K X H v s → SlOk K X H' v s
  | .unk, _, _ => trivial
  | .scr _, _, ⟨u, e, r⟩ => ⟨u, e, r.keep k⟩
  | .ref _, _, e => e
  | .imm _, _, ⟨u, e, r⟩ => ⟨u, e, r.keep k⟩
  | .fix _ _, _, ⟨u, e, r⟩ => ⟨u, e, r.keep (k.mono fun _ => .inl)⟩
  | .fixN _ _, _, ⟨u, e, r⟩ => ⟨u, e, r.keepF k⟩
  | .lax _ _, _, ⟨u, e, r⟩ => ⟨u, e, k.sqT r⟩
  | .mu p _, g, ⟨e, r⟩ => ⟨e, r.keep k (g p rfl)⟩
  | .tmp p _, g, r => MRep.keep k (g p rfl) r
theorem SlOk.anti {K : PySem.W.Frag} {Y : Addr → Prop} {v : Option (Option V)} (h : ∀ a, Y a → X a) : ∀ {s : Sl}, SlOk K X H v s → SlOk K Y H v s
  | .unk, _ => trivial
  | .scr _, ⟨u, e, r⟩ => ⟨u, e, r.anti h⟩
  | .ref _, e => e
  | .imm _, ⟨u, e, r⟩ => ⟨u, e, r.anti h⟩
  | .fix _ _, ⟨u, e, r⟩ => ⟨u, e, r.anti fun a z => z.imp (h a) id⟩
  | .fixN _ _, ⟨u, e, r⟩ => ⟨u, e, r.anti fun a z => z.imp (h a) id⟩
  | .lax _ _, h => h
  | .mu p _, ⟨e, r⟩ => ⟨e, r.anti h⟩
  | .tmp p _, r => MRep.anti h r
theorem SlOk.more {K : PySem.W.Frag} {v : Option (Option V)} {q : Addr} (h : H q = none) : ∀ {s : Sl}, SlOk K X H v s → SlOk K (fun a => X a ∨ a = q) H v s
  | .unk, _ => trivial
  | .scr _, ⟨u, e, r⟩ => ⟨u, e, r.more h⟩
  | .ref _, e => e
  | .imm _, ⟨u, e, r⟩ => ⟨u, e, r.more h⟩
  | .fix _ _, ⟨u, e, r⟩ => ⟨u, e, (r.more h).anti fun a z => z.elim (fun z => z.elim (fun z => .inl (.inl z)) .inr) fun z => .inl (.inr z)⟩
  | .fixN _ _, ⟨u, e, r⟩ => ⟨u, e, (r.more h).anti fun a z => z.elim (fun z => z.elim (fun z => .inl (.inl z)) .inr) fun z => .inl (.inr z)⟩
  | .lax _ _, h => h
  | .mu p _, ⟨e, r⟩ => ⟨e, r.more h⟩
  | .tmp p _, r => MRep.more h r
theorem Lo.mem (L : Lo C X H σ Γ) {p : Addr} (h : p ∈ muts Γ) : ∃ o, MRep C.K X H p o := by
  obtain ⟨i, s, hi, e⟩ := mem_muts.mp h
  exact (L.at_ i s hi).mrep e
theorem Lo.same (L : Lo C X H σ Γ) (s : Same H H') : Lo C X H' σ Γ := by
  have hd : ∀ a, H a ≠ none → H' a = H a := fun a h => by
    cases e : H a with
    | none => exact (h e).elim
    | some o => exact s a o e
  refine ⟨L.len, fun i t hi => (L.at_ i t hi).keep (.same s) fun p e => hd p ?_, L.nd, L.mx, L.m0, fun a h => ?_, fun a o e n => s _ _ (L.base a o e n), fun a h => ?_, L.own, L.tf⟩
  · obtain ⟨o, r⟩ := (L.at_ i t hi).mrep e
    exact r.nn
  · rw [hd a (L.xd a h)]; exact L.xd a h
  · rw [hd a (L.dom a h)]; exact L.dom a h
theorem nodup_setS {s0 : Sl} (e0 : s0.ad = none) : ∀ {Γ : List Sl} {i : Nat}, (muts Γ).Nodup → (muts (Γ.set i s0)).Nodup
  | [], _, h => h
  | s :: Γ, 0, h => by
    refine List.Sublist.nodup ?_ h
    show (List.filterMap Sl.ad (s0 :: Γ)).Sublist (List.filterMap Sl.ad (s :: Γ))
    rw [List.filterMap_cons, e0]
    show (List.filterMap Sl.ad Γ).Sublist _
    rw [List.filterMap_cons]
    cases s.ad with
    | none => exact List.Sublist.refl _
    | some p => exact List.sublist_cons_self _ _
  | s :: Γ, i + 1, h => by
    have h' : (List.filterMap Sl.ad (s :: Γ)).Nodup := h
    show (List.filterMap Sl.ad (s :: Γ.set i s0)).Nodup
    rw [List.filterMap_cons] at h' ⊢
    cases e : s.ad with
    | none =>
      rw [e] at h'
      exact nodup_setS e0 (i := i) h'
    | some p =>
      rw [e] at h'
      obtain ⟨n1, n2⟩ := List.nodup_cons.mp h'
      refine List.nodup_cons.mpr ⟨fun hp => n1 ?_, nodup_setS e0 (i := i) n2⟩
      obtain ⟨t, ht, et⟩ := List.mem_filterMap.mp hp
      rcases List.mem_or_eq_of_mem_set ht with q | q
      · exact List.mem_filterMap.mpr ⟨t, q, et⟩
      · subst q; rw [e0] at et; cases et
theorem nodup_set {Γ : List Sl} {i : Nat} {d : PyData} (h : (muts Γ).Nodup) : (muts (Γ.set i (.imm d))).Nodup := nodup_setS rfl h
theorem muts_setS {s0 : Sl} (e0 : s0.ad = none) {Γ : List Sl} {i : Nat} {p : Addr} (hp : p ∈ muts (Γ.set i s0)) : p ∈ muts Γ := by
  obtain ⟨j, s, hj, e⟩ := mem_muts.mp hp
  by_cases z : j = i
  · subst z
    by_cases hi : j < Γ.length
    · rw [List.getElem?_set_self hi] at hj
      cases hj; rw [e0] at e; cases e
    · rw [List.getElem?_eq_none_iff.mpr (by rw [List.length_set]; omega)] at hj
      cases hj
  · rw [List.getElem?_set_ne (Ne.symm z)] at hj
    exact mem_muts.mpr ⟨j, s, hj, e⟩
theorem muts_set_imm {Γ : List Sl} {i : Nat} {d : PyData} {p : Addr} (hp : p ∈ muts (Γ.set i (.imm d))) : p ∈ muts Γ := by
  obtain ⟨j, s, hj, e⟩ := mem_muts.mp hp
  by_cases z : j = i
  · subst z
    by_cases hi : j < Γ.length
    · rw [List.getElem?_set_self hi] at hj
      cases hj; cases e
    · rw [List.getElem?_eq_none_iff.mpr (by rw [List.length_set]; omega)] at hj
      cases hj
  · rw [List.getElem?_set_ne (Ne.symm z)] at hj
    exact mem_muts.mpr ⟨j, s, hj, e⟩
/-- a value is stored -/
theorem Lo.set (L : Lo C X H σ Γ) {i : Nat} {v : V} {d : PyData} (r : Rep C.K X H d v) (hi : i < C.n) : Lo C X H (σ.set i (some v)) (Γ.set i (.imm d)) := by
  refine ⟨by rw [List.length_set]; exact L.len, fun j s hj => ?_, nodup_set L.nd, fun p hp => L.mx p (muts_set_imm hp), L.m0, L.xd, L.base, L.dom, fun p hp => L.own p (muts_set_imm hp), L.tf⟩
  by_cases z : j = i
  · subst z
    have hlt : j < Γ.length := by
      have h2 := (List.getElem?_eq_some_iff.mp hj).1
      rw [List.length_set] at h2; exact h2
    rw [List.getElem?_set_self hlt] at hj
    cases hj
    exact ⟨v, List.getElem?_set_self (by rw [L.len]; exact hi), r⟩
  · rw [List.getElem?_set_ne (Ne.symm z)] at hj
    rw [List.getElem?_set_ne (Ne.symm z)]
    exact L.at_ j s hj
end

section
variable {C : Cn} {X : Addr → Prop} {H H' : Hp} {σ : L2.St} {Γ Γ' : List Sl}
/-- a value that is no data is stored, or none -/
theorem Lo.setS (L : Lo C X H σ Γ) {i : Nat} {v : Option V} {s : Sl} (e : s.ad = none) (r : SlOk C.K X H (some v) s) (hi : i < C.n) : Lo C X H (σ.set i v) (Γ.set i s) := by
  refine ⟨by rw [List.length_set]; exact L.len, fun j t hj => ?_, nodup_setS e L.nd, fun p hp => L.mx p (muts_setS e hp), L.m0, L.xd, L.base, L.dom, fun p hp => L.own p (muts_setS e hp), L.tf⟩
  by_cases z : j = i
  · subst z
    have hlt : j < Γ.length := by
      have h2 := (List.getElem?_eq_some_iff.mp hj).1
      rw [List.length_set] at h2; exact h2
    rw [List.getElem?_set_self hlt] at hj
    cases hj
    rw [List.getElem?_set_self (by rw [L.len]; exact hi)]
    exact r
  · rw [List.getElem?_set_ne (Ne.symm z)] at hj
    rw [List.getElem?_set_ne (Ne.symm z)]
    exact L.at_ j t hj
end
/-- a weaker description: slots forgotten, the last ones dropped -/
def Wk : List Sl → List Sl → Prop
  | _, [] => True
  | [], s' :: Γ' => s' = .unk ∧ Wk [] Γ'
  | s :: Γ, s' :: Γ' => (s' = s ∨ s' = .unk) ∧ Wk Γ Γ'
theorem Wk.e {Γ : List Sl} : Wk Γ [] := by cases Γ <;> exact trivial
theorem Wk.k {s : Sl} {Γ Γ' : List Sl} (h : Wk Γ Γ') : Wk (s :: Γ) (s :: Γ') := ⟨.inl rfl, h⟩
theorem Wk.d {s : Sl} {Γ Γ' : List Sl} (h : Wk Γ Γ') : Wk (s :: Γ) (.unk :: Γ') := ⟨.inr rfl, h⟩
theorem Wk.get : ∀ {Γ Γ' : List Sl}, Wk Γ Γ' → ∀ {i : Nat} {s : Sl}, Γ'[i]? = some s → s = .unk ∨ Γ[i]? = some s
  | _, [], _, _, _, e => by simp at e
  | [], s' :: Γ', ⟨h, t⟩, 0, s, e => by simp at e; subst e; exact .inl h
  | [], s' :: Γ', ⟨h, t⟩, i + 1, s, e => by
    rcases Wk.get t (i := i) (s := s) (by simpa using e) with z | z
    · exact .inl z
    · simp at z
  | s0 :: Γ, s' :: Γ', ⟨h, t⟩, 0, s, e => by
    simp at e; subst e
    rcases h with h | h
    · subst h; exact .inr rfl
    · exact .inl h
  | s0 :: Γ, s' :: Γ', ⟨h, t⟩, i + 1, s, e => by
    rcases Wk.get t (i := i) (s := s) (by simpa using e) with z | z
    · exact .inl z
    · exact .inr (by simpa using z)
theorem Wk.sub : ∀ {Γ Γ' : List Sl}, Wk Γ Γ' → (muts Γ').Sublist (muts Γ)
  | _, [], _ => List.nil_sublist _
  | [], s' :: Γ', ⟨h, t⟩ => by
    subst h
    exact Wk.sub (Γ := []) (Γ' := Γ') t
  | s0 :: Γ, s' :: Γ', ⟨h, t⟩ => by
    have ih := Wk.sub t
    unfold muts at ih ⊢
    rw [List.filterMap_cons, List.filterMap_cons]
    rcases h with h | h
    · subst h
      cases s'.ad with
      | none => exact ih
      | some p => exact ih.cons_cons _
    · subst h
      show (List.filterMap Sl.ad Γ').Sublist _
      cases s0.ad with
      | none => exact ih
      | some p => exact ih.cons _

/-- what a def tells: data, or a new object of the caller's own -/
inductive Rs where
  | imm (d : PyData)
  | immN (Z : Addr → Prop) (d : PyData)
  | new (o : MO)
  | raw (R : V → Hp → Prop)
def RRep (K : PySem.W.Frag) (X : Addr → Prop) (H H' : Hp) : Rs → V → Prop
  | .imm d, v => Rep K X H' d v
  | .immN Z d, v => Rep K (NewX X Z H') H' d v
  | .new o, v => ∃ p, v = .ref p ∧ H p = none ∧ MRep K (fun a => X a ∨ a = p) H' p o
  | .raw R, v => R v H'
structure Fin (K : PySem.W.Frag) (X : Addr → Prop) (H : Hp) (P0 : List Addr) (ps : List (Addr × MO)) (rs : Rs) (v : V) (H' : Hp) : Prop where
  base : ∀ a o, H a = some o → a ∉ P0 → H' a = some o
  dom : ∀ a, H a ≠ none → H' a ≠ none
  mu : ∀ q ∈ ps, MRep K X H' q.1 q.2
  res : RRep K X H H' rs v
def As (K : PySem.W.Frag) (X : Addr → Prop) (H : Hp) : List Sl → List V → Prop
  | [], vs => vs = []
  | s :: Γ, vs => ∃ v r, vs = v :: r ∧ SlOk K X H (some (some v)) s ∧ As K X H Γ r
theorem As.nil {K : PySem.W.Frag} {X : Addr → Prop} {H : Hp} : As K X H [] [] := rfl
theorem As.im {K : PySem.W.Frag} {X : Addr → Prop} {H : Hp} {d : PyData} {v : V} {Γ : List Sl} {vs : List V} (r : Rep K X H d v) (t : As K X H Γ vs) : As K X H (.imm d :: Γ) (v :: vs) := ⟨v, vs, rfl, ⟨v, rfl, r⟩, t⟩
theorem As.m {K : PySem.W.Frag} {X : Addr → Prop} {H : Hp} {p : Addr} {o : MO} {Γ : List Sl} {vs : List V} (r : MRep K X H p o) (t : As K X H Γ vs) : As K X H (.mu p o :: Γ) (.ref p :: vs) := ⟨_, vs, rfl, ⟨rfl, r⟩, t⟩
theorem As.s {K : PySem.W.Frag} {X : Addr → Prop} {H : Hp} {ns : List Int} {v : V} {Γ : List Sl} {vs : List V} (r : SqX K X H ns v) (t : As K X H Γ vs) : As K X H (.scr ns :: Γ) (v :: vs) := ⟨v, vs, rfl, ⟨v, rfl, r⟩, t⟩
/-- what a def asks of its arguments -/
structure Cond (K : PySem.W.Frag) (X : Addr → Prop) (H : Hp) (Γ : List Sl) (vs : List V) : Prop where
  as : As K X H Γ vs
  nd : (muts Γ).Nodup
  mx : ∀ p ∈ muts Γ, X p
  xd : ∀ a, X a → H a ≠ none
theorem As.len {K : PySem.W.Frag} {X : Addr → Prop} {H : Hp} : ∀ {Γ : List Sl} {vs : List V}, As K X H Γ vs → vs.length = Γ.length
  | [], _, h => by subst h; rfl
  | s :: Γ, _, ⟨v, r, e, _, t⟩ => by subst e; exact congrArg (· + 1) (As.len t)
theorem As.get {K : PySem.W.Frag} {X : Addr → Prop} {H : Hp} : ∀ {Γ : List Sl} {vs : List V}, As K X H Γ vs → ∀ {i : Nat} {s : Sl}, Γ[i]? = some s → ∃ v, vs[i]? = some v ∧ SlOk K X H (some (some v)) s
  | [], _, h, _, _, e => by simp at e
  | s :: Γ, _, ⟨v, r, e, h, t⟩, 0, s', e' => by subst e; simp at e'; subst e'; exact ⟨v, rfl, h⟩
  | s :: Γ, _, ⟨v, r, e, h, t⟩, i + 1, s', e' => by
    subst e
    obtain ⟨u, h1, h2⟩ := As.get t (i := i) (s := s') (by simpa using e')
    exact ⟨u, by simpa using h1, h2⟩
theorem Cond.len {K : PySem.W.Frag} {X : Addr → Prop} {H : Hp} {Γ : List Sl} {vs : List V} (c : Cond K X H Γ vs) : vs.length = Γ.length := c.as.len
theorem muts_unk : ∀ {Γ : List Sl} (n : Nat), muts (Γ ++ List.replicate n .unk) = muts Γ := fun {Γ} n => by
  unfold muts
  rw [List.filterMap_append]
  have : ∀ n, List.filterMap Sl.ad (List.replicate n Sl.unk) = [] := fun n => by
    induction n with
    | zero => rfl
    | succ n ih => rw [List.replicate_succ, List.filterMap_cons]; exact ih
  rw [this, List.append_nil]
theorem Cond.start {K : PySem.W.Frag} {X : Addr → Prop} {H : Hp} {Γ : List Sl} {vs : List V} (c : Cond K X H Γ vs) (N : List Str) (hn : Γ.length ≤ N.length) :
    Lo ⟨K, X, H, muts Γ, N.length⟩ X H (L2.start N vs) (Γ ++ List.replicate (N.length - Γ.length) .unk) := by
  refine ⟨?_, fun i s hi => ?_, by rw [muts_unk]; exact c.nd, fun p hp => c.mx p (by rw [muts_unk] at hp; exact hp), fun _ h => h, c.xd, fun _ _ h _ => h, fun _ h => h, fun p hp => .inl (by rw [muts_unk] at hp; exact hp), fun a ha => ?_⟩
  · show (vs.map some ++ List.replicate (N.length - vs.length) none).length = N.length
    rw [List.length_append, List.length_map, List.length_replicate, c.len]
    omega
  · by_cases h : i < Γ.length
    · rw [List.getElem?_append_left h] at hi
      obtain ⟨v, h1, h2⟩ := c.as.get hi
      have h3 : (L2.start N vs)[i]? = some (some v) := by
        show (vs.map some ++ List.replicate (N.length - vs.length) none)[i]? = _
        rw [List.getElem?_append_left (by rw [List.length_map, c.len]; exact h), List.getElem?_map, h1]
        rfl
      rw [h3]; exact h2
    · rw [List.getElem?_append_right (by omega)] at hi
      have := List.mem_of_getElem? hi
      rw [List.mem_replicate] at this
      rw [this.2]; trivial
  · obtain ⟨i, s, hi, e⟩ := mem_muts.mp (show a ∈ muts Γ from ha)
    obtain ⟨v, _, h2⟩ := c.as.get hi
    obtain ⟨o, r⟩ := h2.mrep e
    exact r.ntup

section
variable {C : Cn} {X : Addr → Prop} {H H' : Hp} {σ : L2.St} {Γ Γ' : List Sl}
theorem Lo.weak (L : Lo C X H σ Γ) (w : Wk Γ Γ') : Lo C X H σ Γ' := by
  refine ⟨L.len, fun i s hi => ?_, w.sub.nodup L.nd, fun p hp => L.mx p (w.sub.mem hp), L.m0, L.xd, L.base, L.dom, fun p hp => L.own p (w.sub.mem hp), L.tf⟩
  rcases w.get hi with z | z
  · subst z; trivial
  · exact L.at_ i s z
/-- an enclosing view is entered and left -/
abbrev Cn.at_ (C : Cn) (X : Addr → Prop) (H : Hp) (Γ : List Sl) : Cn := ⟨C.K, X, H, muts Γ, C.n⟩
theorem Lo.enter (L : Lo C X H σ Γ) : Lo (C.at_ X H Γ) X H σ Γ :=
  ⟨L.len, L.at_, L.nd, L.mx, fun _ h => h, L.xd, fun _ _ h _ => h, fun _ h => h, fun _ hp => .inl hp, fun a ha => by
    obtain ⟨o, r⟩ := L.mem (p := a) ha
    exact r.ntup⟩
theorem Lo.nown (L : Lo C X H σ Γ) {a : Addr} {o : HO} (h : C.H0 a = some o) (n : a ∉ C.P0) : a ∉ muts Γ := fun hp => by
  rcases L.own a hp with z | z
  · exact n z
  · rw [z] at h; cases h
theorem Lo.leave {X' : Addr → Prop} {σ' : L2.St} (L : Lo C X H σ Γ) (M : Lo (C.at_ X H Γ) X' H' σ' Γ') (hs : muts Γ' = muts Γ) : Lo C X H' σ' Γ' := by
  have sub : ∀ a, X a → X' a := M.m0
  refine ⟨M.len, fun i s hi => (M.at_ i s hi).anti sub, M.nd, fun p hp => L.mx p (hs ▸ hp), L.m0, fun a h => M.xd a (sub a h), fun a o e n => M.base a o (L.base a o e n) (L.nown e n), fun a h => M.dom a (L.dom a h), fun p hp => L.own p (hs ▸ hp), L.tf⟩
theorem Lo.keep {X' : Addr → Prop} {σ' : L2.St} (L : Lo C X H σ Γ) (M : Lo (C.at_ X H Γ) X' H' σ' Γ') : Keep X H H' := by
  refine ⟨fun a o e n => M.base a o e fun h => n (L.mx a h), fun a vs e => M.base a _ e fun h => ?_, fun a o u e => M.base a _ e fun h => ?_⟩
  · obtain ⟨o, r⟩ := L.mem (p := a) h
    exact r.ntup.1 _ e
  · obtain ⟨o', r⟩ := L.mem (p := a) h
    exact r.ntup.2 _ _ e
theorem Fin.leave {ps : List (Addr × MO)} {rs : Rs} {v : V} (L : Lo C X H σ Γ) (F : Fin C.K X H (muts Γ) ps rs v H') : Fin C.K C.X0 C.H0 C.P0 ps rs v H' := by
  refine ⟨fun a o e n => F.base a o (L.base a o e n) (L.nown e n), fun a h => F.dom a (L.dom a h), fun q hq => (F.mu q hq).anti L.m0, ?_⟩
  cases rs with
  | imm d => exact Rep.anti L.m0 F.res
  | immN Z d => exact Rep.anti (fun a z => z.imp (L.m0 a) id) F.res
  | raw R => exact F.res
  | new o =>
    obtain ⟨p, e, h, r⟩ := F.res
    refine ⟨p, e, ?_, r.anti fun a h => h.elim (fun z => .inl (L.m0 a z)) .inr⟩
    cases e : C.H0 p with
    | none => rfl
    | some o => exact (L.dom p (by rw [e]; exact fun z => nomatch z) h).elim
/-- the end of a def: data is told -/
theorem Lo.fin {ps : List (Addr × MO)} {d : PyData} {v : V} (L : Lo C X H σ Γ) (hp : ∀ q ∈ ps, MRep C.K X H q.1 q.2) (r : Rep C.K X H d v) : Fin C.K C.X0 C.H0 C.P0 ps (.imm d) v H :=
  ⟨L.base, L.dom, fun q hq => (hp q hq).anti L.m0, Rep.anti L.m0 r⟩
theorem Lo.finZ {ps : List (Addr × MO)} {Z : Addr → Prop} {d : PyData} {v : V} (L : Lo C X H σ Γ) (hp : ∀ q ∈ ps, MRep C.K X H q.1 q.2) (r : Rep C.K (NewX X Z H) H d v) : Fin C.K C.X0 C.H0 C.P0 ps (.immN Z d) v H :=
  ⟨L.base, L.dom, fun q hq => (hp q hq).anti L.m0, Rep.anti (fun a z => z.imp (L.m0 a) id) r⟩
theorem Lo.finR {ps : List (Addr × MO)} {R : V → Hp → Prop} {v : V} (L : Lo C X H σ Γ) (hp : ∀ q ∈ ps, MRep C.K X H q.1 q.2) (r : R v H) : Fin C.K C.X0 C.H0 C.P0 ps (.raw R) v H :=
  ⟨L.base, L.dom, fun q hq => (hp q hq).anti L.m0, r⟩
/-- .. an object that the body has made -/
theorem Lo.finN {ps : List (Addr × MO)} {o : MO} {p : Addr} (L : Lo C X H σ Γ) (hp : ∀ q ∈ ps, MRep C.K X H q.1 q.2) (hn : C.H0 p = none) (hx : X p) (r : MRep C.K X H p o) : Fin C.K C.X0 C.H0 C.P0 ps (.new o) (.ref p) H :=
  ⟨L.base, L.dom, fun q hq => (hp q hq).anti L.m0, p, rfl, hn, r.anti fun a h => h.elim (L.m0 a) fun e => e ▸ hx⟩
theorem Lo.mrep (L : Lo C X H σ Γ) {i : Nat} {p : Addr} {o : MO} (e : Γ[i]? = some (.mu p o)) : MRep C.K X H p o := (L.at_ i _ e).2

/-- behind a call that wrote nothing of ours -/
theorem Lo.after0 {rs : Rs} {v : V} {ps : List (Addr × MO)} (L : Lo C X H σ Γ) (F : Fin C.K X H [] ps rs v H') : Lo C X H' σ Γ ∧ ∀ d u, Rep C.K X H d u → Rep C.K X H' d u := by
  have s : Same H H' := fun a o e => F.base a o e (by simp)
  exact ⟨L.same s, fun _ _ r => r.keep (.same s)⟩
theorem Lo.cond (L : Lo C X H σ Γ) {Γa : List Sl} {vs : List V} (as : As C.K X H Γa vs) (nd : (muts Γa).Nodup) (sub : ∀ p ∈ muts Γa, p ∈ muts Γ) : Cond C.K X H Γa vs := ⟨as, nd, fun p h => L.mx p (sub p h), L.xd⟩
theorem Lo.get (L : Lo C X H σ Γ) {i : Nat} {d : PyData} (e : Γ[i]? = some (.imm d)) : ∃ u, σ[i]? = some (some u) ∧ Rep C.K X H d u := L.at_ i _ e

theorem ad_unique {Γ : List Sl} (nd : (muts Γ).Nodup) : ∀ {i j : Nat} {s t : Sl} {p : Addr}, Γ[i]? = some s → Γ[j]? = some t → s.ad = some p → t.ad = some p → i = j := by
  induction Γ with
  | nil => intro i j s t p h; simp at h
  | cons s0 Γ ih =>
    intro i j s t p hi hj es et
    have nd' : (List.filterMap Sl.ad (s0 :: Γ)).Nodup := nd
    have tl : (muts Γ).Nodup := by
      rw [List.filterMap_cons] at nd'
      cases e : s0.ad with
      | none => rw [e] at nd'; exact nd'
      | some q => rw [e] at nd'; exact (List.nodup_cons.mp nd').2
    have no : ∀ (k : Nat) (r : Sl), s0.ad = some p → Γ[k]? = some r → r.ad = some p → False := fun k r e0 hk er => by
      rw [List.filterMap_cons, e0] at nd'
      exact (List.nodup_cons.mp nd').1 (List.mem_filterMap.mpr ⟨r, List.mem_of_getElem? hk, er⟩)
    cases i with
    | zero =>
      cases j with
      | zero => rfl
      | succ j =>
        simp at hi hj; subst hi
        exact (no j t es hj et).elim
    | succ i =>
      cases j with
      | zero =>
        simp at hi hj; subst hj
        exact (no i s et hi es).elim
      | succ j =>
        simp at hi hj
        rw [ih tl hi hj es et]
/-- another object at the same place -/
def Sl.to (o : MO) : Sl → Sl
  | .mu p _ => .mu p o
  | .tmp p _ => .tmp p o
  | s => s
theorem muts_to {o : MO} : ∀ {Γ : List Sl} {i : Nat} {s : Sl}, Γ[i]? = some s → muts (Γ.set i (s.to o)) = muts Γ
  | [], _, _, h => by simp at h
  | s0 :: Γ, 0, s, h => by
    simp at h; subst h
    show List.filterMap Sl.ad (s0.to o :: Γ) = List.filterMap Sl.ad (s0 :: Γ)
    rw [List.filterMap_cons, List.filterMap_cons]
    have : (s0.to o).ad = s0.ad := by cases s0 <;> rfl
    rw [this]
  | s0 :: Γ, i + 1, s, h => by
    have ih := muts_to (o := o) (Γ := Γ) (i := i) (s := s) (by simpa using h)
    show List.filterMap Sl.ad (s0 :: Γ.set i (s.to o)) = List.filterMap Sl.ad (s0 :: Γ)
    rw [List.filterMap_cons, List.filterMap_cons]
    have ih' : List.filterMap Sl.ad (Γ.set i (s.to o)) = List.filterMap Sl.ad Γ := ih
    rw [ih']
/-- the object at p is written (or turned by a call): all else keeps -/
theorem Lo.wrote (L : Lo C X H σ Γ) {i : Nat} {p : Addr} {s : Sl} {o : MO} (e : Γ[i]? = some s) (es : s.ad = some p) (hk : ∀ a u, H a = some u → a ≠ p → H' a = some u) (hd : ∀ a, H a ≠ none → H' a ≠ none) (r : MRep C.K X H' p o) :
    Lo C X H' σ (Γ.set i (s.to o)) ∧ ∀ d u, Rep C.K X H d u → Rep C.K X H' d u := by
  have hpm : p ∈ muts Γ := mem_muts.mpr ⟨i, s, e, es⟩
  have hpx : X p := L.mx p hpm
  obtain ⟨o0, r0⟩ := L.mem hpm
  have kp : Keep X H H' := ⟨fun a u h n => hk a u h fun z => n (z ▸ hpx), fun a vs h => hk a _ h fun z => r0.ntup.1 _ (z ▸ h), fun a u w h => hk a _ h fun z => r0.ntup.2 _ _ (z ▸ h)⟩
  have hil : i < Γ.length := (List.getElem?_eq_some_iff.mp e).1
  refine ⟨⟨L.len, fun j t hj => ?_, by rw [muts_to e]; exact L.nd, fun q hq => L.mx q (by rw [muts_to e] at hq; exact hq), L.m0, fun a h => hd a (L.xd a h), fun a u h n => ?_, fun a h => hd a (L.dom a h), fun q hq => L.own q (by rw [muts_to e] at hq; exact hq), L.tf⟩, fun _ _ q => q.keep kp⟩
  · by_cases z : j = i
    · subst z
      rw [List.getElem?_set_self hil] at hj
      have := L.at_ j s e
      cases hj
      cases s with
      | unk => cases es
      | scr ns => cases es
      | ref a => cases es
      | imm d => cases es
      | fix Z d => cases es
      | fixN Z d => cases es
      | lax _ _ => cases es
      | mu q o1 => cases es; exact ⟨this.1, r⟩
      | tmp q o1 => cases es; exact r
    · rw [List.getElem?_set_ne (Ne.symm z)] at hj
      refine (L.at_ j t hj).keep kp fun q eq => ?_
      have ne : q ≠ p := fun y => z (ad_unique L.nd hj e (by rw [eq, y]) es)
      obtain ⟨o1, r1⟩ := L.mem (mem_muts.mpr ⟨j, t, hj, eq⟩)
      cases hq : H q with
      | none => exact (r1.nn hq).elim
      | some u => exact hk q u hq ne
  · have h1 := L.base a u h n
    exact hk a u h1 fun z => by
      subst z
      exact L.nown h n hpm
/-- behind a call that wrote one object -/
theorem Lo.after1 {rs : Rs} {v : V} {p : Addr} {o : MO} {s : Sl} (L : Lo C X H σ Γ) (F : Fin C.K X H [p] [(p, o)] rs v H') {i : Nat} (e : Γ[i]? = some s) (es : s.ad = some p) :
    Lo C X H' σ (Γ.set i (s.to o)) ∧ ∀ d u, Rep C.K X H d u → Rep C.K X H' d u :=
  L.wrote e es (fun a u h n => F.base a u h (by simpa using n)) F.dom (F.mu (p, o) (by simp))
/-- a new object is laid: forbidden from now on -/
theorem Lo.lay (L : Lo C X H σ Γ) {p : Addr} {o : MO} {H1 : Hp} (hn : H p = none) (s : Same H H1) (r : MRep C.K (fun a => X a ∨ a = p) H1 p o) :
    Lo C (fun a => X a ∨ a = p) H1 σ (Γ ++ [.tmp p o]) ∧ (∀ d u, Rep C.K X H d u → Rep C.K (fun a => X a ∨ a = p) H1 d u) ∧ C.H0 p = none ∧ ¬ C.X0 p := by
  have h0 : C.H0 p = none := by
    cases e : C.H0 p with
    | none => rfl
    | some o => exact (L.dom p (by rw [e]; exact fun z => nomatch z) hn).elim
  have hd : ∀ a, H a ≠ none → H1 a = H a := fun a h => by
    cases e : H a with
    | none => exact (h e).elim
    | some o => exact s a o e
  have hm : muts (Γ ++ [Sl.tmp p o]) = muts Γ ++ [p] := by unfold muts; rw [List.filterMap_append]; rfl
  have hnm : p ∉ muts Γ := fun h => L.xd p (L.mx p h) hn
  refine ⟨⟨L.len, fun i t hi => ?_, ?_, fun q hq => ?_, fun a h => .inl (L.m0 a h), fun a h => ?_, fun a u h n => s a u (L.base a u h n), fun a h => ?_, fun q hq => ?_, L.tf⟩, fun _ _ q => (q.more hn).keep (.same s), h0, fun z => L.xd p (L.m0 p z) hn⟩
  · by_cases hlt : i < Γ.length
    · rw [List.getElem?_append_left hlt] at hi
      refine ((L.at_ i t hi).more hn).keep (.same s) fun q e => hd q ?_
      obtain ⟨o', r'⟩ := (L.at_ i t hi).mrep e
      exact r'.nn
    · rw [List.getElem?_append_right (by omega)] at hi
      have ht := List.mem_of_getElem? hi
      rw [List.mem_singleton] at ht
      subst ht
      exact r
  · rw [hm]
    exact List.nodup_append.mpr ⟨L.nd, by simp, fun a ha b hb => by
      rw [List.mem_singleton] at hb
      subst hb
      intro z
      exact hnm (z ▸ ha)⟩
  · rw [hm, List.mem_append, List.mem_singleton] at hq
    exact hq.elim (fun z => .inl (L.mx q z)) .inr
  · rcases h with h | h
    · rw [hd a (L.xd a h)]; exact L.xd a h
    · subst h; exact r.nn
  · rw [hd a (L.dom a h)]; exact L.dom a h
  · rw [hm, List.mem_append, List.mem_singleton] at hq
    exact hq.elim (L.own q) fun z => .inr (z ▸ h0)
/-- the last object is given a name -/
theorem Lo.name {p : Addr} {o : MO} (L : Lo C X H σ (Γ ++ [.tmp p o])) {i : Nat} (hi : i < C.n) (hl : i < Γ.length) : Lo C X H (σ.set i (some (.ref p))) (Γ.set i (.mu p o)) := by
  have hm : muts (Γ ++ [Sl.tmp p o]) = muts Γ ++ [p] := by unfold muts; rw [List.filterMap_append]; rfl
  have nd := L.nd
  rw [hm] at nd
  obtain ⟨nd1, _, nd2⟩ := List.nodup_append.mp nd
  have hnp : p ∉ muts Γ := fun h => nd2 p h p (by simp) rfl
  have sub : ∀ q, q ∈ muts (Γ.set i (.mu p o)) → q ∈ muts (Γ ++ [Sl.tmp p o]) := fun q hq => by
    rw [hm, List.mem_append, List.mem_singleton]
    obtain ⟨j, s, hj, e⟩ := mem_muts.mp hq
    by_cases z : j = i
    · subst z
      rw [List.getElem?_set_self hl] at hj
      cases hj; cases e; exact .inr rfl
    · rw [List.getElem?_set_ne (Ne.symm z)] at hj
      exact .inl (mem_muts.mpr ⟨j, s, hj, e⟩)
  have ndp : ∀ {Γ : List Sl} {i : Nat}, (muts Γ).Nodup → p ∉ muts Γ → (muts (Γ.set i (.mu p o))).Nodup := by
    intro Γ
    induction Γ with
    | nil => intro i h _; exact h
    | cons s0 Γ ih =>
      intro i h hn
      have h' : (List.filterMap Sl.ad (s0 :: Γ)).Nodup := h
      have hn' : p ∉ List.filterMap Sl.ad (s0 :: Γ) := hn
      have hg : p ∉ muts Γ := fun z => hn' (by rw [List.filterMap_cons]; cases s0.ad with | none => exact z | some q => exact List.mem_cons_of_mem _ z)
      have hgn : (muts Γ).Nodup := by
        rw [List.filterMap_cons] at h'
        cases e : s0.ad with
        | none => rw [e] at h'; exact h'
        | some q => rw [e] at h'; exact (List.nodup_cons.mp h').2
      cases i with
      | zero => exact List.nodup_cons.mpr ⟨hg, hgn⟩
      | succ i =>
        have ih' := ih (i := i) hgn hg
        show (List.filterMap Sl.ad (s0 :: Γ.set i (.mu p o))).Nodup
        rw [List.filterMap_cons] at h' hn' ⊢
        cases e : s0.ad with
        | none => exact ih'
        | some q =>
          rw [e] at h' hn'
          refine List.nodup_cons.mpr ⟨fun z => ?_, ih'⟩
          obtain ⟨t, ht, et⟩ := List.mem_filterMap.mp (show q ∈ List.filterMap Sl.ad (Γ.set i (.mu p o)) from z)
          rcases List.mem_or_eq_of_mem_set ht with y | y
          · exact (List.nodup_cons.mp h').1 (List.mem_filterMap.mpr ⟨t, y, et⟩)
          · subst y
            cases et
            exact hn' List.mem_cons_self
  refine ⟨by rw [List.length_set]; exact L.len, fun j t hj => ?_, ndp nd1 hnp, fun q hq => L.mx q (sub q hq), L.m0, L.xd, L.base, L.dom, fun q hq => L.own q (sub q hq), L.tf⟩
  by_cases z : j = i
  · subst z
    rw [List.getElem?_set_self hl] at hj
    cases hj
    refine ⟨List.getElem?_set_self (by rw [L.len]; exact hi), ?_⟩
    exact L.at_ Γ.length (.tmp p o) (by rw [List.getElem?_append_right (Nat.le_refl _)]; simp)
  · rw [List.getElem?_set_ne (Ne.symm z)] at hj
    rw [List.getElem?_set_ne (Ne.symm z)]
    refine L.at_ j t ?_
    rw [List.getElem?_append_left (List.getElem?_eq_some_iff.mp hj).1]
    exact hj
/-- an object that is written no more is data -/
theorem Lo.freeze {p : Addr} {ds : List PyData} (L : Lo C X H σ Γ) {i : Nat} (e : Γ[i]? = some (.mu p (.lst ds))) (hx : ¬ C.X0 p) : Lo C (fun a => X a ∧ a ≠ p) H σ (Γ.set i (.imm (.list ds))) := by
  have hil : i < Γ.length := (List.getElem?_eq_some_iff.mp e).1
  refine ⟨L.len, fun j t hj => ?_, nodup_set L.nd, fun q hq => ⟨L.mx q (muts_set_imm hq), fun z => ?_⟩, fun a h => ⟨L.m0 a h, fun z => hx (z ▸ h)⟩, fun a h => L.xd a h.1, L.base, L.dom, fun q hq => L.own q (muts_set_imm hq), L.tf⟩
  · by_cases z : j = i
    · subst z
      rw [List.getElem?_set_self hil] at hj
      cases hj
      obtain ⟨h1, vs, h2, h3⟩ := L.at_ j _ e
      exact ⟨.ref p, h1, .lst (fun y => y.2 rfl) (.inl h2) (h3.anti fun a h => h.1)⟩
    · rw [List.getElem?_set_ne (Ne.symm z)] at hj
      exact (L.at_ j t hj).anti fun a h => h.1
  · subst z
    obtain ⟨j, s, hj, es⟩ := mem_muts.mp hq
    by_cases y : j = i
    · subst y
      rw [List.getElem?_set_self hil] at hj
      cases hj; cases es
    · rw [List.getElem?_set_ne (Ne.symm y)] at hj
      exact y (ad_unique L.nd hj e es rfl)
theorem RRep.imm {K : PySem.W.Frag} {X : Addr → Prop} {H H' : Hp} {ds : List PyData} {v : V} (r : RRep K X H H' (.new (.lst ds)) v) (xd : ∀ a, X a → H a ≠ none) : Rep K X H' (.list ds) v := by
  obtain ⟨p, e, hn, vs, h2, h3⟩ := r
  subst e
  exact .lst (fun z => xd p z hn) (.inl h2) (h3.anti fun _ z => .inl z)
end
open Py (enc)

/-! ### what may fail -/
/-- .. in the middle of a term -/
theorem obE {α β : Type} {m : Option α} {k : α → Option β} {r : β} {P : Prop} (h : m.bind k = some r) (f : ∀ x, m = some x → k x = some r → P) : P := by
  obtain ⟨x, a, b⟩ := Option.bind_eq_some_iff.mp h
  exact f x a b
theorem ob {α β : Type} {m : Option α} {k : α → Option β} {r : β} (h : m.bind k = some r) : ∃ x, m = some x ∧ k x = some r := Option.bind_eq_some_iff.mp h
/-- a product, a quotient, a rest, where they are told -/
def mulG (a b : Int) : Option Int := if a.natAbs.log2 + b.natAbs.log2 < 1000000 then some (a * b) else none
def divG (a b : Int) : Option Int := if b ≠ 0 ∧ b.natAbs.log2 < 9000 then some (a.fdiv b) else none
def modG (a b : Int) : Option Int := if b ≠ 0 then some (a.fmod b) else none
def lenOk (n : Nat) : Option Unit := if n ≤ 16777216 then some () else none
def guard (b : Bool) : Option Unit := if b = true then some () else none
def iabs (i : Int) : Int := if i < 0 then -i else i
def b2 (b : Bool) : Int := if b = true then 1 else 0
def ix {α : Type} (xs : List α) (i : Int) : Option α := atI xs i
theorem line_eq : sizeLine = 16777216 := sizeLine_eq

section
variable {Xc : Cx}
def cMulG (i j : Int) : Prop := i.natAbs.log2 + j.natAbs.log2 < 1000000
def cDivG (i j : Int) : Prop := j ≠ 0 ∧ j.natAbs.log2 < 9000
theorem op_divG : OpR Xc (binaryOp .FloorDiv) (rI cDivG fun i j => .int (i.fdiv j)) := opI fun i j _ _ _ _ _ hc q => floordiv_int hc.1 q (.inl (PyProof.noPylong_of_log2 hc.2))
end


/-- continuations by name, so that goals stay as they are -/
def KB (Q : Bool → Hp → Prop) : VK := fun x H => ∃ k, x = .bl k ∧ Q k H
def KNot (Q : Bool → Hp → Prop) : Bool → Hp → Prop := fun c H => Q (!c) H
def KAnd (u : TT) (σ : L2.St) (Q : Bool → Hp → Prop) : Bool → Hp → Prop := fun c H => if c = true then u σ H Q else Q false H
def KOr (u : TT) (σ : L2.St) (Q : Bool → Hp → Prop) : Bool → Hp → Prop := fun c H => if c = true then Q true H else u σ H Q
def KNotV (Q : VK) : Bool → Hp → Prop := fun c H => Q (.bl (!c)) H
def KAndV (u : TE) (σ : L2.St) (Q : VK) : Bool → Hp → Prop := fun c H => if c = true then u σ H Q else Q (.bl false) H
def KOrV (u : TE) (σ : L2.St) (Q : VK) : Bool → Hp → Prop := fun c H => if c = true then Q (.bl true) H else u σ H Q
def KIf (t u : TS) (D : Ends) (σ : L2.St) : Bool → Hp → Prop := fun c H => if c = true then t D σ H else u D σ H
def KIfE (t u : TE) (σ : L2.St) (Q : VK) : Bool → Hp → Prop := fun c H => if c = true then t σ H Q else u σ H Q
def KTup (Q : VK) : List V → Hp → Prop := fun xs H => xs.length ≤ sizeLine ∧ ∀ p, H p = none → Q (.ref p) (upd H p (.tup xs))
def KLst (Q : VK) : List V → Hp → Prop := fun xs H => xs.length ≤ sizeLine ∧ ∀ p, H p = none → Q (.ref p) (upd H p (.lst xs))
def KPar (i j : Nat) (σ : L2.St) (N : L2.St → Hp → Prop) : List V → Hp → Prop := fun vs H => ∃ v w, vs = [v, w] ∧ N ((σ.set i (some v)).set j (some w)) H

section
variable {C : Cn} {X : Addr → Prop} {H : Hp} {σ : L2.St} {Γ Γ' : List Sl} {Q : VK} {α β γ δ ε ρ : Type}
/-! ### expressions, from the left -/
theorem x_op {r : R2} {ta tb : TE} (h : ta σ H fun x H1 => tb σ H1 fun y H2 => r x y H2 Q) : tOp r ta tb σ H Q := h
theorem x_un {r : V → Hp → VK → Prop} {ta : TE} (h : ta σ H fun x H1 => r x H1 Q) : tUn r ta σ H Q := h
theorem x_c {v : V} (h : Q v H) : tC v σ H Q := h
theorem x_cons {ta : TE} {tr : TA} {Q : List V → Hp → Prop} (h : ta σ H fun x H1 => tr σ H1 fun xs H2 => Q (x :: xs) H2) : tCons ta tr σ H Q := h
theorem x_nil {Q : List V → Hp → Prop} (h : Q [] H) : tNil σ H Q := h
/-- a name of the def: data, an object that may be written, the script -/
theorem x_vd {i : Nat} {d : PyData} (L : Lo C X H σ Γ) (e : Γ[i]? = some (.imm d)) (h : ∀ v, Rep C.K X H d v → Q v H) : tVar i σ H Q := by
  obtain ⟨u, h1, h2⟩ := L.get e
  exact ⟨u, h1, h u h2⟩
theorem x_vm {i : Nat} {p : Addr} {o : MO} (L : Lo C X H σ Γ) (e : Γ[i]? = some (.mu p o)) (h : Q (.ref p) H) : tVar i σ H Q := ⟨_, (L.at_ i _ e).1, h⟩
theorem x_vscr {i : Nat} {ns : List Int} (L : Lo C X H σ Γ) (e : Γ[i]? = some (.scr ns)) (h : ∀ v, SqX C.K X H ns v → Q v H) : tVar i σ H Q := by
  obtain ⟨u, h1, h2⟩ := L.at_ i _ e
  exact ⟨u, h1, h u h2⟩
theorem repI {K : PySem.W.Frag} {x : Int} {u : V} (h : Rep K X H (PyData.int x) u) : u = (V.int x) := by cases h; rfl
theorem x_vI {i : Nat} {x : Int} (L : Lo C X H σ Γ) (e : Γ[i]? = some (.imm (PyData.int x))) (h : Q (V.int x) H) : tVar i σ H Q :=
  x_vd L e fun v r => by rw [repI (x := x) r]; exact h
theorem repB {K : PySem.W.Frag} {x : Bool} {u : V} (h : Rep K X H (PyData.bool x) u) : u = (V.bl x) := by cases h; rfl
theorem x_vB {i : Nat} {x : Bool} (L : Lo C X H σ Γ) (e : Γ[i]? = some (.imm (PyData.bool x))) (h : Q (V.bl x) H) : tVar i σ H Q :=
  x_vd L e fun v r => by rw [repB (x := x) r]; exact h
theorem repS {K : PySem.W.Frag} {x : Str} {u : V} (h : Rep K X H (PyData.str x) u) : u = (V.str x) := by cases h; rfl
theorem x_vS {i : Nat} {x : Str} (L : Lo C X H σ Γ) (e : Γ[i]? = some (.imm (PyData.str x))) (h : Q (V.str x) H) : tVar i σ H Q :=
  x_vd L e fun v r => by rw [repS (x := x) r]; exact h
theorem repN {K : PySem.W.Frag} {x : Unit} {u : V} (h : Rep K X H PyData.none u) : u = V.non := by cases h; rfl
theorem x_vN {i : Nat} {x : Unit} (L : Lo C X H σ Γ) (e : Γ[i]? = some (.imm PyData.none)) (h : Q V.non H) : tVar i σ H Q :=
  x_vd L e fun v r => by rw [repN (x := x) r]; exact h
/-! ### whole numbers -/
theorem x_r0 {g : Int → Int → V} {a b : Int} (h : Q (g a b) H) : rI0 g (.int a) (.int b) H Q := ⟨a, b, rfl, rfl, h⟩
theorem x_mulL {a b : Int} (hc : -(2 ^ 64) < a ∧ a < 2 ^ 64) (h : Q (.int (a * b)) H) : rI CMul (fun i j => .int (i * j)) (.int a) (.int b) H Q := ⟨a, b, rfl, rfl, .inl hc, h⟩
theorem x_mulR {a b : Int} (hc : -(2 ^ 64) < b ∧ b < 2 ^ 64) (h : Q (.int (a * b)) H) : rI CMul (fun i j => .int (i * j)) (.int a) (.int b) H Q := ⟨a, b, rfl, rfl, .inr hc, h⟩
theorem x_mulc {a b n : Int} (hc : a.natAbs.log2 + b.natAbs.log2 < 1000000) (e : a * b = n) (h : Q (.int n) H) : rI CMulW (fun i j => .int (i * j)) (.int a) (.int b) H Q := by subst e; exact ⟨a, b, rfl, rfl, hc, h⟩
theorem room65 {k : Nat} {A : Around} (r : Room k A) : A.units + 65 < cLine := by have := r.un; omega
theorem x_divc {a b : Int} (hc : CDiv a b) (h : Q (.int (a / b)) H) : rI CDiv (fun i j => .int (i / j)) (.int a) (.int b) H Q := ⟨a, b, rfl, rfl, hc, h⟩
theorem x_divW {a b : Int} (hc : CDivW a b) (h : Q (.int (a / b)) H) : rI CDivW (fun i j => .int (i / j)) (.int a) (.int b) H Q := ⟨a, b, rfl, rfl, hc, h⟩
theorem x_modc {a b : Int} (hc : 0 < b) (h : Q (.int (a % b)) H) : rI (fun _ j => 0 < j) (fun i j => .int (i % j)) (.int a) (.int b) H Q := ⟨a, b, rfl, rfl, hc, h⟩
theorem x_powc {a b n : Int} (hc : CPow a b) (e : a ^ b.toNat = n) (h : Q (.int n) H) : rI CPow (fun i j => .int (i ^ j.toNat)) (.int a) (.int b) H Q := by subst e; exact ⟨a, b, rfl, rfl, hc, h⟩
theorem x_mul {a b : Int} {k : Int → Option ρ} {r : ρ} (hm : (mulG a b).bind k = some r) (h : ∀ z, mulG a b = some z → k z = some r → Q (.int z) H) : rI CMulW (fun i j => .int (i * j)) (.int a) (.int b) H Q := by
  obtain ⟨z, hz, hk⟩ := ob hm
  have hz' := hz
  unfold mulG at hz'
  split at hz'
  · rename_i hc
    have e : a * b = z := Option.some.inj hz'
    subst e
    exact ⟨a, b, rfl, rfl, hc, h _ hz hk⟩
  · cases hz'
theorem x_div {a b : Int} {k : Int → Option ρ} {r : ρ} (hm : (divG a b).bind k = some r) (h : ∀ z, divG a b = some z → k z = some r → Q (.int z) H) : rI cDivG (fun i j => .int (i.fdiv j)) (.int a) (.int b) H Q := by
  obtain ⟨z, hz, hk⟩ := ob hm
  have hz' := hz
  unfold divG at hz'
  split at hz'
  · rename_i hc
    have e : a.fdiv b = z := Option.some.inj hz'
    subst e
    exact ⟨a, b, rfl, rfl, hc, h _ hz hk⟩
  · cases hz'
theorem x_mod {a b : Int} {k : Int → Option ρ} {r : ρ} (hm : (modG a b).bind k = some r) (h : ∀ z, modG a b = some z → k z = some r → Q (.int z) H) : rI (fun _ j => j ≠ 0) (fun i j => .int (i.fmod j)) (.int a) (.int b) H Q := by
  obtain ⟨z, hz, hk⟩ := ob hm
  have hz' := hz
  unfold modG at hz'
  split at hz'
  · rename_i hc
    have e : a.fmod b = z := Option.some.inj hz'
    subst e
    exact ⟨a, b, rfl, rfl, hc, h _ hz hk⟩
  · cases hz'
theorem x_u {g : Int → V} {a : Int} (h : Q (g a) H) : rU g (.int a) H Q := ⟨a, rfl, h⟩
theorem x_eqi {a b : Int} (h : Q (.bl (decide (a = b))) H) : rEq (.int a) (.int b) H Q := by
  refine ⟨rfl, ?_⟩
  have e : decide (V.int a = V.int b) = decide (a = b) := by by_cases z : a = b <;> simp [z]
  rw [e]; exact h
theorem x_nei {a b : Int} (h : Q (.bl (!decide (a = b))) H) : rNe (.int a) (.int b) H Q := by
  refine ⟨rfl, ?_⟩
  have e : decide (V.int a = V.int b) = decide (a = b) := by by_cases z : a = b <;> simp [z]
  rw [e]; exact h
theorem x_eqb {a b : Bool} (h : Q (.bl (decide (a = b))) H) : rEq (.bl a) (.bl b) H Q := by
  refine ⟨rfl, ?_⟩
  have e : decide (V.bl a = V.bl b) = decide (a = b) := by by_cases z : a = b <;> simp [z]
  rw [e]; exact h
theorem x_neb {a b : Bool} (h : Q (.bl (!decide (a = b))) H) : rNe (.bl a) (.bl b) H Q := by
  refine ⟨rfl, ?_⟩
  have e : decide (V.bl a = V.bl b) = decide (a = b) := by by_cases z : a = b <;> simp [z]
  rw [e]; exact h
theorem x_eqs {a b : Str} (h : Q (.bl (decide (a = b))) H) : rEq (.str a) (.str b) H Q := by
  refine ⟨rfl, ?_⟩
  have e : decide (V.str a = V.str b) = decide (a = b) := by by_cases z : a = b <;> simp [z]
  rw [e]; exact h
theorem x_nes {a b : Str} (h : Q (.bl (!decide (a = b))) H) : rNe (.str a) (.str b) H Q := by
  refine ⟨rfl, ?_⟩
  have e : decide (V.str a = V.str b) = decide (a = b) := by by_cases z : a = b <;> simp [z]
  rw [e]; exact h
/-- an item of a tuple -/
theorem rep_tupS {K : PySem.W.Frag} {ds : List PyData} {v : V} (r : Rep K X H (.tuple ds) v) : ∃ a vs, v = .ref a ∧ H a = some (.tup vs) ∧ Reps K X H ds vs := by
  cases r with | tup h q => exact ⟨_, _, rfl, h, q⟩
theorem rep_tup {K : PySem.W.Frag} {ds : List PyData} {v : V} (r : Rep K X H (.tuple ds) v) : ∃ a vs, v = .ref a ∧ SqT K H a vs ∧ Reps K X H ds vs := by
  cases r with | tup h q => exact ⟨_, _, rfl, .inl (.inl h), q⟩
theorem rep_lst {K : PySem.W.Frag} {ds : List PyData} {v : V} (r : Rep K X H (.list ds) v) : ∃ a vs, v = .ref a ∧ ¬ X a ∧ Rd H a (.lst vs) ∧ Reps K X H ds vs := by
  cases r with | lst n h q => exact ⟨_, _, rfl, n, h, q⟩
theorem atI_reps {K : PySem.W.Frag} {ds : List PyData} {vs : List V} {i : Int} {d : PyData} (q : Reps K X H ds vs) (e : atI ds i = some d) : ∃ u, atI vs i = some u ∧ Rep K X H d u := by
  unfold atI at e ⊢
  rw [q.length]
  cases h : ixN ds.length i with
  | none => rw [h] at e; cases e
  | some j => rw [h] at e; exact q.get e
theorem x_ixT {ds : List PyData} {d : PyData} {i : Int} {v : V} (r : Rep C.K X H (.tuple ds) v) (e : atI ds i = some d) (h : ∀ u, Rep C.K X H d u → Q u H) : rIxT C.K v (.int i) H Q := by
  obtain ⟨a, vs, rfl, hs, q⟩ := rep_tup r
  obtain ⟨u, h1, h2⟩ := atI_reps q e
  exact ⟨a, vs, i, u, rfl, rfl, hs, h1, h u h2⟩
theorem x_ixTI {ds : List PyData} {x : Int} {i : Int} {v : V} (r : Rep C.K X H (.tuple ds) v) (e : atI ds i = some (PyData.int x)) (h : Q (V.int x) H) : rIxT C.K v (.int i) H Q :=
  x_ixT r e fun u q => by rw [repI (x := x) q]; exact h
theorem x_ixTB {ds : List PyData} {x : Bool} {i : Int} {v : V} (r : Rep C.K X H (.tuple ds) v) (e : atI ds i = some (PyData.bool x)) (h : Q (V.bl x) H) : rIxT C.K v (.int i) H Q :=
  x_ixT r e fun u q => by rw [repB (x := x) q]; exact h
theorem x_ixTS {ds : List PyData} {x : Str} {i : Int} {v : V} (r : Rep C.K X H (.tuple ds) v) (e : atI ds i = some (PyData.str x)) (h : Q (V.str x) H) : rIxT C.K v (.int i) H Q :=
  x_ixT r e fun u q => by rw [repS (x := x) q]; exact h
theorem x_ixTN {ds : List PyData} {x : Unit} {i : Int} {v : V} (r : Rep C.K X H (.tuple ds) v) (e : atI ds i = some PyData.none) (h : Q V.non H) : rIxT C.K v (.int i) H Q :=
  x_ixT r e fun u q => by rw [repN (x := x) q]; exact h
theorem atI_map {f : α → β} {xs : List α} {i : Int} : atI (xs.map f) i = (atI xs i).map f := by
  unfold atI
  rw [List.length_map]
  cases ixN xs.length i with
  | none => rfl
  | some j => exact List.getElem?_map ..
/-- an item of a list -/
theorem x_ixL [Py α] {xs : List α} {i : Int} {v : V} {k : α → Option ρ} {r : ρ} (hm : (ix xs i).bind k = some r) (q : Rep C.K X H (enc xs) v) (h : ∀ x u, ix xs i = some x → k x = some r → Rep C.K X H (enc x) u → Q u H) : rIxL C.K v (.int i) H Q := by
  obtain ⟨x, hx, hk⟩ := ob hm
  obtain ⟨a, vs, rfl, _, hs, q⟩ := rep_lst (ds := xs.map enc) q
  have e : atI (xs.map enc) i = some (enc x) := by rw [atI_map]; unfold ix at hx; rw [hx]; rfl
  obtain ⟨u, h1, h2⟩ := atI_reps q e
  exact ⟨a, vs, i, u, rfl, rfl, .inl hs, h1, h x u hx hk h2⟩
theorem x_ixLI {xs : List Int} {i : Int} {v : V} {k : Int → Option ρ} {r : ρ} (hm : (ix xs i).bind k = some r) (q : Rep C.K X H (enc xs) v) (h : ∀ x, ix xs i = some x → k x = some r → Q (V.int x) H) : rIxL C.K v (.int i) H Q :=
  x_ixL hm q fun x u h1 h2 r => by rw [repI (x := x) r]; exact h x h1 h2
theorem x_ixLB {xs : List Bool} {i : Int} {v : V} {k : Bool → Option ρ} {r : ρ} (hm : (ix xs i).bind k = some r) (q : Rep C.K X H (enc xs) v) (h : ∀ x, ix xs i = some x → k x = some r → Q (V.bl x) H) : rIxL C.K v (.int i) H Q :=
  x_ixL hm q fun x u h1 h2 r => by rw [repB (x := x) r]; exact h x h1 h2
theorem x_ixLS {xs : List Str} {i : Int} {v : V} {k : Str → Option ρ} {r : ρ} (hm : (ix xs i).bind k = some r) (q : Rep C.K X H (enc xs) v) (h : ∀ x, ix xs i = some x → k x = some r → Q (V.str x) H) : rIxL C.K v (.int i) H Q :=
  x_ixL hm q fun x u h1 h2 r => by rw [repS (x := x) r]; exact h x h1 h2
theorem x_ixLN {xs : List Unit} {i : Int} {v : V} {k : Unit → Option ρ} {r : ρ} (hm : (ix xs i).bind k = some r) (q : Rep C.K X H (enc xs) v) (h : ∀ x, ix xs i = some x → k x = some r → Q V.non H) : rIxL C.K v (.int i) H Q :=
  x_ixL hm q fun x u h1 h2 r => by rw [repN (x := x) r]; exact h x h1 h2
/-- .. of a list that may be written -/
theorem x_ixM [Py α] {xs : List α} {i : Int} {j : Nat} {p : Addr} {k : α → Option ρ} {r : ρ} (L : Lo C X H σ Γ) (g : Γ[j]? = some (.mu p (ml xs))) (hm : (ix xs i).bind k = some r) (h : ∀ x u, ix xs i = some x → k x = some r → Rep C.K X H (enc x) u → Q u H) : rIxL C.K (.ref p) (.int i) H Q := by
  obtain ⟨x, hx, hk⟩ := ob hm
  obtain ⟨vs, hs, q⟩ := L.mrep g
  have e : atI (xs.map enc) i = some (enc x) := by rw [atI_map]; unfold ix at hx; rw [hx]; rfl
  obtain ⟨u, h1, h2⟩ := atI_reps q e
  exact ⟨p, vs, i, u, rfl, rfl, .inl (.inl hs), h1, h x u hx hk h2⟩
theorem x_ixMI {xs : List Int} {i : Int} {j : Nat} {p : Addr} {k : Int → Option ρ} {r : ρ} (L : Lo C X H σ Γ) (g : Γ[j]? = some (.mu p (ml xs))) (hm : (ix xs i).bind k = some r) (h : ∀ x, ix xs i = some x → k x = some r → Q (V.int x) H) : rIxL C.K (.ref p) (.int i) H Q :=
  x_ixM L g hm fun x u h1 h2 r => by rw [repI (x := x) r]; exact h x h1 h2
theorem x_ixMB {xs : List Bool} {i : Int} {j : Nat} {p : Addr} {k : Bool → Option ρ} {r : ρ} (L : Lo C X H σ Γ) (g : Γ[j]? = some (.mu p (ml xs))) (hm : (ix xs i).bind k = some r) (h : ∀ x, ix xs i = some x → k x = some r → Q (V.bl x) H) : rIxL C.K (.ref p) (.int i) H Q :=
  x_ixM L g hm fun x u h1 h2 r => by rw [repB (x := x) r]; exact h x h1 h2
theorem x_ixMS {xs : List Str} {i : Int} {j : Nat} {p : Addr} {k : Str → Option ρ} {r : ρ} (L : Lo C X H σ Γ) (g : Γ[j]? = some (.mu p (ml xs))) (hm : (ix xs i).bind k = some r) (h : ∀ x, ix xs i = some x → k x = some r → Q (V.str x) H) : rIxL C.K (.ref p) (.int i) H Q :=
  x_ixM L g hm fun x u h1 h2 r => by rw [repS (x := x) r]; exact h x h1 h2
theorem x_ixMN {xs : List Unit} {i : Int} {j : Nat} {p : Addr} {k : Unit → Option ρ} {r : ρ} (L : Lo C X H σ Γ) (g : Γ[j]? = some (.mu p (ml xs))) (hm : (ix xs i).bind k = some r) (h : ∀ x, ix xs i = some x → k x = some r → Q V.non H) : rIxL C.K (.ref p) (.int i) H Q :=
  x_ixM L g hm fun x u h1 h2 r => by rw [repN (x := x) r]; exact h x h1 h2
/-- .. of the script -/
theorem x_ixS {ns : List Int} {i : Int} {v : V} {k : Int → Option ρ} {r : ρ} (hm : (ix ns i).bind k = some r) (q : SqX C.K X H ns v) (h : ∀ x, ix ns i = some x → k x = some r → Q (.int x) H) : rIxL C.K v (.int i) H Q := by
  obtain ⟨x, hx, hk⟩ := ob hm
  obtain ⟨a, rfl, hs⟩ := q.sq
  have e : atI (ns.map V.int) i = some (.int x) := by rw [atI_map]; unfold ix at hx; rw [hx]; rfl
  exact ⟨a, _, i, _, rfl, rfl, hs, e, h x hx hk⟩
/-! ### displays -/
theorem x_tup {t : TA} (h : t σ H (KTup Q)) : tTup t σ H Q := h
theorem x_lst {t : TA} (h : t σ H (KLst Q)) : tLst t σ H Q := h
theorem same_upd {p : Addr} {o : HO} (h : H p = none) : Same H (upd H p o) := fun b u e => by rw [upd_ne (ne_of_none e h)]; exact e
theorem x_mkT {ds : List PyData} {vs : List V} (L : Lo C X H σ Γ) (q : Reps C.K X H ds vs) (hl : vs.length ≤ 16777216) (h : ∀ v H1, Lo C X H1 σ Γ → (∀ d u, Rep C.K X H d u → Rep C.K X H1 d u) → Rep C.K X H1 (.tuple ds) v → Q v H1) : KTup Q vs H := by
  refine ⟨by rw [line_eq]; exact hl, fun p hp => ?_⟩
  have s : Same H (upd H p (.tup vs)) := same_upd hp
  exact h _ _ (L.same s) (fun _ _ r => r.keep (.same s)) (.tup upd_same (q.keep (.same s)))
/-- a new list, told as data -/
theorem x_mkL {ds : List PyData} {vs : List V} (L : Lo C X H σ Γ) (q : Reps C.K X H ds vs) (hl : vs.length ≤ 16777216) (h : ∀ v H1, Lo C X H1 σ Γ → (∀ d u, Rep C.K X H d u → Rep C.K X H1 d u) → Rep C.K X H1 (.list ds) v → Q v H1) : KLst Q vs H := by
  refine ⟨by rw [line_eq]; exact hl, fun p hp => ?_⟩
  have s : Same H (upd H p (.lst vs)) := same_upd hp
  have r : RRep C.K X H (upd H p (.lst vs)) (.new (.lst ds)) (.ref p) := ⟨p, rfl, hp, vs, upd_same, (q.more hp).keep (.same s)⟩
  exact h _ _ (L.same s) (fun _ _ r => r.keep (.same s)) (r.imm L.xd)
/-- a new list of the body's own -/
theorem x_mkN {ds : List PyData} {vs : List V} (L : Lo C X H σ Γ) (q : Reps C.K X H ds vs) (hl : vs.length ≤ 16777216) (h : ∀ p X' H1, C.H0 p = none → ¬ C.X0 p → Lo C X' H1 σ (Γ ++ [.tmp p (.lst ds)]) → (∀ d u, Rep C.K X H d u → Rep C.K X' H1 d u) → Q (.ref p) H1) : KLst Q vs H := by
  refine ⟨by rw [line_eq]; exact hl, fun p hp => ?_⟩
  have s : Same H (upd H p (.lst vs)) := same_upd hp
  obtain ⟨L1, le, h0, hx⟩ := L.lay (o := .lst ds) hp s ⟨vs, upd_same, (q.more hp).keep (.same s)⟩
  exact h p _ _ h0 hx L1 le
/-- behind a call that tells a new object -/
theorem Lo.afterN {v : V} {o : MO} {ps : List (Addr × MO)} {P0 : List Addr} {H' : Hp} (L : Lo C X H σ Γ) (F : Fin C.K X H P0 ps (.new o) v H') (L' : Lo C X H' σ Γ') (kp : Keep X H H') (sub : ∀ p ∈ P0, p ∈ muts Γ) (hm : muts Γ' = muts Γ)
    (hat : ∀ (i : Nat) (s : Sl), Γ'[i]? = some s → (s.ad = none ∧ Γ[i]? = some s) ∨ (∃ p, s.ad = some p ∧ ∀ (q : Addr), H q = none → SlOk C.K (fun a => X a ∨ a = q) H' σ[i]? s)) :
    ∃ p, v = .ref p ∧ C.H0 p = none ∧ ¬ C.X0 p ∧ Lo C (fun a => X a ∨ a = p) H' σ (Γ' ++ [.tmp p o]) ∧ ∀ d u, Rep C.K X H d u → Rep C.K (fun a => X a ∨ a = p) H' d u := by
  obtain ⟨p, e, hn, r⟩ := F.res
  subst e
  have h0 : C.H0 p = none := by
    cases e : C.H0 p with
    | none => rfl
    | some o => exact (L.dom p (by rw [e]; exact fun z => nomatch z) hn).elim
  have kp' : Keep (fun a => X a ∨ a = p) H H' := kp.mono fun a h => .inl h
  have hm2 : muts (Γ' ++ [Sl.tmp p o]) = muts Γ' ++ [p] := by unfold muts; rw [List.filterMap_append]; rfl
  have hnm : p ∉ muts Γ' := fun h => L.xd p (L.mx p (hm ▸ h)) hn
  refine ⟨p, rfl, h0, fun z => L.xd p (L.m0 p z) hn, ⟨L.len, fun i t hi => ?_, ?_, fun q hq => ?_, fun a h => .inl (L.m0 a h), fun a h => ?_, L'.base, L'.dom, fun q hq => ?_, L.tf⟩, fun _ _ q => (q.more hn).keep kp'⟩
  · by_cases hlt : i < Γ'.length
    · rw [List.getElem?_append_left hlt] at hi
      rcases hat i t hi with ⟨h1, h2⟩ | ⟨q, h1, h2⟩
      · exact ((L.at_ i t h2).more hn).keep kp' fun q e => by rw [h1] at e; cases e
      · exact h2 p hn
    · rw [List.getElem?_append_right (by omega)] at hi
      have ht := List.mem_of_getElem? hi
      rw [List.mem_singleton] at ht
      subst ht
      exact r
  · rw [hm2]
    exact List.nodup_append.mpr ⟨L'.nd, by simp, fun a ha b hb => by
      rw [List.mem_singleton] at hb
      subst hb
      intro z
      exact hnm (z ▸ ha)⟩
  · rw [hm2, List.mem_append, List.mem_singleton] at hq
    exact hq.elim (fun z => .inl (L'.mx q z)) .inr
  · rcases h with h | h
    · exact L'.xd a h
    · subst h; exact r.nn
  · rw [hm2, List.mem_append, List.mem_singleton] at hq
    exact hq.elim (L'.own q) fun z => .inr (z ▸ h0)
theorem Lo.after0N {v : V} {o : MO} {ps : List (Addr × MO)} {H' : Hp} (L : Lo C X H σ Γ) (F : Fin C.K X H [] ps (.new o) v H') :
    ∃ p, v = .ref p ∧ C.H0 p = none ∧ ¬ C.X0 p ∧ ∃ X', Lo C X' H' σ (Γ ++ [.tmp p o]) ∧ ∀ d u, Rep C.K X H d u → Rep C.K X' H' d u := by
  have s : Same H H' := fun a o e => F.base a o e (by simp)
  have L' := (L.after0 F).1
  obtain ⟨p, a, b, c, d, e⟩ := L.afterN F L' (.same s) (by simp) rfl fun i t hi => by
    cases e : t.ad with
    | none => exact .inl ⟨rfl, hi⟩
    | some p =>
      refine .inr ⟨p, rfl, fun q hq => ((L.at_ i t hi).more hq).keep (.same s) fun p' e' => ?_⟩
      obtain ⟨o', r'⟩ := (L.at_ i t hi).mrep e'
      cases h : H p' with
      | none => exact (r'.nn h).elim
      | some u => exact s _ _ h
  exact ⟨p, a, b, c, _, d, e⟩
/-! ### tests -/
theorem x_test {t : TE} {Q : Bool → Hp → Prop} (h : t σ H (KB Q)) : tTest t σ H Q := h
theorem x_tB {t : TE} {Q : Bool → Hp → Prop} (h : t σ H (KB Q)) : tB t σ H Q := h
theorem x_kb {b : Bool} {Q : Bool → Hp → Prop} (h : Q b H) : KB Q (.bl b) H := ⟨b, rfl, h⟩
theorem x_not {t : TT} {Q : Bool → Hp → Prop} (h : t σ H (KNot Q)) : tNot t σ H Q := h
theorem x_kn {b : Bool} {Q : Bool → Hp → Prop} (h : Q (!b) H) : KNot Q b H := h
theorem x_notV {t : TE} (h : t σ H (KB (KNotV Q))) : tNotV t σ H Q := h
theorem x_knV {b : Bool} (h : Q (.bl (!b)) H) : KNotV Q b H := h
theorem x_and {t u : TT} {Q : Bool → Hp → Prop} (h : t σ H (KAnd u σ Q)) : tAnd t u σ H Q := h
theorem x_or {t u : TT} {Q : Bool → Hp → Prop} (h : t σ H (KOr u σ Q)) : tOr t u σ H Q := h
theorem x_andV {t u : TE} (h : t σ H (KB (KAndV u σ Q))) : tAndV t u σ H Q := h
theorem x_orV {t u : TE} (h : t σ H (KB (KOrV u σ Q))) : tOrV t u σ H Q := h
theorem x_ifE {t : TT} {ta tb : TE} (h : t σ H (KIfE ta tb σ Q)) : tIf t ta tb σ H Q := h
/-- a second part that can't fail and changes nothing -/
theorem x_andP {A B : Bool} {u : TT} {Q : Bool → Hp → Prop} (hu : ∀ Q' : Bool → Hp → Prop, Q' B H → u σ H Q') (h : Q (A && B) H) : KAnd u σ Q A H := by
  cases A with
  | true => exact hu Q h
  | false => exact h
theorem x_orP {A B : Bool} {u : TT} {Q : Bool → Hp → Prop} (hu : ∀ Q' : Bool → Hp → Prop, Q' B H → u σ H Q') (h : Q (A || B) H) : KOr u σ Q A H := by
  cases A with
  | false => exact hu Q h
  | true => exact h
theorem x_andVP {A B : Bool} {u : TE} (hu : ∀ Q' : VK, Q' (.bl B) H → u σ H Q') (h : Q (.bl (A && B)) H) : KAndV u σ Q A H := by
  cases A with
  | true => exact hu Q h
  | false => exact h
theorem x_orVP {A B : Bool} {u : TE} (hu : ∀ Q' : VK, Q' (.bl B) H → u σ H Q') (h : Q (.bl (A || B)) H) : KOrV u σ Q A H := by
  cases A with
  | false => exact hu Q h
  | true => exact h
/-- .. that may: it runs only then -/
theorem x_andB {A : Bool} {m : Option Bool} {k : Bool → Option ρ} {r : ρ} {u : TT} {Q : Bool → Hp → Prop} (L : Lo C X H σ Γ) (hm : (if A = true then m else some false).bind k = some r)
    (hu : ∀ b, m = some b → ∀ Q' : Bool → Hp → Prop, (∀ H2, Lo C X H2 σ Γ → Q' b H2) → u σ H Q') (h : ∀ b H2, k b = some r → Lo C X H2 σ Γ → Q b H2) : KAnd u σ Q A H := by
  cases A with
  | true =>
    obtain ⟨b, e, hk⟩ := ob hm
    exact hu b e Q fun H2 l => h b H2 hk l
  | false => exact h false H hm L
theorem x_orB {A : Bool} {m : Option Bool} {k : Bool → Option ρ} {r : ρ} {u : TT} {Q : Bool → Hp → Prop} (L : Lo C X H σ Γ) (hm : (if A = true then some true else m).bind k = some r)
    (hu : ∀ b, m = some b → ∀ Q' : Bool → Hp → Prop, (∀ H2, Lo C X H2 σ Γ → Q' b H2) → u σ H Q') (h : ∀ b H2, k b = some r → Lo C X H2 σ Γ → Q b H2) : KOr u σ Q A H := by
  cases A with
  | false =>
    obtain ⟨b, e, hk⟩ := ob hm
    exact hu b e Q fun H2 l => h b H2 hk l
  | true => exact h true H hm L
theorem x_andVB {A : Bool} {m : Option Bool} {k : Bool → Option ρ} {r : ρ} {u : TE} (L : Lo C X H σ Γ) (hm : (if A = true then m else some false).bind k = some r)
    (hu : ∀ b, m = some b → ∀ Q' : VK, (∀ H2, Lo C X H2 σ Γ → Q' (.bl b) H2) → u σ H Q') (h : ∀ b H2, k b = some r → Lo C X H2 σ Γ → Q (.bl b) H2) : KAndV u σ Q A H := by
  cases A with
  | true =>
    obtain ⟨b, e, hk⟩ := ob hm
    exact hu b e Q fun H2 l => h b H2 hk l
  | false => exact h false H hm L
theorem x_orVB {A : Bool} {m : Option Bool} {k : Bool → Option ρ} {r : ρ} {u : TE} (L : Lo C X H σ Γ) (hm : (if A = true then some true else m).bind k = some r)
    (hu : ∀ b, m = some b → ∀ Q' : VK, (∀ H2, Lo C X H2 σ Γ → Q' (.bl b) H2) → u σ H Q') (h : ∀ b H2, k b = some r → Lo C X H2 σ Γ → Q (.bl b) H2) : KOrV u σ Q A H := by
  cases A with
  | false =>
    obtain ⟨b, e, hk⟩ := ob hm
    exact hu b e Q fun H2 l => h b H2 hk l
  | true => exact h true H hm L
theorem x_lfT {B b : Bool} {Q' : Bool → Hp → Prop} (hm : some B = some b) (hQ : ∀ H2, Lo C X H2 σ Γ → Q' b H2) (L : Lo C X H σ Γ) : Q' B H := by cases hm; exact hQ _ L
theorem x_lfV {B b : Bool} {Q' : VK} (hm : some B = some b) (hQ : ∀ H2, Lo C X H2 σ Γ → Q' (.bl b) H2) (L : Lo C X H σ Γ) : Q' (.bl B) H := by cases hm; exact hQ _ L
/-! ### statements -/
section
variable {nx bk ct : L2.St → Hp → Prop} {rt : VK}
theorem x_seq {t u : TS} (h : t ⟨u ⟨nx, rt, bk, ct⟩, rt, bk, ct⟩ σ H) : tSeq t u ⟨nx, rt, bk, ct⟩ σ H := h
theorem x_next (h : nx σ H) : tNext ⟨nx, rt, bk, ct⟩ σ H := h
theorem x_cont (h : ct σ H) : tCont ⟨nx, rt, bk, ct⟩ σ H := h
theorem x_break (h : bk σ H) : tBreak ⟨nx, rt, bk, ct⟩ σ H := h
theorem x_asg {te : TE} {g : TG} (h : te σ H fun x H1 => g x σ H1 nx) : tAsg te g ⟨nx, rt, bk, ct⟩ σ H := h
theorem x_ret {te : TE} (h : te σ H rt) : tRet te ⟨nx, rt, bk, ct⟩ σ H := h
theorem x_retN (h : rt .non H) : tRetN ⟨nx, rt, bk, ct⟩ σ H := h
theorem x_drop {te : TE} (h : te σ H fun _ H1 => nx σ H1) : tDrop te ⟨nx, rt, bk, ct⟩ σ H := h
end
theorem x_ifS {c : TT} {t u : TS} {D : Ends} (h : c σ H (KIf t u D σ)) : tIfS c t u D σ H := h
/-- a branch ends the body: the rest stands in the other one -/
theorem x_if {t u : TS} {D : Ends} {c : Bool} {mA mB : Option ρ} {r : ρ} (hm : (if c = true then mA else mB) = some r) (hA : mA = some r → t D σ H) (hB : mB = some r → u D σ H) : KIf t u D σ c H := by
  cases c with
  | true => exact hA hm
  | false => exact hB hm
theorem x_ifX {t u : TE} {c : Bool} {mA mB : Option ρ} {r : ρ} (hm : (if c = true then mA else mB) = some r) (hA : mA = some r → t σ H Q) (hB : mB = some r → u σ H Q) : KIfE t u σ Q c H := by
  cases c with
  | true => exact hA hm
  | false => exact hB hm
theorem x_set {d : PyData} {i : Nat} {v : V} {N : L2.St → Hp → Prop} (L : Lo C X H σ Γ) (r : Rep C.K X H d v) (hi : i < C.n) (e : Γ.set i (.imm d) = Γ') (h : ∀ σ', Lo C X H σ' Γ' → N σ' H) : gName i v σ H N := by
  subst e
  exact h _ (L.set r hi)
/-- a new object gets a name -/
theorem x_setN {p : Addr} {o : MO} {i : Nat} {N : L2.St → Hp → Prop} (L : Lo C X H σ (Γ ++ [.tmp p o])) (hi : i < C.n) (hl : i < Γ.length) (e : Γ.set i (.mu p o) = Γ') (h : ∀ σ', Lo C X H σ' Γ' → N σ' H) : gName i (.ref p) σ H N := by
  subst e
  exact h _ (L.name hi hl)
/-- two names at once -/
theorem x_par {i j : Nat} {ta : TA} {nx bk ct : L2.St → Hp → Prop} {rt : VK} (h : ta σ H (KPar i j σ nx)) : tPar i j ta ⟨nx, rt, bk, ct⟩ σ H := h
theorem x_par2 {x y : PyData} {i j : Nat} {v w : V} {N : L2.St → Hp → Prop} (L : Lo C X H σ Γ) (r : Rep C.K X H x v) (q : Rep C.K X H y w) (hi : i < C.n) (hj : j < C.n) (e : (Γ.set i (.imm x)).set j (.imm y) = Γ') (h : ∀ σ', Lo C X H σ' Γ' → N σ' H) :
    KPar i j σ N [v, w] H := by
  subst e
  exact ⟨v, w, rfl, h _ ((L.set r hi).set q hj)⟩
def KPar3 (i j l : Nat) (σ : L2.St) (N : L2.St → Hp → Prop) : List V → Hp → Prop := fun vs H => ∃ u v w, vs = [u, v, w] ∧ N (((σ.set i (some u)).set j (some v)).set l (some w)) H
theorem x_par3 {i j l : Nat} {ta : TA} {nx bk ct : L2.St → Hp → Prop} {rt : VK} (h : ta σ H (KPar3 i j l σ nx)) : tPar3 i j l ta ⟨nx, rt, bk, ct⟩ σ H := h
theorem x_par3r {x y z : PyData} {i j l : Nat} {u v w : V} {N : L2.St → Hp → Prop} (L : Lo C X H σ Γ) (r : Rep C.K X H x u) (q : Rep C.K X H y v) (t : Rep C.K X H z w) (hi : i < C.n) (hj : j < C.n) (hl : l < C.n) (e : ((Γ.set i (.imm x)).set j (.imm y)).set l (.imm z) = Γ') (h : ∀ σ', Lo C X H σ' Γ' → N σ' H) :
    KPar3 i j l σ N [u, v, w] H := by
  subst e
  exact ⟨u, v, w, rfl, h _ (((L.set r hi).set q hj).set t hl)⟩
/-- a tuple is parted to names -/
theorem x_gTup {ds : List PyData} {v : V} {n : Nat} {t : TGs} {N : L2.St → Hp → Prop} (r : Rep C.K X H (.tuple ds) v) (hl : ds.length = n) (h : ∀ vs, Reps C.K X H ds vs → t vs σ H N) : gTup C.K n t v σ H N := by
  obtain ⟨a, vs, rfl, hs, q⟩ := rep_tup r
  exact ⟨a, vs, rfl, hs, q.length.trans hl, h vs q⟩
theorem x_gCons {d : PyData} {ds : List PyData} {vs : List V} {t : TG} {u : TGs} {N : L2.St → Hp → Prop} (q : Reps C.K X H (d :: ds) vs) (h : ∀ v r, Rep C.K X H d v → Reps C.K X H ds r → t v σ H fun σ' H' => u r σ' H' N) : gCons t u vs σ H N := by
  cases q with | cons r t => exact ⟨_, _, rfl, h _ _ r t⟩
theorem x_gNil {vs : List V} {N : L2.St → Hp → Prop} (q : Reps C.K X H [] vs) (h : N σ H) : gNil vs σ H N := by
  cases q; exact ⟨rfl, h⟩
/-- an item of a list is written -/
theorem x_gSub {to ti : TE} {t : TSet} {v : V} {N : L2.St → Hp → Prop} (h : to σ H fun o H1 => ti σ H1 fun i H2 => t o i v H2 (N σ)) : gSub to ti t v σ H N := h
def setI (xs : List α) (i : Int) (x : α) : Option (List α) := (ixN xs.length i).map fun j => xs.set j x
theorem x_setI [Py α] {xs : List α} {x : α} {i : Int} {j : Nat} {p : Addr} {v : V} {N : Hp → Prop} {k : List α → Option ρ} {r : ρ} (L : Lo C X H σ Γ) (g : Γ[j]? = some (.mu p (ml xs))) (hm : (setI xs i x).bind k = some r) (q : Rep C.K X H (enc x) v)
    (h : ∀ ys H1, setI xs i x = some ys → k ys = some r → Lo C X H1 σ (Γ.set j (.mu p (ml ys))) → N H1) : rSetL (.ref p) (.int i) v H N := by
  obtain ⟨ys, e, hk⟩ := ob hm
  have e' := e
  unfold setI at e'
  obtain ⟨vs, hs, rs⟩ := L.mrep g
  have hl : vs.length = xs.length := by rw [rs.length, List.length_map]
  cases hj : ixN xs.length i with
  | none => rw [hj] at e'; cases e'
  | some m =>
    rw [hj] at e'
    have e2 : xs.set m x = ys := Option.some.inj e'
    refine ⟨p, vs, i, m, rfl, rfl, hs, by rw [hl]; exact hj, ?_⟩
    have hX : X p := L.mx p (mem_muts.mpr ⟨j, _, g, rfl⟩)
    have kp : Keep X H (upd H p (.lst (vs.set m v))) := ⟨fun a u h n => by rw [upd_ne (fun z => n (by rw [z]; exact hX))]; exact h, fun a us h => by rw [upd_ne (fun z => by rw [z, hs] at h; cases h)]; exact h, fun a u w h => by rw [upd_ne (fun z => by rw [z, hs] at h; cases h)]; exact h⟩
    have := L.wrote (H' := upd H p (.lst (vs.set m v))) (o := ml ys) g rfl (fun a u h n => by rw [upd_ne n]; exact h) (fun a h => by
      by_cases z : a = p
      · rw [z, upd_same]; exact fun y => nomatch y
      · rw [upd_ne z]; exact h) ⟨_, upd_same, by rw [← e2, List.map_set]; exact (rs.set q m).keep kp⟩
    exact h ys _ e hk this.1
end
open Py (enc)

/-- how a loop's turn ends: the next one, out of the loop, out of the def -/
inductive Lp (τ ρ : Type) where
  | nxt (s : τ)
  | brk (s : τ)
  | ret (r : ρ)
def loopL {α τ ρ : Type} (f : α → τ → Option (Lp τ ρ)) : List α → τ → Option (Lp τ ρ)
  | [], s => some (.nxt s)
  | x :: xs, s => (f x s).bind fun o => match o with
    | .nxt s' => loopL f xs s'
    | .brk s' => some (.brk s')
    | .ret r => some (.ret r)
/-- a loop that is left by its end alone -/
def foldO {α τ : Type} (f : α → τ → Option τ) : List α → τ → Option τ
  | [], s => some s
  | x :: xs, s => (f x s).bind fun s' => foldO f xs s'
def loopW {τ ρ : Type} (f : τ → Option (Lp τ ρ)) : Nat → τ → Option (Lp τ ρ)
  | 0, _ => none
  | n + 1, s => (f s).bind fun o => match o with
    | .nxt s' => loopW f n s'
    | .brk s' => some (.brk s')
    | .ret r => some (.ret r)
/-- a while without a break or a return -/
def whileO {τ : Type} (c : τ → Bool) (f : τ → Option τ) : Nat → τ → Option τ
  | 0, _ => none
  | n + 1, s => if c s = true then (f s).bind fun s' => whileO c f n s' else some s
def rangeL (lo : Int) (n : Nat) : List Int := (List.range n).map fun (k : Nat) => lo + (k : Int)

/-- what a loop told -/
def Lp.out {τ ρ ρ' : Type} (o : Lp τ ρ) (j : ρ → Option ρ') (k : τ → Option ρ') : Option ρ' := match o with
  | .nxt s => k s
  | .brk s => k s
  | .ret r => j r
/-- the rest of a loop, of a comprehension, by name -/
def KForL (K : PySem.W.Frag) (g : TG) (tb : TS) (D : Ends) (σ : L2.St) (v : V) (H : Hp) : Prop := ∃ a, v = V.ref a ∧ (∃ xs, SqL K H a xs) ∧ ∃ W : Nat → Nat → L2.St → Hp → Prop, (∃ m, W 0 m σ H) ∧ ∀ i m σ H, W i m σ H →
      ((Itl K a).stop i H ∧ D.nx σ H) ∨ ((Itl K a).go i H ∧ ∃ N : L2.St → Hp → Prop, (∀ σ' H', N σ' H' → ∃ m', m' < m ∧ W (i + 1) m' σ' H') ∧ ∀ x H', (Itl K a).yld i H x H' → g x σ H' fun σ2 H2 => tb { D with nx := N, ct := N, bk := D.nx } σ2 H2)
def KForT (K : PySem.W.Frag) (g : TG) (tb : TS) (D : Ends) (σ : L2.St) (v : V) (H : Hp) : Prop := ∃ a, v = V.ref a ∧ (∃ xs, SqT K H a xs) ∧ ∃ W : Nat → Nat → L2.St → Hp → Prop, (∃ m, W 0 m σ H) ∧ ∀ i m σ H, W i m σ H →
      ((Itt K a).stop i H ∧ D.nx σ H) ∨ ((Itt K a).go i H ∧ ∃ N : L2.St → Hp → Prop, (∀ σ' H', N σ' H' → ∃ m', m' < m ∧ W (i + 1) m' σ' H') ∧ ∀ x H', (Itt K a).yld i H x H' → g x σ H' fun σ2 H2 => tb { D with nx := N, ct := N, bk := D.nx } σ2 H2)
def KForR (lo : Int) (n : Nat) (g : TG) (tb : TS) (D : Ends) (σ : L2.St) (H : Hp) : Prop := ∃ W : Nat → Nat → L2.St → Hp → Prop, (∃ m, W 0 m σ H) ∧ ∀ i m σ H, W i m σ H →
      ((Itr lo n).stop i H ∧ D.nx σ H) ∨ ((Itr lo n).go i H ∧ ∃ N : L2.St → Hp → Prop, (∀ σ' H', N σ' H' → ∃ m', m' < m ∧ W (i + 1) m' σ' H') ∧ ∀ x H', (Itr lo n).yld i H x H' → g x σ H' fun σ2 H2 => tb { D with nx := N, ct := N, bk := D.nx } σ2 H2)
def KWh (tb : TS) (D : Ends) (σ : L2.St) : Bool → Hp → Prop := fun b H => if b = true then tb D σ H else D.bk σ H
def KRng1 (R : Int → Nat → Hp → Prop) : List V → Hp → Prop := fun vs H => ∃ j : Int, vs = [.int j] ∧ -(2 ^ 62) ≤ j ∧ j < 2 ^ 62 ∧ R 0 j.toNat H
def KRng2 (R : Int → Nat → Hp → Prop) : List V → Hp → Prop := fun vs H => ∃ i j : Int, vs = [.int i, .int j] ∧ (-(2 ^ 62) ≤ i ∧ i < 2 ^ 62 ∧ -(2 ^ 62) ≤ j ∧ j < 2 ^ 62) ∧ R i (j - i).toNat H
theorem x_whIf {tb : TS} {nx bk ct : L2.St → Hp → Prop} {rt : VK} {σ : L2.St} {H : Hp} {ρ : Type} {c : Bool} {mA mB : Option ρ} {r : ρ} (hm : (if c = true then mA else mB) = some r) (hA : mA = some r → tb ⟨nx, rt, bk, ct⟩ σ H) (hB : mB = some r → bk σ H) : KWh tb ⟨nx, rt, bk, ct⟩ σ c H := by
  cases c with
  | true => exact hA hm
  | false => exact hB hm
section
variable {C : Cn} {X : Addr → Prop} {H : Hp} {σ : L2.St} {Γ Γ' : List Sl} {Q : VK} {α β τ ρ : Type}
theorem loop_drop {f : α → τ → Option (Lp τ ρ)} {xs : List α} {i : Nat} {x : α} {s : τ} {o : Lp τ ρ} (hx : xs[i]? = some x) (h : loopL f (xs.drop i) s = some o) :
    ∃ o1, f x s = some o1 ∧ (∀ s', o1 = .nxt s' → loopL f (xs.drop (i + 1)) s' = some o) ∧ (∀ s', o1 = .brk s' → o = .brk s') ∧ (∀ r, o1 = .ret r → o = .ret r) := by
  obtain ⟨hl, hx⟩ := List.getElem?_eq_some_iff.mp hx
  rw [List.drop_eq_getElem_cons hl, hx] at h
  obtain ⟨o1, h1, h2⟩ := ob h
  refine ⟨o1, h1, fun s' e => ?_, fun s' e => ?_, fun r e => ?_⟩
  · subst e; exact h2
  · subst e; exact (Option.some.inj h2).symm
  · subst e; exact (Option.some.inj h2).symm
/-- what a loop's body shows of one turn -/
def Body (C : Cn) (X : Addr → Prop) (G : τ → List Sl) (ps : ρ → List (Addr × MO)) (rs : ρ → Rs) (d : PyData) (s : τ) (o : Option (Lp τ ρ)) (g : TG) (tb : TS) : Prop :=
  ∀ (H : Hp) (σ : L2.St) (u : V) (nx : L2.St → Hp → Prop) (rt : VK) (bk ct : L2.St → Hp → Prop) (o1 : Lp τ ρ), o = some o1 → Lo ⟨C.K, X, H, muts (G s), C.n⟩ X H σ (G s) → Rep C.K X H d u →
    (∀ s', o1 = .nxt s' → ∀ X' σ' H', Lo ⟨C.K, X, H, muts (G s), C.n⟩ X' H' σ' (G s') → nx σ' H') →
    (∀ s', o1 = .nxt s' → ∀ X' σ' H', Lo ⟨C.K, X, H, muts (G s), C.n⟩ X' H' σ' (G s') → ct σ' H') →
    (∀ s', o1 = .brk s' → ∀ X' σ' H', Lo ⟨C.K, X, H, muts (G s), C.n⟩ X' H' σ' (G s') → bk σ' H') →
    (∀ r, o1 = .ret r → ∀ v H', Fin C.K X H (muts (G s)) (ps r) (rs r) v H' → rt v H') → g u σ H fun σ2 H2 => tb ⟨nx, rt, bk, ct⟩ σ2 H2
theorem x_for [Py α] {xs : List α} {f : α → τ → Option (Lp τ ρ)} {G : τ → List Sl} {ps : ρ → List (Addr × MO)} {rs : ρ → Rs} {s0 : τ} {o : Lp τ ρ} {v : V} {g : TG} {tb : TS} {nx bk ct : L2.St → Hp → Prop} {rt : VK}
    (L : Lo C X H σ (G s0)) (hG : ∀ s s', muts (G s) = muts (G s')) (r : Rep C.K X H (enc xs) v) (hm : loopL f xs s0 = some o)
    (body : ∀ x s, Body C X G ps rs (enc x) s (f x s) g tb)
    (done : ∀ s, o = .nxt s → ∀ σ' H', Lo C X H' σ' (G s) → nx σ' H') (brk : ∀ s, o = .brk s → ∀ σ' H', Lo C X H' σ' (G s) → nx σ' H')
    (ret : ∀ q, o = .ret q → ∀ v H', Fin C.K C.X0 C.H0 C.P0 (ps q) (rs q) v H' → rt v H') :
    KForL C.K g tb ⟨nx, rt, bk, ct⟩ σ v H := by
  obtain ⟨a, vs, rfl, hna, hrd, hrs⟩ := rep_lst (ds := xs.map enc) r
  refine ⟨a, rfl, ⟨vs, .inl hrd⟩, for_list (K := C.K) (a := a) (xs := vs) (fun i σ' H' => ∃ s, Lo C X H' σ' (G s) ∧ Rep C.K X H' (enc xs) (.ref a) ∧ Rd H' a (.lst vs) ∧ loopL f (xs.drop i) s = some o)
    ⟨s0, L, r, hrd, hm⟩ (fun i σ' H' _ ⟨s, _, _, h, _⟩ => .inl h) ?_ ?_⟩
  · rintro i y σ' H' hy ⟨s, L', r', hd', hm'⟩
    obtain ⟨a', vs', e', _, hrd', hrs'⟩ := rep_lst (ds := xs.map enc) r'
    cases e'
    have ev : vs' = vs := by
      rcases hd' with h1 | ⟨_, h1⟩ <;> rcases hrd' with h2 | ⟨_, h2⟩ <;> rw [h1] at h2 <;> cases h2 <;> rfl
    subst ev
    obtain ⟨d, hd, rd⟩ := hrs'.get' hy
    rw [List.getElem?_map] at hd
    cases hx : xs[i]? with
    | none => rw [hx] at hd; cases hd
    | some x =>
      rw [hx] at hd
      cases hd
      obtain ⟨o1, h1, h2, h3, h4⟩ := loop_drop hx hm'
      refine body x s H' σ' y _ _ _ _ o1 h1 L'.enter rd ?_ ?_ ?_ ?_
      · intro s' e X' σ'' H'' L''
        have k := L'.keep L''
        exact ⟨s', L'.leave L'' (hG _ _), r'.keep k, k.rd hna hrd', h2 s' e⟩
      · intro s' e X' σ'' H'' L''
        have k := L'.keep L''
        exact ⟨s', L'.leave L'' (hG _ _), r'.keep k, k.rd hna hrd', h2 s' e⟩
      · intro s' e X' σ'' H'' L''
        exact brk s' (h3 s' e) _ _ (L'.leave L'' (hG _ _))
      · intro q e v' H'' F
        exact ret q (h4 q e) v' H'' (F.leave L')
  · rintro σ' H' ⟨s, L', _, _, hm'⟩
    rw [hrs.length, List.length_map, List.drop_length] at hm'
    exact done s (Option.some.inj hm').symm _ _ L'
/-- .. over a tuple of such items -/
theorem x_forT [Py α] {xs : List α} {f : α → τ → Option (Lp τ ρ)} {G : τ → List Sl} {ps : ρ → List (Addr × MO)} {rs : ρ → Rs} {s0 : τ} {o : Lp τ ρ} {v : V} {g : TG} {tb : TS} {nx bk ct : L2.St → Hp → Prop} {rt : VK}
    (L : Lo C X H σ (G s0)) (hG : ∀ s s', muts (G s) = muts (G s')) (r : Rep C.K X H (.tuple (xs.map enc)) v) (hm : loopL f xs s0 = some o)
    (body : ∀ x s, Body C X G ps rs (enc x) s (f x s) g tb)
    (done : ∀ s, o = .nxt s → ∀ σ' H', Lo C X H' σ' (G s) → nx σ' H') (brk : ∀ s, o = .brk s → ∀ σ' H', Lo C X H' σ' (G s) → nx σ' H')
    (ret : ∀ q, o = .ret q → ∀ v H', Fin C.K C.X0 C.H0 C.P0 (ps q) (rs q) v H' → rt v H') :
    KForT C.K g tb ⟨nx, rt, bk, ct⟩ σ v H := by
  obtain ⟨a, vs, rfl, hrd, hrs⟩ := rep_tup r
  refine ⟨a, rfl, ⟨vs, hrd⟩, for_tup (K := C.K) (a := a) (xs := vs) (fun i σ' H' => ∃ s, Lo C X H' σ' (G s) ∧ SqT C.K H' a vs ∧ Reps C.K X H' (xs.map enc) vs ∧ loopL f (xs.drop i) s = some o)
    ⟨s0, L, hrd, hrs, hm⟩ (fun i σ' H' _ ⟨s, _, h, _⟩ => h) ?_ ?_⟩
  · rintro i y σ' H' hy ⟨s, L', hrd', hrs', hm'⟩
    obtain ⟨d, hd, rd⟩ := hrs'.get' hy
    rw [List.getElem?_map] at hd
    cases hx : xs[i]? with
    | none => rw [hx] at hd; cases hd
    | some x =>
      rw [hx] at hd
      cases hd
      obtain ⟨o1, h1, h2, h3, h4⟩ := loop_drop hx hm'
      refine body x s H' σ' y _ _ _ _ o1 h1 L'.enter rd ?_ ?_ ?_ ?_
      · intro s' e X' σ'' H'' L''
        have k := L'.keep L''
        exact ⟨s', L'.leave L'' (hG _ _), k.sqT hrd', hrs'.keep k, h2 s' e⟩
      · intro s' e X' σ'' H'' L''
        have k := L'.keep L''
        exact ⟨s', L'.leave L'' (hG _ _), k.sqT hrd', hrs'.keep k, h2 s' e⟩
      · intro s' e X' σ'' H'' L''
        exact brk s' (h3 s' e) _ _ (L'.leave L'' (hG _ _))
      · intro q e v' H'' F
        exact ret q (h4 q e) v' H'' (F.leave L')
  · rintro σ' H' ⟨s, L', _, _, hm'⟩
    rw [hrs.length, List.length_map, List.drop_length] at hm'
    exact done s (Option.some.inj hm').symm _ _ L'
theorem rangeL_get {lo : Int} {n i : Nat} (h : i < n) : (rangeL lo n)[i]? = some (lo + (i : Int)) := by
  unfold rangeL
  rw [List.getElem?_map, List.getElem?_range h]
  rfl
/-- .. over a range -/
theorem x_forR {f : Int → τ → Option (Lp τ ρ)} {G : τ → List Sl} {ps : ρ → List (Addr × MO)} {rs : ρ → Rs} {s0 : τ} {o : Lp τ ρ} {lo : Int} {n : Nat} {g : TG} {tb : TS} {nx bk ct : L2.St → Hp → Prop} {rt : VK}
    (L : Lo C X H σ (G s0)) (hG : ∀ s s', muts (G s) = muts (G s')) (hm : loopL f (rangeL lo n) s0 = some o)
    (body : ∀ x s, Body C X G ps rs (enc x) s (f x s) g tb)
    (done : ∀ s, o = .nxt s → ∀ σ' H', Lo C X H' σ' (G s) → nx σ' H') (brk : ∀ s, o = .brk s → ∀ σ' H', Lo C X H' σ' (G s) → nx σ' H')
    (ret : ∀ q, o = .ret q → ∀ v H', Fin C.K C.X0 C.H0 C.P0 (ps q) (rs q) v H' → rt v H') :
    KForR lo n g tb ⟨nx, rt, bk, ct⟩ σ H := by
  refine for_range (fun i σ' H' => ∃ s, Lo C X H' σ' (G s) ∧ loopL f ((rangeL lo n).drop i) s = some o) ⟨s0, L, hm⟩ ?_ ?_
  · rintro i σ' H' hi ⟨s, L', hm'⟩
    obtain ⟨o1, h1, h2, h3, h4⟩ := loop_drop (rangeL_get hi) hm'
    refine body (lo + (i : Int)) s H' σ' _ _ _ _ _ o1 h1 L'.enter (.int _) ?_ ?_ ?_ ?_
    · intro s' e X' σ'' H'' L''
      exact ⟨s', L'.leave L'' (hG _ _), h2 s' e⟩
    · intro s' e X' σ'' H'' L''
      exact ⟨s', L'.leave L'' (hG _ _), h2 s' e⟩
    · intro s' e X' σ'' H'' L''
      exact brk s' (h3 s' e) _ _ (L'.leave L'' (hG _ _))
    · intro q e v' H'' F
      exact ret q (h4 q e) v' H'' (F.leave L')
  · rintro σ' H' ⟨s, L', hm'⟩
    have hl : (rangeL lo n).length = n := by unfold rangeL; rw [List.length_map, List.length_range]
    have : (rangeL lo n).drop n = [] := List.drop_eq_nil_of_le (by omega)
    rw [this] at hm'
    exact done s (Option.some.inj hm').symm _ _ L'
/-- .. over the script -/
theorem x_forS {xs : List Int} {f : Int → τ → Option (Lp τ ρ)} {G : τ → List Sl} {ps : ρ → List (Addr × MO)} {rs : ρ → Rs} {s0 : τ} {o : Lp τ ρ} {v : V} {g : TG} {tb : TS} {nx bk ct : L2.St → Hp → Prop} {rt : VK}
    (L : Lo C X H σ (G s0)) (hG : ∀ s s', muts (G s) = muts (G s')) (r : SqX C.K X H xs v) (hm : loopL f xs s0 = some o)
    (body : ∀ x s, Body C X G ps rs (enc x) s (f x s) g tb)
    (done : ∀ s, o = .nxt s → ∀ σ' H', Lo C X H' σ' (G s) → nx σ' H') (brk : ∀ s, o = .brk s → ∀ σ' H', Lo C X H' σ' (G s) → nx σ' H')
    (ret : ∀ q, o = .ret q → ∀ v H', Fin C.K C.X0 C.H0 C.P0 (ps q) (rs q) v H' → rt v H') :
    KForL C.K g tb ⟨nx, rt, bk, ct⟩ σ v H := by
  obtain ⟨a, rfl, hs⟩ := r.sq
  refine ⟨a, rfl, ⟨_, hs⟩, for_list (K := C.K) (a := a) (xs := xs.map V.int) (fun i σ' H' => ∃ s, Lo C X H' σ' (G s) ∧ SqX C.K X H' xs (.ref a) ∧ loopL f (xs.drop i) s = some o)
    ⟨s0, L, r, hm⟩ (fun i σ' H' _ ⟨s, _, h, _⟩ => by obtain ⟨a', e, h⟩ := h.sq; cases e; exact h) ?_ ?_⟩
  · rintro i y σ' H' hy ⟨s, L', r', hm'⟩
    rw [List.getElem?_map] at hy
    cases hx : xs[i]? with
    | none => rw [hx] at hy; cases hy
    | some x =>
      rw [hx] at hy
      cases hy
      obtain ⟨o1, h1, h2, h3, h4⟩ := loop_drop hx hm'
      refine body x s H' σ' _ _ _ _ _ o1 h1 L'.enter (.int _) ?_ ?_ ?_ ?_
      · intro s' e X' σ'' H'' L''
        exact ⟨s', L'.leave L'' (hG _ _), r'.keep (L'.keep L''), h2 s' e⟩
      · intro s' e X' σ'' H'' L''
        exact ⟨s', L'.leave L'' (hG _ _), r'.keep (L'.keep L''), h2 s' e⟩
      · intro s' e X' σ'' H'' L''
        exact brk s' (h3 s' e) _ _ (L'.leave L'' (hG _ _))
      · intro q e v' H'' F
        exact ret q (h4 q e) v' H'' (F.leave L')
  · rintro σ' H' ⟨s, L', _, hm'⟩
    rw [List.length_map, List.drop_length] at hm'
    exact done s (Option.some.inj hm').symm _ _ L'
/-- a while: f runs the test, too, and tells brk where it is not so -/
theorem x_while {f : τ → Option (Lp τ ρ)} {G : τ → List Sl} {ps : ρ → List (Addr × MO)} {rs : ρ → Rs} {s0 : τ} {o : Lp τ ρ} {n : Nat} {c : TT} {tb : TS} {nx bk ct : L2.St → Hp → Prop} {rt : VK}
    (L : Lo C X H σ (G s0)) (hG : ∀ s s', muts (G s) = muts (G s')) (hm : loopW f n s0 = some o)
    (body : ∀ s, ∀ (H : Hp) (σ : L2.St) (nx : L2.St → Hp → Prop) (rt : VK) (bk ct : L2.St → Hp → Prop) (o1 : Lp τ ρ), f s = some o1 → Lo ⟨C.K, X, H, muts (G s), C.n⟩ X H σ (G s) →
      (∀ s', o1 = .nxt s' → ∀ X' σ' H', Lo ⟨C.K, X, H, muts (G s), C.n⟩ X' H' σ' (G s') → nx σ' H') →
      (∀ s', o1 = .nxt s' → ∀ X' σ' H', Lo ⟨C.K, X, H, muts (G s), C.n⟩ X' H' σ' (G s') → ct σ' H') →
      (∀ s', o1 = .brk s' → ∀ X' σ' H', Lo ⟨C.K, X, H, muts (G s), C.n⟩ X' H' σ' (G s') → bk σ' H') →
      (∀ r, o1 = .ret r → ∀ v H', Fin C.K X H (muts (G s)) (ps r) (rs r) v H' → rt v H') →
      ∀ Qc : Bool → Hp → Prop, (∀ b H1, KWh tb ⟨nx, rt, bk, ct⟩ σ b H1 → Qc b H1) → c σ H Qc)
    (done : ∀ s, o = .brk s → ∀ σ' H', Lo C X H' σ' (G s) → nx σ' H')
    (ret : ∀ q, o = .ret q → ∀ v H', Fin C.K C.X0 C.H0 C.P0 (ps q) (rs q) v H' → rt v H') : tWhile c tb ⟨nx, rt, bk, ct⟩ σ H := by
  refine ⟨fun m σ' H' => ∃ s, Lo C X H' σ' (G s) ∧ loopW f m s = some o, ⟨n, s0, L, hm⟩, ?_⟩
  rintro m σ' H' ⟨s, L', hm'⟩
  cases m with
  | zero => cases hm'
  | succ m =>
    obtain ⟨o1, h1, h2⟩ := ob hm'
    refine body s H' σ' (fun σ' H' => ∃ s, Lo C X H' σ' (G s) ∧ loopW f m s = some o) rt nx (fun σ' H' => ∃ s, Lo C X H' σ' (G s) ∧ loopW f m s = some o) o1 h1 L'.enter ?_ ?_ ?_ ?_ _ ?_
    · intro s' e X' σ'' H'' L''
      subst e
      exact ⟨s', L'.leave L'' (hG _ _), h2⟩
    · intro s' e X' σ'' H'' L''
      subst e
      exact ⟨s', L'.leave L'' (hG _ _), h2⟩
    · intro s' e X' σ'' H'' L''
      subst e
      exact done s' (Option.some.inj h2).symm _ _ (L'.leave L'' (hG _ _))
    · intro q e v' H'' F
      subst e
      exact ret q (Option.some.inj h2).symm v' H'' (F.leave L')
    · intro b H1 q
      cases b with
      | true => exact ⟨fun σ' H' => ∃ s, Lo C X H' σ' (G s) ∧ loopW f m s = some o, fun σ1 H1 ⟨s1, L1, h⟩ => ⟨m, Nat.lt_succ_self _, s1, L1, h⟩, q⟩
      | false => exact q


/-! ### loops, with what stands behind them -/
def BodyO (C : Cn) (X : Addr → Prop) (G : τ → List Sl) (d : PyData) (s : τ) (o : Option τ) (g : TG) (tb : TS) : Prop :=
  ∀ (H : Hp) (σ : L2.St) (u : V) (nx : L2.St → Hp → Prop) (rt : VK) (bk ct : L2.St → Hp → Prop) (s1 : τ), o = some s1 → Lo ⟨C.K, X, H, muts (G s), C.n⟩ X H σ (G s) → Rep C.K X H d u →
    (∀ X' σ' H', Lo ⟨C.K, X, H, muts (G s), C.n⟩ X' H' σ' (G s1) → nx σ' H') →
    (∀ X' σ' H', Lo ⟨C.K, X, H, muts (G s), C.n⟩ X' H' σ' (G s1) → ct σ' H') → g u σ H fun σ2 H2 => tb ⟨nx, rt, bk, ct⟩ σ2 H2
theorem foldO_loop {f : α → τ → Option τ} : ∀ {xs : List α} {s s' : τ}, foldO f xs s = some s' → loopL (ρ := Empty) (fun x s => (f x s).bind fun s => some (.nxt s)) xs s = some (.nxt s')
  | [], s, s', h => by cases h; rfl
  | x :: xs, s, s', h => by
    obtain ⟨t, h1, h2⟩ := ob h
    show ((f x s).bind fun s => some (Lp.nxt (ρ := Empty) s)).bind _ = _
    rw [h1]
    exact foldO_loop h2
theorem BodyO.body {G : τ → List Sl} {d : PyData} {s : τ} {o : Option τ} {g : TG} {tb : TS} (b : BodyO C X G d s o g tb) : Body (ρ := Empty) C X G (fun _ => []) (fun _ => .imm .none) d s (o.bind fun s => some (.nxt s)) g tb := by
  intro H σ u nx rt bk ct o1 hm L r hN hC hB hR
  obtain ⟨s1, h1, h2⟩ := ob hm
  cases h2
  exact b H σ u nx rt bk ct s1 h1 L r (hN s1 rfl) (hC s1 rfl)
theorem x_foL [Py α] {xs : List α} {f : α → τ → Option τ} {G : τ → List Sl} {s0 : τ} {v : V} {g : TG} {tb : TS} {nx bk ct : L2.St → Hp → Prop} {rt : VK} {k : τ → Option ρ} {res : ρ}
    (L : Lo C X H σ (G s0)) (hG : ∀ s s', muts (G s) = muts (G s')) (r : Rep C.K X H (enc xs) v) (hm : (foldO f xs s0).bind k = some res)
    (body : ∀ x s, BodyO C X G (enc x) s (f x s) g tb) (done : ∀ s σ' H', k s = some res → Lo C X H' σ' (G s) → nx σ' H') : KForL C.K g tb ⟨nx, rt, bk, ct⟩ σ v H := by
  obtain ⟨s1, h1, h2⟩ := ob hm
  exact x_for (ρ := Empty) (o := .nxt s1) (ps := fun _ => []) (rs := fun _ => .imm .none) L hG r (foldO_loop h1) (fun x s => (body x s).body) (fun s e σ' H' L' => by cases e; exact done _ _ _ h2 L') (fun s e => nomatch e) (fun q => nomatch q)
theorem x_flL [Py α] {xs : List α} {f : α → τ → Option (Lp τ ρ)} {G : τ → List Sl} {ps : ρ → List (Addr × MO)} {rs : ρ → Rs} {s0 : τ} {v : V} {g : TG} {tb : TS} {nx bk ct : L2.St → Hp → Prop} {rt : VK} {k : τ → Option β} {j : ρ → Option β} {res : β}
    (L : Lo C X H σ (G s0)) (hG : ∀ s s', muts (G s) = muts (G s')) (r : Rep C.K X H (enc xs) v) (hm : (loopL f xs s0).bind (fun o => o.out j k) = some res)
    (body : ∀ x s, Body C X G ps rs (enc x) s (f x s) g tb) (done : ∀ s σ' H', k s = some res → Lo C X H' σ' (G s) → nx σ' H')
    (ret : ∀ q v H', j q = some res → Fin C.K C.X0 C.H0 C.P0 (ps q) (rs q) v H' → rt v H') : KForL C.K g tb ⟨nx, rt, bk, ct⟩ σ v H := by
  obtain ⟨o, h1, h2⟩ := ob hm
  exact x_for L hG r h1 body (fun s e σ' H' L' => done _ _ _ (by rw [e] at h2; exact h2) L') (fun s e σ' H' L' => done _ _ _ (by rw [e] at h2; exact h2) L') (fun q e v H' F => ret _ _ _ (by rw [e] at h2; exact h2) F)
theorem x_foT [Py α] {xs : List α} {f : α → τ → Option τ} {G : τ → List Sl} {s0 : τ} {v : V} {g : TG} {tb : TS} {nx bk ct : L2.St → Hp → Prop} {rt : VK} {k : τ → Option ρ} {res : ρ}
    (L : Lo C X H σ (G s0)) (hG : ∀ s s', muts (G s) = muts (G s')) (r : Rep C.K X H (.tuple (xs.map enc)) v) (hm : (foldO f xs s0).bind k = some res)
    (body : ∀ x s, BodyO C X G (enc x) s (f x s) g tb) (done : ∀ s σ' H', k s = some res → Lo C X H' σ' (G s) → nx σ' H') : KForT C.K g tb ⟨nx, rt, bk, ct⟩ σ v H := by
  obtain ⟨s1, h1, h2⟩ := ob hm
  exact x_forT (ρ := Empty) (o := .nxt s1) (ps := fun _ => []) (rs := fun _ => .imm .none) L hG r (foldO_loop h1) (fun x s => (body x s).body) (fun s e σ' H' L' => by cases e; exact done _ _ _ h2 L') (fun s e => nomatch e) (fun q => nomatch q)
theorem x_flT [Py α] {xs : List α} {f : α → τ → Option (Lp τ ρ)} {G : τ → List Sl} {ps : ρ → List (Addr × MO)} {rs : ρ → Rs} {s0 : τ} {v : V} {g : TG} {tb : TS} {nx bk ct : L2.St → Hp → Prop} {rt : VK} {k : τ → Option β} {j : ρ → Option β} {res : β}
    (L : Lo C X H σ (G s0)) (hG : ∀ s s', muts (G s) = muts (G s')) (r : Rep C.K X H (.tuple (xs.map enc)) v) (hm : (loopL f xs s0).bind (fun o => o.out j k) = some res)
    (body : ∀ x s, Body C X G ps rs (enc x) s (f x s) g tb) (done : ∀ s σ' H', k s = some res → Lo C X H' σ' (G s) → nx σ' H')
    (ret : ∀ q v H', j q = some res → Fin C.K C.X0 C.H0 C.P0 (ps q) (rs q) v H' → rt v H') : KForT C.K g tb ⟨nx, rt, bk, ct⟩ σ v H := by
  obtain ⟨o, h1, h2⟩ := ob hm
  exact x_forT L hG r h1 body (fun s e σ' H' L' => done _ _ _ (by rw [e] at h2; exact h2) L') (fun s e σ' H' L' => done _ _ _ (by rw [e] at h2; exact h2) L') (fun q e v H' F => ret _ _ _ (by rw [e] at h2; exact h2) F)
theorem x_foS {xs : List Int} {f : Int → τ → Option τ} {G : τ → List Sl} {s0 : τ} {v : V} {g : TG} {tb : TS} {nx bk ct : L2.St → Hp → Prop} {rt : VK} {k : τ → Option ρ} {res : ρ}
    (L : Lo C X H σ (G s0)) (hG : ∀ s s', muts (G s) = muts (G s')) (r : SqX C.K X H xs v) (hm : (foldO f xs s0).bind k = some res)
    (body : ∀ x s, BodyO C X G (enc x) s (f x s) g tb) (done : ∀ s σ' H', k s = some res → Lo C X H' σ' (G s) → nx σ' H') : KForL C.K g tb ⟨nx, rt, bk, ct⟩ σ v H := by
  obtain ⟨s1, h1, h2⟩ := ob hm
  exact x_forS (ρ := Empty) (o := .nxt s1) (ps := fun _ => []) (rs := fun _ => .imm .none) L hG r (foldO_loop h1) (fun x s => (body x s).body) (fun s e σ' H' L' => by cases e; exact done _ _ _ h2 L') (fun s e => nomatch e) (fun q => nomatch q)
theorem x_flS {xs : List Int} {f : Int → τ → Option (Lp τ ρ)} {G : τ → List Sl} {ps : ρ → List (Addr × MO)} {rs : ρ → Rs} {s0 : τ} {v : V} {g : TG} {tb : TS} {nx bk ct : L2.St → Hp → Prop} {rt : VK} {k : τ → Option β} {j : ρ → Option β} {res : β}
    (L : Lo C X H σ (G s0)) (hG : ∀ s s', muts (G s) = muts (G s')) (r : SqX C.K X H xs v) (hm : (loopL f xs s0).bind (fun o => o.out j k) = some res)
    (body : ∀ x s, Body C X G ps rs (enc x) s (f x s) g tb) (done : ∀ s σ' H', k s = some res → Lo C X H' σ' (G s) → nx σ' H')
    (ret : ∀ q v H', j q = some res → Fin C.K C.X0 C.H0 C.P0 (ps q) (rs q) v H' → rt v H') : KForL C.K g tb ⟨nx, rt, bk, ct⟩ σ v H := by
  obtain ⟨o, h1, h2⟩ := ob hm
  exact x_forS L hG r h1 body (fun s e σ' H' L' => done _ _ _ (by rw [e] at h2; exact h2) L') (fun s e σ' H' L' => done _ _ _ (by rw [e] at h2; exact h2) L') (fun q e v H' F => ret _ _ _ (by rw [e] at h2; exact h2) F)
theorem x_foR {f : Int → τ → Option τ} {G : τ → List Sl} {s0 : τ} {lo : Int} {n : Nat} {g : TG} {tb : TS} {nx bk ct : L2.St → Hp → Prop} {rt : VK} {k : τ → Option ρ} {res : ρ}
    (L : Lo C X H σ (G s0)) (hG : ∀ s s', muts (G s) = muts (G s')) (hm : (foldO f (rangeL lo n) s0).bind k = some res)
    (body : ∀ x s, BodyO C X G (enc x) s (f x s) g tb) (done : ∀ s σ' H', k s = some res → Lo C X H' σ' (G s) → nx σ' H') : KForR lo n g tb ⟨nx, rt, bk, ct⟩ σ H := by
  obtain ⟨s1, h1, h2⟩ := ob hm
  exact x_forR (ρ := Empty) (o := .nxt s1) (ps := fun _ => []) (rs := fun _ => .imm .none) L hG (foldO_loop h1) (fun x s => (body x s).body) (fun s e σ' H' L' => by cases e; exact done _ _ _ h2 L') (fun s e => nomatch e) (fun q => nomatch q)
theorem x_flR {f : Int → τ → Option (Lp τ ρ)} {G : τ → List Sl} {ps : ρ → List (Addr × MO)} {rs : ρ → Rs} {s0 : τ} {lo : Int} {n : Nat} {g : TG} {tb : TS} {nx bk ct : L2.St → Hp → Prop} {rt : VK} {k : τ → Option β} {j : ρ → Option β} {res : β}
    (L : Lo C X H σ (G s0)) (hG : ∀ s s', muts (G s) = muts (G s')) (hm : (loopL f (rangeL lo n) s0).bind (fun o => o.out j k) = some res)
    (body : ∀ x s, Body C X G ps rs (enc x) s (f x s) g tb) (done : ∀ s σ' H', k s = some res → Lo C X H' σ' (G s) → nx σ' H')
    (ret : ∀ q v H', j q = some res → Fin C.K C.X0 C.H0 C.P0 (ps q) (rs q) v H' → rt v H') : KForR lo n g tb ⟨nx, rt, bk, ct⟩ σ H := by
  obtain ⟨o, h1, h2⟩ := ob hm
  exact x_forR L hG h1 body (fun s e σ' H' L' => done _ _ _ (by rw [e] at h2; exact h2) L') (fun s e σ' H' L' => done _ _ _ (by rw [e] at h2; exact h2) L') (fun q e v H' F => ret _ _ _ (by rw [e] at h2; exact h2) F)
def BodyW (C : Cn) (X : Addr → Prop) (G : τ → List Sl) (ps : ρ → List (Addr × MO)) (rs : ρ → Rs) (s : τ) (o : Option (Lp τ ρ)) (c : TT) (tb : TS) : Prop :=
  ∀ (H : Hp) (σ : L2.St) (nx : L2.St → Hp → Prop) (rt : VK) (bk ct : L2.St → Hp → Prop) (o1 : Lp τ ρ), o = some o1 → Lo ⟨C.K, X, H, muts (G s), C.n⟩ X H σ (G s) →
    (∀ s', o1 = .nxt s' → ∀ X' σ' H', Lo ⟨C.K, X, H, muts (G s), C.n⟩ X' H' σ' (G s') → nx σ' H') →
    (∀ s', o1 = .nxt s' → ∀ X' σ' H', Lo ⟨C.K, X, H, muts (G s), C.n⟩ X' H' σ' (G s') → ct σ' H') →
    (∀ s', o1 = .brk s' → ∀ X' σ' H', Lo ⟨C.K, X, H, muts (G s), C.n⟩ X' H' σ' (G s') → bk σ' H') →
    (∀ r, o1 = .ret r → ∀ v H', Fin C.K X H (muts (G s)) (ps r) (rs r) v H' → rt v H') →
    ∀ Qc : Bool → Hp → Prop, (∀ b H1, KWh tb ⟨nx, rt, bk, ct⟩ σ b H1 → Qc b H1) → c σ H Qc
theorem x_wh {f : τ → Option (Lp τ ρ)} {G : τ → List Sl} {ps : ρ → List (Addr × MO)} {rs : ρ → Rs} {s0 : τ} {n : Nat} {c : TT} {tb : TS} {nx bk ct : L2.St → Hp → Prop} {rt : VK} {k : τ → Option β} {j : ρ → Option β} {res : β}
    (L : Lo C X H σ (G s0)) (hG : ∀ s s', muts (G s) = muts (G s')) (hm : (loopW f n s0).bind (fun o => o.out j k) = some res)
    (body : ∀ s, BodyW C X G ps rs s (f s) c tb) (done : ∀ s σ' H', k s = some res → Lo C X H' σ' (G s) → nx σ' H')
    (ret : ∀ q v H', j q = some res → Fin C.K C.X0 C.H0 C.P0 (ps q) (rs q) v H' → rt v H') : tWhile c tb ⟨nx, rt, bk, ct⟩ σ H := by
  obtain ⟨o, h1, h2⟩ := ob hm
  refine x_while L hG h1 body (fun s e σ' H' L' => done _ _ _ (by rw [e] at h2; exact h2) L') (fun q e v H' F => ret _ _ _ (by rw [e] at h2; exact h2) F)
/-- the heads of loops -/
theorem x_tforL {te : TE} {g : TG} {tb : TS} {D : Ends} {K : PySem.W.Frag} (h : te σ H (KForL K g tb D σ)) : tFor (iList K te) g tb D σ H := h
theorem x_tforT {te : TE} {g : TG} {tb : TS} {D : Ends} {K : PySem.W.Frag} (h : te σ H (KForT K g tb D σ)) : tFor (iTup K te) g tb D σ H := h
theorem x_tforR1 {ta : TA} {g : TG} {tb : TS} {D : Ends} (h : ta σ H (KRng1 fun lo n H => KForR lo n g tb D σ H)) : tFor (iRng1 ta) g tb D σ H := h
theorem x_tforR2 {ta : TA} {g : TG} {tb : TS} {D : Ends} (h : ta σ H (KRng2 fun lo n H => KForR lo n g tb D σ H)) : tFor (iRng2 ta) g tb D σ H := h
def rngOk (j : Int) : Option Unit := if -(2 ^ 62) ≤ j ∧ j < 2 ^ 62 then some () else none
theorem rng_ok {j : Int} {k : Unit → Option ρ} {r : ρ} (hm : (rngOk j).bind k = some r) : (-(2 ^ 62) ≤ j ∧ j < 2 ^ 62) ∧ k () = some r := by
  obtain ⟨_, e, hk⟩ := ob hm
  unfold rngOk at e
  split at e
  · exact ⟨by assumption, hk⟩
  · cases e
theorem x_r1 {j : Int} {k : Unit → Option ρ} {r : ρ} {R : Int → Nat → Hp → Prop} (hm : (rngOk j).bind k = some r) (h : k () = some r → R 0 j.toNat H) : KRng1 R [.int j] H := by
  obtain ⟨⟨a, b⟩, hk⟩ := rng_ok hm
  exact ⟨j, rfl, a, b, h hk⟩
theorem x_r1c {j : Int} {n : Nat} {R : Int → Nat → Hp → Prop} (hj : (-(2 ^ 62) ≤ j ∧ j < 2 ^ 62) ∧ j.toNat = n) (h : R 0 n H) : KRng1 R [.int j] H := ⟨j, rfl, hj.1.1, hj.1.2, by rw [hj.2]; exact h⟩
theorem x_r2 {i j : Int} {k : Unit → Option ρ} {r : ρ} {R : Int → Nat → Hp → Prop} (hm : ((rngOk i).bind fun _ => rngOk j).bind k = some r) (h : k () = some r → R i (j - i).toNat H) : KRng2 R [.int i, .int j] H := by
  obtain ⟨u, e, hk⟩ := ob hm
  obtain ⟨⟨a, b⟩, e2⟩ := rng_ok e
  obtain ⟨⟨c, d⟩, _⟩ := rng_ok (k := fun _ => some ()) (r := ()) (by rw [e2]; rfl)
  exact ⟨i, j, rfl, ⟨a, b, c, d⟩, h hk⟩
/-! ### comprehensions -/
def compL {α β τ : Type} (f : α → τ → Option (Option β × τ)) : List α → τ → Option (List β × τ)
  | [], s => some ([], s)
  | x :: xs, s => (f x s).bind fun r => (compL f xs r.2).bind fun q => some ((match r.1 with | some y => y :: q.1 | none => q.1), q.2)
def mapO {α β : Type} (f : α → Option β) : List α → Option (List β)
  | [] => some []
  | x :: xs => (f x).bind fun y => (mapO f xs).bind fun ys => some (y :: ys)
def filO {α β : Type} (f : α → Option (Option β)) : List α → Option (List β)
  | [] => some []
  | x :: xs => (f x).bind fun y => (filO f xs).bind fun ys => some (match y with | some z => z :: ys | none => ys)
def mapS {α β τ : Type} (f : α → τ → Option (β × τ)) : List α → τ → Option (List β × τ)
  | [], s => some ([], s)
  | x :: xs, s => (f x s).bind fun r => (mapS f xs r.2).bind fun q => some (r.1 :: q.1, q.2)
theorem mapO_comp {f : α → Option β} : ∀ {xs : List α} {ys : List β}, mapO f xs = some ys → compL (τ := Unit) (fun x s => (f x).bind fun y => some (some y, s)) xs () = some (ys, ())
  | [], ys, h => by cases h; rfl
  | x :: xs, ys, h => by
    obtain ⟨y, h1, h⟩ := ob h
    obtain ⟨zs, h2, h⟩ := ob h
    cases h
    show ((f x).bind fun y => some (some y, ())).bind _ = _
    rw [h1]
    show (compL (τ := Unit) (fun x s => (f x).bind fun y => some (some y, s)) xs ()).bind _ = _
    rw [mapO_comp h2]
    rfl
theorem filO_comp {f : α → Option (Option β)} : ∀ {xs : List α} {ys : List β}, filO f xs = some ys → compL (τ := Unit) (fun x s => (f x).bind fun y => some (y, s)) xs () = some (ys, ())
  | [], ys, h => by cases h; rfl
  | x :: xs, ys, h => by
    obtain ⟨y, h1, h⟩ := ob h
    obtain ⟨zs, h2, h⟩ := ob h
    cases h
    show ((f x).bind fun y => some (y, ())).bind _ = _
    rw [h1]
    show (compL (τ := Unit) (fun x s => (f x).bind fun y => some (y, s)) xs ()).bind _ = _
    rw [filO_comp h2]
    cases y <;> rfl
theorem mapS_comp {f : α → τ → Option (β × τ)} : ∀ {xs : List α} {s : τ} {q : List β × τ}, mapS f xs s = some q → compL (fun x s => (f x s).bind fun y => some (some y.1, y.2)) xs s = some q
  | [], s, q, h => by cases h; rfl
  | x :: xs, s, q, h => by
    obtain ⟨y, h1, h⟩ := ob h
    obtain ⟨zs, h2, h⟩ := ob h
    cases h
    show ((f x s).bind fun y => some (some y.1, y.2)).bind _ = _
    rw [h1]
    show (compL (fun x s => (f x s).bind fun y => some (some y.1, y.2)) xs y.2).bind _ = _
    rw [mapS_comp h2]
    rfl
/-- what is known behind a block of its own names -/
def Bk : List Sl → List Sl → List Sl → Prop
  | [], _, [] => True
  | s :: Γ, s2 :: Γ2, s' :: Γ' => ((s' = s ∧ s.ad = none) ∨ (∃ p o o', s = .mu p o ∧ s2 = .mu p o' ∧ s' = .mu p o') ∨ (∃ p o o', s = .tmp p o ∧ s2 = .tmp p o' ∧ s' = .tmp p o')) ∧ Bk Γ Γ2 Γ'
  | _, _, _ => False
theorem Bk.e {Γ2 : List Sl} : Bk [] Γ2 [] := trivial
theorem Bk.i {s s2 : Sl} {Γ Γ2 Γ' : List Sl} (e : s.ad = none) (h : Bk Γ Γ2 Γ') : Bk (s :: Γ) (s2 :: Γ2) (s :: Γ') := ⟨.inl ⟨rfl, e⟩, h⟩
theorem Bk.m {p : Addr} {o o' : MO} {Γ Γ2 Γ' : List Sl} (h : Bk Γ Γ2 Γ') : Bk (.mu p o :: Γ) (.mu p o' :: Γ2) (.mu p o' :: Γ') := ⟨.inr (.inl ⟨p, o, o', rfl, rfl, rfl⟩), h⟩
theorem Bk.t {p : Addr} {o o' : MO} {Γ Γ2 Γ' : List Sl} (h : Bk Γ Γ2 Γ') : Bk (.tmp p o :: Γ) (.tmp p o' :: Γ2) (.tmp p o' :: Γ') := ⟨.inr (.inr ⟨p, o, o', rfl, rfl, rfl⟩), h⟩
theorem Bk.get : ∀ {Γ Γ2 Γ' : List Sl}, Bk Γ Γ2 Γ' → ∀ {i : Nat} {s' : Sl}, Γ'[i]? = some s' → (Γ[i]? = some s' ∧ s'.ad = none) ∨ (∃ p o o', Γ[i]? = some (.mu p o) ∧ Γ2[i]? = some (.mu p o') ∧ s' = .mu p o') ∨ (∃ p o o', Γ[i]? = some (.tmp p o) ∧ Γ2[i]? = some (.tmp p o') ∧ s' = .tmp p o')
  | [], _, [], _, _, _, e => by simp at e
  | [], _, _ :: _, h, _, _, _ => h.elim
  | s :: Γ, [], Γ', h, _, _, _ => by cases Γ' <;> exact h.elim
  | s :: Γ, s2 :: Γ2, [], h, _, _, _ => h.elim
  | s :: Γ, s2 :: Γ2, s0 :: Γ', ⟨h, t⟩, 0, s', e => by
    simp at e; subst e
    rcases h with ⟨h, h2⟩ | ⟨p, o, o', h1, h2, h3⟩ | ⟨p, o, o', h1, h2, h3⟩
    · subst h; exact .inl ⟨rfl, h2⟩
    · subst h1 h2 h3; exact .inr (.inl ⟨p, o, o', rfl, rfl, rfl⟩)
    · subst h1 h2 h3; exact .inr (.inr ⟨p, o, o', rfl, rfl, rfl⟩)
  | s :: Γ, s2 :: Γ2, s0 :: Γ', ⟨h, t⟩, i + 1, s', e => by
    have := Bk.get t (i := i) (s' := s') (by simpa using e)
    simpa using this
theorem Bk.muts : ∀ {Γ Γ2 Γ' : List Sl}, Bk Γ Γ2 Γ' → muts Γ' = muts Γ
  | [], _, [], _ => rfl
  | [], _, _ :: _, h => h.elim
  | s :: Γ, [], Γ', h => by cases Γ' <;> exact h.elim
  | s :: Γ, s2 :: Γ2, [], h => h.elim
  | s :: Γ, s2 :: Γ2, s0 :: Γ', ⟨h, t⟩ => by
    have ih := Bk.muts t
    unfold Sc.muts at ih ⊢
    rw [List.filterMap_cons, List.filterMap_cons, ih]
    have : s0.ad = s.ad := by
      rcases h with ⟨h, h2⟩ | ⟨p, o, o', h1, h2, h3⟩ | ⟨p, o, o', h1, h2, h3⟩
      · rw [h]
      · rw [h1, h3]; rfl
      · rw [h1, h3]; rfl
    rw [this]
theorem Lo.back {X' : Addr → Prop} {H' : Hp} {σ2 : L2.St} {Γ2 : List Sl} (L : Lo C X H σ Γ) (M : Lo (C.at_ X H Γ) X' H' σ2 Γ2) (b : Bk Γ Γ2 Γ') : Lo C X H' σ Γ' := by
  have sub : ∀ a, X a → X' a := M.m0
  have hm := b.muts
  refine ⟨L.len, fun i s hi => ?_, by rw [hm]; exact L.nd, fun p hp => L.mx p (hm ▸ hp), L.m0, fun a h => M.xd a (sub a h), fun a o e n => M.base a o (L.base a o e n) (L.nown e n), fun a h => M.dom a (L.dom a h), fun p hp => L.own p (hm ▸ hp), L.tf⟩
  rcases b.get hi with ⟨h1, h2⟩ | ⟨p, o, o', h1, h2, h3⟩ | ⟨p, o, o', h1, h2, h3⟩
  · exact (L.at_ i s h1).keep (L.keep M) fun p e => by rw [h2] at e; cases e
  · subst h3
    exact ⟨(L.at_ i _ h1).1, (M.at_ i _ h2).2.anti sub⟩
  · subst h3
    exact MRep.anti sub (M.at_ i _ h2)
theorem Lo.xanti {Y : Addr → Prop} (L : Lo C X H σ Γ) (h : ∀ a, Y a → X a) (hm : ∀ p ∈ muts Γ, Y p) (h0 : ∀ a, C.X0 a → Y a) : Lo C Y H σ Γ :=
  ⟨L.len, fun i s hi => (L.at_ i s hi).anti h, L.nd, hm, h0, fun a z => L.xd a (h a z), L.base, L.dom, L.own, L.tf⟩
/-- the object at p, of no slot, is written -/
theorem Lo.wroteX {p : Addr} {o o' : HO} (L : Lo C X H σ Γ) (hX : X p) (hn : p ∉ muts Γ) (h : H p = some o) (h0 : C.H0 p = none) (nt : ∀ vs, o ≠ .tup vs) (nf : ∀ u w, o ≠ .frz u w) :
    Lo C X (upd H p o') σ Γ ∧ Keep X H (upd H p o') := by
  have kp : Keep X H (upd H p o') := ⟨fun a u e n => by rw [upd_ne (fun z => n (by rw [z]; exact hX))]; exact e, fun a vs e => by rw [upd_ne (fun z => by rw [z, h] at e; exact nt vs (Option.some.inj e))]; exact e, fun a u w e => by rw [upd_ne (fun z => by rw [z, h] at e; exact nf u w (Option.some.inj e))]; exact e⟩
  have hd : ∀ a, H a ≠ none → upd H p o' a ≠ none := fun a e => by
    by_cases z : a = p
    · rw [z, upd_same]; exact fun y => nomatch y
    · rw [upd_ne z]; exact e
  refine ⟨⟨L.len, fun i s hi => (L.at_ i s hi).keep kp fun q e => upd_ne fun z => hn ?_, L.nd, L.mx, L.m0, fun a z => hd a (L.xd a z), fun a u e n => ?_, fun a e => hd a (L.dom a e), L.own, L.tf⟩, kp⟩
  · subst z; exact mem_muts.mpr ⟨i, s, hi, e⟩
  · rw [upd_ne fun z => by rw [z, h0] at e; cases e]
    exact L.base a u e n
theorem comp_drop {f : α → τ → Option (Option β × τ)} {xs : List α} {i : Nat} {x : α} {s : τ} {q : List β × τ} (hx : xs[i]? = some x) (h : compL f (xs.drop i) s = some q) :
    ∃ r q', f x s = some r ∧ compL f (xs.drop (i + 1)) r.2 = some q' ∧ q = ((match r.1 with | some y => y :: q'.1 | none => q'.1), q'.2) := by
  obtain ⟨hl, hx⟩ := List.getElem?_eq_some_iff.mp hx
  rw [List.drop_eq_getElem_cons hl, hx] at h
  obtain ⟨r, h1, h2⟩ := ob h
  obtain ⟨q', h3, h4⟩ := ob h2
  exact ⟨r, q', h1, h3, (Option.some.inj h4).symm⟩
/-- the rest of a comprehension, by name -/
def KLcL (K : PySem.W.Frag) (g : TG) (tt : TT) (te : TE) (ws : List Nat) (σ : L2.St) (Q : VK) (v : V) (H : Hp) : Prop := ∃ a, v = V.ref a ∧ (∃ xs, SqL K H a xs) ∧ ∀ D, H D = none → ∃ W : Nat → Nat → Hp → Prop, (∃ m, W 0 m (upd H D (.lst []))) ∧ ∀ i m H, W i m H →
      ((Itl K a).stop i H ∧ Q (.ref D) H) ∨ ((Itl K a).go i H ∧ ∃ Nx : Hp → Prop, (∀ H', Nx H' → ∃ m', m' < m ∧ W (i + 1) m' H') ∧ ∀ x H', (Itl K a).yld i H x H' → g x (wipe σ ws) H' fun σ2 H2 => wipe σ2 ws = wipe σ ws ∧ tt σ2 H2 fun b H3 =>
        if b = true then te σ2 H3 fun y H4 => ∃ acc, H4 D = some (.lst acc) ∧ acc.length < sizeLine ∧ Nx (upd H4 D (.lst (acc ++ [y]))) else Nx H3)
def KLcT (K : PySem.W.Frag) (g : TG) (tt : TT) (te : TE) (ws : List Nat) (σ : L2.St) (Q : VK) (v : V) (H : Hp) : Prop := ∃ a, v = V.ref a ∧ (∃ xs, SqT K H a xs) ∧ ∀ D, H D = none → ∃ W : Nat → Nat → Hp → Prop, (∃ m, W 0 m (upd H D (.lst []))) ∧ ∀ i m H, W i m H →
      ((Itt K a).stop i H ∧ Q (.ref D) H) ∨ ((Itt K a).go i H ∧ ∃ Nx : Hp → Prop, (∀ H', Nx H' → ∃ m', m' < m ∧ W (i + 1) m' H') ∧ ∀ x H', (Itt K a).yld i H x H' → g x (wipe σ ws) H' fun σ2 H2 => wipe σ2 ws = wipe σ ws ∧ tt σ2 H2 fun b H3 =>
        if b = true then te σ2 H3 fun y H4 => ∃ acc, H4 D = some (.lst acc) ∧ acc.length < sizeLine ∧ Nx (upd H4 D (.lst (acc ++ [y]))) else Nx H3)
def KLcR (lo : Int) (n : Nat) (g : TG) (tt : TT) (te : TE) (ws : List Nat) (σ : L2.St) (Q : VK) (H : Hp) : Prop := ∀ D, H D = none → ∃ W : Nat → Nat → Hp → Prop, (∃ m, W 0 m (upd H D (.lst []))) ∧ ∀ i m H, W i m H →
      ((Itr lo n).stop i H ∧ Q (.ref D) H) ∨ ((Itr lo n).go i H ∧ ∃ Nx : Hp → Prop, (∀ H', Nx H' → ∃ m', m' < m ∧ W (i + 1) m' H') ∧ ∀ x H', (Itr lo n).yld i H x H' → g x (wipe σ ws) H' fun σ2 H2 => wipe σ2 ws = wipe σ ws ∧ tt σ2 H2 fun b H3 =>
        if b = true then te σ2 H3 fun y H4 => ∃ acc, H4 D = some (.lst acc) ∧ acc.length < sizeLine ∧ Nx (upd H4 D (.lst (acc ++ [y]))) else Nx H3)
theorem x_lcl {K : PySem.W.Frag} {tl te : TE} {g : TG} {tt : TT} {ws : List Nat} (h : tl σ H (KLcL K g tt te ws σ Q)) : tLc (iList K tl) g tt te ws σ H Q := h
theorem x_lct {K : PySem.W.Frag} {tl te : TE} {g : TG} {tt : TT} {ws : List Nat} (h : tl σ H (KLcT K g tt te ws σ Q)) : tLc (iTup K tl) g tt te ws σ H Q := h
theorem x_lcr1 {ta : TA} {te : TE} {g : TG} {tt : TT} {ws : List Nat} (h : ta σ H (KRng1 fun lo n H => KLcR lo n g tt te ws σ Q H)) : tLc (iRng1 ta) g tt te ws σ H Q := h
theorem x_lcr2 {ta : TA} {te : TE} {g : TG} {tt : TT} {ws : List Nat} (h : ta σ H (KRng2 fun lo n H => KLcR lo n g tt te ws σ Q H)) : tLc (iRng2 ta) g tt te ws σ H Q := h
/-- what a comprehension's block shows of one turn -/
def BodyC [Py β] (C : Cn) (X : Addr → Prop) (G : τ → List Sl) (d : PyData) (s : τ) (o : Option (Option β × τ)) (g : TG) (tt : TT) (te : TE) (vs : List Nat) : Prop :=
  ∀ (X : Addr → Prop) (H : Hp) (σ : L2.St) (u : V) (r : Option β × τ) (Qn : Hp → Prop) (Qy : VK), o = some r → Lo ⟨C.K, X, H, muts (G s), C.n⟩ X H σ (G s) → Rep C.K X H d u →
    (r.1 = none → ∀ H', Lo ⟨C.K, X, H, muts (G s), C.n⟩ X H' σ (G r.2) → Qn H') →
    (∀ y, r.1 = some y → ∀ v H', Lo ⟨C.K, X, H, muts (G s), C.n⟩ X H' σ (G r.2) → Rep C.K X H' (enc y) v → Qy v H') →
    g u (wipe σ vs) H fun σ2 H2 => wipe σ2 vs = wipe σ vs ∧ tt σ2 H2 fun b H3 => if b = true then te σ2 H3 Qy else Qn H3
theorem x_lcL0 [Py α] [Py β] {xs : List α} {f : α → τ → Option (Option β × τ)} {G : τ → List Sl} {s0 : τ} {q : List β × τ} {v : V} {g : TG} {tt : TT} {te : TE} {ws : List Nat}
    (L : Lo C X H σ (G s0)) (hG : ∀ s s', muts (G s) = muts (G s')) (r : Rep C.K X H (enc xs) v) (hm : compL f xs s0 = some q) (hl : xs.length ≤ 16777216)
    (body : ∀ x s, BodyC C X G (enc x) s (f x s) g tt te ws)
    (done : ∀ D H', H D = none → C.H0 D = none → ¬ C.X0 D → Lo C (fun a => X a ∨ a = D) H' σ (G q.2) → Keep X H H' → MRep C.K (fun a => X a ∨ a = D) H' D (ml q.1) → Q (.ref D) H') :
    KLcL C.K g tt te ws σ Q v H := by
  obtain ⟨a, us, rfl, hna, hrd, hrs⟩ := rep_lst (ds := xs.map enc) r
  refine ⟨a, rfl, ⟨us, .inl hrd⟩, fun D hD => ?_⟩
  have h0 : C.H0 D = none := by
    cases e : C.H0 D with
    | none => rfl
    | some o => exact (L.dom D (by rw [e]; exact fun z => nomatch z) hD).elim
  have hDm : ∀ s, D ∉ muts (G s) := fun s h => L.xd D (L.mx D (hG s s0 ▸ h)) hD
  have sm : Same H (upd H D (.lst [])) := same_upd hD
  have lay := L.lay (p := D) (o := .lst []) hD sm ⟨[], upd_same, .nil⟩
  have L1 : Lo C (fun a => X a ∨ a = D) (upd H D (.lst [])) σ (G s0) := by
    refine ⟨L.len, fun i s hi => ?_, L.nd, fun p hp => .inl (L.mx p hp), fun a h => .inl (L.m0 a h), lay.1.xd, lay.1.base, lay.1.dom, L.own, L.tf⟩
    refine lay.1.at_ i s ?_
    rw [List.getElem?_append_left (List.getElem?_eq_some_iff.mp hi).1]
    exact hi
  have hna' : ¬ (X a ∨ a = D) := fun h => h.elim hna fun e => by
    subst e
    exact rd_nn hrd hD
  refine lc_list (K := C.K) (a := a) (xs := us) (fun i H' => ∃ s ys acc q', Lo C (fun a => X a ∨ a = D) H' σ (G s) ∧ Reps C.K (fun a => X a ∨ a = D) H' (xs.map enc) us ∧ Rd H' a (.lst us) ∧ H' D = some (.lst acc) ∧ Reps C.K (fun a => X a ∨ a = D) H' (ys.map enc) acc ∧
      compL f (xs.drop i) s = some q' ∧ q = (ys ++ q'.1, q'.2) ∧ ys.length ≤ i ∧ Keep X H H' ∧ (∀ a, H a ≠ none → H' a ≠ none))
    ⟨s0, [], [], q, L1, (hrs.more hD).keep (.same sm), Keep.rd (.same sm) hna hrd, upd_same, .nil, hm, rfl, Nat.le_refl _, .same sm, fun a h => ?_⟩ (fun i H' _ ⟨s, ys, acc, q', _, _, h, _⟩ => .inl h) ?_ ?_
  · by_cases z : a = D
    · rw [z, upd_same]; exact fun y => nomatch y
    · rw [upd_ne z]; exact h
  · rintro i y H' hy ⟨s, ys, acc, q', L', hr', hd', hacc, hys, hq', eq, hyl, hk, hdm⟩
    obtain ⟨d, hd, rd⟩ := hr'.get' hy
    rw [List.getElem?_map] at hd
    cases hx : xs[i]? with
    | none => rw [hx] at hd; cases hd
    | some x =>
      rw [hx] at hd
      cases hd
      have hil : i < xs.length := (List.getElem?_eq_some_iff.mp hx).1
      obtain ⟨r1, q1, h1, h2, h3⟩ := comp_drop hx hq'
      refine body x s _ H' σ y r1 _ _ h1 L'.enter rd ?_ ?_
      · intro e H'' M
        have k := L'.keep M
        have kd : H'' D = some (.lst acc) := M.base D _ hacc (hDm s)
        refine ⟨r1.2, ys, acc, q1, L'.leave M (hG _ _), hr'.keep k, k.rd hna' hd', kd, hys.keep k, h2, ?_, Nat.le_succ_of_le hyl, ?_, fun a h => M.dom a (hdm a h)⟩
        · rw [eq, h3, e]
        · refine ⟨fun b o hb n => ?_, fun b vs hb => k.2.1 b vs (hk.2.1 b vs hb), fun b o u hb => k.2.2 b o u (hk.2.2 b o u hb)⟩
          have hbD : b ≠ D := fun z => by rw [z, hD] at hb; cases hb
          exact k.1 b o (hk.1 b o hb n) fun z => z.elim n hbD
      · intro yv e v H'' M rv
        have k := L'.keep M
        have kd : H'' D = some (.lst acc) := M.base D _ hacc (hDm s)
        have L2 := L'.leave M (hG _ _)
        obtain ⟨L3, k3⟩ := L2.wroteX (p := D) (o' := .lst (acc ++ [v])) (.inr rfl) (hDm _) kd h0 (fun _ z => nomatch z) (fun _ _ z => nomatch z)
        have k4 := k.trans k3
        have hal : acc.length = ys.length := by rw [hys.length, List.length_map]
        refine ⟨acc, kd, by rw [line_eq]; omega, r1.2, ys ++ [yv], acc ++ [v], q1, L3, hr'.keep k4, k4.rd hna' hd', upd_same, ?_, h2, ?_, ?_, ?_, ?_⟩
        · rw [List.map_append]
          exact (hys.keep k4).append (.cons (rv.keep k3) .nil)
        · rw [eq, h3, e]
          show (ys ++ yv :: q1.1, q1.2) = (ys ++ [yv] ++ q1.1, q1.2)
          rw [List.append_assoc]; rfl
        · rw [List.length_append]; exact Nat.succ_le_succ hyl
        · refine ⟨fun b o hb n => ?_, fun b vs hb => k4.2.1 b vs (hk.2.1 b vs hb), fun b o u hb => k4.2.2 b o u (hk.2.2 b o u hb)⟩
          have hbD : b ≠ D := fun z => by rw [z, hD] at hb; cases hb
          exact k4.1 b o (hk.1 b o hb n) fun z => z.elim n hbD
        · intro a h
          by_cases z : a = D
          · rw [z, upd_same]; exact fun y => nomatch y
          · rw [upd_ne z]; exact M.dom a (hdm a h)
  · rintro H' ⟨s, ys, acc, q', L', _, _, hacc, hys, hq', eq, _, hk, hdm⟩
    rw [hrs.length, List.length_map, List.drop_length] at hq'
    cases hq'
    rw [List.append_nil] at eq
    subst eq
    exact done D H' hD h0 (fun z => L.xd D (L.m0 D z) hD) L' hk ⟨acc, hacc, hys⟩
theorem x_lcT0 [Py α] [Py β] {xs : List α} {f : α → τ → Option (Option β × τ)} {G : τ → List Sl} {s0 : τ} {q : List β × τ} {v : V} {g : TG} {tt : TT} {te : TE} {ws : List Nat}
    (L : Lo C X H σ (G s0)) (hG : ∀ s s', muts (G s) = muts (G s')) (r : Rep C.K X H (.tuple (xs.map enc)) v) (hm : compL f xs s0 = some q) (hl : xs.length ≤ 16777216)
    (body : ∀ x s, BodyC C X G (enc x) s (f x s) g tt te ws)
    (done : ∀ D H', H D = none → C.H0 D = none → ¬ C.X0 D → Lo C (fun a => X a ∨ a = D) H' σ (G q.2) → Keep X H H' → MRep C.K (fun a => X a ∨ a = D) H' D (ml q.1) → Q (.ref D) H') :
    KLcT C.K g tt te ws σ Q v H := by
  obtain ⟨a, us, rfl, hrd, hrs⟩ := rep_tup r
  refine ⟨a, rfl, ⟨us, hrd⟩, fun D hD => ?_⟩
  have h0 : C.H0 D = none := by
    cases e : C.H0 D with
    | none => rfl
    | some o => exact (L.dom D (by rw [e]; exact fun z => nomatch z) hD).elim
  have hDm : ∀ s, D ∉ muts (G s) := fun s h => L.xd D (L.mx D (hG s s0 ▸ h)) hD
  have sm : Same H (upd H D (.lst [])) := same_upd hD
  have lay := L.lay (p := D) (o := .lst []) hD sm ⟨[], upd_same, .nil⟩
  have L1 : Lo C (fun a => X a ∨ a = D) (upd H D (.lst [])) σ (G s0) := by
    refine ⟨L.len, fun i s hi => ?_, L.nd, fun p hp => .inl (L.mx p hp), fun a h => .inl (L.m0 a h), lay.1.xd, lay.1.base, lay.1.dom, L.own, L.tf⟩
    refine lay.1.at_ i s ?_
    rw [List.getElem?_append_left (List.getElem?_eq_some_iff.mp hi).1]
    exact hi
  refine lc_tup (K := C.K) (a := a) (xs := us) (fun i H' => ∃ s ys acc q', Lo C (fun a => X a ∨ a = D) H' σ (G s) ∧ Reps C.K (fun a => X a ∨ a = D) H' (xs.map enc) us ∧ SqT C.K H' a us ∧ H' D = some (.lst acc) ∧ Reps C.K (fun a => X a ∨ a = D) H' (ys.map enc) acc ∧
      compL f (xs.drop i) s = some q' ∧ q = (ys ++ q'.1, q'.2) ∧ ys.length ≤ i ∧ Keep X H H' ∧ (∀ a, H a ≠ none → H' a ≠ none))
    ⟨s0, [], [], q, L1, (hrs.more hD).keep (.same sm), Keep.sqT (X := fun a => X a ∨ a = D) (.same sm) hrd, upd_same, .nil, hm, rfl, Nat.le_refl _, .same sm, fun a h => ?_⟩ (fun i H' _ ⟨s, ys, acc, q', _, _, h, _⟩ => h) ?_ ?_
  · by_cases z : a = D
    · rw [z, upd_same]; exact fun y => nomatch y
    · rw [upd_ne z]; exact h
  · rintro i y H' hy ⟨s, ys, acc, q', L', hr', hd', hacc, hys, hq', eq, hyl, hk, hdm⟩
    obtain ⟨d, hd, rd⟩ := hr'.get' hy
    rw [List.getElem?_map] at hd
    cases hx : xs[i]? with
    | none => rw [hx] at hd; cases hd
    | some x =>
      rw [hx] at hd
      cases hd
      have hil : i < xs.length := (List.getElem?_eq_some_iff.mp hx).1
      obtain ⟨r1, q1, h1, h2, h3⟩ := comp_drop hx hq'
      refine body x s _ H' σ y r1 _ _ h1 L'.enter rd ?_ ?_
      · intro e H'' M
        have k := L'.keep M
        have kd : H'' D = some (.lst acc) := M.base D _ hacc (hDm s)
        refine ⟨r1.2, ys, acc, q1, L'.leave M (hG _ _), hr'.keep k, k.sqT hd', kd, hys.keep k, h2, ?_, Nat.le_succ_of_le hyl, ?_, fun a h => M.dom a (hdm a h)⟩
        · rw [eq, h3, e]
        · refine ⟨fun b o hb n => ?_, fun b vs hb => k.2.1 b vs (hk.2.1 b vs hb), fun b o u hb => k.2.2 b o u (hk.2.2 b o u hb)⟩
          have hbD : b ≠ D := fun z => by rw [z, hD] at hb; cases hb
          exact k.1 b o (hk.1 b o hb n) fun z => z.elim n hbD
      · intro yv e v H'' M rv
        have k := L'.keep M
        have kd : H'' D = some (.lst acc) := M.base D _ hacc (hDm s)
        have L2 := L'.leave M (hG _ _)
        obtain ⟨L3, k3⟩ := L2.wroteX (p := D) (o' := .lst (acc ++ [v])) (.inr rfl) (hDm _) kd h0 (fun _ z => nomatch z) (fun _ _ z => nomatch z)
        have k4 := k.trans k3
        have hal : acc.length = ys.length := by rw [hys.length, List.length_map]
        refine ⟨acc, kd, by rw [line_eq]; omega, r1.2, ys ++ [yv], acc ++ [v], q1, L3, hr'.keep k4, k4.sqT hd', upd_same, ?_, h2, ?_, ?_, ?_, ?_⟩
        · rw [List.map_append]
          exact (hys.keep k4).append (.cons (rv.keep k3) .nil)
        · rw [eq, h3, e]
          show (ys ++ yv :: q1.1, q1.2) = (ys ++ [yv] ++ q1.1, q1.2)
          rw [List.append_assoc]; rfl
        · rw [List.length_append]; exact Nat.succ_le_succ hyl
        · refine ⟨fun b o hb n => ?_, fun b vs hb => k4.2.1 b vs (hk.2.1 b vs hb), fun b o u hb => k4.2.2 b o u (hk.2.2 b o u hb)⟩
          have hbD : b ≠ D := fun z => by rw [z, hD] at hb; cases hb
          exact k4.1 b o (hk.1 b o hb n) fun z => z.elim n hbD
        · intro a h
          by_cases z : a = D
          · rw [z, upd_same]; exact fun y => nomatch y
          · rw [upd_ne z]; exact M.dom a (hdm a h)
  · rintro H' ⟨s, ys, acc, q', L', _, _, hacc, hys, hq', eq, _, hk, hdm⟩
    rw [hrs.length, List.length_map, List.drop_length] at hq'
    cases hq'
    rw [List.append_nil] at eq
    subst eq
    exact done D H' hD h0 (fun z => L.xd D (L.m0 D z) hD) L' hk ⟨acc, hacc, hys⟩
theorem x_lcR0 [Py β] {lo : Int} {n : Nat} {f : Int → τ → Option (Option β × τ)} {G : τ → List Sl} {s0 : τ} {q : List β × τ} {g : TG} {tt : TT} {te : TE} {ws : List Nat}
    (L : Lo C X H σ (G s0)) (hG : ∀ s s', muts (G s) = muts (G s')) (hm : compL f (rangeL lo n) s0 = some q) (hl : n ≤ 16777216)
    (body : ∀ x s, BodyC C X G (enc x) s (f x s) g tt te ws)
    (done : ∀ D H', H D = none → C.H0 D = none → ¬ C.X0 D → Lo C (fun a => X a ∨ a = D) H' σ (G q.2) → Keep X H H' → MRep C.K (fun a => X a ∨ a = D) H' D (ml q.1) → Q (.ref D) H') :
    KLcR lo n g tt te ws σ Q H := by
  intro D hD
  have h0 : C.H0 D = none := by
    cases e : C.H0 D with
    | none => rfl
    | some o => exact (L.dom D (by rw [e]; exact fun z => nomatch z) hD).elim
  have hDm : ∀ s, D ∉ muts (G s) := fun s h => L.xd D (L.mx D (hG s s0 ▸ h)) hD
  have sm : Same H (upd H D (.lst [])) := same_upd hD
  have lay := L.lay (p := D) (o := .lst []) hD sm ⟨[], upd_same, .nil⟩
  have L1 : Lo C (fun a => X a ∨ a = D) (upd H D (.lst [])) σ (G s0) := by
    refine ⟨L.len, fun i s hi => ?_, L.nd, fun p hp => .inl (L.mx p hp), fun a h => .inl (L.m0 a h), lay.1.xd, lay.1.base, lay.1.dom, L.own, L.tf⟩
    refine lay.1.at_ i s ?_
    rw [List.getElem?_append_left (List.getElem?_eq_some_iff.mp hi).1]
    exact hi
  refine lc_range (lo := lo) (n := n) (fun i H' => ∃ s ys acc q', Lo C (fun a => X a ∨ a = D) H' σ (G s) ∧ H' D = some (.lst acc) ∧ Reps C.K (fun a => X a ∨ a = D) H' (ys.map enc) acc ∧
      compL f ((rangeL lo n).drop i) s = some q' ∧ q = (ys ++ q'.1, q'.2) ∧ ys.length ≤ i ∧ Keep X H H')
    ⟨s0, [], [], q, L1, upd_same, .nil, hm, rfl, Nat.le_refl _, .same sm⟩ ?_ ?_
  · rintro i H' hi ⟨s, ys, acc, q', L', hacc, hys, hq', eq, hyl, hk⟩
    obtain ⟨r1, q1, h1, h2, h3⟩ := comp_drop (rangeL_get hi) hq'
    refine body (lo + (i : Int)) s _ H' σ _ r1 _ _ h1 L'.enter (.int _) ?_ ?_
    · intro e H'' M
      have k := L'.keep M
      have kd : H'' D = some (.lst acc) := M.base D _ hacc (hDm s)
      refine ⟨r1.2, ys, acc, q1, L'.leave M (hG _ _), kd, hys.keep k, h2, ?_, Nat.le_succ_of_le hyl, ?_⟩
      · rw [eq, h3, e]
      · refine ⟨fun b o hb n => ?_, fun b vs hb => k.2.1 b vs (hk.2.1 b vs hb), fun b o u hb => k.2.2 b o u (hk.2.2 b o u hb)⟩
        have hbD : b ≠ D := fun z => by rw [z, hD] at hb; cases hb
        exact k.1 b o (hk.1 b o hb n) fun z => z.elim n hbD
    · intro yv e v H'' M rv
      have k := L'.keep M
      have kd : H'' D = some (.lst acc) := M.base D _ hacc (hDm s)
      have L2 := L'.leave M (hG _ _)
      obtain ⟨L3, k3⟩ := L2.wroteX (p := D) (o' := .lst (acc ++ [v])) (.inr rfl) (hDm _) kd h0 (fun _ z => nomatch z) (fun _ _ z => nomatch z)
      have k4 := k.trans k3
      have hal : acc.length = ys.length := by rw [hys.length, List.length_map]
      refine ⟨acc, kd, by rw [line_eq]; omega, r1.2, ys ++ [yv], acc ++ [v], q1, L3, upd_same, ?_, h2, ?_, ?_, ?_⟩
      · rw [List.map_append]
        exact (hys.keep k4).append (.cons (rv.keep k3) .nil)
      · rw [eq, h3, e]
        show (ys ++ yv :: q1.1, q1.2) = (ys ++ [yv] ++ q1.1, q1.2)
        rw [List.append_assoc]; rfl
      · rw [List.length_append]; exact Nat.succ_le_succ hyl
      · refine ⟨fun b o hb n => ?_, fun b vs hb => k4.2.1 b vs (hk.2.1 b vs hb), fun b o u hb => k4.2.2 b o u (hk.2.2 b o u hb)⟩
        have hbD : b ≠ D := fun z => by rw [z, hD] at hb; cases hb
        exact k4.1 b o (hk.1 b o hb n) fun z => z.elim n hbD
  · rintro H' ⟨s, ys, acc, q', L', hacc, hys, hq', eq, _, hk⟩
    have hl : (rangeL lo n).length = n := by unfold rangeL; rw [List.length_map, List.length_range]
    have : (rangeL lo n).drop n = [] := List.drop_eq_nil_of_le (by omega)
    rw [this] at hq'
    cases hq'
    rw [List.append_nil] at eq
    subst eq
    exact done D H' hD h0 (fun z => L.xd D (L.m0 D z) hD) L' hk ⟨acc, hacc, hys⟩
theorem Lo.addT {D : Addr} {o : MO} {H' : Hp} (L : Lo C X H σ Γ) (hD : H D = none) (h0 : C.H0 D = none) (M : Lo C (fun a => X a ∨ a = D) H' σ Γ') (hm : muts Γ' = muts Γ) (r : MRep C.K (fun a => X a ∨ a = D) H' D o) : Lo C (fun a => X a ∨ a = D) H' σ (Γ' ++ [.tmp D o]) := by
  have hm2 : muts (Γ' ++ [Sl.tmp D o]) = muts Γ' ++ [D] := by unfold muts; rw [List.filterMap_append]; rfl
  have hnm : D ∉ muts Γ' := fun h => L.xd D (L.mx D (hm ▸ h)) hD
  refine ⟨M.len, fun i t hi => ?_, ?_, fun q hq => ?_, M.m0, M.xd, M.base, M.dom, fun q hq => ?_, M.tf⟩
  · by_cases hlt : i < Γ'.length
    · rw [List.getElem?_append_left hlt] at hi
      exact M.at_ i t hi
    · rw [List.getElem?_append_right (by omega)] at hi
      have ht := List.mem_of_getElem? hi
      rw [List.mem_singleton] at ht
      subst ht
      exact r
  · rw [hm2]
    exact List.nodup_append.mpr ⟨M.nd, by simp, fun a ha b hb => by
      rw [List.mem_singleton] at hb
      subst hb
      intro z
      exact hnm (z ▸ ha)⟩
  · rw [hm2, List.mem_append, List.mem_singleton] at hq
    exact hq.elim (M.mx q) .inr
  · rw [hm2, List.mem_append, List.mem_singleton] at hq
    exact hq.elim (M.own q) fun z => .inr (z ▸ h0)
/-- a comprehension's new list, as data -/
theorem lc_data [Py β] {D : Addr} {ys : List β} {H' : Hp} (L : Lo C X H σ Γ) (hD : H D = none) (M : Lo C (fun a => X a ∨ a = D) H' σ Γ') (hm : muts Γ' = muts Γ) (k : Keep X H H') (r : MRep C.K (fun a => X a ∨ a = D) H' D (ml ys))
    (h : Lo C X H' σ Γ' → (∀ d u, Rep C.K X H d u → Rep C.K X H' d u) → Rep C.K X H' (enc ys) (.ref D) → Q (.ref D) H') : Q (.ref D) H' := by
  obtain ⟨vs, h1, h2⟩ := r
  exact h (M.xanti (fun _ h => .inl h) (fun p hp => L.mx p (hm ▸ hp)) L.m0) (fun _ _ q => q.keep k) (.lst (fun z => L.xd D z hD) (.inl h1) (h2.anti fun _ z => .inl z))
/-- .. as the body's own -/
theorem lc_own [Py β] {D : Addr} {ys : List β} {H' : Hp} (L : Lo C X H σ Γ) (hD : H D = none) (h0 : C.H0 D = none) (M : Lo C (fun a => X a ∨ a = D) H' σ Γ') (hm : muts Γ' = muts Γ) (k : Keep X H H') (r : MRep C.K (fun a => X a ∨ a = D) H' D (ml ys))
    (h : Lo C (fun a => X a ∨ a = D) H' σ (Γ' ++ [.tmp D (ml ys)]) → (∀ d u, Rep C.K X H d u → Rep C.K (fun a => X a ∨ a = D) H' d u) → Q (.ref D) H') : Q (.ref D) H' :=
  h (L.addT hD h0 M hm r) fun _ _ q => (q.more hD).keep (k.mono fun _ z => .inl z)
theorem x_lcL [Py α] [Py β] {xs : List α} {f : α → τ → Option (Option β × τ)} {v : V} {G : τ → List Sl} {s0 : τ} {q : List β × τ} {g : TG} {tt : TT} {te : TE} {ws : List Nat} (L : Lo C X H σ (G s0)) (hG : ∀ s s', muts (G s) = muts (G s')) (r : Rep C.K X H (enc xs) v) (hm : compL f xs s0 = some q) (hl : xs.length ≤ 16777216)
    (body : ∀ x s, BodyC C X G (enc x) s (f x s) g tt te ws) (h : ∀ D H', Lo C X H' σ (G q.2) → (∀ d u, Rep C.K X H d u → Rep C.K X H' d u) → Rep C.K X H' (enc q.1) (.ref D) → Q (.ref D) H') : KLcL C.K g tt te ws σ Q v H :=
  x_lcL0 L hG r hm hl body (fun D H' hD h0 hx M k m => lc_data L hD M (hG _ _) k m (h D H'))
theorem x_lcLN [Py α] [Py β] {xs : List α} {f : α → τ → Option (Option β × τ)} {v : V} {G : τ → List Sl} {s0 : τ} {q : List β × τ} {g : TG} {tt : TT} {te : TE} {ws : List Nat} (L : Lo C X H σ (G s0)) (hG : ∀ s s', muts (G s) = muts (G s')) (r : Rep C.K X H (enc xs) v) (hm : compL f xs s0 = some q) (hl : xs.length ≤ 16777216)
    (body : ∀ x s, BodyC C X G (enc x) s (f x s) g tt te ws) (h : ∀ D X' H', C.H0 D = none → ¬ C.X0 D → Lo C X' H' σ (G q.2 ++ [.tmp D (ml q.1)]) → (∀ d u, Rep C.K X H d u → Rep C.K X' H' d u) → Q (.ref D) H') : KLcL C.K g tt te ws σ Q v H :=
  x_lcL0 L hG r hm hl body (fun D H' hD h0 hx M k m => lc_own L hD h0 M (hG _ _) k m (h D _ H' h0 hx))
theorem x_lcT [Py α] [Py β] {xs : List α} {f : α → τ → Option (Option β × τ)} {v : V} {G : τ → List Sl} {s0 : τ} {q : List β × τ} {g : TG} {tt : TT} {te : TE} {ws : List Nat} (L : Lo C X H σ (G s0)) (hG : ∀ s s', muts (G s) = muts (G s')) (r : Rep C.K X H (.tuple (xs.map enc)) v) (hm : compL f xs s0 = some q) (hl : xs.length ≤ 16777216)
    (body : ∀ x s, BodyC C X G (enc x) s (f x s) g tt te ws) (h : ∀ D H', Lo C X H' σ (G q.2) → (∀ d u, Rep C.K X H d u → Rep C.K X H' d u) → Rep C.K X H' (enc q.1) (.ref D) → Q (.ref D) H') : KLcT C.K g tt te ws σ Q v H :=
  x_lcT0 L hG r hm hl body (fun D H' hD h0 hx M k m => lc_data L hD M (hG _ _) k m (h D H'))
theorem x_lcTN [Py α] [Py β] {xs : List α} {f : α → τ → Option (Option β × τ)} {v : V} {G : τ → List Sl} {s0 : τ} {q : List β × τ} {g : TG} {tt : TT} {te : TE} {ws : List Nat} (L : Lo C X H σ (G s0)) (hG : ∀ s s', muts (G s) = muts (G s')) (r : Rep C.K X H (.tuple (xs.map enc)) v) (hm : compL f xs s0 = some q) (hl : xs.length ≤ 16777216)
    (body : ∀ x s, BodyC C X G (enc x) s (f x s) g tt te ws) (h : ∀ D X' H', C.H0 D = none → ¬ C.X0 D → Lo C X' H' σ (G q.2 ++ [.tmp D (ml q.1)]) → (∀ d u, Rep C.K X H d u → Rep C.K X' H' d u) → Q (.ref D) H') : KLcT C.K g tt te ws σ Q v H :=
  x_lcT0 L hG r hm hl body (fun D H' hD h0 hx M k m => lc_own L hD h0 M (hG _ _) k m (h D _ H' h0 hx))
theorem x_lcR [Py β] {lo : Int} {n : Nat} {f : Int → τ → Option (Option β × τ)} {G : τ → List Sl} {s0 : τ} {q : List β × τ} {g : TG} {tt : TT} {te : TE} {ws : List Nat} (L : Lo C X H σ (G s0)) (hG : ∀ s s', muts (G s) = muts (G s')) (hm : compL f (rangeL lo n) s0 = some q) (hl : n ≤ 16777216)
    (body : ∀ x s, BodyC C X G (enc x) s (f x s) g tt te ws) (h : ∀ D H', Lo C X H' σ (G q.2) → (∀ d u, Rep C.K X H d u → Rep C.K X H' d u) → Rep C.K X H' (enc q.1) (.ref D) → Q (.ref D) H') : KLcR lo n g tt te ws σ Q H :=
  x_lcR0 L hG hm hl body (fun D H' hD h0 hx M k m => lc_data L hD M (hG _ _) k m (h D H'))
theorem x_lcRN [Py β] {lo : Int} {n : Nat} {f : Int → τ → Option (Option β × τ)} {G : τ → List Sl} {s0 : τ} {q : List β × τ} {g : TG} {tt : TT} {te : TE} {ws : List Nat} (L : Lo C X H σ (G s0)) (hG : ∀ s s', muts (G s) = muts (G s')) (hm : compL f (rangeL lo n) s0 = some q) (hl : n ≤ 16777216)
    (body : ∀ x s, BodyC C X G (enc x) s (f x s) g tt te ws) (h : ∀ D X' H', C.H0 D = none → ¬ C.X0 D → Lo C X' H' σ (G q.2 ++ [.tmp D (ml q.1)]) → (∀ d u, Rep C.K X H d u → Rep C.K X' H' d u) → Q (.ref D) H') : KLcR lo n g tt te ws σ Q H :=
  x_lcR0 L hG hm hl body (fun D H' hD h0 hx M k m => lc_own L hD h0 M (hG _ _) k m (h D _ H' h0 hx))
/-- one turn of a comprehension -/
def KCt (te : TE) (σ : L2.St) (Qy : VK) (Qn : Hp → Prop) : Bool → Hp → Prop := fun b H => if b = true then te σ H Qy else Qn H
theorem Lo.cset {i : Nat} {u : V} {d : PyData} (L : Lo C X H σ Γ) (r : Rep C.K X H d u) (hi : i < C.n) {σ0 : L2.St} (e : ∀ j, j ≠ i → σ0[j]? = σ[j]?) (el : σ0.length = σ.length) : Lo C X H (σ0.set i (some u)) (Γ.set i (.imm d)) := by
  have e2 : σ0.set i (some u) = σ.set i (some u) := by
    apply List.ext_getElem?
    intro j
    by_cases z : j = i
    · subst z; rw [List.getElem?_set, List.getElem?_set, el, if_pos rfl, if_pos rfl]
    · rw [List.getElem?_set_ne (Ne.symm z), List.getElem?_set_ne (Ne.symm z), e j z]
  rw [e2]; exact L.set r hi
theorem x_cName {i : Nat} {u : V} {d : PyData} {tt : TT} {te : TE} {Qy : VK} {Qn : Hp → Prop} (L : Lo C X H σ Γ) (r : Rep C.K X H d u) (hi : i < C.n) (e : Γ.set i (.imm d) = Γ') (h : ∀ σ2, Lo C X H σ2 Γ' → tt σ2 H (KCt te σ2 Qy Qn)) :
    gName i u (wipe σ [i]) H fun σ2 H2 => wipe σ2 [i] = wipe σ [i] ∧ tt σ2 H2 fun b H3 => if b = true then te σ2 H3 Qy else Qn H3 := by
  subst e
  refine ⟨?_, h _ (L.cset r hi (fun j z => ?_) ?_)⟩
  · show ((σ.set i none).set i (some u)).set i none = σ.set i none
    rw [List.set_set, List.set_set]
  · exact List.getElem?_set_ne (Ne.symm z)
  · exact List.length_set
theorem x_cTup {i j : Nat} {u : V} {d1 d2 : PyData} {tt : TT} {te : TE} {Qy : VK} {Qn : Hp → Prop} (L : Lo C X H σ Γ) (r : Rep C.K X H (.tuple [d1, d2]) u) (hi : i < C.n) (hj : j < C.n) (ne : i ≠ j) (e : (Γ.set i (.imm d1)).set j (.imm d2) = Γ') (h : ∀ σ2, Lo C X H σ2 Γ' → tt σ2 H (KCt te σ2 Qy Qn)) :
    gTup C.K 2 (gCons (gName i) (gCons (gName j) gNil)) u (wipe σ [i, j]) H fun σ2 H2 => wipe σ2 [i, j] = wipe σ [i, j] ∧ tt σ2 H2 fun b H3 => if b = true then te σ2 H3 Qy else Qn H3 := by
  subst e
  obtain ⟨a, vs, rfl, hs, q⟩ := rep_tup r
  cases q with
  | @cons _ _ v1 _ r1 q => cases q with
    | @cons _ _ v2 _ r2 q => cases q with
      | nil =>
        refine ⟨a, _, rfl, hs, rfl, v1, [v2], rfl, v2, [], rfl, rfl, ?_⟩
        have e3 : (((σ.set j none).set i none).set i (some v1)).set j (some v2) = (σ.set i (some v1)).set j (some v2) := by
          rw [List.set_set, List.set_comm none (some v1) ne.symm, List.set_set]
        refine ⟨?_, ?_⟩
        · show (((((σ.set j none).set i none).set i (some v1)).set j (some v2)).set j none).set i none = (σ.set j none).set i none
          rw [e3, List.set_set, List.set_comm _ _ ne.symm, List.set_set, List.set_comm _ _ ne]
        · have q := h _ ((L.set r1 hi).set r2 hj)
          rw [← e3] at q
          exact q
theorem x_yes {te : TE} {Qy : VK} {Qn : Hp → Prop} (h : te σ H Qy) : tYes σ H (KCt te σ Qy Qn) := h
theorem x_ct {te : TE} {Qy : VK} {Qn : Hp → Prop} {c : Bool} {mA mB : Option ρ} {r : ρ} (hm : (if c = true then mA else mB) = some r) (hA : mA = some r → te σ H Qy) (hB : mB = some r → Qn H) : KCt te σ Qy Qn c H := by
  cases c with
  | true => exact hA hm
  | false => exact hB hm
theorem x_cy [Py β] {X' : Addr → Prop} {σ2 : L2.St} {H' : Hp} {K : PySem.W.Frag} {n : Nat} {G : τ → List Sl} {s s' : τ} {Γ2 : List Sl} {y : β} {r : Option β × τ} {v : V} {Qy : VK} (er : r = (some y, s')) (hy : ∀ y, r.1 = some y → ∀ v H', Lo ⟨K, X, H, muts (G s), n⟩ X H' σ (G r.2) → Rep K X H' (enc y) v → Qy v H')
    (L : Lo ⟨K, X, H, muts (G s), n⟩ X H σ (G s)) (M : Lo ⟨K, X, H, muts (G s), n⟩ X' H' σ2 Γ2) (b : Bk (G s) Γ2 (G s')) (q : Rep K X' H' (enc y) v) : Qy v H' := by
  subst er
  exact hy y rfl v H' (L.back M b) (Rep.anti M.m0 q)
theorem x_cn [Py β] {X' : Addr → Prop} {σ2 : L2.St} {H' : Hp} {K : PySem.W.Frag} {n : Nat} {G : τ → List Sl} {s s' : τ} {Γ2 : List Sl} {r : Option β × τ} {Qn : Hp → Prop} (er : r = (none, s')) (hn : r.1 = none → ∀ H', Lo ⟨K, X, H, muts (G s), n⟩ X H' σ (G r.2) → Qn H')
    (L : Lo ⟨K, X, H, muts (G s), n⟩ X H σ (G s)) (M : Lo ⟨K, X, H, muts (G s), n⟩ X' H' σ2 Γ2) (b : Bk (G s) Γ2 (G s')) : Qn H' := by
  subst er
  exact hn rfl H' (L.back M b)
end
open Py (enc)

/-! ### equality of data -/
class PyE (α : Type) [Py α] [DecidableEq α] where
  d : Nat
  eqv : ∀ x y : α, PyData.eqv (enc x) (enc y) = decide (x = y)
  lay : ∀ x : α, PyData.canLay0 (enc x) = true
  dep : ∀ x : α, PyData.depth (enc x) ≤ d
instance : PyE Int := ⟨0, fun x y => by
  show PyData.eqv (.int x) (.int y) = _
  unfold PyData.eqv
  by_cases z : x = y <;> simp [z], fun _ => rfl, fun _ => Nat.le_refl _⟩
instance : PyE Bool := ⟨0, fun x y => by cases x <;> cases y <;> rfl, fun _ => rfl, fun _ => Nat.le_refl _⟩
section
variable {α β γ δ ε : Type} [Py α] [DecidableEq α] [Py β] [DecidableEq β] [Py γ] [DecidableEq γ] [Py δ] [DecidableEq δ] [Py ε] [DecidableEq ε]
theorem eqvAll_nil : PyData.eqvAll [] [] = true := by unfold PyData.eqvAll; rfl
theorem eqvAll_cons {x y : PyData} {xs ys : List PyData} : PyData.eqvAll (x :: xs) (y :: ys) = (PyData.eqv x y && PyData.eqvAll xs ys) := by rw [PyData.eqvAll]
theorem eqv_tup {xs ys : List PyData} : PyData.eqv (.tuple xs) (.tuple ys) = PyData.eqvAll xs ys := by rw [PyData.eqv]
theorem eqv_lst {xs ys : List PyData} : PyData.eqv (.list xs) (.list ys) = PyData.eqvAll xs ys := by rw [PyData.eqv]
theorem layAll_nil : PyData.canLayAll0 [] = true := by unfold PyData.canLayAll0; rfl
theorem layAll_cons {x : PyData} {xs : List PyData} : PyData.canLayAll0 (x :: xs) = (PyData.canLay0 x && PyData.canLayAll0 xs) := by rw [PyData.canLayAll0]
theorem lay_tup {xs : List PyData} : PyData.canLay0 (.tuple xs) = PyData.canLayAll0 xs := by rw [PyData.canLay0]
theorem lay_lst {xs : List PyData} : PyData.canLay0 (.list xs) = PyData.canLayAll0 xs := by rw [PyData.canLay0]
theorem depAll_nil : PyData.depthAll [] = 0 := by unfold PyData.depthAll; rfl
theorem depAll_cons {x : PyData} {xs : List PyData} : PyData.depthAll (x :: xs) = max (PyData.depth x) (PyData.depthAll xs) := by rw [PyData.depthAll]
theorem dep_tup {xs : List PyData} : PyData.depth (.tuple xs) = PyData.depthAll xs + 1 := by rw [PyData.depth]
theorem dep_lst {xs : List PyData} : PyData.depth (.list xs) = PyData.depthAll xs + 1 := by rw [PyData.depth]
instance [PyE α] [PyE β] : PyE (T2 α β) where
  d := max (PyE.d α) (PyE.d β) + 1
  eqv := fun ⟨a, b⟩ ⟨a', b'⟩ => by
    show PyData.eqv (.tuple [enc a, enc b]) (.tuple [enc a', enc b']) = _
    rw [eqv_tup, eqvAll_cons, eqvAll_cons, eqvAll_nil, PyE.eqv, PyE.eqv]
    by_cases h1 : a = a' <;> by_cases h2 : b = b' <;> simp [h1, h2]
  lay := fun ⟨a, b⟩ => by
    show PyData.canLay0 (.tuple [enc a, enc b]) = true
    rw [lay_tup, layAll_cons, layAll_cons, layAll_nil, PyE.lay, PyE.lay]; rfl
  dep := fun ⟨a, b⟩ => by
    show PyData.depth (.tuple [enc a, enc b]) ≤ _
    rw [dep_tup, depAll_cons, depAll_cons, depAll_nil]
    have := PyE.dep a
    have := PyE.dep b
    omega
instance [PyE α] [PyE β] [PyE γ] : PyE (T3 α β γ) where
  d := max (PyE.d α) (max (PyE.d β) (PyE.d γ)) + 1
  eqv := fun ⟨a, b, c⟩ ⟨a', b', c'⟩ => by
    show PyData.eqv (.tuple [enc a, enc b, enc c]) (.tuple [enc a', enc b', enc c']) = _
    rw [eqv_tup, eqvAll_cons, eqvAll_cons, eqvAll_cons, eqvAll_nil, PyE.eqv, PyE.eqv, PyE.eqv]
    by_cases h1 : a = a' <;> by_cases h2 : b = b' <;> by_cases h3 : c = c' <;> simp [h1, h2, h3]
  lay := fun ⟨a, b, c⟩ => by
    show PyData.canLay0 (.tuple [enc a, enc b, enc c]) = true
    rw [lay_tup, layAll_cons, layAll_cons, layAll_cons, layAll_nil, PyE.lay, PyE.lay, PyE.lay]; rfl
  dep := fun ⟨a, b, c⟩ => by
    show PyData.depth (.tuple [enc a, enc b, enc c]) ≤ _
    rw [dep_tup, depAll_cons, depAll_cons, depAll_cons, depAll_nil]
    have := PyE.dep a
    have := PyE.dep b
    have := PyE.dep c
    omega
instance [PyE α] [PyE β] [PyE γ] [PyE δ] : PyE (T4 α β γ δ) where
  d := max (PyE.d α) (max (PyE.d β) (max (PyE.d γ) (PyE.d δ))) + 1
  eqv := fun ⟨a, b, c, d⟩ ⟨a', b', c', d'⟩ => by
    show PyData.eqv (.tuple [enc a, enc b, enc c, enc d]) (.tuple [enc a', enc b', enc c', enc d']) = _
    rw [eqv_tup, eqvAll_cons, eqvAll_cons, eqvAll_cons, eqvAll_cons, eqvAll_nil, PyE.eqv, PyE.eqv, PyE.eqv, PyE.eqv]
    by_cases h1 : a = a' <;> by_cases h2 : b = b' <;> by_cases h3 : c = c' <;> by_cases h4 : d = d' <;> simp [h1, h2, h3, h4]
  lay := fun ⟨a, b, c, d⟩ => by
    show PyData.canLay0 (.tuple [enc a, enc b, enc c, enc d]) = true
    rw [lay_tup, layAll_cons, layAll_cons, layAll_cons, layAll_cons, layAll_nil, PyE.lay, PyE.lay, PyE.lay, PyE.lay]; rfl
  dep := fun ⟨a, b, c, d⟩ => by
    show PyData.depth (.tuple [enc a, enc b, enc c, enc d]) ≤ _
    rw [dep_tup, depAll_cons, depAll_cons, depAll_cons, depAll_cons, depAll_nil]
    have := PyE.dep a
    have := PyE.dep b
    have := PyE.dep c
    have := PyE.dep d
    omega
instance [PyE α] : PyE (List α) where
  d := PyE.d α + 1
  eqv := fun xs ys => by
    show PyData.eqv (.list (xs.map enc)) (.list (ys.map enc)) = _
    rw [eqv_lst]
    induction xs generalizing ys with
    | nil => cases ys with
      | nil => rw [List.map_nil, eqvAll_nil]; rfl
      | cons y ys => rw [List.map_nil, List.map_cons, PyData.eqvAll]; rfl
    | cons x xs ih => cases ys with
      | nil => rw [List.map_nil, List.map_cons, PyData.eqvAll]; rfl
      | cons y ys =>
        rw [List.map_cons, List.map_cons, eqvAll_cons, ih, PyE.eqv]
        by_cases h1 : x = y <;> by_cases h2 : xs = ys <;> simp [h1, h2]
  lay := fun xs => by
    show PyData.canLay0 (.list (xs.map enc)) = true
    rw [lay_lst]
    induction xs with
    | nil => rw [List.map_nil, layAll_nil]
    | cons x xs ih => rw [List.map_cons, layAll_cons, PyE.lay, ih]; rfl
  dep := fun xs => by
    show PyData.depth (.list (xs.map enc)) ≤ _
    rw [dep_lst]
    refine Nat.succ_le_succ ?_
    induction xs with
    | nil => rw [List.map_nil, depAll_nil]; exact Nat.zero_le _
    | cons x xs ih =>
      rw [List.map_cons, depAll_cons]
      have := PyE.dep x
      omega
theorem shaped_of [PyE α] (h : PyE.d α ≤ 64) (x : α) : SeqAt.shaped (enc x) = true := by
  unfold SeqAt.shaped
  have := PyE.dep x
  rw [PyE.lay, Bool.true_and]
  exact decide_eq_true (by omega)
end

section
variable {C : Cn} {X : Addr → Prop} {H : Hp} {σ : L2.St} {Γ Γ' : List Sl} {Q : VK} {α β γ δ ε ρ : Type}
/-! ### what a value stands for, in any shape -/
theorem Lo.dpM [Py α] {xs : List α} {i : Nat} {p : Addr} (L : Lo C X H σ Γ) (g : Γ[i]? = some (.mu p (ml xs))) : Dp C.K H (.ref p) (enc xs) := by
  obtain ⟨vs, hs, q⟩ := L.mrep g
  exact .lst (.inl (.inl hs)) (Reps.dp q)
theorem x_eqd [Py α] [DecidableEq α] [PyE α] {x y : α} {u v : V} (r : Dp C.K H u (enc x)) (q : Dp C.K H v (enc y)) (h64 : PyE.d α ≤ 64) (h : Q (.bl (decide (x = y))) H) : rEqD C.K u v H Q :=
  ⟨_, _, r, q, shaped_of h64 x, shaped_of h64 y, by rw [PyE.eqv]; exact h⟩
theorem x_ned [Py α] [DecidableEq α] [PyE α] {x y : α} {u v : V} (r : Dp C.K H u (enc x)) (q : Dp C.K H v (enc y)) (h64 : PyE.d α ≤ 64) (h : Q (.bl (!decide (x = y))) H) : rNeD C.K u v H Q :=
  ⟨_, _, r, q, shaped_of h64 x, shaped_of h64 y, by rw [PyE.eqv]; exact h⟩
/-- x in xs -/
def memB {α : Type} [DecidableEq α] (x : α) (xs : List α) : Bool := xs.any fun z => decide (z = x)
theorem any_eqv [Py α] [DecidableEq α] [PyE α] {x : α} {xs : List α} : ((xs.map enc).any fun z => PyData.eqv z (enc x)) = memB x xs := by
  unfold memB
  rw [List.any_map]
  congr 1
  funext z
  exact PyE.eqv z x
theorem x_ind [Py α] [DecidableEq α] [PyE α] {x : α} {ys : List α} {u v : V} (r : Dp C.K H u (enc x)) (q : Dp C.K H v (enc ys)) (h64 : PyE.d (List α) ≤ 64) (h : Q (.bl (memB x ys)) H) : rInD C.K u v H Q :=
  ⟨_, _, r, q, shaped_of (Nat.le_trans (Nat.le_succ _) h64) x, shaped_of h64 ys, by rw [any_eqv]; exact h⟩
theorem x_nind [Py α] [DecidableEq α] [PyE α] {x : α} {ys : List α} {u v : V} (r : Dp C.K H u (enc x)) (q : Dp C.K H v (enc ys)) (h64 : PyE.d (List α) ≤ 64) (h : Q (.bl (!memB x ys)) H) : rNotInD C.K u v H Q :=
  ⟨_, _, r, q, shaped_of (Nat.le_trans (Nat.le_succ _) h64) x, shaped_of h64 ys, by rw [any_eqv]; exact h⟩
/-! ### None -/
class NN (α : Type) [Py α] : Prop where
  ne : ∀ x : α, enc x ≠ PyData.none
instance : NN Int := ⟨fun _ z => nomatch z⟩
instance : NN Bool := ⟨fun _ z => nomatch z⟩
instance : NN Str := ⟨fun _ z => nomatch z⟩
instance {α : Type} [Py α] : NN (List α) := ⟨fun _ z => nomatch z⟩
instance {α : Type} [Py α] : NN (T1 α) := ⟨fun _ z => nomatch z⟩
instance {α β : Type} [Py α] [Py β] : NN (T2 α β) := ⟨fun _ z => nomatch z⟩
instance {α β γ : Type} [Py α] [Py β] [Py γ] : NN (T3 α β γ) := ⟨fun _ z => nomatch z⟩
instance {α β γ δ : Type} [Py α] [Py β] [Py γ] [Py δ] : NN (T4 α β γ δ) := ⟨fun _ z => nomatch z⟩
theorem rep_non {K : PySem.W.Frag} {d : PyData} {v : V} (r : Rep K X H d v) (ne : d ≠ .none) : v ≠ .non := by
  cases r <;> intro z <;> first | exact ne rfl | cases z
def rIsNX : R2 := fun x y H Q => y = .non ∧ Q (.bl (decide (x = .non))) H
def rNotNX : R2 := fun x y H Q => y = .non ∧ Q (.bl (!decide (x = .non))) H
theorem op_isNX {Xc : Cx} : OpR Xc (compareOp .Is) rIsNX := op_isN
theorem op_notNX {Xc : Cx} : OpR Xc (compareOp .IsNot) rNotNX := op_notN
theorem dec_none [Py α] [NN α] {K : PySem.W.Frag} {o : Option α} {v : V} (r : Rep K X H (enc o) v) : decide (v = V.non) = o.isNone := by
  cases o with
  | none => cases (show Rep K X H PyData.none v from r); rfl
  | some x => simp [rep_non (show Rep K X H (enc x) v from r) (NN.ne x)]
theorem x_isNO [Py α] [NN α] {o : Option α} {v : V} (r : Rep C.K X H (enc o) v) (h : Q (.bl o.isNone) H) : rIsNX v .non H Q := ⟨rfl, by rw [dec_none r]; exact h⟩
theorem x_notNO [Py α] [NN α] {o : Option α} {v : V} (r : Rep C.K X H (enc o) v) (h : Q (.bl (!o.isNone)) H) : rNotNX v .non H Q := ⟨rfl, by rw [dec_none r]; exact h⟩
theorem x_isNS {v : V} {b : Bool} (e : decide (v = V.non) = b) (h : Q (.bl b) H) : rIsNX v .non H Q := ⟨rfl, by rw [e]; exact h⟩
theorem x_notNS {v : V} {b : Bool} (e : decide (v = V.non) = b) (h : Q (.bl (!b)) H) : rNotNX v .non H Q := ⟨rfl, by rw [e]; exact h⟩
theorem x_isND [Py α] [NN α] {x : α} {v : V} (r : Rep C.K X H (enc x) v) (h : Q (.bl false) H) : rIsNX v .non H Q := ⟨rfl, by rw [show decide (v = V.non) = false from by simp [rep_non r (NN.ne x)]]; exact h⟩
theorem x_notND [Py α] [NN α] {x : α} {v : V} (r : Rep C.K X H (enc x) v) (h : Q (.bl (!false)) H) : rNotNX v .non H Q := ⟨rfl, by rw [show decide (v = V.non) = false from by simp [rep_non r (NN.ne x)]]; exact h⟩
/-- a value that is not None -/
theorem Lo.someS [Py α] {o : Option α} {x : α} {i : Nat} (L : Lo C X H σ Γ) (g : Γ[i]? = some (.imm (enc o))) (e : o = some x) (eΓ : Γ.set i (.imm (enc x)) = Γ') : Lo C X H σ Γ' := by
  subst eΓ
  have hil : i < Γ.length := (List.getElem?_eq_some_iff.mp g).1
  have : Γ.set i (.imm (enc x)) = Γ := by
    apply List.ext_getElem?
    intro j
    by_cases z : j = i
    · subst z; rw [List.getElem?_set_self hil, g, e]; rfl
    · rw [List.getElem?_set_ne (Ne.symm z)]
  rw [this]; exact L
instance [Py α] [NN α] [DecidableEq α] [PyE α] : PyE (Option α) where
  d := PyE.d α
  eqv := fun x y => by
    have hn : ∀ z : α, PyData.eqv .none (enc z) = false ∧ PyData.eqv (enc z) .none = false := fun z => by
      have := NN.ne z
      constructor
      · cases h : enc z <;> first | exact (this h).elim | (unfold PyData.eqv; rfl)
      · cases h : enc z <;> first | exact (this h).elim | (unfold PyData.eqv; rfl)
    cases x with
    | none => cases y with
      | none => show PyData.eqv .none .none = _; unfold PyData.eqv; rfl
      | some y => show PyData.eqv .none (enc y) = _; rw [(hn y).1]; rfl
    | some x => cases y with
      | none => show PyData.eqv (enc x) .none = _; rw [(hn x).2]; rfl
      | some y => show PyData.eqv (enc x) (enc y) = _; rw [PyE.eqv]; by_cases z : x = y <;> simp [z]
  lay := fun x => by
    cases x with
    | none => rfl
    | some x => exact PyE.lay x
  dep := fun x => by
    cases x with
    | none => exact Nat.zero_le _
    | some x => exact PyE.dep x
/-! ### built-ins -/
theorem x_cb {r : List V → Hp → VK → Prop} {t : TA} (h : t σ H fun vs H1 => r vs H1 Q) : tCB r t σ H Q := h
theorem x_call {sp : Sp} {E : XK} {t : TA} (h : t σ H fun vs H1 => sp (vs ++ []) H1 Q E) : tCall sp [] E t σ H Q := h
def rLenX (K : PySem.W.Frag) : List V → Hp → VK → Prop := fun xs H Q => ∃ p ys, xs = [.ref p] ∧ (SqL K H p ys ∨ SqT K H p ys) ∧ Q (.int ys.length) H
theorem call_lenX {Xc : Cx} : CallR Xc (.builtin "len") (rLenX Xc.K) := call_len_seq
def rAbsX : List V → Hp → VK → Prop := fun xs H Q => ∃ i, xs = [.int i] ∧ Q (.int (if i < 0 then -i else i)) H
theorem call_absX {Xc : Cx} : CallR Xc (.builtin "abs") rAbsX := call_abs
def rIntX : List V → Hp → VK → Prop := fun xs H Q => (∃ i, xs = [.int i] ∧ Q (.int i) H) ∨ ∃ k, xs = [.bl k] ∧ Q (.int (if k then 1 else 0)) H
theorem call_intX {Xc : Cx} : CallR Xc (.type "int") rIntX := call_int1
def rMaxX : List V → Hp → VK → Prop := fun xs H Q => ∃ i j, xs = [.int i, .int j] ∧ Q (.int (if j > i then j else i)) H
theorem call_maxX {Xc : Cx} (hc : Xc.calm = true) : CallR Xc (.builtin "max") rMaxX := call_max2 hc
def rMinX : List V → Hp → VK → Prop := fun xs H Q => ∃ i j, xs = [.int i, .int j] ∧ Q (.int (if j < i then j else i)) H
theorem call_minX {Xc : Cx} (hc : Xc.calm = true) : CallR Xc (.builtin "min") rMinX := call_min2 hc
def rListX (K : PySem.W.Frag) : List V → Hp → VK → Prop := fun xs H Q => ∃ p ys, xs = [.ref p] ∧ (SqL K H p ys ∨ SqT K H p ys) ∧ ∀ l, H l = none → Q (.ref l) (upd H l (.lst ys))
theorem call_listX {Xc : Cx} : CallR Xc (.type "list") (rListX Xc.K) := call_list_of
theorem x_lenL [Py α] {xs : List α} {v : V} (r : Rep C.K X H (enc xs) v) (h : Q (.int (xs.length : Int)) H) : rLenX C.K [v] H Q := by
  obtain ⟨a, vs, rfl, _, hs, q⟩ := rep_lst (ds := xs.map enc) r
  refine ⟨a, vs, rfl, .inl (.inl hs), ?_⟩
  rw [q.length, List.length_map]; exact h
theorem x_lenS {ns : List Int} {v : V} (r : SqX C.K X H ns v) (h : Q (.int (ns.length : Int)) H) : rLenX C.K [v] H Q := by
  obtain ⟨a, rfl, hs⟩ := r.sq
  refine ⟨a, _, rfl, .inl hs, ?_⟩
  rw [List.length_map]; exact h
theorem x_lenM [Py α] {xs : List α} {j : Nat} {p : Addr} (L : Lo C X H σ Γ) (g : Γ[j]? = some (.mu p (ml xs))) (h : Q (.int (xs.length : Int)) H) : rLenX C.K [.ref p] H Q := by
  obtain ⟨vs, hs, q⟩ := L.mrep g
  refine ⟨p, vs, rfl, .inl (.inl (.inl hs)), ?_⟩
  rw [q.length, List.length_map]; exact h
theorem x_lenT {ds : List PyData} {n : Int} {v : V} (r : Rep C.K X H (.tuple ds) v) (e : (ds.length : Int) = n) (h : Q (.int n) H) : rLenX C.K [v] H Q := by
  obtain ⟨a, vs, rfl, hs, q⟩ := rep_tup r
  refine ⟨a, vs, rfl, .inr hs, ?_⟩
  rw [q.length, e]; exact h
/-- a value's type -/
def tyName : PyData → String
  | .none => "NoneType"
  | .bool _ => "bool"
  | .int _ => "int"
  | .str _ => "str"
  | .list _ => "list"
  | .tuple _ => "tuple"
  | .dict _ => "dict"
theorem Rep.ty {d : PyData} {v : V} (r : Rep C.K X H d v) : TyX C.K H v (.type (tyName d)) := by
  cases r with
  | non => exact .base .non
  | bl b => exact .base (.bl b)
  | int i => exact .base (.int i)
  | str x => exact .base (.str x)
  | tup h q =>
    exact .base (.tup h)
  | lst n h q =>
    rcases h with h | ⟨o, h⟩
    · exact .base (.lst h)
    · exact .base (.frz h)
theorem x_isi {d : PyData} {v : V} {T : String} {b : Bool} (r : Rep C.K X H d v) (e : kitB (tyName d) T = some b) (h : Q (.bl b) H) : rIsi C.K [v, .ty T] H Q :=
  ⟨v, .ty T, _, .type T, b, rfl, .ty T, r.ty, kit_ty e, h⟩
theorem x_isiI {K : PySem.W.Frag} {x : Int} {T : String} {b : Bool} (e : kitB (tyName (PyData.int x)) T = some b) (h : Q (.bl b) H) : rIsi K [(V.int x), .ty T] H Q :=
  x_isi (C := ⟨K, fun _ => False, H, [], 0⟩) (X := fun _ => False) (d := (PyData.int x)) (.int _) e h
theorem x_isiB {K : PySem.W.Frag} {x : Bool} {T : String} {b : Bool} (e : kitB (tyName (PyData.bool x)) T = some b) (h : Q (.bl b) H) : rIsi K [(V.bl x), .ty T] H Q :=
  x_isi (C := ⟨K, fun _ => False, H, [], 0⟩) (X := fun _ => False) (d := (PyData.bool x)) (.bl _) e h
theorem x_isiS {K : PySem.W.Frag} {x : Str} {T : String} {b : Bool} (e : kitB (tyName (PyData.str x)) T = some b) (h : Q (.bl b) H) : rIsi K [(V.str x), .ty T] H Q :=
  x_isi (C := ⟨K, fun _ => False, H, [], 0⟩) (X := fun _ => False) (d := (PyData.str x)) (.str _) e h
theorem x_isiN {K : PySem.W.Frag} {x : Unit} {T : String} {b : Bool} (e : kitB (tyName PyData.none) T = some b) (h : Q (.bl b) H) : rIsi K [V.non, .ty T] H Q :=
  x_isi (C := ⟨K, fun _ => False, H, [], 0⟩) (X := fun _ => False) (d := PyData.none) .non e h
theorem x_isiM {i : Nat} {p : Addr} {ds : List PyData} {T : String} {b : Bool} (L : Lo C X H σ Γ) (g : Γ[i]? = some (.mu p (.lst ds))) (e : kitB "list" T = some b) (h : Q (.bl b) H) : rIsi C.K [.ref p, .ty T] H Q := by
  obtain ⟨vs, hs, q⟩ := L.mrep g
  exact ⟨.ref p, .ty T, _, .type T, b, rfl, .ty T, .base (.lst hs), kit_ty e, h⟩
theorem x_abs {a : Int} (h : Q (.int (iabs a)) H) : rAbsX [V.int a] H Q := ⟨a, rfl, h⟩
theorem x_intb {b : Bool} (h : Q (.int (b2 b)) H) : rIntX [V.bl b] H Q := .inr ⟨b, rfl, h⟩
theorem x_inti {a : Int} (h : Q (.int a) H) : rIntX [V.int a] H Q := .inl ⟨a, rfl, h⟩
def imax (a b : Int) : Int := if b > a then b else a
def imin (a b : Int) : Int := if b < a then b else a
theorem x_max {a b : Int} (h : Q (.int (imax a b)) H) : rMaxX [V.int a, V.int b] H Q := ⟨a, b, rfl, h⟩
theorem x_min {a b : Int} (h : Q (.int (imin a b)) H) : rMinX [V.int a, V.int b] H Q := ⟨a, b, rfl, h⟩
theorem x_all {bs : List Bool} {v : V} (r : Rep C.K X H (enc bs) v) (h : Q (.bl (bs.all id)) H) : rAll C.K [v] H Q := by
  obtain ⟨a, vs, rfl, _, hs, q⟩ := rep_lst (ds := bs.map enc) r
  have e := Reps.toBools q
  subst e
  exact ⟨a, bs, rfl, .inl hs, h⟩
theorem x_sum {ns : List Int} {v : V} (r : Rep C.K X H (enc ns) v) (h : Q (.int ns.sum) H) : rSum C.K [v] H Q := by
  obtain ⟨a, vs, rfl, _, hs, q⟩ := rep_lst (ds := ns.map enc) r
  have e := Reps.toInts q
  subst e
  exact ⟨a, ns, rfl, .inl hs, h⟩
theorem x_any {bs : List Bool} {v : V} (r : Rep C.K X H (enc bs) v) (h : Q (.bl (bs.any id)) H) : rAny C.K [v] H Q := by
  obtain ⟨a, vs, rfl, _, hs, q⟩ := rep_lst (ds := bs.map enc) r
  have e := Reps.toBools q
  subst e
  exact ⟨a, bs, rfl, .inl hs, h⟩
/-! ### slices, sums of lists -/
def slice {α : Type} (xs : List α) (lo hi : Option Int) : List α := (xs.drop (HT.sIx xs.length 0 lo)).take (HT.sIx xs.length xs.length hi - HT.sIx xs.length 0 lo)
def KPart (Q : Option Int → Hp → Prop) : VK := fun x H => ∃ i, x = .int i ∧ Q (some i) H
theorem x_sl {r : V → Option Int → Option Int → Hp → VK → Prop} {te : TE} {tl th : TO} (h : te σ H fun x H1 => tl σ H1 fun l H2 => th σ H2 fun u H3 => r x l u H3 Q) : tSl r te tl th σ H Q := h
theorem x_noP {Q : Option Int → Hp → Prop} (h : Q none H) : tNoPart σ H Q := h
theorem x_part {t : TE} {Q : Option Int → Hp → Prop} (h : t σ H (KPart Q)) : tPart t σ H Q := h
theorem x_partK {i : Int} {Q : Option Int → Hp → Prop} (h : Q (some i) H) : KPart Q (.int i) H := ⟨i, rfl, h⟩
theorem reps_slice {K : PySem.W.Frag} [Py α] {xs : List α} {vs : List V} {lo hi : Option Int} (q : Reps K X H (xs.map enc) vs) : Reps K X H ((slice xs lo hi).map enc) (cutV vs lo hi) := by
  have e : vs.length = xs.length := by rw [q.length, List.length_map]
  unfold slice cutV
  rw [e, List.map_take, List.map_drop]
  exact (q.drop _).take _
/-- a new list, told as data or as the body's own -/
theorem x_new {ds : List PyData} {vs : List V} (L : Lo C X H σ Γ) (q : Reps C.K X H ds vs) (h : ∀ v H1, Lo C X H1 σ Γ → (∀ d u, Rep C.K X H d u → Rep C.K X H1 d u) → Rep C.K X H1 (.list ds) v → Q v H1) : ∀ p, H p = none → Q (.ref p) (upd H p (.lst vs)) := fun p hp => by
  have s : Same H (upd H p (.lst vs)) := same_upd hp
  have r : RRep C.K X H (upd H p (.lst vs)) (.new (.lst ds)) (.ref p) := ⟨p, rfl, hp, vs, upd_same, (q.more hp).keep (.same s)⟩
  exact h _ _ (L.same s) (fun _ _ r => r.keep (.same s)) (r.imm L.xd)
theorem x_newN {ds : List PyData} {vs : List V} (L : Lo C X H σ Γ) (q : Reps C.K X H ds vs) (h : ∀ p X' H1, C.H0 p = none → ¬ C.X0 p → Lo C X' H1 σ (Γ ++ [.tmp p (.lst ds)]) → (∀ d u, Rep C.K X H d u → Rep C.K X' H1 d u) → Q (.ref p) H1) : ∀ p, H p = none → Q (.ref p) (upd H p (.lst vs)) := fun p hp => by
  have s : Same H (upd H p (.lst vs)) := same_upd hp
  obtain ⟨L1, le, h0, hx⟩ := L.lay (o := .lst ds) hp s ⟨vs, upd_same, (q.more hp).keep (.same s)⟩
  exact h p _ _ h0 hx L1 le
theorem x_slL [Py α] {xs : List α} {v : V} {lo hi : Option Int} (L : Lo C X H σ Γ) (r : Rep C.K X H (enc xs) v) (h : ∀ v H1, Lo C X H1 σ Γ → (∀ d u, Rep C.K X H d u → Rep C.K X H1 d u) → Rep C.K X H1 (enc (slice xs lo hi)) v → Q v H1) : rSlL C.K v lo hi H Q := by
  obtain ⟨a, vs, rfl, _, hs, q⟩ := rep_lst (ds := xs.map enc) r
  exact ⟨a, vs, rfl, .inl hs, x_new L (reps_slice q) h⟩
theorem x_slN [Py α] {xs : List α} {v : V} {lo hi : Option Int} (L : Lo C X H σ Γ) (r : Rep C.K X H (enc xs) v) (h : ∀ p X' H1, C.H0 p = none → ¬ C.X0 p → Lo C X' H1 σ (Γ ++ [.tmp p (ml (slice xs lo hi))]) → (∀ d u, Rep C.K X H d u → Rep C.K X' H1 d u) → Q (.ref p) H1) : rSlL C.K v lo hi H Q := by
  obtain ⟨a, vs, rfl, _, hs, q⟩ := rep_lst (ds := xs.map enc) r
  exact ⟨a, vs, rfl, .inl hs, x_newN L (reps_slice q) h⟩
theorem x_slM [Py α] {xs : List α} {i : Nat} {p : Addr} {lo hi : Option Int} (L : Lo C X H σ Γ) (g : Γ[i]? = some (.mu p (ml xs))) (h : ∀ v H1, Lo C X H1 σ Γ → (∀ d u, Rep C.K X H d u → Rep C.K X H1 d u) → Rep C.K X H1 (enc (slice xs lo hi)) v → Q v H1) : rSlL C.K (.ref p) lo hi H Q := by
  obtain ⟨vs, hs, q⟩ := L.mrep g
  exact ⟨p, vs, rfl, .inl (.inl hs), x_new L (reps_slice q) h⟩
theorem x_slMN [Py α] {xs : List α} {i : Nat} {p : Addr} {lo hi : Option Int} (L : Lo C X H σ Γ) (g : Γ[i]? = some (.mu p (ml xs))) (h : ∀ p X' H1, C.H0 p = none → ¬ C.X0 p → Lo C X' H1 σ (Γ ++ [.tmp p (ml (slice xs lo hi))]) → (∀ d u, Rep C.K X H d u → Rep C.K X' H1 d u) → Q (.ref p) H1) : rSlL C.K (.ref p) lo hi H Q := by
  obtain ⟨vs, hs, q⟩ := L.mrep g
  exact ⟨p, vs, rfl, .inl (.inl hs), x_newN L (reps_slice q) h⟩
theorem x_slS {ns : List Int} {v : V} {lo hi : Option Int} (L : Lo C X H σ Γ) (r : SqX C.K X H ns v) (h : ∀ v H1, Lo C X H1 σ Γ → (∀ d u, Rep C.K X H d u → Rep C.K X H1 d u) → Rep C.K X H1 (enc (slice ns lo hi)) v → Q v H1) : rSlL C.K v lo hi H Q := by
  obtain ⟨a, rfl, hs⟩ := r.sq
  refine ⟨a, _, rfl, hs, x_new L (reps_slice (xs := ns) ?_) h⟩
  exact Reps.ints
/-- a part of a tuple -/
theorem x_slT {ds es : List PyData} {v : V} {lo hi : Option Int} (n : Nat) (L : Lo C X H σ Γ) (r : Rep C.K X H (.tuple ds) v) (hn : ds.length = n) (e : (ds.drop (HT.sIx ds.length 0 lo)).take (HT.sIx ds.length ds.length hi - HT.sIx ds.length 0 lo) = es) (ne : ¬ (HT.sIx n 0 lo = 0 ∧ HT.sIx n n hi = n))
    (h : ∀ v H1, Lo C X H1 σ Γ → (∀ d u, Rep C.K X H d u → Rep C.K X H1 d u) → Rep C.K X H1 (.tuple es) v → Q v H1) : rSlT C.K v lo hi H Q := by
  obtain ⟨a, vs, rfl, hs, q⟩ := rep_tup r
  have e2 : vs.length = ds.length := q.length
  refine ⟨a, vs, rfl, hs, by rw [e2, hn]; exact ne, fun p hp => ?_⟩
  have s : Same H (upd H p (.tup (cutV vs lo hi))) := same_upd hp
  have q2 : Reps C.K X H es (cutV vs lo hi) := by
    rw [← e]
    unfold cutV
    rw [e2]
    exact (q.drop _).take _
  exact h _ _ (L.same s) (fun _ _ r => r.keep (.same s)) (.tup upd_same (q2.keep (.same s)))
/-- xs[::-1] -/
def KRev (K : PySem.W.Frag) (Q : VK) : VK := fun x H => ∃ a xs, x = .ref a ∧ SqL K H a xs ∧ ∀ p, H p = none → Q (.ref p) (upd H p (.lst xs.reverse))
theorem x_revL {K : PySem.W.Frag} {te : TE} (h : te σ H (KRev K Q)) : tRevL K te σ H Q := h
theorem x_revv [Py α] {xs : List α} {v : V} (L : Lo C X H σ Γ) (r : Rep C.K X H (enc xs) v) (h : ∀ v H1, Lo C X H1 σ Γ → (∀ d u, Rep C.K X H d u → Rep C.K X H1 d u) → Rep C.K X H1 (enc xs.reverse) v → Q v H1) : KRev C.K Q v H := by
  obtain ⟨a, vs, rfl, _, hs, q⟩ := rep_lst (ds := xs.map enc) r
  exact ⟨a, vs, rfl, .inl hs, x_new (ds := xs.reverse.map enc) L (by rw [List.map_reverse]; exact q.reverse) h⟩
theorem x_revN [Py α] {xs : List α} {v : V} (L : Lo C X H σ Γ) (r : Rep C.K X H (enc xs) v) (h : ∀ p X' H1, C.H0 p = none → ¬ C.X0 p → Lo C X' H1 σ (Γ ++ [.tmp p (ml xs.reverse)]) → (∀ d u, Rep C.K X H d u → Rep C.K X' H1 d u) → Q (.ref p) H1) : KRev C.K Q v H := by
  obtain ⟨a, vs, rfl, _, hs, q⟩ := rep_lst (ds := xs.map enc) r
  exact ⟨a, vs, rfl, .inl hs, x_newN (ds := xs.reverse.map enc) L (by rw [List.map_reverse]; exact q.reverse) h⟩
/-- list(xs) -/
theorem x_listL [Py α] {xs : List α} {v : V} (L : Lo C X H σ Γ) (r : Rep C.K X H (enc xs) v) (h : ∀ v H1, Lo C X H1 σ Γ → (∀ d u, Rep C.K X H d u → Rep C.K X H1 d u) → Rep C.K X H1 (enc xs) v → Q v H1) : rListX C.K [v] H Q := by
  obtain ⟨a, vs, rfl, _, hs, q⟩ := rep_lst (ds := xs.map enc) r
  exact ⟨a, vs, rfl, .inl (.inl hs), x_new L q h⟩
theorem x_listN [Py α] {xs : List α} {v : V} (L : Lo C X H σ Γ) (r : Rep C.K X H (enc xs) v) (h : ∀ p X' H1, C.H0 p = none → ¬ C.X0 p → Lo C X' H1 σ (Γ ++ [.tmp p (ml xs)]) → (∀ d u, Rep C.K X H d u → Rep C.K X' H1 d u) → Q (.ref p) H1) : rListX C.K [v] H Q := by
  obtain ⟨a, vs, rfl, _, hs, q⟩ := rep_lst (ds := xs.map enc) r
  exact ⟨a, vs, rfl, .inl (.inl hs), x_newN L q h⟩
theorem x_listM [Py α] {xs : List α} {i : Nat} {p : Addr} (L : Lo C X H σ Γ) (g : Γ[i]? = some (.mu p (ml xs))) (h : ∀ v H1, Lo C X H1 σ Γ → (∀ d u, Rep C.K X H d u → Rep C.K X H1 d u) → Rep C.K X H1 (enc xs) v → Q v H1) : rListX C.K [.ref p] H Q := by
  obtain ⟨vs, hs, q⟩ := L.mrep g
  exact ⟨p, vs, rfl, .inl (.inl (.inl hs)), x_new L q h⟩
def rCatR : R2 := fun x y H Q => ∃ l b xs zs, x = .ref l ∧ y = .ref b ∧ Rd H l (.lst xs) ∧ Rd H b (.lst zs) ∧ xs.length + zs.length ≤ sizeLine ∧ ∀ p, H p = none → Q (.ref p) (upd H p (.lst (xs ++ zs)))
theorem op_catR {Xc : Cx} : OpR Xc (binaryOp .Add) rCatR := by
  intro pins s σ H x y v u Q I rx ry h
  obtain ⟨l, b, xs, zs, rfl, rfl, hH, hB, hz, q⟩ := h
  cases rx
  cases ry
  obtain ⟨z, its, n, r, e⟩ := hH.ok I.hok
  obtain ⟨z2, its2, n2, r2, e2⟩ := hB.ok I.hok
  have hl := r.length
  have hl2 := r2.length
  refine PySem.P.add_list e e2 ?_ (by rw [List.size_toArray, List.size_toArray]; omega)
  have ea : its.toArray ++ its2.toArray = (its ++ its2).toArray := by simp
  rw [ea]
  exact ⟨.ref _, _, I.lnew (t' := s.toks) (r.append r2) (by rw [List.length_append]; omega), rfl, q _ I.fresh⟩
theorem len_ok {n : Nat} {k : Unit → Option ρ} {r : ρ} (hm : (lenOk n).bind k = some r) : n ≤ 16777216 ∧ k () = some r := by
  obtain ⟨_, e, hk⟩ := ob hm
  unfold lenOk at e
  split at e
  · exact ⟨by assumption, hk⟩
  · cases e
theorem lenOk_le {n : Nat} {u : Unit} (h : lenOk n = some u) : n ≤ 16777216 := by
  unfold lenOk at h
  split at h
  · assumption
  · cases h
theorem x_cat [Py α] {xs ys : List α} {u v : V} {k : Unit → Option ρ} {r : ρ} (L : Lo C X H σ Γ) (hm : (lenOk (xs.length + ys.length)).bind k = some r) (p : Rep C.K X H (enc xs) u) (q : Rep C.K X H (enc ys) v)
    (h : ∀ v H1, k () = some r → Lo C X H1 σ Γ → (∀ d u, Rep C.K X H d u → Rep C.K X H1 d u) → Rep C.K X H1 (enc (xs ++ ys)) v → Q v H1) : rCatR u v H Q := by
  obtain ⟨hl, hk⟩ := len_ok hm
  obtain ⟨a, vs, rfl, _, hs, q1⟩ := rep_lst (ds := xs.map enc) p
  obtain ⟨b, ws, rfl, _, ht, q2⟩ := rep_lst (ds := ys.map enc) q
  have q3 : Reps C.K X H ((xs ++ ys).map enc) (vs ++ ws) := by rw [List.map_append]; exact q1.append q2
  exact ⟨a, b, vs, ws, rfl, rfl, hs, ht, by rw [line_eq, q1.length, q2.length, List.length_map, List.length_map]; exact hl, x_new L q3 fun v H1 => h v H1 hk⟩
theorem x_catN [Py α] {xs ys : List α} {u v : V} {k : Unit → Option ρ} {r : ρ} (L : Lo C X H σ Γ) (hm : (lenOk (xs.length + ys.length)).bind k = some r) (p : Rep C.K X H (enc xs) u) (q : Rep C.K X H (enc ys) v)
    (h : ∀ p X' H1, k () = some r → C.H0 p = none → ¬ C.X0 p → Lo C X' H1 σ (Γ ++ [.tmp p (ml (xs ++ ys))]) → (∀ d u, Rep C.K X H d u → Rep C.K X' H1 d u) → Q (.ref p) H1) : rCatR u v H Q := by
  obtain ⟨hl, hk⟩ := len_ok hm
  obtain ⟨a, vs, rfl, _, hs, q1⟩ := rep_lst (ds := xs.map enc) p
  obtain ⟨b, ws, rfl, _, ht, q2⟩ := rep_lst (ds := ys.map enc) q
  have q3 : Reps C.K X H ((xs ++ ys).map enc) (vs ++ ws) := by rw [List.map_append]; exact q1.append q2
  exact ⟨a, b, vs, ws, rfl, rfl, hs, ht, by rw [line_eq, q1.length, q2.length, List.length_map, List.length_map]; exact hl, x_newN L q3 fun p X' H1 => h p X' H1 hk⟩
/-! ### methods of lists -/
theorem x_bm {T : String} {r : V → List V → Hp → VK → Prop} {to : TE} {t : TA} (h : to σ H fun x H1 => tyV C.K T x H1 ∧ t σ H1 fun xs H2 => r x xs H2 Q) : tBM C.K T r to t σ H Q := h
theorem x_bm0 {T : String} {r : V → List V → Hp → VK → Prop} {to : TE} (h : to σ H fun x H1 => tyV C.K T x H1 ∧ r x [] H1 Q) : tBM0 C.K T r to σ H Q := h
theorem x_tyM {i : Nat} {p : Addr} {ds : List PyData} {P : Prop} (L : Lo C X H σ Γ) (g : Γ[i]? = some (.mu p (.lst ds))) (h : P) : tyV C.K "list" (.ref p) H ∧ P := by
  obtain ⟨vs, hs, _⟩ := L.mrep g
  exact ⟨.inl ⟨rfl, vs, .inl (.inl hs)⟩, h⟩
/-- the list in a slot is written -/
theorem Lo.write (L : Lo C X H σ Γ) {i : Nat} {p : Addr} {ds es : List PyData} {vs ws : List V} (g : Γ[i]? = some (.mu p (.lst ds))) (hs : H p = some (.lst vs)) (q : Reps C.K X H es ws) :
    Lo C X (upd H p (.lst ws)) σ (Γ.set i (.mu p (.lst es))) ∧ (∀ d u, Rep C.K X H d u → Rep C.K X (upd H p (.lst ws)) d u) := by
  have hX : X p := L.mx p (mem_muts.mpr ⟨i, _, g, rfl⟩)
  have kp : Keep X H (upd H p (.lst ws)) := ⟨fun a u h n => by rw [upd_ne (fun z => n (by rw [z]; exact hX))]; exact h, fun a us h => by rw [upd_ne (fun z => by rw [z, hs] at h; cases h)]; exact h, fun a u w h => by rw [upd_ne (fun z => by rw [z, hs] at h; cases h)]; exact h⟩
  exact L.wrote (H' := upd H p (.lst ws)) (o := .lst es) g rfl (fun a u h n => by rw [upd_ne n]; exact h) (fun a h => by
      by_cases z : a = p
      · rw [z, upd_same]; exact fun y => nomatch y
      · rw [upd_ne z]; exact h) ⟨ws, upd_same, q.keep kp⟩
theorem x_append [Py α] {xs : List α} {x : α} {v : V} {i : Nat} {p : Addr} {k : Unit → Option ρ} {r : ρ} (L : Lo C X H σ Γ) (g : Γ[i]? = some (.mu p (ml xs))) (hm : (lenOk (xs.length + 1)).bind k = some r) (q : Rep C.K X H (enc x) v) (e : Γ.set i (.mu p (ml (xs ++ [x]))) = Γ')
    (h : ∀ H1, k () = some r → Lo C X H1 σ Γ' → (∀ d u, Rep C.K X H d u → Rep C.K X H1 d u) → Q .non H1) : rAppend (.ref p) [v] H Q := by
  subst e
  obtain ⟨hl, hk⟩ := len_ok hm
  obtain ⟨vs, hs, rs⟩ := L.mrep g
  have hlen : vs.length = xs.length := by rw [rs.length, List.length_map]
  obtain ⟨L1, le⟩ := L.write (es := (xs ++ [x]).map enc) (ws := vs ++ [v]) g hs (by rw [List.map_append]; exact rs.append (.cons q .nil))
  exact ⟨p, vs, v, rfl, rfl, hs, by rw [line_eq]; omega, h _ hk L1 le⟩
def rExtendR : V → List V → Hp → VK → Prop := fun x vs H Q => ∃ l b xs zs, x = .ref l ∧ vs = [.ref b] ∧ H l = some (.lst xs) ∧ Rd H b (.lst zs) ∧ xs.length + zs.length ≤ sizeLine ∧ Q .non (upd H l (.lst (xs ++ zs)))
theorem mt_extendR {Xc : Cx} : MtM Xc "list.extend" rExtendR := by
  intro pins s σ H x vs v us Q I rx rv h
  obtain ⟨l, b, xs, zs, rfl, rfl, hH, hB, hz, q⟩ := h
  cases rx
  obtain ⟨u, rfl, ru⟩ := rv.one
  cases ru
  obtain ⟨z, its, n, r, hl, e⟩ := I.lstM hH
  obtain ⟨z2, its2, n2, r2, e2⟩ := hB.ok I.hok
  have hl2 := r2.length
  have hsz : its.toArray.size + its2.toArray.size ≤ sizeLine := by rw [List.size_toArray, List.size_toArray]; omega
  have hlong : ¬ (!its.toArray.isEmpty && Builtin.List.listTooLong (its.toArray.size + its2.toArray.size)) = true := by
    rw [notLongL hsz, Bool.and_false]
    exact Bool.false_ne_true
  refine call_meets F.slot_list_extend ⟨_, e, rfl⟩ F.entry_list_extend (F.args_list_extend_2 _ _)
    (AutoSeq1.list_extend_list_list_0 l its.toArray n b its2.toArray n2 hlong (by rw [List.size_toArray]; omega) (by omega)) ⟨e, e2, ?_⟩
  refine ⟨.non, _, I.lset (its' := its ++ its2) hH e (by simp) (r.append r2) ?_, rfl, q⟩
  rw [List.length_append]
  omega
theorem x_extend [Py α] {xs ys : List α} {v : V} {i : Nat} {p : Addr} {k : Unit → Option ρ} {r : ρ} (L : Lo C X H σ Γ) (g : Γ[i]? = some (.mu p (ml xs))) (hm : (lenOk (xs.length + ys.length)).bind k = some r) (q : Rep C.K X H (enc ys) v) (e : Γ.set i (.mu p (ml (xs ++ ys))) = Γ')
    (h : ∀ H1, k () = some r → Lo C X H1 σ Γ' → (∀ d u, Rep C.K X H d u → Rep C.K X H1 d u) → Q .non H1) : rExtendR (.ref p) [v] H Q := by
  subst e
  obtain ⟨hl, hk⟩ := len_ok hm
  obtain ⟨vs, hs, rs⟩ := L.mrep g
  obtain ⟨b, ws, rfl, _, ht, q2⟩ := rep_lst (ds := ys.map enc) q
  obtain ⟨L1, le⟩ := L.write (es := (xs ++ ys).map enc) (ws := vs ++ ws) g hs (by rw [List.map_append]; exact rs.append q2)
  exact ⟨p, b, vs, ws, rfl, rfl, hs, ht, by rw [line_eq, rs.length, q2.length, List.length_map, List.length_map]; exact hl, h _ hk L1 le⟩
/-! ### what a call asks, and what stands behind it -/
theorem nd0 {Γa : List Sl} (e : muts Γa = []) : (muts Γa).Nodup := by rw [e]; exact List.nodup_nil
theorem nd1 {Γa : List Sl} {p : Addr} (e : muts Γa = [p]) : (muts Γa).Nodup := by rw [e]; simp
theorem Lo.cond0 (L : Lo C X H σ Γ) {Γa : List Sl} {vs : List V} (as : As C.K X H Γa vs) (e : muts Γa = []) : Cond C.K X H Γa vs := L.cond as (nd0 e) (by rw [e]; intro _ h; cases h)
theorem Lo.cond1 (L : Lo C X H σ Γ) {Γa : List Sl} {vs : List V} {i : Nat} {s : Sl} {p : Addr} (as : As C.K X H Γa vs) (e : muts Γa = [p]) (g : Γ[i]? = some s) (es : s.ad = some p) : Cond C.K X H Γa vs := L.cond as (nd1 e) (by
  rw [e]; intro q h
  rw [List.mem_singleton] at h
  subst h
  exact mem_muts.mpr ⟨i, s, g, es⟩)
theorem hp0 {K : PySem.W.Frag} : ∀ q ∈ ([] : List (Addr × MO)), MRep K X H q.1 q.2 := fun _ h => nomatch h
theorem hp1 {K : PySem.W.Frag} {p : Addr} {o : MO} (h : MRep K X H p o) : ∀ q ∈ [(p, o)], MRep K X H q.1 q.2 := fun q hq => by
  rw [List.mem_singleton] at hq
  subst hq
  exact h
theorem Lo.tmp (L : Lo C X H σ Γ) {i : Nat} {p : Addr} {o : MO} (e : Γ[i]? = some (.tmp p o)) : MRep C.K X H p o := L.at_ i _ e
/-- behind a call -/
theorem k0 {v : V} {H' : Hp} {rs : Rs} {ps : List (Addr × MO)} {G : Prop} (L : Lo C X H σ Γ) (F : Fin C.K X H [] ps rs v H') (h : Lo C X H' σ Γ → (∀ d u, Rep C.K X H d u → Rep C.K X H' d u) → G) : G := h (L.after0 F).1 (L.after0 F).2
theorem k0d {v : V} {H' : Hp} {d : PyData} {ps : List (Addr × MO)} {G : Prop} (L : Lo C X H σ Γ) (F : Fin C.K X H [] ps (.imm d) v H') (h : Lo C X H' σ Γ → (∀ d u, Rep C.K X H d u → Rep C.K X H' d u) → Rep C.K X H' d v → G) : G := h (L.after0 F).1 (L.after0 F).2 F.res
/-- .. that tells a new list, as data -/
theorem k0i {v : V} {H' : Hp} {ds : List PyData} {ps : List (Addr × MO)} {G : Prop} (L : Lo C X H σ Γ) (F : Fin C.K X H [] ps (.new (.lst ds)) v H') (h : Lo C X H' σ Γ → (∀ d u, Rep C.K X H d u → Rep C.K X H' d u) → Rep C.K X H' (.list ds) v → G) : G := h (L.after0 F).1 (L.after0 F).2 (RRep.imm F.res L.xd)
/-- .. as the body's own -/
theorem k0N {p : Addr} {H' : Hp} {o : MO} {ps : List (Addr × MO)} {P : Prop} (L : Lo C X H σ Γ) (F : Fin C.K X H [] ps (.new o) (.ref p) H') (h : ∀ X', C.H0 p = none → ¬ C.X0 p → Lo C X' H' σ (Γ ++ [.tmp p o]) → (∀ d u, Rep C.K X H d u → Rep C.K X' H' d u) → P) : P := by
  obtain ⟨p', e, a, b, X', c, d⟩ := L.after0N F
  cases e
  exact h X' a b c d
/-- .. that wrote the object of one slot -/
theorem k1 {v : V} {H' : Hp} {rs : Rs} {p : Addr} {o : MO} {s : Sl} {G : Prop} (L : Lo C X H σ Γ) (F : Fin C.K X H [p] [(p, o)] rs v H') {i : Nat} (e : Γ[i]? = some s) (es : s.ad = some p) (eΓ : Γ.set i (s.to o) = Γ') (h : Lo C X H' σ Γ' → (∀ d u, Rep C.K X H d u → Rep C.K X H' d u) → G) : G := by
  subst eΓ
  exact h (L.after1 F e es).1 (L.after1 F e es).2
theorem k1d {v : V} {H' : Hp} {d : PyData} {p : Addr} {o : MO} {s : Sl} {G : Prop} (L : Lo C X H σ Γ) (F : Fin C.K X H [p] [(p, o)] (.imm d) v H') {i : Nat} (e : Γ[i]? = some s) (es : s.ad = some p) (eΓ : Γ.set i (s.to o) = Γ') (h : Lo C X H' σ Γ' → (∀ d u, Rep C.K X H d u → Rep C.K X H' d u) → Rep C.K X H' d v → G) : G := by
  subst eΓ
  exact h (L.after1 F e es).1 (L.after1 F e es).2 F.res
theorem k1i {v : V} {H' : Hp} {ds : List PyData} {p : Addr} {o : MO} {s : Sl} {G : Prop} (L : Lo C X H σ Γ) (F : Fin C.K X H [p] [(p, o)] (.new (.lst ds)) v H') {i : Nat} (e : Γ[i]? = some s) (es : s.ad = some p) (eΓ : Γ.set i (s.to o) = Γ') (h : Lo C X H' σ Γ' → (∀ d u, Rep C.K X H d u → Rep C.K X H' d u) → Rep C.K X H' (.list ds) v → G) : G := by
  subst eΓ
  exact h (L.after1 F e es).1 (L.after1 F e es).2 (RRep.imm F.res L.xd)
/-- .. and tells a new one, the body's own -/
theorem ints_any {K : PySem.W.Frag} {X Y : Addr → Prop} : ∀ {xs : List Int} {vs : List V}, Reps K X H (xs.map enc) vs → Reps K Y H (xs.map enc) vs
  | [], _, .nil => .nil
  | _ :: _, _, .cons (.int i) t => .cons (.int i) (ints_any t)
theorem k1N {q : Addr} {H' : Hp} {o' : MO} {p : Addr} {xs : List Int} {s : Sl} {P : Prop} (L : Lo C X H σ Γ) (F : Fin C.K X H [p] [(p, ml xs)] (.new o') (.ref q) H') {i : Nat} (e : Γ[i]? = some s) (es : s.ad = some p) (eΓ : Γ.set i (s.to (ml xs)) = Γ') (h : ∀ X', C.H0 q = none → ¬ C.X0 q → Lo C X' H' σ (Γ' ++ [.tmp q o']) → (∀ d u, Rep C.K X H d u → Rep C.K X' H' d u) → P) : P := by
  subst eΓ
  have hpm : p ∈ muts Γ := mem_muts.mpr ⟨i, s, e, es⟩
  have hpx : X p := L.mx p hpm
  obtain ⟨o0, r0⟩ := L.mem hpm
  have kp : Keep X H H' := ⟨fun a u h n => F.base a u h fun z => n (by rw [List.mem_singleton] at z; exact z ▸ hpx), fun a vs h => F.base a _ h fun z => by rw [List.mem_singleton] at z; exact r0.ntup.1 _ (z ▸ h), fun a u w h => F.base a _ h fun z => by rw [List.mem_singleton] at z; exact r0.ntup.2 _ _ (z ▸ h)⟩
  have L' := (L.after1 F e es).1
  have hil : i < Γ.length := (List.getElem?_eq_some_iff.mp e).1
  obtain ⟨q', e', a, b, c, d⟩ := L.afterN F L' kp (by intro q hq; rw [List.mem_singleton] at hq; exact hq ▸ hpm) (muts_to e) fun j t hj => by
    have hs := L'.at_ j t hj
    by_cases z : j = i
    · subst z
      rw [List.getElem?_set_self hil] at hj
      cases hj
      have hp' : (s.to (ml xs)).ad = some p := by
        cases s with
        | unk => cases es
        | scr ns => cases es
        | ref a => cases es
        | imm d => cases es
        | fix _ _ => cases es
        | fixN _ _ => cases es
        | lax _ _ => cases es
        | mu p' o1 => exact es
        | tmp p' o1 => exact es
      refine .inr ⟨p, hp', fun q hq => ?_⟩
      obtain ⟨vs, h1, h2⟩ := F.mu (p, ml xs) (by simp)
      have this : MRep C.K (fun a => X a ∨ a = q) H' p (ml xs) := ⟨vs, h1, ints_any h2⟩
      cases s with
      | unk => cases es
      | scr ns => cases es
      | ref a => cases es
      | imm d => cases es
      | fix _ _ => cases es
      | fixN _ _ => cases es
      | lax _ _ => cases es
      | mu p' o1 => cases es; exact ⟨hs.1, this⟩
      | tmp p' o1 => cases es; exact this
    · rw [List.getElem?_set_ne (Ne.symm z)] at hj
      cases ea : t.ad with
      | none => exact .inl ⟨rfl, hj⟩
      | some p' =>
        refine .inr ⟨p', rfl, fun q hq => ((L.at_ j t hj).more hq).keep (kp.mono fun a h => .inl h) fun p'' e'' => ?_⟩
        rw [ea] at e''; cases e''
        obtain ⟨o', r'⟩ := (L.at_ j t hj).mrep ea
        have ne : p' ≠ p := fun y => z (ad_unique L.nd hj e (by rw [ea, y]) es)
        cases h : H p' with
        | none => exact (r'.nn h).elim
        | some u => exact F.base p' u h (by simpa using ne)
  cases e'
  exact h _ a b c d
/-- an object of the body's own is told -/
theorem Lo.finM {ps : List (Addr × MO)} {o : MO} {p : Addr} {i : Nat} (L : Lo C X H σ Γ) (hp : ∀ q ∈ ps, MRep C.K X H q.1 q.2) (e : Γ[i]? = some (.mu p o)) (hn : C.H0 p = none) : Fin C.K C.X0 C.H0 C.P0 ps (.new o) (.ref p) H :=
  L.finN hp hn (L.mx p (mem_muts.mpr ⟨i, _, e, rfl⟩)) (L.mrep e)
theorem Lo.finT {ps : List (Addr × MO)} {o : MO} {p : Addr} {i : Nat} (L : Lo C X H σ Γ) (hp : ∀ q ∈ ps, MRep C.K X H q.1 q.2) (e : Γ[i]? = some (.tmp p o)) (hn : C.H0 p = none) : Fin C.K C.X0 C.H0 C.P0 ps (.new o) (.ref p) H :=
  L.finN hp hn (L.mx p (mem_muts.mpr ⟨i, _, e, rfl⟩)) (L.tmp e)
/-! ### the ends of bodies, turns, branches -/
theorem x_fin {K : PySem.W.Frag} {H0 : Hp} {P0 : List Addr} {ps : ρ → List (Addr × MO)} {rs : ρ → Rs} {e r : ρ} {v : V} (hm : some e = some r) (kont : ∀ v H', Fin K X H0 P0 (ps r) (rs r) v H' → Q v H') (F : Fin K X H0 P0 (ps e) (rs e) v H) : Q v H := by
  cases hm; exact kont v H F
theorem x_finP {K : PySem.W.Frag} {H0 : Hp} {P0 : List Addr} {ps : ρ → List (Addr × MO)} {o : ρ → MO} {e r : ρ} {p : Addr} (hm : some e = some r) (kont : ∀ p H', Fin K X H0 P0 (ps r) (.new (o r)) (.ref p) H' → Q (.ref p) H') (F : Fin K X H0 P0 (ps e) (.new (o e)) (.ref p) H) : Q (.ref p) H := by
  cases hm; exact kont p H F
theorem x_finRP {K : PySem.W.Frag} {H0 : Hp} {P0 : List Addr} {ps : ρ → List (Addr × MO)} {o : ρ → MO} {e r : ρ} {v : V} (hm : some e = some r) (kont : ∀ p H', Fin K X H0 P0 (ps r) (.new (o r)) (.ref p) H' → Q (.ref p) H') (F : Fin K X H0 P0 (ps e) (.new (o e)) v H) : Q v H := by
  cases hm
  obtain ⟨p, rfl, _⟩ := F.res
  exact kont p H F
theorem x_finI {K : PySem.W.Frag} {H0 : Hp} {P0 : List Addr} {ps : ρ → List (Addr × MO)} {sc : ρ → Int} {r : ρ} (e : ρ) (hm : some e = some r) (kont : ∀ H', (fun x => Fin K X H0 P0 (ps r) (.imm (PyData.int x)) (V.int x) H') (sc r) → (fun x => Q (V.int x) H') (sc r)) (F : (fun x => Fin K X H0 P0 (ps e) (.imm (PyData.int x)) (V.int x) H) (sc e)) : (fun x => Q (V.int x) H) (sc e) := by
  cases hm; exact kont H F
theorem x_finRI {K : PySem.W.Frag} {H0 : Hp} {P0 : List Addr} {ps : ρ → List (Addr × MO)} {sc : ρ → Int} {e r : ρ} {v : V} (hm : some e = some r) (kont : ∀ H', (fun x => Fin K X H0 P0 (ps r) (.imm (PyData.int x)) (V.int x) H') (sc r) → (fun x => Q (V.int x) H') (sc r)) (F : Fin K X H0 P0 (ps e) (.imm ((fun x => (PyData.int x)) (sc e))) v H) : Q v H := by
  cases hm
  have q := repI (x := sc e) F.res
  subst q
  exact kont H F
theorem x_finB {K : PySem.W.Frag} {H0 : Hp} {P0 : List Addr} {ps : ρ → List (Addr × MO)} {sc : ρ → Bool} {r : ρ} (e : ρ) (hm : some e = some r) (kont : ∀ H', (fun x => Fin K X H0 P0 (ps r) (.imm (PyData.bool x)) (V.bl x) H') (sc r) → (fun x => Q (V.bl x) H') (sc r)) (F : (fun x => Fin K X H0 P0 (ps e) (.imm (PyData.bool x)) (V.bl x) H) (sc e)) : (fun x => Q (V.bl x) H) (sc e) := by
  cases hm; exact kont H F
theorem x_finRB {K : PySem.W.Frag} {H0 : Hp} {P0 : List Addr} {ps : ρ → List (Addr × MO)} {sc : ρ → Bool} {e r : ρ} {v : V} (hm : some e = some r) (kont : ∀ H', (fun x => Fin K X H0 P0 (ps r) (.imm (PyData.bool x)) (V.bl x) H') (sc r) → (fun x => Q (V.bl x) H') (sc r)) (F : Fin K X H0 P0 (ps e) (.imm ((fun x => (PyData.bool x)) (sc e))) v H) : Q v H := by
  cases hm
  have q := repB (x := sc e) F.res
  subst q
  exact kont H F
theorem x_finS {K : PySem.W.Frag} {H0 : Hp} {P0 : List Addr} {ps : ρ → List (Addr × MO)} {sc : ρ → Str} {r : ρ} (e : ρ) (hm : some e = some r) (kont : ∀ H', (fun x => Fin K X H0 P0 (ps r) (.imm (PyData.str x)) (V.str x) H') (sc r) → (fun x => Q (V.str x) H') (sc r)) (F : (fun x => Fin K X H0 P0 (ps e) (.imm (PyData.str x)) (V.str x) H) (sc e)) : (fun x => Q (V.str x) H) (sc e) := by
  cases hm; exact kont H F
theorem x_finRS {K : PySem.W.Frag} {H0 : Hp} {P0 : List Addr} {ps : ρ → List (Addr × MO)} {sc : ρ → Str} {e r : ρ} {v : V} (hm : some e = some r) (kont : ∀ H', (fun x => Fin K X H0 P0 (ps r) (.imm (PyData.str x)) (V.str x) H') (sc r) → (fun x => Q (V.str x) H') (sc r)) (F : Fin K X H0 P0 (ps e) (.imm ((fun x => (PyData.str x)) (sc e))) v H) : Q v H := by
  cases hm
  have q := repS (x := sc e) F.res
  subst q
  exact kont H F
theorem x_finN {K : PySem.W.Frag} {H0 : Hp} {P0 : List Addr} {ps : ρ → List (Addr × MO)} {sc : ρ → Unit} {r : ρ} (e : ρ) (hm : some e = some r) (kont : ∀ H', (fun x => Fin K X H0 P0 (ps r) (.imm PyData.none) V.non H') (sc r) → (fun x => Q V.non H') (sc r)) (F : (fun x => Fin K X H0 P0 (ps e) (.imm PyData.none) V.non H) (sc e)) : (fun x => Q V.non H) (sc e) := by
  cases hm; exact kont H F
theorem x_finRN {K : PySem.W.Frag} {H0 : Hp} {P0 : List Addr} {ps : ρ → List (Addr × MO)} {sc : ρ → Unit} {e r : ρ} {v : V} (hm : some e = some r) (kont : ∀ H', (fun x => Fin K X H0 P0 (ps r) (.imm PyData.none) V.non H') (sc r) → (fun x => Q V.non H') (sc r)) (F : Fin K X H0 P0 (ps e) (.imm ((fun x => PyData.none) (sc e))) v H) : Q v H := by
  cases hm
  have q := repN (x := sc e) F.res
  subst q
  exact kont H F
theorem x_leaf {τ : Type} {C' : Cn} {G : τ → List Sl} {e s : τ} {N : L2.St → Hp → Prop} (hm : some e = some s) (hN : ∀ X' σ' H', Lo C' X' H' σ' (G s) → N σ' H') (L : Lo C' X H σ (G e)) : N σ H := by
  cases hm; exact hN _ _ _ L
theorem x_leafN {τ : Type} {C' : Cn} {G : τ → List Sl} {e : τ} {o : Lp τ ρ} {N : L2.St → Hp → Prop} (hm : some (.nxt e) = some o) (hN : ∀ s, o = .nxt s → ∀ X' σ' H', Lo C' X' H' σ' (G s) → N σ' H') (L : Lo C' X H σ (G e)) : N σ H :=
  hN e (Option.some.inj hm).symm _ _ _ L
theorem x_leafB {τ : Type} {C' : Cn} {G : τ → List Sl} {e : τ} {o : Lp τ ρ} {N : L2.St → Hp → Prop} (hm : some (.brk e) = some o) (hN : ∀ s, o = .brk s → ∀ X' σ' H', Lo C' X' H' σ' (G s) → N σ' H') (L : Lo C' X H σ (G e)) : N σ H :=
  hN e (Option.some.inj hm).symm _ _ _ L
theorem x_leafR {τ : Type} {K : PySem.W.Frag} {H0 : Hp} {P0 : List Addr} {ps : ρ → List (Addr × MO)} {rs : ρ → Rs} {e : ρ} {o : Lp τ ρ} {v : V} {N : VK} (hm : some (.ret e) = some o) (hR : ∀ r, o = .ret r → ∀ v H', Fin K X H0 P0 (ps r) (rs r) v H' → N v H') (F : Fin K X H0 P0 (ps e) (rs e) v H) : N v H :=
  hR e (Option.some.inj hm).symm _ _ F
/-- branches that come together again -/
theorem x_join {τ : Type} {c : Bool} {mA mB : Option τ} {k : τ → Option ρ} {r : ρ} {G : τ → List Sl} {t u : TS} {nx bk ct : L2.St → Hp → Prop} {rt : VK} (L : Lo C X H σ Γ) (hm : (if c = true then mA else mB).bind k = some r)
    (hA : ∀ b, mA = some b → ∀ N : L2.St → Hp → Prop, (∀ X' σ' H', Lo C X' H' σ' (G b) → N σ' H') → t ⟨N, rt, bk, ct⟩ σ H)
    (hB : ∀ b, mB = some b → ∀ N : L2.St → Hp → Prop, (∀ X' σ' H', Lo C X' H' σ' (G b) → N σ' H') → u ⟨N, rt, bk, ct⟩ σ H)
    (h : ∀ b X' σ' H', k b = some r → Lo C X' H' σ' (G b) → nx σ' H') : KIf t u ⟨nx, rt, bk, ct⟩ σ c H := by
  cases c with
  | true =>
    obtain ⟨b, e, hk⟩ := ob hm
    exact hA b e nx fun X' σ' H' L => h b X' σ' H' hk L
  | false =>
    obtain ⟨b, e, hk⟩ := ob hm
    exact hB b e nx fun X' σ' H' L => h b X' σ' H' hk L
/-- a value is given a name of its own -/
theorem x_bset {d : α → PyData} {x0 : α} {i : Nat} {v : V} {k : α → Option ρ} {r : ρ} {N : L2.St → Hp → Prop} {Γf : α → List Sl} (hm : (some x0).bind k = some r) (L : Lo C X H σ Γ) (q : Rep C.K X H (d x0) v) (hi : i < C.n) (e : ∀ x, Γ.set i (.imm (d x)) = Γf x) (h : ∀ x σ', k x = some r → Lo C X H σ' (Γf x) → N σ' H) : gName i v σ H N :=
  h x0 _ hm (by rw [← e]; exact L.set q hi)
end
open Py (enc)
/-! ### defs that raise -/
theorem fn_or {P : Program} {w : World} {K : PySem.W.Frag} {mg : Str → Option Value} {base : Heap} {k : Nat} {f : Addr} {fd : FuncData} {ps : List Str} {sp1 sp2 : Sp} (F1 : FnOk P w K mg base (L2.CX P w) k f fd ps sp1) (F2 : FnOk P w K mg base CX0 k f fd ps sp2) :
    FnOk P w K mg base (L2.CX P w) k f fd ps (fun vs H Q E => sp1 vs H Q E ∨ sp2 vs H Q E) := by
  refine ⟨fun vs H Q E h => h.elim (F1.len vs H Q E) (F2.len vs H Q E), fun A outer s H args us vs Q E hr he hb hv hs => ?_⟩
  rcases hs with h | h
  · exact F1.run A outer s H args us vs Q E hr he hb hv h
  · refine codeAny_mono (F2.run A outer s H args us vs Q E hr he hb hv h) fun r s' q => ?_
    cases r with
    | ok r => cases r <;> first | exact q | exact (show False from q).elim
    | error e => exact (show False from q).elim
theorem Lo.same0 {C : Cn} {X : Addr → Prop} {H : Hp} {σ : L2.St} {Γ : List Sl} (L : Lo C X H σ Γ) (e : C.P0 = []) : Same C.H0 H := fun a o h => L.base a o h (by rw [e]; exact fun z => nomatch z)
section
variable {C : Cn} {X : Addr → Prop} {H : Hp} {σ : L2.St} {Γ Γ' : List Sl} {Q : VK} {α β ρ : Type}
theorem x_callS {sp : Sp} {E : L2.St → XK} {t : TA} (h : t σ H fun vs H1 => sp vs H1 Q (E σ)) : tCallS sp E t σ H Q := h
theorem x_either {S1 S2 : Prop} {A B : Option ρ} {m : Option Unit} {r : ρ} (hm : (if m.isSome = true then A else B) = some r) (h1 : m = some () → A = some r → S1) (h2 : B = some r → S2) : S1 ∨ S2 := by
  cases m with
  | some u => exact .inl (h1 rfl hm)
  | none => exact .inr (h2 hm)
theorem x_catch {K : PySem.W.Frag} {c : Value} {D : Addr} {i : Nat} {ts : Addr → Value → Option Addr → TS} {Wout : WX} {nx bk ct : L2.St → Hp → Prop} {rt : VK} (he : PySem.W.exmOne K (.ref D) c = some true)
    (h : ∀ a, H a = none → ts a (.ref D) none ⟨fun σ' H' => nx (σ'.set i none) H', rt, fun σ' H' => bk (σ'.set i none) H', fun σ' H' => ct (σ'.set i none) H'⟩ (σ.set i (some (.ref a))) H) : wAs K c i ts Wout ⟨nx, rt, bk, ct⟩ (.ref D) none σ H :=
  ⟨true, he, fun _ => h, fun z => nomatch z⟩
theorem x_catch0 {K : PySem.W.Frag} {c : Value} {D : Addr} {ts : Addr → Value → Option Addr → TS} {Wout : WX} {Ds : Ends} (he : PySem.W.exmOne K (.ref D) c = some true)
    (h : ∀ a, H a = none → ts a (.ref D) none Ds σ H) : wOnly K c ts Wout Ds (.ref D) none σ H :=
  ⟨true, he, fun _ => h, fun z => nomatch z⟩
theorem x_vr {i : Nat} {a : Addr} (L : Lo C X H σ Γ) (e : Γ[i]? = some (.ref a)) (h : Q (.ref a) H) : tVar i σ H Q := ⟨_, L.at_ i _ e, h⟩
/-- isinstance of the error that is handled -/
def rIsG (K : PySem.W.Frag) (cls : Value) (d : Option Addr) (a : Addr) : List V → Hp → VK → Prop := fun xs H Q => ∃ (D : Addr) (c : V) (cv : Value) (b : Bool), cls = .ref D ∧ d = none ∧ ExcC K D ∧ xs = [.ref a, c] ∧ (∀ u, RelV c u → u = cv) ∧ PySem.W.kitOne K (.ref D) cv = some b ∧ Q (.bl b) H
theorem call_isG {Xc : Cx} {a : Addr} {oe : Obj} {pn : List (Addr × Obj)} {cls : Value} {d : Option Addr} (hz : Zc cls d oe) (hf : ∃ vs, oe.data = .fields vs) : CallR (Xc.suite a ((a, oe) :: pn)) (.builtin "isinstance") (rIsG Xc.K cls d a) := by
  intro pins s σ H xs us Q I r h
  obtain ⟨D, c, cv, b, rfl, rfl, E, rfl, hc, k, q⟩ := h
  exact call_isE E hz hf pins s σ H _ us Q I r ⟨c, cv, b, rfl, hc, k, q⟩
def rIsGT (K : PySem.W.Frag) (cls : Value) (d : Option Addr) (a : Addr) : List V → Hp → VK → Prop := fun xs H Q => ∃ (D tp : Addr) (cs : List V) (ws : List Value) (b : Bool), cls = .ref D ∧ d = none ∧ ExcC K D ∧ xs = [.ref a, .ref tp] ∧ H tp = some (.tup cs) ∧ Paired ClsV cs ws ∧ PySem.W.kitAny K (.ref D) ws = some b ∧ Q (.bl b) H
theorem call_isGT {Xc : Cx} {a : Addr} {oe : Obj} {pn : List (Addr × Obj)} {cls : Value} {d : Option Addr} (hz : Zc cls d oe) (hf : ∃ vs, oe.data = .fields vs) : CallR (Xc.suite a ((a, oe) :: pn)) (.builtin "isinstance") (rIsGT Xc.K cls d a) := by
  intro pins s σ H xs us Q I r h
  obtain ⟨D, tp, cs, ws, b, rfl, rfl, Ex, rfl, hT, k, e, q⟩ := h
  cases r with
  | cons rx rr =>
    cases rr with
    | cons rt rr =>
      cases rr
      cases rx
      rename_i u2
      cases (show u2 = Value.ref tp from rt)
      obtain ⟨hget, _⟩ := I.pin (a, oe) (List.mem_append.mpr (.inl List.mem_cons_self))
      obtain ⟨vs, hv⟩ := hf
      have J : PySem.W.InstAt s.heap a oe D none := by
        obtain ⟨oc, od, oda, osl⟩ := oe
        obtain ⟨h1, h2⟩ := hz
        dsimp only at h1 h2 hv
        subst h1 h2 hv
        exact ⟨hget, rfl, rfl, trivial⟩
      obtain ⟨_, its, rv, o, h1, h2, n, h3⟩ := (show ObjOk _ _ H s.heap tp (.tup cs) from I.hok tp _ hT)
      have e3 := ClsV.all k rv
      subst e3
      obtain ⟨oc, od, dt, sl⟩ := o
      simp only at h2 h3
      subst h2 h3
      exact PySem.W.kia_tup (PySem.W.handS_kitx_exc Ex.hg Ex.hk Ex.hs Ex.hd Ex.ha Ex.hn Ex.ht Ex.hm) I.kIn J h1 e (fun z => nomatch z) fun tk => ⟨.bl b, H, I.kept (t' := tk) fun _ _ z => z, rfl, q⟩
theorem x_isG {K : PySem.W.Frag} {D a C2 : Addr} {b : Bool} (E : ExcC K D) (k : PySem.W.kitOne K (.ref D) (.ref C2) = some b) (h : Q (.bl b) H) : rIsG K (.ref D) none a [.ref a, .ref C2] H Q :=
  ⟨D, _, _, b, rfl, rfl, E, rfl, fun _ r => r, k, h⟩
theorem x_isGB {K : PySem.W.Frag} {D a : Addr} {T : String} {b : Bool} (E : ExcC K D) (k : PySem.W.kitOne K (.ref D) (.type T) = some b) (h : Q (.bl b) H) : rIsG K (.ref D) none a [.ref a, .ty T] H Q :=
  ⟨D, _, _, b, rfl, rfl, E, rfl, fun _ r => r, k, h⟩
theorem x_isGT {K : PySem.W.Frag} {D a tp : Addr} {cs : List V} {ws : List Value} {b : Bool} (E : ExcC K D) (hT : H tp = some (.tup cs)) (p : Paired ClsV cs ws) (k : PySem.W.kitAny K (.ref D) ws = some b) (h : Q (.bl b) H) : rIsGT K (.ref D) none a [.ref a, .ref tp] H Q :=
  ⟨D, tp, cs, ws, b, rfl, rfl, E, rfl, hT, p, k, h⟩
theorem kit_self {K : PySem.W.Frag} {D : Addr} : PySem.W.kitOne K (.ref D) (.ref D) = some true := by
  unfold PySem.W.kitOne
  rw [if_pos (beq_iff_eq.mpr rfl)]
theorem kit_ref {K : PySem.W.Frag} {D E : Addr} {b : Bool} (hne : (Value.ref D == Value.ref E) = false) (hd : PySem.W.hasDictIn K E = true) (ht : PySem.W.typeIn K (.ref E) = some (.type "type")) (hs : PySem.W.subIn K (.ref D) (.ref E) = some b) : PySem.W.kitOne K (.ref D) (.ref E) = some b := by
  obtain ⟨cd, hc, _⟩ := PySem.W.any_some hd
  have e2 : ((PySem.W.clsIn K E).isSome && PySem.W.typeIn K (.ref E) == some (.type "type")) = true := by rw [hc, ht] <;> rfl
  unfold PySem.W.kitOne
  rw [if_neg (by rw [hne]; exact Bool.false_ne_true)]
  show (if ((PySem.W.clsIn K E).isSome && PySem.W.typeIn K (.ref E) == some (.type "type")) = true then PySem.W.subIn K (.ref D) (.ref E) else none) = some b
  rw [if_pos e2]; exact hs
theorem kit_typ {K : PySem.W.Frag} {D : Addr} {T : String} {b : Bool} (hk : PySem.W.kitMeta T = true) (hs : PySem.W.subIn K (.ref D) (.type T) = some b) : PySem.W.kitOne K (.ref D) (.type T) = some b := by
  unfold PySem.W.kitOne
  rw [if_neg (by intro z; cases (beq_iff_eq.mp z))]
  show (if PySem.W.kitMeta T = true then PySem.W.subIn K (.ref D) (.type T) else none) = some b
  rw [if_pos hk]; exact hs
/-- a tuple of classes -/
theorem x_mkC {vs : List V} (L : Lo C X H σ Γ) (hl : vs.length ≤ 16777216) (h : ∀ p H1, Lo C X H1 σ Γ → H1 p = some (.tup vs) → Q (.ref p) H1) : KTup Q vs H := by
  refine ⟨by rw [line_eq]; exact hl, fun p hp => ?_⟩
  exact h p _ (L.same (same_upd hp)) upd_same
end
open Py (enc)
/-! ### tuples of ints: sets, order -/
class IT (α : Type) [Py α] where
  nums : α → List Int
  enc_eq : ∀ x, enc x = .tuple ((nums x).map .int)
  inj : ∀ x y, nums x = nums y → x = y
instance : IT (T2 Int Int) := ⟨fun x => [x.a, x.b], fun _ => rfl, fun x y h => by cases x; cases y; simp_all⟩
instance : IT (T3 Int Int Int) := ⟨fun x => [x.a, x.b, x.c], fun _ => rfl, fun x y h => by cases x; cases y; simp_all⟩
section
variable {K : PySem.W.Frag} {X : Addr → Prop} {H : Hp} {α : Type}
theorem rep_it [Py α] [IT α] {x : α} {v : V} (r : Rep K X H (enc x) v) : ∃ a, v = .ref a ∧ SqT K H a ((IT.nums x).map V.int) := by
  rw [IT.enc_eq] at r
  obtain ⟨a, vs, rfl, hs, q⟩ := rep_tup r
  rw [Reps.toInts q] at hs
  exact ⟨a, rfl, hs⟩
theorem reps_it [Py α] [IT α] : ∀ {xs : List α} {vs : List V}, Reps K X H (xs.map enc) vs → ∃ ks : List (Addr × List Int), vs = ks.map (fun p => V.ref p.1) ∧ ks.map (·.2) = xs.map IT.nums ∧ ∀ p ∈ ks, SqT K H p.1 (p.2.map V.int)
  | [], _, .nil => ⟨[], rfl, rfl, fun _ h => nomatch h⟩
  | x :: xs, _, .cons r t => by
    obtain ⟨a, rfl, hs⟩ := rep_it r
    obtain ⟨ks, rfl, h2, h3⟩ := reps_it t
    refine ⟨(a, IT.nums x) :: ks, rfl, by rw [List.map_cons, List.map_cons, h2], fun p hp => ?_⟩
    rcases List.mem_cons.mp hp with e | hp
    · subst e; exact hs
    · exact h3 p hp
end
/-- the distinct ones -/
def dset {α : Type} [DecidableEq α] : List α → List α
  | [] => []
  | x :: xs => if x ∈ dset xs then dset xs else x :: dset xs
theorem mem_dset {α : Type} [DecidableEq α] {x : α} : ∀ {xs : List α}, x ∈ dset xs ↔ x ∈ xs
  | [] => Iff.rfl
  | y :: xs => by
    unfold dset
    by_cases h : y ∈ dset xs
    · rw [if_pos h, List.mem_cons, mem_dset]
      exact ⟨.inr, fun z => z.elim (fun e => e ▸ mem_dset.mp h) id⟩
    · rw [if_neg h, List.mem_cons, List.mem_cons, mem_dset]
theorem nodup_dset {α : Type} [DecidableEq α] : ∀ {xs : List α}, (dset xs).Nodup
  | [] => List.nodup_nil
  | y :: xs => by
    unfold dset
    by_cases h : y ∈ dset xs
    · rw [if_pos h]; exact nodup_dset
    · rw [if_neg h]; exact List.nodup_cons.mpr ⟨h, nodup_dset⟩
theorem nodup_le {α : Type} [DecidableEq α] : ∀ {l m : List α}, l.Nodup → (∀ x ∈ l, x ∈ m) → l.length ≤ m.length
  | [], _, _, _ => Nat.zero_le _
  | x :: l, m, h, s => by
    obtain ⟨h1, h2⟩ := List.nodup_cons.mp h
    have hx := s x List.mem_cons_self
    have := nodup_le (l := l) (m := m.erase x) h2 fun y hy => (List.mem_erase_of_ne (fun e => by subst e; exact h1 hy)).mpr (s y (List.mem_cons_of_mem _ hy))
    rw [List.length_erase_of_mem hx] at this
    have hp := List.length_pos_of_mem hx
    rw [List.length_cons]; omega
theorem dset_map {α β : Type} [DecidableEq α] [DecidableEq β] {f : α → β} (hf : ∀ x y, f x = f y → x = y) : ∀ {xs : List α}, (dset (xs.map f)).length = (dset xs).length
  | [] => rfl
  | y :: xs => by
    rw [List.map_cons]
    unfold dset
    have e : f y ∈ dset (xs.map f) ↔ y ∈ dset xs := by
      rw [mem_dset, mem_dset, List.mem_map]
      exact ⟨fun ⟨z, h1, h2⟩ => hf _ _ h2 ▸ h1, fun h => ⟨y, h, rfl⟩⟩
    by_cases h : y ∈ dset xs
    · rw [if_pos h, if_pos (e.mpr h), dset_map hf]
    · rw [if_neg h, if_neg (fun z => h (e.mp z)), List.length_cons, List.length_cons, dset_map hf]
section
variable {X : Cx}
def tLenSetT (K : PySem.W.Frag) (ta : TE) : TE := fun σ H Q => ta σ H fun x H1 => ∃ (l : Addr) (ks : List (Addr × List Int)), x = V.ref l ∧ SqL K H1 l (ks.map fun p => V.ref p.1) ∧ (∀ p ∈ ks, SqT K H1 p.1 (p.2.map V.int)) ∧ ks.length < 64 ∧ Q (.int (dset (ks.map (·.2))).length) H1
theorem pe_lenSetT {a : Expr} {ta : TE} {p p2 q pos : Pos} (hc : X.calm = true) (hu : X.A.units + 64 < cLine) (hg : Gl X "len") (hm : X.mg "len" = none) (hg2 : Gl X "set") (hm2 : X.mg "set" = none) (ha : PE X a ta)
    (na : starEach [a] X.env = (false, eval a X.env) :: starEach [] X.env := by rfl) : PE X (.Call (.Name "len" p) [.Call (.Name "set" p2) [a] [] q] [] pos) (tLenSetT X.K ta) := by
  refine ⟨fun pins s σ H Q I h => ?_⟩
  refine Call_ (ld_blt I hg hm PySem.boot_len ?_)
  refine PyProof.Rows.callWith_builtin1 (PyProof.Rows.args_cons ?_ rfl) rfl rfl
  refine Call_ (ld_blt I hg2 hm2 PyProof.Rows.boot_set ?_)
  refine PyProof.Rows.callWith_type1 (PyProof.Rows.args_cons (thn (ha.run pins s σ H _ I h) fun v s1 ⟨x, H1, I1, r1, q1⟩ => PyProof.Rows.args_nil ?_) na) na rfl
  obtain ⟨l, ks, rfl, hq, hk, hf, q1⟩ := q1
  cases r1
  obtain ⟨its, rv, pl, hz⟩ := I1.list hq
  refine call_set_tups (P := X.prog) (w := X.w) ks (I1.ok.hd hc) pl.isList (by simpa using refs_of_vals rv) (fun p hp => I1.isT (hk p hp)) hf (by omega) fun h' tk L es ep t R g k => ?_
  refine PyProof.Rows.args_nil ?_
  obtain ⟨o, ho, hex, hd⟩ := R.ob
  have e1 : es.size = L.length := by
    have := congrArg List.length R.rows
    rw [Array.length_toList] at this
    rw [this]
    unfold rowsOf
    first | rw [List.length_map] | simp
  have hn : L.length = (dset (ks.map (·.2))).length := by
    refine Nat.le_antisymm ?_ ?_
    · have := nodup_le (m := dset (ks.map (·.2))) R.nd fun x hx => by
        obtain ⟨p, hp, e⟩ := List.mem_map.mp hx
        subst e
        exact mem_dset.mpr (List.mem_map.mpr ⟨p, List.mem_of_mem_take (g.sub p hp), rfl⟩)
      rwa [List.length_map] at this
    · have := nodup_le (m := L.map (·.2)) (nodup_dset (xs := ks.map (·.2))) fun x hx => by
        obtain ⟨p, hp, e⟩ := List.mem_map.mp (mem_dset.mp hx)
        subst e
        exact g.all p (by rw [List.take_length]; exact hp)
      rwa [List.length_map] at this
  have I2 : Inv X pins σ H1 { s1 with heap := h', toks := tk } := I1.kept fun b o e => k b o e
  have hf := R.few
  refine call_len_set ho hex hd (SetTR.fits (s := { s1 with heap := h', toks := tk }) R) (by rw [e1] <;> omega) ⟨.int (dset (ks.map (·.2))).length, H1, I2.tok _, ⟨_, by rw [e1, hn]⟩, q1⟩
end
def fewOk (n : Nat) : Option Unit := if n < 64 then some () else none
section
variable {C : Cn} {X : Addr → Prop} {H : Hp} {σ : L2.St} {Γ Γ' : List Sl} {Q : VK} {α β ρ : Type}
def KSet (K : PySem.W.Frag) (Q : VK) : VK := fun x H1 => ∃ (l : Addr) (ks : List (Addr × List Int)), x = V.ref l ∧ SqL K H1 l (ks.map fun p => V.ref p.1) ∧ (∀ p ∈ ks, SqT K H1 p.1 (p.2.map V.int)) ∧ ks.length < 64 ∧ Q (.int (dset (ks.map (·.2))).length) H1
theorem x_lenSet {K : PySem.W.Frag} {ta : TE} (h : ta σ H (KSet K Q)) : tLenSetT K ta σ H Q := h
theorem x_kset [Py α] [IT α] [DecidableEq α] {xs : List α} {v : V} {k : Unit → Option ρ} {r : ρ} (hm : (fewOk xs.length).bind k = some r) (q : Rep C.K X H (enc xs) v) (h : k () = some r → Q (.int (dset xs).length) H) : KSet C.K Q v H := by
  obtain ⟨_, e, hk⟩ := ob hm
  have h64 : xs.length < 64 := by
    unfold fewOk at e
    split at e
    · assumption
    · cases e
  obtain ⟨a, vs, rfl, _, hs, q⟩ := rep_lst (ds := xs.map enc) q
  obtain ⟨ks, rfl, h2, h3⟩ := reps_it q
  have hl : ks.length = xs.length := by
    have := congrArg List.length h2
    rwa [List.length_map, List.length_map] at this
  refine ⟨a, ks, rfl, .inl hs, h3, by rw [hl]; exact h64, ?_⟩
  rw [h2, dset_map IT.inj]
  exact h hk
/-! order of pairs -/
def ltP (p q : T2 Int Int) : Bool := decide (p.a < q.a) || (decide (p.a = q.a) && decide (p.b < q.b))
def leP (p q : T2 Int Int) : Bool := decide (p.a < q.a) || (decide (p.a = q.a) && decide (p.b ≤ q.b))
def maxP (p q : T2 Int Int) : T2 Int Int := if ltP p q = true then q else p
def minP (p q : T2 Int Int) : T2 Int Int := if ltP q p = true then q else p
theorem lexAt_le {a b c d : Int} : Ob.lexAt (fun j => decide ([a, b].getD j 0 = [c, d].getD j 0)) (fun j => decide ([a, b].getD j 0 ≤ [c, d].getD j 0)) (decide (([a, b] : List Int).length ≤ ([c, d] : List Int).length)) 0 (min ([a, b] : List Int).length ([c, d] : List Int).length) = leP ⟨a, b⟩ ⟨c, d⟩ := by
  show Ob.lexAt _ _ _ 0 2 = _
  rw [Ob.lexAt_succ, Ob.lexAt_succ, Ob.lexAt_zero]
  unfold leP
  simp only [List.getD_eq_getElem?_getD, List.getElem?_cons_zero, List.getElem?_cons_succ, Option.getD_some, decide_eq_true_eq, List.length_cons, List.length_nil]
  rcases Int.lt_trichotomy a c with z | z | z
  · have z1 : ¬ a = c := by omega
    have z2 : a ≤ c := by omega
    simp [z, z1, z2]
  · subst z
    by_cases y : b = d
    · subst y; simp
    · simp [y]
  · have z1 : ¬ a = c := by omega
    have z2 : ¬ a ≤ c := by omega
    have z3 : ¬ a < c := by omega
    simp [z1, z2, z3]
def rLeP (K : PySem.W.Frag) : R2 := rLeT K
theorem op_leP {Xc : Cx} (hu : Xc.A.units < cLine) : OpR Xc (compareOp .LtE) (rLeP Xc.K) := op_leT hu
theorem x_leP {p q : T2 Int Int} {u v : V} (r : Rep C.K X H (enc p) u) (s : Rep C.K X H (enc q) v) (h : Q (.bl (leP p q)) H) : rLeP C.K u v H Q := by
  obtain ⟨a, rfl, ha⟩ := rep_it r
  obtain ⟨b, rfl, hb⟩ := rep_it s
  refine ⟨a, b, [p.a, p.b], [q.a, q.b], rfl, rfl, ha, hb, ?_⟩
  rw [lexAt_le]
  exact h
end
/-! max, min of two pairs -/
section
variable {prog : Program} {w : World} {A : Around} {E : Value → Shared → Prop} {s : Shared}
open PySem.W in
theorem call_max_twoH {a b : Value} {Q : Value → Shared → Prop} (hh : A.handled = none) (bt : Nat → Nat → Bool)
    (hc : CmpIn prog w A.in1 .Gt s.heap (fun i v => #[a, b][i]? = some v) bt)
    (h : ∀ h' tk, (∀ c o, s.heap.get? c = some o → h'.get? c = some o) → Q (if bt 1 0 = true then b else a) { s with heap := h', toks := tk }) :
    wpAny (model prog w) A (call (.builtin "max") [a, b]) Q E s := by
  have hname : (toString "max" ++ toString ".loop" : String) = "max.loop" := by decide
  refine call_function_tree F.kind_max F.plain_max F.entry_max (F.args_max2 _ _) ?_
  show wpAny _ A.in1 (Builtin.Builtins.bindParams "max" ["key", "default"] 0 ⟨[], []⟩ >>= _) _ _ s
  refine wpAny_bind (wpAny_of_eq (show Builtin.Builtins.bindParams "max" ["key", "default"] 0 ⟨[], []⟩ = pure [none, none] from rfl) ?_)
  show wpAny _ A.in1 (newTuple [a, b] >>= _) _ _ s
  refine wpAny_bind (wpAny_newObj_type ?_)
  have hT : (s.heap.push { cls := .type "tuple", data := .seq #[a, b] }).IsTuple s.heap.objs.size #[a, b] := ⟨_, Heap.get?_push_size _ rfl, rfl, 0, rfl⟩
  refine wpAny_bind (iter_tupleW (s := { s with heap := s.heap.push { cls := .type "tuple", data := .seq #[a, b] } }) (by exact hh) hT fun s₂ e W st hfp hwr hold => ?_)
  refine wpAny_bind (wpAny_newObj_type ?_)
  have hSf : s₂.heap.objs.size ∉ _ := fun hm => Nat.lt_irrefl _ (hfp _ hm)
  rw [hname]
  have k0 : ∀ c o, s.heap.get? c = some o → s₂.heap.get? c = some o := fun c o e => hold c o (Heap.get?_push_of_some _ e)
  refine wpAny_pure ⟨plainId_quiet F.plain_max_loop _, codeAny_max_loop_firstH W s.heap (fun c o e => hwr c o (Heap.get?_push_of_some _ e)) bt hc s₂.heap.objs.size hSf (fresh_in k0) [] (show 0 < 2 by decide) (fun c o e => Heap.get?_push_of_some _ (k0 c o e)) (W.frame _ _ _ _ st (Nat.le_refl _) fun c _ o e => Heap.get?_push_of_some _ e) (Heap.get?_push_size _ rfl) fun v s' hP hm => ?_⟩
  have m := Moved.drop_new (tk := s₂.toks) hm (Nat.le_refl _)
  obtain ⟨h', tk, e', hk'⟩ := moved_old e rfl m
  subst e'
  have hv : v = if bt 1 0 = true then b else a := by
    have hP' : #[a, b][argBest bt 1]? = some v := hP
    have e1 : argBest bt 1 = if bt 1 0 = true then 1 else 0 := rfl
    rw [e1] at hP'
    by_cases z : bt 1 0 = true
    · rw [if_pos z] at hP' ⊢; simpa using hP'.symm
    · rw [if_neg z] at hP' ⊢; simpa using hP'.symm
  rw [hv]
  exact h h' tk fun c o e => hk' c o (Heap.get?_push_of_some _ e)
open PySem.W in
theorem call_min_twoH {a b : Value} {Q : Value → Shared → Prop} (hh : A.handled = none) (bt : Nat → Nat → Bool)
    (hc : CmpIn prog w A.in1 .Lt s.heap (fun i v => #[a, b][i]? = some v) bt)
    (h : ∀ h' tk, (∀ c o, s.heap.get? c = some o → h'.get? c = some o) → Q (if bt 1 0 = true then b else a) { s with heap := h', toks := tk }) :
    wpAny (model prog w) A (call (.builtin "min") [a, b]) Q E s := by
  have hname : (toString "min" ++ toString ".loop" : String) = "min.loop" := by decide
  refine call_function_tree F.kind_min F.plain_min F.entry_min (F.args_min2 _ _) ?_
  show wpAny _ A.in1 (Builtin.Builtins.bindParams "min" ["key", "default"] 0 ⟨[], []⟩ >>= _) _ _ s
  refine wpAny_bind (wpAny_of_eq (show Builtin.Builtins.bindParams "min" ["key", "default"] 0 ⟨[], []⟩ = pure [none, none] from rfl) ?_)
  show wpAny _ A.in1 (newTuple [a, b] >>= _) _ _ s
  refine wpAny_bind (wpAny_newObj_type ?_)
  have hT : (s.heap.push { cls := .type "tuple", data := .seq #[a, b] }).IsTuple s.heap.objs.size #[a, b] := ⟨_, Heap.get?_push_size _ rfl, rfl, 0, rfl⟩
  refine wpAny_bind (iter_tupleW (s := { s with heap := s.heap.push { cls := .type "tuple", data := .seq #[a, b] } }) (by exact hh) hT fun s₂ e W st hfp hwr hold => ?_)
  refine wpAny_bind (wpAny_newObj_type ?_)
  have hSf : s₂.heap.objs.size ∉ _ := fun hm => Nat.lt_irrefl _ (hfp _ hm)
  rw [hname]
  have k0 : ∀ c o, s.heap.get? c = some o → s₂.heap.get? c = some o := fun c o e => hold c o (Heap.get?_push_of_some _ e)
  refine wpAny_pure ⟨plainId_quiet F.plain_min_loop _, codeAny_min_loop_firstH W s.heap (fun c o e => hwr c o (Heap.get?_push_of_some _ e)) bt hc s₂.heap.objs.size hSf (fresh_in k0) [] (show 0 < 2 by decide) (fun c o e => Heap.get?_push_of_some _ (k0 c o e)) (W.frame _ _ _ _ st (Nat.le_refl _) fun c _ o e => Heap.get?_push_of_some _ e) (Heap.get?_push_size _ rfl) fun v s' hP hm => ?_⟩
  have m := Moved.drop_new (tk := s₂.toks) hm (Nat.le_refl _)
  obtain ⟨h', tk, e', hk'⟩ := moved_old e rfl m
  subst e'
  have hv : v = if bt 1 0 = true then b else a := by
    have hP' : #[a, b][argBest bt 1]? = some v := hP
    have e1 : argBest bt 1 = if bt 1 0 = true then 1 else 0 := rfl
    rw [e1] at hP'
    by_cases z : bt 1 0 = true
    · rw [if_pos z] at hP' ⊢; simpa using hP'.symm
    · rw [if_neg z] at hP' ⊢; simpa using hP'.symm
  rw [hv]
  exact h h' tk fun c o e => hk' c o (Heap.get?_push_of_some _ e)
end
theorem lexAt_lt {a b c d : Int} : Ob.lexAt (fun j => decide ([a, b].getD j 0 = [c, d].getD j 0)) (fun j => decide ([a, b].getD j 0 < [c, d].getD j 0)) (decide (2 < 2)) 0 (min 2 2) = ltP ⟨a, b⟩ ⟨c, d⟩ := by
  show Ob.lexAt _ _ _ 0 2 = _
  rw [Ob.lexAt_succ, Ob.lexAt_succ, Ob.lexAt_zero]
  unfold ltP
  simp only [List.getD_eq_getElem?_getD, List.getElem?_cons_zero, List.getElem?_cons_succ, Option.getD_some, decide_eq_true_eq]
  rcases Int.lt_trichotomy a c with z | z | z
  · have z1 : ¬ a = c := by omega
    simp [z, z1]
  · subst z
    by_cases y : b = d
    · subst y; simp
    · simp [y]
  · have z1 : ¬ a = c := by omega
    have z3 : ¬ a < c := by omega
    simp [z1, z3]
theorem lexAt_gt {a b c d : Int} : Ob.lexAt (fun j => decide ([a, b].getD j 0 = [c, d].getD j 0)) (fun j => decide ([c, d].getD j 0 < [a, b].getD j 0)) (decide (2 < 2)) 0 (min 2 2) = ltP ⟨c, d⟩ ⟨a, b⟩ := by
  show Ob.lexAt _ _ _ 0 2 = _
  rw [Ob.lexAt_succ, Ob.lexAt_succ, Ob.lexAt_zero]
  unfold ltP
  simp only [List.getD_eq_getElem?_getD, List.getElem?_cons_zero, List.getElem?_cons_succ, Option.getD_some, decide_eq_true_eq]
  rcases Int.lt_trichotomy c a with z | z | z
  · have z1 : ¬ a = c := by omega
    have z2 : ¬ c = a := by omega
    simp [z, z1]
  · subst z
    by_cases y : b = d
    · subst y; simp
    · have : ¬ d = b := fun e => y e.symm
      simp [y]
  · have z1 : ¬ a = c := by omega
    have z2 : ¬ c = a := by omega
    have z3 : ¬ c < a := by omega
    simp [z1, z2, z3]
section
variable {Xc : Cx}
open PySem.W in
theorem cmp_pair {A : Around} {s : Shared} {l1 l2 : Addr} {i1 i2 : List Value} {p q : T2 Int Int} (hu : A.units < cLine) (h1 : s.heap.IsTuple l1 i1.toArray) (h2 : s.heap.IsTuple l2 i2.toArray) (n1 : IntsAre i1 [p.a, p.b]) (n2 : IntsAre i2 [q.a, q.b]) :
    Ob.RcOp .Lt A s (.ref l1) (.ref l2) (ltP p q) ∧ Ob.RcOp .Gt A s (.ref l1) (.ref l2) (ltP q p) := by
  have at1 : ∀ j (h1 : j < i1.toArray.size), ∃ t, i1.toArray[j] = .int ([p.a, p.b].getD j 0) t := fun j h1 => PyProof.Rows.IntsAre.int_at n1 _ _ (by simp at h1; simp [h1])
  have at2 : ∀ j (h1 : j < i2.toArray.size), ∃ t, i2.toArray[j] = .int ([q.a, q.b].getD j 0) t := fun j h1 => PyProof.Rows.IntsAre.int_at n2 _ _ (by simp at h1; simp [h1])
  have e1 : i1.toArray.size = 2 := by rw [List.size_toArray]; exact n1.length
  have e2 : i2.toArray.size = 2 := by rw [List.size_toArray]; exact n2.length
  have he : ∀ j (h1 : j < i1.toArray.size) (h2 : j < i2.toArray.size), SeqAt.EqAt A.in1 s i1.toArray[j] i2.toArray[j] (decide ([p.a, p.b].getD j 0 = [q.a, q.b].getD j 0)) := fun j h1 h2 => by
    obtain ⟨t, et⟩ := at1 j h1
    obtain ⟨t', et'⟩ := at2 j h2
    rw [et, et']
    have z : ([p.a, p.b].getD j 0 == [q.a, q.b].getD j 0) = decide ([p.a, p.b].getD j 0 = [q.a, q.b].getD j 0) := by
      by_cases y : [p.a, p.b].getD j 0 = [q.a, q.b].getD j 0
      · rw [decide_eq_true y]; exact beq_iff_eq.mpr y
      · rw [decide_eq_false y]; exact beq_eq_false_iff_ne.mpr y
    rw [← z]
    exact SeqAt.EqAt.int_int _ _ _ _
  have R1 := Ob.RcOp.tuples_lt (r := fun j => decide ([p.a, p.b].getD j 0 < [q.a, q.b].getD j 0)) h1 h2 hu he fun j h1 h2 _ => by
    obtain ⟨t, et⟩ := at1 j h1
    obtain ⟨t', et'⟩ := at2 j h2
    rw [et, et']
    exact Ob.RcOp.lt_int _ _ _ _
  have R2 := Ob.RcOp.tuples_gt (r := fun j => decide ([q.a, q.b].getD j 0 < [p.a, p.b].getD j 0)) h1 h2 hu he fun j h1 h2 _ => by
    obtain ⟨t, et⟩ := at1 j h1
    obtain ⟨t', et'⟩ := at2 j h2
    rw [et, et']
    exact Ob.RcOp.gt_int _ _ _ _
  rw [e1, e2] at R1 R2
  rw [lexAt_lt] at R1
  rw [show decide (2 > 2) = decide (2 < 2) from rfl, lexAt_gt] at R2
  exact ⟨R1, R2⟩
def rMaxP (K : PySem.W.Frag) : List V → Hp → VK → Prop := fun xs H Q => ∃ (a b : Addr) (p q : T2 Int Int), xs = [.ref a, .ref b] ∧ SqT K H a [.int p.a, .int p.b] ∧ SqT K H b [.int q.a, .int q.b] ∧ Q (if ltP p q = true then .ref b else .ref a) H
open PySem.W in
theorem call_maxP (hu : Xc.A.units + 64 < cLine) (hc : Xc.calm = true) : CallR Xc (.builtin "max") (rMaxP Xc.K) := by
  intro pins s σ H xs us Q I r h
  obtain ⟨a, b, p, q, rfl, ha, hb, k⟩ := h
  obtain ⟨u, w', rfl, e1, e2⟩ := vals2 r
  cases (show u = Value.ref a from e1)
  cases (show w' = Value.ref b from e2)
  obtain ⟨i1, r1, t1, _⟩ := I.tuple ha
  obtain ⟨i2, r2, t2, _⟩ := I.tuple hb
  have n1 : IntsAre i1 [p.a, p.b] := Vals.ints (ns := [p.a, p.b]) r1
  have n2 : IntsAre i2 [q.a, q.b] := Vals.ints (ns := [q.a, q.b]) r2
  have up : ∀ {s' : Shared} {l : Addr} {its : Array Value}, (∀ c o, s.heap.get? c = some o → s'.heap.get? c = some o) → s.heap.IsTuple l its → s'.heap.IsTuple l its := fun hk ⟨o, ho, hc, n, hd⟩ => ⟨o, hk _ _ ho, hc, n, hd⟩
  have hu1 : (Xc.A.in1).units < cLine := by show Xc.A.units + 1 < cLine; omega
  refine call_max_twoH (I.ok.hd hc) (fun i j => if i = j then false else if i = 1 then ltP p q else ltP q p) (fun i j vi vj s' Q E hk hi hj hq => ?_) fun h' tk k' => ⟨_, H, I.kept k', ?_, k⟩
  · have at2 : ∀ {i v}, #[Value.ref a, Value.ref b][i]? = some v → (i = 0 ∧ v = .ref a) ∨ (i = 1 ∧ v = .ref b) := fun {i v} h => by
      match i with
      | 0 => exact .inl ⟨rfl, by simpa using h.symm⟩
      | 1 => exact .inr ⟨rfl, by simpa using h.symm⟩
      | n + 2 => simp at h
    have self : ∀ (x : T2 Int Int), ltP x x = false := fun x => by simp [ltP]
    rcases at2 hi with ⟨rfl, rfl⟩ | ⟨rfl, rfl⟩ <;> rcases at2 hj with ⟨rfl, rfl⟩ | ⟨rfl, rfl⟩
    · have := (cmp_pair (s := s') hu1 (up hk t1) (up hk t1) n1 n1).2
      rw [self] at this
      exact this Xc.prog Xc.w E Q hq
    · exact (cmp_pair (s := s') hu1 (up hk t1) (up hk t2) n1 n2).2 Xc.prog Xc.w E Q hq
    · exact (cmp_pair (s := s') hu1 (up hk t2) (up hk t1) n2 n1).2 Xc.prog Xc.w E Q hq
    · have := (cmp_pair (s := s') hu1 (up hk t2) (up hk t2) n2 n2).2
      rw [self] at this
      exact this Xc.prog Xc.w E Q hq
  · show RelV _ (if ltP p q = true then Value.ref b else Value.ref a)
    split <;> rfl
theorem x_maxP {C : Cn} {X : Addr → Prop} {H : Hp} {Q : VK} {p q : T2 Int Int} {u v : V} (r : Rep C.K X H (enc p) u) (t : Rep C.K X H (enc q) v) (h : ∀ w, Rep C.K X H (enc (maxP p q)) w → Q w H) : rMaxP C.K [u, v] H Q := by
  obtain ⟨a, ea, ha⟩ := rep_it r
  obtain ⟨b, eb, hb⟩ := rep_it t
  subst ea eb
  refine ⟨a, b, p, q, rfl, ha, hb, h _ ?_⟩
  unfold maxP
  by_cases z : ltP p q = true
  · rw [if_pos z, if_pos z]; exact t
  · rw [if_neg z, if_neg z]; exact r
def rMinP (K : PySem.W.Frag) : List V → Hp → VK → Prop := fun xs H Q => ∃ (a b : Addr) (p q : T2 Int Int), xs = [.ref a, .ref b] ∧ SqT K H a [.int p.a, .int p.b] ∧ SqT K H b [.int q.a, .int q.b] ∧ Q (if ltP q p = true then .ref b else .ref a) H
open PySem.W in
theorem call_minP (hu : Xc.A.units + 64 < cLine) (hc : Xc.calm = true) : CallR Xc (.builtin "min") (rMinP Xc.K) := by
  intro pins s σ H xs us Q I r h
  obtain ⟨a, b, p, q, rfl, ha, hb, k⟩ := h
  obtain ⟨u, w', rfl, e1, e2⟩ := vals2 r
  cases (show u = Value.ref a from e1)
  cases (show w' = Value.ref b from e2)
  obtain ⟨i1, r1, t1, _⟩ := I.tuple ha
  obtain ⟨i2, r2, t2, _⟩ := I.tuple hb
  have n1 : IntsAre i1 [p.a, p.b] := Vals.ints (ns := [p.a, p.b]) r1
  have n2 : IntsAre i2 [q.a, q.b] := Vals.ints (ns := [q.a, q.b]) r2
  have up : ∀ {s' : Shared} {l : Addr} {its : Array Value}, (∀ c o, s.heap.get? c = some o → s'.heap.get? c = some o) → s.heap.IsTuple l its → s'.heap.IsTuple l its := fun hk ⟨o, ho, hc, n, hd⟩ => ⟨o, hk _ _ ho, hc, n, hd⟩
  have hu1 : (Xc.A.in1).units < cLine := by show Xc.A.units + 1 < cLine; omega
  refine call_min_twoH (I.ok.hd hc) (fun i j => if i = j then false else if i = 1 then ltP q p else ltP p q) (fun i j vi vj s' Q E hk hi hj hq => ?_) fun h' tk k' => ⟨_, H, I.kept k', ?_, k⟩
  · have at2 : ∀ {i v}, #[Value.ref a, Value.ref b][i]? = some v → (i = 0 ∧ v = .ref a) ∨ (i = 1 ∧ v = .ref b) := fun {i v} h => by
      match i with
      | 0 => exact .inl ⟨rfl, by simpa using h.symm⟩
      | 1 => exact .inr ⟨rfl, by simpa using h.symm⟩
      | n + 2 => simp at h
    have self : ∀ (x : T2 Int Int), ltP x x = false := fun x => by simp [ltP]
    rcases at2 hi with ⟨rfl, rfl⟩ | ⟨rfl, rfl⟩ <;> rcases at2 hj with ⟨rfl, rfl⟩ | ⟨rfl, rfl⟩
    · have := (cmp_pair (s := s') hu1 (up hk t1) (up hk t1) n1 n1).1
      rw [self] at this
      exact this Xc.prog Xc.w E Q hq
    · exact (cmp_pair (s := s') hu1 (up hk t1) (up hk t2) n1 n2).1 Xc.prog Xc.w E Q hq
    · exact (cmp_pair (s := s') hu1 (up hk t2) (up hk t1) n2 n1).1 Xc.prog Xc.w E Q hq
    · have := (cmp_pair (s := s') hu1 (up hk t2) (up hk t2) n2 n2).1
      rw [self] at this
      exact this Xc.prog Xc.w E Q hq
  · show RelV _ (if ltP q p = true then Value.ref b else Value.ref a)
    split <;> rfl
theorem x_minP {C : Cn} {X : Addr → Prop} {H : Hp} {Q : VK} {p q : T2 Int Int} {u v : V} (r : Rep C.K X H (enc p) u) (t : Rep C.K X H (enc q) v) (h : ∀ w, Rep C.K X H (enc (minP p q)) w → Q w H) : rMinP C.K [u, v] H Q := by
  obtain ⟨a, ea, ha⟩ := rep_it r
  obtain ⟨b, eb, hb⟩ := rep_it t
  subst ea eb
  refine ⟨a, b, p, q, rfl, ha, hb, h _ ?_⟩
  unfold minP
  by_cases z : ltP q p = true
  · rw [if_pos z, if_pos z]; exact t
  · rw [if_neg z, if_neg z]; exact r
/-! ### is of bools -/
def rIsBX : R2 := fun x y H Q => ∃ a b : Bool, x = .bl a ∧ y = .bl b ∧ Q (.bl (decide (a = b))) H
def rNotBX : R2 := fun x y H Q => ∃ a b : Bool, x = .bl a ∧ y = .bl b ∧ Q (.bl (!decide (a = b))) H
theorem op_isBX : OpR Xc (compareOp .Is) rIsBX := op_isBl
theorem op_notBX : OpR Xc (compareOp .IsNot) rNotBX := op_notBl
theorem x_isBX {H : Hp} {Q : VK} {a b : Bool} (h : Q (.bl (decide (a = b))) H) : rIsBX (.bl a) (.bl b) H Q := ⟨a, b, rfl, rfl, h⟩
theorem x_notBX {H : Hp} {Q : VK} {a b : Bool} (h : Q (.bl (!decide (a = b))) H) : rNotBX (.bl a) (.bl b) H Q := ⟨a, b, rfl, rfl, h⟩
end
theorem pi_listK {K : PySem.W.Frag} {X : Cx} {tg l : Expr} {tl : TE} (hK : X.K = K) (hl : PE X l tl) : PI X tg l (iList K tl) := by subst hK; exact pi_list hl
theorem pi_tupK {K : PySem.W.Frag} {X : Cx} {tg l : Expr} {tl : TE} (hK : X.K = K) (hl : PE X l tl) : PI X tg l (iTup K tl) := by subst hK; exact pi_tup hl
theorem lookup_relabel_fc {env : Env} : ∀ {names : List (Str × NameKind)} {x : Str}, names.lookup x = some .cell ∨ names.lookup x = some .free →
    (names.map fun (n, k) => if (k == NameKind.free && env.scope.kind == .function && env.kindOf n == some .cell) then (n, NameKind.cell) else (n, k)).lookup x = some .cell ∨ (names.map fun (n, k) => if (k == NameKind.free && env.scope.kind == .function && env.kindOf n == some .cell) then (n, NameKind.cell) else (n, k)).lookup x = some .free
  | [], _, h => by simp at h
  | (n, k) :: r, x, h => by
    have ih := @lookup_relabel_fc env r x
    show List.lookup x ((if (k == NameKind.free && env.scope.kind == .function && env.kindOf n == some .cell) = true then (n, NameKind.cell) else (n, k)) :: _) = _ ∨ List.lookup x ((if (k == NameKind.free && env.scope.kind == .function && env.kindOf n == some .cell) = true then (n, NameKind.cell) else (n, k)) :: _) = _
    cases hx : x == n with
    | true =>
      simp only [List.lookup_cons, hx] at h
      by_cases hc : (k == NameKind.free && env.scope.kind == .function && env.kindOf n == some .cell) = true
      · rw [if_pos hc]; left; simp [List.lookup_cons, hx]
      · rw [if_neg hc]; simp only [List.lookup_cons, hx]; exact h
    | false =>
      simp only [List.lookup_cons, hx] at h
      by_cases hc : (k == NameKind.free && env.scope.kind == .function && env.kindOf n == some .cell) = true
      · rw [if_pos hc]; simp only [List.lookup_cons, hx]; exact ih h
      · rw [if_neg hc]; simp only [List.lookup_cons, hx]; exact ih h
theorem blkOk_in {N : List Str} {scope0 scope : Scope} {own : List (Str × Nat)} {cl : List (Str × Addr)} {C : Addr} {env : Env} (h : blkC N scope0 scope own = true) : BlkOk N (compEnvC scope0 cl C env).scope scope own := by
  have b := blkOk_by h
  exact ⟨b.kind, b.uniq, b.ix, fun y hy e => lookup_relabel_fc (b.free y hy e), b.own⟩
/-! ### chains of two comparisons -/
section
variable {C : Cn} {X : Addr → Prop} {H : Hp} {σ : L2.St} {Γ Γ' : List Sl} {Q : VK} {α β ρ : Type}
def KCh (tc : TE) (r' : R2) (σ : L2.St) (y : V) (Q : VK) : VK := fun z H3 => ∃ k, z = .bl k ∧ (if k = true then tc σ H3 fun w' H4 => r' y w' H4 Q else Q (.bl false) H3)
theorem x_chain {r r' : R2} {ta tb tc : TE} (h : ta σ H fun x H1 => tb σ H1 fun y H2 => r x y H2 (KCh tc r' σ y Q)) : tChain r r' ta tb tc σ H Q := h
theorem x_chP {A B : Bool} {tc : TE} {r' : R2} {y : V} (hu : ∀ Q' : VK, Q' (.bl B) H → tc σ H fun w H4 => r' y w H4 Q') (h : Q (.bl (A && B)) H) : KCh tc r' σ y Q (.bl A) H := by
  refine ⟨A, rfl, ?_⟩
  cases A with
  | true => exact hu Q h
  | false => exact h
/-! ### xs.reverse() -/
theorem x_reverse [Py α] {xs : List α} {i : Nat} {p : Addr} (L : Lo C X H σ Γ) (g : Γ[i]? = some (.mu p (ml xs))) (e : Γ.set i (.mu p (ml xs.reverse)) = Γ')
    (h : ∀ H1, Lo C X H1 σ Γ' → (∀ d u, Rep C.K X H d u → Rep C.K X H1 d u) → Q .non H1) : rReverse (.ref p) [] H Q := by
  subst e
  obtain ⟨vs, hs, rs⟩ := L.mrep g
  obtain ⟨L1, le⟩ := L.write (es := xs.reverse.map enc) (ws := vs.reverse) g hs (by rw [List.map_reverse]; exact rs.reverse)
  exact ⟨p, vs, rfl, rfl, hs, h _ L1 le⟩
/-! ### a list of the body's own is lent to a call that keeps nothing of it -/
abbrev X0 : Addr → Prop := fun _ => False
theorem Rep.x0 {K : PySem.W.Frag} {d : PyData} {v : V} (r : Rep K X H d v) : Rep K X0 H d v := r.anti fun _ h => h.elim
theorem SqX.x0 {K : PySem.W.Frag} {ns : List Int} {v : V} (r : SqX K X H ns v) : SqX K X0 H ns v := r.anti fun _ h => h.elim
theorem Lo.lend (L : Lo C X H σ Γ) {i : Nat} {p : Addr} {ds : List PyData} (e : Γ[i]? = some (.mu p (.lst ds))) : Rep C.K X0 H (.list ds) (.ref p) := by
  obtain ⟨vs, h1, h2⟩ := L.mrep e
  exact .lst (fun h => h) (.inl h1) (h2.anti fun _ h => h.elim)
theorem Lo.condL (L : Lo C X H σ Γ) {Γa : List Sl} {vs : List V} (as : As C.K X0 H Γa vs) (e : muts Γa = []) : Cond C.K X0 H Γa vs := ⟨as, nd0 e, (by rw [e]; intro _ h; cases h), fun _ h => h.elim⟩
/-- data without a list in it -/
class Flat (α : Type) [Py α] : Prop where
  up : ∀ {K : PySem.W.Frag} {X Y : Addr → Prop} {H : Hp} {x : α} {v : V}, Rep K X H (enc x) v → Rep K Y H (enc x) v
instance : Flat Int := ⟨fun r => by cases r; exact .int _⟩
instance : Flat Bool := ⟨fun r => by cases r; exact .bl _⟩
instance : Flat Str := ⟨fun r => by cases r; exact .str _⟩
instance {α β : Type} [Py α] [Py β] [Flat α] [Flat β] : Flat (T2 α β) := ⟨fun r => by
  cases r with | tup h q =>
    cases q with | cons a q => cases q with | cons b q => cases q; exact .tup h (.cons (Flat.up a) (.cons (Flat.up b) .nil))⟩
instance {α β γ : Type} [Py α] [Py β] [Py γ] [Flat α] [Flat β] [Flat γ] : Flat (T3 α β γ) := ⟨fun r => by
  cases r with | tup h q =>
    cases q with | cons a q => cases q with | cons b q => cases q with | cons c q => cases q; exact .tup h (.cons (Flat.up a) (.cons (Flat.up b) (.cons (Flat.up c) .nil)))⟩
theorem k0L {v : V} {H' : Hp} {rs : Rs} {ps : List (Addr × MO)} {G : Prop} (L : Lo C X H σ Γ) (F : Fin C.K X0 H [] ps rs v H') (h : Lo C X H' σ Γ → (∀ d u, Rep C.K X H d u → Rep C.K X H' d u) → G) : G := by
  have s : Same H H' := fun a o e => F.base a o e (by simp)
  exact h (L.same s) fun _ _ r => r.keep (.same s)
theorem k0Ld [Py α] [Flat α] {v : V} {H' : Hp} {x : α} {ps : List (Addr × MO)} {G : Prop} (L : Lo C X H σ Γ) (F : Fin C.K X0 H [] ps (.imm (enc x)) v H') (h : Lo C X H' σ Γ → (∀ d u, Rep C.K X H d u → Rep C.K X H' d u) → Rep C.K X H' (enc x) v → G) : G := by
  have s : Same H H' := fun a o e => F.base a o e (by simp)
  exact h (L.same s) (fun _ _ r => r.keep (.same s)) (Flat.up (show Rep C.K X0 H' (enc x) v from F.res))
end
/-! ### for x in [p, q, ..]: x.clear(), of lists of the body's own; a list parted -/
section
variable {C : Cn} {X : Addr → Prop} {H : Hp} {σ : L2.St} {Γ Γ' : List Sl} {Q : VK} {α : Type}
theorem x_clear {i : Nat} {p : Addr} {ds : List PyData} (L : Lo C X H σ Γ) (g : Γ[i]? = some (.mu p (.lst ds))) (e : Γ.set i (.mu p (.lst [])) = Γ')
    (h : ∀ H1, Lo C X H1 σ Γ' → (∀ d u, Rep C.K X H d u → Rep C.K X H1 d u) → Q .non H1) : rClear (.ref p) [] H Q := by
  subst e
  obtain ⟨vs, hs, rs⟩ := L.mrep g
  obtain ⟨L1, le⟩ := L.write (es := []) (ws := []) g hs .nil
  exact ⟨p, vs, rfl, rfl, hs, h _ L1 le⟩
theorem x_clr1 {i j : Nat} {p : Addr} {ds : List PyData} {N bk ct : L2.St → Hp → Prop} {rt : VK} (L : Lo C X H σ Γ) (hj : j < C.n) (g : Γ[i]? = some (.mu p (.lst ds))) (gj : Γ[j]? = some .unk) (e : Γ.set i (.mu p (.lst [])) = Γ')
    (h : ∀ σ' H', Lo C X H' σ' Γ' → N σ' H') : gName j (.ref p) σ H fun σ2 H2 => tDrop (tBM0 C.K "list" rClear (tVar j)) ⟨N, rt, bk, ct⟩ σ2 H2 := by
  have L1 : Lo C X H (σ.set j (some (.ref p))) Γ := by
    have := L.setS (i := j) (v := some (.ref p)) (s := .unk) rfl trivial hj
    rwa [show Γ.set j .unk = Γ from List.ext_getElem? fun k => by
      rw [List.getElem?_set]
      split
      · next z =>
        subst z
        have := (List.getElem?_eq_some_iff.mp gj).1
        rw [if_pos this, gj]
      · rfl] at this
  show tDrop (tBM0 C.K "list" rClear (tVar j)) ⟨N, rt, bk, ct⟩ (σ.set j (some (.ref p))) H
  refine x_drop (x_bm0 ?_)
  refine ⟨.ref p, ?_, ?_⟩
  · have hl : j < σ.length := by rw [L.len]; exact hj
    rw [List.getElem?_set_self hl]
  · exact x_tyM L1 g (x_clear L1 g e fun H1 L2 _ => h _ _ L2)
theorem x_refs {ps : List Addr} {G : Nat → List Sl} {g : TG} {tb : TS} {nx bk ct : L2.St → Hp → Prop} {rt : VK} (L : Lo C X H σ (G 0)) (hl : ps.length ≤ 16777216) (hG : ∀ k, k < ps.length → muts (G (k + 1)) = muts (G k))
    (body : ∀ k p, ps[k]? = some p → ∀ (H : Hp) (σ : L2.St) (N : L2.St → Hp → Prop), Lo ⟨C.K, X, H, muts (G k), C.n⟩ X H σ (G k) → (∀ X' σ' H', Lo ⟨C.K, X, H, muts (G k), C.n⟩ X' H' σ' (G (k + 1)) → N σ' H') → g (.ref p) σ H fun σ2 H2 => tb ⟨N, rt, nx, N⟩ σ2 H2)
    (done : ∀ σ' H', Lo C X H' σ' (G ps.length) → nx σ' H') : KLst (KForL C.K g tb ⟨nx, rt, bk, ct⟩ σ) (ps.map V.ref) H := by
  refine ⟨by rw [line_eq, List.length_map]; exact hl, fun a ha => ?_⟩
  have s : Same H (upd H a (.lst (ps.map V.ref))) := same_upd ha
  have na : ¬ X a := fun h => L.xd a h ha
  refine ⟨a, rfl, ⟨_, .inl (.inl upd_same)⟩, for_list (K := C.K) (a := a) (xs := ps.map V.ref) (fun i σ' H' => i ≤ ps.length ∧ Lo C X H' σ' (G i) ∧ Rd H' a (.lst (ps.map V.ref))) ⟨Nat.zero_le _, L.same s, .inl upd_same⟩ (fun i σ' H' _ h => .inl h.2.2) ?_ ?_⟩
  · rintro i y σ' H' hy ⟨hi, L', rd⟩
    rw [List.getElem?_map] at hy
    cases hp : ps[i]? with
    | none => rw [hp] at hy; cases hy
    | some p =>
      rw [hp] at hy
      cases hy
      have hk := (List.getElem?_eq_some_iff.mp hp).1
      refine body i p hp H' σ' _ L'.enter fun X' σ'' H'' L'' => ?_
      exact ⟨hk, L'.leave L'' (hG i hk), (L'.keep L'').rd na rd⟩
  · rintro σ' H' ⟨_, L', _⟩
    rw [List.length_map] at L'
    exact done _ _ L'
def un2 {α : Type} : List α → Option (T2 α α)
  | [a, b] => some ⟨a, b⟩
  | _ => none
def un3 {α : Type} : List α → Option (T3 α α α)
  | [a, b, c] => some ⟨a, b, c⟩
  | _ => none
def un4 {α : Type} : List α → Option (T4 α α α α)
  | [a, b, c, d] => some ⟨a, b, c, d⟩
  | _ => none
theorem un2_eq {xs : List α} {q : T2 α α} (h : un2 xs = some q) : xs = [q.a, q.b] := by
  unfold un2 at h
  split at h
  · cases h; rfl
  · cases h
theorem un3_eq {xs : List α} {q : T3 α α α} (h : un3 xs = some q) : xs = [q.a, q.b, q.c] := by
  unfold un3 at h
  split at h
  · cases h; rfl
  · cases h
theorem un4_eq {xs : List α} {q : T4 α α α α} (h : un4 xs = some q) : xs = [q.a, q.b, q.c, q.d] := by
  unfold un4 at h
  split at h
  · cases h; rfl
  · cases h
theorem x_gLst [Py α] {xs ys : List α} {v : V} {n : Nat} {t : TGs} {N : L2.St → Hp → Prop} (r : Rep C.K X H (enc xs) v) (e : xs = ys) (hl : ys.length = n) (h : ∀ vs, Reps C.K X H (ys.map enc) vs → t vs σ H N) : gLst C.K n t v σ H N := by
  subst e
  obtain ⟨a, vs, e, _, rd, q⟩ := rep_lst (ds := xs.map enc) r
  exact ⟨a, vs, e, .inl rd, by rw [q.length, List.length_map]; exact hl, h vs q⟩
end
theorem b2_small (c : Bool) : -(2 ^ 64) < b2 c ∧ b2 c < 2 ^ 64 := by cases c <;> decide
/-! ### data of new lists alone: told lists may be cleared -/
section
variable {C : Cn} {X : Addr → Prop} {H : Hp} {σ : L2.St} {Γ Γ' : List Sl} {Q : VK} {α β τ : Type}
theorem Lo.resl {s s' : Sl} (L : Lo C X H σ Γ) {i : Nat} (g : Γ[i]? = some s) (e : s'.ad = s.ad) (h : ∀ v, SlOk C.K X H v s → SlOk C.K X H v s') : Lo C X H σ (Γ.set i s') := by
  have hil : i < Γ.length := (List.getElem?_eq_some_iff.mp g).1
  have hm : muts (Γ.set i s') = muts Γ := by
    clear L h
    induction Γ generalizing i with
    | nil => simp at hil
    | cons t Γ ih => cases i with
      | zero =>
        simp at g; subst g
        show List.filterMap _ _ = List.filterMap _ _
        rw [List.set_cons_zero, List.filterMap_cons, List.filterMap_cons, e]
      | succ i =>
        have := ih (i := i) (by simpa using g) (by simpa using hil)
        unfold muts at this ⊢
        rw [List.set_cons_succ, List.filterMap_cons, List.filterMap_cons, this]
  refine ⟨L.len, fun j t hj => ?_, by rw [hm]; exact L.nd, fun p hp => L.mx p (hm ▸ hp), L.m0, L.xd, L.base, L.dom, fun p hp => L.own p (hm ▸ hp), L.tf⟩
  by_cases z : j = i
  · subst z
    rw [List.getElem?_set_self hil] at hj
    cases hj
    exact h _ (L.at_ j s g)
  · rw [List.getElem?_set_ne (Ne.symm z)] at hj
    exact L.at_ j t hj
mutual
theorem Rep.old {K : PySem.W.Frag} {Z : Addr → Prop} (hz : ∀ a, ¬ Z a → H a = none) : ∀ {d : PyData} {v : V}, Rep K X H d v → Rep K (fun b => X b ∨ ¬ Z b) H d v
  | _, _, .non => .non
  | _, _, .bl b => .bl b
  | _, _, .int i => .int i
  | _, _, .str x => .str x
  | _, _, .tup q r => .tup q (Reps.old hz r)
  | _, _, .lst n q r => .lst (fun z => z.elim n fun y => rd_nn q (hz _ y)) q (Reps.old hz r)
theorem Reps.old {K : PySem.W.Frag} {Z : Addr → Prop} (hz : ∀ a, ¬ Z a → H a = none) : ∀ {d : List PyData} {v : List V}, Reps K X H d v → Reps K (fun b => X b ∨ ¬ Z b) H d v
  | _, _, .nil => .nil
  | _, _, .cons r t => .cons (Rep.old hz r) (Reps.old hz t)
end
/-- the lists of now and those still to come -/
theorem Lo.mark (L : Lo C X H σ Γ) : ∃ Z : Addr → Prop, (∀ a, Z a ↔ H a = none) ∧ ∀ a, Z a → C.H0 a = none := by
  refine ⟨fun a => H a = none, fun _ => Iff.rfl, fun a h => ?_⟩
  cases e : C.H0 a with
  | none => rfl
  | some o => exact (L.dom a (by rw [e]; exact fun z => nomatch z) h).elim
theorem Lo.fix {Z : Addr → Prop} (L : Lo C X H σ Γ) (hz : ∀ a, Z a ↔ H a = none) {i : Nat} {d : PyData} (g : Γ[i]? = some (.imm d)) : Lo C X H σ (Γ.set i (.fix (fun b => ¬ Z b) d)) :=
  L.resl g rfl fun v ⟨u, e, r⟩ => ⟨u, e, r.old fun a y => (hz a).mp (Classical.not_not.mp y)⟩
theorem Lo.unfix {Z : Addr → Prop} (L : Lo C X H σ Γ) {i : Nat} {d : PyData} (g : Γ[i]? = some (.fix Z d)) : Lo C X H σ (Γ.set i (.imm d)) :=
  L.resl g rfl fun v ⟨u, e, r⟩ => ⟨u, e, r.anti fun _ => .inl⟩
theorem Lo.unZ {Z : Addr → Prop} {p : Addr} {ds : List PyData} (L : Lo C X H σ Γ) {i : Nat} (g : Γ[i]? = some (.mu p (.lstZ Z ds))) : Lo C X H σ (Γ.set i (.mu p (.lst ds))) :=
  L.resl g rfl fun v ⟨e, vs, h, r⟩ => ⟨e, vs, h, r.anti fun _ => .inl⟩
theorem x_vfx {i : Nat} {d : PyData} {Z : Addr → Prop} (L : Lo C X H σ Γ) (e : Γ[i]? = some (.fix Z d)) (h : ∀ v, Rep C.K X H d v → Q v H) : tVar i σ H Q := by
  obtain ⟨u, e1, r⟩ := L.at_ i _ e
  exact ⟨u, e1, h u (r.anti fun _ => .inl)⟩
/-- a slot that does not mind when a new list is written -/
def OldS (Z : Addr → Prop) : Sl → Prop
  | .unk => True
  | .ref _ => True
  | .scr _ => False
  | .imm d => ∀ (K : PySem.W.Frag) (X : Addr → Prop) (H : Hp) (u : V), Rep K X H d u → Rep K (fun _ => True) H d u
  | .fix Z' _ => ∀ a, Z' a → ¬ Z a
  | .mu _ (.lst ds) => ∀ (K : PySem.W.Frag) (X : Addr → Prop) (H : Hp) (us : List V), Reps K X H ds us → Reps K (fun _ => True) H ds us
  | .mu _ .any => True
  | _ => False
theorem OldS.dat [Py α] [Flat α] {Z : Addr → Prop} {x : α} : OldS Z (.imm (enc x)) := fun _ _ _ _ r => Flat.up r
theorem OldS.I {Z : Addr → Prop} {x : Int} : OldS Z (.imm (.int x)) := OldS.dat (x := x)
theorem OldS.B {Z : Addr → Prop} {x : Bool} : OldS Z (.imm (.bool x)) := OldS.dat (x := x)
theorem OldS.S {Z : Addr → Prop} {x : Str} : OldS Z (.imm (.str x)) := OldS.dat (x := x)
theorem Reps.flat [Py α] [Flat α] {K : PySem.W.Frag} {Y : Addr → Prop} : ∀ {xs : List α} {us : List V}, Reps K X H (xs.map enc) us → Reps K Y H (xs.map enc) us
  | [], _, .nil => .nil
  | _ :: _, _, .cons r t => .cons (Flat.up r) (Reps.flat t)
theorem OldS.lst [Py α] [Flat α] {Z : Addr → Prop} {p : Addr} {xs : List α} : OldS Z (.mu p (.lst (xs.map enc))) := fun _ _ _ _ r => r.flat
theorem keepAll {b : Addr} {us : List V} {o : HO} (h : H b = some (.lst us)) : Keep (fun a => a = b) H (upd H b o) :=
  ⟨fun a u e n => by rw [upd_ne n]; exact e, fun a vs e => by rw [upd_ne (fun z => by rw [z, h] at e; cases e)]; exact e, fun a u w e => by rw [upd_ne (fun z => by rw [z, h] at e; cases e)]; exact e⟩
theorem Lo.clrZ {Z : Addr → Prop} {b : Addr} {us : List V} (L : Lo C X H σ Γ) (h0 : C.H0 b = none) (nb : ¬ X b) (zb : Z b) (h : H b = some (.lst us)) (old : ∀ s ∈ Γ, OldS Z s) : Lo C X (upd H b (.lst [])) σ Γ := by
  have k := keepAll (o := .lst []) h
  have hd : ∀ a, H a ≠ none → upd H b (.lst []) a ≠ none := fun a e => by
    by_cases z : a = b
    · rw [z, upd_same]; exact fun y => nomatch y
    · rw [upd_ne z]; exact e
  refine ⟨L.len, fun i s hi => ?_, L.nd, L.mx, L.m0, fun a z => hd a (L.xd a z), fun a u e n => ?_, fun a e => hd a (L.dom a e), L.own, L.tf⟩
  · have hs := L.at_ i s hi
    have ho := old s (List.mem_of_getElem? hi)
    have hx : ∀ p, s.ad = some p → p ≠ b := fun p e z => nb (z ▸ L.mx p (mem_muts.mpr ⟨i, s, hi, e⟩))
    cases s with
    | unk => trivial
    | ref a => exact hs
    | scr ns => exact ho.elim
    | imm d =>
      obtain ⟨u, e, r⟩ := hs
      exact ⟨u, e, ((ho _ _ _ _ r).keep (k.mono fun _ _ => trivial)).anti fun _ _ => trivial⟩
    | fixN Z' d => exact ho.elim
    | lax i j => exact ho.elim
    | fix Z' d =>
      obtain ⟨u, e, r⟩ := hs
      exact ⟨u, e, r.keep (k.mono fun a z => .inr fun y => ho a y (z ▸ zb))⟩
    | mu p o =>
      obtain ⟨e, r⟩ := hs
      refine ⟨e, ?_⟩
      have hp : upd H b (.lst []) p = H p := upd_ne (hx p rfl)
      cases o with
      | lst ds =>
        obtain ⟨vs, hv, r⟩ := r
        exact ⟨vs, hp.trans hv, ((ho _ _ _ _ r).keep (k.mono fun _ _ => trivial)).anti fun _ _ => trivial⟩
      | lstZ _ _ => exact ho.elim
      | dct _ => exact ho.elim
      | ex _ => exact ho.elim
      | any =>
        obtain ⟨vs, hv⟩ := r
        exact ⟨vs, hp.trans hv⟩
    | tmp p o => exact ho.elim
  · rw [upd_ne fun z => by rw [z, h0] at e; cases e]
    exact L.base a u e n
theorem atI_zero {x : α} {xs : List α} : atI (x :: xs) 0 = some x := by
  unfold atI ixN
  simp
/-- for x in xs: x[0].clear(), of a told list of new ones -/
theorem x_dclrs [Py α] [Py β] {γ : Type} [Py γ] {zs : List (T3 (List α) β γ)} {Z : Addr → Prop} {i j : Nat} {p : Addr} {nx bk ct : L2.St → Hp → Prop} {rt : VK} (L : Lo C X H σ Γ) (hZ : ∀ a, Z a → C.H0 a = none) (hj : j < C.n)
    (g : Γ[i]? = some (.mu p (.lstZ Z (zs.map enc)))) (gj : Γ[j]? = some .unk) (old : ∀ s ∈ Γ.set i (.mu p .any), OldS Z s) (e : Γ.set i (.mu p .any) = Γ') (done : ∀ σ' H', Lo C X H' σ' Γ' → nx σ' H') :
    KForL C.K (gName j) (tDrop (tBM0 C.K "list" rClear (tOp (rIxT C.K) (tVar j) (tC (.int 0))))) ⟨nx, rt, bk, ct⟩ σ (.ref p) H := by
  subst e
  have hil : i < Γ.length := (List.getElem?_eq_some_iff.mp g).1
  have ne : i ≠ j := fun z => by subst z; rw [g] at gj; cases gj
  obtain ⟨_, vs, hv, rv⟩ := L.at_ i _ g
  have Xp : X p := L.mx p (mem_muts.mpr ⟨i, _, g, rfl⟩)
  have L1 : Lo C X H σ (Γ.set i (.mu p .any)) := L.resl g rfl fun v ⟨e, vs, h, _⟩ => ⟨e, vs, h⟩
  have gj1 : (Γ.set i (Sl.mu p .any))[j]? = some .unk := by rw [List.getElem?_set_ne ne]; exact gj
  have pieces : ∀ (zs : List (T3 (List α) β γ)) (vs : List V), Reps C.K (NewX X Z H) H (zs.map enc) vs → ∀ y ∈ vs, ∃ a b rest us, y = .ref a ∧ SqT C.K H a (.ref b :: rest) ∧ ¬ X b ∧ Z b ∧ H b = some (.lst us) := by
    intro zs
    induction zs with
    | nil => intro vs r y hy; cases r; cases hy
    | cons z zs ih =>
      intro vs r y hy
      cases r with
      | cons r t =>
        rcases List.mem_cons.mp hy with e | hy
        · subst e
          obtain ⟨a, ws, rfl, hs, q⟩ := rep_tup (ds := [enc z.a, enc z.b, enc z.c]) r
          cases q with
          | cons q1 q2 =>
            obtain ⟨b, us, rfl, nb, rd, _⟩ := rep_lst (ds := z.a.map enc) q1
            refine ⟨a, b, _, us, rfl, hs, fun h => nb (.inl h), Classical.not_not.mp fun h => nb (.inr (.inl h)), ?_⟩
            rcases rd with rd | ⟨o, rd⟩
            · exact rd
            · exact (nb (.inr (.inr ⟨_, _, rd⟩))).elim
        · exact ih _ t y hy
  refine ⟨p, rfl, ⟨vs, .inl (.inl hv)⟩, for_list (K := C.K) (a := p) (xs := vs) (fun k σ' H' => Lo C X H' σ' (Γ.set i (.mu p .any)) ∧ H' p = some (.lst vs) ∧ ∀ y ∈ vs, ∃ a b rest us, y = .ref a ∧ SqT C.K H' a (.ref b :: rest) ∧ ¬ X b ∧ Z b ∧ H' b = some (.lst us))
    ⟨L1, hv, pieces zs vs rv⟩ (fun k σ' H' _ h => .inl (.inl h.2.1)) ?_ fun σ' H' h => done _ _ h.1⟩
  rintro k y σ' H' hy ⟨L', hp, hpc⟩
  obtain ⟨a, b, rest, us, rfl, hs, nb, zb, rd⟩ := hpc y (List.mem_of_getElem? hy)
  have L2 : Lo C X H' (σ'.set j (some (.ref a))) (Γ.set i (.mu p .any)) := by
    have := L'.setS (i := j) (v := some (.ref a)) (s := .unk) rfl trivial hj
    rwa [show (Γ.set i (Sl.mu p .any)).set j .unk = Γ.set i (Sl.mu p .any) from List.ext_getElem? fun k => by
      rw [List.getElem?_set]
      split
      · next z =>
        subst z
        have := (List.getElem?_eq_some_iff.mp gj1).1
        rw [if_pos this, gj1]
      · rfl] at this
  have hl : j < σ'.length := by rw [L'.len]; exact hj
  refine x_drop (x_bm0 ?_)
  refine ⟨.ref a, by rw [List.getElem?_set_self hl], ?_⟩
  refine ⟨a, .ref b :: rest, 0, .ref b, rfl, rfl, hs, atI_zero, ?_⟩
  refine ⟨.inl ⟨rfl, us, .inl (.inl rd)⟩, ?_⟩
  refine ⟨b, us, rfl, rfl, rd, ?_⟩
  have kk := keepAll (o := .lst []) rd
  refine ⟨L2.clrZ (hZ b zb) nb zb rd old, ?_, fun y hy => ?_⟩
  · rw [upd_ne (show p ≠ b from fun z => nb (z ▸ Xp))]; exact hp
  · obtain ⟨a2, b2, rest2, us2, e2, hs2, nb2, zb2, rd2⟩ := hpc y hy
    by_cases z : b2 = b
    · exact ⟨a2, b2, rest2, [], e2, kk.sqT hs2, nb2, zb2, by rw [z, upd_same]⟩
    · exact ⟨a2, b2, rest2, us2, e2, kk.sqT hs2, nb2, zb2, by rw [upd_ne z]; exact rd2⟩
end
/-! ### a comprehension that tells new lists alone -/
section
variable {C : Cn} {X : Addr → Prop} {H H' : Hp} {σ : L2.St} {Γ Γ' : List Sl} {Q : VK} {α β τ ρ : Type}
def BodyCZ [Py β] (Z : Addr → Prop) (C : Cn) (X : Addr → Prop) (G : τ → List Sl) (d : PyData) (s : τ) (o : Option (Option β × τ)) (g : TG) (tt : TT) (te : TE) (vs : List Nat) : Prop :=
  ∀ (X : Addr → Prop) (H : Hp) (σ : L2.St) (u : V) (r : Option β × τ) (Qn : Hp → Prop) (Qy : VK), o = some r → Lo ⟨C.K, X, H, muts (G s), C.n⟩ X H σ (G s) → Rep C.K X H d u → (∀ a, ¬ Z a → H a ≠ none) →
    (r.1 = none → ∀ H', Lo ⟨C.K, X, H, muts (G s), C.n⟩ X H' σ (G r.2) → Qn H') →
    (∀ y, r.1 = some y → ∀ v H', Lo ⟨C.K, X, H, muts (G s), C.n⟩ X H' σ (G r.2) → Rep C.K (NewX X Z H') H' (enc y) v → Qy v H') →
    g u (wipe σ vs) H fun σ2 H2 => wipe σ2 vs = wipe σ vs ∧ tt σ2 H2 fun b H3 => if b = true then te σ2 H3 Qy else Qn H3
theorem x_lcL0Z {Z : Addr → Prop} [Py α] [Py β] {xs : List α} {f : α → τ → Option (Option β × τ)} {G : τ → List Sl} {s0 : τ} {q : List β × τ} {v : V} {g : TG} {tt : TT} {te : TE} {ws : List Nat}
    (L : Lo C X H σ (G s0)) (hG : ∀ s s', muts (G s) = muts (G s')) (r : Rep C.K X H (enc xs) v) (hm : compL f xs s0 = some q) (hl : xs.length ≤ 16777216)
    (hz : ∀ a, ¬ Z a → H a ≠ none) (body : ∀ x s, BodyCZ Z C X G (enc x) s (f x s) g tt te ws)
    (done : ∀ D H', H D = none → C.H0 D = none → ¬ C.X0 D → Lo C (fun a => X a ∨ a = D) H' σ (G q.2) → Keep X H H' → MRep C.K (fun a => X a ∨ a = D) H' D (.lstZ Z (q.1.map enc)) → Q (.ref D) H') :
    KLcL C.K g tt te ws σ Q v H := by
  obtain ⟨a, us, rfl, hna, hrd, hrs⟩ := rep_lst (ds := xs.map enc) r
  refine ⟨a, rfl, ⟨us, .inl hrd⟩, fun D hD => ?_⟩
  have h0 : C.H0 D = none := by
    cases e : C.H0 D with
    | none => rfl
    | some o => exact (L.dom D (by rw [e]; exact fun z => nomatch z) hD).elim
  have hDm : ∀ s, D ∉ muts (G s) := fun s h => L.xd D (L.mx D (hG s s0 ▸ h)) hD
  have sm : Same H (upd H D (.lst [])) := same_upd hD
  have lay := L.lay (p := D) (o := .lst []) hD sm ⟨[], upd_same, .nil⟩
  have L1 : Lo C (fun a => X a ∨ a = D) (upd H D (.lst [])) σ (G s0) := by
    refine ⟨L.len, fun i s hi => ?_, L.nd, fun p hp => .inl (L.mx p hp), fun a h => .inl (L.m0 a h), lay.1.xd, lay.1.base, lay.1.dom, L.own, L.tf⟩
    refine lay.1.at_ i s ?_
    rw [List.getElem?_append_left (List.getElem?_eq_some_iff.mp hi).1]
    exact hi
  have hna' : ¬ (X a ∨ a = D) := fun h => h.elim hna fun e => by
    subst e
    exact rd_nn hrd hD
  refine lc_list (K := C.K) (a := a) (xs := us) (fun i H' => ∃ s ys acc q', Lo C (fun a => X a ∨ a = D) H' σ (G s) ∧ Reps C.K (fun a => X a ∨ a = D) H' (xs.map enc) us ∧ Rd H' a (.lst us) ∧ H' D = some (.lst acc) ∧ Reps C.K (NewX (fun a => X a ∨ a = D) Z H') H' (ys.map enc) acc ∧
      compL f (xs.drop i) s = some q' ∧ q = (ys ++ q'.1, q'.2) ∧ ys.length ≤ i ∧ Keep X H H' ∧ (∀ a, H a ≠ none → H' a ≠ none))
    ⟨s0, [], [], q, L1, (hrs.more hD).keep (.same sm), Keep.rd (.same sm) hna hrd, upd_same, .nil, hm, rfl, Nat.le_refl _, .same sm, fun a h => ?_⟩ (fun i H' _ ⟨s, ys, acc, q', _, _, h, _⟩ => .inl h) ?_ ?_
  · by_cases z : a = D
    · rw [z, upd_same]; exact fun y => nomatch y
    · rw [upd_ne z]; exact h
  · rintro i y H' hy ⟨s, ys, acc, q', L', hr', hd', hacc, hys, hq', eq, hyl, hk, hdm⟩
    obtain ⟨d, hd, rd⟩ := hr'.get' hy
    rw [List.getElem?_map] at hd
    cases hx : xs[i]? with
    | none => rw [hx] at hd; cases hd
    | some x =>
      rw [hx] at hd
      cases hd
      have hil : i < xs.length := (List.getElem?_eq_some_iff.mp hx).1
      obtain ⟨r1, q1, h1, h2, h3⟩ := comp_drop hx hq'
      refine body x s _ H' σ y r1 _ _ h1 L'.enter rd (fun a z => hdm a (hz a z)) ?_ ?_
      · intro e H'' M
        have k := L'.keep M
        have kd : H'' D = some (.lst acc) := M.base D _ hacc (hDm s)
        refine ⟨r1.2, ys, acc, q1, L'.leave M (hG _ _), hr'.keep k, k.rd hna' hd', kd, hys.keepF k, h2, ?_, Nat.le_succ_of_le hyl, ?_, fun a h => M.dom a (hdm a h)⟩
        · rw [eq, h3, e]
        · refine ⟨fun b o hb n => ?_, fun b vs hb => k.2.1 b vs (hk.2.1 b vs hb), fun b o u hb => k.2.2 b o u (hk.2.2 b o u hb)⟩
          have hbD : b ≠ D := fun z => by rw [z, hD] at hb; cases hb
          exact k.1 b o (hk.1 b o hb n) fun z => z.elim n hbD
      · intro yv e v H'' M rv
        have k := L'.keep M
        have kd : H'' D = some (.lst acc) := M.base D _ hacc (hDm s)
        have L2 := L'.leave M (hG _ _)
        obtain ⟨L3, k3⟩ := L2.wroteX (p := D) (o' := .lst (acc ++ [v])) (.inr rfl) (hDm _) kd h0 (fun _ z => nomatch z) (fun _ _ z => nomatch z)
        have k4 := k.trans k3
        have hal : acc.length = ys.length := by rw [hys.length, List.length_map]
        refine ⟨acc, kd, by rw [line_eq]; omega, r1.2, ys ++ [yv], acc ++ [v], q1, L3, hr'.keep k4, k4.rd hna' hd', upd_same, ?_, h2, ?_, ?_, ?_, ?_⟩
        · rw [List.map_append]
          exact (hys.keepF k4).append (.cons (rv.keepF k3) .nil)
        · rw [eq, h3, e]
          show (ys ++ yv :: q1.1, q1.2) = (ys ++ [yv] ++ q1.1, q1.2)
          rw [List.append_assoc]; rfl
        · rw [List.length_append]; exact Nat.succ_le_succ hyl
        · refine ⟨fun b o hb n => ?_, fun b vs hb => k4.2.1 b vs (hk.2.1 b vs hb), fun b o u hb => k4.2.2 b o u (hk.2.2 b o u hb)⟩
          have hbD : b ≠ D := fun z => by rw [z, hD] at hb; cases hb
          exact k4.1 b o (hk.1 b o hb n) fun z => z.elim n hbD
        · intro a h
          by_cases z : a = D
          · rw [z, upd_same]; exact fun y => nomatch y
          · rw [upd_ne z]; exact M.dom a (hdm a h)
  · rintro H' ⟨s, ys, acc, q', L', _, _, hacc, hys, hq', eq, _, hk, hdm⟩
    rw [hrs.length, List.length_map, List.drop_length] at hq'
    cases hq'
    rw [List.append_nil] at eq
    subst eq
    exact done D H' hD h0 (fun z => L.xd D (L.m0 D z) hD) L' hk ⟨acc, hacc, hys⟩

theorem x_lcLZ [Py α] [Py β] {Z : Addr → Prop} {xs : List α} {f : α → τ → Option (Option β × τ)} {v : V} {G : τ → List Sl} {s0 : τ} {q : List β × τ} {g : TG} {tt : TT} {te : TE} {ws : List Nat} (hz : ∀ a, ¬ Z a → H a ≠ none) (L : Lo C X H σ (G s0)) (hG : ∀ s s', muts (G s) = muts (G s')) (r : Rep C.K X H (enc xs) v) (hm : compL f xs s0 = some q) (hl : xs.length ≤ 16777216)
    (body : ∀ x s, BodyCZ Z C X G (enc x) s (f x s) g tt te ws) (h : ∀ D H', Lo C X H' σ (G q.2) → (∀ d u, Rep C.K X H d u → Rep C.K X H' d u) → Rep C.K (NewX X Z H') H' (enc q.1) (.ref D) → Q (.ref D) H') : KLcL C.K g tt te ws σ Q v H :=
  x_lcL0Z L hG r hm hl hz body (fun D H' hD h0 hx M k m => by
    obtain ⟨vs, h1, h2⟩ := m
    exact h D H' (M.xanti (fun _ h => .inl h) (fun p hp => L.mx p (hG q.2 s0 ▸ hp)) L.m0) (fun _ _ q => q.keep k)
      (.lst (fun z => z.elim (fun z => L.xd D z hD) fun z => z.elim (fun z => hz D z hD) fun ⟨_, _, z⟩ => by rw [h1] at z; cases z) (.inl h1) (h2.anti fun _ z => z.imp .inl id)))
theorem x_lcLNZ [Py α] [Py β] {Z : Addr → Prop} {xs : List α} {f : α → τ → Option (Option β × τ)} {v : V} {G : τ → List Sl} {s0 : τ} {q : List β × τ} {g : TG} {tt : TT} {te : TE} {ws : List Nat} (hz : ∀ a, ¬ Z a → H a ≠ none) (L : Lo C X H σ (G s0)) (hG : ∀ s s', muts (G s) = muts (G s')) (r : Rep C.K X H (enc xs) v) (hm : compL f xs s0 = some q) (hl : xs.length ≤ 16777216)
    (body : ∀ x s, BodyCZ Z C X G (enc x) s (f x s) g tt te ws) (h : ∀ D X' H', C.H0 D = none → ¬ C.X0 D → Lo C X' H' σ (G q.2 ++ [.tmp D (.lstZ Z (q.1.map enc))]) → (∀ d u, Rep C.K X H d u → Rep C.K X' H' d u) → Q (.ref D) H') : KLcL C.K g tt te ws σ Q v H :=
  x_lcL0Z L hG r hm hl hz body (fun D H' hD h0 hx M k m => h D _ H' h0 hx (L.addT hD h0 M (hG _ _) m) fun _ _ q => (q.more hD).keep (k.mono fun _ z => .inl z))
theorem x_cyZ [Py β] {Z X' : Addr → Prop} {σ2 : L2.St} {H' : Hp} {K : PySem.W.Frag} {n : Nat} {G : τ → List Sl} {s s' : τ} {Γ2 : List Sl} {y : β} {r : Option β × τ} {v : V} {Qy : VK} (er : r = (some y, s')) (hy : ∀ y, r.1 = some y → ∀ v H', Lo ⟨K, X, H, muts (G s), n⟩ X H' σ (G r.2) → Rep K (NewX X Z H') H' (enc y) v → Qy v H')
    (L : Lo ⟨K, X, H, muts (G s), n⟩ X H σ (G s)) (M : Lo ⟨K, X, H, muts (G s), n⟩ X' H' σ2 Γ2) (b : Bk (G s) Γ2 (G s')) (q : Rep K (NewX X' Z H') H' (enc y) v) : Qy v H' := by
  subst er
  exact hy y rfl v H' (L.back M b) (q.anti fun a z => z.imp (M.m0 a) id)
theorem x_mkTZ {Y : Hp → Addr → Prop} {ds : List PyData} {vs : List V} (L : Lo C X H σ Γ) (q : Reps C.K (Y H) H ds vs) (hk : ∀ H1, Same H H1 → Reps C.K (Y H) H ds vs → Reps C.K (Y H1) H1 ds vs) (hl : vs.length ≤ 16777216) (h : ∀ v H1, Lo C X H1 σ Γ → (∀ d u, Rep C.K X H d u → Rep C.K X H1 d u) → Rep C.K (Y H1) H1 (.tuple ds) v → Q v H1) : KTup Q vs H := by
  refine ⟨by rw [line_eq]; exact hl, fun p hp => ?_⟩
  have s : Same H (upd H p (.tup vs)) := same_upd hp
  exact h _ _ (L.same s) (fun _ _ r => r.keep (.same s)) (.tup upd_same (hk _ s q))
theorem x_mkTN {Z : Addr → Prop} {ds : List PyData} {vs : List V} (L : Lo C X H σ Γ) (q : Reps C.K (NewX X Z H) H ds vs) (hl : vs.length ≤ 16777216) (h : ∀ v H1, Lo C X H1 σ Γ → (∀ d u, Rep C.K X H d u → Rep C.K X H1 d u) → Rep C.K (NewX X Z H1) H1 (.tuple ds) v → Q v H1) : KTup Q vs H :=
  x_mkTZ (Y := NewX X Z) L q (fun _ s r => r.keepF (.same s)) hl h
theorem x_cTup3 {i j l : Nat} {u : V} {d1 d2 d3 : PyData} {tt : TT} {te : TE} {Qy : VK} {Qn : Hp → Prop} (L : Lo C X H σ Γ) (r : Rep C.K X H (.tuple [d1, d2, d3]) u) (hi : i < C.n) (hj : j < C.n) (hl : l < C.n) (n1 : i ≠ j) (n2 : i ≠ l) (n3 : j ≠ l) (e : ((Γ.set i (.imm d1)).set j (.imm d2)).set l (.imm d3) = Γ') (h : ∀ σ2, Lo C X H σ2 Γ' → tt σ2 H (KCt te σ2 Qy Qn)) :
    gTup C.K 3 (gCons (gName i) (gCons (gName j) (gCons (gName l) gNil))) u (wipe σ [i, j, l]) H fun σ2 H2 => wipe σ2 [i, j, l] = wipe σ [i, j, l] ∧ tt σ2 H2 fun b H3 => if b = true then te σ2 H3 Qy else Qn H3 := by
  subst e
  obtain ⟨a, vs, rfl, hs, q⟩ := rep_tup r
  cases q with
  | @cons _ _ v1 _ r1 q => cases q with
    | @cons _ _ v2 _ r2 q => cases q with
      | @cons _ _ v3 _ r3 q => cases q with
        | nil =>
          refine ⟨a, _, rfl, hs, rfl, v1, [v2, v3], rfl, v2, [v3], rfl, v3, [], rfl, rfl, ?_⟩
          have w : ∀ (τ : L2.St), wipe τ [i, j, l] = ((τ.set l none).set j none).set i none := fun _ => rfl
          have e3 : (((wipe σ [i, j, l]).set i (some v1)).set j (some v2)).set l (some v3) = ((σ.set i (some v1)).set j (some v2)).set l (some v3) := by
            rw [w]
            apply List.ext_getElem?
            intro k
            simp only [List.getElem?_set, List.length_set]
            repeat' split
            all_goals first | rfl | omega
          refine ⟨?_, ?_⟩
          · rw [e3, w, w]
            apply List.ext_getElem?
            intro k
            simp only [List.getElem?_set, List.length_set]
            repeat' split
            all_goals first | rfl | omega
          · have q := h _ (((L.set r1 hi).set r2 hj).set r3 hl)
            rw [← e3] at q
            exact q
theorem k0NZ {Z : Addr → Prop} {p : Addr} {H' : Hp} {ds : List PyData} {ps : List (Addr × MO)} {P : Prop} (hz : ∀ a, Z a ↔ H a = none) (L : Lo C X H σ Γ) (F : Fin C.K X H [] ps (.new (.lstZ (fun a => H a = none) ds)) (.ref p) H') (h : ∀ X', C.H0 p = none → ¬ C.X0 p → Lo C X' H' σ (Γ ++ [.tmp p (.lstZ Z ds)]) → (∀ d u, Rep C.K X H d u → Rep C.K X' H' d u) → P) : P := by
  have e : Z = fun a => H a = none := funext fun a => propext (hz a)
  subst e
  exact k0N L F h
theorem k0iZ {v : V} {H' : Hp} {ds : List PyData} {ps : List (Addr × MO)} {G : Prop} {Z : Addr → Prop} (L : Lo C X H σ Γ) (F : Fin C.K X H [] ps (.new (.lstZ Z ds)) v H') (h : Lo C X H' σ Γ → (∀ d u, Rep C.K X H d u → Rep C.K X H' d u) → Rep C.K X H' (.list ds) v → G) : G :=
  k0i L ⟨F.base, F.dom, F.mu, (by
    obtain ⟨p, e, hp, vs, h1, h2⟩ := F.res
    exact ⟨p, e, hp, vs, h1, h2.anti fun _ => .inl⟩ : RRep C.K X H H' (.new (.lst ds)) v)⟩ h
/-- a list of the body's own is lent to a call that tells new lists alone -/
theorem k0LZ {v : V} {H' : Hp} {ds : List PyData} {ps : List (Addr × MO)} {G : Prop} (L : Lo C X H σ Γ) (F : Fin C.K X0 H [] ps (.new (.lstZ (fun a => H a = none) ds)) v H') (h : Lo C X H' σ Γ → (∀ d u, Rep C.K X H d u → Rep C.K X H' d u) → Rep C.K X H' (.list ds) v → G) : G := by
  have s : Same H H' := fun a o e => F.base a o e (by simp)
  obtain ⟨p, rfl, hp, vs, h1, h2⟩ := F.res
  refine h (L.same s) (fun _ _ r => r.keep (.same s)) (.lst (fun z => L.xd p z hp) (.inl h1) (h2.anti fun a z => .inr (.inl (L.xd a z))))
end

/-! ### xs[::h], h a sign -/
def tStep (K : PySem.W.Frag) (te ts : TE) : TE := fun σ H Q => te σ H fun x H1 => tPart ts σ H1 fun o H2 => ∃ a xs i, x = .ref a ∧ o = some i ∧ SqL K H2 a xs ∧ (i = 1 ∨ i = -1) ∧ ∀ p, H2 p = none → Q (.ref p) (upd H2 p (.lst (if i = 1 then xs else xs.reverse)))
theorem pe_step {X : Cx} {e f : Expr} {te ts : TE} {p3 pos : Pos} (he : PE X e te) (hf : PE X f ts) : PE X (.Subscript e (.Slice none none (some f) p3) pos) (tStep X.K te ts) := by
  refine ⟨fun pins s σ H Q I h => ?_⟩
  refine Subscript_ (thn (he.run pins s σ H _ I h) fun v s1 ⟨x, H1, I1, r1, q1⟩ => ?_)
  refine wpAny_Slice (thn (po_none.run pins s1 σ H1 (fun o H2 => o = none ∧ H2 = H1) I1 ⟨rfl, rfl⟩) fun vl s2 ⟨l, H2, I2, pl, el, e2⟩ => ?_)
  subst el e2
  refine thn (po_none.run pins s2 σ H2 (fun o H3 => o = none ∧ H3 = H2) I2 ⟨rfl, rfl⟩) fun vu s3 ⟨u, H3, I3, pu, eu, e3⟩ => ?_
  subst eu e3
  refine thn ((po_some hf).run pins s3 σ H3 (fun o H4 => ∃ a xs i, x = .ref a ∧ o = some i ∧ SqL X.K H4 a xs ∧ (i = 1 ∨ i = -1) ∧ ∀ p, H4 p = none → Q (.ref p) (upd H4 p (.lst (if i = 1 then xs else xs.reverse)))) I3 q1) fun vs s4 ⟨o, H4, I4, ps, a, xs, i, ex, eo, hx, hi, q⟩ => ?_
  subst ex eo
  cases r1
  have I5 : Inv X pins σ H4 { s4 with heap := s4.heap.push { cls := .type "slice", data := .fields #[vl, vu, vs] } } := I4.kept (t' := s4.toks) fun b ob q => Heap.get?_push_of_some _ q
  obtain ⟨its, r, ht, hz⟩ := I5.list hx
  have hlen := r.length
  show wpAny (model X.prog X.w) X.A (subscriptTail e (.Slice none none (some f) p3) (.ref a) (.ref s4.heap.objs.size)) (EP X pins σ Q) X.xe { s4 with heap := s4.heap.push { cls := .type "slice", data := .fields #[vl, vu, vs] } }
  refine tail_any (ops := [.ref a, .ref s4.heap.objs.size]) ht.isList.typeIs (PySem.slot_list_getitem.lookup) ?_ (by with_unfolding_all rfl)
  refine wpAny_getItem_list_slice ht.isList (Heap.IsSliceOf.new _ vl vu vs) pl pu ps (by rcases hi with e | e <;> subst e <;> decide) ?_ (by rw [List.size_toArray]; omega)
  rcases hi with e | e
  · subst e
    rw [show slicePick its.toArray none none (some 1) = its.toArray from slicePick_all its.toArray]
    rw [if_pos rfl] at q
    refine ⟨.ref _, _, I5.laid (t' := s4.toks) (o := .lst xs) (fun b ob q => Heap.get?_push_of_some _ q) (Nat.le_refl _) ?_, rfl, q _ (I5.hok.fresh (Nat.le_refl _))⟩
    exact ⟨hz, _, 0, r, Heap.get?_push_size _ rfl⟩
  · subst e
    rw [PySem.W.krv_pick]
    rw [if_neg (by decide)] at q
    refine ⟨.ref _, _, I5.laid (t' := s4.toks) (o := .lst xs.reverse) (fun b ob q => Heap.get?_push_of_some _ q) (Nat.le_refl _) ?_, rfl, q _ (I5.hok.fresh (Nat.le_refl _))⟩
    exact ⟨by rw [List.length_reverse]; exact hz, _, 0, r.reverse, Heap.get?_push_size _ rfl⟩
/-- .. of data: a new list -/
def stepG {α : Type} (xs : List α) (i : Int) : Option (List α) := if i = 1 then some xs else if i = -1 then some xs.reverse else none
section
variable {C : Cn} {X : Addr → Prop} {H : Hp} {σ : L2.St} {Γ Γ' : List Sl} {Q : VK} {α ρ : Type}
theorem x_step {te ts : TE} (h : te σ H fun x H1 => ts σ H1 fun y H2 => ∃ i, y = .int i ∧ (∃ a xs j, x = .ref a ∧ some i = some j ∧ SqL C.K H2 a xs ∧ (j = 1 ∨ j = -1) ∧ ∀ p, H2 p = none → Q (.ref p) (upd H2 p (.lst (if j = 1 then xs else xs.reverse))))) : tStep C.K te ts σ H Q := h
theorem x_stepL [Py α] {xs : List α} {i : Int} {v : V} {k : List α → Option ρ} {res : ρ} (L : Lo C X H σ Γ) (hm : (stepG xs i).bind k = some res) (r : Rep C.K X H (enc xs) v)
    (h : ∀ ys w H1, k ys = some res → Lo C X H1 σ Γ → (∀ d u, Rep C.K X H d u → Rep C.K X H1 d u) → Rep C.K X H1 (enc ys) w → Q w H1) :
    ∃ i', V.int i = .int i' ∧ (∃ a xs j, v = .ref a ∧ some i' = some j ∧ SqL C.K H a xs ∧ (j = 1 ∨ j = -1) ∧ ∀ p, H p = none → Q (.ref p) (upd H p (.lst (if j = 1 then xs else xs.reverse)))) := by
  obtain ⟨ys, hy, hk⟩ := ob hm
  obtain ⟨a, us, rfl, na, rd, q⟩ := rep_lst (ds := xs.map enc) r
  have hi : i = 1 ∨ i = -1 := by
    unfold stepG at hy
    split at hy
    · exact .inl (by assumption)
    · split at hy
      · exact .inr (by assumption)
      · cases hy
  refine ⟨i, rfl, a, us, i, rfl, rfl, .inl rd, hi, fun p hp => ?_⟩
  have fin : ∀ (zs : List α) (ws : List V), Reps C.K X H (zs.map enc) ws → ys = zs → Q (.ref p) (upd H p (.lst ws)) := fun zs ws rz e => by
    subst e
    have s : Same H (upd H p (.lst ws)) := same_upd hp
    have rr : RRep C.K X H (upd H p (.lst ws)) (.new (.lst (ys.map enc))) (.ref p) := ⟨p, rfl, hp, ws, upd_same, (rz.more hp).keep (.same s)⟩
    exact h ys _ _ hk (L.same s) (fun _ _ r => r.keep (.same s)) (rr.imm L.xd)
  rcases hi with e | e
  · subst e
    rw [if_pos rfl]
    refine fin xs us q ?_
    unfold stepG at hy
    rw [if_pos rfl] at hy
    exact (Option.some.inj hy).symm
  · subst e
    rw [if_neg (by decide)]
    refine fin xs.reverse us.reverse (by rw [List.map_reverse]; exact q.reverse) ?_
    unfold stepG at hy
    rw [if_neg (by decide), if_pos rfl] at hy
    exact (Option.some.inj hy).symm
/-- a list of which nothing is known any more -/
theorem x_tyA {i : Nat} {p : Addr} {P : Prop} (L : Lo C X H σ Γ) (g : Γ[i]? = some (.mu p .any)) (h : P) : tyV C.K "list" (.ref p) H ∧ P := by
  obtain ⟨vs, hs⟩ := L.mrep g
  exact ⟨.inl ⟨rfl, vs, .inl (.inl hs)⟩, h⟩
theorem x_clearA {i : Nat} {p : Addr} (L : Lo C X H σ Γ) (g : Γ[i]? = some (.mu p .any)) (e : Γ.set i (.mu p (.lst [])) = Γ')
    (h : ∀ H1, Lo C X H1 σ Γ' → (∀ d u, Rep C.K X H d u → Rep C.K X H1 d u) → Q .non H1) : rClear (.ref p) [] H Q := by
  subst e
  obtain ⟨vs, hs⟩ := L.mrep g
  have hX : X p := L.mx p (mem_muts.mpr ⟨i, _, g, rfl⟩)
  have kp : Keep X H (upd H p (.lst [])) := ⟨fun a u h n => by rw [upd_ne (fun z => n (by rw [z]; exact hX))]; exact h, fun a us h => by rw [upd_ne (fun z => by rw [z, hs] at h; cases h)]; exact h, fun a u w h => by rw [upd_ne (fun z => by rw [z, hs] at h; cases h)]; exact h⟩
  obtain ⟨L1, le⟩ := L.wrote (H' := upd H p (.lst [])) (o := .lst []) g rfl (fun a u h n => by rw [upd_ne n]; exact h) (fun a h => by
      by_cases z : a = p
      · rw [z, upd_same]; exact fun y => nomatch y
      · rw [upd_ne z]; exact h) ⟨[], upd_same, .nil⟩
  exact ⟨p, vs, rfl, rfl, hs, h _ L1 le⟩
end
/-! ### a told tuple of new lists -/
section
variable {C : Cn} {X : Addr → Prop} {H : Hp} {σ : L2.St} {Γ Γ' : List Sl} {Q : VK} {α β τ : Type}
theorem Lo.unfixN {Z : Addr → Prop} (L : Lo C X H σ Γ) {i : Nat} {d : PyData} (g : Γ[i]? = some (.fixN Z d)) : Lo C X H σ (Γ.set i (.imm d)) :=
  L.resl g rfl fun v ⟨u, e, r⟩ => ⟨u, e, r.anti fun _ => .inl⟩
theorem x_vfn {i : Nat} {d : PyData} {Z : Addr → Prop} (L : Lo C X H σ Γ) (e : Γ[i]? = some (.fixN Z d)) (h : ∀ v, Rep C.K X H d v → Q v H) : tVar i σ H Q := by
  obtain ⟨u, e1, r⟩ := L.at_ i _ e
  exact ⟨u, e1, h u (r.anti fun _ => .inl)⟩
theorem x_setZ {Z : Addr → Prop} {d : PyData} {i : Nat} {v : V} {N : L2.St → Hp → Prop} (L : Lo C X H σ Γ) (r : Rep C.K (NewX X Z H) H d v) (hi : i < C.n) (e : Γ.set i (.fixN Z d) = Γ') (h : ∀ σ', Lo C X H σ' Γ' → N σ' H) : gName i v σ H N := by
  subst e
  exact h _ (L.setS (i := i) (v := some v) (s := .fixN Z d) rfl ⟨v, rfl, r⟩ hi)
theorem x_mkTS {ds : List PyData} {vs : List V} (L : Lo C X H σ Γ) (q : Reps C.K X H ds vs) (hl : vs.length ≤ 16777216) (h : ∀ v H1, Same H H1 → Lo C X H1 σ Γ → (∀ d u, Rep C.K X H d u → Rep C.K X H1 d u) → Rep C.K X H1 (.tuple ds) v → Q v H1) : KTup Q vs H := by
  refine ⟨by rw [line_eq]; exact hl, fun p hp => ?_⟩
  have s : Same H (upd H p (.tup vs)) := same_upd hp
  exact h _ _ s (L.same s) (fun _ _ r => r.keep (.same s)) (.tup upd_same (q.keep (.same s)))
theorem x_listZ [Py α] [Flat α] {Z : Addr → Prop} {xs : List α} {v : V} (hz : ∀ a, ¬ Z a → H a ≠ none) (L : Lo C X H σ Γ) (r : Rep C.K X H (enc xs) v) (h : ∀ v H1, Lo C X H1 σ Γ → (∀ d u, Rep C.K X H d u → Rep C.K X H1 d u) → Rep C.K (NewX X Z H1) H1 (enc xs) v → Q v H1) : rListX C.K [v] H Q := by
  obtain ⟨a, vs, rfl, _, hs, q⟩ := rep_lst (ds := xs.map enc) r
  refine ⟨a, vs, rfl, .inl (.inl hs), fun p hp => ?_⟩
  have s : Same H (upd H p (.lst vs)) := same_upd hp
  refine h _ _ (L.same s) (fun _ _ r => r.keep (.same s)) (.lst (fun z => z.elim (fun z => L.xd p z hp) fun z => z.elim (fun z => hz p z hp) fun ⟨_, _, z⟩ => by rw [upd_same] at z; cases z) (.inl upd_same) ?_)
  exact (q.keep (.same s)).flat
theorem k0dN {v : V} {H' : Hp} {d : PyData} {ps : List (Addr × MO)} {P : Prop} {Z : Addr → Prop} (hz : ∀ a, Z a ↔ H a = none) (L : Lo C X H σ Γ) (F : Fin C.K X H [] ps (.immN (fun a => H a = none) d) v H') (h : Lo C X H' σ Γ → (∀ d u, Rep C.K X H d u → Rep C.K X H' d u) → Rep C.K (NewX X Z H') H' d v → P) : P := by
  have e : Z = fun a => H a = none := funext fun a => propext (hz a)
  subst e
  have s : Same H H' := fun a o e => F.base a o e (by simp)
  exact h (L.same s) (fun _ _ r => r.keep (.same s)) F.res
/-- x[0].clear() -/
theorem x_dclr1 [Py α] [Py β] {γ : Type} [Py γ] {z : T3 (List α) β γ} {Z : Addr → Prop} {i : Nat} {nx bk ct : L2.St → Hp → Prop} {rt : VK} (L : Lo C X H σ Γ) (hZ : ∀ a, Z a → C.H0 a = none)
    (g : Γ[i]? = some (.fixN Z (enc z))) (old : ∀ s ∈ Γ.set i .unk, OldS Z s) (e : Γ.set i .unk = Γ') (done : ∀ H', Lo C X H' σ Γ' → nx σ H') :
    tDrop (tBM0 C.K "list" rClear (tOp (rIxT C.K) (tVar i) (tC (.int 0)))) ⟨nx, rt, bk, ct⟩ σ H := by
  subst e
  have L1 : Lo C X H σ (Γ.set i .unk) := L.resl g rfl fun _ _ => trivial
  obtain ⟨u, eu, r⟩ := L.at_ i _ g
  obtain ⟨a, ws, rfl, hs, q⟩ := rep_tup (ds := [enc z.a, enc z.b, enc z.c]) r
  cases q with
  | cons q1 q2 =>
    obtain ⟨b, us, rfl, nb, rd, _⟩ := rep_lst (ds := z.a.map enc) q1
    have rd' : H b = some (.lst us) := by
      rcases rd with rd | ⟨o, rd⟩
      · exact rd
      · exact (nb (.inr (.inr ⟨_, _, rd⟩))).elim
    have zb : Z b := Classical.not_not.mp fun h => nb (.inr (.inl h))
    refine x_drop (x_bm0 ?_)
    refine ⟨.ref a, eu, ?_⟩
    refine ⟨a, .ref b :: _, 0, .ref b, rfl, rfl, hs, atI_zero, ?_⟩
    refine ⟨.inl ⟨rfl, us, .inl (.inl rd')⟩, ?_⟩
    exact ⟨b, us, rfl, rfl, rd', done _ (L1.clrZ (hZ b zb) (fun h => nb (.inl h)) zb rd' old)⟩
end
/-! ### texts -/
structure Ch where
  c : Nat
  deriving DecidableEq
def chS (x : Ch) : Str := ⟨#[x.c]⟩
instance : Py Ch := ⟨fun x => .str (chS x)⟩
def chs (x : Str) : List Ch := x.cps.toList.map Ch.mk
def strI (i : Int) : Option Str := if i.natAbs.log2 < 1920 then some (Str.ofString (toString i)) else none
def intT (a : Str) : Option Int := if a.length ≤ 640 then PySem.intText? a else none
def ixS (z : Str) (i : Int) : Option Str := (lenOk z.length).bind fun _ => (atI z.cps.toList i).map fun c => (⟨#[c]⟩ : Str)
def partS (a b : Str) : T3 Str Str Str := ⟨(Txt.partition a b).1, (Txt.partition a b).2.1, (Txt.partition a b).2.2⟩
def inS (x : Ch) (z : Str) : Bool := decide (x.c ∈ z.cps.toList)
def rAddS : R2 := fun x y H Q => ∃ i j, x = .str i ∧ y = .str j ∧ i.length + j.length ≤ sizeLine ∧ Q (.str (i ++ j)) H
theorem op_addSX {Xc : Cx} : OpR Xc (binaryOp .Add) rAddS := op_add_str
def rStrI : List V → Hp → VK → Prop := fun xs H Q => ∃ i : Int, xs = [.int i] ∧ i.natAbs.log2 < 1920 ∧ Q (.str (toString i)) H
theorem call_strX {Xc : Cx} : CallR Xc (.type "str") rStrI := call_str_int
def rIntT : List V → Hp → VK → Prop := fun xs H Q => ∃ a n, xs = [.str a] ∧ PySem.intText? a = some n ∧ a.length ≤ 640 ∧ Q (.int n) H
theorem call_intT {Xc : Cx} : CallR Xc (.type "int") rIntT := call_int_str
def rLenStr (K : PySem.W.Frag) : List V → Hp → VK → Prop := fun xs H Q => ∃ x n, xs = [x] ∧ LenV K x H n ∧ Q (.int n) H
theorem call_lenStr {Xc : Cx} : CallR Xc (.builtin "len") (rLenStr Xc.K) := call_len
def rPart : V → List V → Hp → VK → Prop := fun x xs H Q => ∃ a b, x = .str a ∧ xs = [.str b] ∧ (b.length == 0) = false ∧ a.length ≤ sizeLine ∧
    ∀ p, H p = none → Q (.ref p) (upd H p (.tup [.str (Txt.partition a b).1, .str (Txt.partition a b).2.1, .str (Txt.partition a b).2.2]))
theorem mt_part {Xc : Cx} : MtR Xc "str.partition" rPart := mt_partition
def rStarts : V → List V → Hp → VK → Prop := fun x xs H Q => ∃ a b, x = .str a ∧ xs = [.str b] ∧ Q (.bl (Txt.startswith a b)) H
theorem mt_starts {Xc : Cx} : MtR Xc "str.startswith" rStarts := mt_startswith
def KForY (g : TG) (tb : TS) (D : Ends) (σ : L2.St) (v : V) (H : Hp) : Prop := ∃ x, v = V.str x ∧ ∃ W : Nat → Nat → L2.St → Hp → Prop, (∃ m, W 0 m σ H) ∧ ∀ i m σ H, W i m σ H →
      ((Its x).stop i H ∧ D.nx σ H) ∨ ((Its x).go i H ∧ ∃ N : L2.St → Hp → Prop, (∀ σ' H', N σ' H' → ∃ m', m' < m ∧ W (i + 1) m' σ' H') ∧ ∀ x' H', (Its x).yld i H x' H' → g x' σ H' fun σ2 H2 => tb { D with nx := N, ct := N, bk := D.nx } σ2 H2)
section
variable {C : Cn} {X : Addr → Prop} {H : Hp} {σ : L2.St} {Γ Γ' : List Sl} {Q : VK} {α β τ ρ : Type}
theorem x_strI {i : Int} {k : Str → Option ρ} {r : ρ} (hm : (strI i).bind k = some r) (h : ∀ z, k z = some r → Q (.str z) H) : rStrI [V.int i] H Q := by
  obtain ⟨z, hz, hk⟩ := ob hm
  unfold strI at hz
  split at hz
  · cases hz; exact ⟨i, rfl, by assumption, h _ hk⟩
  · cases hz
theorem x_intT {a : Str} {k : Int → Option ρ} {r : ρ} (hm : (intT a).bind k = some r) (h : ∀ z, k z = some r → Q (.int z) H) : rIntT [V.str a] H Q := by
  obtain ⟨z, hz, hk⟩ := ob hm
  unfold intT at hz
  split at hz
  · exact ⟨a, z, rfl, hz, by assumption, h _ hk⟩
  · cases hz
theorem x_addS {a b : Str} {k : Unit → Option ρ} {r : ρ} (hm : (lenOk (a.length + b.length)).bind k = some r) (h : k () = some r → Q (.str (a ++ b)) H) : rAddS (.str a) (.str b) H Q := by
  obtain ⟨_, hz, hk⟩ := ob hm
  exact ⟨a, b, rfl, rfl, by rw [line_eq]; exact lenOk_le hz, h hk⟩
theorem x_ixStr {z : Str} {i : Int} {k : Str → Option ρ} {r : ρ} (hm : (ixS z i).bind k = some r) (h : ∀ y, k y = some r → Q (.str y) H) : rIxS (.str z) (.int i) H Q := by
  obtain ⟨y, hy, hk⟩ := ob hm
  obtain ⟨_, hl, hy⟩ := ob hy
  cases e : atI z.cps.toList i with
  | none => rw [e] at hy; cases hy
  | some c =>
    rw [e] at hy
    cases hy
    exact ⟨z, i, c, rfl, rfl, by rw [line_eq]; exact lenOk_le hl, e, h _ hk⟩
theorem x_slStr {z : Str} {lo hi : Option Int} {k : Unit → Option ρ} {r : ρ} (hm : (lenOk z.length).bind k = some r) (h : k () = some r → Q (.str (cutS z lo hi)) H) : rSlS (.str z) lo hi H Q := by
  obtain ⟨_, hz, hk⟩ := ob hm
  exact ⟨z, rfl, by rw [line_eq]; exact lenOk_le hz, h hk⟩
theorem x_lenStr {K : PySem.W.Frag} {z : Str} {k : Unit → Option ρ} {r : ρ} (hm : (lenOk z.length).bind k = some r) (h : k () = some r → Q (.int (z.length : Int)) H) : rLenStr K [V.str z] H Q := by
  obtain ⟨_, hz, hk⟩ := ob hm
  exact ⟨_, z.length, rfl, ⟨by rw [line_eq]; exact lenOk_le hz, rfl⟩, h hk⟩
theorem x_m1 {r : V → List V → Hp → VK → Prop} {to te : TE} (h : to σ H fun x H1 => (∃ a, x = .str a) ∧ te σ H1 fun y H2 => r x [y] H2 Q) : tM1 r to te σ H Q := h
theorem x_isS {a : Str} {P : Prop} (h : P) : (∃ b, V.str a = .str b) ∧ P := ⟨⟨a, rfl⟩, h⟩
theorem x_partition {a b : Str} {k : Unit → Option ρ} {r : ρ} (L : Lo C X H σ Γ) (hm : (lenOk a.length).bind k = some r) (hb : (b.length == 0) = false)
    (h : ∀ v H1, k () = some r → Lo C X H1 σ Γ → (∀ d u, Rep C.K X H d u → Rep C.K X H1 d u) → Rep C.K X H1 (enc (partS a b)) v → Q v H1) :
    rPart (.str a) [.str b] H Q := by
  obtain ⟨_, hz, hk⟩ := ob hm
  refine ⟨a, b, rfl, rfl, hb, by rw [line_eq]; exact lenOk_le hz, fun p hp => ?_⟩
  have s : Same H (upd H p (.tup [.str (Txt.partition a b).1, .str (Txt.partition a b).2.1, .str (Txt.partition a b).2.2])) := same_upd hp
  exact h _ _ hk (L.same s) (fun _ _ r => r.keep (.same s)) (.tup upd_same (.cons (.str _) (.cons (.str _) (.cons (.str _) .nil))))
theorem x_starts {a b : Str} (h : Q (.bl (Txt.startswith a b)) H) : rStarts (.str a) [.str b] H Q := ⟨a, b, rfl, rfl, h⟩
theorem x_inS {x : Ch} {z : Str} (h : Q (.bl (inS x z)) H) : rInS (.str (chS x)) (.str z) H Q := ⟨x.c, z, rfl, rfl, h⟩
theorem x_ninS {x : Ch} {z : Str} (h : Q (.bl (!inS x z)) H) : rNotInS (.str (chS x)) (.str z) H Q := ⟨x.c, z, rfl, rfl, h⟩
theorem x_tforY {te : TE} {g : TG} {tb : TS} {D : Ends} (h : te σ H (KForY g tb D σ)) : tFor (iStr te) g tb D σ H := h
theorem for_chs {x : Str} {g : TG} {tb : TS} {D : Ends} {σ : L2.St} {H : Hp} (Pv : Nat → L2.St → Hp → Prop) (h0 : Pv 0 σ H)
    (hs : ∀ i c σ H, x.cps[i]? = some c → Pv i σ H → g (.str ⟨#[c]⟩) σ H fun σ2 H2 => tb { D with nx := Pv (i + 1), ct := Pv (i + 1), bk := D.nx } σ2 H2) (hd : ∀ σ H, Pv x.cps.size σ H → D.nx σ H) :
    ∃ W : Nat → Nat → L2.St → Hp → Prop, (∃ m, W 0 m σ H) ∧ ∀ i m σ H, W i m σ H →
      ((Its x).stop i H ∧ D.nx σ H) ∨ ((Its x).go i H ∧ ∃ N : L2.St → Hp → Prop, (∀ σ' H', N σ' H' → ∃ m', m' < m ∧ W (i + 1) m' σ' H') ∧ ∀ x' H', (Its x).yld i H x' H' → g x' σ H' fun σ2 H2 => tb { D with nx := N, ct := N, bk := D.nx } σ2 H2) := by
  refine ⟨fun i m σ H => m = x.cps.size - i ∧ i ≤ x.cps.size ∧ Pv i σ H, ⟨x.cps.size, by simp, Nat.zero_le _, h0⟩, ?_⟩
  rintro i m σ H ⟨rfl, hi, p⟩
  by_cases hlt : i < x.cps.size
  · refine .inr ⟨hlt, Pv (i + 1), fun σ' H' p' => ⟨x.cps.size - (i + 1), by omega, rfl, hlt, p'⟩, ?_⟩
    rintro v H' ⟨rfl, c, hc, rfl⟩
    exact hs i c σ _ hc p
  · have : i = x.cps.size := by omega
    subst this
    exact .inl ⟨Nat.le_refl _, hd σ H p⟩
theorem x_forY {x : Str} {f : Ch → τ → Option (Lp τ ρ)} {G : τ → List Sl} {ps : ρ → List (Addr × MO)} {rs : ρ → Rs} {s0 : τ} {o : Lp τ ρ} {g : TG} {tb : TS} {nx bk ct : L2.St → Hp → Prop} {rt : VK}
    (L : Lo C X H σ (G s0)) (hG : ∀ s s', muts (G s) = muts (G s')) (hm : loopL f (chs x) s0 = some o)
    (body : ∀ x s, Body C X G ps rs (enc x) s (f x s) g tb)
    (done : ∀ s, o = .nxt s → ∀ σ' H', Lo C X H' σ' (G s) → nx σ' H') (brk : ∀ s, o = .brk s → ∀ σ' H', Lo C X H' σ' (G s) → nx σ' H')
    (ret : ∀ q, o = .ret q → ∀ v H', Fin C.K C.X0 C.H0 C.P0 (ps q) (rs q) v H' → rt v H') :
    KForY g tb ⟨nx, rt, bk, ct⟩ σ (.str x) H := by
  have hlen : (chs x).length = x.cps.size := by unfold chs; rw [List.length_map, Array.length_toList]
  refine ⟨x, rfl, for_chs (fun i σ' H' => ∃ s, Lo C X H' σ' (G s) ∧ loopL f ((chs x).drop i) s = some o) ⟨s0, L, hm⟩ ?_ ?_⟩
  · rintro i c σ' H' hc ⟨s, L', hm'⟩
    have hx : (chs x)[i]? = some ⟨c⟩ := by unfold chs; rw [List.getElem?_map, Array.getElem?_toList, hc]; rfl
    obtain ⟨o1, h1, h2, h3, h4⟩ := loop_drop hx hm'
    refine body ⟨c⟩ s H' σ' _ _ _ _ _ o1 h1 L'.enter (.str _) ?_ ?_ ?_ ?_
    · intro s' e X' σ'' H'' L''
      exact ⟨s', L'.leave L'' (hG _ _), h2 s' e⟩
    · intro s' e X' σ'' H'' L''
      exact ⟨s', L'.leave L'' (hG _ _), h2 s' e⟩
    · intro s' e X' σ'' H'' L''
      exact brk s' (h3 s' e) _ _ (L'.leave L'' (hG _ _))
    · intro q e v' H'' F
      exact ret q (h4 q e) v' H'' (F.leave L')
  · rintro σ' H' ⟨s, L', hm'⟩
    have : (chs x).drop x.cps.size = [] := List.drop_eq_nil_of_le (by omega)
    rw [this] at hm'
    exact done s (Option.some.inj hm').symm _ _ L'
theorem x_foY {x : Str} {f : Ch → τ → Option τ} {G : τ → List Sl} {s0 : τ} {g : TG} {tb : TS} {nx bk ct : L2.St → Hp → Prop} {rt : VK} {k : τ → Option ρ} {res : ρ}
    (L : Lo C X H σ (G s0)) (hG : ∀ s s', muts (G s) = muts (G s')) (hm : (foldO f (chs x) s0).bind k = some res)
    (body : ∀ x s, BodyO C X G (enc x) s (f x s) g tb) (done : ∀ s σ' H', k s = some res → Lo C X H' σ' (G s) → nx σ' H') : KForY g tb ⟨nx, rt, bk, ct⟩ σ (.str x) H := by
  obtain ⟨s1, h1, h2⟩ := ob hm
  exact x_forY (ρ := Empty) (o := .nxt s1) (ps := fun _ => []) (rs := fun _ => .imm .none) L hG (foldO_loop h1) (fun x s => (body x s).body) (fun s e σ' H' L' => by cases e; exact done _ _ _ h2 L') (fun s e => nomatch e) (fun q => nomatch q)
end
/-! ### dicts with pairs of ints as keys -/
def kq (k : T2 Int Int) : List L2.Key := [.inl k.a, .inl k.b]
theorem kq_inj {k l : T2 Int Int} (h : kq k = kq l) : k = l := by
  obtain ⟨a, b⟩ := k
  obtain ⟨c, d⟩ := l
  unfold kq at h
  simp at h
  rw [h.1, h.2]
abbrev md {β : Type} [Py β] (kvs : List (T2 Int Int × β)) : MO := .dct (kvs.map fun e => (kq e.1, enc e.2))
def dgetM {β : Type} (kvs : List (T2 Int Int × β)) (k : T2 Int Int) : Option β := (kvs.find? fun kv => decide (kv.1 = k)).map (·.2)
def dputM {β : Type} (kvs : List (T2 Int Int × β)) (k : T2 Int Int) (v : β) : List (T2 Int Int × β) :=
  if (kvs.any fun kv => decide (kv.1 = k)) = true then kvs.map (fun kv => if kv.1 = k then (kv.1, v) else kv) else kvs ++ [(k, v)]
def lt2P (x y : T2 Int Int) : Bool := SrtO.lexB (x.a, x.b) (y.a, y.b)
def sortP (xs : List (T2 Int Int)) : List (T2 Int Int) := xs.mergeSort fun x y => !lt2P y x
section
variable {C : Cn} {X : Addr → Prop} {H : Hp} {σ : L2.St} {Γ Γ' : List Sl} {Q : VK} {α β ρ : Type}
theorem dreps_get [Py β] {K : PySem.W.Frag} {k : T2 Int Int} : ∀ {kvs : List (T2 Int Int × β)} {ws : List (List L2.Key × V)}, DReps K X H (kvs.map fun e => (kq e.1, enc e.2)) ws →
    (∃ b v, dgetM kvs k = some b ∧ valV ws (kq k) = some v ∧ Rep K X H (enc b) v) ∨ (dgetM kvs k = none ∧ valV ws (kq k) = none)
  | [], _, .nil => .inr ⟨rfl, rfl⟩
  | (l, c) :: kvs, _, .cons (v := v) (kvs := ws) r t => by
    by_cases z : l = k
    · subst z
      exact .inl ⟨c, v, by simp [dgetM], valV_pos rfl, r⟩
    · have h1 : dgetM ((l, c) :: kvs) k = dgetM kvs k := by simp [dgetM, List.find?_cons, z]
      have h2 : valV ((kq l, v) :: ws) (kq k) = valV ws (kq k) := valV_neg fun e => z (kq_inj e)
      rw [h1, h2]
      exact dreps_get t
theorem dreps_any [Py β] {K : PySem.W.Frag} {k : T2 Int Int} : ∀ {kvs : List (T2 Int Int × β)} {ws : List (List L2.Key × V)}, DReps K X H (kvs.map fun e => (kq e.1, enc e.2)) ws → (ws.any fun kv => decide (kv.1 = kq k)) = (kvs.any fun kv => decide (kv.1 = k))
  | [], _, .nil => rfl
  | (l, c) :: kvs, _, .cons (v := v) (kvs := ws) r t => by
    rw [List.any_cons, List.any_cons, dreps_any t]
    congr 1
    by_cases z : l = k
    · subst z; simp
    · rw [decide_eq_false (show ¬ (kq l, v).1 = kq k from fun e => z (kq_inj e)), decide_eq_false z]
theorem dreps_map [Py β] {K : PySem.W.Frag} {k : T2 Int Int} {b : β} {v : V} (rv : Rep K X H (enc b) v) : ∀ {kvs : List (T2 Int Int × β)} {ws : List (List L2.Key × V)}, DReps K X H (kvs.map fun e => (kq e.1, enc e.2)) ws →
    DReps K X H ((kvs.map (fun kv => if kv.1 = k then (kv.1, b) else kv)).map fun e => (kq e.1, enc e.2)) (ws.map fun kv => if kv.1 = kq k then (kv.1, v) else kv)
  | [], _, .nil => .nil
  | (l, c) :: kvs, _, .cons (v := u) (kvs := ws) r t => by
    rw [List.map_cons, List.map_cons, List.map_cons]
    by_cases z : l = k
    · subst z
      rw [if_pos rfl, if_pos rfl]
      exact .cons rv (dreps_map rv t)
    · rw [if_neg z, if_neg (show ¬ (kq l, u).1 = kq k from fun e => z (kq_inj e))]
      exact .cons r (dreps_map rv t)
theorem dreps_snoc {K : PySem.W.Frag} {k : List L2.Key} {d : PyData} {v : V} (rv : Rep K X H d v) : ∀ {es : List (List L2.Key × PyData)} {ws : List (List L2.Key × V)}, DReps K X H es ws → DReps K X H (es ++ [(k, d)]) (ws ++ [(k, v)])
  | _, _, .nil => .cons rv .nil
  | _, _, .cons r t => .cons r (dreps_snoc rv t)
theorem dreps_put [Py β] {K : PySem.W.Frag} {k : T2 Int Int} {b : β} {v : V} {kvs : List (T2 Int Int × β)} {ws : List (List L2.Key × V)} (h : DReps K X H (kvs.map fun e => (kq e.1, enc e.2)) ws) (rv : Rep K X H (enc b) v) :
    DReps K X H ((dputM kvs k b).map fun e => (kq e.1, enc e.2)) (putK ws (kq k) v) := by
  unfold dputM putK
  rw [dreps_any h]
  by_cases z : (kvs.any fun kv => decide (kv.1 = k)) = true
  · rw [if_pos z, if_pos z]; exact dreps_map rv h
  · rw [if_neg z, if_neg z, List.map_append]; exact dreps_snoc rv h
theorem dreps_len [Py β] {K : PySem.W.Frag} : ∀ {kvs : List (T2 Int Int × β)} {ws : List (List L2.Key × V)}, DReps K X H (kvs.map fun e => (kq e.1, enc e.2)) ws → ws.length = kvs.length
  | [], _, .nil => rfl
  | _ :: _, _, .cons _ t => congrArg (· + 1) (dreps_len t)
theorem key_rep {K : PySem.W.Frag} {k : T2 Int Int} {y : V} (r : Rep K X H (enc k) y) : ∃ b, y = .ref b ∧ H b = some (.tup ((kq k).map kV)) := by
  obtain ⟨a, vs, rfl, h, q⟩ := rep_tupS (ds := [.int k.a, .int k.b]) r
  cases q with
  | cons q1 q => cases q with
    | cons q2 q => cases q; cases q1; cases q2; exact ⟨a, rfl, h⟩
theorem x_dnew [Py β] (L : Lo C X H σ Γ) (h : ∀ p X' H1, C.H0 p = none → ¬ C.X0 p → Lo C X' H1 σ (Γ ++ [.tmp p (md ([] : List (T2 Int Int × β)))]) → (∀ d u, Rep C.K X H d u → Rep C.K X' H1 d u) → Q (.ref p) H1) : tDNewT σ H Q := fun p hp => by
  have s : Same H (upd H p (.dT [])) := same_upd hp
  obtain ⟨L1, le, h0, hx⟩ := L.lay (o := .dct []) hp s ⟨[], upd_same, .nil⟩
  exact h p _ _ h0 hx L1 le
theorem room1 {k : Nat} {A : Around} (r : Room k A) : A.units + 1 < cLine := by have := r.un; omega
def KDg (x : V) (Q : VK) : VK := fun y H2 => ∃ a v, x = .ref a ∧ DGet H2 a y (some v) ∧ Q v H2
def KG2 (a : Addr) (y : V) (Q : VK) : VK := fun z H3 => ∃ o, DGet H3 a y o ∧ Q (o.getD z) H3
theorem x_dg {td ty : TE} (h : td σ H fun x H1 => ty σ H1 (KDg x Q)) : tDGet td ty σ H Q := h
theorem x_dgetv [Py β] {kvs : List (T2 Int Int × β)} {k : T2 Int Int} {i : Nat} {p : Addr} {y : V} {kk : β → Option ρ} {r : ρ} (L : Lo C X H σ Γ) (g : Γ[i]? = some (.mu p (md kvs))) (hm : (dgetM kvs k).bind kk = some r) (ry : Rep C.K X H (enc k) y)
    (h : ∀ b v, kk b = some r → Rep C.K X H (enc b) v → Q v H) : KDg (.ref p) Q y H := by
  obtain ⟨b, hb, hk⟩ := ob hm
  obtain ⟨ws, hw, rw_⟩ := L.mrep g
  obtain ⟨c, rfl, hc⟩ := key_rep ry
  rcases dreps_get (k := k) rw_ with ⟨b', v, e1, e2, rv⟩ | ⟨e1, _⟩
  · rw [hb] at e1; cases e1
    exact ⟨p, v, rfl, by rw [← e2]; exact DGet.t hw hc, h b v hk rv⟩
  · rw [hb] at e1; cases e1
theorem x_dgetvI {kvs : List (T2 Int Int × Int)} {k : T2 Int Int} {i : Nat} {p : Addr} {y : V} {kk : Int → Option ρ} {r : ρ} (L : Lo C X H σ Γ) (g : Γ[i]? = some (.mu p (md kvs))) (hm : (dgetM kvs k).bind kk = some r) (ry : Rep C.K X H (enc k) y)
    (h : ∀ b, kk b = some r → Q (.int b) H) : KDg (.ref p) Q y H :=
  x_dgetv L g hm ry fun b v hk rv => by
    cases (show Rep C.K X H (.int b) v from rv)
    exact h b hk
theorem x_dg2 {td ty tx : TE} (h : td σ H fun x H1 => ∃ a, x = .ref a ∧ IsD H1 a ∧ ty σ H1 fun y H2 => tx σ H2 (KG2 a y Q)) : tDGet2 td ty tx σ H Q := h
theorem x_isD {i : Nat} {p : Addr} {es : List (List L2.Key × PyData)} {P : Addr → Prop} (L : Lo C X H σ Γ) (g : Γ[i]? = some (.mu p (.dct es))) (h : P p) : ∃ a, V.ref p = .ref a ∧ IsD H a ∧ P a := by
  obtain ⟨ws, hw, _⟩ := L.mrep g
  exact ⟨p, rfl, .inr ⟨ws, .inl hw⟩, h⟩
theorem x_dget2I {kvs : List (T2 Int Int × Int)} {k : T2 Int Int} {d : Int} {i : Nat} {p : Addr} {y : V} (L : Lo C X H σ Γ) (g : Γ[i]? = some (.mu p (md kvs))) (ry : Rep C.K X H (enc k) y)
    (h : Q (.int ((dgetM kvs k).getD d)) H) : KG2 p y Q (.int d) H := by
  obtain ⟨ws, hw, rw_⟩ := L.mrep g
  obtain ⟨c, rfl, hc⟩ := key_rep ry
  rcases dreps_get (k := k) rw_ with ⟨b, v, e1, e2, rv⟩ | ⟨e1, e2⟩
  · rw [e1] at h
    cases (show Rep C.K X H (.int b) v from rv)
    exact ⟨_, DGet.t hw hc, by rw [e2]; exact h⟩
  · rw [e1] at h
    exact ⟨_, DGet.t hw hc, by rw [e2]; exact h⟩
def Lax (K : PySem.W.Frag) (q : T2 Int Int) (v : V) (H : Hp) : Prop := ∃ a, v = .ref a ∧ SqT K H a [.int q.a, .int q.b]
theorem Rep.lax {K : PySem.W.Frag} {q : T2 Int Int} {v : V} (r : Rep K X H (enc q) v) : Lax K q v H := by
  obtain ⟨a, vs, rfl, h, w⟩ := rep_tup (ds := [.int q.a, .int q.b]) r
  cases w with
  | cons q1 w => cases w with
    | cons q2 w => cases w; cases q1; cases q2; exact ⟨a, rfl, h⟩
theorem x_dget2L {kvs : List (T2 Int Int × T2 Int Int)} {k d : T2 Int Int} {i : Nat} {p : Addr} {y z : V} (L : Lo C X H σ Γ) (g : Γ[i]? = some (.mu p (md kvs))) (ry : Rep C.K X H (enc k) y) (rz : Lax C.K d z H)
    (h : ∀ v, Lax C.K ((dgetM kvs k).getD d) v H → Q v H) : KG2 p y Q z H := by
  obtain ⟨ws, hw, rw_⟩ := L.mrep g
  obtain ⟨c, rfl, hc⟩ := key_rep ry
  rcases dreps_get (k := k) rw_ with ⟨b, v, e1, e2, rv⟩ | ⟨e1, e2⟩
  · rw [e1] at h
    exact ⟨_, DGet.t hw hc, by rw [e2]; exact h v rv.lax⟩
  · rw [e1] at h
    exact ⟨_, DGet.t hw hc, by rw [e2]; exact h z rz⟩
/-- a pair of ints of a caller, also a constant -/
theorem As.lx {K : PySem.W.Frag} {q : T2 Int Int} {v : V} {Γ : List Sl} {vs : List V} (r : Lax K q v H) (t : As K X H Γ vs) : As K X H (.lax q.a q.b :: Γ) (v :: vs) := by
  obtain ⟨a, rfl, h⟩ := r
  exact ⟨_, vs, rfl, ⟨a, rfl, h⟩, t⟩
theorem x_vlx {i : Nat} {x y : Int} (L : Lo C X H σ Γ) (e : Γ[i]? = some (.lax x y)) (h : ∀ v, Lax C.K ⟨x, y⟩ v H → Q v H) : tVar i σ H Q := by
  obtain ⟨a, e1, r⟩ := L.at_ i _ e
  exact ⟨.ref a, e1, h _ ⟨a, rfl, r⟩⟩
theorem x_ixLx {q : T2 Int Int} {v : V} {i : Int} {n : Int} (r : Lax C.K q v H) (e : atI [q.a, q.b] i = some n) (h : Q (.int n) H) : rIxT C.K v (.int i) H Q := by
  obtain ⟨a, rfl, hs⟩ := r
  exact ⟨a, _, i, .int n, rfl, rfl, hs, by rw [show ([V.int q.a, V.int q.b] : List V) = [q.a, q.b].map V.int from rfl, atI_map, e]; rfl, h⟩
theorem x_dputS {td ty tv : TE} {nx bk ct : L2.St → Hp → Prop} {rt : VK} (h : tv σ H fun v H1 => td σ H1 fun x H2 => ty σ H2 fun y H3 => ∃ a H4, x = .ref a ∧ DPut H3 a y v H4 ∧ nx σ H4) : sDPut td ty tv ⟨nx, rt, bk, ct⟩ σ H := h
theorem x_dput [Py β] {kvs : List (T2 Int Int × β)} {k : T2 Int Int} {b : β} {i : Nat} {p : Addr} {y v : V} {kk : Unit → Option ρ} {r : ρ} {P : Hp → Prop} (L : Lo C X H σ Γ) (g : Γ[i]? = some (.mu p (md kvs))) (hm : (lenOk (kvs.length + 1)).bind kk = some r) (ry : Rep C.K X H (enc k) y) (rv : Rep C.K X H (enc b) v)
    (e : Γ.set i (.mu p (md (dputM kvs k b))) = Γ') (h : ∀ H1, kk () = some r → Lo C X H1 σ Γ' → (∀ d u, Rep C.K X H d u → Rep C.K X H1 d u) → P H1) : ∃ a H4, V.ref p = .ref a ∧ DPut H a y v H4 ∧ P H4 := by
  subst e
  obtain ⟨_, hl, hk⟩ := ob hm
  obtain ⟨ws, hw, rw_⟩ := L.mrep g
  obtain ⟨c, rfl, hc⟩ := key_rep ry
  have hX : X p := L.mx p (mem_muts.mpr ⟨i, _, g, rfl⟩)
  have kp : ∀ o, Keep X H (upd H p o) := fun o => ⟨fun a u h n => by rw [upd_ne (fun z => n (by rw [z]; exact hX))]; exact h, fun a us h => by rw [upd_ne (fun z => by rw [z, hw] at h; cases h)]; exact h, fun a u w h => by rw [upd_ne (fun z => by rw [z, hw] at h; cases h)]; exact h⟩
  obtain ⟨L1, le⟩ := L.wrote (H' := upd H p (.dT (putK ws (kq k) v))) (o := md (dputM kvs k b)) g rfl (fun a u h n => by rw [upd_ne n]; exact h) (fun a h => by
      by_cases z : a = p
      · rw [z, upd_same]; exact fun y => nomatch y
      · rw [upd_ne z]; exact h) ⟨_, upd_same, (dreps_put rw_ rv).keep (kp _)⟩
  exact ⟨p, _, rfl, DPut.t hw hc (by rw [dreps_len rw_, line_eq]; have := lenOk_le hl; omega), h _ hk L1 le⟩
end
end Sc
namespace ScD
open PySem PySem.W PySem.Calls PyProof.Rows PyProof.V PySem.Spec
section
variable {prog : Program} {w : World} {A : Around} {E : Value → Shared → Prop} {s : Shared} {T : String} {r d : Addr} {n : Nat} {P : Nat → Value → Prop} {OK : Heap → Prop}
theorem collectK {R : List Value → Shared → Prop} (K : KdlSrc prog w T r d n P OK) (hh : A.handled = none) (hok : OK s.heap) (hn : n ≤ sizeLine)
    (h : ∀ (h' : Heap) (tk : Nat) (acc : Array Value), (∀ b o, s.heap.get? b = some o → h'.get? b = some o) → s.heap.objs.size < h'.objs.size → ItemsOf P acc n → R acc.toList { s with heap := h', toks := tk }) :
    wpAny (model prog w) A (collect (.ref r)) R E s := by
  have hlt := K.there _ hok
  unfold collect
  refine wpAny_bind (wpAny_runValue (codeAny_builtin entry_proto_collect' ?_))
  rw [Around.under_plainId PySem.F.plain_proto_collect _]
  show wpAny _ A.in1 (newList [] >>= fun l => again (.builtin "list.__iadd__" ⟨[l, .ref r], []⟩)) _ _ s
  refine wpAny_bind (wpAny_newObj_type ?_)
  refine wpAny_pure ⟨plainId_quiet PySem.F.plain_list_iadd _, codeAny_builtin entry_list_iadd' ?_⟩
  rw [Around.under_plainId PySem.F.plain_list_iadd _]
  have hS₁ : (s.heap.push { cls := .type "list", data := .seq ([] : List Value).toArray }).get? s.heap.objs.size = some { cls := .type "list", data := .seq #[] } := Heap.get?_push_size _ rfl
  show wpAny _ A.in1 (Builtin.List.listExtendWith (.ref s.heap.objs.size) (.ref r) (.ref s.heap.objs.size)) _ _ _
  have key := kdl_extend (A := A) (s := { s with heap := s.heap.push { cls := .type "list", data := .seq ([] : List Value).toArray } })
    (R := fun (q : Result) (s' : Shared) => ∃ (h' : Heap) (tk : Nat) (acc' : Array Value) (c' : Nat), q = .ok (.ret (.ref s.heap.objs.size)) ∧ s' = { s with heap := h', toks := tk } ∧
      (∀ b o, s.heap.get? b = some o → h'.get? b = some o) ∧ h'.get? s.heap.objs.size = some { cls := .type "list", dict := none, data := .seq acc' c', slots := #[] } ∧ ItemsOf P acc' n)
    K hh (K.keep _ _ hok fun b _ o e => Heap.get?_push_of_some _ e) s.heap.objs.size (Nat.ne_of_gt hlt.1) (Nat.ne_of_gt hlt.2) (.ref s.heap.objs.size) 0 hS₁
    (fun h' tk acc' c' hk hS' hacc => ⟨h', tk, acc', c', rfl, rfl, fun b o e => hk b o (Nat.ne_of_lt (Heap.lt_size e)) (Heap.get?_push_of_some _ e), hS', hacc⟩) hn
  refine wpAny_mono key (fun fin s' x => ?_) fun e s' x => ?_
  · cases fin with
    | done f =>
      obtain ⟨h', tk, acc', c', e, rfl, hk, hS', hacc⟩ := x
      cases e
      show wpAny _ A (load s.heap.objs.size >>= _) _ _ _
      refine wpAny_bind (wpAny_load hS' ?_)
      refine wpAny_pure ?_
      show R acc'.toList _
      exact h h' tk acc' hk (Heap.lt_size hS') hacc
    | again c₁ =>
      refine ⟨x.1, codeAny_mono x.2 fun q s₂ y => ?_⟩
      obtain ⟨h', tk, acc', c', rfl, rfl, hk, hS', hacc⟩ := y
      show wpAny _ A (load s.heap.objs.size >>= _) _ _ _
      refine wpAny_bind (wpAny_load hS' ?_)
      refine wpAny_pure ?_
      show R acc'.toList _
      exact h h' tk acc' hk (Heap.lt_size hS') hacc
  · obtain ⟨_, _, _, _, e', _⟩ := x
    cases e'
open SrtO in
theorem sortedK {vs : List Value} {k : Value → Int × Int} {Q : Value → Shared → Prop} (K : KdlSrc prog w T r d n P OK) (hh : A.handled = none) (hok : OK s.heap) (hn : n ≤ sizeLine)
    (hv : ∀ acc : Array Value, ItemsOf P acc n → acc.toList = vs) (hl : vs.length = n) (hp : ∀ v ∈ vs, Srt.IsPair s.heap v (k v).1 (k v).2)
    (h : ∀ (h' : Heap) (tk : Nat) (d' : Addr) (out : List Value), Srtd (fun v u => lexB (k v) (k u)) out → Stb (fun v u => lexB (k v) (k u)) out vs → (∀ b o, s.heap.get? b = some o → h'.get? b = some o) → s.heap.objs.size ≤ d' → (∃ n, h'.get? d' = some (seqObj "list" out.toArray n)) → Q (.ref d') { s with heap := h', toks := tk }) :
    wpAny (model prog w) A (call (.builtin "sorted") [.ref r]) Q E s := by
  refine Calls.call_function_entry kind_sorted plain_sorted entry_sorted (args_sorted1 _) ?_
  unfold Builtin.«sorted»
  refine wpAny_bind (m := checkCount "sorted" 1 1 _) (wpAny_pure ?_)
  refine wpAny_bind (collectK (A := A.in1) K hh hok hn fun h' tk acc hk hlt hacc => ?_)
  rw [hv acc hacc]
  refine wpAny_bind (wpAny_newList ?_ (by rw [hl]; exact hn))
  have hoL : (h'.push (seqObj "list" vs.toArray 0)).get? h'.objs.size = some (seqObj "list" vs.toArray 0) := Heap.get?_push_size _ rfl
  have kk : ∀ b o, s.heap.get? b = some o → b ≠ h'.objs.size ∧ (h'.push (seqObj "list" vs.toArray 0)).get? b = some o := fun b o e => ⟨Nat.ne_of_lt (Nat.lt_trans (Heap.lt_size e) hlt), Heap.get?_push_of_some _ (hk b o e)⟩
  show wpAny _ _ _ _ _ { s with heap := h'.push (seqObj "list" vs.toArray 0), toks := tk }
  refine wpAny_bind (wpAny_holding (wpAny_call_entry slot_list_sort ⟨_, hoL, rfl⟩ entry_list_sort (list_sort_ord (swo_lex k) hoL (by rw [hl]; exact hn) (fun h2 => ?_) fun out hs hb => ⟨_, rfl, ?_⟩) (args_list_sort _)))
  · refine pairs_sortableO (by omega) (fun v hm => (hp v hm).keeps fun b o e _ => (kk b o e).2) fun o e => ?_
    have e' : some o = some (seqObj "list" vs.toArray 0) := e.symm.trans hoL
    cases e'
    intro c
    exact absurd (Value.type.inj c) (by decide)
  · refine wpAny_pure ⟨_, rfl, h _ _ _ out hs hb (fun b o e => ?_) (Nat.le_of_lt hlt) ?_⟩
    · have hb : b < h'.objs.size := Nat.lt_trans (Heap.lt_size e) hlt
      rw [sortedHeap_old (Nat.ne_of_lt hb) (by rw [size_push']; exact Nat.lt_succ_of_lt hb)]
      exact Heap.get?_push_of_some _ (hk b o e)
    · exact sortedHeap_at hoL
end
end ScD
namespace Sc
open PySem PySem.Spec PyProof.Rows L2
open Py (enc)
def rSortedDT : List V → Hp → VK → Prop := fun vs H Q => ∃ (d : Addr) (kvs : List (List L2.Key × V)) (k : V → Int × Int), vs = [V.ref d] ∧ H d = some (.dT kvs) ∧
  (∀ bs, IsKeys H kvs bs → ∀ b ∈ bs, H b = some (.tup [.int (k (.ref b)).1, .int (k (.ref b)).2])) ∧
  ∀ (bs : List Addr) (ys : List V) p, IsKeys H kvs bs → SrtO.Srtd (L2.ltP k) ys → SrtO.Stb (L2.ltP k) ys (bs.map V.ref) → H p = none → Q (.ref p) (upd H p (.lst ys))
theorem cr_sortedDT {X : Cx} (hc : X.calm = true) : CallR X (.builtin "sorted") rSortedDT := by
  intro pins s σ H vs us Q I r h
  obtain ⟨d, kvs, k, rfl, hd, hk, q⟩ := h
  obtain ⟨u, rfl, rx⟩ := r.one
  cases rx
  obtain ⟨z, hs, ks, pr, o, es, ep, ho, hx, hdt, he, hn⟩ := (show ObjOk X.prog X.w H s.heap d (.dT kvs) from I.hok _ _ hd)
  have l1 : es.size = ks.length := size_of_entries he
  have l2 : kvs.length = ks.length := Paired.length pr
  have ik := isKeys_of pr
  have hkk := hk _ ik
  refine ScD.sortedK (vs := (ks.map fun x => x.2.1).map Value.ref) (k := fun u => k (backV u)) (kdl_raw hs hx hdt) (I.ok.hd hc) ho (by omega) (fun acc' it => ?_) (by rw [List.length_map, List.length_map]; exact l1.symm) (fun v hv => ?_) fun h' tk d' out h1 h2 kp hd' hn' => ?_
  · have ea : acc'.toList = ks.map fun x => Value.ref x.2.1 := by
      have hl : acc'.toList.length = ks.length := by rw [Array.length_toList, it.1]; exact l1
      apply List.ext_getElem?
      intro j
      rw [List.getElem?_map]
      cases hj : acc'.toList[j]? with
      | none =>
        have h1 := List.getElem?_eq_none_iff.mp hj
        rw [List.getElem?_eq_none (by omega)]
        all_goals rfl
      | some v =>
        obtain ⟨en, hen, hv⟩ := it.2 j v (by rw [← Array.getElem?_toList]; exact hj)
        have qe := entry_at he j
        rw [hen] at qe
        cases hb : ks[j]? with
        | none =>
          rw [hb] at qe
          exact nomatch (show some en = none from qe)
        | some b =>
          rw [hb] at qe
          have e2 : en = entryOfKey (tupleKind (mixKind X.prog X.w)) b := Option.some.inj qe
          rw [hv, e2]
          all_goals rfl
    rw [ea, List.map_map]; all_goals rfl
  · obtain ⟨b, hb, rfl⟩ := List.mem_map.mp hv
    obtain ⟨_, its2, r2, o, ho, hc, n, hd⟩ := I.hok _ _ (hkk b hb)
    obtain ⟨u1, u2, rfl, ri, rj⟩ := vals2 r2
    obtain ⟨t1, rfl⟩ := ri
    obtain ⟨t2, rfl⟩ := rj
    exact ⟨b, o, t1, t2, n, rfl, ho, hc, hd⟩
  · have h3 : ∀ u ∈ out, ∃ a, u = Value.ref a := fun u hu => by
      have := h2.perm.mem_iff.mp hu
      obtain ⟨b, _, rfl⟩ := List.mem_map.mp this
      exact ⟨b, rfl⟩
    obtain ⟨n, hn'⟩ := hn'
    have hb : SrtO.Stb (L2.ltP k) (out.map backV) ((ks.map fun x => x.2.1).map V.ref) := by
      have := SrtO.Stb.map (L2.ltP_swo k) backV h2
      rw [List.map_map] at this
      exact this
    refine ⟨.ref d', upd H d' (.lst (out.map backV)), I.laid (t' := tk) kp hd' ⟨?_, out, n, vals_back h3, hn'⟩, rfl, q _ _ d' ik (SrtO.srtd_map h1) hb (I.hok.fresh hd')⟩
    rw [hb.len, List.length_map, List.length_map]
    omega
section
variable {C : Cn} {X : Addr → Prop} {H : Hp} {σ : L2.St} {Γ Γ' : List Sl} {Q : VK} {α β ρ : Type}
theorem lt2P_swo : SrtO.Swo lt2P := by
  refine ⟨fun x y h => ?_, fun x y z h1 h2 => ?_⟩
  · have a := SrtO.lexB_iff.mp h
    refine SrtO.lexB_no.mpr ?_
    simp only at a ⊢
    omega
  · have a := SrtO.lexB_no.mp h1
    have b := SrtO.lexB_no.mp h2
    refine SrtO.lexB_no.mpr ?_
    simp only at a b ⊢
    omega
theorem lt2P_eq {x y : T2 Int Int} (h : SrtO.eqv lt2P x y = true) : x = y := by
  obtain ⟨h1, h2⟩ := SrtO.eqv_iff.mp h
  have a := SrtO.lexB_no.mp h1
  have b := SrtO.lexB_no.mp h2
  obtain ⟨p, q⟩ := x
  obtain ⟨r, s⟩ := y
  simp only at a b
  have : p = r := by omega
  have : q = s := by omega
  subst_vars; rfl
theorem filt_rep {x : T2 Int Int} (l : List (T2 Int Int)) : l.filter (SrtO.eqv lt2P x) = List.replicate (l.filter (SrtO.eqv lt2P x)).length x :=
  List.eq_replicate_of_mem fun y hy => (lt2P_eq (List.mem_filter.mp hy).2).symm
theorem stb_perm {l m : List (T2 Int Int)} (h : l.Perm m) : SrtO.Stb lt2P l m := ⟨h, fun x => by
  rw [filt_rep l, filt_rep m, (h.filter _).length_eq]⟩
theorem sortP_perm (xs : List (T2 Int Int)) : (sortP xs).Perm xs := List.mergeSort_perm _ _
theorem sortP_srtd (xs : List (T2 Int Int)) : SrtO.Srtd lt2P (sortP xs) := by
  have := List.pairwise_mergeSort (le := fun x y => !lt2P y x) (fun x y z h1 h2 => by
    simp only [Bool.not_eq_true'] at *
    exact lt2P_swo.tr x y z h1 h2) (fun x y => by
    cases e : lt2P y x with
    | false => rfl
    | true => rw [lt2P_swo.asym y x e]; rfl) xs
  exact this.imp fun h => by simpa using h
def kOf (H : Hp) : V → Int × Int
  | .ref b => match H b with
    | some (.tup [.int i, .int j]) => (i, j)
    | _ => (0, 0)
  | _ => (0, 0)
theorem kOf_at {b : Addr} {q : T2 Int Int} (h : H b = some (.tup ((kq q).map kV))) : kOf H (.ref b) = (q.a, q.b) := by
  have h' : H b = some (.tup [.int q.a, .int q.b]) := h
  unfold kOf
  simp only [h']
theorem keys_of [Py β] {K : PySem.W.Frag} : ∀ {kvs : List (T2 Int Int × β)} {ws : List (List L2.Key × V)} {bs : List Addr}, DReps K X H (kvs.map fun e => (kq e.1, enc e.2)) ws → IsKeys H ws bs →
    (∀ b ∈ bs, H b = some (.tup [.int (kOf H (.ref b)).1, .int (kOf H (.ref b)).2])) ∧ bs.map (fun b => (⟨(kOf H (.ref b)).1, (kOf H (.ref b)).2⟩ : T2 Int Int)) = kvs.map (·.1)
  | [], _, _, .nil, .nil => ⟨(fun _ h => nomatch h), rfl⟩
  | (q, c) :: kvs, _, _, .cons r t, .cons (l₂ := bs) (b := b) hb u => by
    obtain ⟨h1, h2⟩ := keys_of t u
    have e := kOf_at hb
    refine ⟨fun x hx => ?_, ?_⟩
    · rcases List.mem_cons.mp hx with z | hx
      · subst z; rw [e]; exact hb
      · exact h1 x hx
    · rw [List.map_cons, List.map_cons, h2, e]
theorem reps_keys {K : PySem.W.Frag} : ∀ {ys : List V}, (∀ y ∈ ys, ∃ b, y = .ref b ∧ H b = some (.tup [.int (kOf H y).1, .int (kOf H y).2])) → Reps K X H ((ys.map fun y => (⟨(kOf H y).1, (kOf H y).2⟩ : T2 Int Int)).map enc) ys
  | [], _ => .nil
  | y :: ys, h => by
    obtain ⟨b, e, hb⟩ := h y List.mem_cons_self
    refine .cons ?_ (reps_keys fun z hz => h z (List.mem_cons_of_mem _ hz))
    rw [e] at hb ⊢
    exact .tup hb (.cons (.int _) (.cons (.int _) .nil))
theorem x_sortedD [Py β] {kvs : List (T2 Int Int × β)} {i : Nat} {p : Addr} (L : Lo C X H σ Γ) (g : Γ[i]? = some (.mu p (md kvs))) (h : ∀ v H1, Lo C X H1 σ Γ → (∀ d u, Rep C.K X H d u → Rep C.K X H1 d u) → Rep C.K X H1 (enc (sortP (kvs.map (·.1)))) v → Q v H1) : rSortedDT [.ref p] H Q := by
  obtain ⟨ws, hw, rw_⟩ := L.mrep g
  refine ⟨p, ws, kOf H, rfl, hw, fun bs ib b hb => (keys_of rw_ ib).1 b hb, fun bs ys q ib hs hb hq => ?_⟩
  obtain ⟨k1, k2⟩ := keys_of rw_ ib
  have es : ys.map (fun y => (⟨(kOf H y).1, (kOf H y).2⟩ : T2 Int Int)) = sortP (kvs.map (·.1)) := by
    refine SrtO.stb_uniq lt2P_swo (SrtO.srtd_map (lt := lt2P) (f := fun y => (⟨(kOf H y).1, (kOf H y).2⟩ : T2 Int Int)) hs) (sortP_srtd _) (stb_perm ?_)
    refine ((hb.perm.map _).trans ?_).trans (sortP_perm _).symm
    rw [List.map_map, ← k2]
    exact List.Perm.refl _
  have s : Same H (upd H q (.lst ys)) := same_upd hq
  have rp : Reps C.K X H ((sortP (kvs.map (·.1))).map enc) ys := by
    rw [← es]
    refine reps_keys fun y hy => ?_
    obtain ⟨b, hb', rfl⟩ := List.mem_map.mp (hb.perm.mem_iff.mp hy)
    exact ⟨b, rfl, k1 b hb'⟩
  have rr : RRep C.K X H (upd H q (.lst ys)) (.new (.lst ((sortP (kvs.map (·.1))).map enc))) (.ref q) := ⟨q, rfl, hq, ys, upd_same, (rp.more hq).keep (.same s)⟩
  exact h _ _ (L.same s) (fun _ _ r => r.keep (.same s)) (rr.imm L.xd)
end
/-! ### name -= e; range downwards; an item of a tuple at a place that is reckoned; a list of the body's own walked over -/
section
variable {C : Cn} {X : Addr → Prop} {H : Hp} {σ : L2.St} {Γ Γ' : List Sl} {Q : VK} {α β τ ρ : Type}
theorem x_aug {i : Nat} {te : TE} {f : Int → Int → Int} {x : Int} {nx bk ct : L2.St → Hp → Prop} {rt : VK} (L : Lo C X H σ Γ) (e : Γ[i]? = some (.imm (.int x))) (h : te σ H fun y H1 => ipI f (.int x) y H1 fun z H2 => nx (σ.set i (some z)) H2) : tAug i te (ipI f) ⟨nx, rt, bk, ct⟩ σ H := by
  obtain ⟨u, e1, r⟩ := L.at_ i _ e
  cases r
  exact ⟨_, e1, h⟩
theorem x_augI {f : Int → Int → Int} {x y : Int} {Q : V → Hp → Prop} (h : Q (.int (f x y)) H) : ipI f (.int x) (.int y) H Q := ⟨x, y, rfl, rfl, h⟩
theorem x_augS {i : Nat} {z : Int} {nx : L2.St → Hp → Prop} (L : Lo C X H σ Γ) (hi : i < C.n) (e : Γ.set i (.imm (.int z)) = Γ') (h : ∀ σ', Lo C X H σ' Γ' → nx σ' H) : nx (σ.set i (some (.int z))) H := by
  subst e
  exact h _ (L.set (.int z) hi)
theorem x_ixTv [Py α] {xs : List α} {i : Int} {v : V} {k : α → Option ρ} {r : ρ} (q : Rep C.K X H (.tuple (xs.map enc)) v) (hm : (ix xs i).bind k = some r) (h : ∀ x u, k x = some r → Rep C.K X H (enc x) u → Q u H) : rIxT C.K v (.int i) H Q := by
  obtain ⟨x, hx, hk⟩ := ob hm
  refine x_ixT q ?_ fun u ru => h x u hk ru
  rw [atI_map]
  unfold ix at hx
  rw [hx]; rfl
end
structure T6 (α β γ δ ε ζ : Type) where
  a : α
  b : β
  c : γ
  d : δ
  e : ε
  f : ζ
  deriving DecidableEq
instance {α β γ δ ε ζ : Type} [Py α] [Py β] [Py γ] [Py δ] [Py ε] [Py ζ] : Py (T6 α β γ δ ε ζ) := ⟨fun x => .tuple [enc x.a, enc x.b, enc x.c, enc x.d, enc x.e, enc x.f]⟩
def downL (lo : Int) (n : Nat) : List Int := (List.range n).map fun (k : Nat) => lo + (k : Int) * -1
def KForC (lo c : Int) (n : Nat) (g : TG) (tb : TS) (D : Ends) (σ : L2.St) (H : Hp) : Prop := ∃ W : Nat → Nat → L2.St → Hp → Prop, (∃ m, W 0 m σ H) ∧ ∀ i m σ H, W i m σ H →
      ((Itc lo c n).stop i H ∧ D.nx σ H) ∨ ((Itc lo c n).go i H ∧ ∃ N : L2.St → Hp → Prop, (∀ σ' H', N σ' H' → ∃ m', m' < m ∧ W (i + 1) m' σ' H') ∧ ∀ x' H', (Itc lo c n).yld i H x' H' → g x' σ H' fun σ2 H2 => tb { D with nx := N, ct := N, bk := D.nx } σ2 H2)
def KRng3 (R : Int → Int → Nat → Hp → Prop) : List V → Hp → Prop := fun vs H => ∃ (i j c : Int) (n : Nat), vs = [.int i, .int j, .int c] ∧ RgC i j c n ∧ R i c n H
section
variable {C : Cn} {X : Addr → Prop} {H : Hp} {σ : L2.St} {Γ Γ' : List Sl} {Q : VK} {α β τ ρ : Type}
theorem x_tforR3 {ta : TA} {g : TG} {tb : TS} {D : Ends} (h : ta σ H (KRng3 fun lo c n H => KForC lo c n g tb D σ H)) : tFor (iRng3 ta) g tb D σ H := h
theorem x_r3 {a b : Int} {R : Int → Int → Nat → Hp → Prop} {k : Unit → Option ρ} {r : ρ} (hm : ((rngOk a).bind fun _ => rngOk b).bind k = some r) (h : k () = some r → R a (-1) (a - b).toNat H) : KRng3 R [.int a, .int b, .int (-1)] H := by
  obtain ⟨_, h0, hk⟩ := ob hm
  obtain ⟨_, h1, h2⟩ := ob h0
  have a1 : -(2 ^ 62) ≤ a ∧ a < 2 ^ 62 := by
    unfold rngOk at h1
    split at h1
    · omega
    · cases h1
  have a2 : -(2 ^ 62) ≤ b ∧ b < 2 ^ 62 := by
    unfold rngOk at h2
    split at h2
    · omega
    · cases h2
  exact ⟨a, b, -1, _, rfl, RgC.neg a1.1 a1.2 a2.1 a2.2, h hk⟩
theorem x_forD {f : Int → τ → Option (Lp τ ρ)} {G : τ → List Sl} {ps : ρ → List (Addr × MO)} {rs : ρ → Rs} {s0 : τ} {o : Lp τ ρ} {lo : Int} {n : Nat} {g : TG} {tb : TS} {nx bk ct : L2.St → Hp → Prop} {rt : VK}
    (L : Lo C X H σ (G s0)) (hG : ∀ s s', muts (G s) = muts (G s')) (hm : loopL f (downL lo n) s0 = some o)
    (body : ∀ x s, Body C X G ps rs (enc x) s (f x s) g tb)
    (done : ∀ s, o = .nxt s → ∀ σ' H', Lo C X H' σ' (G s) → nx σ' H') (brk : ∀ s, o = .brk s → ∀ σ' H', Lo C X H' σ' (G s) → nx σ' H')
    (ret : ∀ q, o = .ret q → ∀ v H', Fin C.K C.X0 C.H0 C.P0 (ps q) (rs q) v H' → rt v H') :
    KForC lo (-1) n g tb ⟨nx, rt, bk, ct⟩ σ H := by
  have hlen : (downL lo n).length = n := by unfold downL; rw [List.length_map, List.length_range]
  refine ⟨fun i m σ' H' => m = n - i ∧ i ≤ n ∧ ∃ s, Lo C X H' σ' (G s) ∧ loopL f ((downL lo n).drop i) s = some o, ⟨n, by simp, Nat.zero_le _, s0, L, hm⟩, ?_⟩
  rintro i m σ' H' ⟨rfl, hi, s, L', hm'⟩
  by_cases hlt : i < n
  · refine .inr ⟨hlt, fun σ'' H'' => i + 1 ≤ n ∧ ∃ s, Lo C X H'' σ'' (G s) ∧ loopL f ((downL lo n).drop (i + 1)) s = some o, fun σ'' H'' p' => ⟨n - (i + 1), by omega, rfl, p'⟩, ?_⟩
    rintro v H2 ⟨rfl, rfl⟩
    have hx : (downL lo n)[i]? = some (lo + (i : Int) * -1) := by
      unfold downL
      rw [List.getElem?_map, List.getElem?_range hlt]; rfl
    obtain ⟨o1, h1, h2, h3, h4⟩ := loop_drop hx hm'
    refine body _ s _ σ' _ _ _ _ _ o1 h1 L'.enter (.int _) ?_ ?_ ?_ ?_
    · intro s' e X' σ'' H'' L''
      exact ⟨hlt, s', L'.leave L'' (hG _ _), h2 s' e⟩
    · intro s' e X' σ'' H'' L''
      exact ⟨hlt, s', L'.leave L'' (hG _ _), h2 s' e⟩
    · intro s' e X' σ'' H'' L''
      exact brk s' (h3 s' e) _ _ (L'.leave L'' (hG _ _))
    · intro q e v' H'' F
      exact ret q (h4 q e) v' H'' (F.leave L')
  · have : i = n := by omega
    subst this
    rw [List.drop_eq_nil_of_le (by omega)] at hm'
    exact .inl ⟨Nat.le_refl _, done s (Option.some.inj hm').symm _ _ L'⟩
theorem x_foD {f : Int → τ → Option τ} {G : τ → List Sl} {s0 : τ} {lo : Int} {n : Nat} {g : TG} {tb : TS} {nx bk ct : L2.St → Hp → Prop} {rt : VK} {k : τ → Option ρ} {res : ρ}
    (L : Lo C X H σ (G s0)) (hG : ∀ s s', muts (G s) = muts (G s')) (hm : (foldO f (downL lo n) s0).bind k = some res)
    (body : ∀ x s, BodyO C X G (enc x) s (f x s) g tb) (done : ∀ s σ' H', k s = some res → Lo C X H' σ' (G s) → nx σ' H') : KForC lo (-1) n g tb ⟨nx, rt, bk, ct⟩ σ H := by
  obtain ⟨s1, h1, h2⟩ := ob hm
  exact x_forD (ρ := Empty) (o := .nxt s1) (ps := fun _ => []) (rs := fun _ => .imm .none) L hG (foldO_loop h1) (fun x s => (body x s).body) (fun s e σ' H' L' => by cases e; exact done _ _ _ h2 L') (fun s e => nomatch e) (fun q => nomatch q)
/-! a list of the body's own is walked over, and stays -/
theorem muts_set {s s' : Sl} {p : Addr} (e1 : s.ad = none) (e2 : s'.ad = some p) : ∀ {Γ : List Sl} {i : Nat}, Γ[i]? = some s → (muts (Γ.set i s')).Perm (p :: muts Γ)
  | [], _, h => by simp at h
  | t :: Γ, 0, h => by
    simp at h; subst h
    show (List.filterMap _ _).Perm (p :: List.filterMap _ _)
    rw [List.set_cons_zero, List.filterMap_cons, List.filterMap_cons, e1, e2]
  | t :: Γ, i + 1, h => by
    have ih := muts_set e1 e2 (Γ := Γ) (i := i) (by simpa using h)
    unfold muts at ih ⊢
    rw [List.set_cons_succ, List.filterMap_cons, List.filterMap_cons]
    cases t.ad with
    | none => exact ih
    | some q => exact (ih.cons q).trans (List.Perm.swap p q _)
theorem set_back {i : Nat} {s s' : Sl} {Γ : List Sl} (h : Γ[i]? = some s) : (Γ.set i s').set i s = Γ := by
  rw [List.set_set]
  exact List.ext_getElem? fun k => by
    rw [List.getElem?_set]
    split
    · next z =>
      subst z
      rw [if_pos (List.getElem?_eq_some_iff.mp h).1, h]
    · rfl
theorem Lo.unmu {i : Nat} {p : Addr} {o : MO} (L : Lo C X H σ Γ) (g : Γ[i]? = some (.mu p o)) : Lo C X H σ (Γ.set i (.ref p)) ∧ p ∉ muts (Γ.set i (.ref p)) := by
  have hil := (List.getElem?_eq_some_iff.mp g).1
  have hp := muts_set (s := .ref p) (s' := .mu p o) (p := p) rfl rfl (Γ := Γ.set i (.ref p)) (i := i) (by rw [List.getElem?_set_self hil])
  rw [set_back g] at hp
  have nd := hp.nodup_iff.mp L.nd
  obtain ⟨n1, n2⟩ := List.nodup_cons.mp nd
  refine ⟨⟨L.len, fun j t hj => ?_, n2, fun q hq => L.mx q (hp.mem_iff.mpr (List.mem_cons_of_mem _ hq)), L.m0, L.xd, L.base, L.dom, fun q hq => L.own q (hp.mem_iff.mpr (List.mem_cons_of_mem _ hq)), L.tf⟩, n1⟩
  by_cases z : j = i
  · subst z
    rw [List.getElem?_set_self hil] at hj
    cases hj
    exact (L.at_ j _ g).1
  · rw [List.getElem?_set_ne (Ne.symm z)] at hj
    exact L.at_ j t hj
theorem Lo.remu {i : Nat} {p : Addr} {o : MO} (L : Lo C X H σ Γ) (g : Γ[i]? = some (.ref p)) (n : p ∉ muts Γ) (hx : X p) (ho : p ∈ C.P0 ∨ C.H0 p = none) (r : MRep C.K X H p o) : Lo C X H σ (Γ.set i (.mu p o)) := by
  have hil := (List.getElem?_eq_some_iff.mp g).1
  have hp := muts_set (s := .ref p) (s' := .mu p o) (p := p) rfl rfl g
  refine ⟨L.len, fun j t hj => ?_, hp.nodup_iff.mpr (List.nodup_cons.mpr ⟨n, L.nd⟩), fun q hq => ?_, L.m0, L.xd, L.base, L.dom, fun q hq => ?_, L.tf⟩
  · by_cases z : j = i
    · subst z
      rw [List.getElem?_set_self hil] at hj
      cases hj
      exact ⟨L.at_ j _ g, r⟩
    · rw [List.getElem?_set_ne (Ne.symm z)] at hj
      exact L.at_ j t hj
  · rcases List.mem_cons.mp (hp.mem_iff.mp hq) with z | z
    · rw [z]; exact hx
    · exact L.mx q z
  · rcases List.mem_cons.mp (hp.mem_iff.mp hq) with z | z
    · rw [z]; exact ho
    · exact L.own q z
theorem x_forM [Py α] {xs : List α} {f : α → τ → Option (Lp τ ρ)} {G : τ → List Sl} {ps : ρ → List (Addr × MO)} {rs : ρ → Rs} {s0 : τ} {o : Lp τ ρ} {i : Nat} {p : Addr} {g : TG} {tb : TS} {nx bk ct : L2.St → Hp → Prop} {rt : VK}
    (L : Lo C X H σ Γ) (g0 : Γ[i]? = some (.mu p (ml xs))) (e0 : Γ.set i (.ref p) = G s0) (hG : ∀ s s', muts (G s) = muts (G s')) (gG : ∀ s, (G s)[i]? = some (.ref p)) (hm : loopL f xs s0 = some o)
    (body : ∀ x s, Body C X G ps rs (enc x) s (f x s) g tb)
    (done : ∀ s, o = .nxt s → ∀ σ' H', Lo C X H' σ' ((G s).set i (.mu p (ml xs))) → nx σ' H') (brk : ∀ s, o = .brk s → ∀ σ' H', Lo C X H' σ' ((G s).set i (.mu p (ml xs))) → nx σ' H')
    (ret : ∀ q, o = .ret q → ∀ v H', Fin C.K C.X0 C.H0 C.P0 (ps q) (rs q) v H' → rt v H') :
    KForL C.K g tb ⟨nx, rt, bk, ct⟩ σ (.ref p) H := by
  obtain ⟨L1, np⟩ := L.unmu g0
  rw [e0] at L1 np
  obtain ⟨vs, hv, hr⟩ := L.mrep g0
  have hx : X p := L.mx p (mem_muts.mpr ⟨i, _, g0, rfl⟩)
  have ho := L.own p (mem_muts.mpr ⟨i, _, g0, rfl⟩)
  have back : ∀ s σ' H', Lo C X H' σ' (G s) → H' p = some (.lst vs) → Reps C.K X H' (xs.map enc) vs → Lo C X H' σ' ((G s).set i (.mu p (ml xs))) := fun s σ' H' M h1 h2 => M.remu (gG s) (by rw [hG s s0]; exact np) hx ho ⟨vs, h1, h2⟩
  refine ⟨p, rfl, ⟨vs, .inl (.inl hv)⟩, for_list (K := C.K) (a := p) (xs := vs) (fun i σ' H' => ∃ s, Lo C X H' σ' (G s) ∧ Reps C.K X H' (xs.map enc) vs ∧ H' p = some (.lst vs) ∧ loopL f (xs.drop i) s = some o)
    ⟨s0, L1, hr, hv, hm⟩ (fun i σ' H' _ ⟨s, _, _, h, _⟩ => .inl (.inl h)) ?_ ?_⟩
  · rintro j y σ' H' hy ⟨s, L', r', hd', hm'⟩
    obtain ⟨d, hd, rd⟩ := r'.get' hy
    rw [List.getElem?_map] at hd
    cases hx : xs[j]? with
    | none => rw [hx] at hd; cases hd
    | some x =>
      rw [hx] at hd
      cases hd
      obtain ⟨o1, h1, h2, h3, h4⟩ := loop_drop hx hm'
      have st : ∀ {X' : Addr → Prop} {σ'' : L2.St} {H'' : Hp} {s' : τ}, Lo (C.at_ X H' (G s)) X' H'' σ'' (G s') → H'' p = some (.lst vs) := fun M => M.base p _ hd' (by show p ∉ muts (G s); rw [hG s s0]; exact np)
      refine body x s H' σ' y _ _ _ _ o1 h1 L'.enter rd ?_ ?_ ?_ ?_
      · intro s' e X' σ'' H'' L''
        exact ⟨s', L'.leave L'' (hG _ _), r'.keep (L'.keep L''), st L'', h2 s' e⟩
      · intro s' e X' σ'' H'' L''
        exact ⟨s', L'.leave L'' (hG _ _), r'.keep (L'.keep L''), st L'', h2 s' e⟩
      · intro s' e X' σ'' H'' L''
        exact brk s' (h3 s' e) _ _ (back _ _ _ (L'.leave L'' (hG _ _)) (st L'') (r'.keep (L'.keep L'')))
      · intro q e v' H'' F
        exact ret q (h4 q e) v' H'' (F.leave L')
  · rintro σ' H' ⟨s, L', r', hd', hm'⟩
    rw [r'.length, List.length_map, List.drop_length] at hm'
    exact done s (Option.some.inj hm').symm _ _ (back _ _ _ L' hd' r')
theorem x_flM [Py α] {xs : List α} {f : α → τ → Option (Lp τ ρ)} {G : τ → List Sl} {ps : ρ → List (Addr × MO)} {rs : ρ → Rs} {s0 : τ} {i : Nat} {p : Addr} {g : TG} {tb : TS} {nx bk ct : L2.St → Hp → Prop} {rt : VK} {k : τ → Option β} {j : ρ → Option β} {res : β}
    (L : Lo C X H σ Γ) (g0 : Γ[i]? = some (.mu p (ml xs))) (e0 : Γ.set i (.ref p) = G s0) (hG : ∀ s s', muts (G s) = muts (G s')) (gG : ∀ s, (G s)[i]? = some (.ref p)) (hm : (loopL f xs s0).bind (fun o => o.out j k) = some res)
    (body : ∀ x s, Body C X G ps rs (enc x) s (f x s) g tb) (done : ∀ s σ' H', k s = some res → Lo C X H' σ' ((G s).set i (.mu p (ml xs))) → nx σ' H')
    (ret : ∀ q v H', j q = some res → Fin C.K C.X0 C.H0 C.P0 (ps q) (rs q) v H' → rt v H') : KForL C.K g tb ⟨nx, rt, bk, ct⟩ σ (.ref p) H := by
  obtain ⟨o, h1, h2⟩ := ob hm
  exact x_forM L g0 e0 hG gG h1 body (fun s e σ' H' L' => done _ _ _ (by rw [e] at h2; exact h2) L') (fun s e σ' H' L' => done _ _ _ (by rw [e] at h2; exact h2) L') (fun q e v H' F => ret _ _ _ (by rw [e] at h2; exact h2) F)
end
theorem Lax.dp {K : PySem.W.Frag} {q : T2 Int Int} {v : V} {H : Hp} (r : Lax K q v H) : Dp K H v (enc q) := by
  obtain ⟨a, rfl, h⟩ := r
  exact .tup h (.cons (.int _) (.cons (.int _) .nil))
/-! ### and, or: the second half may write -/
section
variable {C : Cn} {X : Addr → Prop} {H : Hp} {σ : L2.St} {Γ Γ' : List Sl} {Q : VK} {τ ρ : Type}
theorem x_andVG {A : Bool} {m : Option (Bool × τ)} {k : Bool × τ → Option ρ} {r : ρ} {u : TE} {G : τ → List Sl} {s0 : τ} (L : Lo C X H σ (G s0)) (hm : (if A = true then m else some (false, s0)).bind k = some r)
    (hu : ∀ b, m = some b → ∀ Q' : VK, (∀ X2 H2, Lo C X2 H2 σ (G b.2) → Q' (.bl b.1) H2) → u σ H Q') (h : ∀ b X2 H2, k b = some r → Lo C X2 H2 σ (G b.2) → Q (.bl b.1) H2) : KAndV u σ Q A H := by
  cases A with
  | true =>
    obtain ⟨b, e, hk⟩ := ob hm
    exact hu b e Q fun X2 H2 l => h b X2 H2 hk l
  | false => exact h (false, s0) X H hm L
theorem x_orVG {A : Bool} {m : Option (Bool × τ)} {k : Bool × τ → Option ρ} {r : ρ} {u : TE} {G : τ → List Sl} {s0 : τ} (L : Lo C X H σ (G s0)) (hm : (if A = true then some (true, s0) else m).bind k = some r)
    (hu : ∀ b, m = some b → ∀ Q' : VK, (∀ X2 H2, Lo C X2 H2 σ (G b.2) → Q' (.bl b.1) H2) → u σ H Q') (h : ∀ b X2 H2, k b = some r → Lo C X2 H2 σ (G b.2) → Q (.bl b.1) H2) : KOrV u σ Q A H := by
  cases A with
  | false =>
    obtain ⟨b, e, hk⟩ := ob hm
    exact hu b e Q fun X2 H2 l => h b X2 H2 hk l
  | true => exact h (true, s0) X H hm L
theorem x_andG {A : Bool} {m : Option (Bool × τ)} {k : Bool × τ → Option ρ} {r : ρ} {u : TT} {Q : Bool → Hp → Prop} {G : τ → List Sl} {s0 : τ} (L : Lo C X H σ (G s0)) (hm : (if A = true then m else some (false, s0)).bind k = some r)
    (hu : ∀ b, m = some b → ∀ Q' : Bool → Hp → Prop, (∀ X2 H2, Lo C X2 H2 σ (G b.2) → Q' b.1 H2) → u σ H Q') (h : ∀ b X2 H2, k b = some r → Lo C X2 H2 σ (G b.2) → Q b.1 H2) : KAnd u σ Q A H := by
  cases A with
  | true =>
    obtain ⟨b, e, hk⟩ := ob hm
    exact hu b e Q fun X2 H2 l => h b X2 H2 hk l
  | false => exact h (false, s0) X H hm L
theorem x_orG {A : Bool} {m : Option (Bool × τ)} {k : Bool × τ → Option ρ} {r : ρ} {u : TT} {Q : Bool → Hp → Prop} {G : τ → List Sl} {s0 : τ} (L : Lo C X H σ (G s0)) (hm : (if A = true then some (true, s0) else m).bind k = some r)
    (hu : ∀ b, m = some b → ∀ Q' : Bool → Hp → Prop, (∀ X2 H2, Lo C X2 H2 σ (G b.2) → Q' b.1 H2) → u σ H Q') (h : ∀ b X2 H2, k b = some r → Lo C X2 H2 σ (G b.2) → Q b.1 H2) : KOr u σ Q A H := by
  cases A with
  | false =>
    obtain ⟨b, e, hk⟩ := ob hm
    exact hu b e Q fun X2 H2 l => h b X2 H2 hk l
  | true => exact h (true, s0) X H hm L
theorem x_lfTG {G : τ → List Sl} {B : Bool} {e : τ} {b : Bool × τ} {Q' : Bool → Hp → Prop} (hm : some (B, e) = some b) (hQ : ∀ X2 H2, Lo C X2 H2 σ (G b.2) → Q' b.1 H2) (L : Lo C X H σ (G e)) : Q' B H := by cases hm; exact hQ _ _ L
theorem x_lfVG {G : τ → List Sl} {B : Bool} {e : τ} {b : Bool × τ} {Q' : VK} (hm : some (B, e) = some b) (hQ : ∀ X2 H2, Lo C X2 H2 σ (G b.2) → Q' (.bl b.1) H2) (L : Lo C X H σ (G e)) : Q' (.bl B) H := by cases hm; exact hQ _ _ L
end
/-! ### dict(a list of pairs), keys tuples -/
def mergeT (kvs : List (List L2.Key × V)) (ps : List (List L2.Key × V)) : List (List L2.Key × V) := ps.foldl (fun a p => putK a p.1 p.2) kvs
def rDictPT (K : PySem.W.Frag) : List V → Hp → VK → Prop := fun xs H Q => ∃ (a : Addr) (ps : List Addr) (kvs : List (List L2.Key × Addr × V)), xs = [.ref a] ∧ SqL K H a (ps.map V.ref) ∧ Paired (fun p (kv : List L2.Key × Addr × V) => SqT K H p [V.ref kv.2.1, kv.2.2] ∧ H kv.2.1 = some (.tup (kv.1.map kV))) ps kvs ∧
    ∀ p, H p = none → Q (.ref p) (upd H p (.dT (mergeT [] (kvs.map fun kv => (kv.1, kv.2.2)))))
section
variable {X : Cx}
theorem pairsT_of {pins : List (Addr × Obj)} {σ : L2.St} {H : Hp} {s : Shared} (I : Inv X pins σ H s) : ∀ {ps : List Addr} {kvs : List (List L2.Key × Addr × V)}, Paired (fun p (kv : List L2.Key × Addr × V) => SqT X.K H p [V.ref kv.2.1, kv.2.2] ∧ H kv.2.1 = some (.tup (kv.1.map kV))) ps kvs →
    ∃ xs : List (List L2.Key × Addr × Value), KT H (kvs.map fun kv => (kv.1, kv.2.2)) xs ∧ xs.length = ps.length ∧ ∀ (j : Nat) (q : List L2.Key × Addr × Value), xs[j]? = some q → ∃ b, ps[j]? = some b ∧ IsTup s.heap b #[Value.ref q.2.1, q.2.2]
  | _, _, .nil => ⟨[], .nil, rfl, fun j q e => by simp at e⟩
  | _, _, .cons (a := p) (b := kv) h t => by
    obtain ⟨xs, r, hl, hp⟩ := pairsT_of I t
    obtain ⟨its, rv, ht, _⟩ := I.tuple h.1
    obtain ⟨u, y, ei, ru, ry⟩ := vals2 rv
    subst ei
    obtain rfl : u = Value.ref kv.2.1 := ru
    refine ⟨(kv.1, kv.2.1, y) :: xs, .cons ⟨rfl, h.2, ry⟩ r, by rw [List.length_cons, List.length_cons, hl], fun j q e => ?_⟩
    cases j with
    | zero =>
      have e' : (kv.1, kv.2.1, y) = q := Option.some.inj e
      subst e'
      exact ⟨p, rfl, ht⟩
    | succ j =>
      obtain ⟨b, e1, e2⟩ := hp j q (by simpa using e)
      exact ⟨b, by simpa using e1, e2⟩
theorem KT_merge {H : Hp} : ∀ {ps : List (List L2.Key × V)} {xs : List (List L2.Key × Addr × Value)} {kvs : List (List L2.Key × V)} {ys : List (List L2.Key × Addr × Value)}, KT H ps xs → KT H kvs ys → KT H (mergeT kvs ps) (storedAllH ys xs)
  | _, _, _, _, .nil, r => r
  | _, _, _, _, .cons (a := p) (b := x) h t, r => by
    show KT H (mergeT (putK _ p.1 p.2) _) (storedAllH (storedH _ x.1 x.2.1 x.2.2) _)
    refine KT_merge t ?_
    rw [← h.1]
    exact r.put p.1 h.2.1 h.2.2
theorem KT_all {P : Program} {w : World} {H : Hp} {h : Heap} (ok : HOk P w H h) : ∀ {l : List (List L2.Key × V)} {m : List (List L2.Key × Addr × Value)}, KT H l m → ∀ x ∈ m, (tupleKind (mixKind P w)).is h x.1 x.2.1
  | _, _, .nil, x, hx => nomatch hx
  | _, _, .cons (b := q) hq t, x, hx => by
    rcases List.mem_cons.mp hx with e | hx
    · subst e
      exact key_of ok (by rw [← hq.1]; exact hq.2.1)
    · exact KT_all ok t x hx
theorem mergeT_len : ∀ (ps kvs : List (List L2.Key × V)), (mergeT kvs ps).length ≤ kvs.length + ps.length
  | [], kvs => Nat.le_refl _
  | p :: ps, kvs => by
    have h1 := mergeT_len ps (putK kvs p.1 p.2)
    have h2 : (putK kvs p.1 p.2).length ≤ kvs.length + 1 := by
      unfold putK
      split
      · rw [List.length_map]; omega
      · simp
    show (mergeT (putK kvs p.1 p.2) ps).length ≤ _
    rw [List.length_cons]; omega
theorem cr_dictPT (hcalm : X.calm = true) (hu : X.A.units + 64 < cLine) : CallR X (.type "dict") (rDictPT X.K) := by
  intro pins s σ H xs us Q I r q
  obtain ⟨a, ps, kvs, ex, hq, hp, q⟩ := q
  subst ex
  obtain ⟨u, eu, rx⟩ := vals1 r
  subst eu
  cases rx
  obtain ⟨its, rv, pl, hz⟩ := I.list hq
  have ei := refs_at rv
  subst ei
  rw [List.length_map] at hz
  obtain ⟨ks, rel, hl, hpr⟩ := pairsT_of I hp
  obtain ⟨prs, hprd⟩ : ∃ prs : List (Value × Value), prs = ks.map fun k => (Value.ref k.2.1, k.2.2) := ⟨_, rfl⟩
  have hpl : prs.length = ks.length := by simp [hprd]
  have hprs : ∀ (j : Nat) (k v : Value), prs[j]? = some (k, v) → ∃ q : List L2.Key × Addr × Value, ks[j]? = some q ∧ k = Value.ref q.2.1 ∧ v = q.2.2 := fun j k v e => by
    rw [hprd, List.getElem?_map] at e
    obtain ⟨q, e1, e2⟩ := Option.map_eq_some_iff.mp e
    cases e2
    exact ⟨q, e1, rfl, rfl⟩
  have stay := (tupleKind_stays (prog := X.prog) (w := X.w) (knd := mixKind X.prog X.w))
  refine call_dict_pairsH (knd := tupleKind (mixKind X.prog X.w)) (ps := ks) (PairArg.list a (ps.map Value.ref).toArray (fun j => ps.getD j 0) prs) (I.ok.hd hcalm) ?hu ⟨pl, ?ok⟩ ⟨by rw [hpl], fun i key v e => ?hv⟩ ?st ?sz fun h' tk hd' hk => ?_
  case hu => show X.A.units + 1 + 1 < cLine; omega
  case ok =>
    refine ⟨by simp [hpl, hl], fun j k v e => ?_⟩
    obtain ⟨q', e1, e2, e3⟩ := hprs j k v e
    obtain ⟨b, e4, e5⟩ := hpr j q' e1
    subst e2; subst e3
    refine ⟨by simp [e4], .inl ?_⟩
    show s.heap.IsTuple (ps.getD j 0) _
    rw [List.getD_eq_getElem?_getD, e4]
    exact e5
  case hv =>
    obtain ⟨q', e1, e2, e3⟩ := hprs i key v e
    exact ⟨q'.1, q'.2.1, by rw [e1, e3], e2⟩
  case st =>
    intro h1 hk x hx
    exact stay.stays (fun b o vs n e _ => hk b o (Nat.ne_of_lt (Heap.lt_size e)) (fun z => nomatch z) e) (KT_all I.hok rel x hx)
  case sz => rw [hpl, hl]; exact hz
  have hm : (s.heap.objs.size == sysModules) = false := beq_eq_false_iff_ne.mpr (Nat.ne_of_gt I.big)
  have hlen : (mergeT [] (kvs.map fun kv => (kv.1, kv.2.2))).length ≤ sizeLine := by
    refine Nat.le_trans (mergeT_len _ _) ?_
    have : (kvs.map fun kv => (kv.1, kv.2.2)).length = ks.length := Paired.length rel
    rw [List.length_nil, Nat.zero_add, this, hl]
    exact hz
  obtain ⟨o, es, ep, d1, d2, d3, d4, _, d5⟩ := hd'
  exact ⟨.ref s.heap.objs.size, upd H s.heap.objs.size (.dT (mergeT [] (kvs.map fun kv => (kv.1, kv.2.2)))), I.laid (t' := tk) (fun b o e => hk b o (fun z => nomatch z) e) (Nat.le_refl _) (show ObjOk X.prog X.w _ _ _ (.dT _) from ⟨hlen, hm, storedAllH [] ks, KT_merge (rel.keeps fun b ys e => by rw [upd_ne fun z => by rw [z, I.hok.fresh (Nat.le_refl _)] at e; cases e]; exact e) .nil, o, es, ep, d1, d2, d3, d4, d5⟩), rfl, q _ (I.hok.fresh (Nat.le_refl _))⟩
end
def dictM {β : Type} (ps : List (T2 (T2 Int Int) β)) : List (T2 Int Int × β) := ps.foldl (fun kvs p => dputM kvs p.a p.b) []
section
variable {C : Cn} {X : Addr → Prop} {H : Hp} {σ : L2.St} {Γ Γ' : List Sl} {Q : VK} {α β τ ρ : Type}
theorem dreps_merge [Py β] {K : PySem.W.Frag} : ∀ {ps : List (T2 (T2 Int Int) β)} {kvs : List (T2 Int Int × β)} {ws us : List (List L2.Key × V)}, DReps K X H (kvs.map fun e => (kq e.1, enc e.2)) ws → DReps K X H (ps.map fun p => (kq p.a, enc p.b)) us →
    DReps K X H ((ps.foldl (fun kvs p => dputM kvs p.a p.b) kvs).map fun e => (kq e.1, enc e.2)) (mergeT ws us)
  | [], _, _, _, r, .nil => r
  | p :: ps, _, _, _, r, .cons (v := v) h t => by
    show DReps K X H ((ps.foldl (fun kvs p => dputM kvs p.a p.b) (dputM _ p.a p.b)).map _) (mergeT (putK _ (kq p.a) v) _)
    exact dreps_merge (dreps_put r h) t
theorem pairs_rep [Py β] {K : PySem.W.Frag} : ∀ {ps : List (T2 (T2 Int Int) β)} {vs : List V}, Reps K X H (ps.map enc) vs →
    ∃ (as : List Addr) (kvs : List (List L2.Key × Addr × V)), vs = as.map V.ref ∧ Paired (fun p (kv : List L2.Key × Addr × V) => SqT K H p [V.ref kv.2.1, kv.2.2] ∧ H kv.2.1 = some (.tup (kv.1.map kV))) as kvs ∧ DReps K X H (ps.map fun p => (kq p.a, enc p.b)) (kvs.map fun kv => (kv.1, kv.2.2))
  | [], _, .nil => ⟨[], [], rfl, .nil, .nil⟩
  | p :: ps, _, .cons r t => by
    obtain ⟨as, kvs, e, h1, h2⟩ := pairs_rep t
    obtain ⟨a, us, rfl, h, q⟩ := rep_tupS (ds := [enc p.a, enc p.b]) r
    cases q with
    | cons q1 q => cases q with
      | cons q2 q =>
        cases q
        obtain ⟨b, rfl, hb⟩ := key_rep q1
        exact ⟨a :: as, (kq p.a, b, _) :: kvs, by rw [e]; rfl, .cons ⟨.inl (.inl h), hb⟩ h1, .cons q2 h2⟩
theorem x_dictP [Py β] {ps : List (T2 (T2 Int Int) β)} {v : V} (L : Lo C X H σ Γ) (r : Rep C.K X H (enc ps) v) (h : ∀ p X' H1, C.H0 p = none → ¬ C.X0 p → Lo C X' H1 σ (Γ ++ [.tmp p (md (dictM ps))]) → (∀ d u, Rep C.K X H d u → Rep C.K X' H1 d u) → Q (.ref p) H1) : rDictPT C.K [v] H Q := by
  obtain ⟨a, vs, rfl, _, hs, q⟩ := rep_lst (ds := ps.map enc) r
  obtain ⟨as, kvs, e, h1, h2⟩ := pairs_rep q
  refine ⟨a, as, kvs, rfl, .inl (by rw [← e]; exact hs), h1, fun p hp => ?_⟩
  have s : Same H (upd H p (.dT (mergeT [] (kvs.map fun kv => (kv.1, kv.2.2))))) := same_upd hp
  obtain ⟨L1, le, h0, hx⟩ := L.lay (o := md (dictM ps)) hp s ⟨_, upd_same, ((dreps_merge (kvs := []) .nil h2).more hp).keep (.same s)⟩
  exact h p _ _ h0 hx L1 le
def rListDT : List V → Hp → VK → Prop := fun xs H Q => ∃ d kvs, xs = [V.ref d] ∧ Rd H d (.dT kvs) ∧ ∀ p bs, H p = none → IsKeys H kvs bs → Q (.ref p) (upd H p (.lst (bs.map V.ref)))
theorem call_listDT {Xc : Cx} (hc : Xc.calm = true) : CallR Xc (.type "list") rListDT := call_list_dT hc
theorem x_listD [Py β] {kvs : List (T2 Int Int × β)} {i : Nat} {p : Addr} (L : Lo C X H σ Γ) (g : Γ[i]? = some (.mu p (md kvs))) (h : ∀ v H1, Lo C X H1 σ Γ → (∀ d u, Rep C.K X H d u → Rep C.K X H1 d u) → Rep C.K X H1 (enc (kvs.map (·.1))) v → Q v H1) : rListDT [.ref p] H Q := by
  obtain ⟨ws, hw, rw_⟩ := L.mrep g
  refine ⟨p, ws, rfl, .inl hw, fun q bs hq ib => ?_⟩
  obtain ⟨k1, k2⟩ := keys_of rw_ ib
  have s : Same H (upd H q (.lst (bs.map V.ref))) := same_upd hq
  have rp : Reps C.K X H ((kvs.map (·.1)).map enc) (bs.map V.ref) := by
    have := reps_keys (K := C.K) (X := X) (H := H) (ys := bs.map V.ref) fun y hy => by
      obtain ⟨b, hb', rfl⟩ := List.mem_map.mp hy
      exact ⟨b, rfl, k1 b hb'⟩
    rw [List.map_map (l := bs)] at this
    rw [← k2]
    exact this
  have rr : RRep C.K X H (upd H q (.lst (bs.map V.ref))) (.new (.lst ((kvs.map (·.1)).map enc))) (.ref q) := ⟨q, rfl, hq, _, upd_same, (rp.more hq).keep (.same s)⟩
  exact h _ _ (L.same s) (fun _ _ r => r.keep (.same s)) (rr.imm L.xd)
theorem keys_rep {K : PySem.W.Frag} : ∀ {xs : List (T2 Int Int)} {vs : List V}, Reps K X H (xs.map enc) vs → (∀ y ∈ vs, ∃ b, y = .ref b ∧ H b = some (.tup [.int (kOf H y).1, .int (kOf H y).2])) ∧ vs.map (fun y => (⟨(kOf H y).1, (kOf H y).2⟩ : T2 Int Int)) = xs
  | [], _, .nil => ⟨fun _ h => (nomatch h), rfl⟩
  | x :: xs, _, .cons r t => by
    obtain ⟨h1, h2⟩ := keys_rep t
    obtain ⟨b, rfl, hb⟩ := key_rep r
    have e := kOf_at (q := x) hb
    refine ⟨fun y hy => ?_, ?_⟩
    · rcases List.mem_cons.mp hy with z | hy
      · subst z; exact ⟨b, rfl, by rw [e]; exact hb⟩
      · exact h1 y hy
    · rw [List.map_cons, h2, e]
theorem x_sortedL {xs : List (T2 Int Int)} {v : V} (L : Lo C X H σ Γ) (r : Rep C.K X H (enc xs) v) (h : ∀ v H1, Lo C X H1 σ Γ → (∀ d u, Rep C.K X H d u → Rep C.K X H1 d u) → Rep C.K X H1 (enc (sortP xs)) v → Q v H1) : rSortedPO C.K [v] H Q := by
  obtain ⟨a, vs, rfl, _, hs, q⟩ := rep_lst (ds := xs.map enc) r
  obtain ⟨k1, k2⟩ := keys_rep q
  refine ⟨a, vs, kOf H, rfl, .inl hs, fun x hx => ?_, fun ys q hs hb hq => ?_⟩
  · obtain ⟨b, e, hb⟩ := k1 x hx
    exact ⟨b, e, hb⟩
  have es : ys.map (fun y => (⟨(kOf H y).1, (kOf H y).2⟩ : T2 Int Int)) = sortP xs := by
    refine SrtO.stb_uniq lt2P_swo (SrtO.srtd_map (lt := lt2P) (f := fun y => (⟨(kOf H y).1, (kOf H y).2⟩ : T2 Int Int)) hs) (sortP_srtd _) (stb_perm ?_)
    refine ((hb.perm.map _).trans ?_).trans (sortP_perm _).symm
    rw [k2]
  have s : Same H (upd H q (.lst ys)) := same_upd hq
  have rp : Reps C.K X H ((sortP xs).map enc) ys := by
    rw [← es]
    exact reps_keys fun y hy => k1 y (hb.perm.mem_iff.mp hy)
  have rr : RRep C.K X H (upd H q (.lst ys)) (.new (.lst ((sortP xs).map enc))) (.ref q) := ⟨q, rfl, hq, ys, upd_same, (rp.more hq).keep (.same s)⟩
  exact h _ _ (L.same s) (fun _ _ r => r.keep (.same s)) (rr.imm L.xd)
end
/-! ### what forbids tells -/
inductive Fb where
  | non
  | area (p q : T2 Int Int)
  | mark (d p q : T2 Int Int)
  deriving DecidableEq
instance : Py Fb := ⟨fun x => match x with
  | .non => .none
  | .area p q => .tuple [.str "area", enc p, enc q]
  | .mark d p q => .tuple [.str "mark", enc d, enc p, enc q]⟩
instance : PyE Fb where
  d := PyE.d (T2 Int Int) + 1
  eqv := fun x y => by
    cases x <;> cases y
    case non.non => rfl
    case area.area p q p' q' =>
      show PyData.eqv (.tuple [.str "area", enc p, enc q]) (.tuple [.str "area", enc p', enc q']) = _
      rw [eqv_tup, eqvAll_cons, eqvAll_cons, eqvAll_cons, eqvAll_nil, PyE.eqv, PyE.eqv]
      by_cases h1 : p = p' <;> by_cases h2 : q = q' <;> simp [h1, h2, PyData.eqv]
    case mark.mark d p q d' p' q' =>
      show PyData.eqv (.tuple [.str "mark", enc d, enc p, enc q]) (.tuple [.str "mark", enc d', enc p', enc q']) = _
      rw [eqv_tup, eqvAll_cons, eqvAll_cons, eqvAll_cons, eqvAll_cons, eqvAll_nil, PyE.eqv, PyE.eqv, PyE.eqv]
      by_cases h0 : d = d' <;> by_cases h1 : p = p' <;> by_cases h2 : q = q' <;> simp [h0, h1, h2, PyData.eqv]
    case area.mark p q d' p' q' =>
      show PyData.eqv (.tuple [.str "area", enc p, enc q]) (.tuple [.str "mark", enc d', enc p', enc q']) = _
      rw [eqv_tup, eqvAll_cons]
      unfold PyData.eqv
      rw [show ((Str.ofString "area" == Str.ofString "mark") = false) from by decide +kernel]; rfl
    case mark.area p q d' p' q' =>
      show PyData.eqv (.tuple [.str "mark", enc p, enc q, enc d']) (.tuple [.str "area", enc p', enc q']) = _
      rw [eqv_tup, eqvAll_cons]
      unfold PyData.eqv
      rw [show ((Str.ofString "mark" == Str.ofString "area") = false) from by decide +kernel]; rfl
    all_goals (first | (show PyData.eqv .none (.tuple _) = _; unfold PyData.eqv; simp) | (show PyData.eqv (.tuple _) .none = _; unfold PyData.eqv; simp))
  lay := fun x => by
    cases x
    · rfl
    · rename_i p q
      show PyData.canLay0 (.tuple [.str "area", enc p, enc q]) = true
      rw [lay_tup, layAll_cons, layAll_cons, layAll_cons, layAll_nil, PyE.lay, PyE.lay, show PyData.canLay0 (.str "area") = true by decide +kernel]; rfl
    · rename_i d p q
      show PyData.canLay0 (.tuple [.str "mark", enc d, enc p, enc q]) = true
      rw [lay_tup, layAll_cons, layAll_cons, layAll_cons, layAll_cons, layAll_nil, PyE.lay, PyE.lay, PyE.lay, show PyData.canLay0 (.str "mark") = true by decide +kernel]; rfl
  dep := fun x => by
    cases x
    · exact Nat.zero_le _
    · rename_i p q
      show PyData.depth (.tuple [.str "area", enc p, enc q]) ≤ _
      rw [dep_tup, depAll_cons, depAll_cons, depAll_cons, depAll_nil]
      have := PyE.dep p
      have := PyE.dep q
      have : PyData.depth (.str "area") = 0 := rfl
      omega
    · rename_i d p q
      show PyData.depth (.tuple [.str "mark", enc d, enc p, enc q]) ≤ _
      rw [dep_tup, depAll_cons, depAll_cons, depAll_cons, depAll_cons, depAll_nil]
      have := PyE.dep p
      have := PyE.dep q
      have := PyE.dep d
      have : PyData.depth (.str "mark") = 0 := rfl
      omega
def FbR (K : PySem.W.Frag) (f : Fb) (v : V) (H : Hp) : Prop := match f with
  | .non => v = .non
  | .area p q => ∃ a b c, v = .ref a ∧ H a = some (.tup [.str "area", b, c]) ∧ Lax K p b H ∧ Lax K q c H
  | .mark d p q => ∃ a x b c, v = .ref a ∧ H a = some (.tup [.str "mark", x, b, c]) ∧ Lax K d x H ∧ Lax K p b H ∧ Lax K q c H
theorem Lax.same {K : PySem.W.Frag} {q : T2 Int Int} {v : V} {H H' : Hp} (s : Same H H') (r : Lax K q v H) : Lax K q v H' := by
  obtain ⟨a, e, h⟩ := r
  refine ⟨a, e, ?_⟩
  rcases h with (h | ⟨o, h⟩) | h
  · exact .inl (.inl (s _ _ h))
  · exact .inl (.inr ⟨o, s _ _ h⟩)
  · exact .inr h
theorem FbR.same {K : PySem.W.Frag} {f : Fb} {v : V} {H H' : Hp} (s : Same H H') (r : FbR K f v H) : FbR K f v H' := by
  cases f with
  | non => exact r
  | area p q =>
    obtain ⟨a, b, c, e, h, l1, l2⟩ := r
    exact ⟨a, b, c, e, s _ _ h, l1.same s, l2.same s⟩
  | mark d p q =>
    obtain ⟨a, x, b, c, e, h, l0, l1, l2⟩ := r
    exact ⟨a, x, b, c, e, s _ _ h, l0.same s, l1.same s, l2.same s⟩
theorem FbR.dp {K : PySem.W.Frag} {f : Fb} {v : V} {H : Hp} (r : FbR K f v H) : Dp K H v (enc f) := by
  cases f with
  | non =>
    obtain rfl : v = .non := r
    exact .non
  | area p q =>
    obtain ⟨a, b, c, rfl, h, l1, l2⟩ := r
    exact .tup (.inl (.inl h)) (.cons (.str _) (.cons l1.dp (.cons l2.dp .nil)))
  | mark d p q =>
    obtain ⟨a, x, b, c, rfl, h, l0, l1, l2⟩ := r
    exact .tup (.inl (.inl h)) (.cons (.str _) (.cons l0.dp (.cons l1.dp (.cons l2.dp .nil))))
theorem FbR.mkA {K : PySem.W.Frag} {p q : T2 Int Int} {a : Addr} {b c : V} {H : Hp} (h : H a = some (.tup [.str "area", b, c])) (l1 : Lax K p b H) (l2 : Lax K q c H) : FbR K (.area p q) (.ref a) H := ⟨a, b, c, rfl, h, l1, l2⟩
theorem FbR.mkM {K : PySem.W.Frag} {d p q : T2 Int Int} {a : Addr} {x b c : V} {H : Hp} (h : H a = some (.tup [.str "mark", x, b, c])) (l0 : Lax K d x H) (l1 : Lax K p b H) (l2 : Lax K q c H) : FbR K (.mark d p q) (.ref a) H := ⟨a, x, b, c, rfl, h, l0, l1, l2⟩
section
variable {C : Cn} {X : Addr → Prop} {H : Hp} {σ : L2.St} {Γ Γ' : List Sl} {Q : VK}
theorem x_mkTR {vs : List V} (L : Lo C X H σ Γ) (hl : vs.length ≤ 16777216) (h : ∀ p H1, Same H H1 → Lo C X H1 σ Γ → H1 p = some (.tup vs) → Q (.ref p) H1) : KTup Q vs H := by
  refine ⟨by rw [line_eq]; exact hl, fun p hp => ?_⟩
  have s : Same H (upd H p (.tup vs)) := same_upd hp
  exact h p _ s (L.same s) upd_same
theorem k0R {v : V} {H' : Hp} {R : V → Hp → Prop} {ps : List (Addr × MO)} {G : Prop} (L : Lo C X H σ Γ) (F : Fin C.K X H [] ps (.raw R) v H') (h : Lo C X H' σ Γ → (∀ d u, Rep C.K X H d u → Rep C.K X H' d u) → R v H' → G) : G := h (L.after0 F).1 (L.after0 F).2 F.res
end
section
variable {H : Hp} {Q : VK} {α : Type}
theorem x_eqdK {K : PySem.W.Frag} [Py α] [DecidableEq α] [PyE α] {x y : α} {u v : V} (r : Dp K H u (enc x)) (q : Dp K H v (enc y)) (h64 : PyE.d α ≤ 64) (h : Q (.bl (decide (x = y))) H) : rEqD K u v H Q :=
  x_eqd (C := ⟨K, fun _ => False, H, [], 0⟩) r q h64 h
theorem x_nedK {K : PySem.W.Frag} [Py α] [DecidableEq α] [PyE α] {x y : α} {u v : V} (r : Dp K H u (enc x)) (q : Dp K H v (enc y)) (h64 : PyE.d α ≤ 64) (h : Q (.bl (!decide (x = y))) H) : rNeD K u v H Q :=
  x_ned (C := ⟨K, fun _ => False, H, [], 0⟩) r q h64 h
end
/-! ### for .. in zip(xs, ys); xs.insert(i, x); range by two -/
def zipO {α β : Type} (xs : List α) (ys : List β) : Option (List (T2 α β)) := if xs.length = ys.length then some (List.zipWith T2.mk xs ys) else none
def insO {α : Type} (xs : List α) (i : Int) (y : α) : Option (List α) := if 0 ≤ i ∧ i < 2 ^ 62 ∧ xs.length + 1 ≤ 16777216 then some (xs.take i.toNat ++ [y] ++ xs.drop i.toNat) else none
def twoL (lo : Int) (n : Nat) : List Int := (List.range n).map fun (k : Nat) => lo + (k : Int) * 2
def KForZ (K : PySem.W.Frag) (g : TG) (tb : TS) (D : Ends) (σ : L2.St) : List V → Hp → Prop := fun vs H => ∃ a b xs ys, vs = [.ref a, .ref b] ∧ SqL K H a xs ∧ SqL K H b ys ∧ ∃ W : Nat → Nat → L2.St → Hp → Prop, (∃ m, W 0 m σ H) ∧ ∀ i m σ H, W i m σ H →
      ((Itz K a b).stop i H ∧ D.nx σ H) ∨ ((Itz K a b).go i H ∧ ∃ N : L2.St → Hp → Prop, (∀ σ' H', N σ' H' → ∃ m', m' < m ∧ W (i + 1) m' σ' H') ∧ ∀ v H', (Itz K a b).yld i H v H' → g v σ H' fun σ2 H2 => tb { D with nx := N, ct := N, bk := D.nx } σ2 H2)
section
variable {C : Cn} {X : Addr → Prop} {H : Hp} {σ : L2.St} {Γ Γ' : List Sl} {Q : VK} {α β τ ρ : Type}
theorem x_tforZ {ta : TA} {g : TG} {tb : TS} {D : Ends} {K : PySem.W.Frag} (h : ta σ H (KForZ K g tb D σ)) : tFor (iZip K ta) g tb D σ H := h
theorem x_foZ [Py α] [Py β] {xs : List α} {ys : List β} {f : T2 α β → τ → Option τ} {G : τ → List Sl} {s0 : τ} {u v : V} {g : TG} {tb : TS} {nx bk ct : L2.St → Hp → Prop} {rt : VK} {zs : List (T2 α β)} {k : τ → Option ρ} {res : ρ}
    (hz : zipO xs ys = some zs) (L : Lo C X H σ (G s0)) (hG : ∀ s s', muts (G s) = muts (G s')) (r : Rep C.K X H (enc xs) u) (q : Rep C.K X H (enc ys) v) (hm : (foldO f zs s0).bind k = some res)
    (body : ∀ x s, BodyO C X G (enc x) s (f x s) g tb) (done : ∀ s σ' H', k s = some res → Lo C X H' σ' (G s) → nx σ' H') : KForZ C.K g tb ⟨nx, rt, bk, ct⟩ σ [u, v] H := by
  obtain ⟨s1, h1, h2⟩ := ob hm
  obtain ⟨a, vs, rfl, hna, hrd, hrs⟩ := rep_lst (ds := xs.map enc) r
  obtain ⟨b, us, rfl, hnb, hrb, hrt⟩ := rep_lst (ds := ys.map enc) q
  have hl : xs.length = ys.length := by
    unfold zipO at hz
    split at hz
    · assumption
    · cases hz
  have hz2 : zs = List.zipWith T2.mk xs ys := by
    unfold zipO at hz
    rw [if_pos hl] at hz
    exact (Option.some.inj hz).symm
  subst hz2
  have e1 : vs.length = xs.length := by rw [hrs.length, List.length_map]
  have e2 : us.length = ys.length := by rw [hrt.length, List.length_map]
  have hlz : (List.zipWith T2.mk xs ys).length = xs.length := by rw [List.length_zipWith, hl]; exact Nat.min_self _
  have hm' := foldO_loop h1
  refine ⟨a, b, vs, us, rfl, .inl hrd, .inl hrb, RZ.for_zipL (K := C.K) (a := a) (b := b) (xs := vs) (ys := us) (by omega) (fun i σ' H' => ∃ s, Lo C X H' σ' (G s) ∧ Reps C.K X H' (xs.map enc) vs ∧ Reps C.K X H' (ys.map enc) us ∧ Rd H' a (.lst vs) ∧ Rd H' b (.lst us) ∧ loopL (ρ := Empty) (fun x s => (f x s).bind fun s' => some (.nxt s')) ((List.zipWith T2.mk xs ys).drop i) s = some (.nxt s1))
    ⟨s0, L, hrs, hrt, hrd, hrb, hm'⟩ (fun i σ' H' ⟨s, _, _, _, h, h', _⟩ => ⟨.inl h, .inl h'⟩) ?_ ?_⟩
  · rintro i y w T σ' H' hy hw ⟨s, L', r', q', hd, hd', hm''⟩ hT
    obtain ⟨d, hd1, rd⟩ := r'.get' hy
    obtain ⟨d', hd2, rd'⟩ := q'.get' hw
    rw [List.getElem?_map] at hd1 hd2
    cases hx : xs[i]? with
    | none => rw [hx] at hd1; cases hd1
    | some x =>
    cases hx' : ys[i]? with
    | none => rw [hx'] at hd2; cases hd2
    | some x' =>
      rw [hx] at hd1
      rw [hx'] at hd2
      cases hd1
      cases hd2
      have hzi : (List.zipWith T2.mk xs ys)[i]? = some (T2.mk x x') := by rw [List.getElem?_zipWith, hx, hx']
      obtain ⟨o1, g1, g2, g3, g4⟩ := loop_drop hzi hm''
      have sT : Same H' (upd H' T (.tup [y, w])) := same_upd hT
      have LT := L'.same sT
      have rT : Rep C.K X (upd H' T (.tup [y, w])) (enc (T2.mk x x')) (.ref T) := .tup upd_same (.cons (rd.keep (.same sT)) (.cons (rd'.keep (.same sT)) .nil))
      have rT1 := r'.keep (.same sT)
      have rT2 := q'.keep (.same sT)
      have kd : ∀ {c : Addr} {ws : List V}, Rd H' c (.lst ws) → Rd (upd H' T (.tup [y, w])) c (.lst ws) := fun h => h.elim (fun h => .inl (sT _ _ h)) fun ⟨o, h⟩ => .inr ⟨o, sT _ _ h⟩
      refine (body (T2.mk x x') s).body _ σ' _ _ _ _ _ o1 g1 LT.enter rT ?_ ?_ ?_ ?_
      · intro s' e X' σ'' H'' L''
        have k := LT.keep L''
        exact ⟨s', LT.leave L'' (hG _ _), rT1.keep k, rT2.keep k, k.rd hna (kd hd), k.rd hnb (kd hd'), g2 s' e⟩
      · intro s' e X' σ'' H'' L''
        have k := LT.keep L''
        exact ⟨s', LT.leave L'' (hG _ _), rT1.keep k, rT2.keep k, k.rd hna (kd hd), k.rd hnb (kd hd'), g2 s' e⟩
      · intro s' e
        have := g3 s' e
        cases this
      · intro q e
        exact q.elim
  · rintro σ' H' ⟨s, L', _, _, _, _, hm''⟩
    rw [List.drop_eq_nil_of_le (by omega)] at hm''
    have e : s = s1 := by
      have : (some (Lp.nxt s) : Option (Lp τ Empty)) = some (.nxt s1) := hm''
      cases this; rfl
    subst e
    exact done _ _ _ h2 L'
def rInsert : V → List V → Hp → VK → Prop := fun x vs H Q => ∃ (l : Addr) (xs : List V) (i : Int) (y : V), x = .ref l ∧ vs = [.int i, y] ∧ H l = some (.lst xs) ∧ xs.length < sizeLine ∧ 0 ≤ i ∧ i < 2 ^ 63 ∧ Q .non (upd H l (.lst (xs.take i.toNat ++ [y] ++ xs.drop i.toNat)))
theorem mt_insertX {Xc : Cx} : MtR Xc "list.insert" rInsert := mt_insert
theorem x_insert [Py α] {G' : List α → List Sl} {xs : List α} {x : α} {n : Int} {v : V} {i : Nat} {p : Addr} {k : List α → Option ρ} {r : ρ} (L : Lo C X H σ Γ) (g : Γ[i]? = some (.mu p (ml xs))) (hm : (insO xs n x).bind k = some r) (q : Rep C.K X H (enc x) v) (e : ∀ ys, Γ.set i (.mu p (ml ys)) = G' ys)
    (h : ∀ ys H1, k ys = some r → Lo C X H1 σ (G' ys) → (∀ d u, Rep C.K X H d u → Rep C.K X H1 d u) → Q .non H1) : rInsert (.ref p) [.int n, v] H Q := by
  obtain ⟨zs, h1, hk⟩ := ob hm
  unfold insO at h1
  split at h1
  next hc =>
    cases h1
    obtain ⟨vs, hs, rs⟩ := L.mrep g
    have hlen : vs.length = xs.length := by rw [rs.length, List.length_map]
    obtain ⟨L1, le⟩ := L.write (es := (xs.take n.toNat ++ [x] ++ xs.drop n.toNat).map enc) (ws := vs.take n.toNat ++ [v] ++ vs.drop n.toNat) g hs (by
      rw [List.map_append, List.map_append, List.map_take, List.map_drop]
      exact ((rs.take n.toNat).append (.cons q .nil)).append (rs.drop n.toNat))
    rw [e] at L1
    exact ⟨p, vs, n, v, rfl, rfl, hs, by rw [line_eq]; omega, hc.1, by omega, h _ _ hk L1 le⟩
  · cases h1
theorem x_r3two {a b : Int} {R : Int → Int → Nat → Hp → Prop} {k : Unit → Option ρ} {r : ρ} (hm : ((rngOk a).bind fun _ => rngOk b).bind k = some r) (h : k () = some r → R a 2 ((b - a + 1) / 2).toNat H) : KRng3 R [.int a, .int b, .int 2] H := by
  obtain ⟨_, h0, hk⟩ := ob hm
  obtain ⟨_, h1, h2⟩ := ob h0
  have a1 : -(2 ^ 62) ≤ a ∧ a < 2 ^ 62 := by
    unfold rngOk at h1
    split at h1
    · omega
    · cases h1
  have a2 : -(2 ^ 62) ≤ b ∧ b < 2 ^ 62 := by
    unfold rngOk at h2
    split at h2
    · omega
    · cases h2
  have rs : Builtin.Range.rangeSize a b 2 = (((b - a + 1) / 2).toNat : Int) := by
    unfold Builtin.Range.rangeSize
    simp only [show ((2 : Int) > 0) by decide, if_true]
    split <;> omega
  refine ⟨a, b, 2, _, rfl, ⟨by decide, by decide, ?_, rs⟩, h hk⟩
  unfold Builtin.Range.small
  rw [rs]
  simp only [Builtin.Range.rangeFitsLong, Bool.and_eq_true, Bool.or_eq_true, decide_eq_true_eq, beq_iff_eq, show ((2 : Int) > 0) by decide, if_true]
  omega
theorem x_foTwo {f : Int → τ → Option τ} {G : τ → List Sl} {s0 : τ} {lo : Int} {n : Nat} {g : TG} {tb : TS} {nx bk ct : L2.St → Hp → Prop} {rt : VK} {k : τ → Option ρ} {res : ρ}
    (L : Lo C X H σ (G s0)) (hG : ∀ s s', muts (G s) = muts (G s')) (hm : (foldO f (twoL lo n) s0).bind k = some res)
    (body : ∀ x s, BodyO C X G (enc x) s (f x s) g tb) (done : ∀ s σ' H', k s = some res → Lo C X H' σ' (G s) → nx σ' H') : KForC lo 2 n g tb ⟨nx, rt, bk, ct⟩ σ H := by
  obtain ⟨s1, h1, h2⟩ := ob hm
  have hm1 := foldO_loop h1
  have hlen : (twoL lo n).length = n := by unfold twoL; rw [List.length_map, List.length_range]
  refine ⟨fun i m σ' H' => m = n - i ∧ i ≤ n ∧ ∃ s, Lo C X H' σ' (G s) ∧ loopL (ρ := Empty) (fun x s => (f x s).bind fun s' => some (.nxt s')) ((twoL lo n).drop i) s = some (.nxt s1), ⟨n, by simp, Nat.zero_le _, s0, L, hm1⟩, ?_⟩
  rintro i m σ' H' ⟨rfl, hi, s, L', hm'⟩
  by_cases hlt : i < n
  · refine .inr ⟨hlt, fun σ'' H'' => i + 1 ≤ n ∧ ∃ s, Lo C X H'' σ'' (G s) ∧ loopL (ρ := Empty) (fun x s => (f x s).bind fun s' => some (.nxt s')) ((twoL lo n).drop (i + 1)) s = some (.nxt s1), fun σ'' H'' p' => ⟨n - (i + 1), by omega, rfl, p'⟩, ?_⟩
    rintro v H2 ⟨rfl, rfl⟩
    have hx : (twoL lo n)[i]? = some (lo + (i : Int) * 2) := by
      unfold twoL
      rw [List.getElem?_map, List.getElem?_range hlt]; rfl
    obtain ⟨o1, g1, g2, g3, g4⟩ := loop_drop hx hm'
    refine (body _ s).body _ σ' _ _ _ _ _ o1 g1 L'.enter (.int _) ?_ ?_ ?_ ?_
    · intro s' e X' σ'' H'' L''
      exact ⟨hlt, s', L'.leave L'' (hG _ _), g2 s' e⟩
    · intro s' e X' σ'' H'' L''
      exact ⟨hlt, s', L'.leave L'' (hG _ _), g2 s' e⟩
    · intro s' e
      have := g3 s' e
      cases this
    · intro q e
      exact q.elim
  · have : i = n := by omega
    subst this
    rw [List.drop_eq_nil_of_le (by omega)] at hm'
    have e : s = s1 := by
      have : (some (Lp.nxt s) : Option (Lp τ Empty)) = some (.nxt s1) := hm'
      cases this; rfl
    subst e
    exact .inl ⟨Nat.le_refl _, done _ _ _ h2 L'⟩
/-- a < b < c, c's reckoning does something -/
theorem x_chB {A : Bool} {m : Option Bool} {k : Bool → Option ρ} {r : ρ} {tc : TE} {r' : R2} {y : V} (L : Lo C X H σ Γ) (hm : (if A = true then m else some false).bind k = some r)
    (hu : ∀ b, m = some b → ∀ Q' : VK, (∀ H2, Lo C X H2 σ Γ → Q' (.bl b) H2) → tc σ H fun w H4 => r' y w H4 Q') (h : ∀ b H2, k b = some r → Lo C X H2 σ Γ → Q (.bl b) H2) : KCh tc r' σ y Q (.bl A) H := by
  refine ⟨A, rfl, ?_⟩
  cases A with
  | true =>
    obtain ⟨b, e, hk⟩ := ob hm
    exact hu b e Q fun H2 l => h b H2 hk l
  | false => exact h false H hm L
end
section
variable {C : Cn} {X : Addr → Prop} {H : Hp} {σ : L2.St} {Γ Γ' : List Sl} {Q : VK} {α β τ ρ : Type}
theorem x_catT {ds es fs : List PyData} {u v : V} (L : Lo C X H σ Γ) (r : Rep C.K X H (.tuple ds) u) (q : Rep C.K X H (.tuple es) v) (hl : ds.length + es.length ≤ 16777216) (h1 : ds ≠ []) (h2 : es ≠ []) (e : ds ++ es = fs)
    (h : ∀ w H1, Lo C X H1 σ Γ → (∀ d u, Rep C.K X H d u → Rep C.K X H1 d u) → Rep C.K X H1 (.tuple fs) w → Q w H1) : rCatT C.K u v H Q := by
  subst e
  obtain ⟨a, vs, rfl, hv, rv⟩ := rep_tupS r
  obtain ⟨b, us, rfl, hu, ru⟩ := rep_tupS q
  have l1 := rv.length
  have l2 := ru.length
  have n1 : vs ≠ [] := fun z => h1 (by subst z; exact List.eq_nil_of_length_eq_zero (by rw [← l1]; rfl))
  have n2 : us ≠ [] := fun z => h2 (by subst z; exact List.eq_nil_of_length_eq_zero (by rw [← l2]; rfl))
  refine ⟨a, b, vs, us, rfl, rfl, .inl (.inl hv), .inl (.inl hu), n1, by rw [line_eq]; omega, fun z => absurd z n2, fun _ p hp => ?_⟩
  have s : Same H (upd H p (.tup (vs ++ us))) := same_upd hp
  exact h _ _ (L.same s) (fun _ _ r => r.keep (.same s)) (.tup upd_same ((rv.append ru).keep (.same s)))
end
open Py (enc)
/-! ### dicts whose keys are tuples of tuples -/
mutual
inductive KIs (H : Hp) : NestedKey → V → Prop
  | num (i : Int) : KIs H (.num i) (.int i)
  | tup {a : Addr} {ks : List NestedKey} {vs : List V} : H a = some (.tup vs) → KAll H ks vs → KIs H (.tup ks) (.ref a)
inductive KAll (H : Hp) : List NestedKey → List V → Prop
  | nil : KAll H [] []
  | cons {k : NestedKey} {v : V} {ks : List NestedKey} {vs : List V} : KIs H k v → KAll H ks vs → KAll H (k :: ks) (v :: vs)
end
mutual
theorem KIs.real {P : Program} {w : World} {H : Hp} {h : Heap} (ok : HOk P w H h) : ∀ {k : NestedKey} {v : V} {u : Value}, KIs H k v → RelV v u → NestedIs h k u
  | _, _, _, .num i, r => by obtain ⟨t, rfl⟩ := r; exact .int i t
  | _, _, _, .tup (a := a) e al, r => by
    cases r
    obtain ⟨_, its, rv, o, ho, hc, n, hd⟩ := ok a _ e
    exact .tup ho hc hd (by simpa using KAll.real ok al rv)
theorem KAll.real {P : Program} {w : World} {H : Hp} {h : Heap} (ok : HOk P w H h) : ∀ {ks : List NestedKey} {vs : List V} {us : List Value}, KAll H ks vs → Vals vs us → NestedAll h ks us
  | _, _, _, .nil, .nil => .nil
  | _, _, _, .cons a b, .cons r t => .cons (KIs.real ok a r) (KAll.real ok b t)
end
abbrev NXs : Type := List (NestedKey × Addr × Value)
def NR (P : Program) (w : World) (a : Addr) (xs : NXs) (h : Heap) : Prop := (a == sysModules) = false ∧ xs.length ≤ sizeLine ∧ ∃ o es ep, h.get? a = some o ∧ o.ExactDict ∧ o.data = .dict es ep ∧ es.toList = xs.map (entryOfKey (nestedKind P w))
def NdO (P : Program) (w : World) (a : Addr) (xs : NXs) : HO := .ext (NR P w a xs)
theorem nd_new {P : Program} {w : World} {H : Hp} {h : Heap} {a : Addr} {xs : NXs} (r : NR P w a xs h) : ObjOk P w H h a (NdO P w a xs) := by
  obtain ⟨z, l, o, es, ep, ho, q⟩ := id r
  exact ⟨r, ⟨o, ho⟩, fun h1 h2 ⟨z, l, o, es, ep, ho, q⟩ k => ⟨z, l, o, es, ep, k o ho, q⟩⟩
def NKeys (H : Hp) (xs : NXs) : Prop := (∀ x ∈ xs, KIs H x.1 (.ref x.2.1) ∧ x.1.depth ≤ 8) ∧ (xs.map (·.1)).Nodup
def RdN (P : Program) (w : World) (H : Hp) (a : Addr) (xs : NXs) : Prop := H a = some (NdO P w a xs) ∨ ∃ o, H a = some (.frz o (NdO P w a xs))
theorem nd_of {P : Program} {w : World} {H : Hp} {h : Heap} {a : Addr} {xs : NXs} (ok : HOk P w H h) (e : RdN P w H a xs) (k : NKeys H xs) : (a == sysModules) = false ∧ xs.length ≤ sizeLine ∧ h.DictOfH (nestedKind P w) a xs := by
  have r : NR P w a xs h := by
    rcases e with e | ⟨o, e⟩
    · exact (ok a _ e).1
    · exact (ok a _ e).2.1
  obtain ⟨z, l, o, es, ep, ho, hx, hd, he⟩ := r
  exact ⟨z, l, o, es, ep, ho, hx, hd, he, fun x hx' => ⟨KIs.real ok (k.1 x hx').1 rfl, (k.1 x hx').2⟩, k.2⟩
theorem nr_of {P : Program} {w : World} {h : Heap} {a : Addr} {xs : NXs} (z : (a == sysModules) = false) (l : xs.length ≤ sizeLine) (d : h.DictOfH (nestedKind P w) a xs) : NR P w a xs h := by
  obtain ⟨o, es, ep, ho, hx, hd, he, _⟩ := d
  exact ⟨z, l, o, es, ep, ho, hx, hd, he⟩
theorem nd_key {P : Program} {w : World} {H : Hp} {h : Heap} {k : NestedKey} {b : Addr} (ok : HOk P w H h) (q : KIs H k (.ref b)) (d : k.depth ≤ 8) : (nestedKind P w).is h k b := ⟨KIs.real ok q rfl, d⟩
/-- {} -/
def tNNew (P : Program) (w : World) : TE := fun _ H Q => ∀ p, H p = none → Q (.ref p) (upd H p (NdO P w p []))
/-- what a key tells -/
def NGet (P : Program) (w : World) (H : Hp) (a : Addr) (y : V) (o : Option V) : Prop := ∃ xs k b, RdN P w H a xs ∧ NKeys H xs ∧ y = .ref b ∧ KIs H k (.ref b) ∧ k.depth ≤ 8 ∧ RelO o ((atKey xs k).map (·.2))
def IsN (P : Program) (w : World) (H : Hp) (a : Addr) : Prop := ∃ xs, RdN P w H a xs ∧ NKeys H xs
def tNGet (P : Program) (w : World) (td ty : TE) : TE := fun σ H Q => td σ H fun x H1 => ty σ H1 fun y H2 => ∃ a v, x = .ref a ∧ NGet P w H2 a y (some v) ∧ Q v H2
def tNGet2 (P : Program) (w : World) (td ty tx : TE) : TE := fun σ H Q => td σ H fun x H1 => ∃ a, x = .ref a ∧ IsN P w H1 a ∧ ty σ H1 fun y H2 => tx σ H2 fun z H3 => ∃ o, NGet P w H3 a y o ∧ Q (o.getD z) H3
def sNPut (P : Program) (w : World) (td ty tv : TE) : TS := fun D σ H => tv σ H fun v H1 => td σ H1 fun x H2 => ty σ H2 fun y H3 => ∃ a xs k b, x = .ref a ∧ H3 a = some (NdO P w a xs) ∧ NKeys H3 xs ∧ y = .ref b ∧ KIs H3 k (.ref b) ∧ k.depth ≤ 8 ∧ xs.length < sizeLine ∧ ∀ r : Value, RelV v r → D.nx σ (upd H3 a (NdO P w a (storedH xs k b r)))
section
variable {X : Cx} {o i e f value : Expr} {pos pos' apos cpos : Pos} {td ty tx tv : TE}
theorem pe_nnew : PE X (.Dict [] [] pos) (tNNew X.prog X.w) := ⟨fun pins s σ H Q I h =>
  wpAny_Dict_empty ⟨.ref s.heap.objs.size, _, I.laid (a := s.heap.objs.size) (o := NdO X.prog X.w s.heap.objs.size []) (t' := s.toks) (fun _ _ q => Heap.get?_push_of_some _ q) (Nat.le_refl _)
    (nd_new ⟨beq_eq_false_iff_ne.mpr (Ne.symm (Nat.ne_of_lt I.big)), Nat.zero_le _, _, #[], 0, Heap.get?_push_size _ rfl, ⟨rfl, rfl, rfl⟩, rfl, rfl⟩), rfl, h _ (I.hok.fresh (Nat.le_refl _))⟩⟩
theorem nroom {A : Around} (hu : A.units + 65 < cLine) {P : Program} {w : World} : (nestedKind P w).room A.in1 := by
  show A.units + 1 + 8 < cLine
  omega
theorem ndict_typeIs {pins : List (Addr × Obj)} {σ : L2.St} {H : Hp} {s : Shared} {a : Addr} (I : Inv X pins σ H s) (d : IsN X.prog X.w H a) :
    s.TypeIs (.ref a) "dict" ∧ (∀ b, Value.ref a = .ref b → ∃ ob, s.heap.get? b = some ob ∧ ob.dict = none) := by
  obtain ⟨xs, e, k⟩ := d
  obtain ⟨z, l, dd⟩ := nd_of I.hok e k
  refine ⟨dd.typeIs, fun b q => ?_⟩
  cases q
  obtain ⟨ob, _, _, h1, h2, _⟩ := dd
  exact ⟨ob, h1, h2.2.1⟩
theorem NGet.is {P : Program} {w : World} {H : Hp} {a : Addr} {y : V} {o : Option V} (g : NGet P w H a y o) : IsN P w H a := by
  obtain ⟨xs, _, _, e, k, _⟩ := g
  exact ⟨xs, e, k⟩
theorem pe_nget (hu : X.A.units + 65 < cLine) (ho : PE X o td) (hi : PE X i ty) (hs : NoSl i) : PE X (.Subscript o i pos) (tNGet X.prog X.w td ty) := by
  refine ⟨fun pins s σ H Q I h => ?_⟩
  refine subD_of PySem.F.slot_dict_getitem.lookup hs (thn (ho.run pins s σ H _ I h) fun u s1 ⟨x, H1, I1, rx, q1⟩ => thn (hi.run pins s1 σ H1 _ I1 q1) fun iv s2 ⟨y, H2, I2, ry, a, v, ex, g, q2⟩ => ?_)
  subst ex
  obtain rfl : u = Value.ref a := rx
  refine ⟨(ndict_typeIs I2 g.is).1, ?_⟩
  obtain ⟨xs, k, b, e, nk, ey, kb, kd, l⟩ := g
  subst ey
  cases (show iv = Value.ref b from ry)
  obtain ⟨z, _, dd⟩ := nd_of I2.hok e nk
  obtain ⟨w', hw, rw'⟩ := RelO.some_of (v := v) (o := (atKey xs k).map (·.2)) l
  obtain ⟨p, hp, hp2⟩ := Option.map_eq_some_iff.mp hw
  refine wpAny_getItem_heap (nroom hu) (nd_key I2.hok kb kd) dd hp ?_
  rw [hp2]
  exact ⟨v, H2, I2.tok _, rw', q2⟩
theorem pe_ngetK {P : Program} {w : World} (hp : X.prog = P) (hw : X.w = w) (hu : X.A.units + 65 < cLine) (ho : PE X o td) (hi : PE X i ty) (hs : NoSl i) : PE X (.Subscript o i pos) (tNGet P w td ty) := by
  subst hp hw
  exact pe_nget hu ho hi hs
theorem pe_nget2 (hu : X.A.units + 65 < cLine) (ho : PE X o td) (he : PE X e ty) (hf : PE X f tx) (m : M2 X o "get" apos e f cpos) : PE X (.Call (.Attribute o "get" apos) [e, f] [] cpos) (tNGet2 X.prog X.w td ty tx) := by
  refine ⟨fun pins s σ H Q I h => ?_⟩
  refine wpAny_Call_method m.base m.few m.line PySem.F.plainAttrs_dict PySem.F.slot_dict_get PySem.F.type_dict_get (thn (ho.run pins s σ H _ I h) fun u s1 ⟨x, H1, I1, rx, a, ex, d, q1⟩ => ?_)
  subst ex
  obtain rfl : u = Value.ref a := rx
  obtain ⟨t1, t2⟩ := ndict_typeIs I1 d
  refine ⟨t1, t2, ?_⟩
  rw [m.trees]
  refine Calls.callWith_builtin rfl (Calls.evalArgs_plain (Calls.spliced_cons (thn (he.run pins s1 σ H1 _ I1 q1) fun iv s2 ⟨y, H2, I2, ry, q2⟩ =>
    Calls.spliced_cons (thn (hf.run pins s2 σ H2 _ I2 q2) fun fv s3 ⟨z, H3, I3, rz, ov, g, q3⟩ => Calls.spliced_nil ?_))))
  obtain ⟨xs, k, b, e', nk, ey, kb, kd, l⟩ := g
  subst ey
  cases (show iv = Value.ref b from ry)
  obtain ⟨zs, _, dd⟩ := nd_of I3.hok e' nk
  refine call_meetsIn PySem.F.slot_dict_get dd.typeIs PySem.F.entry_dict_get (PySem.F.args_dict_get_3 _ _ _) (meetsH_dict_get_default (nestedKind X.prog X.w) a b zs fv) ⟨nroom hu, k, xs, nd_key I3.hok kb kd, dd, ?_⟩
  exact ⟨_, H3, I3.tok _, l.getD rz, q3⟩
theorem ps_nput (hu : X.A.units + 65 < cLine) (ho : PE X o td) (hi : PE X i ty) (hv : PE X value tv) (hs : swapsWith value (some (.Subscript o i pos')) pos.line X.env = pure false) :
    PS X (.Assign [.Subscript o i pos'] value pos) (sNPut X.prog X.w td ty tv) := by
  refine ⟨fun pins s σ H D I h => ?_⟩
  refine wpAny_Assign_Subscript (thn (hv.run pins s σ H _ I h) fun r s1 ⟨v, H1, I1, rv, q1⟩ => thn (ho.run pins s1 σ H1 _ I1 q1) fun u s2 ⟨x, H2, I2, rx, q2⟩ => thn (hi.run pins s2 σ H2 _ I2 q2) fun iv s3 ⟨y, H3, I3, ry, a, xs, k, b, ex, ha, nk, ey, kb, kd, hl, q3⟩ => ?_) hs
  subst ex
  subst ey
  obtain rfl : u = Value.ref a := rx
  cases (show iv = Value.ref b from ry)
  obtain ⟨z, l, dd⟩ := nd_of I3.hok (.inl ha) nk
  refine wpAny_setItem_heap (hsz := l) (nroom hu) (nd_key I3.hok kb kd) dd fun h' dd' hs' => ?_
  have he : ∃ q, h'.get? a = some q := by
    obtain ⟨q, _, _, hq, _⟩ := id dd'
    exact ⟨q, hq⟩
  have hl' : (storedH xs k b r).length ≤ sizeLine := by
    unfold storedH
    split
    · rw [List.length_map]; exact l
    · rw [List.length_append]; simp; omega
  exact ⟨σ, _, d_write I3 (by rw [ha]; exact True.intro) hs' he (nd_new (nr_of z hl' dd')), q3 r rv⟩
end

/-! ### .. as the layer sees them -/
mutual
def nkD : PyData → NestedKey
  | .int i => .num i
  | .tuple ds => .tup (nkDs ds)
  | _ => .none
def nkDs : List PyData → List NestedKey
  | [] => []
  | d :: ds => nkD d :: nkDs ds
end
mutual
def FlatK : PyData → Prop
  | .int _ => True
  | .tuple ds => FlatKs ds
  | _ => False
def FlatKs : List PyData → Prop
  | [] => True
  | d :: ds => FlatK d ∧ FlatKs ds
end
mutual
theorem Rep.kis {K : PySem.W.Frag} {X : Addr → Prop} {H : Hp} : ∀ {d : PyData} {v : V}, FlatK d → Rep K X H d v → KIs H (nkD d) v
  | _, _, _, .int i => by rw [nkD]; exact .num i
  | _, _, f, .tup h r => by rw [nkD]; rw [FlatK] at f; exact .tup h (Reps.kis f r)
  | .none, _, f, _ => by simp [FlatK] at f
  | .bool _, _, f, _ => by simp [FlatK] at f
  | .str _, _, f, _ => by simp [FlatK] at f
  | .list _, _, f, _ => by simp [FlatK] at f
theorem Reps.kis {K : PySem.W.Frag} {X : Addr → Prop} {H : Hp} : ∀ {ds : List PyData} {vs : List V}, FlatKs ds → Reps K X H ds vs → KAll H (nkDs ds) vs
  | _, _, _, .nil => by rw [nkDs]; exact .nil
  | _, _, f, .cons r t => by rw [nkDs]; rw [FlatKs] at f; exact .cons (Rep.kis f.1 r) (Reps.kis f.2 t)
end
mutual
theorem nkD_inj : ∀ {d e : PyData}, FlatK d → FlatK e → nkD d = nkD e → d = e
  | .int i, .int j, _, _, h => by simp [nkD] at h; rw [h]
  | .tuple ds, .tuple es, f, g, h => by
    rw [FlatK] at f g
    rw [nkD, nkD] at h
    injection h with h
    rw [nkDs_inj f g h]
  | .int i, .tuple es, _, _, h => by simp [nkD] at h
  | .tuple ds, .int j, _, _, h => by simp [nkD] at h
  | .int i, .none, _, g, _ => by simp [FlatK] at g
  | .int i, .bool _, _, g, _ => by simp [FlatK] at g
  | .int i, .str _, _, g, _ => by simp [FlatK] at g
  | .int i, .list _, _, g, _ => by simp [FlatK] at g
  | .int i, .dict _, _, g, _ => by simp [FlatK] at g
  | .tuple _, .none, _, g, _ => by simp [FlatK] at g
  | .tuple _, .bool _, _, g, _ => by simp [FlatK] at g
  | .tuple _, .str _, _, g, _ => by simp [FlatK] at g
  | .tuple _, .list _, _, g, _ => by simp [FlatK] at g
  | .tuple _, .dict _, _, g, _ => by simp [FlatK] at g
  | .none, _, f, _, _ => by simp [FlatK] at f
  | .bool _, _, f, _, _ => by simp [FlatK] at f
  | .str _, _, f, _, _ => by simp [FlatK] at f
  | .list _, _, f, _, _ => by simp [FlatK] at f
  | .dict _, _, f, _, _ => by simp [FlatK] at f
theorem nkDs_inj : ∀ {ds es : List PyData}, FlatKs ds → FlatKs es → nkDs ds = nkDs es → ds = es
  | [], [], _, _, _ => rfl
  | d :: ds, e :: es, f, g, h => by
    rw [FlatKs] at f g
    rw [nkDs, nkDs] at h
    injection h with h1 h2
    rw [nkD_inj f.1 g.1 h1, nkDs_inj f.2 g.2 h2]
  | [], e :: es, _, _, h => by simp [nkDs] at h
  | d :: ds, [], _, _, h => by simp [nkDs] at h
end
class Nk (α : Type) [Py α] where
  flat : ∀ k : α, FlatK (enc k)
  dep : ∀ k : α, (nkD (enc k)).depth ≤ 8
  inj : ∀ k l : α, enc k = enc l → k = l
  tup : ∀ k : α, ∃ ds, enc k = PyData.tuple ds

instance : Nk (T2 (T3 Int (T2 Int Int) (T2 Int Int)) (T3 Int Int Int)) where
  flat := fun k => by simp [enc, FlatK, FlatKs]
  dep := fun k => by simp [enc, nkD, nkDs, NestedKey.depth, NestedKey.depthAll]
  inj := fun k l h => by
    obtain ⟨⟨a, ⟨b, c⟩, ⟨d, e⟩⟩, ⟨f, g, i⟩⟩ := k
    obtain ⟨⟨a', ⟨b', c'⟩, ⟨d', e'⟩⟩, ⟨f', g', i'⟩⟩ := l
    simp [enc] at h
    simp [h]
  tup := fun k => ⟨_, rfl⟩
instance : Nk (T2 (T3 Int Int Int) (T3 Int Int Int)) where
  flat := fun k => by simp [enc, FlatK, FlatKs]
  dep := fun k => by simp [enc, nkD, nkDs, NestedKey.depth, NestedKey.depthAll]
  inj := fun k l h => by
    obtain ⟨⟨a, b, c⟩, ⟨f, g, i⟩⟩ := k
    obtain ⟨⟨a', b', c'⟩, ⟨f', g', i'⟩⟩ := l
    simp [enc] at h
    simp [h]
  tup := fun k => ⟨_, rfl⟩
inductive NEnt (K : PySem.W.Frag) (X : Addr → Prop) (H : Hp) : List (PyData × Int) → NXs → Prop
  | nil : NEnt K X H [] []
  | cons {d : PyData} {i : Int} {t : Tok} {b : Addr} {es : List (PyData × Int)} {xs : NXs} : Rep K X H d (.ref b) → FlatK d → (nkD d).depth ≤ 8 → NEnt K X H es xs → NEnt K X H ((d, i) :: es) ((nkD d, b, .int i t) :: xs)
section
variable {K : PySem.W.Frag} {X Y : Addr → Prop} {H H' : Hp}
theorem NEnt.keep (k : Keep X H H') : ∀ {es : List (PyData × Int)} {xs : NXs}, NEnt K X H es xs → NEnt K X H' es xs
  | _, _, .nil => .nil
  | _, _, .cons r f d t => .cons (r.keep k) f d (t.keep k)
theorem NEnt.anti (h : ∀ a, Y a → X a) : ∀ {es : List (PyData × Int)} {xs : NXs}, NEnt K X H es xs → NEnt K Y H es xs
  | _, _, .nil => .nil
  | _, _, .cons r f d t => .cons (r.anti h) f d (t.anti h)
theorem NEnt.more {p : Addr} (h : H p = none) : ∀ {es : List (PyData × Int)} {xs : NXs}, NEnt K X H es xs → NEnt K (fun a => X a ∨ a = p) H es xs
  | _, _, .nil => .nil
  | _, _, .cons r f d t => .cons (r.more h) f d (t.more h)
theorem NEnt.len : ∀ {es : List (PyData × Int)} {xs : NXs}, NEnt K X H es xs → xs.length = es.length
  | _, _, .nil => rfl
  | _, _, .cons _ _ _ t => congrArg (· + 1) t.len
theorem NEnt.flat : ∀ {es : List (PyData × Int)} {xs : NXs}, NEnt K X H es xs → ∀ e ∈ es, FlatK e.1
  | _, _, .nil, _, h => nomatch h
  | _, _, .cons _ f _ t, e, h => by
    rcases List.mem_cons.mp h with z | z
    · rw [z]; exact f
    · exact t.flat e z
theorem NEnt.keys : ∀ {es : List (PyData × Int)} {xs : NXs}, NEnt K X H es xs → (es.map (·.1)).Nodup → NKeys H xs
  | _, _, .nil, _ => ⟨fun _ h => (nomatch h), List.nodup_nil⟩
  | _, _, .cons (d := d) r f dp t, n => by
    rw [List.map_cons, List.nodup_cons] at n
    obtain ⟨k1, k2⟩ := t.keys n.2
    refine ⟨fun x hx => ?_, ?_⟩
    · rcases List.mem_cons.mp hx with z | z
      · rw [z]; exact ⟨Rep.kis f r, dp⟩
      · exact k1 x z
    · rw [List.map_cons, List.nodup_cons]
      refine ⟨fun hm => ?_, k2⟩
      have : ∀ {es : List (PyData × Int)} {xs : NXs}, NEnt K X H es xs → nkD d ∈ xs.map (·.1) → d ∈ es.map (·.1) := by
        intro es xs t
        induction t with
        | nil => intro h; exact (nomatch h)
        | cons r' f' dp' t' ih =>
          intro h
          rw [List.map_cons] at h ⊢
          rcases List.mem_cons.mp h with z | z
          · rw [nkD_inj f f' z]; exact List.mem_cons_self
          · exact List.mem_cons_of_mem _ (ih z)
      exact n.1 (this t hm)
end
def ngetM {κ β : Type} [DecidableEq κ] (kvs : List (κ × β)) (k : κ) : Option β := (kvs.find? fun kv => decide (kv.1 = k)).map (·.2)
def nputM {κ β : Type} [DecidableEq κ] (kvs : List (κ × β)) (k : κ) (v : β) : List (κ × β) :=
  if (kvs.any fun kv => decide (kv.1 = k)) = true then kvs.map (fun kv => if kv.1 = k then (kv.1, v) else kv) else kvs ++ [(k, v)]
def NdR (K : PySem.W.Frag) (P : Program) (w : World) (es : List (PyData × Int)) : Addr → (Addr → Prop) → Hp → Prop := fun p X H => (es.map (·.1)).Nodup ∧ ∃ xs, H p = some (NdO P w p xs) ∧ NEnt K X H es xs
theorem ndR_rx (K : PySem.W.Frag) (P : Program) (w : World) (es : List (PyData × Int)) : RX (NdR K P w es) where
  keep := fun k e ⟨n, xs, h, t⟩ => ⟨n, xs, e.trans h, t.keep k⟩
  anti := fun h ⟨n, xs, e, t⟩ => ⟨n, xs, e, t.anti h⟩
  more := fun h ⟨n, xs, e, t⟩ => ⟨n, xs, e, t.more h⟩
  nn := fun ⟨n, xs, e, t⟩ => by rw [e]; exact fun z => nomatch z
  ntup := fun ⟨n, xs, e, t⟩ => by
    rw [e]
    constructor
    · intro _ z; cases z
    · intro _ _ z; cases z
def nes {κ : Type} [Py κ] (kvs : List (κ × Int)) : List (PyData × Int) := kvs.map fun e => (enc e.1, e.2)
abbrev mn (K : PySem.W.Frag) (P : Program) (w : World) {κ : Type} [Py κ] (kvs : List (κ × Int)) : MO := .ex (NdR K P w (nes kvs))
section
variable {K : PySem.W.Frag} {X : Addr → Prop} {H : Hp} {κ : Type} [Py κ] [DecidableEq κ] [Nk κ]
theorem nes_key (kvs : List (κ × Int)) : (nes kvs).map (·.1) = kvs.map fun e => enc e.1 := by unfold nes; rw [List.map_map]; rfl
theorem nent_get {k : κ} : ∀ {kvs : List (κ × Int)} {xs : NXs}, NEnt K X H (nes kvs) xs → RelO ((ngetM kvs k).map V.int) ((atKey xs (nkD (enc k))).map (·.2))
  | [], _, .nil => trivial
  | (l, i) :: kvs, _, .cons (t := t) (b := b) (xs := xs) r f d q => by
    by_cases z : l = k
    · subst z
      have e1 : ngetM ((l, i) :: kvs) l = some i := by simp [ngetM]
      have e2 : atKey ((nkD (enc l), b, Value.int i t) :: xs) (nkD (enc l)) = some (b, Value.int i t) := by simp [atKey]
      rw [e1, e2]; exact ⟨t, rfl⟩
    · have zn : ¬ nkD (enc l) = nkD (enc k) := fun e => z (Nk.inj _ _ (nkD_inj (Nk.flat l) (Nk.flat k) e))
      have e1 : ngetM ((l, i) :: kvs) k = ngetM kvs k := by simp [ngetM, List.find?_cons, z]
      have e2 : atKey ((nkD (enc l), b, Value.int i t) :: xs) (nkD (enc k)) = atKey xs (nkD (enc k)) := by simp [atKey, List.find?_cons, zn]
      rw [e1, e2]
      exact nent_get q
theorem nent_any {k : κ} : ∀ {kvs : List (κ × Int)} {xs : NXs}, NEnt K X H (nes kvs) xs → (atKey xs (nkD (enc k))).isSome = (kvs.any fun kv => decide (kv.1 = k))
  | [], _, .nil => rfl
  | (l, i) :: kvs, _, .cons (t := t) (b := b) (xs := xs) r f d q => by
    rw [List.any_cons]
    by_cases z : l = k
    · subst z
      simp [atKey]
    · have zn : ¬ nkD (enc l) = nkD (enc k) := fun e => z (Nk.inj _ _ (nkD_inj (Nk.flat l) (Nk.flat k) e))
      have e2 : atKey ((nkD (enc l), b, Value.int i t) :: xs) (nkD (enc k)) = atKey xs (nkD (enc k)) := by simp [atKey, List.find?_cons, zn]
      rw [e2, decide_eq_false z, Bool.false_or]
      exact nent_any q
theorem nent_map {k : κ} {j : Int} {u : Tok} : ∀ {kvs : List (κ × Int)} {xs : NXs}, NEnt K X H (nes kvs) xs → NEnt K X H (nes (kvs.map fun kv => if kv.1 = k then (kv.1, j) else kv)) (xs.map (putAt (nkD (enc k)) (.int j u)))
  | [], _, .nil => .nil
  | (l, i) :: kvs, _, .cons (t := t) (b := b) (xs := xs) r f d q => by
    rw [List.map_cons, List.map_cons]
    by_cases z : l = k
    · subst z
      rw [if_pos rfl]
      have : putAt (nkD (enc l)) (.int j u) (nkD (enc l), b, Value.int i t) = (nkD (enc l), b, Value.int j u) := by simp [putAt]
      rw [this]
      exact .cons r f d (nent_map q)
    · have zn : ¬ nkD (enc l) = nkD (enc k) := fun e => z (Nk.inj _ _ (nkD_inj (Nk.flat l) (Nk.flat k) e))
      rw [if_neg z]
      have : putAt (nkD (enc k)) (.int j u) (nkD (enc l), b, Value.int i t) = (nkD (enc l), b, Value.int i t) := by simp [putAt, zn]
      rw [this]
      exact .cons r f d (nent_map q)
theorem nent_snoc {d : PyData} {i : Int} {t : Tok} {b : Addr} (r : Rep K X H d (.ref b)) (f : FlatK d) (dp : (nkD d).depth ≤ 8) : ∀ {es : List (PyData × Int)} {xs : NXs}, NEnt K X H es xs → NEnt K X H (es ++ [(d, i)]) (xs ++ [(nkD d, b, .int i t)])
  | _, _, .nil => .cons r f dp .nil
  | _, _, .cons r' f' d' q => .cons r' f' d' (nent_snoc r f dp q)
theorem nent_put {k : κ} {j : Int} {u : Tok} {b : Addr} {kvs : List (κ × Int)} {xs : NXs} (r : Rep K X H (enc k) (.ref b)) (q : NEnt K X H (nes kvs) xs) : NEnt K X H (nes (nputM kvs k j)) (storedH xs (nkD (enc k)) b (.int j u)) := by
  unfold nputM storedH
  rw [nent_any q]
  split
  · exact nent_map q
  · unfold nes
    rw [List.map_append]
    exact nent_snoc r (Nk.flat k) (Nk.dep k) q
theorem nput_nodup {k : κ} {j : Int} {kvs : List (κ × Int)} (n : ((nes kvs).map (·.1)).Nodup) : ((nes (nputM kvs k j)).map (·.1)).Nodup := by
  rw [nes_key] at n ⊢
  unfold nputM
  split
  · rw [List.map_map]
    have : ((fun e : κ × Int => enc e.1) ∘ fun kv : κ × Int => if kv.1 = k then (kv.1, j) else kv) = fun e => enc e.1 := by
      funext e
      show enc (if e.1 = k then (e.1, j) else e).1 = enc e.1
      split <;> rfl
    rw [this]; exact n
  · rename_i h
    rw [List.map_append]
    refine List.nodup_append.mpr ⟨n, by simp, fun a ha c hc => ?_⟩
    obtain ⟨e, he, rfl⟩ := List.mem_map.mp ha
    rw [List.mem_singleton.mp hc]
    intro eq
    apply h
    rw [List.any_eq_true]
    exact ⟨e, he, by simpa using Nk.inj _ _ eq⟩
end
section
variable {C : Cn} {X : Addr → Prop} {H : Hp} {σ : L2.St} {Γ Γ' : List Sl} {Q : VK} {ρ κ : Type} [Py κ] [DecidableEq κ] [Nk κ] {P : Program} {w : World}
theorem x_nnew (L : Lo C X H σ Γ) (h : ∀ p X' H1, C.H0 p = none → ¬ C.X0 p → Lo C X' H1 σ (Γ ++ [.tmp p (mn C.K P w ([] : List (κ × Int)))]) → (∀ d u, Rep C.K X H d u → Rep C.K X' H1 d u) → Q (.ref p) H1) : tNNew P w σ H Q := fun p hp => by
  have s : Same H (upd H p (NdO P w p [])) := same_upd hp
  obtain ⟨L1, le, h0, hx⟩ := L.lay (o := mn C.K P w ([] : List (κ × Int))) hp s ⟨ndR_rx _ _ _ _, List.nodup_nil, [], upd_same, .nil⟩
  exact h p _ _ h0 hx L1 le
theorem nkey_rep {K : PySem.W.Frag} {k : κ} {y : V} (r : Rep K X H (enc k) y) : ∃ b, y = .ref b ∧ Rep K X H (enc k) (.ref b) := by
  obtain ⟨ds, e⟩ := Nk.tup k
  have r' := r
  rw [e] at r'
  cases r' with
  | tup h q => exact ⟨_, rfl, r⟩
def KNg (P : Program) (w : World) (x : V) (Q : VK) : VK := fun y H2 => ∃ a v, x = .ref a ∧ NGet P w H2 a y (some v) ∧ Q v H2
def KNG2 (P : Program) (w : World) (a : Addr) (y : V) (Q : VK) : VK := fun z H3 => ∃ o, NGet P w H3 a y o ∧ Q (o.getD z) H3
theorem x_ng {td ty : TE} (h : td σ H fun x H1 => ty σ H1 (KNg P w x Q)) : tNGet P w td ty σ H Q := h
theorem x_ng2 {td ty tx : TE} (h : td σ H fun x H1 => ∃ a, x = .ref a ∧ IsN P w H1 a ∧ ty σ H1 fun y H2 => tx σ H2 (KNG2 P w a y Q)) : tNGet2 P w td ty tx σ H Q := h
theorem x_isN {i : Nat} {p : Addr} {kvs : List (κ × Int)} {R : Addr → Prop} (L : Lo C X H σ Γ) (g : Γ[i]? = some (.mu p (mn C.K P w kvs))) (h : R p) : ∃ a, V.ref p = .ref a ∧ IsN P w H a ∧ R a := by
  obtain ⟨_, n, xs, e, q⟩ := L.mrep g
  exact ⟨p, rfl, ⟨xs, .inl e, q.keys n⟩, h⟩
theorem x_nget2 {kvs : List (κ × Int)} {k : κ} {d : Int} {i : Nat} {p : Addr} {y : V} (L : Lo C X H σ Γ) (g : Γ[i]? = some (.mu p (mn C.K P w kvs))) (ry : Rep C.K X H (enc k) y)
    (h : Q (.int ((ngetM kvs k).getD d)) H) : KNG2 P w p y Q (.int d) H := by
  obtain ⟨_, n, xs, e, q⟩ := L.mrep g
  obtain ⟨b, rfl, rb⟩ := nkey_rep ry
  refine ⟨(ngetM kvs k).map V.int, ⟨xs, _, b, .inl e, q.keys n, rfl, Rep.kis (Nk.flat k) rb, Nk.dep k, nent_get q⟩, ?_⟩
  cases hk : ngetM kvs k with
  | none => rw [hk] at h; exact h
  | some j => rw [hk] at h; exact h
theorem x_nputS {td ty tv : TE} {nx bk ct : L2.St → Hp → Prop} {rt : VK} (h : tv σ H fun v H1 => td σ H1 fun x H2 => ty σ H2 fun y H3 => ∃ a xs k b, x = .ref a ∧ H3 a = some (NdO P w a xs) ∧ NKeys H3 xs ∧ y = .ref b ∧ KIs H3 k (.ref b) ∧ k.depth ≤ 8 ∧ xs.length < sizeLine ∧ ∀ r : Value, RelV v r → nx σ (upd H3 a (NdO P w a (storedH xs k b r)))) : sNPut P w td ty tv ⟨nx, rt, bk, ct⟩ σ H := h
theorem x_nput {kvs : List (κ × Int)} {k : κ} {j : Int} {i : Nat} {p : Addr} {y : V} {kk : Unit → Option ρ} {r : ρ} {R : Hp → Prop} (L : Lo C X H σ Γ) (g : Γ[i]? = some (.mu p (mn C.K P w kvs))) (hm : (lenOk (kvs.length + 1)).bind kk = some r) (ry : Rep C.K X H (enc k) y)
    (e : Γ.set i (.mu p (mn C.K P w (nputM kvs k j))) = Γ') (h : ∀ H1, kk () = some r → Lo C X H1 σ Γ' → (∀ d u, Rep C.K X H d u → Rep C.K X H1 d u) → R H1) :
    ∃ a xs k b, V.ref p = .ref a ∧ H a = some (NdO P w a xs) ∧ NKeys H xs ∧ y = .ref b ∧ KIs H k (.ref b) ∧ k.depth ≤ 8 ∧ xs.length < sizeLine ∧ ∀ r : Value, RelV (.int j) r → R (upd H a (NdO P w a (storedH xs k b r))) := by
  subst e
  obtain ⟨_, hl, hk⟩ := ob hm
  obtain ⟨_, n, xs, hw, q⟩ := L.mrep g
  obtain ⟨b, rfl, rb⟩ := nkey_rep ry
  have hX : X p := L.mx p (mem_muts.mpr ⟨i, _, g, rfl⟩)
  have kp : ∀ o, Keep X H (upd H p o) := fun o => ⟨fun a u h n => by rw [upd_ne (fun z => n (by rw [z]; exact hX))]; exact h, fun a us h => by rw [upd_ne (fun z => by rw [z, hw] at h; cases h)]; exact h, fun a u w h => by rw [upd_ne (fun z => by rw [z, hw] at h; cases h)]; exact h⟩
  refine ⟨p, xs, nkD (enc k), b, rfl, hw, q.keys n, rfl, Rep.kis (Nk.flat k) rb, Nk.dep k, ?_, fun rv hr => ?_⟩
  · have := lenOk_le hl
    have := q.len
    unfold nes at this
    rw [List.length_map] at this
    rw [line_eq]; omega
  · obtain ⟨t, rfl⟩ := hr
    obtain ⟨L1, le⟩ := L.wrote (H' := upd H p (NdO P w p (storedH xs (nkD (enc k)) b (.int j t)))) (o := mn C.K P w (nputM kvs k j)) g rfl (fun a u h n => by rw [upd_ne n]; exact h) (fun a h => by
        by_cases z : a = p
        · rw [z, upd_same]; exact fun y => nomatch y
        · rw [upd_ne z]; exact h) ⟨ndR_rx _ _ _ _, nput_nodup n, _, upd_same, (nent_put rb q).keep (kp _)⟩
    exact h _ hk L1 le
end

/-! ### [d[k] == 0 for k in d] -/
def ItNk (P : Program) (w : World) (d : Addr) (o : Obj) (xs : NXs) : It :=
  ⟨fun i H => H d = some (.frz o (NdO P w d xs)) ∧ i < xs.length, fun i H x H' => H' = H ∧ ∃ e, xs[i]? = some e ∧ x = .ref e.2.1, fun i H => H d = some (.frz o (NdO P w d xs)) ∧ xs.length ≤ i⟩
theorem nd_frz {X : Cx} {pins : List (Addr × Obj)} {σ : L2.St} {H : Hp} {s : Shared} {d : Addr} {o : Obj} {xs : NXs} (I : Inv X pins σ H s) (h : H d = some (.frz o (NdO X.prog X.w d xs))) :
    (d == sysModules) = false ∧ s.heap.get? d = some o ∧ o.ExactDict ∧ ∃ (es : Array DictEntry) (ep : Nat), o.data = .dict es ep ∧ es.size = xs.length ∧ ∀ (i : Nat) e, xs[i]? = some e → ∃ en : DictEntry, es[i]? = some en ∧ en.key = .ref e.2.1 := by
  obtain ⟨hd, ⟨z, l, o', es, ep, ho, hx, hdt, he⟩, _⟩ := I.hok d _ h
  rw [hd] at ho
  cases ho
  refine ⟨z, hd, hx, es, ep, hdt, size_of_entries he, fun i e q => ?_⟩
  have := entry_at he i
  rw [q] at this
  exact ⟨_, this, rfl⟩
theorem turn_nkeys {P : Program} {w : World} {K : PySem.W.Frag} {tg : Expr} {d : Addr} {o : Obj} {xs : NXs} {es : Array DictEntry} {ep : Nat} (it : Addr) (hod : o.data = .dict es ep) : Turn P w K tg (ItNk P w d o xs) [it] it (fun i h => h.IsKeyIter it d i xs.length ep) where
  mem := by simp
  obj := fun i h st b hb => by
    have e : b = it := by simpa using hb
    subst e
    obtain ⟨oi, e, c, dd⟩ := st
    exact ⟨oi, e, fun v z => by rw [dd] at z; cases z⟩
  keep := fun i h h' st k => st.at fun oi e => k it (by simp) oi e
  item := by
    intro X hP hw hK hc i pins s σ H E I hf st hg
    subst hP hw hK
    obtain ⟨hd, hi⟩ := hg
    obtain ⟨f0, f1, f2, f3, f4, f5⟩ := hf it (by simp)
    obtain ⟨hs, hgd, hx, es', ep', hdt, hsz, ent⟩ := nd_frz I hd
    obtain ⟨rfl, rfl⟩ := dict_ep hod hdt
    obtain ⟨e, he⟩ : ∃ e, xs[i]? = some e := ⟨xs[i], List.getElem?_eq_getElem hi⟩
    obtain ⟨en, hen, hkey⟩ := ent i e he
    refine next_key_item st hgd hdt hsz hen fun h' st' sb => ?_
    have I1 : Inv X pins σ H { s with heap := h' } := I.turned (t' := s.toks) (fun b ob hb e => (sb.2 b hb).trans e) f0 f1 f3 f4 f5
    obtain ⟨oi, e', c, dd⟩ := id st'
    exact ⟨en.key, rfl, go_of (s := { s with heap := h' }) e' c dd (by decide) ⟨.ref e.2.1, H, I1, hkey, ⟨rfl, e, he, rfl⟩, st', fun b hb => (hf b hb).1⟩⟩
  done := by
    intro X hP hw hK hc i pins s σ H E I hf st hg
    subst hP hw hK
    obtain ⟨hd, hi⟩ := hg
    obtain ⟨f0, f1, f2, f3, f4, f5⟩ := hf it (by simp)
    obtain ⟨hs, hgd, hx, es', ep', hdt, hsz, ent⟩ := nd_frz I hd
    obtain ⟨rfl, rfl⟩ := dict_ep hod hdt
    exact next_key_end (I.ok.hd hc) st hgd hdt hsz hi fun h' eb => ⟨rfl, I.turned (t' := s.toks) (fun b ob hb e => eb b ob hb e) f0 f1 f3 f4 f5⟩
  self := fun A i s Q E st h => by
    refine wpAny_pyIter_slot st.typeIs PySem.F.slot_dict_keyiterator_iter (wpAny_call_entry PySem.F.slot_dict_keyiterator_iter st.typeIs PySem.F.entry_dict_keyiterator_iter ?_ (PySem.F.args_dict_keyiterator_iter_1 _))
    show wpAny _ _ (ret (.ref it)) _ _ s
    exact wpAny_pure ⟨_, rfl, "dict_keyiterator", _, st.typeIs, PySem.F.slot_dict_keyiterator_next.lookup, h⟩
def iNKeys (P : Program) (w : World) (td : TE) : TI := fun σ H R => td σ H fun x H1 => ∃ d o xs, x = .ref d ∧ H1 d = some (.frz o (NdO P w d xs)) ∧ R (ItNk P w d o xs) H1
theorem pi_nkeys {X : Cx} {tg e : Expr} {td : TE} (he : PE X e td) : PI X tg e (iNKeys X.prog X.w td) := by
  refine ⟨fun pins s σ H R I h => ?_⟩
  refine thn (he.run pins s σ H _ I h) fun u s1 ⟨x, H1, I1, rx, d, o, xs, ex, hd, q⟩ => ?_
  subst ex
  obtain rfl : u = Value.ref d := rx
  obtain ⟨hs, hgd, hx, es, ep, hdt, hsz, ent⟩ := nd_frz I1 hd
  refine iter_keys hs hgd hx hdt (pi_one (tk := s1.toks) I1 _ (turn_nkeys _ hdt) ⟨_, Heap.get?_push_size _ rfl, rfl, ?_⟩ q)
  rw [hsz] <;> rfl
theorem NEnt.at {K : PySem.W.Frag} {X : Addr → Prop} {H : Hp} : ∀ {es : List (PyData × Int)} {xs : NXs} {i : Nat} {e}, NEnt K X H es xs → xs[i]? = some e → ∃ d z t, es[i]? = some (d, z) ∧ e = (nkD d, e.2.1, Value.int z t) ∧ Rep K X H d (.ref e.2.1) ∧ FlatK d ∧ (nkD d).depth ≤ 8
  | _, _, _, _, .nil, h => by simp at h
  | _, _, 0, _, .cons (d := d) (i := z) (t := t) r f dp q, h => by
    have := Option.some.inj h
    subst this
    exact ⟨d, z, t, rfl, rfl, r, f, dp⟩
  | _, _, i + 1, _, .cons r f dp q, h => NEnt.at (i := i) q h
theorem atKey_nd : ∀ {xs : NXs} {i : Nat} {e}, (xs.map (·.1)).Nodup → xs[i]? = some e → atKey xs e.1 = some e.2
  | [], _, _, _, h => by simp at h
  | x :: xs, 0, _, n, h => by
    have := Option.some.inj h
    subst this
    simp [atKey]
  | x :: xs, i + 1, e, n, h => by
    rw [List.map_cons, List.nodup_cons] at n
    have hx : xs[i]? = some e := h
    have ne : ¬ x.1 = e.1 := fun q => n.1 (q ▸ List.mem_map.mpr ⟨e, List.mem_of_getElem? hx, rfl⟩)
    have : atKey (x :: xs) e.1 = atKey xs e.1 := by simp [atKey, List.find?_cons, ne]
    rw [this]
    exact atKey_nd n.2 hx
theorem x_lcNd {C : Cn} {X : Addr → Prop} {H : Hp} {σ : L2.St} {Γ : List Sl} {Q : VK} {κ : Type} [Py κ] [DecidableEq κ] [Nk κ] {P : Program} {w : World} {kvs : List (κ × Int)} {i j : Nat} {p : Addr} {te : TE} (L : Lo C X H σ Γ) (g : Γ[i]? = some (.mu p (mn C.K P w kvs))) (hij : i ≠ j) (hj : j < C.n) (hl : kvs.length ≤ 16777216)
    (body : ∀ (σ2 : L2.St) (H2 : Hp) (y : V) (z : Int) (Qy : VK), σ2[i]? = some (some (.ref p)) → σ2[j]? = some (some y) → NGet P w H2 p y (some (.int z)) → Qy (.bl (decide (z = 0))) H2 → te σ2 H2 Qy)
    (h : ∀ D H', Lo C X H' σ Γ → (∀ d u, Rep C.K X H d u → Rep C.K X H' d u) → Rep C.K X H' (enc (kvs.map fun e => decide (e.2 = 0))) (.ref D) → Q (.ref D) H') :
    tLockE (tLc (iNKeys P w (tVar i)) (gName j) tYes te [j]) σ H Q := by
  obtain ⟨hv, _, n, xs, hw, q⟩ := L.at_ i _ g
  refine ⟨p, NdO P w p xs, hw, True.intro, fun od => ?_⟩
  refine ⟨.ref p, hv, p, od, xs, rfl, upd_same, fun D hD => ?_⟩
  have hDp : D ≠ p := fun e => by rw [e, upd_same] at hD; cases hD
  have hD0 : H D = none := by rw [upd_ne hDp] at hD; exact hD
  have hX : X p := L.mx p (mem_muts.mpr ⟨i, _, g, rfl⟩)
  have kp : ∀ acc, Keep X H (upd (upd H p (.frz od (NdO P w p xs))) D (.lst acc)) := fun acc => by
    have ne : ∀ a u, H a = some u → a ≠ D := fun a u e z => by rw [z, hD0] at e; cases e
    have ne2 : ∀ a u, H a = some u → u ≠ NdO P w p xs → a ≠ p := fun a u e m z => by rw [z, hw] at e; exact m (Option.some.inj e).symm
    refine ⟨fun a u e nx => ?_, fun a us e => ?_, fun a u w' e => ?_⟩
    · have na : a ≠ p := fun z => nx (by rw [z]; exact hX)
      rw [upd_ne (ne _ _ e), upd_ne na]; exact e
    · rw [upd_ne (ne _ _ e), upd_ne (ne2 _ _ e fun z => nomatch z)]; exact e
    · rw [upd_ne (ne _ _ e), upd_ne (ne2 _ _ e fun z => nomatch z)]; exact e
  have ql := q.len
  have nl : (nes kvs).length = kvs.length := by unfold nes; rw [List.length_map]
  let bs : Nat → List V := fun i => (kvs.take i).map fun e => V.bl (decide (e.2 = 0))
  refine ⟨fun i m H' => m = xs.length - i ∧ i ≤ xs.length ∧ H' = upd (upd H p (.frz od (NdO P w p xs))) D (.lst (bs i)), ⟨xs.length, by simp, Nat.zero_le _, rfl⟩, ?_⟩
  rintro i' m H' ⟨rfl, hi, rfl⟩
  have atp : (upd (upd H p (.frz od (NdO P w p xs))) D (.lst (bs i'))) p = some (.frz od (NdO P w p xs)) := by rw [upd_ne (Ne.symm hDp), upd_same]
  by_cases hlt : i' < xs.length
  · refine .inr ⟨⟨atp, hlt⟩, fun H' => H' = upd (upd H p (.frz od (NdO P w p xs))) D (.lst (bs (i' + 1))), fun H' e => ⟨xs.length - (i' + 1), by omega, rfl, hlt, e⟩, ?_⟩
    rintro x H' ⟨rfl, e, he, rfl⟩
    obtain ⟨d, z, t, e1, e2, r, f, dp⟩ := q.at he
    refine ⟨?_, ?_⟩
    · show ((σ.set j none).set j (some (V.ref e.2.1))).set j none = σ.set j none
      rw [List.set_set, List.set_set]
    have qk := (q.keep (kp (bs i'))).keys n
    refine body _ _ (.ref e.2.1) z _ ?_ ?_ ⟨xs, e.1, e.2.1, .inr ⟨od, atp⟩, qk, rfl, ?_, ?_, ?_⟩ ⟨bs i', upd_same, ?_, ?_⟩
    · show ((σ.set j none).set j (some (V.ref e.2.1)))[i]? = _
      rw [List.set_set, List.getElem?_set_ne (Ne.symm hij)]; exact hv
    · show ((σ.set j none).set j (some (V.ref e.2.1)))[j]? = _
      rw [List.set_set, List.getElem?_set_self (by rw [L.len]; exact hj)]
    · have := (qk.1 e (List.mem_of_getElem? he)).1; exact this
    · exact (qk.1 e (List.mem_of_getElem? he)).2
    · rw [atKey_nd qk.2 he, e2]; exact ⟨t, rfl⟩
    · show ((kvs.take i').map _).length < sizeLine
      rw [List.length_map, List.length_take, line_eq]; omega
    · have ek : kvs[i']? = some (kvs[i']'(by omega)) := List.getElem?_eq_getElem (by omega)
      have ez : (kvs[i']'(by omega)).2 = z := by
        unfold nes at e1
        rw [List.getElem?_map, ek] at e1
        have := Option.some.inj e1
        exact congrArg Prod.snd this
      have : bs (i' + 1) = bs i' ++ [V.bl (decide (z = 0))] := by
        show (kvs.take (i' + 1)).map _ = (kvs.take i').map _ ++ _
        rw [List.take_add_one, ek, List.map_append, ← ez]; rfl
      rw [this]
      funext a
      unfold upd
      split <;> rfl
  · have ei : i' = xs.length := by omega
    subst ei
    refine .inl ⟨⟨atp, Nat.le_refl _⟩, atp, ?_⟩
    have ebs : bs xs.length = kvs.map fun e => V.bl (decide (e.2 = 0)) := by
      show (kvs.take _).map _ = _
      rw [List.take_of_length_le (by omega)]
    have eH : upd (upd (upd H p (.frz od (NdO P w p xs))) D (.lst (bs xs.length))) p (NdO P w p xs) = upd H D (.lst (bs xs.length)) := by
      funext a
      by_cases z : a = p
      · rw [z, upd_same, upd_ne (Ne.symm hDp), hw]
      · rw [upd_ne z]
        by_cases z2 : a = D
        · rw [z2, upd_same, upd_same]
        · rw [upd_ne z2, upd_ne z2, upd_ne z]
    rw [eH, ebs]
    have s : Same H (upd H D (.lst (kvs.map fun e => V.bl (decide (e.2 = 0))))) := same_upd hD0
    refine h D _ (L.same s) (fun _ _ r => r.keep (.same s)) ?_
    have hnX : ¬ X D := fun y => L.xd D y hD0
    refine .lst hnX (.inl upd_same) ?_
    rw [List.map_map]
    have : ∀ l : List (κ × Int), Reps C.K X (upd H D (.lst (kvs.map fun e => V.bl (decide (e.2 = 0))))) (l.map ((enc : Bool → PyData) ∘ fun e => decide (e.2 = 0))) (l.map fun e => V.bl (decide (e.2 = 0))) := by
      intro l
      induction l with
      | nil => exact .nil
      | cons e l ih => exact .cons (.bl _) ih
    exact this kvs

theorem x_ndEq {P : Program} {w : World} {i j : Nat} {p : Addr} {σ2 : L2.St} {H2 : Hp} {y : V} {z : Int} {Qy : VK} (h1 : σ2[i]? = some (some (.ref p))) (h2 : σ2[j]? = some (some y)) (hg : NGet P w H2 p y (some (.int z))) (hq : Qy (.bl (decide (z = 0))) H2) : tOp rEq (tNGet P w (tVar i) (tVar j)) (tC (V.int 0)) σ2 H2 Qy := by
  refine ⟨_, h1, _, h2, p, _, rfl, hg, ?_⟩
  exact x_eqi hq

/-! ### for k, x in enumerate(xs) -/
def enumL {α : Type} (xs : List α) : List (T2 Int α) := List.zipWith T2.mk (rangeL 0 xs.length) xs
theorem enumL_at {α : Type} {xs : List α} {i : Nat} {x : α} (h : xs[i]? = some x) : (enumL xs)[i]? = some ⟨(i : Int), x⟩ := by
  have hi := (List.getElem?_eq_some_iff.mp h).1
  unfold enumL rangeL
  rw [List.getElem?_zipWith, List.getElem?_map, List.getElem?_range hi, h]
  show some (T2.mk ((0 : Int) + (i : Int)) x) = _
  rw [Int.zero_add]
theorem enumL_len {α : Type} (xs : List α) : (enumL xs).length = xs.length := by
  unfold enumL rangeL
  rw [List.length_zipWith, List.length_map, List.length_range]; exact Nat.min_self _
def KForE (K : PySem.W.Frag) (g : TG) (tb : TS) (D : Ends) (σ : L2.St) : List V → Hp → Prop := fun vs H => ∃ a xs, vs = [.ref a] ∧ SqL K H a xs ∧ ∃ W : Nat → Nat → L2.St → Hp → Prop, (∃ m, W 0 m σ H) ∧ ∀ i m σ H, W i m σ H →
      ((Ite K a).stop i H ∧ D.nx σ H) ∨ ((Ite K a).go i H ∧ ∃ N : L2.St → Hp → Prop, (∀ σ' H', N σ' H' → ∃ m', m' < m ∧ W (i + 1) m' σ' H') ∧ ∀ v H', (Ite K a).yld i H v H' → g v σ H' fun σ2 H2 => tb { D with nx := N, ct := N, bk := D.nx } σ2 H2)
section
variable {C : Cn} {X : Addr → Prop} {H : Hp} {σ : L2.St} {Γ Γ' : List Sl} {Q : VK} {α τ ρ : Type}
theorem x_tforE {ta : TA} {g : TG} {tb : TS} {D : Ends} {K : PySem.W.Frag} (h : ta σ H (KForE K g tb D σ)) : tFor (iEnum K ta) g tb D σ H := h
theorem x_foE [Py α] {xs : List α} {f : T2 Int α → τ → Option τ} {G : τ → List Sl} {s0 : τ} {u : V} {g : TG} {tb : TS} {nx bk ct : L2.St → Hp → Prop} {rt : VK} {k : τ → Option ρ} {res : ρ}
    (L : Lo C X H σ (G s0)) (hG : ∀ s s', muts (G s) = muts (G s')) (r : Rep C.K X H (enc xs) u) (hm : (foldO f (enumL xs) s0).bind k = some res)
    (body : ∀ x s, BodyO C X G (enc x) s (f x s) g tb) (done : ∀ s σ' H', k s = some res → Lo C X H' σ' (G s) → nx σ' H') : KForE C.K g tb ⟨nx, rt, bk, ct⟩ σ [u] H := by
  obtain ⟨s1, h1, h2⟩ := ob hm
  obtain ⟨a, vs, rfl, hna, hrd, hrs⟩ := rep_lst (ds := xs.map enc) r
  have e1 : vs.length = xs.length := by rw [hrs.length, List.length_map]
  have hm0 := foldO_loop h1
  refine ⟨a, vs, rfl, .inl hrd, fun i m σ' H' => m = xs.length - i ∧ i ≤ xs.length ∧ ∃ s, Lo C X H' σ' (G s) ∧ Reps C.K X H' (xs.map enc) vs ∧ Rd H' a (.lst vs) ∧ loopL (ρ := Empty) (fun x s => (f x s).bind fun s' => some (.nxt s')) ((enumL xs).drop i) s = some (.nxt s1), ⟨xs.length, by simp, Nat.zero_le _, s0, L, hrs, hrd, hm0⟩, ?_⟩
  rintro i m σ' H' ⟨rfl, hi, s, L', r', hd, hm'⟩
  by_cases hlt : i < xs.length
  · refine .inr ⟨⟨vs, vs[i]'(by omega), .inl hd, List.getElem?_eq_getElem (by omega)⟩, fun σ'' H'' => i + 1 ≤ xs.length ∧ ∃ s, Lo C X H'' σ'' (G s) ∧ Reps C.K X H'' (xs.map enc) vs ∧ Rd H'' a (.lst vs) ∧ loopL (ρ := Empty) (fun x s => (f x s).bind fun s' => some (.nxt s')) ((enumL xs).drop (i + 1)) s = some (.nxt s1), fun σ'' H'' p' => ⟨xs.length - (i + 1), by omega, rfl, p'⟩, ?_⟩
    rintro w H2 ⟨T, y, rfl, hT, rfl, hall⟩
    have hy : vs[i]? = some y := hall vs (.inl hd)
    obtain ⟨d, hd1, rd⟩ := r'.get' hy
    rw [List.getElem?_map] at hd1
    cases hx : xs[i]? with
    | none => rw [hx] at hd1; cases hd1
    | some x =>
      rw [hx] at hd1
      cases hd1
      obtain ⟨o1, g1, g2, g3, g4⟩ := loop_drop (enumL_at hx) hm'
      have sT : Same H' (upd H' T (.tup [.int (i : Nat), y])) := same_upd hT
      have LT := L'.same sT
      have rT : Rep C.K X (upd H' T (.tup [.int (i : Nat), y])) (enc (T2.mk (i : Int) x)) (.ref T) := .tup upd_same (.cons (.int _) (.cons (rd.keep (.same sT)) .nil))
      have rT1 := r'.keep (.same sT)
      have kd : ∀ {c : Addr} {ws : List V}, Rd H' c (.lst ws) → Rd (upd H' T (.tup [.int (i : Nat), y])) c (.lst ws) := fun h => h.elim (fun h => .inl (sT _ _ h)) fun ⟨o, h⟩ => .inr ⟨o, sT _ _ h⟩
      refine (body (T2.mk (i : Int) x) s).body _ σ' _ _ _ _ _ o1 g1 LT.enter rT ?_ ?_ ?_ ?_
      · intro s' e X' σ'' H'' L''
        have k := LT.keep L''
        exact ⟨hlt, s', LT.leave L'' (hG _ _), rT1.keep k, k.rd hna (kd hd), g2 s' e⟩
      · intro s' e X' σ'' H'' L''
        have k := LT.keep L''
        exact ⟨hlt, s', LT.leave L'' (hG _ _), rT1.keep k, k.rd hna (kd hd), g2 s' e⟩
      · intro s' e
        have := g3 s' e
        cases this
      · intro q e
        exact q.elim
  · have ei : i = xs.length := by omega
    subst ei
    rw [List.drop_eq_nil_of_le (by rw [enumL_len]; omega)] at hm'
    have e : s = s1 := by
      have : (some (Lp.nxt s) : Option (Lp τ Empty)) = some (.nxt s1) := hm'
      cases this; rfl
    subst e
    exact .inl ⟨⟨vs, .inl hd, by omega⟩, done _ _ _ h2 L'⟩
end

/-! ### max(list of ints) -/
theorem x_maxL {C : Cn} {X : Addr → Prop} {H : Hp} {Q : VK} {ρ : Type} {ns : List Int} {v : V} {k : Int → Option ρ} {r : ρ} (hm : (ns.max?).bind k = some r) (rv : Rep C.K X H (enc ns) v) (h : ∀ m, k m = some r → Q (.int m) H) : rMax C.K [v] H Q := by
  obtain ⟨m, e, hk⟩ := ob hm
  obtain ⟨a, us, rfl, hna, hrd, hrs⟩ := rep_lst (ds := ns.map enc) rv
  have e2 : us = ns.map V.int := Reps.toInts hrs
  subst e2
  have hm' := List.max?_eq_some_iff.mp e
  refine ⟨a, ns, rfl, .inl hrd, List.length_pos_of_mem hm'.1, fun m' h1 h2 => ?_⟩
  have : m' = m := by
    have := h2 m hm'.1
    have := hm'.2 m' h1
    omega
  subst this
  exact h m' hk
def m__law_cell (a__law_script : (List Int)) (a__law_k : Int) : Option Int :=
 if (decide (a__law_k < (a__law_script.length : Int))) = true then
 ((ix a__law_script a__law_k).bind fun x1 =>
 some x1)
 else
 (some 0)
def m__law_bag (a__law_cell_here : Int) : Option (List Int) :=
 some ([(a__law_cell_here * (b2 ((decide (1000000000000000000 ≤ a__law_cell_here))))), (a__law_cell_here % 2147483647)])
def m__law_digit (a__law_bag_here : (List Int)) (a__law_many : Int) : Option (Int × (List Int)) :=
 (ix a__law_bag_here 0).bind fun x1 =>
 if (decide (0 < x1)) = true then
 ((ix a__law_bag_here 0).bind fun x2 =>
 (modG x2 a__law_many).bind fun z1 =>
 (ix a__law_bag_here 0).bind fun x3 =>
 (divG x3 a__law_many).bind fun z2 =>
 (setI a__law_bag_here 0 z2).bind fun y1 =>
 some ((z1, y1)))
 else
 ((ix a__law_bag_here 1).bind fun x4 =>
 (setI a__law_bag_here 1 ((((x4 * 48271) + 11) % 2147483647))).bind fun y2 =>
 (ix y2 1).bind fun x5 =>
 (modG ((((x5 * 16807) % 2147483629) / 8)) a__law_many).bind fun z3 =>
 some ((z3, y2)))
def m__law_point (a__law_a : Int) (a__law_b : Int) (a__law_n : Int) : Option (T3 Int Int Int) :=
 (some ((iabs a__law_a))).bind fun (one_1 : Int) =>
 (foldO (fun (x1 : Int) (s1 : Int) =>
 ((loopW (ρ := Empty) (fun (s3 : (Int × Int)) =>
 (if (decide (0 < s3.2)) = true then
 ((modG s3.1 s3.2).bind fun z1 =>
 some (.nxt ((s3.2, z1))))
 else
 (some (.brk ((s3.1, s3.2)))))) (x1.natAbs + 2) ((s1, x1))).bind fun o => o.out (fun (e : Empty) => e.elim) fun (s4 : (Int × Int)) =>
 some s4.1)) [(iabs a__law_b), a__law_n] one_1).bind fun (s2 : Int) =>
 (divG a__law_a s2).bind fun z2 =>
 (divG a__law_b s2).bind fun z3 =>
 (divG a__law_n s2).bind fun z4 =>
 some ((T3.mk z2 z3 z4))
def m__law_place (a__law_bag_here : (List Int)) (a__law_most : Int) : Option ((T3 Int Int Int) × (List Int)) :=
 (m__law_digit a__law_bag_here 5).bind fun z1 =>
 (ix ([1, 1, 1, 2, 3]) z1.1).bind fun x1 =>
 (mulG a__law_most x1).bind fun z2 =>
 (m__law_digit z1.2 ((z2 + 1))).bind fun z3 =>
 (mulG a__law_most x1).bind fun z4 =>
 (m__law_digit z3.2 ((z4 + 1))).bind fun z5 =>
 (m__law_point z3.1 z5.1 x1).bind fun z6 =>
 some ((z6, z5.2))
def m__law_side (a__law_p : (T3 Int Int Int)) (a__law_q : (T3 Int Int Int)) (a__law_r : (T3 Int Int Int)) : Option Int :=
 (mulG a__law_q.b a__law_r.c).bind fun z1 =>
 (mulG a__law_q.c a__law_r.b).bind fun z2 =>
 (mulG a__law_p.a ((z1 - z2))).bind fun z3 =>
 (mulG a__law_q.a a__law_r.c).bind fun z4 =>
 (mulG a__law_q.c a__law_r.a).bind fun z5 =>
 (mulG a__law_p.b ((z4 - z5))).bind fun z6 =>
 (some ((z3 - z6))).bind fun (found_1 : Int) =>
 (mulG a__law_q.a a__law_r.b).bind fun z7 =>
 (mulG a__law_q.b a__law_r.a).bind fun z8 =>
 (mulG a__law_p.c ((z7 - z8))).bind fun z9 =>
 (some ((found_1 + z9))).bind fun (found_2 : Int) =>
 some (((b2 ((decide (0 < found_2)))) - (b2 ((decide (found_2 < 0))))))
def m__law_three (a__law_bag_here : (List Int)) (a__law_most : Int) : Option ((List (T3 Int Int Int)) × (List Int)) :=
 (mapS (fun (x1 : Int) (s1 : (List Int)) =>
 ((m__law_place s1 a__law_most).bind fun z1 =>
 some (z1.1, z1.2))) (rangeL 0 3) a__law_bag_here).bind fun q1 =>
 (ix q1.1 0).bind fun x2 =>
 (ix q1.1 1).bind fun x3 =>
 (ix q1.1 2).bind fun x4 =>
 (m__law_side x2 x3 x4).bind fun z2 =>
 if (decide (z2 = 0)) = true then
 (some (([(T3.mk 0 0 1), (T3.mk a__law_most 1 1), (T3.mk 1 a__law_most 1)], q1.2)))
 else
 ((stepG q1.1 z2).bind fun ys1 =>
 some ((ys1, q1.2)))
def m__law_is_point (a__law_p : (T3 Int Int Int)) : Option Bool :=
 if ((!true) || (!decide (3 = 3))) = true then
 (some false)
 else
 ((loopL (ρ := Bool) (fun (x1 : Int) (s1 : Unit) =>
 (if ((!true) || false) = true then
 (some (.ret false))
 else
 (some (.nxt (()))))) [a__law_p.a, a__law_p.b, a__law_p.c] (())).bind fun o => o.out (fun r => some r) fun (s2 : Unit) =>
 (if (decide (0 < a__law_p.c)) = true then
 ((m__law_point a__law_p.a a__law_p.b a__law_p.c).bind fun z2 =>
 some ((decide (z2 = a__law_p))))
 else some false).bind fun b1 =>
 some b1)
def m__law_is_convex (a__law_ring : (List (T3 Int Int Int))) : Option Bool :=
 if ((!true) || (decide ((a__law_ring.length : Int) < 3))) = true then
 (some false)
 else
 ((lenOk a__law_ring.length).bind fun _ =>
 (filO (fun (x1 : (T3 Int Int Int)) =>
 ((m__law_is_point x1).bind fun z1 =>
 if (!z1) = true then
 (some (some x1))
 else
 (some none))) a__law_ring).bind fun ys1 =>
 if (decide (0 < (ys1.length : Int))) = true then
 (some false)
 else
 ((rngOk ((a__law_ring.length : Int))).bind fun _ =>
 (loopL (ρ := Bool) (fun (x2 : Int) (s2 : Unit) =>
 ((rngOk ((a__law_ring.length : Int))).bind fun _ =>
 (loopL (ρ := Bool) (fun (x3 : Int) (s4 : Unit) =>
 ((if (!decide (x3 = x2)) = true then
 ((modG ((x2 + 1)) ((a__law_ring.length : Int))).bind fun z3 =>
 some ((!decide (x3 = z3))))
 else some false).bind fun b1 =>
 if b1 = true then
 ((ix a__law_ring x2).bind fun x4 =>
 (modG ((x2 + 1)) ((a__law_ring.length : Int))).bind fun z4 =>
 (ix a__law_ring z4).bind fun x5 =>
 (ix a__law_ring x3).bind fun x6 =>
 (m__law_side x4 x5 x6).bind fun z5 =>
 if (!decide (z5 = 1)) = true then
 (some (.ret false))
 else
 (some (.nxt (()))))
 else
 (some (.nxt (()))))) (rangeL 0 ((a__law_ring.length : Int)).toNat) (())).bind fun o => o.out (fun r => some (.ret r)) fun (s5 : Unit) =>
 some (.nxt (())))) (rangeL 0 ((a__law_ring.length : Int)).toNat) (())).bind fun o => o.out (fun r => some r) fun (s3 : Unit) =>
 some true))
def m__law_bulging (a__law_bag_here : (List Int)) (a__law_most : Int) : Option ((List (T3 Int Int Int)) × (List Int)) :=
 (m__law_three a__law_bag_here a__law_most).bind fun z1 =>
 (m__law_digit z1.2 3).bind fun z2 =>
 (rngOk z2.1).bind fun _ =>
 (foldO (fun (x1 : Int) (s1 : ((List Int) × (List (T3 Int Int Int)))) =>
 ((m__law_place s1.1 a__law_most).bind fun z3 =>
 (rngOk ((s1.2.length : Int))).bind fun _ =>
 (loopL (ρ := Empty) (fun (x2 : Int) (s3 : (List (T3 Int Int Int))) =>
 ((lenOk (((slice s3 none (some x2))).length + ([z3.1]).length)).bind fun _ =>
 (lenOk ((((slice s3 none (some x2)) ++ [z3.1])).length + ((slice s3 (some x2) none)).length)).bind fun _ =>
 (some ((((slice s3 none (some x2)) ++ [z3.1]) ++ (slice s3 (some x2) none)))).bind fun (more_1 : (List (T3 Int Int Int))) =>
 (m__law_is_convex more_1).bind fun z4 =>
 if z4 = true then
 (some (.brk more_1))
 else
 (some (.nxt s3)))) (rangeL 0 ((s1.2.length : Int)).toNat) s1.2).bind fun o => o.out (fun (e : Empty) => e.elim) fun (s4 : (List (T3 Int Int Int))) =>
 some ((z3.2, s4)))) (rangeL 0 z2.1.toNat) ((z2.2, z1.1))).bind fun (s2 : ((List Int) × (List (T3 Int Int Int)))) =>
 some ((s2.2, s2.1))
def m__law_slid (a__law_p : (T3 Int Int Int)) (a__law_v : (T3 Int Int Int)) : Option (T3 Int Int Int) :=
 (mulG a__law_p.a a__law_v.c).bind fun z1 =>
 (mulG a__law_v.a a__law_p.c).bind fun z2 =>
 (mulG a__law_p.b a__law_v.c).bind fun z3 =>
 (mulG a__law_v.b a__law_p.c).bind fun z4 =>
 (mulG a__law_p.c a__law_v.c).bind fun z5 =>
 (m__law_point ((z1 + z2)) ((z3 + z4)) z5).bind fun z6 =>
 some z6
def m__law_mixed (a__law_ring : (List (T3 Int Int Int))) (a__law_bag_here : (List Int)) : Option ((T3 Int Int Int) × (List Int)) :=
 (some ((T3.mk 0 0 1))).bind fun (found_1 : (T3 Int Int Int)) =>
 (foldO (fun (x1 : (T3 Int Int Int)) (s1 : ((List Int) × (T3 Int Int Int) × Int)) =>
 ((m__law_digit s1.1 61).bind fun z1 =>
 (some ((1 + z1.1))).bind fun (weight_1 : Int) =>
 (mulG x1.a weight_1).bind fun z2 =>
 (mulG x1.b weight_1).bind fun z3 =>
 (m__law_point z2 z3 x1.c).bind fun z4 =>
 (m__law_slid s1.2.1 z4).bind fun z5 =>
 (some (s1.2.2 + weight_1)).bind fun (weights_1 : Int) =>
 some ((z1.2, z5, weights_1)))) a__law_ring ((a__law_bag_here, found_1, 0))).bind fun (s2 : ((List Int) × (T3 Int Int Int) × Int)) =>
 (mulG s2.2.1.c s2.2.2).bind fun z6 =>
 (m__law_point s2.2.1.a s2.2.1.b z6).bind fun z7 =>
 some ((z7, s2.1))
def m__law_fan (a__law_ring : (List (T3 Int Int Int))) (a__law_bag_here : (List Int)) : Option ((List (List (T3 Int Int Int))) × (List Int)) :=
 (m__law_mixed a__law_ring a__law_bag_here).bind fun z1 =>
 (rngOk ((a__law_ring.length : Int))).bind fun _ =>
 (foldO (fun (x1 : Int) (s1 : (List (List (T3 Int Int Int)))) =>
 ((ix a__law_ring ((x1 - 1))).bind fun x2 =>
 (ix a__law_ring x1).bind fun x3 =>
 (lenOk (s1.length + 1)).bind fun _ =>
 some ((s1 ++ [[z1.1, x2, x3]])))) (rangeL 0 ((a__law_ring.length : Int)).toNat) (([] : (List (List (T3 Int Int Int)))))).bind fun (s2 : (List (List (T3 Int Int Int)))) =>
 some ((s2, z1.2))
def m__law_parted (a__law_rings : (List (List (T3 Int Int Int)))) (a__law_bag_here : (List Int)) (a__law_many : Int) : Option ((List (List (T3 Int Int Int))) × (List Int)) :=
 (rngOk a__law_many).bind fun _ =>
 (foldO (fun (x1 : Int) (s1 : ((List Int) × (List (List (T3 Int Int Int))))) =>
 ((m__law_digit s1.1 ((s1.2.length : Int))).bind fun z1 =>
 (if (decide ((s1.2.length : Int) < 7)) = true then
 ((ix s1.2 z1.1).bind fun x2 =>
 (m__law_fan x2 z1.2).bind fun z2 =>
 (lenOk (((slice s1.2 none (some z1.1))).length + z2.1.length)).bind fun _ =>
 (lenOk ((((slice s1.2 none (some z1.1)) ++ z2.1)).length + ((slice s1.2 (some ((z1.1 + 1))) none)).length)).bind fun _ =>
 (some ((((slice s1.2 none (some z1.1)) ++ z2.1) ++ (slice s1.2 (some ((z1.1 + 1))) none)))).bind fun (made_1 : (List (List (T3 Int Int Int)))) =>
 some ((z2.2, made_1)))
 else
 (some ((z1.2, s1.2)))).bind fun (s3 : ((List Int) × (List (List (T3 Int Int Int))))) =>
 some ((s3.1, s3.2)))) (rangeL 0 a__law_many.toNat) ((a__law_bag_here, a__law_rings))).bind fun (s2 : ((List Int) × (List (List (T3 Int Int Int))))) =>
 some ((s2.2, s2.1))
def m__law_spread (a__law_rings : (List (List (T3 Int Int Int)))) (a__law_bag_here : (List Int)) (a__law_turning : Bool) : Option ((List (T3 (List (T3 Int Int Int)) Bool (T3 Int Int Int))) × (List Int)) :=
 (rngOk ((a__law_rings.length : Int))).bind fun _ =>
 (foldO (fun (x1 : Int) (s1 : ((List Int) × (List (T3 (List (T3 Int Int Int)) Bool (T3 Int Int Int))))) =>
 ((if a__law_turning = true then
 ((m__law_digit s1.1 2).bind fun z2 =>
 some ((decide (z2.1 = 1)), z2.2))
 else some (false, s1.1)).bind fun b1 =>
 (m__law_digit b1.2 9).bind fun z3 =>
 (m__law_digit z3.2 41).bind fun z4 =>
 (some ((T3.mk (((60 * x1) + z3.1)) ((z4.1 - 20)) 1))).bind fun (step_1 : (T3 Int Int Int)) =>
 (ix a__law_rings x1).bind fun x2 =>
 (lenOk (s1.2.length + 1)).bind fun _ =>
 some ((z4.2, (s1.2 ++ [(T3.mk x2 b1.1 step_1)]))))) (rangeL 0 ((a__law_rings.length : Int)).toNat) ((a__law_bag_here, ([] : (List (T3 (List (T3 Int Int Int)) Bool (T3 Int Int Int))))))).bind fun (s2 : ((List Int) × (List (T3 (List (T3 Int Int Int)) Bool (T3 Int Int Int))))) =>
 some ((s2.2, s2.1))
def m__law_turned (a__law_p : (T3 Int Int Int)) : Option (T3 Int Int Int) :=
 some ((T3.mk ((-a__law_p.a)) ((-a__law_p.b)) a__law_p.c))
def m__law_led (a__law_move : (T3 (List (T3 Int Int Int)) Bool (T3 Int Int Int))) (a__law_p : (T3 Int Int Int)) : Option (T3 Int Int Int) :=
 (if a__law_move.b = true then
 ((m__law_turned a__law_p).bind fun z1 =>
 some z1)
 else
 (some a__law_p)).bind fun (s1 : (T3 Int Int Int)) =>
 (m__law_slid s1 a__law_move.c).bind fun z2 =>
 some z2
def m__law_led_ring (a__law_move : (T3 (List (T3 Int Int Int)) Bool (T3 Int Int Int))) : Option (List (T3 Int Int Int)) :=
 (lenOk a__law_move.a.length).bind fun _ =>
 (mapO (fun (x1 : (T3 Int Int Int)) =>
 ((m__law_led a__law_move x1).bind fun z1 =>
 some z1)) a__law_move.a).bind fun ys1 =>
 some ys1
def m__law_middle (a__law_p : (T3 Int Int Int)) (a__law_q : (T3 Int Int Int)) : Option (T3 Int Int Int) :=
 (mulG a__law_p.a a__law_q.c).bind fun z1 =>
 (mulG a__law_q.a a__law_p.c).bind fun z2 =>
 (mulG a__law_p.b a__law_q.c).bind fun z3 =>
 (mulG a__law_q.b a__law_p.c).bind fun z4 =>
 (mulG ((2 * a__law_p.c)) a__law_q.c).bind fun z5 =>
 (m__law_point ((z1 + z2)) ((z3 + z4)) z5).bind fun z6 =>
 some z6
def m__law_spoiled (a__law_moves : (List (T3 (List (T3 Int Int Int)) Bool (T3 Int Int Int)))) (a__law_bag_here : (List Int)) : Option ((List (T3 (List (T3 Int Int Int)) Bool (T3 Int Int Int))) × (List Int)) :=
 (m__law_digit a__law_bag_here ((a__law_moves.length : Int))).bind fun z1 =>
 (m__law_digit z1.2 (((a__law_moves.length : Int) - 1))).bind fun z2 =>
 (modG (((z1.1 + 1) + z2.1)) ((a__law_moves.length : Int))).bind fun z3 =>
 (ix a__law_moves z1.1).bind fun x1 =>
 (m__law_digit z2.2 19).bind fun z4 =>
 (m__law_digit z4.2 19).bind fun z5 =>
 (some ((T3.mk ((z4.1 - 9)) ((z5.1 - 9)) 1))).bind fun (shift_1 : (T3 Int Int Int)) =>
 (if (decide (shift_1 = (T3.mk 0 0 1))) = true then
 ((some ((T3.mk 1 0 2))).bind fun (shift_2 : (T3 Int Int Int)) =>
 some shift_2)
 else
 (some shift_1)).bind fun (s1 : (T3 Int Int Int)) =>
 (m__law_digit z5.2 3).bind fun z6 =>
 (m__law_digit z6.2 12).bind fun z7 =>
 (ix a__law_moves z1.1).bind fun x2 =>
 (some ([x2])).bind fun (some_1 : (List (T3 (List (T3 Int Int Int)) Bool (T3 Int Int Int)))) =>
 (if (decide (z7.1 = 0)) = true then
 ((some (([] : (List (T3 (List (T3 Int Int Int)) Bool (T3 Int Int Int)))))).bind fun (some_2 : (List (T3 (List (T3 Int Int Int)) Bool (T3 Int Int Int)))) =>
 some some_2)
 else
 (some some_1)).bind fun (s2 : (List (T3 (List (T3 Int Int Int)) Bool (T3 Int Int Int)))) =>
 (if (decide (z7.1 = 1)) = true then
 ((ix a__law_moves z1.1).bind fun x3 =>
 (ix a__law_moves z1.1).bind fun x4 =>
 (some ([x3, x4])).bind fun (some_3 : (List (T3 (List (T3 Int Int Int)) Bool (T3 Int Int Int)))) =>
 some some_3)
 else
 (some s2)).bind fun (s3 : (List (T3 (List (T3 Int Int Int)) Bool (T3 Int Int Int)))) =>
 (if (decide (z7.1 = 2)) = true then
 ((m__law_slid x1.c s1).bind fun z8 =>
 (some ([(T3.mk x1.a x1.b z8)])).bind fun (some_4 : (List (T3 (List (T3 Int Int Int)) Bool (T3 Int Int Int)))) =>
 some some_4)
 else
 (some s3)).bind fun (s4 : (List (T3 (List (T3 Int Int Int)) Bool (T3 Int Int Int)))) =>
 (if (decide (z7.1 = 3)) = true then
 ((ix x1.a z6.1).bind fun x5 =>
 (m__law_slid x5 s1).bind fun z9 =>
 (lenOk (((slice x1.a none (some z6.1))).length + ([z9]).length)).bind fun _ =>
 (lenOk ((((slice x1.a none (some z6.1)) ++ [z9])).length + ((slice x1.a (some ((z6.1 + 1))) none)).length)).bind fun _ =>
 (some ([(T3.mk ((((slice x1.a none (some z6.1)) ++ [z9]) ++ (slice x1.a (some ((z6.1 + 1))) none))) x1.b x1.c)])).bind fun (some_5 : (List (T3 (List (T3 Int Int Int)) Bool (T3 Int Int Int)))) =>
 some some_5)
 else
 (some s4)).bind fun (s5 : (List (T3 (List (T3 Int Int Int)) Bool (T3 Int Int Int)))) =>
 (if (decide (z7.1 = 4)) = true then
 ((some ([(T3.mk x1.a.reverse x1.b x1.c)])).bind fun (some_6 : (List (T3 (List (T3 Int Int Int)) Bool (T3 Int Int Int)))) =>
 some some_6)
 else
 (some s5)).bind fun (s6 : (List (T3 (List (T3 Int Int Int)) Bool (T3 Int Int Int)))) =>
 (if (decide (z7.1 = 5)) = true then
 ((some ([(T3.mk x1.a ((!x1.b)) x1.c)])).bind fun (some_7 : (List (T3 (List (T3 Int Int Int)) Bool (T3 Int Int Int)))) =>
 some some_7)
 else
 (some s6)).bind fun (s7 : (List (T3 (List (T3 Int Int Int)) Bool (T3 Int Int Int)))) =>
 (if (decide (z7.1 = 6)) = true then
 ((ix a__law_moves z3).bind fun x6 =>
 (some ([(T3.mk x1.a x1.b x6.c)])).bind fun (some_8 : (List (T3 (List (T3 Int Int Int)) Bool (T3 Int Int Int)))) =>
 some some_8)
 else
 (some s7)).bind fun (s8 : (List (T3 (List (T3 Int Int Int)) Bool (T3 Int Int Int)))) =>
 (if (decide (z7.1 = 7)) = true then
 ((ix a__law_moves z3).bind fun x7 =>
 (some ([(T3.mk x7.a x1.b x1.c)])).bind fun (some_9 : (List (T3 (List (T3 Int Int Int)) Bool (T3 Int Int Int)))) =>
 some some_9)
 else
 (some s8)).bind fun (s9 : (List (T3 (List (T3 Int Int Int)) Bool (T3 Int Int Int)))) =>
 (if (decide (z7.1 = 8)) = true then
 ((lenOk (((slice x1.a none (some z6.1))).length + ((slice x1.a (some ((z6.1 + 1))) none)).length)).bind fun _ =>
 (some ([(T3.mk (((slice x1.a none (some z6.1)) ++ (slice x1.a (some ((z6.1 + 1))) none))) x1.b x1.c)])).bind fun (some_10 : (List (T3 (List (T3 Int Int Int)) Bool (T3 Int Int Int)))) =>
 some some_10)
 else
 (some s9)).bind fun (s10 : (List (T3 (List (T3 Int Int Int)) Bool (T3 Int Int Int)))) =>
 (if (decide (z7.1 = 9)) = true then
 ((ix x1.a z6.1).bind fun x8 =>
 (lenOk (((slice x1.a none (some z6.1))).length + ([x8]).length)).bind fun _ =>
 (lenOk ((((slice x1.a none (some z6.1)) ++ [x8])).length + ((slice x1.a (some z6.1) none)).length)).bind fun _ =>
 (some ([(T3.mk ((((slice x1.a none (some z6.1)) ++ [x8]) ++ (slice x1.a (some z6.1) none))) x1.b x1.c)])).bind fun (some_11 : (List (T3 (List (T3 Int Int Int)) Bool (T3 Int Int Int)))) =>
 some some_11)
 else
 (some s10)).bind fun (s11 : (List (T3 (List (T3 Int Int Int)) Bool (T3 Int Int Int)))) =>
 (if (decide (z7.1 = 10)) = true then
 ((ix x1.a ((z6.1 - 1))).bind fun x9 =>
 (lenOk (((slice x1.a none (some z6.1))).length + ([x9]).length)).bind fun _ =>
 (lenOk ((((slice x1.a none (some z6.1)) ++ [x9])).length + ((slice x1.a (some ((z6.1 + 1))) none)).length)).bind fun _ =>
 (some ([(T3.mk ((((slice x1.a none (some z6.1)) ++ [x9]) ++ (slice x1.a (some ((z6.1 + 1))) none))) x1.b x1.c)])).bind fun (some_12 : (List (T3 (List (T3 Int Int Int)) Bool (T3 Int Int Int)))) =>
 some some_12)
 else
 (some s11)).bind fun (s12 : (List (T3 (List (T3 Int Int Int)) Bool (T3 Int Int Int)))) =>
 (if (decide (z7.1 = 11)) = true then
 ((ix a__law_moves z1.1).bind fun x10 =>
 (ix x1.a ((z6.1 - 1))).bind fun x11 =>
 (ix x1.a ((z6.1 - 1))).bind fun x12 =>
 (ix x1.a z6.1).bind fun x13 =>
 (m__law_middle x12 x13).bind fun z10 =>
 (ix x1.a z6.1).bind fun x14 =>
 (some ([x10, (T3.mk ([x11, z10, x14]) x1.b x1.c)])).bind fun (some_13 : (List (T3 (List (T3 Int Int Int)) Bool (T3 Int Int Int)))) =>
 some some_13)
 else
 (some s12)).bind fun (s13 : (List (T3 (List (T3 Int Int Int)) Bool (T3 Int Int Int)))) =>
 (lenOk (((slice a__law_moves none (some z1.1))).length + s13.length)).bind fun _ =>
 (lenOk ((((slice a__law_moves none (some z1.1)) ++ s13)).length + ((slice a__law_moves (some ((z1.1 + 1))) none)).length)).bind fun _ =>
 some (((((slice a__law_moves none (some z1.1)) ++ s13) ++ (slice a__law_moves (some ((z1.1 + 1))) none)), z7.2))
def m__law_copy (a__law_moves : (List (T3 (List (T3 Int Int Int)) Bool (T3 Int Int Int)))) : Option (List (T3 (List (T3 Int Int Int)) Bool (T3 Int Int Int))) :=
 (lenOk a__law_moves.length).bind fun _ =>
 (mapO (fun (x1 : (T3 (List (T3 Int Int Int)) Bool (T3 Int Int Int))) =>
 (some ((T3.mk x1.a x1.b x1.c)))) a__law_moves).bind fun ys1 =>
 some ys1
def m_crossed (a_p : (T3 Int Int Int)) (a_q : (T3 Int Int Int)) : Option (T3 Int Int Int) :=
 (mulG a_p.b a_q.c).bind fun z1 =>
 (mulG a_p.c a_q.b).bind fun z2 =>
 (mulG a_p.c a_q.a).bind fun z3 =>
 (mulG a_p.a a_q.c).bind fun z4 =>
 (mulG a_p.a a_q.b).bind fun z5 =>
 (mulG a_p.b a_q.a).bind fun z6 =>
 some ((T3.mk ((z1 - z2)) ((z3 - z4)) ((z5 - z6))))
def m_side (a_p : (T3 Int Int Int)) (a_q : (T3 Int Int Int)) (a_r : (T3 Int Int Int)) : Option Int :=
 (m_crossed a_p a_q).bind fun z1 =>
 (mulG z1.a a_r.a).bind fun z2 =>
 (mulG z1.b a_r.b).bind fun z3 =>
 (mulG z1.c a_r.c).bind fun z4 =>
 (some (((z2 + z3) + z4))).bind fun (number_1 : Int) =>
 if (decide (number_1 = 0)) = true then
 (some 0)
 else
 (if (decide (0 < number_1)) = true then
 (some 1)
 else
 (some ((-1))))
def m_greatest_divisor (a_a : Int) (a_b : Int) : Option Int :=
 (some ((iabs a_a))).bind fun (one_1 : Int) =>
 (some ((iabs a_b))).bind fun (other_1 : Int) =>
 (loopW (ρ := Empty) (fun (s1 : (Int × Int)) =>
 (if (decide (0 < s1.2)) = true then
 ((modG s1.1 s1.2).bind fun z1 =>
 some (.nxt ((s1.2, z1))))
 else
 (some (.brk ((s1.1, s1.2)))))) (other_1.natAbs + 2) ((one_1, other_1))).bind fun o => o.out (fun (e : Empty) => e.elim) fun (s2 : (Int × Int)) =>
 some s2.1
def m_ratio (a_top : Int) (a_bottom : Int) : Option (T2 Int Int) :=
 if (decide (a_bottom = 0)) = true then
 (none)
 else
 ((m_greatest_divisor a_top a_bottom).bind fun z1 =>
 (if (decide (a_bottom < 0)) = true then
 ((some ((-z1))).bind fun (divisor_1 : Int) =>
 some divisor_1)
 else
 (some z1)).bind fun (s1 : Int) =>
 (divG a_top s1).bind fun z2 =>
 (divG a_bottom s1).bind fun z3 =>
 some ((T2.mk z2 z3)))
def m_line_of (a_p : (T3 Int Int Int)) (a_q : (T3 Int Int Int)) : Option (T3 Int (T2 Int Int) (T2 Int Int)) :=
 (mulG a_p.b a_q.c).bind fun z1 =>
 (mulG a_p.c a_q.b).bind fun z2 =>
 (some ((z1 - z2))).bind fun (a_1 : Int) =>
 (mulG a_p.c a_q.a).bind fun z3 =>
 (mulG a_p.a a_q.c).bind fun z4 =>
 (some ((z3 - z4))).bind fun (b_1 : Int) =>
 (mulG a_p.a a_q.b).bind fun z5 =>
 (mulG a_p.b a_q.a).bind fun z6 =>
 (some ((z5 - z6))).bind fun (c_1 : Int) =>
 if (!decide (a_1 = 0)) = true then
 ((m_ratio b_1 a_1).bind fun z7 =>
 (m_ratio c_1 a_1).bind fun z8 =>
 some ((T3.mk 1 z7 z8)))
 else
 ((m_ratio c_1 b_1).bind fun z9 =>
 some ((T3.mk 0 ((T2.mk 1 1)) z9)))
def m_count_sides (a_tally : (List ((T2 (T3 Int (T2 Int Int) (T2 Int Int)) (T3 Int Int Int)) × Int))) (a_rings : (List (List (T3 Int Int Int)))) (a_number : Int) : Option (Unit × (List ((T2 (T3 Int (T2 Int Int) (T2 Int Int)) (T3 Int Int Int)) × Int))) :=
 (foldO (fun (x1 : (List (T3 Int Int Int))) (s1 : (List ((T2 (T3 Int (T2 Int Int) (T2 Int Int)) (T3 Int Int Int)) × Int))) =>
 ((foldO (fun (x2 : (T2 Int (T3 Int Int Int))) (s3 : (List ((T2 (T3 Int (T2 Int Int) (T2 Int Int)) (T3 Int Int Int)) × Int))) =>
 ((ix x1 ((x2.a - 1))).bind fun x3 =>
 (m_line_of x3 x2.b).bind fun z1 =>
 (lenOk (s3.length + 1)).bind fun _ =>
 (lenOk (((nputM s3 ((T2.mk z1 x3)) ((((ngetM s3 ((T2.mk z1 x3))).getD 0) + a_number)))).length + 1)).bind fun _ =>
 some ((nputM ((nputM s3 ((T2.mk z1 x3)) ((((ngetM s3 ((T2.mk z1 x3))).getD 0) + a_number)))) ((T2.mk z1 x2.b)) ((((ngetM ((nputM s3 ((T2.mk z1 x3)) ((((ngetM s3 ((T2.mk z1 x3))).getD 0) + a_number)))) ((T2.mk z1 x2.b))).getD 0) - a_number)))))) (enumL x1) s1).bind fun (s4 : (List ((T2 (T3 Int (T2 Int Int) (T2 Int Int)) (T3 Int Int Int)) × Int))) =>
 some s4)) a_rings a_tally).bind fun (s2 : (List ((T2 (T3 Int (T2 Int Int) (T2 Int Int)) (T3 Int Int Int)) × Int))) =>
 some (((), s2))
def m_parts_cloth (a_rings : (List (List (T3 Int Int Int)))) (a_cloth : (List (List (T3 Int Int Int)))) : Option Bool :=
 (m_count_sides (([] : (List ((T2 (T3 Int (T2 Int Int) (T2 Int Int)) (T3 Int Int Int)) × Int)))) a_rings 1).bind fun z1 =>
 (m_count_sides z1.2 a_cloth ((-1))).bind fun z2 =>
 (lenOk z2.2.length).bind fun _ =>
 some ((((List.map (fun e => decide (e.2 = 0)) z2.2)).all id))
def m_turned (a_p : (T3 Int Int Int)) : Option (T3 Int Int Int) :=
 some ((T3.mk ((-a_p.a)) ((-a_p.b)) a_p.c))
def m_point (a_a : Int) (a_b : Int) (a_n : Int) : Option (T3 Int Int Int) :=
 if (decide (a_n = 0)) = true then
 (none)
 else
 ((m_greatest_divisor a_a a_n).bind fun z1 =>
 (m_greatest_divisor z1 a_b).bind fun z2 =>
 (if (decide (a_n < 0)) = true then
 ((some ((-z2))).bind fun (divisor_1 : Int) =>
 some divisor_1)
 else
 (some z2)).bind fun (s1 : Int) =>
 (divG a_a s1).bind fun z3 =>
 (divG a_b s1).bind fun z4 =>
 (divG a_n s1).bind fun z5 =>
 some ((T3.mk z3 z4 z5)))
def m_slid (a_p : (T3 Int Int Int)) (a_step : (T3 Int Int Int)) : Option (T3 Int Int Int) :=
 (mulG a_p.a a_step.c).bind fun z1 =>
 (mulG a_step.a a_p.c).bind fun z2 =>
 (mulG a_p.b a_step.c).bind fun z3 =>
 (mulG a_step.b a_p.c).bind fun z4 =>
 (mulG a_p.c a_step.c).bind fun z5 =>
 (m_point ((z1 + z2)) ((z3 + z4)) z5).bind fun z6 =>
 some z6
def m_led_ring (a_move : (T3 (List (T3 Int Int Int)) Bool (T3 Int Int Int))) : Option (List (T3 Int Int Int)) :=
 if a_move.b = true then
 ((lenOk a_move.a.length).bind fun _ =>
 (mapO (fun (x1 : (T3 Int Int Int)) =>
 ((m_turned x1).bind fun z1 =>
 (m_slid z1 a_move.c).bind fun z2 =>
 some z2)) a_move.a).bind fun ys1 =>
 some ys1)
 else
 ((lenOk a_move.a.length).bind fun _ =>
 (mapO (fun (x2 : (T3 Int Int Int)) =>
 ((m_slid x2 a_move.c).bind fun z3 =>
 some z3)) a_move.a).bind fun ys2 =>
 some ys2)
def m_is_plan (a_one : (List (List (T3 Int Int Int)))) (a_other : (List (List (T3 Int Int Int)))) (a_moves : (List (T3 (List (T3 Int Int Int)) Bool (T3 Int Int Int)))) (a_turning : Bool) : Option Bool :=
 (loopL (ρ := Bool) (fun (x1 : (T3 (List (T3 Int Int Int)) Bool (T3 Int Int Int))) (s1 : Unit) =>
 ((if (!decide ((x1.a.length : Int) = 3)) = true then some true else
 ((ix x1.a 0).bind fun x5 =>
 (ix x1.a 1).bind fun x6 =>
 (ix x1.a 2).bind fun x7 =>
 (m_side x5 x6 x7).bind fun z2 =>
 some (((!decide (z2 = 1)) || (x1.b && (!a_turning)))))).bind fun b1 =>
 if b1 = true then
 (some (.ret false))
 else
 (some (.nxt (()))))) a_moves (())).bind fun o => o.out (fun r => some r) fun (s2 : Unit) =>
 (lenOk a_moves.length).bind fun _ =>
 (mapO (fun (x8 : (T3 (List (T3 Int Int Int)) Bool (T3 Int Int Int))) =>
 (some x8.a)) a_moves).bind fun ys1 =>
 (m_parts_cloth ys1 a_one).bind fun z3 =>
 if (!z3) = true then
 (some false)
 else
 ((lenOk a_moves.length).bind fun _ =>
 (mapO (fun (x9 : (T3 (List (T3 Int Int Int)) Bool (T3 Int Int Int))) =>
 ((m_led_ring x9).bind fun z4 =>
 some z4)) a_moves).bind fun ys2 =>
 (m_parts_cloth ys2 a_other).bind fun z5 =>
 some z5)
def m_law (a__law_script : (List Int)) : Option Bool :=
 (m__law_cell a__law_script 0).bind fun z1 =>
 (m__law_bag z1).bind fun z2 =>
 (m__law_bulging z2 5).bind fun z3 =>
 (some ([z3.1])).bind fun (one_1 : (List (List (T3 Int Int Int)))) =>
 (m__law_cell a__law_script 1).bind fun z4 =>
 (m__law_bag z4).bind fun z5 =>
 (ix one_1 0).bind fun x1 =>
 (m__law_fan x1 z5).bind fun z6 =>
 (m__law_digit z6.2 4).bind fun z7 =>
 (m__law_parted z6.1 z7.2 z7.1).bind fun z8 =>
 (m__law_spread z8.1 z8.2 true).bind fun z9 =>
 (lenOk z9.1.length).bind fun _ =>
 (mapO (fun (x2 : (T3 (List (T3 Int Int Int)) Bool (T3 Int Int Int))) =>
 ((m__law_led_ring x2).bind fun z10 =>
 some z10)) z9.1).bind fun ys1 =>
 (loopL (ρ := Bool) (fun (x3 : Int) (s2 : (List Int)) =>
 ((m__law_spoiled z9.1 s2).bind fun z11 =>
 (m__law_copy z11.1).bind fun z12 =>
 (m_is_plan one_1 ys1 z12 true).bind fun z13 =>
 (if z13 = true then some true else
 ((m__law_copy z11.1).bind fun z16 =>
 (m_is_plan one_1 ys1 z16 false).bind fun z17 =>
 some z17)).bind fun b1 =>
 if b1 = true then
 (some (.ret false))
 else
 ((m_is_plan one_1 ys1 z9.1 true).bind fun z18 =>
 if (!decide (z18 = true)) = true then
 (some (.ret false))
 else
 (some (.nxt z11.2))))) (rangeL 0 6) z9.2).bind fun o => o.out (fun r => some r) fun (s3 : (List Int)) =>
 (m__law_digit s3 ((ys1.length : Int))).bind fun z19 =>
 (lenOk (((slice ys1 none (some z19.1))).length + ((slice ys1 (some ((z19.1 + 1))) none)).length)).bind fun _ =>
 (m_is_plan one_1 (((slice ys1 none (some z19.1)) ++ (slice ys1 (some ((z19.1 + 1))) none))) z9.1 true).bind fun z20 =>
 if z20 = true then
 (some false)
 else
 ((m__law_digit z19.2 9).bind fun z21 =>
 (some ((1 + z21.1))).bind fun (lift_1 : Int) =>
 (ix ys1 z19.1).bind fun x4 =>
 (lenOk x4.length).bind fun _ =>
 (mapO (fun (x5 : (T3 Int Int Int)) =>
 ((m__law_slid x5 ((T3.mk 0 lift_1 4))).bind fun z22 =>
 some z22)) x4).bind fun ys2 =>
 (lenOk (((slice ys1 none (some z19.1))).length + ([ys2]).length)).bind fun _ =>
 (lenOk ((((slice ys1 none (some z19.1)) ++ [ys2])).length + ((slice ys1 (some ((z19.1 + 1))) none)).length)).bind fun _ =>
 (m_is_plan one_1 ((((slice ys1 none (some z19.1)) ++ [ys2]) ++ (slice ys1 (some ((z19.1 + 1))) none))) z9.1 true).bind fun z23 =>
 some ((!z23)))
/-! ### plain: loops, sizes -/
theorem foldO_inv {α τ : Type} {f : α → τ → Option τ} (I : Nat → τ → Prop) : ∀ {xs : List α} {s : τ} (k : Nat), (∀ j x s, I j s → ∃ s', f x s = some s' ∧ I (j + 1) s') → I k s → ∃ s', foldO f xs s = some s' ∧ I (k + xs.length) s'
  | [], s, k, _, h => ⟨s, rfl, h⟩
  | x :: xs, s, k, hf, h => by
    obtain ⟨s1, e1, h1⟩ := hf k x s h
    obtain ⟨s2, e2, h2⟩ := foldO_inv I (xs := xs) (k + 1) hf h1
    refine ⟨s2, ?_, by rw [List.length_cons, Nat.add_comm xs.length 1, ← Nat.add_assoc]; exact h2⟩
    show (f x s).bind _ = _
    rw [e1]; exact e2
/-- .. without a count -/
theorem foldO_inv' {α τ : Type} {f : α → τ → Option τ} (I : τ → Prop) {xs : List α} {s : τ} (hf : ∀ x s, I s → ∃ s', f x s = some s' ∧ I s') (h : I s) : ∃ s', foldO f xs s = some s' ∧ I s' :=
  foldO_inv (fun _ => I) 0 (fun _ => hf) h
/-- a loop that is never left early -/
theorem loopL_inv {α τ ρ : Type} {f : α → τ → Option (Lp τ ρ)} (I : τ → Prop) : ∀ {xs : List α} {s : τ}, (∀ x s, x ∈ xs → I s → ∃ s', f x s = some (.nxt s') ∧ I s') → I s → ∃ s', loopL f xs s = some (.nxt s') ∧ I s'
  | [], s, _, h => ⟨s, rfl, h⟩
  | x :: xs, s, hf, h => by
    obtain ⟨s1, e1, h1⟩ := hf x s List.mem_cons_self h
    obtain ⟨s2, e2, h2⟩ := loopL_inv I (xs := xs) (fun y s hy => hf y s (List.mem_cons_of_mem _ hy)) h1
    refine ⟨s2, ?_, h2⟩
    show (f x s).bind _ = _
    rw [e1]; exact e2
theorem log2_le {a n : Nat} (h : a < 2 ^ n) : a.log2 ≤ n := by
  by_cases z : a = 0
  · subst z; simp
  · exact Nat.le_of_lt ((Nat.log2_lt z).mpr h)
theorem mulG_ok (n m : Nat) {a b : Int} (ha : a.natAbs < 2 ^ n) (hb : b.natAbs < 2 ^ m) (h : n + m < 1000000) : mulG a b = some (a * b) := by
  unfold mulG
  rw [if_pos (Nat.lt_of_le_of_lt (Nat.add_le_add (log2_le ha) (log2_le hb)) h)]
theorem modG_pos {a b : Int} (h : 0 < b) : modG a b = some (a % b) := by
  unfold modG
  rw [if_pos (by omega), Int.fmod_eq_emod_of_nonneg _ (by omega)]
theorem divG_pos (n : Nat) {a b : Int} (h : 0 < b) (hb : b.natAbs < 2 ^ n) (hn : n < 9000) : divG a b = some (a / b) := by
  unfold divG
  rw [if_pos ⟨by omega, Nat.lt_of_le_of_lt (log2_le hb) hn⟩, Int.fdiv_eq_ediv_of_nonneg _ (by omega)]
theorem lenOk_ok {n : Nat} (h : n ≤ 16777216) : lenOk n = some () := by unfold lenOk; rw [if_pos h]
theorem slice_len {α : Type} (xs : List α) (lo hi : Option Int) : (slice xs lo hi).length ≤ xs.length := by
  unfold slice
  rw [List.length_take, List.length_drop]
  omega
theorem ix_lt {α : Type} {xs : List α} {k : Nat} (h : k < xs.length) : ix xs (k : Int) = some xs[k] := by
  unfold ix atI ixN
  have h1 : ¬ ((k : Int) < 0) := by omega
  simp [h]
theorem iabs_eq (i : Int) : iabs i = (i.natAbs : Int) := by unfold iabs; split <;> omega
theorem loopL_bind {α τ ρ β : Type} {f : α → τ → Option (Lp τ ρ)} {xs : List α} {s : τ} {g : Lp τ ρ → Option β} {v : β} (I : τ → Prop) (hf : ∀ x s, x ∈ xs → I s → ∃ s', f x s = some (.nxt s') ∧ I s') (h0 : I s) (hg : ∀ s', I s' → g (.nxt s') = some v) : (loopL f xs s).bind g = some v := by
  obtain ⟨s1, e, h⟩ := loopL_inv I hf h0
  rw [e]; exact hg s1 h
theorem foldO_bind {α τ β : Type} {f : α → τ → Option τ} {xs : List α} {s : τ} {g : τ → Option β} {v : β} (I : τ → Prop) (hf : ∀ x s, I s → ∃ s', f x s = some s' ∧ I s') (h0 : I s) (hg : ∀ s', I s' → g s' = some v) : (foldO f xs s).bind g = some v := by
  obtain ⟨s1, e, h⟩ := foldO_inv' I hf h0
  rw [e]; exact hg s1 h
/-! ### plain: the bag of this law -/
def Bag (xs : List Int) : Prop := ∃ a b : Int, xs = [a, b] ∧ 0 ≤ a ∧ 0 ≤ b ∧ b < 2147483647
theorem digit_ok {xs : List Int} {many : Int} (h : Bag xs) (hm : 0 < many) (hM : many < 18446744073709551616) : ∃ r ys, m__law_digit xs many = some (r, ys) ∧ Bag ys ∧ 0 ≤ r ∧ r < many := by
  obtain ⟨a, b, rfl, h1, h2, h3⟩ := h
  unfold m__law_digit
  have i0 : ∀ x y : Int, ix [x, y] 0 = some x := fun _ _ => rfl
  have i1 : ∀ x y : Int, ix [x, y] 1 = some y := fun _ _ => rfl
  have s0 : ∀ x y z : Int, setI [x, y] 0 z = some [z, y] := fun _ _ _ => rfl
  have s1 : ∀ x y z : Int, setI [x, y] 1 z = some [x, z] := fun _ _ _ => rfl
  simp only [i0, i1, s0, s1, Option.bind_some]
  by_cases z : 0 < a
  · rw [if_pos (by simpa using z), modG_pos hm, divG_pos 64 hm (by omega) (by decide)]
    exact ⟨_, _, rfl, ⟨_, _, rfl, Int.ediv_nonneg h1 (by omega), h2, h3⟩, Int.emod_nonneg _ (by omega), Int.emod_lt_of_pos _ hm⟩
  · rw [if_neg (by simpa using z)]
    have e1 : 0 ≤ (b * 48271 + 11) % 2147483647 := Int.emod_nonneg _ (by decide)
    have e2 : (b * 48271 + 11) % 2147483647 < 2147483647 := Int.emod_lt_of_pos _ (by decide)
    rw [modG_pos hm]
    exact ⟨_, _, rfl, ⟨_, _, rfl, h1, e1, e2⟩, Int.emod_nonneg _ (by omega), Int.emod_lt_of_pos _ hm⟩
theorem bag_ok (n : Int) : ∃ xs, m__law_bag n = some xs ∧ Bag xs := by
  unfold m__law_bag
  refine ⟨_, rfl, _, _, rfl, ?_, by omega, by omega⟩
  by_cases z : 1000000000000000000 ≤ n
  · rw [decide_eq_true z]; show 0 ≤ n * 1; omega
  · rw [decide_eq_false z]; show 0 ≤ n * 0; omega
theorem gcd_loop {β : Type} : ∀ (n : Nat) (a b : Int), 0 ≤ a → 0 ≤ b → b.natAbs < n →
    loopW (ρ := β) (fun (s : Int × Int) => if (decide (0 < s.2)) = true then ((modG s.1 s.2).bind fun z => some (.nxt (s.2, z))) else (some (.brk (s.1, s.2)))) n (a, b) = some (.brk ((Int.gcd a b : Int), 0))
  | 0, a, b, _, _, h => by omega
  | n + 1, a, b, ha, hb, h => by
    unfold loopW
    by_cases z : 0 < b
    · have h1 := Int.emod_nonneg a (show b ≠ 0 by omega)
      have h2 := Int.emod_lt_of_pos a z
      rw [if_pos (by simpa using z), modG_pos z]
      simp only [Option.bind_some]
      rw [gcd_loop n b (a % b) (by omega) h1 (by omega)]
      congr 4
      rw [Int.gcd_comm, Int.emod_def, Int.gcd_comm]
      rw [show a - b * (a / b) = a + b * (-(a / b)) by rw [Int.mul_neg, Int.sub_eq_add_neg]]
      rw [Int.gcd_add_mul_left_right, Int.gcd_comm]
    · have e : b = 0 := by omega
      subst e
      rw [if_neg (by simp)]
      simp only [Option.bind_some]
      rw [Int.gcd_zero_right]
      congr 3
      omega
theorem gcd_pos {a b : Int} (h : 0 < b) : (0 : Int) < (Int.gcd a b : Int) := by
  have := Int.gcd_pos_of_ne_zero_right (a := a) (b := b) (by omega)
  omega
theorem gcd_le {a b : Int} (h : 0 < b) : (Int.gcd a b : Int) ≤ b := Int.le_of_dvd h (Int.gcd_dvd_right a b)
/-- lowest terms -/
structure Low (t b : Int) (r : T2 Int Int) : Prop where
  pos : 0 < r.b
  le : r.b ≤ b
  abs : r.a.natAbs ≤ t.natAbs
  eq : r.a * b = t * r.b
  one : Int.gcd r.a r.b = 1
theorem low_mk {t b : Int} (h : 0 < b) : Low t b ⟨t / (Int.gcd t b : Int), b / (Int.gcd t b : Int)⟩ := by
  have hg := gcd_pos (a := t) h
  have h1 : (Int.gcd t b : Int) * (t / (Int.gcd t b : Int)) = t := Int.mul_ediv_cancel' (Int.gcd_dvd_left t b)
  have h2 : (Int.gcd t b : Int) * (b / (Int.gcd t b : Int)) = b := Int.mul_ediv_cancel' (Int.gcd_dvd_right t b)
  have hp : 0 < b / (Int.gcd t b : Int) := by
    rcases Int.lt_trichotomy (b / (Int.gcd t b : Int)) 0 with z | z | z
    · have := Int.mul_neg_of_pos_of_neg hg z; omega
    · rw [z, Int.mul_zero] at h2; omega
    · exact z
  refine ⟨hp, Int.ediv_le_self _ (by omega), ?_, ?_, ?_⟩
  · exact Int.natAbs_ediv_le_natAbs _ _
  · show t / _ * b = t * (b / _)
    generalize hG : (Int.gcd t b : Int) = g at *
    generalize hx : t / g = x at *
    generalize hy : b / g = y at *
    rw [← h1, ← h2]
    rw [← Int.mul_assoc, Int.mul_comm x g]
  · show Int.gcd (t / _) (b / _) = 1
    exact Int.gcd_ediv_gcd_ediv_gcd (by omega)
/-! ### plain: sizes -/
theorem pow_le {a n m : Nat} (h : a < 2 ^ n) (hn : n ≤ m) : a < 2 ^ m := Nat.lt_of_lt_of_le h (Nat.pow_le_pow_right (by decide) hn)
theorem sz_mul {a b : Int} {n m : Nat} (ha : a.natAbs < 2 ^ n) (hb : b.natAbs < 2 ^ m) : (a * b).natAbs < 2 ^ (n + m) := by
  rw [Int.natAbs_mul, Nat.pow_add]
  exact Nat.mul_lt_mul'' ha hb
theorem sz_add {a b : Int} {n : Nat} (ha : a.natAbs < 2 ^ n) (hb : b.natAbs < 2 ^ n) : (a + b).natAbs < 2 ^ (n + 1) := by
  rw [Nat.pow_succ]; omega
theorem sz_sub {a b : Int} {n : Nat} (ha : a.natAbs < 2 ^ n) (hb : b.natAbs < 2 ^ n) : (a - b).natAbs < 2 ^ (n + 1) := by
  rw [Nat.pow_succ]; omega
/-! ### plain: ratios -/
structure Rt (n : Nat) (r : T2 Int Int) : Prop where
  pos : 0 < r.b
  sa : r.a.natAbs < 2 ^ n
  sb : r.b.natAbs < 2 ^ n
  one : Int.gcd r.a r.b = 1
theorem Rt.mono {n m : Nat} {r : T2 Int Int} (h : Rt n r) (hn : n ≤ m) : Rt m r := ⟨h.pos, pow_le h.sa hn, pow_le h.sb hn, h.one⟩
theorem Low.rt {t b : Int} {r : T2 Int Int} {n : Nat} (w : Low t b r) (ht : t.natAbs < 2 ^ n) (hb : b.natAbs < 2 ^ n) : Rt n r :=
  ⟨w.pos, Nat.lt_of_le_of_lt w.abs ht, Nat.lt_of_le_of_lt (by have := w.pos; have := w.le; omega) hb, w.one⟩
theorem gcd_dvd {a b d : Int} (h : b ∣ a * d) (g : Int.gcd a b = 1) : b ∣ d := by
  rw [← Int.natAbs_dvd_natAbs, Int.natAbs_mul] at h
  rw [← Int.natAbs_dvd_natAbs]
  exact Nat.Coprime.dvd_of_dvd_mul_left (by rw [Nat.Coprime, Nat.gcd_comm]; exact g) h
theorem rt_same {r q : T2 Int Int} (h1 : 0 < r.b) (h2 : 0 < q.b) (g1 : Int.gcd r.a r.b = 1) (g2 : Int.gcd q.a q.b = 1) (e : r.a * q.b = q.a * r.b) : r = q := by
  obtain ⟨a, b⟩ := r
  obtain ⟨c, d⟩ := q
  simp only at *
  have d1 : b ∣ d := by
    have : b ∣ a * d := ⟨c, by rw [e, Int.mul_comm]⟩
    exact gcd_dvd this g1
  have d2 : d ∣ b := by
    have : d ∣ c * b := ⟨a, by rw [← e, Int.mul_comm]⟩
    exact gcd_dvd this g2
  have l1 := Int.le_of_dvd h2 d1
  have l2 := Int.le_of_dvd h1 d2
  have eb : b = d := by omega
  subst eb
  have : a = c := Int.eq_of_mul_eq_mul_right (by omega) e
  rw [this]
theorem Low.is {t b : Int} {r q : T2 Int Int} {n : Nat} (w : Low t b r) (hb : 0 < b) (h : Rt n q) (e : q.a * b = t * q.b) : r = q := by
  refine rt_same w.pos h.pos w.one h.one ?_
  have h1 := w.eq
  refine Int.eq_of_mul_eq_mul_right (show b ≠ 0 by omega) ?_
  grind
/-! ### plain: points -/
def g3 (a b n : Int) : Nat := Int.gcd (Int.gcd a n : Int) b
theorem g3_pos {a b n : Int} (h : n ≠ 0) : 0 < g3 a b n := by
  unfold g3
  have := Int.gcd_pos_of_ne_zero_right (a := a) (b := n) h
  exact Int.gcd_pos_of_ne_zero_left _ (by omega)
theorem g3_a {a b n : Int} : (g3 a b n : Int) ∣ a := Int.dvd_trans (Int.gcd_dvd_left _ _) (Int.gcd_dvd_left _ _)
theorem g3_n {a b n : Int} : (g3 a b n : Int) ∣ n := Int.dvd_trans (Int.gcd_dvd_left _ _) (Int.gcd_dvd_right _ _)
theorem g3_b {a b n : Int} : (g3 a b n : Int) ∣ b := Int.gcd_dvd_right _ _
theorem g3_le {a b n : Int} (h : 0 < n) : (g3 a b n : Int) ≤ n := Int.le_of_dvd h g3_n
theorem g3_mul (k a b n : Int) : g3 (k * a) (k * b) (k * n) = k.natAbs * g3 a b n := by
  unfold g3
  rw [Int.gcd_mul_left, Int.natCast_mul]
  rcases Int.natAbs_eq k with e | e
  · rw [← e, Int.gcd_mul_left]
  · have : (k.natAbs : Int) = -k := by omega
    rw [this, Int.neg_mul, Int.gcd_comm, Int.gcd_neg, Int.gcd_comm, Int.gcd_mul_left]
theorem g3_dvd {a b n d x : Int} (h : g3 a b n = 1) (ha : d ∣ a * x) (hb : d ∣ b * x) (hn : d ∣ n * x) : d ∣ x := by
  have h1 : g3 (x * a) (x * b) (x * n) = x.natAbs := by rw [g3_mul, h, Nat.mul_one]
  have h2 : d ∣ (g3 (x * a) (x * b) (x * n) : Int) := by
    unfold g3
    exact Int.dvd_coe_gcd (Int.dvd_coe_gcd (by rw [Int.mul_comm]; exact ha) (by rw [Int.mul_comm]; exact hn)) (by rw [Int.mul_comm]; exact hb)
  rw [h1] at h2
  exact Int.dvd_natAbs.mp h2
structure Low3 (a b n : Int) (r : T3 Int Int Int) : Prop where
  pos : 0 < r.c
  le : r.c ≤ n
  sa : r.a.natAbs ≤ a.natAbs
  sb : r.b.natAbs ≤ b.natAbs
  ea : r.a * n = a * r.c
  eb : r.b * n = b * r.c
  one : g3 r.a r.b r.c = 1
structure Pt (n : Nat) (r : T3 Int Int Int) : Prop where
  pos : 0 < r.c
  sa : r.a.natAbs < 2 ^ n
  sb : r.b.natAbs < 2 ^ n
  sc : r.c.natAbs < 2 ^ n
  one : g3 r.a r.b r.c = 1
theorem Pt.mono {n m : Nat} {r : T3 Int Int Int} (h : Pt n r) (hn : n ≤ m) : Pt m r := ⟨h.pos, pow_le h.sa hn, pow_le h.sb hn, pow_le h.sc hn, h.one⟩
theorem Low3.pt {a b n : Int} {r : T3 Int Int Int} {k : Nat} (w : Low3 a b n r) (ha : a.natAbs < 2 ^ k) (hb : b.natAbs < 2 ^ k) (hn : n.natAbs < 2 ^ k) : Pt k r :=
  ⟨w.pos, Nat.lt_of_le_of_lt w.sa ha, Nat.lt_of_le_of_lt w.sb hb, Nat.lt_of_le_of_lt (by have := w.pos; have := w.le; omega) hn, w.one⟩
theorem low3_mk {a b n : Int} (h : 0 < n) : Low3 a b n ⟨a / (g3 a b n : Int), b / (g3 a b n : Int), n / (g3 a b n : Int)⟩ := by
  have hg : (0 : Int) < (g3 a b n : Int) := by have := g3_pos (a := a) (b := b) (n := n) (by omega); omega
  have h1 : (g3 a b n : Int) * (a / (g3 a b n : Int)) = a := Int.mul_ediv_cancel' g3_a
  have h2 : (g3 a b n : Int) * (b / (g3 a b n : Int)) = b := Int.mul_ediv_cancel' g3_b
  have h3 : (g3 a b n : Int) * (n / (g3 a b n : Int)) = n := Int.mul_ediv_cancel' g3_n
  have hp : 0 < n / (g3 a b n : Int) := by
    rcases Int.lt_trichotomy (n / (g3 a b n : Int)) 0 with z | z | z
    · have := Int.mul_neg_of_pos_of_neg hg z; omega
    · rw [z, Int.mul_zero] at h3; omega
    · exact z
  have h4 := g3_mul (g3 a b n : Int) (a / (g3 a b n : Int)) (b / (g3 a b n : Int)) (n / (g3 a b n : Int))
  rw [h1, h2, h3] at h4
  have h5 : g3 (a / (g3 a b n : Int)) (b / (g3 a b n : Int)) (n / (g3 a b n : Int)) = 1 := by
    have e : ((g3 a b n : Nat) : Int).natAbs = g3 a b n := Int.natAbs_natCast _
    rw [e] at h4
    exact Nat.eq_of_mul_eq_mul_left (show 0 < g3 a b n by omega) (by rw [Nat.mul_one]; exact h4.symm)
  refine ⟨hp, Int.ediv_le_self _ (by omega), Int.natAbs_ediv_le_natAbs _ _, Int.natAbs_ediv_le_natAbs _ _, ?_, ?_, h5⟩
  · show a / _ * n = a * (n / _)
    generalize hG : (g3 a b n : Int) = g at *
    generalize hx : a / g = x at *
    generalize hy : n / g = y at *
    rw [← h1, ← h3]; grind
  · show b / _ * n = b * (n / _)
    generalize hG : (g3 a b n : Int) = g at *
    generalize hx : b / g = x at *
    generalize hy : n / g = y at *
    rw [← h2, ← h3]; grind
theorem pt_same {p q : T3 Int Int Int} (h1 : 0 < p.c) (h2 : 0 < q.c) (g1 : g3 p.a p.b p.c = 1) (g2 : g3 q.a q.b q.c = 1) (ea : p.a * q.c = q.a * p.c) (eb : p.b * q.c = q.b * p.c) : p = q := by
  obtain ⟨a, b, c⟩ := p
  obtain ⟨x, y, z⟩ := q
  simp only at *
  have d1 : c ∣ z := g3_dvd g1 ⟨x, by rw [ea, Int.mul_comm]⟩ ⟨y, by rw [eb, Int.mul_comm]⟩ ⟨z, rfl⟩
  have d2 : z ∣ c := g3_dvd g2 ⟨a, by rw [← ea, Int.mul_comm]⟩ ⟨b, by rw [← eb, Int.mul_comm]⟩ ⟨c, rfl⟩
  have l1 := Int.le_of_dvd h2 d1
  have l2 := Int.le_of_dvd h1 d2
  have e : c = z := by omega
  subst e
  have e1 : a = x := Int.eq_of_mul_eq_mul_right (by omega) ea
  have e2 : b = y := Int.eq_of_mul_eq_mul_right (by omega) eb
  rw [e1, e2]
theorem Low3.is' {a b n : Int} {r q : T3 Int Int Int} (w : Low3 a b n r) (hn : 0 < n) (h : 0 < q.c) (g : g3 q.a q.b q.c = 1) (ea : q.a * n = a * q.c) (eb : q.b * n = b * q.c) : r = q := by
  refine pt_same w.pos h w.one g ?_ ?_
  · have h1 := w.ea
    refine Int.eq_of_mul_eq_mul_right (show n ≠ 0 by omega) ?_
    grind
  · have h1 := w.eb
    refine Int.eq_of_mul_eq_mul_right (show n ≠ 0 by omega) ?_
    grind
theorem Low3.is {a b n : Int} {r q : T3 Int Int Int} {k : Nat} (w : Low3 a b n r) (hn : 0 < n) (h : Pt k q) (ea : q.a * n = a * q.c) (eb : q.b * n = b * q.c) : r = q := w.is' hn h.pos h.one ea eb
theorem Low3.both {a b n : Int} {r q : T3 Int Int Int} (w : Low3 a b n r) (v : Low3 a b n q) (hn : 0 < n) : r = q := w.is' hn v.pos v.one v.ea v.eb
/-! ### plain: lists by place -/
theorem foldO_at {α τ : Type} {f : α → τ → Option τ} (I : Nat → τ → Prop) : ∀ {xs : List α} {s : τ} (k : Nat), (∀ j x s, xs[j]? = some x → I (k + j) s → ∃ s', f x s = some s' ∧ I (k + j + 1) s') → I k s → ∃ s', foldO f xs s = some s' ∧ I (k + xs.length) s'
  | [], s, k, _, h => ⟨s, rfl, h⟩
  | x :: xs, s, k, hf, h => by
    obtain ⟨s1, e1, h1⟩ := hf 0 x s rfl h
    obtain ⟨s2, e2, h2⟩ := foldO_at I (xs := xs) (s := s1) (k + 1) (fun j y s hy hi => by
      have := hf (j + 1) y s (by simpa using hy) (by rw [show k + (j + 1) = k + 1 + j by omega]; exact hi)
      rwa [show k + (j + 1) + 1 = k + 1 + j + 1 by omega] at this) (by simpa using h1)
    refine ⟨s2, ?_, by rw [List.length_cons, show k + (xs.length + 1) = k + 1 + xs.length by omega]; exact h2⟩
    show (f x s).bind _ = _
    rw [e1]; exact e2
theorem rangeL_len (lo : Int) (n : Nat) : (rangeL lo n).length = n := by unfold rangeL; rw [List.length_map, List.length_range]
theorem rangeL_at {lo : Int} {n j : Nat} {x : Int} (h : (rangeL lo n)[j]? = some x) : x = lo + (j : Int) ∧ j < n := by
  have hl : j < n := by
    have := (List.getElem?_eq_some_iff.mp h).1
    rwa [rangeL_len] at this
  rw [rangeL_get hl] at h
  exact ⟨(Option.some.inj h).symm, hl⟩
theorem foldO_range {τ : Type} {f : Int → τ → Option τ} {lo : Int} {n : Nat} {s : τ} (I : Nat → τ → Prop) (hf : ∀ j s, j < n → I j s → ∃ s', f (lo + (j : Int)) s = some s' ∧ I (j + 1) s') (h : I 0 s) : ∃ s', foldO f (rangeL lo n) s = some s' ∧ I n s' := by
  obtain ⟨s', e, h'⟩ := foldO_at I (xs := rangeL lo n) (s := s) (f := f) 0 (fun j x s hx hi => by
    obtain ⟨e, hl⟩ := rangeL_at hx
    subst e
    rw [Nat.zero_add] at hi ⊢
    exact hf j s hl hi) h
  rw [Nat.zero_add, rangeL_len] at h'
  exact ⟨s', e, h'⟩
theorem ix_neg {α : Type} {xs : List α} {k : Nat} (h : k < xs.length) : ix xs (-1 - (k : Int)) = some (xs[xs.length - 1 - k]'(by omega)) := by
  unfold ix atI ixN
  rw [if_neg (by omega), if_pos (by omega)]
  simp only [Option.bind_some]
  rw [show (-1 - (k : Int) + (xs.length : Int)).toNat = xs.length - 1 - k by omega]
  exact List.getElem?_eq_getElem _
theorem slice_from {α : Type} {xs : List α} {k : Nat} (h : k ≤ xs.length) : slice xs (some (k : Int)) none = xs.drop k := by
  unfold slice
  rw [HT.sIx_nat, HT.sIx_none, Nat.min_eq_left h]
  exact List.take_of_length_le (by rw [List.length_drop]; omega)
theorem slice_to {α : Type} {xs : List α} {k : Nat} (h : k ≤ xs.length) : slice xs none (some (k : Int)) = xs.take k := by
  unfold slice
  rw [HT.sIx_nat, HT.sIx_none, Nat.min_eq_left h]
  rfl
theorem mapO_all {α β : Type} {f : α → Option β} {g : α → β} : ∀ {xs : List α}, (∀ x ∈ xs, f x = some (g x)) → mapO f xs = some (xs.map g)
  | [], _ => rfl
  | x :: xs, h => by
    show (f x).bind _ = _
    rw [h x List.mem_cons_self]
    simp only [Option.bind_some]
    rw [mapO_all fun y hy => h y (List.mem_cons_of_mem _ hy)]
    rfl
/-! ### plain: closed ways -/
section
variable {α : Type}
def ps (f : α → α → Int) : α → List α → Int
  | _, [] => 0
  | a, x :: xs => f a x + ps f x xs
theorem ps_append (f : α → α → Int) : ∀ (a : α) (xs ys : List α) (b : α), xs.getLast? = some b → ps f a (xs ++ ys) = ps f a xs + ps f b ys
  | a, [], ys, b, h => by cases h
  | a, [x], ys, b, h => by cases h; simp [ps]
  | a, x :: y :: xs, ys, b, h => by
    have := ps_append f x (y :: xs) ys b (by simpa using h)
    show f a x + ps f x (y :: xs ++ ys) = f a x + ps f x (y :: xs) + ps f b ys
    rw [this]; omega
/-- once round -/
def cy (f : α → α → Int) (xs : List α) : Int := match xs.getLast? with
  | some l => ps f l xs
  | none => 0
theorem cy_rot (f : α → α → Int) (xs ys : List α) : cy f (xs ++ ys) = cy f (ys ++ xs) := by
  cases hx : xs.getLast? with
  | none => rw [List.getLast?_eq_none_iff] at hx; subst hx; simp
  | some a =>
    cases hy : ys.getLast? with
    | none => rw [List.getLast?_eq_none_iff] at hy; subst hy; simp
    | some b =>
      have e1 : (xs ++ ys).getLast? = some b := by rw [List.getLast?_append, hy]; rfl
      have e2 : (ys ++ xs).getLast? = some a := by rw [List.getLast?_append, hx]; rfl
      unfold cy
      rw [e1, e2]
      show ps f b (xs ++ ys) = ps f a (ys ++ xs)
      rw [ps_append f b xs ys a hx, ps_append f a ys xs b hy]; omega
theorem ps_one (f : α → α → Int) : ∀ (a : α) (xs : List α) (b c : α), (a :: xs).getLast? = some c → ps f a (xs ++ [b]) = ps f a xs + f c b
  | a, [], b, c, h => by cases h; simp [ps]
  | a, x :: xs, b, c, h => by
    have := ps_one f x xs b c (by simpa using h)
    show f a x + ps f x (xs ++ [b]) = f a x + ps f x xs + f c b
    rw [this]; omega
theorem ps_rev (f : α → α → Int) (hf : ∀ a b, f b a = -f a b) : ∀ (xs : List α) (a b : α), ps f b (xs.reverse ++ [a]) = -ps f a (xs ++ [b])
  | [], a, b => by simp [ps, hf a b]
  | x :: xs, a, b => by
    have ih := ps_rev f hf xs x b
    rw [List.reverse_cons]
    have e : ((b :: (xs.reverse ++ [x])).getLast?) = some x := by simp [List.getLast?_cons]
    rw [ps_one f b (xs.reverse ++ [x]) a x e, ih]
    show -ps f x (xs ++ [b]) + f x a = -(f a x + ps f x (xs ++ [b]))
    rw [hf a x]; omega
theorem cy_rev (f : α → α → Int) (hf : ∀ a b, f b a = -f a b) (xs : List α) : cy f xs.reverse = -cy f xs := by
  cases xs with
  | nil => rfl
  | cons x t =>
    obtain ⟨l, hl⟩ : ∃ l, (x :: t).getLast? = some l := by cases h : (x :: t).getLast? with
      | none => rw [List.getLast?_eq_none_iff] at h; cases h
      | some l => exact ⟨l, rfl⟩
    have e1 : (x :: t).reverse.getLast? = some x := by simp
    unfold cy
    rw [hl, e1]
    show ps f x (x :: t).reverse = -ps f l (x :: t)
    rw [List.reverse_cons, ps_rev f hf t x x, ps_one f x t x l hl]
    show -(ps f x t + f l x) = -(f l x + ps f x t)
    omega
end
abbrev P3 : Type := T3 Int Int Int
def prev (xs : List P3) (j : Nat) : P3 := xs.getD (if j = 0 then xs.length - 1 else j - 1) ⟨0, 0, 0⟩
theorem ix_prev {xs : List P3} {j : Nat} (h : j < xs.length) : ix xs ((j : Int) - 1) = some (prev xs j) := by
  unfold prev
  by_cases z : j = 0
  · subst z
    have := ix_neg (xs := xs) (k := 0) h
    rw [show (-1 : Int) - ((0 : Nat) : Int) = ((0 : Nat) : Int) - 1 by omega] at this
    rw [this, if_pos rfl, List.getD_eq_getElem?_getD, List.getElem?_eq_getElem (by omega)]
    rfl
  · have h2 : j - 1 < xs.length := by omega
    have := ix_lt h2
    rw [show ((j - 1 : Nat) : Int) = (j : Int) - 1 by omega] at this
    rw [this, if_neg z, List.getD_eq_getElem?_getD, List.getElem?_eq_getElem h2]
    rfl
theorem prev_mem {xs : List P3} {j : Nat} (h : j < xs.length) : prev xs j ∈ xs := by
  unfold prev
  rw [List.getD_eq_getElem?_getD]
  have hl : (if j = 0 then xs.length - 1 else j - 1) < xs.length := by split <;> omega
  rw [List.getElem?_eq_getElem hl]
  exact List.getElem_mem hl
/-- the sum so far -/
def St (f : P3 → P3 → Int) (xs : List P3) : Nat → Int
  | 0 => 0
  | k + 1 => St f xs k + f (prev xs k) (xs.getD k ⟨0, 0, 0⟩)
theorem st_ps (f : P3 → P3 → Int) (xs : List P3) : ∀ k, k < xs.length → St f xs k + ps f (prev xs k) (xs.drop k) = ps f (prev xs 0) xs
  | 0, h => by simp [St]
  | k + 1, h => by
    have ih := st_ps f xs k (by omega)
    rw [List.drop_eq_getElem_cons (show k < xs.length by omega)] at ih
    show St f xs k + f (prev xs k) (xs.getD k ⟨0, 0, 0⟩) + ps f (prev xs (k + 1)) (xs.drop (k + 1)) = _
    have e : xs.getD k ⟨0, 0, 0⟩ = xs[k] := by rw [List.getD_eq_getElem?_getD, List.getElem?_eq_getElem (by omega)]; rfl
    have e2 : prev xs (k + 1) = xs[k] := by
      unfold prev
      rw [if_neg (by omega), Nat.add_sub_cancel]; exact e
    rw [e2, e]
    have ih' : St f xs k + (f (prev xs k) xs[k] + ps f xs[k] (xs.drop (k + 1))) = ps f (prev xs 0) xs := ih
    omega
theorem st_cy (f : P3 → P3 → Int) (xs : List P3) (h : 0 < xs.length) : St f xs xs.length = cy f xs := by
  obtain ⟨n, hn⟩ : ∃ n, xs.length = n + 1 := ⟨xs.length - 1, by omega⟩
  have e0 : xs.getLast? = some (prev xs 0) := by
    unfold prev
    rw [List.getLast?_eq_getElem?, if_pos rfl, List.getD_eq_getElem?_getD, List.getElem?_eq_getElem (by omega)]
    rfl
  have := st_ps f xs n (by omega)
  unfold cy
  rw [e0]
  show _ = ps f (prev xs 0) xs
  rw [← this, hn, List.drop_eq_getElem_cons (show n < xs.length by omega), List.drop_eq_nil_of_le (by omega)]
  show St f xs n + f (prev xs n) (xs.getD n ⟨0, 0, 0⟩) = St f xs n + (f (prev xs n) xs[n] + 0)
  rw [List.getD_eq_getElem?_getD, List.getElem?_eq_getElem (by omega)]
  simp
/-- the bottoms of all -/
def PB : List P3 → Int
  | [] => 1
  | p :: xs => p.c * PB xs
theorem pb_append : ∀ (xs ys : List P3), PB (xs ++ ys) = PB xs * PB ys
  | [], ys => by simp [PB]
  | x :: xs, ys => by show x.c * PB (xs ++ ys) = x.c * PB xs * PB ys; rw [pb_append xs ys, Int.mul_assoc]
theorem pb_dvd : ∀ {xs : List P3} {p : P3}, p ∈ xs → p.c ∣ PB xs
  | x :: xs, p, h => by
    rcases List.mem_cons.mp h with e | e
    · subst e; exact Int.dvd_mul_right _ _
    · exact Int.dvd_trans (pb_dvd e) (Int.dvd_mul_left _ _)
theorem pb_pos : ∀ {xs : List P3}, (∀ p ∈ xs, 0 < p.c) → 0 < PB xs
  | [], _ => by decide
  | x :: xs, h => Int.mul_pos (h x List.mem_cons_self) (pb_pos fun p hp => h p (List.mem_cons_of_mem _ hp))
/-- twice the triangle with (0, 0), over P * P -/
def cr (P : Int) (p q : P3) : Int := (p.a * q.b - q.a * p.b) * ((P / p.c) * (P / q.c))
theorem cr_neg (P : Int) (p q : P3) : cr P q p = -cr P p q := by unfold cr; grind
theorem cr_eq {P : Int} {p q : P3} (hp : p.c ∣ P) (hq : q.c ∣ P) : cr P p q * (p.c * q.c) = (p.a * q.b - q.a * p.b) * (P * P) := by
  unfold cr
  have h1 := Int.ediv_mul_cancel hp
  have h2 := Int.ediv_mul_cancel hq
  generalize P / p.c = u at *
  generalize P / q.c = v at *
  grind
/-! ### plain: the sides of a closed way -/
section
variable {α β : Type}
def sdf : α → List α → List (T2 α α)
  | _, [] => []
  | a, x :: xs => ⟨a, x⟩ :: sdf x xs
def sd (xs : List α) : List (T2 α α) := match xs.getLast? with
  | some l => sdf l xs
  | none => []
theorem sdf_len : ∀ (a : α) (xs : List α), (sdf a xs).length = xs.length
  | _, [] => rfl
  | a, x :: xs => by show (sdf x xs).length + 1 = _; rw [sdf_len]; rfl
theorem sd_len (xs : List α) : (sd xs).length = xs.length := by
  unfold sd
  cases h : xs.getLast? with
  | none => rw [List.getLast?_eq_none_iff] at h; subst h; rfl
  | some l => exact sdf_len l xs
theorem sdf_at : ∀ {xs : List α} {a : α} {j : Nat} {q : α}, xs[j]? = some q → (sdf a xs)[j]? = some ⟨(a :: xs)[j]?.getD q, q⟩
  | [], _, _, _, h => by simp at h
  | x :: xs, a, 0, q, h => by simp at h; subst h; rfl
  | x :: xs, a, j + 1, q, h => by
    have := sdf_at (xs := xs) (a := x) (j := j) (q := q) (by simpa using h)
    show (sdf x xs)[j]? = _
    rw [this]
    rfl
/-- side j: the item ahead, item j -/
theorem sd_at {xs : List α} {j : Nat} (h : j < xs.length) : ∃ p q, (sd xs)[j]? = some ⟨p, q⟩ ∧ ix xs ((j : Int) - 1) = some p ∧ ix xs (j : Int) = some q ∧ p ∈ xs ∧ q ∈ xs := by
  obtain ⟨l, hl⟩ : ∃ l, xs.getLast? = some l := by
    cases h2 : xs.getLast? with
    | none => rw [List.getLast?_eq_none_iff] at h2; subst h2; simp at h
    | some l => exact ⟨l, rfl⟩
  have hq : xs[j]? = some xs[j] := List.getElem?_eq_getElem h
  have e := sdf_at (a := l) hq
  have es : sd xs = sdf l xs := by unfold sd; rw [hl]
  rw [es]
  by_cases z : j = 0
  · subst z
    refine ⟨l, xs[0], e, ?_, ix_lt h, List.mem_of_getLast? hl, List.getElem_mem h⟩
    have := ix_neg (xs := xs) (k := 0) h
    rw [show (-1 : Int) - ((0 : Nat) : Int) = ((0 : Nat) : Int) - 1 by omega] at this
    rw [this]
    rw [List.getLast?_eq_getElem?] at hl
    rw [← hl, List.getElem?_eq_getElem (by omega)]
    simp
  · have h2 : j - 1 < xs.length := by omega
    have e1 : (l :: xs)[j]?.getD xs[j] = xs[j - 1] := by
      obtain ⟨i, rfl⟩ : ∃ i, j = i + 1 := ⟨j - 1, by omega⟩
      show xs[i]?.getD _ = _
      rw [List.getElem?_eq_getElem (by omega)]
      rfl
    rw [e1] at e
    refine ⟨xs[j - 1], xs[j], e, ?_, ix_lt h, List.getElem_mem h2, List.getElem_mem h⟩
    have := ix_lt h2
    rw [show ((j - 1 : Nat) : Int) = (j : Int) - 1 by omega] at this
    exact this
theorem sd_mem {xs : List α} {p q : α} (h : ⟨p, q⟩ ∈ sd xs) : p ∈ xs ∧ q ∈ xs := by
  obtain ⟨j, hj⟩ := List.getElem?_of_mem h
  have hl := (List.getElem?_eq_some_iff.mp hj).1
  rw [sd_len] at hl
  obtain ⟨p', q', e, _, _, h1, h2⟩ := sd_at hl
  rw [hj] at e
  cases e
  exact ⟨h1, h2⟩
theorem sdf_map (f : α → β) : ∀ (a : α) (xs : List α), sdf (f a) (xs.map f) = (sdf a xs).map fun s => ⟨f s.a, f s.b⟩
  | _, [] => rfl
  | a, x :: xs => by show _ :: sdf (f x) (xs.map f) = _; rw [sdf_map f x xs]; rfl
theorem sd_map (f : α → β) (xs : List α) : sd (xs.map f) = (sd xs).map fun s => ⟨f s.a, f s.b⟩ := by
  unfold sd
  rw [List.getLast?_map]
  cases xs.getLast? with
  | none => rfl
  | some l => exact sdf_map f l xs
theorem ps_sum (f : α → α → Int) : ∀ (a : α) (xs : List α), ps f a xs = ((sdf a xs).map fun s => f s.a s.b).sum
  | _, [] => rfl
  | a, x :: xs => by show f a x + ps f x xs = _; rw [ps_sum f x xs]; rfl
theorem cy_sum (f : α → α → Int) (xs : List α) : cy f xs = ((sd xs).map fun s => f s.a s.b).sum := by
  unfold cy sd
  cases xs.getLast? with
  | none => rfl
  | some l => exact ps_sum f l xs
theorem cy_map (f : β → β → Int) (h : α → β) (xs : List α) : cy f (xs.map h) = cy (fun a b => f (h a) (h b)) xs := by
  rw [cy_sum, cy_sum, sd_map, List.map_map]
  rfl
theorem ps_tel (φ : α → Int) : ∀ (a : α) (xs : List α) (l : α), (a :: xs).getLast? = some l → ps (fun p q => φ q - φ p) a xs = φ l - φ a
  | a, [], l, h => by cases h; simp [ps]
  | a, x :: xs, l, h => by
    have := ps_tel φ x xs l (by simpa using h)
    show φ x - φ a + ps _ x xs = _
    rw [this]; omega
theorem cy_tel (φ : α → Int) (xs : List α) : cy (fun p q => φ q - φ p) xs = 0 := by
  unfold cy
  cases h : xs.getLast? with
  | none => rfl
  | some l =>
    show ps _ l xs = 0
    rw [ps_tel φ l xs l (by rw [List.getLast?_cons, h]; rfl)]; omega
theorem cy_congr {f g : α → α → Int} {xs : List α} (h : ∀ p ∈ xs, ∀ q ∈ xs, f p q = g p q) : cy f xs = cy g xs := by
  rw [cy_sum, cy_sum]
  congr 1
  refine List.map_congr_left fun s hs => ?_
  obtain ⟨p, q⟩ := s
  exact h p (sd_mem hs).1 q (sd_mem hs).2
theorem cy_add (f g : α → α → Int) (xs : List α) : cy (fun p q => f p q + g p q) xs = cy f xs + cy g xs := by
  rw [cy_sum, cy_sum, cy_sum]
  induction sd xs with
  | nil => rfl
  | cons s l ih => rw [List.map_cons, List.map_cons, List.map_cons, List.sum_cons, List.sum_cons, List.sum_cons, ih]; omega
theorem cy_mul (k : Int) (f : α → α → Int) (xs : List α) : cy (fun p q => k * f p q) xs = k * cy f xs := by
  rw [cy_sum, cy_sum]
  induction sd xs with
  | nil => simp
  | cons s l ih => rw [List.map_cons, List.map_cons, List.sum_cons, List.sum_cons, ih, Int.mul_add]
theorem cy_le {f : α → α → Int} {xs : List α} {B : Nat} (h : ∀ p ∈ xs, ∀ q ∈ xs, (f p q).natAbs ≤ B) : (cy f xs).natAbs ≤ xs.length * B := by
  rw [cy_sum, ← sd_len xs]
  have : ∀ s ∈ sd xs, (f s.a s.b).natAbs ≤ B := fun s hs => h _ (sd_mem hs).1 _ (sd_mem hs).2
  revert this
  induction sd xs with
  | nil => intro _; simp
  | cons s l ih =>
    intro this
    have h1 := this s List.mem_cons_self
    have h2 := ih fun t ht => this t (List.mem_cons_of_mem _ ht)
    rw [List.map_cons, List.sum_cons, List.length_cons, Nat.succ_mul]
    omega
end
/-! ### loops with a state -/
theorem mapS_inv {α β τ : Type} {f : α → τ → Option (β × τ)} (I : τ → Prop) (P : α → β → Prop) : ∀ {xs : List α} {s : τ}, (∀ x s, x ∈ xs → I s → ∃ y s', f x s = some (y, s') ∧ I s' ∧ P x y) → I s → ∃ ys s', mapS f xs s = some (ys, s') ∧ I s' ∧ ys.length = xs.length ∧ ∀ y ∈ ys, ∃ x ∈ xs, P x y
  | [], s, _, h => ⟨[], s, rfl, h, rfl, fun _ h => nomatch h⟩
  | x :: xs, s, hf, h => by
    obtain ⟨y, s1, e1, h1, p1⟩ := hf x s List.mem_cons_self h
    obtain ⟨ys, s2, e2, h2, l2, p2⟩ := mapS_inv I P (xs := xs) (fun x s hx => hf x s (List.mem_cons_of_mem _ hx)) h1
    refine ⟨y :: ys, s2, ?_, h2, by rw [List.length_cons, List.length_cons, l2], fun z hz => ?_⟩
    · show (f x s).bind _ = _
      rw [e1]
      show (mapS f xs s1).bind _ = _
      rw [e2]; rfl
    · rcases List.mem_cons.mp hz with e | hz
      · subst e; exact ⟨x, List.mem_cons_self, p1⟩
      · obtain ⟨w, hw, p⟩ := p2 z hz
        exact ⟨w, List.mem_cons_of_mem _ hw, p⟩
theorem compL_inv {α β τ : Type} {f : α → τ → Option (Option β × τ)} (I : τ → Prop) (P : α → β → Prop) : ∀ {xs : List α} {s : τ}, (∀ x s, x ∈ xs → I s → ∃ y s', f x s = some (y, s') ∧ I s' ∧ ∀ z, y = some z → P x z) → I s → ∃ ys s', compL f xs s = some (ys, s') ∧ I s' ∧ ys.length ≤ xs.length ∧ ∀ y ∈ ys, ∃ x ∈ xs, P x y
  | [], s, _, h => ⟨[], s, rfl, h, Nat.le_refl _, fun _ h => nomatch h⟩
  | x :: xs, s, hf, h => by
    obtain ⟨y, s1, e1, h1, p1⟩ := hf x s List.mem_cons_self h
    obtain ⟨ys, s2, e2, h2, l2, p2⟩ := compL_inv I P (xs := xs) (fun x s hx => hf x s (List.mem_cons_of_mem _ hx)) h1
    have e3 : ∀ y', y' = y → compL f (x :: xs) s = some ((match y' with | some z => z :: ys | none => ys), s2) := by
      intro y' ey
      subst ey
      show (f x s).bind _ = _
      rw [e1]
      show (compL f xs s1).bind _ = _
      rw [e2]; rfl
    have e3 := e3 y rfl
    cases y with
    | none => exact ⟨ys, s2, e3, h2, by rw [List.length_cons]; omega, fun z hz => by
        obtain ⟨w, hw, p⟩ := p2 z hz
        exact ⟨w, List.mem_cons_of_mem _ hw, p⟩⟩
    | some y => exact ⟨y :: ys, s2, e3, h2, by rw [List.length_cons, List.length_cons]; omega, fun z hz => by
        rcases List.mem_cons.mp hz with e | hz
        · subst e; exact ⟨x, List.mem_cons_self, p1 _ rfl⟩
        · obtain ⟨w, hw, p⟩ := p2 z hz
          exact ⟨w, List.mem_cons_of_mem _ hw, p⟩⟩
theorem slice_sub {α : Type} {xs : List α} {lo hi : Option Int} {x : α} (h : x ∈ slice xs lo hi) : x ∈ xs := by
  unfold slice at h
  exact List.mem_of_mem_drop (List.mem_of_mem_take h)
theorem rngOk_ok {n : Int} (h1 : -1000000 ≤ n) (h2 : n ≤ 1000000) : rngOk n = some () := by unfold rngOk; rw [if_pos (by omega)]
theorem rangeL_mem {lo : Int} {n : Nat} {x : Int} (h : x ∈ rangeL lo n) : lo ≤ x ∧ x < lo + (n : Int) := by
  obtain ⟨j, hj⟩ := List.getElem?_of_mem h
  obtain ⟨e, l⟩ := rangeL_at hj
  omega
/-- a loop that tells whether all turns pass -/
theorem loopL_all {α ρ : Type} {f : α → Unit → Option (Lp Unit ρ)} {r : ρ} (P : α → Prop) : ∀ {xs : List α}, (∀ x ∈ xs, (P x ∧ f x () = some (.nxt ())) ∨ (¬ P x ∧ f x () = some (.ret r))) → ((∀ x ∈ xs, P x) ∧ loopL f xs () = some (.nxt ())) ∨ ((∃ x ∈ xs, ¬ P x) ∧ loopL f xs () = some (.ret r))
  | [], _ => .inl ⟨fun _ h => (nomatch h), rfl⟩
  | x :: xs, h => by
    rcases h x List.mem_cons_self with ⟨p, e⟩ | ⟨p, e⟩
    · rcases loopL_all P (xs := xs) fun y hy => h y (List.mem_cons_of_mem _ hy) with ⟨q, e2⟩ | ⟨⟨y, hy, q⟩, e2⟩
      · refine .inl ⟨fun y hy => ?_, ?_⟩
        · rcases List.mem_cons.mp hy with z | hy
          · subst z; exact p
          · exact q y hy
        · show (f x ()).bind _ = _
          rw [e]; exact e2
      · refine .inr ⟨⟨y, List.mem_cons_of_mem _ hy, q⟩, ?_⟩
        show (f x ()).bind _ = _
        rw [e]; exact e2
    · refine .inr ⟨⟨x, List.mem_cons_self, p⟩, ?_⟩
      show (f x ()).bind _ = _
      rw [e]; rfl
/-! ### plain: places in the plane, over one bottom -/
abbrev P2 : Type := T2 Int Int
def cr2 (p q : P2) : Int := p.a * q.b - q.a * p.b
def crs3 (o p q : P2) : Int := (p.a - o.a) * (q.b - o.b) - (p.b - o.b) * (q.a - o.a)
def hd (n : Int) (p : P2) : P3 := ⟨p.a / (g3 p.a p.b n : Int), p.b / (g3 p.a p.b n : Int), n / (g3 p.a p.b n : Int)⟩
theorem hd_low {n : Int} (hn : 0 < n) (p : P2) : Low3 p.a p.b n (hd n p) := low3_mk hn
theorem filO_all {α : Type} {f : α → Option (Option α)} {c : α → Bool} : ∀ {xs : List α}, (∀ x ∈ xs, f x = some (if c x = true then some x else none)) → filO f xs = some (xs.filter c)
  | [], _ => rfl
  | x :: xs, h => by
    show (f x).bind _ = _
    rw [h x List.mem_cons_self, Option.bind_some, filO_all fun y hy => h y (List.mem_cons_of_mem _ hy), Option.bind_some, List.filter_cons]
    cases c x <;> rfl
theorem ix_map {α β : Type} (f : α → β) (xs : List α) (i : Int) : ix (xs.map f) i = (ix xs i).map f := by
  unfold ix atI
  rw [List.length_map]
  cases ixN xs.length i with
  | none => rfl
  | some j => exact List.getElem?_map
/-! ### plain: points over one bottom -/
/-- r is u over P -/
structure Ov (P : Int) (r : P3) (u : P2) : Prop where
  pos : 0 < r.c
  ea : r.a * P = u.a * r.c
  eb : r.b * P = u.b * r.c
  one : g3 r.a r.b r.c = 1
theorem Ov.dvd {P : Int} {r : P3} {u : P2} (h : Ov P r u) : r.c ∣ P := g3_dvd h.one ⟨u.a, by rw [h.ea, Int.mul_comm]⟩ ⟨u.b, by rw [h.eb, Int.mul_comm]⟩ ⟨P, rfl⟩
theorem Ov.a {P : Int} {r : P3} {u : P2} (h : Ov P r u) : r.a * (P / r.c) = u.a := by
  obtain ⟨k, hk⟩ := h.dvd
  have hp := h.pos
  have e : P / r.c = k := by rw [hk, Int.mul_ediv_cancel_left _ (by omega)]
  rw [e]
  refine Int.eq_of_mul_eq_mul_right (show r.c ≠ 0 by omega) ?_
  rw [← h.ea, hk, Int.mul_assoc, Int.mul_comm k]
theorem Ov.b {P : Int} {r : P3} {u : P2} (h : Ov P r u) : r.b * (P / r.c) = u.b := by
  obtain ⟨k, hk⟩ := h.dvd
  have hp := h.pos
  have e : P / r.c = k := by rw [hk, Int.mul_ediv_cancel_left _ (by omega)]
  rw [e]
  refine Int.eq_of_mul_eq_mul_right (show r.c ≠ 0 by omega) ?_
  rw [← h.eb, hk, Int.mul_assoc, Int.mul_comm k]
theorem cr_ov {P : Int} {r s : P3} {u v : P2} (h : Ov P r u) (g : Ov P s v) : cr P r s = cr2 u v := by
  unfold cr cr2
  rw [← h.a, ← h.b, ← g.a, ← g.b]
  grind
theorem hd_ov {n : Int} (hn : 0 < n) (p : P2) : Ov n (hd n p) p := by
  have w := hd_low hn p
  exact ⟨w.pos, w.ea, w.eb, w.one⟩
theorem hd_pt {n : Int} (hn : 0 < n) {p : P2} {k : Nat} (ha : p.a.natAbs < 2 ^ k) (hb : p.b.natAbs < 2 ^ k) (h2 : n.natAbs < 2 ^ k) : Pt k (hd n p) := (hd_low hn p).pt ha hb h2
theorem low3_ov {a b c P A B : Int} {r : P3} (w : Low3 a b c r) (hc : c ≠ 0) (ea : a * P = A * c) (eb : b * P = B * c) : Ov P r ⟨A, B⟩ := by
  refine ⟨w.pos, Int.eq_of_mul_eq_mul_right hc ?_, Int.eq_of_mul_eq_mul_right hc ?_, w.one⟩
  · have := w.ea
    show r.a * P * c = A * r.c * c
    rw [Int.mul_right_comm, this, Int.mul_right_comm, ea]
    rw [Int.mul_right_comm]
  · have := w.eb
    show r.b * P * c = B * r.c * c
    rw [Int.mul_right_comm, this, Int.mul_right_comm, eb]
    rw [Int.mul_right_comm]
def det (p q r : T3 Int Int Int) : Int := (p.b * q.c - p.c * q.b) * r.a + (p.c * q.a - p.a * q.c) * r.b + (p.a * q.b - p.b * q.a) * r.c
def sg (n : Int) : Int := if n = 0 then 0 else if 0 < n then 1 else -1
theorem sg_neg (n : Int) : sg (-n) = -sg n := by unfold sg; (repeat' split) <;> omega
theorem sg_mul {k n : Int} (h : 0 < k) : sg (k * n) = sg n := by
  unfold sg
  rcases Int.lt_trichotomy n 0 with z | z | z
  · have := Int.mul_neg_of_pos_of_neg h z
    (repeat' split) <;> omega
  · subst z; simp
  · have := Int.mul_pos h z
    (repeat' split) <;> omega
theorem ov_k {P : Int} {r : P3} {u : P2} (h : Ov P r u) (hP : 0 < P) : ∃ k : Int, 0 < k ∧ k * r.c = P ∧ k * r.a = u.a ∧ k * r.b = u.b := by
  refine ⟨P / r.c, Int.ediv_pos_of_pos_of_dvd hP (Int.le_of_lt h.pos) h.dvd, Int.ediv_mul_cancel h.dvd, ?_, ?_⟩
  · rw [Int.mul_comm]; exact h.a
  · rw [Int.mul_comm]; exact h.b
theorem det_ov {P : Int} {p q r : P3} {u v w : P2} (hP : 0 < P) (hp : Ov P p u) (hq : Ov P q v) (hr : Ov P r w) : sg (det p q r) = sg (crs3 u v w) := by
  obtain ⟨k, k0, k1, k2, k3⟩ := ov_k hp hP
  obtain ⟨l, l0, l1, l2, l3⟩ := ov_k hq hP
  obtain ⟨m, m0, m1, m2, m3⟩ := ov_k hr hP
  have e : (k * l * m) * det p q r = P * crs3 u v w := by
    unfold det crs3
    have : (k * l * m) * ((p.b * q.c - p.c * q.b) * r.a + (p.c * q.a - p.a * q.c) * r.b + (p.a * q.b - p.b * q.a) * r.c) = ((k * p.b) * (l * q.c) - (k * p.c) * (l * q.b)) * (m * r.a) + ((k * p.c) * (l * q.a) - (k * p.a) * (l * q.c)) * (m * r.b) + ((k * p.a) * (l * q.b) - (k * p.b) * (l * q.a)) * (m * r.c) := by
      clear k1 k2 k3 l1 l2 l3 m1 m2 m3; grind
    rw [this, k1, k2, k3, l1, l2, l3, m1, m2, m3]
    clear this k1 k2 k3 l1 l2 l3 m1 m2 m3; grind
  rw [← sg_mul (n := det p q r) (Int.mul_pos (Int.mul_pos k0 l0) m0), e, sg_mul hP]
theorem divisor_ok (a b : Int) : m_greatest_divisor a b = some (Int.gcd a b : Int) := by
  unfold m_greatest_divisor
  simp only [Option.bind_some, iabs_eq]
  rw [gcd_loop _ _ _ (by omega) (by omega) (by omega)]
  simp only [Option.bind_some, Lp.out]
  congr 2
theorem divG_mul {u s : Int} (n : Nat) (h : s ≠ 0) (hb : s.natAbs < 2 ^ n) (hn : n < 9000) : divG (u * s) s = some u := by
  unfold divG
  rw [if_pos ⟨h, Nat.lt_of_le_of_lt (log2_le hb) hn⟩, Int.mul_fdiv_cancel _ h]
theorem pos_l {v s : Int} (hs : 0 < s) (h : 0 < v * s) : 0 < v := by
  rcases Int.lt_or_le 0 v with z | z
  · exact z
  · have := Int.mul_le_mul_of_nonneg_right z (Int.le_of_lt hs)
    rw [Int.zero_mul] at this; omega
/-- r is S over B, in lowest terms -/
structure Is (B S : Int) (r : T2 Int Int) : Prop where
  pos : 0 < r.b
  one : Int.gcd r.a r.b = 1
  eq : r.a * B = S * r.b
theorem Is.dvd {B S : Int} {r : T2 Int Int} (h : Is B S r) : r.b ∣ B := gcd_dvd (a := r.a) ⟨S, by rw [h.eq, Int.mul_comm]⟩ h.one
theorem Is.rt {B S : Int} {r : T2 Int Int} {n : Nat} (h : Is B S r) (hB : 0 < B) (sB : B.natAbs < 2 ^ n) (sS : S.natAbs < 2 ^ n) : Rt n r := by
  have hb := Int.le_of_dvd hB h.dvd
  have hp := h.pos
  refine ⟨h.pos, ?_, Nat.lt_of_le_of_lt (by omega) sB, h.one⟩
  have e : r.a.natAbs * B.natAbs = S.natAbs * r.b.natAbs := by rw [← Int.natAbs_mul, h.eq, Int.natAbs_mul]
  have l : S.natAbs * r.b.natAbs ≤ S.natAbs * B.natAbs := Nat.mul_le_mul_left _ (by omega)
  rw [← e] at l
  exact Nat.lt_of_le_of_lt (Nat.le_of_mul_le_mul_right l (by omega)) sS
theorem Is.same {B S : Int} {r q : T2 Int Int} (hB : 0 < B) (h : Is B S r) (g : Is B S q) : r = q := by
  refine rt_same h.pos g.pos h.one g.one (Int.eq_of_mul_eq_mul_right (show B ≠ 0 by omega) ?_)
  have := h.eq; have := g.eq; grind
theorem Is.sum {B S T : Int} {p q r : T2 Int Int} (hp : Is B S p) (hq : Is B T q) (w : Low (p.a * q.b + q.a * p.b) (p.b * q.b) r) : Is B (S + T) r := by
  refine ⟨w.pos, w.one, Int.eq_of_mul_eq_mul_right (show p.b * q.b ≠ 0 by have := Int.mul_pos hp.pos hq.pos; omega) ?_⟩
  have := w.eq; have := hp.eq; have := hq.eq; grind
theorem Is.sub {B S T : Int} {p q r : T2 Int Int} (hp : Is B S p) (hq : Is B T q) (w : Low (p.a * q.b - q.a * p.b) (p.b * q.b) r) : Is B (S - T) r := by
  refine ⟨w.pos, w.one, Int.eq_of_mul_eq_mul_right (show p.b * q.b ≠ 0 by have := Int.mul_pos hp.pos hq.pos; omega) ?_⟩
  have := w.eq; have := hp.eq; have := hq.eq; grind
theorem ratio_ok {t b : Int} (h : 0 < b) (hb : b.natAbs < 2 ^ 8000) : ∃ r, m_ratio t b = some r ∧ Low t b r := by
  unfold m_ratio
  have hg := gcd_pos (a := t) h
  have hl := gcd_le (a := t) h
  have hs : (Int.gcd t b : Int).natAbs < 2 ^ 8000 := Nat.lt_of_le_of_lt (by omega) hb
  rw [if_neg (by simp; omega), divisor_ok]
  simp only [Option.bind_some]
  rw [if_neg (by simp; omega)]
  simp only [Option.bind_some]
  rw [divG_pos 8000 hg hs (by decide), divG_pos 8000 hg hs (by decide)]
  exact ⟨_, rfl, low_mk h⟩
theorem crossed_ok {p q : T3 Int Int Int} {n m : Nat} (hp : Pt n p) (hq : Pt m q) (h : n + m ≤ 7000) : m_crossed p q = some ⟨p.b * q.c - p.c * q.b, p.c * q.a - p.a * q.c, p.a * q.b - p.b * q.a⟩ := by
  unfold m_crossed
  rw [mulG_ok _ _ hp.sb hq.sc (by omega), mulG_ok _ _ hp.sc hq.sb (by omega), mulG_ok _ _ hp.sc hq.sa (by omega), mulG_ok _ _ hp.sa hq.sc (by omega), mulG_ok _ _ hp.sa hq.sb (by omega), mulG_ok _ _ hp.sb hq.sa (by omega)]
  rfl
theorem side_ok {p q r : T3 Int Int Int} {n : Nat} (hp : Pt n p) (hq : Pt n q) (hr : Pt n r) (h : n ≤ 3000) : m_side p q r = some (sg (det p q r)) := by
  unfold m_side
  rw [crossed_ok hp hq (by omega)]
  simp only [Option.bind_some]
  rw [mulG_ok _ _ (sz_sub (sz_mul hp.sb hq.sc) (sz_mul hp.sc hq.sb)) hr.sa (by omega), mulG_ok _ _ (sz_sub (sz_mul hp.sc hq.sa) (sz_mul hp.sa hq.sc)) hr.sb (by omega), mulG_ok _ _ (sz_sub (sz_mul hp.sa hq.sb) (sz_mul hp.sb hq.sa)) hr.sc (by omega)]
  simp only [Option.bind_some]
  show _ = some (sg (det p q r))
  unfold sg det
  (try simp only [decide_eq_true_eq])
  (repeat' split) <;> rfl
/-! ### plain: points told in lowest terms, rings that bulge outward, areas of small rings -/
theorem ov_same {P : Int} {r s : P3} {u : P2} (hP : 0 < P) (h : Ov P r u) (g : Ov P s u) : r = s := by
  refine pt_same h.pos g.pos h.one g.one ?_ ?_
  · refine Int.eq_of_mul_eq_mul_right (show P ≠ 0 by omega) ?_
    have := h.ea
    have := g.ea
    grind
  · refine Int.eq_of_mul_eq_mul_right (show P ≠ 0 by omega) ?_
    have := h.eb
    have := g.eb
    grind
theorem hd_scale {k n a b : Int} (hk : 0 < k) (hn : 0 < n) : hd (k * n) ⟨k * a, k * b⟩ = hd n ⟨a, b⟩ := by
  have w := hd_low hn ⟨a, b⟩
  refine ov_same (Int.mul_pos hk hn) (hd_ov (Int.mul_pos hk hn) _) ⟨w.pos, ?_, ?_, w.one⟩
  · have := w.ea
    show (hd n ⟨a, b⟩).a * (k * n) = k * a * (hd n ⟨a, b⟩).c
    simp only at this
    grind
  · have := w.eb
    show (hd n ⟨a, b⟩).b * (k * n) = k * b * (hd n ⟨a, b⟩).c
    simp only at this
    grind
theorem g3_flat (a b n : Int) : ((Int.gcd (Int.gcd a b : Int) n : Nat) : Int) = (g3 a b n : Int) := by
  unfold g3
  show ((Nat.gcd (Nat.gcd a.natAbs b.natAbs) n.natAbs : Nat) : Int) = ((Nat.gcd (Nat.gcd a.natAbs n.natAbs) b.natAbs : Nat) : Int)
  rw [Nat.gcd_assoc, Nat.gcd_comm b.natAbs, ← Nat.gcd_assoc]
theorem lawpnt_ok {a b n : Int} (h : 0 < n) (hn : n.natAbs < 2 ^ 8000) : m__law_point a b n = some (hd n ⟨a, b⟩) := by
  unfold m__law_point
  have hg : (0 : Int) < (g3 a b n : Int) := by have := g3_pos (a := a) (b := b) (n := n) (by omega); omega
  have hl := g3_le (a := a) (b := b) h
  have hs : (g3 a b n : Int).natAbs < 2 ^ 8000 := Nat.lt_of_le_of_lt (by omega) hn
  rw [Option.bind_some]
  simp only [foldO]
  rw [gcd_loop _ _ _ (by rw [iabs_eq]; omega) (by rw [iabs_eq]; omega) (by omega)]
  simp only [Option.bind_some, Lp.out]
  rw [gcd_loop _ _ _ (by omega) (by omega) (by omega)]
  simp only [Option.bind_some, Lp.out]
  have e : ((Int.gcd (Int.gcd (iabs a) (iabs b) : Int) n : Nat) : Int) = (g3 a b n : Int) := by
    rw [iabs_eq, iabs_eq]; exact g3_flat a b n
  rw [e, divG_pos 8000 hg hs (by decide), divG_pos 8000 hg hs (by decide), divG_pos 8000 hg hs (by decide)]
  rfl
theorem hd_self {r : P3} (h : g3 r.a r.b r.c = 1) : hd r.c ⟨r.a, r.b⟩ = r := by
  unfold hd
  simp only [h]
  obtain ⟨a, b, c⟩ := r
  simp
theorem ispoint_ok {r : P3} {k : Nat} (h : Pt k r) (hk : k ≤ 3000) : m__law_is_point r = some true := by
  unfold m__law_is_point
  rw [if_neg (by decide)]
  simp only [loopL, Bool.not_true, Bool.or_false, Bool.false_eq_true, if_false, Option.bind_some, Lp.out]
  rw [if_pos (by simpa using h.pos), lawpnt_ok h.pos (pow_le h.sc (by omega)), Option.bind_some, Option.bind_some, hd_self h.one]
  simp
theorem sg_b2 (n : Int) : b2 (decide (0 < n)) - b2 (decide (n < 0)) = sg n := by
  unfold sg
  rcases Int.lt_trichotomy n 0 with z | z | z
  · rw [decide_eq_false (by omega), decide_eq_true z, if_neg (by omega), if_neg (by omega)]; rfl
  · subst z; rfl
  · rw [decide_eq_true z, decide_eq_false (by omega), if_neg (by omega), if_pos z]; rfl
theorem lawside_ok {p q r : P3} {n : Nat} (hp : Pt n p) (hq : Pt n q) (hr : Pt n r) (h : n ≤ 3000) : m__law_side p q r = some (sg (det p q r)) := by
  unfold m__law_side
  rw [mulG_ok _ _ hq.sb hr.sc (by omega), Option.bind_some, mulG_ok _ _ hq.sc hr.sb (by omega), Option.bind_some, mulG_ok _ _ hp.sa (sz_sub (sz_mul hq.sb hr.sc) (sz_mul hq.sc hr.sb)) (by omega), Option.bind_some]
  rw [mulG_ok _ _ hq.sa hr.sc (by omega), Option.bind_some, mulG_ok _ _ hq.sc hr.sa (by omega), Option.bind_some, mulG_ok _ _ hp.sb (sz_sub (sz_mul hq.sa hr.sc) (sz_mul hq.sc hr.sa)) (by omega), Option.bind_some, Option.bind_some]
  rw [mulG_ok _ _ hq.sa hr.sb (by omega), Option.bind_some, mulG_ok _ _ hq.sb hr.sa (by omega), Option.bind_some, mulG_ok _ _ hp.sc (sz_sub (sz_mul hq.sa hr.sb) (sz_mul hq.sb hr.sa)) (by omega), Option.bind_some, Option.bind_some, sg_b2]
  have : p.a * (q.b * r.c - q.c * r.b) - p.b * (q.a * r.c - q.c * r.a) + p.c * (q.a * r.b - q.b * r.a) = det p q r := by unfold det; grind
  rw [this]
/-- a ring over P -/
structure Rv (P : Int) (h : P2 → P3) (us : List P2) : Prop where
  ov : ∀ u ∈ us, Ov P (h u) u
  pt : ∀ u ∈ us, Pt 200 (h u)
theorem convex_ok {P : Int} (hP : 0 < P) {us : List P2} {h : P2 → P3} (v : Rv P h us) (h3 : 3 ≤ us.length) (hl : us.length ≤ 1000)
    (cv : ∀ k l j (a : k < us.length) (b : j < us.length) (c : l < us.length), (l = k + 1 ∨ (k + 1 = us.length ∧ l = 0)) → j ≠ k → j ≠ l → 0 < crs3 us[k] us[l] us[j]) : m__law_is_convex (us.map h) = some true := by
  unfold m__law_is_convex
  simp only [List.length_map]
  rw [if_neg (by simp; omega), lenOk_ok (by omega), Option.bind_some]
  rw [filO_all (c := fun _ => false) fun x hx => by
    obtain ⟨u, hu, e⟩ := List.mem_map.mp hx
    subst e
    rw [ispoint_ok (v.pt u hu) (by decide), Option.bind_some]; rfl]
  rw [Option.bind_some, if_neg (by simp), rngOk_ok (by omega) (by omega), Option.bind_some]
  refine loopL_bind (fun _ => True) ?_ trivial fun _ _ => rfl
  intro x _ hx _
  refine ⟨(), ?_, trivial⟩
  obtain ⟨a1, a2⟩ := rangeL_mem hx
  obtain ⟨k, rfl⟩ : ∃ k : Nat, x = (k : Int) := ⟨x.toNat, by omega⟩
  have hk : k < us.length := by omega
  rw [Option.bind_some]
  refine loopL_bind (fun _ => True) ?_ trivial fun _ _ => rfl
  intro y _ hy _
  refine ⟨(), ?_, trivial⟩
  obtain ⟨b1, b2⟩ := rangeL_mem hy
  obtain ⟨j, rfl⟩ : ∃ j : Nat, y = (j : Int) := ⟨y.toNat, by omega⟩
  have hj : j < us.length := by omega
  have em : ((k : Int) + 1) % (us.length : Int) = (((k + 1) % us.length : Nat) : Int) := by rw [Int.natCast_emod, Int.natCast_add]; rfl
  have hm : (k + 1) % us.length < us.length := Nat.mod_lt _ (by omega)
  rw [modG_pos (by omega : (0 : Int) < (us.length : Int)), Option.bind_some, em]
  by_cases z : j = k
  · rw [if_neg (by simp; omega), Option.bind_some, if_neg (by decide)]
  · rw [if_pos (by simp; omega), Option.bind_some]
    by_cases z2 : j = (k + 1) % us.length
    · rw [if_neg (by rw [Bool.not_eq_true', decide_eq_false_iff_not]; omega)]
    · rw [if_pos (by rw [Bool.not_eq_true', decide_eq_false_iff_not]; omega)]
      have i1 : ix (us.map h) (k : Int) = some (h us[k]) := by rw [ix_map, ix_lt hk]; rfl
      have i2 : ix (us.map h) (((k + 1) % us.length : Nat) : Int) = some (h us[(k + 1) % us.length]) := by rw [ix_map, ix_lt hm]; rfl
      have i3 : ix (us.map h) (j : Int) = some (h us[j]) := by rw [ix_map, ix_lt hj]; rfl
      rw [i1, Option.bind_some, Option.bind_some, i2, Option.bind_some, i3, Option.bind_some]
      have m1 := List.getElem_mem hk
      have m2 := List.getElem_mem hm
      have m3 := List.getElem_mem hj
      rw [lawside_ok (v.pt _ m1) (v.pt _ m2) (v.pt _ m3) (by decide), Option.bind_some, det_ov hP (v.ov _ m1) (v.ov _ m2) (v.ov _ m3)]
      have c := cv k ((k + 1) % us.length) j hk hj hm (by
        by_cases y : k + 1 < us.length
        · exact .inl (Nat.mod_eq_of_lt y)
        · have : k + 1 = us.length := by omega
          exact .inr ⟨this, by rw [this, Nat.mod_self]⟩) z z2
      have : sg (crs3 us[k] us[(k + 1) % us.length] us[j]) = 1 := by unfold sg; rw [if_neg (by omega), if_pos c]
      rw [this, if_neg (by decide)]
theorem rngOk_one {n : Nat} (h : n ≤ 1000) : rngOk (n : Int) = some () := rngOk_ok (by omega) (by omega)
theorem pnt_ok {a b n : Int} (h : 0 < n) (hn : n.natAbs < 2 ^ 8000) : m_point a b n = some (hd n ⟨a, b⟩) := by
  unfold m_point
  have hg : (0 : Int) < (g3 a b n : Int) := by have := g3_pos (a := a) (b := b) (n := n) (by omega); omega
  have hl := g3_le (a := a) (b := b) h
  have hs : (g3 a b n : Int).natAbs < 2 ^ 8000 := Nat.lt_of_le_of_lt (by omega) hn
  rw [if_neg (by simp; omega), divisor_ok]
  simp only [Option.bind_some]
  rw [divisor_ok]
  simp only [Option.bind_some]
  rw [if_neg (by simp; omega)]
  simp only [Option.bind_some]
  have e3 : ((Int.gcd (Int.gcd a n : Int) b : Nat) : Int) = (g3 a b n : Int) := rfl
  rw [e3, divG_pos 8000 hg hs (by decide), divG_pos 8000 hg hs (by decide), divG_pos 8000 hg hs (by decide)]
  rfl
theorem cell_ok (ns : List Int) (k : Nat) : ∃ c, m__law_cell ns (k : Int) = some c := by
  unfold m__law_cell
  by_cases z : k < ns.length
  · rw [if_pos (by simpa using z), ix_lt z]; exact ⟨_, rfl⟩
  · rw [if_neg (by simpa using z)]; exact ⟨_, rfl⟩
/-! ### plain: ratios over any bottom, lines -/
abbrev R2 : Type := T2 Int Int
def rtF (t b : Int) : R2 := if b < 0 then ⟨(-t) / (Int.gcd t b : Int), (-b) / (Int.gcd t b : Int)⟩ else ⟨t / (Int.gcd t b : Int), b / (Int.gcd t b : Int)⟩
structure Rq (t b : Int) (r : R2) : Prop where
  pos : 0 < r.b
  one : Int.gcd r.a r.b = 1
  eq : r.a * b = t * r.b
theorem gcd_neg2 (t b : Int) : Int.gcd (-t) (-b) = Int.gcd t b := by rw [Int.gcd_neg, Int.neg_gcd]
theorem rtF_rq {t b : Int} (h : b ≠ 0) : Rq t b (rtF t b) := by
  unfold rtF
  by_cases z : b < 0
  · rw [if_pos z]
    have w := low_mk (t := -t) (b := -b) (by omega)
    rw [gcd_neg2] at w
    refine ⟨w.pos, w.one, ?_⟩
    have := w.eq
    generalize ((-t) / (Int.gcd t b : Int)) = x at *
    generalize ((-b) / (Int.gcd t b : Int)) = y at *
    show x * b = t * y
    have e : x * -b = -t * y := this
    rw [Int.mul_neg, Int.neg_mul] at e
    omega
  · rw [if_neg z]
    have w := low_mk (t := t) (b := b) (by omega)
    exact ⟨w.pos, w.one, w.eq⟩
theorem rq_eq {t b u c : Int} {r q : R2} (hb : b ≠ 0) (hc : c ≠ 0) (h : Rq t b r) (g : Rq u c q) : r = q ↔ t * c = u * b := by
  have e1 := h.eq
  have e2 := g.eq
  have p1 := h.pos
  have p2 := g.pos
  constructor
  · intro e
    subst e
    refine Int.eq_of_mul_eq_mul_right (show r.b ≠ 0 by omega) ?_
    rw [Int.mul_right_comm t c, ← e1, Int.mul_right_comm u b, ← e2]
    rw [Int.mul_right_comm r.a b c]
  · intro e
    refine rt_same p1 p2 h.one g.one ?_
    refine Int.eq_of_mul_eq_mul_right (show b * c ≠ 0 from fun z => by rcases Int.mul_eq_zero.mp z with q | q; exact hb q; exact hc q) ?_
    rw [show r.a * q.b * (b * c) = (r.a * b) * c * q.b by grind, e1, show q.a * r.b * (b * c) = (q.a * c) * b * r.b by grind, e2]
    rw [show t * r.b * c * q.b = (t * c) * (r.b * q.b) by grind, e]
    grind
theorem divG_neg {t g : Int} (hg : 0 < g) (hd : g ∣ t) (n : Nat) (hb : g.natAbs < 2 ^ n) (hn : n < 9000) : divG t (-g) = some ((-t) / g) := by
  unfold divG
  obtain ⟨k, rfl⟩ := hd
  rw [if_pos ⟨by omega, by rw [Int.natAbs_neg]; exact Nat.lt_of_le_of_lt (log2_le hb) hn⟩]
  congr 1
  rw [show g * k = (-k) * (-g) by grind, Int.mul_fdiv_cancel _ (by omega), show -(-k * -g) = -k * g by grind, Int.mul_ediv_cancel _ (by omega)]
theorem ratio_nz {t b : Int} (h : b ≠ 0) (hb : b.natAbs < 2 ^ 8000) : m_ratio t b = some (rtF t b) := by
  unfold m_ratio rtF
  have hg : (0 : Int) < (Int.gcd t b : Int) := by
    have := Int.gcd_pos_of_ne_zero_right (a := t) h
    omega
  have hl : (Int.gcd t b) ≤ b.natAbs := by
    have := Nat.le_of_dvd (by omega) (Int.natAbs_dvd_natAbs.mpr (Int.gcd_dvd_right t b))
    simpa using this
  have hs : (Int.gcd t b : Int).natAbs < 2 ^ 8000 := Nat.lt_of_le_of_lt (by simpa using hl) hb
  rw [if_neg (by simpa using h), divisor_ok, Option.bind_some]
  by_cases z : b < 0
  · rw [if_pos (by simpa using z), if_pos z, Option.bind_some, Option.bind_some, divG_neg hg (Int.gcd_dvd_left t b) 8000 hs (by decide), Option.bind_some, divG_neg hg (Int.gcd_dvd_right t b) 8000 hs (by decide), Option.bind_some]
  · rw [if_neg (by simpa using z), if_neg z, Option.bind_some, divG_pos 8000 hg hs (by decide), Option.bind_some, divG_pos 8000 hg hs (by decide), Option.bind_some]
abbrev LnT : Type := T3 Int R2 R2
def la (p q : P3) : Int := p.b * q.c - p.c * q.b
def lb (p q : P3) : Int := p.c * q.a - p.a * q.c
def lc (p q : P3) : Int := p.a * q.b - p.b * q.a
def lnF (p q : P3) : LnT := if la p q = 0 then ⟨0, ⟨1, 1⟩, rtF (lc p q) (lb p q)⟩ else ⟨1, rtF (lb p q) (la p q), rtF (lc p q) (la p q)⟩
theorem ln_ne {p q : P3} (hp : 0 < p.c) (hq : 0 < q.c) (g1 : g3 p.a p.b p.c = 1) (g2 : g3 q.a q.b q.c = 1) (ne : p ≠ q) : la p q ≠ 0 ∨ lb p q ≠ 0 := by
  by_cases z : la p q = 0
  · right
    intro z2
    unfold la at z
    unfold lb at z2
    refine ne (pt_same hp hq g1 g2 ?_ ?_)
    · rw [Int.mul_comm q.a]; omega
    · rw [Int.mul_comm q.b]; omega
  · exact .inl z
theorem line_ok {p q : P3} {n : Nat} (hp : Pt n p) (hq : Pt n q) (hn : n ≤ 3500) (ne : p ≠ q) : m_line_of p q = some (lnF p q) := by
  unfold m_line_of
  have e1 := mulG_ok _ _ hp.sb hq.sc (by omega)
  have e2 := mulG_ok _ _ hp.sc hq.sb (by omega)
  have e3 := mulG_ok _ _ hp.sc hq.sa (by omega)
  have e4 := mulG_ok _ _ hp.sa hq.sc (by omega)
  have e5 := mulG_ok _ _ hp.sa hq.sb (by omega)
  have e6 := mulG_ok _ _ hp.sb hq.sa (by omega)
  rw [e1, Option.bind_some, e2, Option.bind_some, Option.bind_some, e3, Option.bind_some, e4, Option.bind_some, Option.bind_some, e5, Option.bind_some, e6, Option.bind_some, Option.bind_some]
  have sa : (la p q).natAbs < 2 ^ 8000 := pow_le (sz_sub (sz_mul hp.sb hq.sc) (sz_mul hp.sc hq.sb)) (by omega)
  have sb : (lb p q).natAbs < 2 ^ 8000 := pow_le (sz_sub (sz_mul hp.sc hq.sa) (sz_mul hp.sa hq.sc)) (by omega)
  have w := ln_ne hp.pos hq.pos hp.one hq.one ne
  show (if (!decide (la p q = 0)) = true then (m_ratio (lb p q) (la p q)).bind fun z7 => (m_ratio (lc p q) (la p q)).bind fun z8 => some (T3.mk 1 z7 z8) else (m_ratio (lc p q) (lb p q)).bind fun z9 => some (T3.mk 0 (T2.mk 1 1) z9)) = some (lnF p q)
  unfold lnF
  by_cases z : la p q = 0
  · rw [if_neg (by simp [z]), if_pos z, ratio_nz (w.resolve_left fun n => n z) sb]; rfl
  · rw [if_pos (by simp [z]), if_neg z, ratio_nz z sa, Option.bind_some, ratio_nz z sa]; rfl
theorem la_sw (p q : P3) : la q p = -la p q := by unfold la; grind
theorem lb_sw (p q : P3) : lb q p = -lb p q := by unfold lb; grind
theorem lc_sw (p q : P3) : lc q p = -lc p q := by unfold lc; grind
theorem rtF_neg {t b : Int} (h : b ≠ 0) : rtF (-t) (-b) = rtF t b := (rq_eq (by omega) h (rtF_rq (by omega)) (rtF_rq h)).mpr (by grind)
theorem ln_sw {p q : P3} (w : la p q ≠ 0 ∨ lb p q ≠ 0) : lnF q p = lnF p q := by
  unfold lnF
  rw [la_sw, lb_sw, lc_sw]
  by_cases z : la p q = 0
  · rw [if_pos (by omega), if_pos z, rtF_neg (w.resolve_left fun n => n z)]
  · rw [if_neg (by omega), if_neg z, rtF_neg z, rtF_neg z]
/-- two sides on one line: the one's ends lie on the other's line -/
theorem ln_col {p q r s : P3} (w : la p q ≠ 0 ∨ lb p q ≠ 0) (w' : la r s ≠ 0 ∨ lb r s ≠ 0) (e : lnF p q = lnF r s) : la p q * r.a + lb p q * r.b + lc p q * r.c = 0 := by
  have on : la r s * r.a + lb r s * r.b + lc r s * r.c = 0 := by unfold la lb lc; grind
  unfold lnF at e
  by_cases z : la p q = 0 <;> by_cases z' : la r s = 0
  · rw [if_pos z, if_pos z'] at e
    injection e with _ _ e
    have n1 := w.resolve_left fun n => n z
    have n2 := w'.resolve_left fun n => n z'
    have k := (rq_eq n1 n2 (rtF_rq n1) (rtF_rq n2)).mp e
    rw [z', Int.zero_mul, Int.zero_add] at on
    rw [z, Int.zero_mul, Int.zero_add]
    refine Int.eq_of_mul_eq_mul_right n2 ?_
    rw [Int.zero_mul, Int.add_mul, show lc p q * r.c * lb r s = (lc p q * lb r s) * r.c by grind, k]
    rw [show lb p q * r.b * lb r s + lc r s * lb p q * r.c = lb p q * (lb r s * r.b + lc r s * r.c) by grind, on, Int.mul_zero]
  · rw [if_pos z, if_neg z'] at e
    injection e with e
    exact absurd e (by decide)
  · rw [if_neg z, if_pos z'] at e
    injection e with e
    exact absurd e (by decide)
  · rw [if_neg z, if_neg z'] at e
    injection e with _ e1 e2
    have k1 := (rq_eq z z' (rtF_rq z) (rtF_rq z')).mp e1
    have k2 := (rq_eq z z' (rtF_rq z) (rtF_rq z')).mp e2
    refine Int.eq_of_mul_eq_mul_right z' ?_
    rw [Int.zero_mul, Int.add_mul, Int.add_mul, show lb p q * r.b * la r s = (lb p q * la r s) * r.b by grind, k1, show lc p q * r.c * la r s = (lc p q * la r s) * r.c by grind, k2]
    rw [show la p q * r.a * la r s + lb r s * la p q * r.b + lc r s * la p q * r.c = la p q * (la r s * r.a + lb r s * r.b + lc r s * r.c) by grind, on, Int.mul_zero]
/-! ### plain: dicts once more -/
section
variable {κ : Type} [DecidableEq κ]
theorem nget_put {β : Type} (kvs : List (κ × β)) (k l : κ) (v : β) : ngetM (nputM kvs k v) l = if l = k then some v else ngetM kvs l := by
  induction kvs with
  | nil =>
    by_cases z : l = k
    · subst z; simp [nputM, ngetM]
    · have : ¬ k = l := fun e => z e.symm
      simp [nputM, ngetM, z, this]
  | cons e kvs ih =>
    obtain ⟨a, b⟩ := e
    by_cases z : a = k
    · subst z
      by_cases y : l = a
      · subst y; simp [nputM, ngetM]
      · have y' : ¬ a = l := fun e => y e.symm
        have e1 : nputM ((a, b) :: kvs) a v = (a, v) :: kvs.map fun kv => if kv.1 = a then (kv.1, v) else kv := by simp [nputM]
        rw [e1, if_neg y]
        have aux : ∀ xs : List (κ × β), ngetM (xs.map fun kv => if kv.1 = a then (kv.1, v) else kv) l = ngetM xs l := by
          intro xs
          induction xs with
          | nil => rfl
          | cons x xs ihx =>
            obtain ⟨c, d⟩ := x
            rw [List.map_cons]
            by_cases q : c = a
            · subst q
              have e2 : ngetM ((c, v) :: xs.map fun kv => if kv.1 = c then (kv.1, v) else kv) l = ngetM (xs.map fun kv => if kv.1 = c then (kv.1, v) else kv) l := by simp [ngetM, y']
              have e3 : ngetM ((c, d) :: xs) l = ngetM xs l := by simp [ngetM, y']
              rw [if_pos rfl, e2, e3, ihx]
            · rw [if_neg q]
              by_cases q2 : c = l
              · subst q2; simp [ngetM]
              · have e2 : ngetM ((c, d) :: xs.map fun kv => if kv.1 = a then (kv.1, v) else kv) l = ngetM (xs.map fun kv => if kv.1 = a then (kv.1, v) else kv) l := by simp [ngetM, q2]
                have e3 : ngetM ((c, d) :: xs) l = ngetM xs l := by simp [ngetM, q2]
                rw [e2, e3, ihx]
        have e2 : ngetM ((a, v) :: kvs.map fun kv => if kv.1 = a then (kv.1, v) else kv) l = ngetM (kvs.map fun kv => if kv.1 = a then (kv.1, v) else kv) l := by simp [ngetM, y']
        have e3 : ngetM ((a, b) :: kvs) l = ngetM kvs l := by simp [ngetM, y']
        rw [e2, e3, aux]
    · have e1 : nputM ((a, b) :: kvs) k v = (a, b) :: nputM kvs k v := by
        unfold nputM
        rw [List.any_cons, decide_eq_false z, Bool.false_or, List.map_cons, if_neg z]
        split <;> rfl
      rw [e1]
      by_cases y : a = l
      · subst y
        rw [if_neg z]; simp [ngetM]
      · have e2 : ngetM ((a, b) :: nputM kvs k v) l = ngetM (nputM kvs k v) l := by simp [ngetM, y]
        have e3 : ngetM ((a, b) :: kvs) l = ngetM kvs l := by simp [ngetM, y]
        rw [e2, e3, ih]
theorem nput_len {β : Type} (kvs : List (κ × β)) (k : κ) (v : β) : (nputM kvs k v).length ≤ kvs.length + 1 := by
  unfold nputM
  split
  · rw [List.length_map]; omega
  · rw [List.length_append]; exact Nat.le_refl _
theorem nput_nd {β : Type} {kvs : List (κ × β)} {k : κ} {v : β} (n : (kvs.map (·.1)).Nodup) : ((nputM kvs k v).map (·.1)).Nodup := by
  unfold nputM
  split
  · rw [List.map_map]
    have : ((fun e : κ × β => e.1) ∘ fun kv : κ × β => if kv.1 = k then (kv.1, v) else kv) = fun e => e.1 := by
      funext e
      show (if e.1 = k then (e.1, v) else e).1 = e.1
      split <;> rfl
    rw [this]; exact n
  · rename_i h
    rw [List.map_append]
    refine List.nodup_append.mpr ⟨n, by simp, fun a ha c hc eq => ?_⟩
    obtain ⟨e, he, rfl⟩ := List.mem_map.mp ha
    rw [List.mem_singleton.mp hc] at eq
    apply h
    rw [List.any_eq_true]
    exact ⟨e, he, by simpa using eq⟩
theorem nget_mem {β : Type} : ∀ {kvs : List (κ × β)} {k : κ} {v : β}, (kvs.map (·.1)).Nodup → (k, v) ∈ kvs → ngetM kvs k = some v
  | [], _, _, _, h => nomatch h
  | (a, b) :: kvs, k, v, n, h => by
    rw [List.map_cons, List.nodup_cons] at n
    rcases List.mem_cons.mp h with e | h
    · cases e; simp [ngetM]
    · have : ¬ a = k := fun e => n.1 (e ▸ List.mem_map.mpr ⟨_, h, rfl⟩)
      have e3 : ngetM ((a, b) :: kvs) k = ngetM kvs k := by simp [ngetM, this]
      rw [e3]; exact nget_mem n.2 h
def Vl (kvs : List (κ × Int)) (k : κ) : Int := (ngetM kvs k).getD 0
theorem vl_put (kvs : List (κ × Int)) (k l : κ) (v : Int) : Vl (nputM kvs k v) l = if l = k then v else Vl kvs l := by
  unfold Vl
  rw [nget_put]
  split <;> rfl
theorem all_zero {kvs : List (κ × Int)} (n : (kvs.map (·.1)).Nodup) : ((List.map (fun e : κ × Int => decide (e.2 = 0)) kvs).all id) = true ↔ ∀ k, Vl kvs k = 0 := by
  rw [List.all_eq_true]
  constructor
  · intro h k
    unfold Vl
    cases e : ngetM kvs k with
    | none => rfl
    | some v =>
      unfold ngetM at e
      obtain ⟨kv, e1, e2⟩ := Option.map_eq_some_iff.mp e
      have := h _ (List.mem_map.mpr ⟨kv, List.mem_of_find?_eq_some e1, rfl⟩)
      simp at this
      rw [Option.getD_some, ← e2, this]
  · intro h x hx
    obtain ⟨e, he, rfl⟩ := List.mem_map.mp hx
    have := h e.1
    unfold Vl at this
    rw [nget_mem n (show (e.1, e.2) ∈ kvs from he)] at this
    simpa using this
end
/-! ### plain: the tally -/
abbrev Ky : Type := T2 LnT P3
def sideT (s : T2 P3 P3) (k : Ky) : Int := (if k = ⟨lnF s.a s.b, s.a⟩ then 1 else 0) - (if k = ⟨lnF s.a s.b, s.b⟩ then 1 else 0)
def tls (ss : List (T2 P3 P3)) (k : Ky) : Int := (ss.map fun s => sideT s k).sum
theorem tls_app (xs ys : List (T2 P3 P3)) (k : Ky) : tls (xs ++ ys) k = tls xs k + tls ys k := by unfold tls; rw [List.map_append, List.sum_append]
theorem tls_cons (s : T2 P3 P3) (ys : List (T2 P3 P3)) (k : Ky) : tls (s :: ys) k = sideT s k + tls ys k := by unfold tls; rw [List.map_cons, List.sum_cons]
theorem tls_perm {xs ys : List (T2 P3 P3)} (h : xs.Perm ys) (k : Ky) : tls xs k = tls ys k := by
  induction h with
  | nil => rfl
  | cons x _ ih => rw [tls_cons, tls_cons, ih]
  | swap x y l => rw [tls_cons, tls_cons, tls_cons, tls_cons]; omega
  | trans _ _ i1 i2 => rw [i1, i2]
theorem foldO_append {α τ : Type} {f : α → τ → Option τ} : ∀ (xs ys : List α) (s : τ), foldO f (xs ++ ys) s = (foldO f xs s).bind (foldO f ys)
  | [], _, _ => rfl
  | x :: xs, ys, s => by
    show (f x s).bind _ = ((f x s).bind _).bind _
    rw [Option.bind_assoc]
    congr 1
    funext s'
    exact foldO_append xs ys s'
theorem foldO_zip {α β τ : Type} {f : α → τ → Option τ} {g : β → τ → Option τ} : ∀ {xs : List α} {ys : List β}, xs.length = ys.length → (∀ (j : Nat) x y, xs[j]? = some x → ys[j]? = some y → ∀ s, f x s = g y s) → ∀ s, foldO f xs s = foldO g ys s
  | [], [], _, _, _ => rfl
  | x :: xs, y :: ys, h, hf, s => by
    show (f x s).bind _ = (g y s).bind _
    rw [hf 0 x y rfl rfl s]
    congr 1
    funext s'
    exact foldO_zip (by simpa using h) (fun j a b ha hb => hf (j + 1) a b (by simpa using ha) (by simpa using hb)) s'
theorem sides_fold {α τ : Type} {f : T2 α α → τ → Option τ} {G : List α → τ → Option τ} : ∀ {rs : List (List α)}, (∀ us ∈ rs, ∀ s, G us s = foldO f (sd us) s) → ∀ s, foldO G rs s = foldO f (rs.flatMap sd) s
  | [], _, _ => rfl
  | us :: rs, h, s => by
    show (G us s).bind _ = _
    rw [List.flatMap_cons, foldO_append, h us List.mem_cons_self]
    congr 1
    funext s'
    exact sides_fold (fun vs hvs => h vs (List.mem_cons_of_mem _ hvs)) s'
def OkS (n : Nat) (s : T2 P3 P3) : Prop := s.a ≠ s.b ∧ Pt n s.a ∧ Pt n s.b
theorem count_ok {n : Nat} (hn : n ≤ 3500) {rs : List (List P3)} {number : Int} {kvs : List (Ky × Int)} (hs : ∀ s ∈ rs.flatMap sd, OkS n s) (nd : (kvs.map (·.1)).Nodup) (hl : kvs.length + 2 * (rs.flatMap sd).length ≤ 16000000) :
    ∃ kvs', m_count_sides kvs rs number = some ((), kvs') ∧ (kvs'.map (·.1)).Nodup ∧ kvs'.length ≤ kvs.length + 2 * (rs.flatMap sd).length ∧ ∀ k, Vl kvs' k = Vl kvs k + number * tls (rs.flatMap sd) k := by
  unfold m_count_sides
  rw [sides_fold (f := fun (s : T2 P3 P3) (s3 : List (Ky × Int)) => (m_line_of s.a s.b).bind fun z1 =>
 (lenOk (s3.length + 1)).bind fun _ =>
 (lenOk (((nputM s3 ((T2.mk z1 s.a)) ((((ngetM s3 ((T2.mk z1 s.a))).getD 0) + number)))).length + 1)).bind fun _ =>
 some ((nputM ((nputM s3 ((T2.mk z1 s.a)) ((((ngetM s3 ((T2.mk z1 s.a))).getD 0) + number)))) ((T2.mk z1 s.b)) ((((ngetM ((nputM s3 ((T2.mk z1 s.a)) ((((ngetM s3 ((T2.mk z1 s.a))).getD 0) + number)))) ((T2.mk z1 s.b))).getD 0) - number))))) (fun us hus s => by
    rw [Option.bind_fun_some]
    refine foldO_zip (by rw [enumL_len, sd_len]) (fun j x y hx hy s => ?_) s
    have hj : j < us.length := by
      have := (List.getElem?_eq_some_iff.mp hx).1
      rwa [enumL_len] at this
    rw [enumL_at (List.getElem?_eq_getElem hj)] at hx
    cases hx
    obtain ⟨p, q, e, e1, e2, m1, m2⟩ := sd_at hj
    rw [hy] at e
    cases e
    rw [ix_lt hj] at e2
    have e2 := Option.some.inj e2
    rw [e1, Option.bind_some]
    dsimp only
    rw [e2])]
  generalize rs.flatMap sd = ss at *
  obtain ⟨s', e, h1, h2, h3⟩ := foldO_at (f := fun (s : T2 P3 P3) (s3 : List (Ky × Int)) => (m_line_of s.a s.b).bind fun z1 =>
 (lenOk (s3.length + 1)).bind fun _ =>
 (lenOk (((nputM s3 ((T2.mk z1 s.a)) ((((ngetM s3 ((T2.mk z1 s.a))).getD 0) + number)))).length + 1)).bind fun _ =>
 some ((nputM ((nputM s3 ((T2.mk z1 s.a)) ((((ngetM s3 ((T2.mk z1 s.a))).getD 0) + number)))) ((T2.mk z1 s.b)) ((((ngetM ((nputM s3 ((T2.mk z1 s.a)) ((((ngetM s3 ((T2.mk z1 s.a))).getD 0) + number)))) ((T2.mk z1 s.b))).getD 0) - number)))))
   (fun j s3 => (s3.map (·.1)).Nodup ∧ s3.length ≤ kvs.length + 2 * j ∧ ∀ k, Vl s3 k = Vl kvs k + number * tls (ss.take j) k) (xs := ss) (s := kvs) 0 (fun j s s3 hj i => by
    rw [Nat.zero_add] at i ⊢
    obtain ⟨n1, n2, n3⟩ := i
    have hjl := (List.getElem?_eq_some_iff.mp hj).1
    obtain ⟨o1, o2, o3⟩ := hs s (List.mem_of_getElem? hj)
    have l1 := nput_len s3 (⟨lnF s.a s.b, s.a⟩ : Ky) ((ngetM s3 (⟨lnF s.a s.b, s.a⟩ : Ky)).getD 0 + number)
    rw [line_ok o2 o3 hn o1, Option.bind_some, lenOk_ok (by omega), Option.bind_some, lenOk_ok (by omega), Option.bind_some]
    refine ⟨_, rfl, nput_nd (nput_nd n1), ?_, fun k => ?_⟩
    · have l2 := nput_len (nputM s3 (⟨lnF s.a s.b, s.a⟩ : Ky) ((ngetM s3 (⟨lnF s.a s.b, s.a⟩ : Ky)).getD 0 + number)) (⟨lnF s.a s.b, s.b⟩ : Ky) ((ngetM (nputM s3 (⟨lnF s.a s.b, s.a⟩ : Ky) ((ngetM s3 (⟨lnF s.a s.b, s.a⟩ : Ky)).getD 0 + number)) (⟨lnF s.a s.b, s.b⟩ : Ky)).getD 0 - number)
      omega
    · have tk : tls (ss.take (j + 1)) k = tls (ss.take j) k + sideT s k := by
        rw [List.take_add_one, hj, tls_app]
        congr 1
        show (sideT s k) + 0 = _
        omega
      rw [vl_put]
      have d1 : ∀ l, (ngetM s3 l).getD 0 = Vl s3 l := fun _ => rfl
      have d2 : ∀ l, (ngetM (nputM s3 (⟨lnF s.a s.b, s.a⟩ : Ky) (Vl s3 (⟨lnF s.a s.b, s.a⟩ : Ky) + number)) l).getD 0 = Vl (nputM s3 (⟨lnF s.a s.b, s.a⟩ : Ky) (Vl s3 (⟨lnF s.a s.b, s.a⟩ : Ky) + number)) l := fun _ => rfl
      rw [d1, d2, vl_put, vl_put, tk, Int.mul_add]
      have g1 := n3 k
      have g2 := n3 (⟨lnF s.a s.b, s.a⟩ : Ky)
      have g3 := n3 (⟨lnF s.a s.b, s.b⟩ : Ky)
      unfold sideT
      have ne : (⟨lnF s.a s.b, s.b⟩ : Ky) ≠ ⟨lnF s.a s.b, s.a⟩ := fun q => by
        injection q with _ q
        exact o1 q.symm
      rw [if_neg ne]
      by_cases c1 : k = ⟨lnF s.a s.b, s.b⟩
      · have c2 : ¬ k = ⟨lnF s.a s.b, s.a⟩ := fun q => ne (c1.symm.trans q)
        rw [if_pos c1, if_neg c2, if_pos c1, ← c1]
        rw [g1]
        have : number * (0 - 1) = -number := by rw [Int.zero_sub, Int.mul_neg, Int.mul_one]
        rw [this]; omega
      · rw [if_neg c1, if_neg c1]
        by_cases c2 : k = ⟨lnF s.a s.b, s.a⟩
        · rw [if_pos c2, if_pos c2, ← c2, g1]
          have : number * (1 - 0) = number := by rw [Int.sub_zero, Int.mul_one]
          rw [this]; omega
        · rw [if_neg c2, if_neg c2, g1]
          have : number * (0 - 0) = 0 := by rw [Int.sub_zero, Int.mul_zero]
          rw [this]; omega) ⟨nd, Nat.le_refl _, fun k => by rw [List.take_zero]; show _ = _ + number * 0; rw [Int.mul_zero, Int.add_zero]⟩
  rw [Nat.zero_add] at h2
  rw [Nat.zero_add, List.take_length] at h3
  rw [e]
  exact ⟨s', rfl, h1, h2, h3⟩
theorem parts_ok {n : Nat} (hn : n ≤ 3500) {rs cl : List (List P3)} (h1 : ∀ s ∈ rs.flatMap sd, OkS n s) (h2 : ∀ s ∈ cl.flatMap sd, OkS n s) (hl : 2 * (rs.flatMap sd).length + 2 * (cl.flatMap sd).length ≤ 16000000) :
    ∃ b, m_parts_cloth rs cl = some b ∧ (b = true ↔ ∀ k, tls (rs.flatMap sd) k = tls (cl.flatMap sd) k) := by
  unfold m_parts_cloth
  obtain ⟨k1, e1, n1, l1, v1⟩ := count_ok (number := 1) (kvs := []) hn h1 List.nodup_nil (by rw [List.length_nil]; omega)
  rw [List.length_nil] at l1
  obtain ⟨k2, e2, n2, l2, v2⟩ := count_ok (number := -1) (kvs := k1) hn h2 n1 (by omega)
  rw [e1, Option.bind_some, e2, Option.bind_some, lenOk_ok (by dsimp only; omega), Option.bind_some]
  refine ⟨_, rfl, ?_⟩
  rw [all_zero n2]
  have z : ∀ k, Vl ([] : List (Ky × Int)) k = 0 := fun _ => rfl
  constructor
  · intro h k
    have := h k
    rw [v2, v1, z] at this
    omega
  · intro h k
    rw [v2, v1, z, h k]; omega
/-! ### plain: plans -/
abbrev Mv : Type := T3 (List P3) Bool P3
def PtG (p : P3) : Prop := 0 < p.c ∧ g3 p.a p.b p.c = 1
theorem Pt.g {n : Nat} {p : P3} (h : Pt n p) : PtG p := ⟨h.pos, h.one⟩
def tn (p : P3) : P3 := ⟨-p.a, -p.b, p.c⟩
def sl (p v : P3) : P3 := hd (p.c * v.c) ⟨p.a * v.c + v.a * p.c, p.b * v.c + v.b * p.c⟩
def ld (f : Bool) (v p : P3) : P3 := sl (if f = true then tn p else p) v
theorem g3_negab (a b n : Int) : g3 (-a) (-b) n = g3 a b n := by
  unfold g3
  rw [Int.neg_gcd, Int.gcd_neg]
theorem tn_pt {n : Nat} {p : P3} (h : Pt n p) : Pt n (tn p) := ⟨h.pos, by show (-p.a).natAbs < _; rw [Int.natAbs_neg]; exact h.sa, by show (-p.b).natAbs < _; rw [Int.natAbs_neg]; exact h.sb, h.sc, by show g3 (-p.a) (-p.b) p.c = 1; rw [g3_negab]; exact h.one⟩
theorem tn_g {p : P3} (h : PtG p) : PtG (tn p) := ⟨h.1, by show g3 (-p.a) (-p.b) p.c = 1; rw [g3_negab]; exact h.2⟩
theorem slid_ok {p v : P3} {n m : Nat} (hp : Pt n p) (hv : Pt m v) (h : n + m ≤ 7000) : m_slid p v = some (sl p v) := by
  unfold m_slid
  have hc := Int.mul_pos hp.pos hv.pos
  rw [mulG_ok _ _ hp.sa hv.sc (by omega), Option.bind_some, mulG_ok _ _ hv.sa hp.sc (by omega), Option.bind_some, mulG_ok _ _ hp.sb hv.sc (by omega), Option.bind_some, mulG_ok _ _ hv.sb hp.sc (by omega), Option.bind_some, mulG_ok _ _ hp.sc hv.sc (by omega), Option.bind_some, pnt_ok hc (pow_le (sz_mul hp.sc hv.sc) (by omega))]
  rfl
theorem lawslid_ok {p v : P3} {n m : Nat} (hp : Pt n p) (hv : Pt m v) (h : n + m ≤ 7000) : m__law_slid p v = some (sl p v) := by
  unfold m__law_slid
  have hc := Int.mul_pos hp.pos hv.pos
  rw [mulG_ok _ _ hp.sa hv.sc (by omega), Option.bind_some, mulG_ok _ _ hv.sa hp.sc (by omega), Option.bind_some, mulG_ok _ _ hp.sb hv.sc (by omega), Option.bind_some, mulG_ok _ _ hv.sb hp.sc (by omega), Option.bind_some, mulG_ok _ _ hp.sc hv.sc (by omega), Option.bind_some, lawpnt_ok hc (pow_le (sz_mul hp.sc hv.sc) (by omega))]
  rfl
theorem sl_low {p v : P3} (hp : 0 < p.c) (hv : 0 < v.c) : Low3 (p.a * v.c + v.a * p.c) (p.b * v.c + v.b * p.c) (p.c * v.c) (sl p v) := hd_low (Int.mul_pos hp hv) ⟨p.a * v.c + v.a * p.c, p.b * v.c + v.b * p.c⟩
theorem sl_g {p v : P3} (hp : 0 < p.c) (hv : 0 < v.c) : PtG (sl p v) := ⟨(sl_low hp hv).pos, (sl_low hp hv).one⟩
theorem sl_pt {p v : P3} {n m : Nat} (hp : Pt n p) (hv : Pt m v) : Pt (n + m + 1) (sl p v) := by
  refine (sl_low hp.pos hv.pos).pt (sz_add (sz_mul hp.sa hv.sc) ?_) (sz_add (sz_mul hp.sb hv.sc) ?_) (pow_le (sz_mul hp.sc hv.sc) (by omega))
  · rw [Nat.add_comm n m]; exact sz_mul hv.sa hp.sc
  · rw [Nat.add_comm n m]; exact sz_mul hv.sb hp.sc
theorem sl_inj {p q v : P3} (hp : PtG p) (hq : PtG q) (hv : 0 < v.c) (e : sl p v = sl q v) : p = q := by
  have w1 := sl_low hp.1 hv
  have w2 := sl_low hq.1 hv
  rw [e] at w1
  have a1 := w1.ea
  have a2 := w2.ea
  have b1 := w1.eb
  have b2 := w2.eb
  have hs := w2.pos
  have hpc := hp.1
  have hqc := hq.1
  generalize sl q v = s at *
  refine pt_same hp.1 hq.1 hp.2 hq.2 ?_ ?_
  · refine Int.eq_of_mul_eq_mul_right (show s.c * (v.c * v.c) ≠ 0 by have := Int.mul_pos hs (Int.mul_pos hv hv); omega) ?_
    have k1 : (p.a * v.c + v.a * p.c) * s.c * (q.c * v.c) = (q.a * v.c + v.a * q.c) * s.c * (p.c * v.c) := by rw [← a1, ← a2]; grind
    grind
  · refine Int.eq_of_mul_eq_mul_right (show s.c * (v.c * v.c) ≠ 0 by have := Int.mul_pos hs (Int.mul_pos hv hv); omega) ?_
    have k1 : (p.b * v.c + v.b * p.c) * s.c * (q.c * v.c) = (q.b * v.c + v.b * q.c) * s.c * (p.c * v.c) := by rw [← b1, ← b2]; grind
    grind
theorem tn_inj {p q : P3} (e : tn p = tn q) : p = q := by
  obtain ⟨a, b, c⟩ := p
  obtain ⟨x, y, z⟩ := q
  unfold tn at e
  injection e with e1 e2 e3
  dsimp only at *
  rw [show a = x by omega, show b = y by omega, e3]
theorem ld_g {f : Bool} {v p : P3} (hp : PtG p) (hv : 0 < v.c) : PtG (ld f v p) := by
  unfold ld
  split
  · exact sl_g (tn_g hp).1 hv
  · exact sl_g hp.1 hv
theorem ld_inj {f : Bool} {v p q : P3} (hp : PtG p) (hq : PtG q) (hv : 0 < v.c) (e : ld f v p = ld f v q) : p = q := by
  unfold ld at e
  cases f with
  | true => exact tn_inj (sl_inj (tn_g hp) (tn_g hq) hv e)
  | false => exact sl_inj hp hq hv e
theorem ld_pt {f : Bool} {v p : P3} {n m : Nat} (hp : Pt n p) (hv : Pt m v) : Pt (n + m + 1) (ld f v p) := by
  unfold ld
  split
  · exact sl_pt (tn_pt hp) hv
  · exact sl_pt hp hv
theorem det_scale {k l m : Int} (p q r p' q' r' : P3) (hp : p'.a = k * p.a ∧ p'.b = k * p.b ∧ p'.c = k * p.c) (hq : q'.a = l * q.a ∧ q'.b = l * q.b ∧ q'.c = l * q.c) (hr : r'.a = m * r.a ∧ r'.b = m * r.b ∧ r'.c = m * r.c) : det p' q' r' = k * l * m * det p q r := by
  unfold det
  rw [hp.1, hp.2.1, hp.2.2, hq.1, hq.2.1, hq.2.2, hr.1, hr.2.1, hr.2.2]
  grind
theorem hd_mul {n : Int} (hn : 0 < n) (u : P2) : ∃ k : Int, 0 < k ∧ u.a = k * (hd n u).a ∧ u.b = k * (hd n u).b ∧ n = k * (hd n u).c := by
  obtain ⟨k, k0, k1, k2, k3⟩ := ov_k (hd_ov hn u) hn
  exact ⟨k, k0, k2.symm, k3.symm, k1.symm⟩
theorem det_sl {p q r v : P3} (hp : 0 < p.c) (hq : 0 < q.c) (hr : 0 < r.c) (hv : 0 < v.c) : sg (det (sl p v) (sl q v) (sl r v)) = sg (det p q r) := by
  obtain ⟨k, k0, k1, k2, k3⟩ := hd_mul (Int.mul_pos hp hv) ⟨p.a * v.c + v.a * p.c, p.b * v.c + v.b * p.c⟩
  obtain ⟨l, l0, l1, l2, l3⟩ := hd_mul (Int.mul_pos hq hv) ⟨q.a * v.c + v.a * q.c, q.b * v.c + v.b * q.c⟩
  obtain ⟨m, m0, m1, m2, m3⟩ := hd_mul (Int.mul_pos hr hv) ⟨r.a * v.c + v.a * r.c, r.b * v.c + v.b * r.c⟩
  have e := det_scale (sl p v) (sl q v) (sl r v) ⟨p.a * v.c + v.a * p.c, p.b * v.c + v.b * p.c, p.c * v.c⟩ ⟨q.a * v.c + v.a * q.c, q.b * v.c + v.b * q.c, q.c * v.c⟩ ⟨r.a * v.c + v.a * r.c, r.b * v.c + v.b * r.c, r.c * v.c⟩ ⟨k1, k2, k3⟩ ⟨l1, l2, l3⟩ ⟨m1, m2, m3⟩
  have e2 : det ⟨p.a * v.c + v.a * p.c, p.b * v.c + v.b * p.c, p.c * v.c⟩ ⟨q.a * v.c + v.a * q.c, q.b * v.c + v.b * q.c, q.c * v.c⟩ ⟨r.a * v.c + v.a * r.c, r.b * v.c + v.b * r.c, r.c * v.c⟩ = (v.c * v.c * v.c) * det p q r := by unfold det; grind
  rw [e2] at e
  rw [← sg_mul (n := det (sl p v) (sl q v) (sl r v)) (Int.mul_pos (Int.mul_pos k0 l0) m0), ← e, sg_mul (Int.mul_pos (Int.mul_pos hv hv) hv)]
theorem det_tn (p q r : P3) : det (tn p) (tn q) (tn r) = det p q r := by unfold det tn; grind
theorem det_ld {f : Bool} {p q r v : P3} (hp : 0 < p.c) (hq : 0 < q.c) (hr : 0 < r.c) (hv : 0 < v.c) : sg (det (ld f v p) (ld f v q) (ld f v r)) = sg (det p q r) := by
  unfold ld
  cases f with
  | true =>
    simp only [if_true]
    rw [det_sl (p := tn p) (q := tn q) (r := tn r) hp hq hr hv, det_tn]
  | false => exact det_sl hp hq hr hv
theorem ledring_ok {m : Mv} {n k : Nat} (hp : ∀ p ∈ m.a, Pt n p) (hv : Pt k m.c) (h : n + k ≤ 7000) (hl : m.a.length ≤ 1000) : m_led_ring m = some (m.a.map (ld m.b m.c)) := by
  obtain ⟨R, f, v⟩ := m
  unfold m_led_ring
  dsimp only at *
  cases f with
  | true =>
    rw [if_pos rfl, lenOk_ok (by omega), Option.bind_some, mapO_all (g := ld true v) fun p hp' => ?_]
    · rfl
    · show (m_turned p).bind _ = _
      rw [show m_turned p = some (tn p) from rfl, Option.bind_some, slid_ok (tn_pt (hp p hp')) hv h]; rfl
  | false =>
    rw [if_neg (by decide), lenOk_ok (by omega), Option.bind_some, mapO_all (g := ld false v) fun p hp' => ?_]
    · rfl
    · rw [slid_ok (hp p hp') hv h]; rfl
theorem lawled_ok {m : Mv} {p : P3} {n k : Nat} (hp : Pt n p) (hv : Pt k m.c) (h : n + k ≤ 7000) : m__law_led m p = some (ld m.b m.c p) := by
  obtain ⟨R, f, v⟩ := m
  unfold m__law_led
  dsimp only at *
  cases f with
  | true =>
    rw [if_pos rfl, show m__law_turned p = some (tn p) from rfl, Option.bind_some, Option.bind_some, lawslid_ok (tn_pt hp) hv h]; rfl
  | false =>
    rw [if_neg (by decide), Option.bind_some, lawslid_ok hp hv h]; rfl
/-- a ring that is no ring of a move -/
structure TrN (n : Nat) (R : List P3) : Prop where
  pt : ∀ p ∈ R, Pt n p
  le : R.length ≤ 1000
/-- a triangle gone round with the inside at the left hand -/
def Tri (R : List P3) : Prop := ∃ p q r, R = [p, q, r] ∧ 0 < det p q r
theorem sg_one {n : Int} : sg n = 1 ↔ 0 < n := by unfold sg; (repeat' split) <;> omega
def mvF (t : Bool) (x1 : Mv) (s1 : Unit) : Option (Lp Unit Bool) := ((if (!decide ((x1.a.length : Int) = 3)) = true then some true else
 ((ix x1.a 0).bind fun x5 =>
 (ix x1.a 1).bind fun x6 =>
 (ix x1.a 2).bind fun x7 =>
 (m_side x5 x6 x7).bind fun z2 =>
 some (((!decide (z2 = 1)) || (x1.b && (!t)))))).bind fun b1 =>
 if b1 = true then
 (some (.ret false))
 else
 (some (.nxt (()))))
theorem moves_ok {n : Nat} (hn : n ≤ 3000) {ms : List Mv} {t : Bool} (h : ∀ m ∈ ms, TrN n m.a) :
    ((∀ m ∈ ms, Tri m.a ∧ (m.b = true → t = true)) ∧ loopL (mvF t) ms () = some (.nxt ())) ∨ (¬ (∀ m ∈ ms, Tri m.a ∧ (m.b = true → t = true)) ∧ loopL (mvF t) ms () = some (.ret false)) := by
  have key : ∀ m ∈ ms, ((Tri m.a ∧ (m.b = true → t = true)) ∧ mvF t m () = some (.nxt ())) ∨ (¬ (Tri m.a ∧ (m.b = true → t = true)) ∧ mvF t m () = some (.ret false)) := by
    intro m hm
    obtain ⟨R, f, v⟩ := m
    have hR := h _ hm
    unfold mvF
    dsimp only at *
    by_cases c : R.length = 3
    · obtain ⟨p, q, r, rfl⟩ : ∃ p q r, R = [p, q, r] := by
        match R, c with
        | [p, q, r], _ => exact ⟨p, q, r, rfl⟩
      have s := side_ok (hR.pt p (by simp)) (hR.pt q (by simp)) (hR.pt r (by simp)) hn
      rw [if_neg (by simp)]
      have i0 : ix [p, q, r] 0 = some p := rfl
      have i1 : ix [p, q, r] 1 = some q := rfl
      have i2 : ix [p, q, r] 2 = some r := rfl
      rw [i0, Option.bind_some, i1, Option.bind_some, i2, Option.bind_some, s, Option.bind_some, Option.bind_some]
      by_cases d : 0 < det p q r
      · have e1 := sg_one.mpr d
        rw [e1]
        by_cases ft : f = true → t = true
        · refine .inl ⟨⟨⟨p, q, r, rfl, d⟩, ft⟩, ?_⟩
          have : (f && !t) = false := by cases f <;> cases t <;> simp_all
          rw [this]; rfl
        · refine .inr ⟨fun w => ft w.2, ?_⟩
          have : (f && !t) = true := by cases f <;> cases t <;> simp_all
          rw [this]; rfl
      · refine .inr ⟨fun w => ?_, ?_⟩
        · obtain ⟨⟨p', q', r', e, d'⟩, _⟩ := w
          injection e with e1 e
          injection e with e2 e
          injection e with e3 e
          subst e1; subst e2; subst e3
          exact d d'
        · have : sg (det p q r) ≠ 1 := fun q => d (sg_one.mp q)
          rw [decide_eq_false this]; rfl
    · refine .inr ⟨fun w => ?_, ?_⟩
      · obtain ⟨⟨p', q', r', e, d'⟩, _⟩ := w
        rw [e] at c; exact c rfl
      · rw [if_pos (by simp; omega)]; rfl
  rcases loopL_all (r := false) (fun m : Mv => Tri m.a ∧ (m.b = true → t = true)) key with ⟨a, e⟩ | ⟨⟨m, hm, q⟩, e⟩
  · exact .inl ⟨a, e⟩
  · exact .inr ⟨fun w => q (w m hm), e⟩
def rgs (ms : List Mv) : List (List P3) := ms.map (·.a)
def leds (ms : List Mv) : List (List P3) := ms.map fun m => m.a.map (ld m.b m.c)
/-- some moves are no plan: not triangles, or turned ones -/
theorem plan_bad {n : Nat} (hn : n ≤ 3000) {ms : List Mv} {t : Bool} {one other : List (List P3)} (h : ∀ m ∈ ms, TrN n m.a) (bad : ∃ m ∈ ms, ¬ (Tri m.a ∧ (m.b = true → t = true))) : m_is_plan one other ms t = some false := by
  unfold m_is_plan
  rcases moves_ok (t := t) hn h with ⟨a, e⟩ | ⟨a, e⟩
  · obtain ⟨m, hm, q⟩ := bad
    exact absurd (a m hm) q
  · show ((loopL (mvF t) ms ()).bind _) = _
    rw [e]; rfl
theorem det_ne {p q r : P3} (d : 0 < det p q r) : p ≠ q ∧ q ≠ r ∧ r ≠ p := by
  refine ⟨fun e => ?_, fun e => ?_, fun e => ?_⟩
  · subst e; unfold det at d; grind
  · subst e; unfold det at d; grind
  · subst e; unfold det at d; grind
theorem tri_sides {n : Nat} {R : List P3} (t : Tri R) (h : ∀ p ∈ R, Pt n p) : ∀ s ∈ sd R, OkS n s := by
  obtain ⟨p, q, r, rfl, d⟩ := t
  obtain ⟨n1, n2, n3⟩ := det_ne d
  intro s hs
  have e : sd [p, q, r] = [⟨r, p⟩, ⟨p, q⟩, ⟨q, r⟩] := rfl
  rw [e] at hs
  rcases List.mem_cons.mp hs with z | hs
  · subst z; exact ⟨n3, h r (by simp), h p (by simp)⟩
  rcases List.mem_cons.mp hs with z | hs
  · subst z; exact ⟨n1, h p (by simp), h q (by simp)⟩
  rcases List.mem_cons.mp hs with z | hs
  · subst z; exact ⟨n2, h q (by simp), h r (by simp)⟩
  · cases hs
theorem tri_ld {R : List P3} {f : Bool} {v : P3} (t : Tri R) (h : ∀ p ∈ R, 0 < p.c) (hv : 0 < v.c) : Tri (R.map (ld f v)) := by
  obtain ⟨p, q, r, rfl, d⟩ := t
  refine ⟨_, _, _, rfl, ?_⟩
  have := det_ld (f := f) (v := v) (h p (by simp)) (h q (by simp)) (h r (by simp)) hv
  rw [← sg_one, this, sg_one]; exact d
theorem plan_good {n k : Nat} (hn : n + k ≤ 2990) {ms : List Mv} {t : Bool} {one other : List (List P3)} (h : ∀ m ∈ ms, (∀ p ∈ m.a, Pt n p) ∧ Pt k m.c ∧ Tri m.a ∧ (m.b = true → t = true)) (hl : ms.length ≤ 10000)
    (h1 : ∀ s ∈ one.flatMap sd, OkS 3000 s) (h2 : ∀ s ∈ other.flatMap sd, OkS 3000 s) (l1 : (one.flatMap sd).length ≤ 10000) (l2 : (other.flatMap sd).length ≤ 10000) :
    ∃ b, m_is_plan one other ms t = some b ∧ (b = true ↔ (∀ k, tls ((rgs ms).flatMap sd) k = tls (one.flatMap sd) k) ∧ ∀ k, tls ((leds ms).flatMap sd) k = tls (other.flatMap sd) k) := by
  have len3 : ∀ m ∈ ms, m.a.length = 3 := fun m hm => by
    obtain ⟨_, _, ⟨p, q, r, e, _⟩, _⟩ := h m hm
    rw [e]; rfl
  have flen : ∀ (g : Mv → List P3), (∀ m ∈ ms, (g m).length = 3) → ((ms.map g).flatMap sd).length = 3 * ms.length := by
    intro g hg
    clear h hl len3
    induction ms with
    | nil => rfl
    | cons m ms ih =>
      rw [List.map_cons, List.flatMap_cons, List.length_append, sd_len, hg m List.mem_cons_self, ih fun x hx => hg x (List.mem_cons_of_mem _ hx), List.length_cons]
      omega
  have f1 := flen (·.a) len3
  have f2 := flen (fun m => m.a.map (ld m.b m.c)) fun m hm => by rw [List.length_map]; exact len3 m hm
  have s1 : ∀ s ∈ (rgs ms).flatMap sd, OkS 3000 s := fun s hs => by
    obtain ⟨R, hR, hs⟩ := List.mem_flatMap.mp hs
    obtain ⟨m, hm, rfl⟩ := List.mem_map.mp hR
    obtain ⟨a, b, c, _⟩ := h m hm
    exact tri_sides c (fun p hp => (a p hp).mono (by omega)) s hs
  have s2 : ∀ s ∈ (leds ms).flatMap sd, OkS 3000 s := fun s hs => by
    obtain ⟨R, hR, hs⟩ := List.mem_flatMap.mp hs
    obtain ⟨m, hm, rfl⟩ := List.mem_map.mp hR
    obtain ⟨a, b, c, _⟩ := h m hm
    refine tri_sides (tri_ld c (fun p hp => (a p hp).pos) b.pos) (fun p hp => ?_) s hs
    obtain ⟨q, hq, rfl⟩ := List.mem_map.mp hp
    exact (ld_pt (a q hq) b).mono (by omega)
  obtain ⟨b1, e1, v1⟩ := parts_ok (n := 3000) (by decide) s1 h1 (by unfold rgs; omega)
  obtain ⟨b2, e2, v2⟩ := parts_ok (n := 3000) (by decide) s2 h2 (by unfold leds; omega)
  unfold m_is_plan
  rcases moves_ok (n := 2990) (t := t) (by decide) (ms := ms) (fun m hm => ⟨fun p hp => ((h m hm).1 p hp).mono (by omega), by rw [len3 m hm]; decide⟩) with ⟨_, e⟩ | ⟨a, _⟩
  · show ∃ b, ((loopL (mvF t) ms ()).bind _) = some b ∧ _
    rw [e]
    simp only [Option.bind_some, Lp.out]
    rw [lenOk_ok (by omega), Option.bind_some, mapO_all (g := fun m : Mv => m.a) (fun _ _ => rfl), Option.bind_some]
    rw [show (ms.map fun m : Mv => m.a) = rgs ms from rfl, e1, Option.bind_some]
    cases b1 with
    | false =>
      rw [if_pos (show (!false) = true from rfl)]
      refine ⟨false, rfl, ?_⟩
      constructor
      · intro z; cases z
      · intro z; exact absurd (v1.mpr z.1) (by decide)
    | true =>
      rw [if_neg (by decide)]
      rw [mapO_all (g := fun m : Mv => m.a.map (ld m.b m.c)) fun m hm => ?_]
      · rw [Option.bind_some, Option.bind_some, show (ms.map fun m : Mv => m.a.map (ld m.b m.c)) = leds ms from rfl, e2]
        refine ⟨b2, rfl, ?_⟩
        rw [v2]
        exact ⟨fun z => ⟨v1.mp rfl, z⟩, fun z => z.2⟩
      · rw [ledring_ok (h m hm).1 (h m hm).2.1 (by omega) (by rw [len3 m hm]; decide)]; rfl
  · exact absurd (fun m hm => ⟨(h m hm).2.2.1, (h m hm).2.2.2⟩) a
/-! ### plain: fans -/
theorem sideT_sw {p q : P3} (hp : PtG p) (hq : PtG q) (ne : p ≠ q) (k : Ky) : sideT ⟨q, p⟩ k = -sideT ⟨p, q⟩ k := by
  unfold sideT
  dsimp only
  rw [ln_sw (ln_ne hp.1 hq.1 hp.2 hq.2 ne)]
  omega
/-- the triangles about M -/
def fanL (M : P3) (us : List P3) : List (List P3) := (sd us).map fun s => [M, s.a, s.b]
theorem sd3 (p q r : P3) : sd [p, q, r] = [⟨r, p⟩, ⟨p, q⟩, ⟨q, r⟩] := rfl
theorem tls3 (p q r : P3) (k : Ky) : tls (sd [p, q, r]) k = sideT ⟨p, q⟩ k + sideT ⟨q, r⟩ k + sideT ⟨r, p⟩ k := by
  rw [sd3]
  unfold tls
  simp only [List.map_cons, List.map_nil, List.sum_cons, List.sum_nil]
  omega
theorem fan_tls {M : P3} {us : List P3} {h : P3 → P3} (gM : PtG (h M)) (g : ∀ u ∈ us, PtG (h u) ∧ h M ≠ h u) (k : Ky) : tls (((fanL M us).map (List.map h)).flatMap sd) k = tls (sd (us.map h)) k := by
  have e1 : ∀ ss : List (T2 P3 P3), (∀ s ∈ ss, PtG (h s.b) ∧ h M ≠ h s.b) → tls ((((ss.map fun s => [M, s.a, s.b])).map (List.map h)).flatMap sd) k = tls (ss.map fun s => ⟨h s.a, h s.b⟩) k + (ss.map fun s => sideT ⟨h M, h s.a⟩ k - sideT ⟨h M, h s.b⟩ k).sum := by
    intro ss
    induction ss with
    | nil => intro _; rfl
    | cons s ss ih =>
      intro hs
      obtain ⟨g1, g2⟩ := hs s List.mem_cons_self
      rw [List.map_cons, List.map_cons, List.flatMap_cons, tls_app, ih fun t ht => hs t (List.mem_cons_of_mem _ ht)]
      have e3 : tls (sd ([M, s.a, s.b].map h)) k = sideT ⟨h M, h s.a⟩ k + sideT ⟨h s.a, h s.b⟩ k + sideT ⟨h s.b, h M⟩ k := tls3 _ _ _ k
      have e4 : tls ((s :: ss).map fun s => (⟨h s.a, h s.b⟩ : T2 P3 P3)) k = sideT ⟨h s.a, h s.b⟩ k + tls (ss.map fun s => (⟨h s.a, h s.b⟩ : T2 P3 P3)) k := tls_cons _ _ k
      have e5 : ((s :: ss).map fun s => sideT ⟨h M, h s.a⟩ k - sideT ⟨h M, h s.b⟩ k).sum = (sideT ⟨h M, h s.a⟩ k - sideT ⟨h M, h s.b⟩ k) + (ss.map fun s => sideT ⟨h M, h s.a⟩ k - sideT ⟨h M, h s.b⟩ k).sum := by rw [List.map_cons, List.sum_cons]
      rw [e3, e4, e5, sideT_sw gM g1 g2]
      omega
  unfold fanL
  rw [e1 (sd us) fun s hs => g s.b (sd_mem (p := s.a) (q := s.b) hs).2, ← sd_map]
  have z := cy_tel (fun u => -sideT ⟨h M, h u⟩ k) us
  rw [cy_sum] at z
  have : ((sd us).map fun s => sideT ⟨h M, h s.a⟩ k - sideT ⟨h M, h s.b⟩ k) = (sd us).map fun s => -sideT ⟨h M, h s.b⟩ k - -sideT ⟨h M, h s.a⟩ k := List.map_congr_left fun s _ => by omega
  rw [this, z]; omega
/-- a ring that bulges outward all round -/
structure Cvx (R : List P3) : Prop where
  g : ∀ p ∈ R, PtG p
  l3 : 3 ≤ R.length
  l5 : R.length ≤ 5
  cv : ∀ s ∈ sd R, ∀ p ∈ R, p = s.a ∨ p = s.b ∨ 0 < det s.a s.b p
  ex : ∀ s ∈ sd R, ∃ p ∈ R, 0 < det s.a s.b p
theorem det_self (p q : P3) : det p q p = 0 ∧ det p q q = 0 := by unfold det; constructor <;> grind
theorem tri_cvx {R : List P3} (t : Tri R) (g : ∀ p ∈ R, PtG p) : Cvx R := by
  obtain ⟨p, q, r, rfl, d⟩ := t
  have d2 : 0 < det q r p := by have : det q r p = det p q r := by unfold det; grind
                                omega
  have d3 : 0 < det r p q := by have : det r p q = det p q r := by unfold det; grind
                                omega
  refine ⟨g, by simp, by simp, fun s hs x hx => ?_, fun s hs => ?_⟩
  · rw [sd3] at hs
    simp only [List.mem_cons, List.not_mem_nil, or_false] at hs hx
    rcases hs with e | e | e <;> subst e <;> rcases hx with f | f | f <;> subst f <;> first | exact .inl rfl | exact .inr (.inl rfl) | exact .inr (.inr d) | exact .inr (.inr d2) | exact .inr (.inr d3)
  · rw [sd3] at hs
    simp only [List.mem_cons, List.not_mem_nil, or_false] at hs
    rcases hs with e | e | e <;> subst e
    · exact ⟨q, by simp, d3⟩
    · exact ⟨r, by simp, d⟩
    · exact ⟨p, by simp, d2⟩
/-- a place within 0 to 5 -/
def Box (p : P3) : Prop := 0 ≤ p.a ∧ p.a ≤ 5 * p.c ∧ 0 ≤ p.b ∧ p.b ≤ 5 * p.c
theorem box_pt {n : Nat} {p : P3} (g : PtG p) (b : Box p) (h : p.c < 2 ^ n) : Pt (n + 3) p := by
  obtain ⟨b1, b2, b3, b4⟩ := b
  have h0 := g.1
  have e : (2 : Int) ^ (n + 3) = 8 * 2 ^ n := by rw [Int.pow_add]; show _ * 8 = _; rw [Int.mul_comm]

  refine ⟨h0, ?_, ?_, ?_, g.2⟩
  · have : (p.a.natAbs : Int) < ((2 ^ (n + 3) : Nat) : Int) := by rw [Int.natCast_pow]; show (p.a.natAbs : Int) < (2 : Int) ^ (n + 3); rw [e]; omega
    omega
  · have : (p.b.natAbs : Int) < ((2 ^ (n + 3) : Nat) : Int) := by rw [Int.natCast_pow]; show (p.b.natAbs : Int) < (2 : Int) ^ (n + 3); rw [e]; omega
    omega
  · have : (p.c.natAbs : Int) < ((2 ^ (n + 3) : Nat) : Int) := by rw [Int.natCast_pow]; show (p.c.natAbs : Int) < (2 : Int) ^ (n + 3); rw [e]; omega
    omega
/-! ### plain: a point amid -/
theorem Ov.sz {P : Int} {r : P3} {u : P2} (h : Ov P r u) (hP : 0 < P) : r.a.natAbs ≤ u.a.natAbs ∧ r.b.natAbs ≤ u.b.natAbs ∧ r.c.natAbs ≤ P.natAbs := by
  have h1 := h.a
  have h2 := h.b
  have hk : 0 < P / r.c := by
    obtain ⟨k, hk⟩ := h.dvd
    have hp := h.pos
    rw [hk, Int.mul_ediv_cancel_left _ (by omega)]
    rw [hk] at hP
    rcases Int.lt_or_le 0 k with z | z
    · exact z
    · have := Int.mul_nonpos_of_nonneg_of_nonpos (Int.le_of_lt hp) z; omega
  generalize P / r.c = k at *
  have key : ∀ x : Int, x.natAbs ≤ (x * k).natAbs := fun x => by
    rw [Int.natAbs_mul]
    exact Nat.le_mul_of_pos_right _ (by omega)
  have hl := Int.le_of_dvd hP h.dvd
  have hp := h.pos
  exact ⟨by rw [← h1]; exact key _, by rw [← h2]; exact key _, by omega⟩
theorem Ov.scale {P k : Int} {r : P3} {u : P2} (h : Ov P r u) : Ov (P * k) r ⟨u.a * k, u.b * k⟩ := by
  refine ⟨h.pos, ?_, ?_, h.one⟩
  · have := h.ea
    show r.a * (P * k) = u.a * k * r.c
    rw [← Int.mul_assoc, this, Int.mul_right_comm]
  · have := h.eb
    show r.b * (P * k) = u.b * k * r.c
    rw [← Int.mul_assoc, this, Int.mul_right_comm]
def uc (B : Int) (p : P3) : P2 := ⟨p.a * (B / p.c), p.b * (B / p.c)⟩
theorem uc_ov {B : Int} {p : P3} (g : PtG p) (d : p.c ∣ B) : Ov B p (uc B p) := by
  have e := Int.ediv_mul_cancel d
  refine ⟨g.1, ?_, ?_, g.2⟩
  · show p.a * B = p.a * (B / p.c) * p.c
    rw [Int.mul_assoc, e]
  · show p.b * B = p.b * (B / p.c) * p.c
    rw [Int.mul_assoc, e]
abbrev Wl : Type := List (Int × P3)
def sA (B : Int) (L : Wl) : Int := (L.map fun e => e.1 * (uc B e.2).a).sum
def sB (B : Int) (L : Wl) : Int := (L.map fun e => e.1 * (uc B e.2).b).sum
def sW (L : Wl) : Int := (L.map fun e => e.1).sum
def sT (o p : P2) (B : Int) (L : Wl) : Int := (L.map fun e => e.1 * crs3 o p (uc B e.2)).sum
theorem sT_eq (o p : P2) (B : Int) (L : Wl) : crs3 ⟨o.a * sW L, o.b * sW L⟩ ⟨p.a * sW L, p.b * sW L⟩ ⟨sA B L, sB B L⟩ = sW L * sT o p B L := by
  have h : (p.a - o.a) * (sB B L - o.b * sW L) - (p.b - o.b) * (sA B L - o.a * sW L) = sT o p B L := by
    induction L with
    | nil => unfold sA sB sW sT; simp
    | cons e L ih =>
      unfold sA sB sW sT at *
      simp only [List.map_cons, List.sum_cons]
      rw [← ih]
      unfold crs3
      grind
  rw [← h]
  unfold crs3
  dsimp only
  grind
theorem lsum_nonneg : ∀ {xs : List Int}, (∀ x ∈ xs, 0 ≤ x) → 0 ≤ xs.sum
  | [], _ => Int.le_refl _
  | x :: xs, h => by
    have := lsum_nonneg (xs := xs) fun y hy => h y (List.mem_cons_of_mem _ hy)
    have := h x List.mem_cons_self
    rw [List.sum_cons]; omega
theorem lsum_pos : ∀ {xs : List Int}, (∀ x ∈ xs, 0 ≤ x) → (∃ x ∈ xs, 0 < x) → 0 < xs.sum
  | [], _, h => by obtain ⟨_, h, _⟩ := h; cases h
  | x :: xs, h, e => by
    rw [List.sum_cons]
    have h1 := h x List.mem_cons_self
    have h2 := lsum_nonneg (xs := xs) fun y hy => h y (List.mem_cons_of_mem _ hy)
    obtain ⟨y, hy, p⟩ := e
    rcases List.mem_cons.mp hy with z | z
    · subst z; omega
    · have := lsum_pos (xs := xs) (fun y hy => h y (List.mem_cons_of_mem _ hy)) ⟨y, z, p⟩
      omega
def Wok (L : Wl) : Prop := ∀ e ∈ L, 1 ≤ e.1 ∧ e.1 ≤ 61
theorem sW_le {L : Wl} (h : Wok L) : (L.length : Int) ≤ sW L ∧ sW L ≤ 61 * L.length := by
  induction L with
  | nil => exact ⟨Int.le_refl _, Int.le_refl _⟩
  | cons e L ih =>
    have h1 := ih fun x hx => h x (List.mem_cons_of_mem _ hx)
    have h2 := h e List.mem_cons_self
    have e1 : sW (e :: L) = e.1 + sW L := by unfold sW; rw [List.map_cons, List.sum_cons]
    rw [e1, List.length_cons]
    constructor <;> omega
theorem uc_box {B : Int} {p : P3} (g : PtG p) (d : p.c ∣ B) (hB : 0 < B) (b : Box p) : 0 ≤ (uc B p).a ∧ (uc B p).a ≤ 5 * B ∧ 0 ≤ (uc B p).b ∧ (uc B p).b ≤ 5 * B := by
  obtain ⟨b1, b2, b3, b4⟩ := b
  have hk : 0 ≤ B / p.c := Int.ediv_nonneg (Int.le_of_lt hB) (Int.le_of_lt g.1)
  have e := Int.ediv_mul_cancel d
  refine ⟨Int.mul_nonneg b1 hk, ?_, Int.mul_nonneg b3 hk, ?_⟩
  · have := Int.mul_le_mul_of_nonneg_right b2 hk
    show p.a * (B / p.c) ≤ 5 * B
    rw [show 5 * p.c * (B / p.c) = 5 * (B / p.c * p.c) by grind, e] at this
    exact this
  · have := Int.mul_le_mul_of_nonneg_right b4 hk
    show p.b * (B / p.c) ≤ 5 * B
    rw [show 5 * p.c * (B / p.c) = 5 * (B / p.c * p.c) by grind, e] at this
    exact this
theorem s_box {B : Int} (hB : 0 < B) {L : Wl} (w : Wok L) (h : ∀ e ∈ L, PtG e.2 ∧ e.2.c ∣ B ∧ Box e.2) : (0 ≤ sA B L ∧ sA B L ≤ 5 * B * sW L) ∧ (0 ≤ sB B L ∧ sB B L ≤ 5 * B * sW L) := by
  induction L with
  | nil => unfold sA sB sW; simp
  | cons e L ih =>
    obtain ⟨⟨a1, a2⟩, a3, a4⟩ := ih (fun x hx => w x (List.mem_cons_of_mem _ hx)) fun x hx => h x (List.mem_cons_of_mem _ hx)
    obtain ⟨w1, w2⟩ := w e List.mem_cons_self
    obtain ⟨g, d, b⟩ := h e List.mem_cons_self
    obtain ⟨u1, u2, u3, u4⟩ := uc_box g d hB b
    have e1 : sA B (e :: L) = e.1 * (uc B e.2).a + sA B L := by unfold sA; rw [List.map_cons, List.sum_cons]
    have e2 : sB B (e :: L) = e.1 * (uc B e.2).b + sB B L := by unfold sB; rw [List.map_cons, List.sum_cons]
    have e3 : sW (e :: L) = e.1 + sW L := by unfold sW; rw [List.map_cons, List.sum_cons]
    rw [e1, e2, e3, Int.mul_add]
    have m1 := Int.mul_nonneg (show 0 ≤ e.1 by omega) u1
    have m2 := Int.mul_le_mul_of_nonneg_left u2 (show 0 ≤ e.1 by omega)
    have m3 := Int.mul_nonneg (show 0 ≤ e.1 by omega) u3
    have m4 := Int.mul_le_mul_of_nonneg_left u4 (show 0 ≤ e.1 by omega)
    rw [Int.mul_comm (5 * B) e.1]
    refine ⟨⟨by omega, by omega⟩, by omega, by omega⟩
theorem i_lt {x : Int} {n : Nat} (h0 : 0 ≤ x) (h : x < (2 : Int) ^ n) : x.natAbs < 2 ^ n := by
  have : (x.natAbs : Int) < ((2 ^ n : Nat) : Int) := by rw [Int.natCast_pow]; show (x.natAbs : Int) < (2 : Int) ^ n; omega
  omega
theorem pow_add_i (n m : Nat) : (2 : Int) ^ (n + m) = 2 ^ n * 2 ^ m := Int.pow_add 2 n m
theorem mixed_ok {R : List P3} (cv : Cvx R) (bx : ∀ p ∈ R, Box p) {N : Nat} (hB : PB R < (2 : Int) ^ N) (hN : N ≤ 3000) {xs : List Int} (hb : Bag xs) :
    ∃ M ys, m__law_mixed R xs = some (M, ys) ∧ Bag ys ∧ PtG M ∧ Box M ∧ M.c < (2 : Int) ^ (N + 9) ∧ ∀ s ∈ sd R, 0 < det s.a s.b M := by
  have B0 : 0 < PB R := pb_pos fun p hp => (cv.g p hp).1
  have dv : ∀ p ∈ R, p.c ∣ PB R := fun p hp => pb_dvd hp
  have gl : ∀ p ∈ R, PtG p ∧ p.c ∣ PB R ∧ Box p := fun p hp => ⟨cv.g p hp, dv p hp, bx p hp⟩
  have l5 := cv.l5
  have l3 := cv.l3
  generalize hP : PB R = B at *
  have p2 : (0 : Int) < 2 ^ N := Int.pow_pos (by decide)
  have bnd : ∀ L : Wl, Wok L → L.length ≤ 5 → (∀ e ∈ L, PtG e.2 ∧ e.2.c ∣ B ∧ Box e.2) → ∀ r : P3, Ov B r ⟨sA B L, sB B L⟩ → Pt (N + 11) r := by
    intro L w hl hL r o
    obtain ⟨⟨a1, a2⟩, a3, a4⟩ := s_box B0 w hL
    have w2 := (sW_le w).2
    have w3 : 5 * B * sW L ≤ 5 * B * 305 := Int.mul_le_mul_of_nonneg_left (by omega) (by omega)
    obtain ⟨z1, z2, z3⟩ := o.sz B0
    have e11 : (2 : Int) ^ (N + 11) = 2 ^ N * 2048 := by rw [pow_add_i]; rfl
    have t1 : (sA B L).natAbs < 2 ^ (N + 11) := i_lt a1 (by rw [e11]; omega)
    have t2 : (sB B L).natAbs < 2 ^ (N + 11) := i_lt a3 (by rw [e11]; omega)
    refine ⟨o.pos, Nat.lt_of_le_of_lt z1 t1, Nat.lt_of_le_of_lt z2 t2, Nat.lt_of_le_of_lt z3 (i_lt (Int.le_of_lt B0) (by rw [e11]; omega)), o.one⟩
  unfold m__law_mixed
  rw [Option.bind_some]
  obtain ⟨s, e, bg, L, eL, wk, eW, ov⟩ := foldO_at (f := (fun (x1 : (T3 Int Int Int)) (s1 : ((List Int) × (T3 Int Int Int) × Int)) =>
 ((m__law_digit s1.1 61).bind fun z1 =>
 (some ((1 + z1.1))).bind fun (weight_1 : Int) =>
 (mulG x1.a weight_1).bind fun z2 =>
 (mulG x1.b weight_1).bind fun z3 =>
 (m__law_point z2 z3 x1.c).bind fun z4 =>
 (m__law_slid s1.2.1 z4).bind fun z5 =>
 (some (s1.2.2 + weight_1)).bind fun (weights_1 : Int) =>
 some ((z1.2, z5, weights_1))))) (fun k s => Bag s.1 ∧ ∃ L : Wl, L.map (·.2) = R.take k ∧ Wok L ∧ s.2.2 = sW L ∧ Ov B s.2.1 ⟨sA B L, sB B L⟩) (xs := R) (s := (xs, (⟨0, 0, 1⟩ : P3), 0)) 0 (fun j p s hj i => by
    rw [Nat.zero_add] at i ⊢
    obtain ⟨bg, L, eL, wk, eW, ov⟩ := i
    have hp := List.mem_of_getElem? hj
    obtain ⟨g, d, bx⟩ := gl p hp
    have hjl := (List.getElem?_eq_some_iff.mp hj).1
    have Ll : L.length = j := by
      have := congrArg List.length eL
      rw [List.length_map, List.length_take] at this; omega
    have LR : ∀ e ∈ L, PtG e.2 ∧ e.2.c ∣ B ∧ Box e.2 := fun e he => gl e.2 (List.mem_of_mem_take (by rw [← eL]; exact List.mem_map.mpr ⟨e, he, rfl⟩))
    obtain ⟨w, y1, e1, b1, l1, u1⟩ := digit_ok bg (many := 61) (by decide) (by decide)
    have cB := Int.le_of_dvd B0 d
    have pp := box_pt (n := N) g bx (by omega)
    have ws : (1 + w).natAbs < 2 ^ 7 := by omega
    rw [e1, Option.bind_some, Option.bind_some]
    dsimp only
    rw [mulG_ok _ _ pp.sa ws (by omega), Option.bind_some, mulG_ok _ _ pp.sb ws (by omega), Option.bind_some, lawpnt_ok g.1 (pow_le pp.sc (by omega)), Option.bind_some]
    have lw := hd_low g.1 ⟨p.a * (1 + w), p.b * (1 + w)⟩
    have uo := uc_ov g d
    have o1 : Ov B (hd p.c ⟨p.a * (1 + w), p.b * (1 + w)⟩) ⟨(1 + w) * (uc B p).a, (1 + w) * (uc B p).b⟩ := by
      refine low3_ov lw (by have := g.1; omega) ?_ ?_
      · have := uo.ea
        show p.a * (1 + w) * B = (1 + w) * (uc B p).a * p.c
        rw [Int.mul_right_comm, this]; grind
      · have := uo.eb
        show p.b * (1 + w) * B = (1 + w) * (uc B p).b * p.c
        rw [Int.mul_right_comm, this]; grind
    have wk1 : Wok [(1 + w, p)] := fun e he => by rw [List.mem_singleton.mp he]; exact ⟨by show 1 ≤ 1 + w; omega, by show 1 + w ≤ 61; omega⟩
    have p1 := bnd [(1 + w, p)] wk1 (by simp) (fun e he => by rw [List.mem_singleton.mp he]; exact ⟨g, d, bx⟩) _ (by
      have : sA B [(1 + w, p)] = (1 + w) * (uc B p).a ∧ sB B [(1 + w, p)] = (1 + w) * (uc B p).b := by unfold sA sB; simp
      rw [this.1, this.2]; exact o1)
    have pf := bnd L wk (by omega) LR _ ov
    rw [lawslid_ok pf p1 (by omega), Option.bind_some, Option.bind_some]
    refine ⟨_, rfl, b1, L ++ [(1 + w, p)], ?_, ?_, ?_, ?_⟩
    · rw [List.map_append, eL, List.take_add_one, hj]; rfl
    · intro e he
      rcases List.mem_append.mp he with q | q
      · exact wk e q
      · exact wk1 e q
    · show s.2.2 + (1 + w) = sW (L ++ [(1 + w, p)])
      rw [eW]; unfold sW; simp
    · have ap : sA B (L ++ [(1 + w, p)]) = sA B L + (1 + w) * (uc B p).a ∧ sB B (L ++ [(1 + w, p)]) = sB B L + (1 + w) * (uc B p).b := by unfold sA sB; simp
      rw [ap.1, ap.2]
      have q1 := ov.ea
      have q2 := ov.eb
      have q3 := o1.ea
      have q4 := o1.eb
      refine low3_ov (sl_low ov.pos o1.pos) (by have := Int.mul_pos ov.pos o1.pos; omega) ?_ ?_
      · dsimp only at q1 q3
        generalize hd p.c ⟨p.a * (1 + w), p.b * (1 + w)⟩ = t at *
        rw [Int.add_mul, show s.2.1.a * t.c * B = (s.2.1.a * B) * t.c by grind, q1, show t.a * s.2.1.c * B = (t.a * B) * s.2.1.c by grind, q3]
        grind
      · dsimp only at q2 q4
        generalize hd p.c ⟨p.a * (1 + w), p.b * (1 + w)⟩ = t at *
        rw [Int.add_mul, show s.2.1.b * t.c * B = (s.2.1.b * B) * t.c by grind, q2, show t.b * s.2.1.c * B = (t.b * B) * s.2.1.c by grind, q4]
        grind) ⟨hb, [], by simp, fun _ h => (nomatch h), rfl, ⟨by show (0 : Int) < 1; decide, by show (0 : Int) * B = 0 * 1; rw [Int.zero_mul]; rfl, by show (0 : Int) * B = 0 * 1; rw [Int.zero_mul]; rfl, by show g3 0 0 1 = 1; decide⟩⟩
  rw [Nat.zero_add, List.take_length] at eL
  have Ll : L.length = R.length := by
    have := congrArg List.length eL
    rwa [List.length_map] at this
  have LR : ∀ e ∈ L, PtG e.2 ∧ e.2.c ∣ B ∧ Box e.2 := fun e he => gl e.2 (by rw [← eL]; exact List.mem_map.mpr ⟨e, he, rfl⟩)
  have pf := bnd L wk (by omega) LR _ ov
  obtain ⟨w1, w2⟩ := sW_le wk
  have W0 : 0 < sW L := by omega
  obtain ⟨⟨a1, a2⟩, a3, a4⟩ := s_box B0 wk LR
  have hBW := Int.mul_pos B0 W0
  rw [e, Option.bind_some, eW]
  have sw : (sW L).natAbs < 2 ^ 9 := by omega
  have hfw := Int.mul_pos ov.pos W0
  rw [mulG_ok _ _ pf.sc sw (by omega), Option.bind_some, lawpnt_ok hfw (pow_le (sz_mul pf.sc sw) (by omega)), Option.bind_some]
  have om : Ov (B * sW L) (hd (s.2.1.c * sW L) ⟨s.2.1.a, s.2.1.b⟩) ⟨sA B L, sB B L⟩ := by
    refine low3_ov (hd_low hfw _) (by omega) ?_ ?_
    · have := ov.ea
      dsimp only at this ⊢
      rw [← Int.mul_assoc, this, Int.mul_assoc]
    · have := ov.eb
      dsimp only at this ⊢
      rw [← Int.mul_assoc, this, Int.mul_assoc]
  generalize hd (s.2.1.c * sW L) ⟨s.2.1.a, s.2.1.b⟩ = M at om
  have hc := Int.le_of_dvd hBW om.dvd
  have mp := om.pos
  refine ⟨M, _, rfl, bg, ⟨om.pos, om.one⟩, ?_, ?_, fun t ht => ?_⟩
  · have q1 := om.ea
    have q2 := om.eb
    dsimp only at q1 q2
    have lo : ∀ x y : Int, 0 ≤ y → x * (B * sW L) = y * M.c → 0 ≤ x := fun x y h e => by
      rcases Int.lt_or_le x 0 with z | z
      · have := Int.mul_neg_of_neg_of_pos z hBW
        have := Int.mul_nonneg h (Int.le_of_lt mp)
        omega
      · exact z
    have hi : ∀ x y : Int, y ≤ 5 * B * sW L → x * (B * sW L) = y * M.c → x ≤ 5 * M.c := fun x y h e => by
      have := Int.mul_le_mul_of_nonneg_right h (Int.le_of_lt mp)
      rw [← e, show 5 * B * sW L * M.c = 5 * M.c * (B * sW L) by grind] at this
      exact Int.le_of_mul_le_mul_right this hBW
    exact ⟨lo _ _ a1 q1, hi _ _ a2 q1, lo _ _ a3 q2, hi _ _ a4 q2⟩
  · have e9 : (2 : Int) ^ (N + 9) = 2 ^ N * 512 := by rw [pow_add_i]; rfl
    have : B * sW L ≤ B * 305 := Int.mul_le_mul_of_nonneg_left (by omega) (by omega)
    rw [e9]; omega
  · obtain ⟨ta, tb⟩ := sd_mem (p := t.a) (q := t.b) ht
    have oa := uc_ov (cv.g _ ta) (dv _ ta)
    have ob' := uc_ov (cv.g _ tb) (dv _ tb)
    have dt := det_ov hBW (oa.scale (k := sW L)) (ob'.scale (k := sW L)) om
    rw [sT_eq, sg_mul W0] at dt
    rw [← sg_one, dt, sg_one]
    have each : ∀ p ∈ R, sg (det t.a t.b p) = sg (crs3 (uc B t.a) (uc B t.b) (uc B p)) := fun p hp => det_ov B0 oa ob' (uc_ov (cv.g p hp) (dv p hp))
    have mem : ∀ p ∈ R, ∃ e ∈ L, e.2 = p := fun p hp => by
      rw [← eL] at hp
      obtain ⟨e, he, h⟩ := List.mem_map.mp hp
      exact ⟨e, he, h⟩
    unfold sT
    refine lsum_pos (fun x hx => ?_) ?_
    · obtain ⟨e, he, rfl⟩ := List.mem_map.mp hx
      have eR : e.2 ∈ R := by rw [← eL]; exact List.mem_map.mpr ⟨e, he, rfl⟩
      have := (wk e he).1
      have c0 : 0 ≤ crs3 (uc B t.a) (uc B t.b) (uc B e.2) := by
        rcases cv.cv t ht e.2 eR with q | q | q
        · rw [q]; unfold crs3; grind
        · rw [q]; unfold crs3; grind
        · have := each e.2 eR
          rw [sg_one.mpr q] at this
          have := sg_one.mp this.symm
          omega
      exact Int.mul_nonneg (by omega) c0
    · obtain ⟨p, hp, dp⟩ := cv.ex t ht
      obtain ⟨e, he, rfl⟩ := mem p hp
      refine ⟨_, List.mem_map.mpr ⟨e, he, rfl⟩, ?_⟩
      have := each e.2 hp
      rw [sg_one.mpr dp] at this
      exact Int.mul_pos (by have := (wk e he).1; omega) (sg_one.mp this.symm)
/-! ### plain: rings that bulge outward, over 30 -/
def CvP (us : List P2) : Prop := ∀ k l j (a : k < us.length) (b : j < us.length) (c : l < us.length), (l = k + 1 ∨ (k + 1 = us.length ∧ l = 0)) → j ≠ k → j ≠ l → 0 < crs3 us[k] us[l] us[j]
theorem convex_iff {P : Int} (hP : 0 < P) {us : List P2} {h : P2 → P3} (v : Rv P h us) (h3 : 3 ≤ us.length) (hl : us.length ≤ 1000) : (CvP us ∧ m__law_is_convex (us.map h) = some true) ∨ (¬ CvP us ∧ m__law_is_convex (us.map h) = some false) := by
  by_cases z : CvP us
  · exact .inl ⟨z, convex_ok hP v h3 hl z⟩
  · refine .inr ⟨z, ?_⟩
    unfold m__law_is_convex
    simp only [List.length_map]
    rw [if_neg (by simp; omega), lenOk_ok (by omega), Option.bind_some]
    rw [filO_all (c := fun _ => false) fun x hx => by
      obtain ⟨u, hu, e⟩ := List.mem_map.mp hx
      subst e
      rw [ispoint_ok (v.pt u hu) (by decide), Option.bind_some]; rfl]
    rw [Option.bind_some, if_neg (by simp), rngOk_ok (by omega) (by omega), Option.bind_some]
    rcases loopL_all (f := fun (x2 : Int) (s2 : Unit) =>
       ((some ()).bind fun _ =>
       (loopL (ρ := Bool) (fun (x3 : Int) (s4 : Unit) =>
       ((if (!decide (x3 = x2)) = true then
       ((modG ((x2 + 1)) ((us.length : Int))).bind fun z3 =>
       some ((!decide (x3 = z3))))
       else some false).bind fun b1 =>
       if b1 = true then
       ((ix (us.map h) x2).bind fun x4 =>
       (modG ((x2 + 1)) ((us.length : Int))).bind fun z4 =>
       (ix (us.map h) z4).bind fun x5 =>
       (ix (us.map h) x3).bind fun x6 =>
       (m__law_side x4 x5 x6).bind fun z5 =>
       if (!decide (z5 = 1)) = true then
       (some (.ret false))
       else
       (some (.nxt (()))))
       else
       (some (.nxt (()))))) (rangeL 0 ((us.length : Int)).toNat) (())).bind fun o => o.out (fun r => some (Lp.ret (τ := Unit) r)) fun (s5 : Unit) =>
       some (.nxt (())))) (r := false) (fun x => ∀ l j (a : x.toNat < us.length) (b : j < us.length) (c : l < us.length), (l = x.toNat + 1 ∨ (x.toNat + 1 = us.length ∧ l = 0)) → j ≠ x.toNat → j ≠ l → 0 < crs3 us[x.toNat] us[l] us[j]) (xs := rangeL 0 ((us.length : Int)).toNat) fun x hx => by
      obtain ⟨a1, a2⟩ := rangeL_mem hx
      obtain ⟨k, rfl⟩ : ∃ k : Nat, x = (k : Int) := ⟨x.toNat, by omega⟩
      have hk : k < us.length := by omega
      have em : ((k : Int) + 1) % (us.length : Int) = (((k + 1) % us.length : Nat) : Int) := by rw [Int.natCast_emod, Int.natCast_add]; rfl
      have hm : (k + 1) % us.length < us.length := Nat.mod_lt _ (by omega)
      have hn : (k + 1) % us.length = k + 1 ∨ (k + 1 = us.length ∧ (k + 1) % us.length = 0) := by
        by_cases y : k + 1 < us.length
        · exact .inl (Nat.mod_eq_of_lt y)
        · have : k + 1 = us.length := by omega
          exact .inr ⟨this, by rw [this, Nat.mod_self]⟩
      rw [Option.bind_some]
      rcases loopL_all (f := fun (x3 : Int) (s4 : Unit) =>
         ((if (!decide (x3 = (k : Int))) = true then
         ((modG (((k : Int) + 1)) ((us.length : Int))).bind fun z3 =>
         some ((!decide (x3 = z3))))
         else some false).bind fun b1 =>
         if b1 = true then
         ((ix (us.map h) (k : Int)).bind fun x4 =>
         (modG (((k : Int) + 1)) ((us.length : Int))).bind fun z4 =>
         (ix (us.map h) z4).bind fun x5 =>
         (ix (us.map h) x3).bind fun x6 =>
         (m__law_side x4 x5 x6).bind fun z5 =>
         if (!decide (z5 = 1)) = true then
         (some (Lp.ret (τ := Unit) (ρ := Bool) false))
         else
         (some (.nxt (()))))
         else
         (some (.nxt (()))))) (r := false) (fun y => ∀ (b : y.toNat < us.length), y.toNat ≠ k → y.toNat ≠ (k + 1) % us.length → 0 < crs3 us[k] us[(k + 1) % us.length] us[y.toNat]) (xs := rangeL 0 ((us.length : Int)).toNat) fun y hy => by
        obtain ⟨b1, b2⟩ := rangeL_mem hy
        obtain ⟨j, rfl⟩ : ∃ j : Nat, y = (j : Int) := ⟨y.toNat, by omega⟩
        have hj : j < us.length := by omega
        rw [modG_pos (by omega : (0 : Int) < (us.length : Int)), Option.bind_some, em]
        simp only [Int.toNat_natCast]
        by_cases z : j = k
        · refine .inl ⟨fun _ n => absurd z n, ?_⟩
          rw [if_neg (by simp; omega), Option.bind_some, if_neg (by decide)]
        · rw [if_pos (by simp; omega), Option.bind_some]
          by_cases z2 : j = (k + 1) % us.length
          · refine .inl ⟨fun _ _ n => absurd z2 n, ?_⟩
            rw [if_neg (by rw [Bool.not_eq_true', decide_eq_false_iff_not]; omega)]
          · rw [if_pos (by rw [Bool.not_eq_true', decide_eq_false_iff_not]; omega)]
            have i1 : ix (us.map h) (k : Int) = some (h us[k]) := by rw [ix_map, ix_lt hk]; rfl
            have i2 : ix (us.map h) (((k + 1) % us.length : Nat) : Int) = some (h us[(k + 1) % us.length]) := by rw [ix_map, ix_lt hm]; rfl
            have i3 : ix (us.map h) (j : Int) = some (h us[j]) := by rw [ix_map, ix_lt hj]; rfl
            have m1 := List.getElem_mem hk
            have m2 := List.getElem_mem hm
            have m3 := List.getElem_mem hj
            rw [i1, Option.bind_some, Option.bind_some, i2, Option.bind_some, i3, Option.bind_some, lawside_ok (v.pt _ m1) (v.pt _ m2) (v.pt _ m3) (by decide), Option.bind_some, det_ov hP (v.ov _ m1) (v.ov _ m2) (v.ov _ m3)]
            by_cases c : 0 < crs3 us[k] us[(k + 1) % us.length] us[j]
            · refine .inl ⟨fun _ _ _ => c, ?_⟩
              have : sg (crs3 us[k] us[(k + 1) % us.length] us[j]) = 1 := by unfold sg; rw [if_neg (by omega), if_pos c]
              rw [this, if_neg (by decide)]
            · refine .inr ⟨fun w => c (w hj z z2), ?_⟩
              have : sg (crs3 us[k] us[(k + 1) % us.length] us[j]) ≠ 1 := by unfold sg; (repeat' split) <;> omega
              rw [if_pos (by rw [decide_eq_false this]; rfl)] with ⟨q, e⟩ | ⟨⟨y, hy, q⟩, e⟩
      · refine .inl ⟨fun l j a b c n n1 n2 => ?_, (congrArg (fun o => Option.bind o _) e).trans rfl⟩
        simp only [Int.toNat_natCast] at *
        have el : l = (k + 1) % us.length := by
          rcases n with n | ⟨n, n'⟩
          · rcases hn with m | ⟨m, m'⟩ <;> omega
          · rcases hn with m | ⟨m, m'⟩ <;> omega
        subst el
        have mj : (j : Int) ∈ rangeL 0 us.length := by
          unfold rangeL
          exact List.mem_map.mpr ⟨j, List.mem_range.mpr b, by omega⟩
        have := q (j : Int) mj
        simp only [Int.toNat_natCast] at this
        exact this b n1 n2
      · refine .inr ⟨fun w => q fun b n1 n2 => ?_, (congrArg (fun o => Option.bind o _) e).trans rfl⟩
        simp only [Int.toNat_natCast] at w
        exact w _ _ hk b hm hn n1 n2 with ⟨q, e⟩ | ⟨_, e⟩
    · refine absurd (fun k l j a b c n n1 n2 => ?_) z
      have mk : (k : Int) ∈ rangeL 0 ((us.length : Int)).toNat := by
        unfold rangeL
        exact List.mem_map.mpr ⟨k, List.mem_range.mpr (by omega), by omega⟩
      have := q (k : Int) mk
      simp only [Int.toNat_natCast] at this
      exact this l j a b c n n1 n2
    · exact (congrArg (fun o => Option.bind o _) e).trans rfl
/-! ### plain: rings of places 0 to 5, over 30 -/
def h30 (u : P2) : P3 := hd 30 u
def Sz (B : Nat) (u : P2) : Prop := (u.a.natAbs ≤ B ∧ u.b.natAbs ≤ B) ∧ 0 ≤ u.a ∧ 0 ≤ u.b
theorem Sz.mono {B C : Nat} {u : P2} (h : Sz B u) (l : B ≤ C) : Sz C u := ⟨⟨Nat.le_trans h.1.1 l, Nat.le_trans h.1.2 l⟩, h.2⟩
theorem big_lt {x B : Nat} (h : x ≤ B) (hB : B ≤ 1000000) : x < 2 ^ 200 := Nat.lt_of_le_of_lt (Nat.le_trans h hB) (Nat.lt_of_lt_of_le (show 1000000 < 2 ^ 20 by decide) (Nat.pow_le_pow_right (by decide) (by decide)))
theorem h30_ov (u : P2) : Ov 30 (h30 u) u := hd_ov (by decide) u
theorem h30_pt {B : Nat} (hB : B ≤ 1000000) {u : P2} (h : Sz B u) : Pt 200 (h30 u) := (hd_low (by decide) u).pt (big_lt h.1.1 hB) (big_lt h.1.2 hB) (big_lt (B := 30) (by decide) (by decide))
theorem rv30 {B : Nat} (hB : B ≤ 1000000) {us : List P2} (h : ∀ u ∈ us, Sz B u) : Rv 30 h30 us := ⟨fun u _ => h30_ov u, fun u hu => h30_pt hB (h u hu)⟩
theorem place_ok {xs : List Int} (h : Bag xs) : ∃ u ys, m__law_place xs 5 = some (h30 u, ys) ∧ Bag ys ∧ Sz 150 u := by
  unfold m__law_place
  obtain ⟨r1, y1, e1, b1, l1, u1⟩ := digit_ok h (many := 5) (by decide) (by decide)
  obtain ⟨n, k, en, h1, h2, h3⟩ : ∃ n k : Int, ix [1, 1, 1, 2, 3] r1 = some n ∧ 0 < n ∧ 0 < k ∧ k * n = 30 := by
    obtain rfl | rfl | rfl | rfl | rfl : r1 = 0 ∨ r1 = 1 ∨ r1 = 2 ∨ r1 = 3 ∨ r1 = 4 := by omega
    · exact ⟨1, 30, rfl, by decide, by decide, by decide⟩
    · exact ⟨1, 30, rfl, by decide, by decide, by decide⟩
    · exact ⟨1, 30, rfl, by decide, by decide, by decide⟩
    · exact ⟨2, 15, rfl, by decide, by decide, by decide⟩
    · exact ⟨3, 10, rfl, by decide, by decide, by decide⟩
  have hn : n ≤ 30 := by
    have := Int.mul_le_mul_of_nonneg_right (a := 1) (b := k) (c := n) (by omega) (by omega)
    omega
  obtain ⟨r2, y2, e2, b2, l2, u2⟩ := digit_ok b1 (many := 5 * n + 1) (by omega) (by omega)
  obtain ⟨r3, y3, e3, b3, l3, u3⟩ := digit_ok b2 (many := 5 * n + 1) (by omega) (by omega)
  rw [e1, Option.bind_some]
  simp only
  rw [en, Option.bind_some, mulG_ok 10 10 (by decide) (by omega) (by decide), Option.bind_some, e2, Option.bind_some, Option.bind_some]
  simp only
  rw [e3, Option.bind_some]
  simp only
  rw [lawpnt_ok h1 (Nat.lt_of_lt_of_le (show n.natAbs < 2 ^ 5 by omega) (Nat.pow_le_pow_right (by decide) (by decide))), Option.bind_some]
  refine ⟨⟨k * r2, k * r3⟩, y3, ?_, b3, ?_⟩
  · have := hd_scale (k := k) (n := n) (a := r2) (b := r3) h2 h1
    rw [h3] at this
    show some (_, _) = some (hd 30 _, _)
    rw [this]
  · have a1 := Int.mul_le_mul_of_nonneg_left (c := k) (show r2 ≤ 5 * n by omega) (by omega)
    have a2 := Int.mul_le_mul_of_nonneg_left (c := k) (show r3 ≤ 5 * n by omega) (by omega)
    have a3 := Int.mul_nonneg (a := k) (b := r2) (by omega) l2
    have a4 := Int.mul_nonneg (a := k) (b := r3) (by omega) l3
    have e : k * (5 * n) = 150 := by rw [Int.mul_left_comm, h3]; rfl
    rw [e] at a1 a2
    exact ⟨⟨show (k * r2).natAbs ≤ 150 by omega, show (k * r3).natAbs ≤ 150 by omega⟩, a3, a4⟩
theorem cvp3 {p q r : P2} (h : 0 < crs3 p q r) : CvP [p, q, r] := by
  have k2 : 0 < crs3 q r p := by unfold crs3 at *; grind
  have k3 : 0 < crs3 r p q := by unfold crs3 at *; grind
  intro k l j a b c n n1 n2
  simp only [List.length_cons, List.length_nil] at a b c n
  rcases k with _ | _ | _ | k
  · obtain rfl : l = 1 := by omega
    rcases j with _ | _ | _ | j
    · exact absurd rfl n1
    · exact absurd rfl n2
    · exact h
    · omega
  · obtain rfl : l = 2 := by omega
    rcases j with _ | _ | _ | j
    · exact k2
    · exact absurd rfl n1
    · exact absurd rfl n2
    · omega
  · obtain rfl : l = 0 := by omega
    rcases j with _ | _ | _ | j
    · exact absurd rfl n2
    · exact k3
    · exact absurd rfl n1
    · omega
  · omega
theorem sg_cases (n : Int) : (n = 0 ∧ sg n = 0) ∨ (0 < n ∧ sg n = 1) ∨ (n < 0 ∧ sg n = -1) := by
  unfold sg
  rcases Int.lt_trichotomy n 0 with z | z | z
  · exact .inr (.inr ⟨z, by rw [if_neg (by omega), if_neg (by omega)]⟩)
  · exact .inl ⟨z, by rw [if_pos z]⟩
  · exact .inr (.inl ⟨z, by rw [if_neg (by omega), if_pos z]⟩)
/-- a ring that bulges outward -/
structure Bg (B n : Nat) (us : List P2) : Prop where
  sz : ∀ u ∈ us, Sz B u
  lo : 3 ≤ us.length
  hi : us.length ≤ n
  cv : CvP us
theorem three_ok {xs : List Int} (h : Bag xs) : ∃ us ys, m__law_three xs 5 = some (us.map h30, ys) ∧ Bag ys ∧ Bg 150 3 us := by
  unfold m__law_three
  obtain ⟨u0, y0, e0, b0, s0⟩ := place_ok h
  obtain ⟨u1, y1, e1, b1, s1⟩ := place_ok b0
  obtain ⟨u2, y2, e2, b2, s2⟩ := place_ok b1
  rw [show mapS (fun (x1 : Int) (s1 : (List Int)) => ((m__law_place s1 5).bind fun z1 => some (z1.1, z1.2))) (rangeL 0 3) xs = some ([h30 u0, h30 u1, h30 u2], y2) by
    rw [show rangeL 0 3 = [0, 1, 2] from rfl]
    simp only [mapS, e0, e1, e2, Option.bind_some]]
  rw [Option.bind_some]
  have i0 : ix [h30 u0, h30 u1, h30 u2] 0 = some (h30 u0) := rfl
  have i1 : ix [h30 u0, h30 u1, h30 u2] 1 = some (h30 u1) := rfl
  have i2 : ix [h30 u0, h30 u1, h30 u2] 2 = some (h30 u2) := rfl
  simp only [i0, i1, i2, Option.bind_some]
  have hp := fun u (s : Sz 150 u) => h30_pt (by decide : 150 ≤ 1000000) s
  rw [lawside_ok (hp _ s0) (hp _ s1) (hp _ s2) (by decide), Option.bind_some, det_ov (by decide : (0 : Int) < 30) (h30_ov u0) (h30_ov u1) (h30_ov u2)]
  have sz3 : ∀ u ∈ [u0, u1, u2], Sz 150 u := fun u hu => by
    simp only [List.mem_cons, List.not_mem_nil, or_false] at hu
    rcases hu with e | e | e <;> subst e <;> assumption
  rcases sg_cases (crs3 u0 u1 u2) with ⟨z, e⟩ | ⟨z, e⟩ | ⟨z, e⟩
  · rw [e, if_pos (by decide)]
    refine ⟨[⟨0, 0⟩, ⟨150, 30⟩, ⟨30, 150⟩], y2, ?_, b2, ⟨fun u hu => ?_, by decide, by decide, cvp3 (by decide)⟩⟩
    · have : [(T3.mk 0 0 1 : P3), T3.mk 5 1 1, T3.mk 1 5 1] = [⟨0, 0⟩, ⟨150, 30⟩, ⟨30, 150⟩].map h30 := by decide
      rw [this]
    · simp only [List.mem_cons, List.not_mem_nil, or_false] at hu
      rcases hu with e | e | e <;> subst e <;> exact ⟨⟨by decide, by decide⟩, by decide, by decide⟩
  · rw [e, if_neg (by decide)]
    refine ⟨[u0, u1, u2], y2, ?_, b2, ⟨sz3, by simp, by simp, cvp3 z⟩⟩
    unfold stepG
    rw [if_pos rfl]; rfl
  · rw [e, if_neg (by decide)]
    refine ⟨[u2, u1, u0], y2, ?_, b2, ⟨fun u hu => sz3 u (by simp only [List.mem_cons, List.not_mem_nil, or_false] at hu ⊢; rcases hu with e | e | e <;> simp [e]), by simp, by simp, cvp3 (by unfold crs3 at *; grind)⟩⟩
    unfold stepG
    rw [if_neg (by decide), if_pos rfl]; rfl
theorem loopL_brk {α τ ρ : Type} {f : α → τ → Option (Lp τ ρ)} (I J : τ → Prop) : ∀ {xs : List α} {s : τ}, (∀ x s, x ∈ xs → I s → (∃ s', f x s = some (.nxt s') ∧ I s') ∨ ∃ s', f x s = some (.brk s') ∧ J s') → I s → (∃ s', loopL f xs s = some (.nxt s') ∧ I s') ∨ ∃ s', loopL f xs s = some (.brk s') ∧ J s'
  | [], s, _, h => .inl ⟨s, rfl, h⟩
  | x :: xs, s, hf, h => by
    rcases hf x s List.mem_cons_self h with ⟨s', e, i⟩ | ⟨s', e, j⟩
    · rcases loopL_brk I J (xs := xs) (fun y t hy => hf y t (List.mem_cons_of_mem _ hy)) i with ⟨t, e2, i2⟩ | ⟨t, e2, j2⟩
      · refine .inl ⟨t, ?_, i2⟩
        show (f x s).bind _ = _
        rw [e]; exact e2
      · refine .inr ⟨t, ?_, j2⟩
        show (f x s).bind _ = _
        rw [e]; exact e2
    · refine .inr ⟨s', ?_, j⟩
      show (f x s).bind _ = _
      rw [e]; rfl
theorem put_map {us : List P2} {w : P2} {k : Nat} (hk : k ≤ us.length) : slice (us.map h30) none (some (k : Int)) ++ [h30 w] ++ slice (us.map h30) (some (k : Int)) none = (us.take k ++ [w] ++ us.drop k).map h30 := by
  rw [slice_to (by rw [List.length_map]; exact hk), slice_from (by rw [List.length_map]; exact hk)]
  simp
theorem bulging_ok {xs : List Int} (h : Bag xs) : ∃ us ys, m__law_bulging xs 5 = some (us.map h30, ys) ∧ Bag ys ∧ Bg 150 5 us := by
  unfold m__law_bulging
  obtain ⟨us, y1, e1, b1, g1⟩ := three_ok h
  obtain ⟨d, y2, e2, b2, l2, u2⟩ := digit_ok b1 (many := 3) (by decide) (by decide)
  rw [e1, Option.bind_some]
  simp only
  rw [e2, Option.bind_some]
  simp only
  rw [rngOk_ok (by omega) (by omega), Option.bind_some]
  obtain ⟨s, e, i⟩ := foldO_range (lo := 0) (n := d.toNat) (s := ((y2, us.map h30) : (List Int) × (List P3))) (f := fun (x1 : Int) (s1 : ((List Int) × (List (T3 Int Int Int)))) =>
     ((m__law_place s1.1 5).bind fun z3 =>
     (rngOk ((s1.2.length : Int))).bind fun _ =>
     (loopL (ρ := Empty) (fun (x2 : Int) (s3 : (List (T3 Int Int Int))) =>
     ((lenOk (((slice s3 none (some x2))).length + ([z3.1]).length)).bind fun _ =>
     (lenOk ((((slice s3 none (some x2)) ++ [z3.1])).length + ((slice s3 (some x2) none)).length)).bind fun _ =>
     (some ((((slice s3 none (some x2)) ++ [z3.1]) ++ (slice s3 (some x2) none)))).bind fun (more_1 : (List (T3 Int Int Int))) =>
     (m__law_is_convex more_1).bind fun z4 =>
     if z4 = true then
     (some (.brk more_1))
     else
     (some (.nxt s3)))) (rangeL 0 ((s1.2.length : Int)).toNat) s1.2).bind fun o => o.out (fun (e : Empty) => e.elim) fun (s4 : (List (T3 Int Int Int))) =>
     some ((z3.2, s4))))
    (fun j s => Bag s.1 ∧ ∃ us, s.2 = us.map h30 ∧ Bg 150 (3 + j) us) (fun j s hj i => by
      obtain ⟨bs, us, es, g⟩ := i
      obtain ⟨w, y, ew, bw, sw⟩ := place_ok bs
      have g1 := g.lo
      have g2 := g.hi
      rw [ew, Option.bind_some, es]
      simp only [List.length_map]
      rw [rngOk_ok (by omega) (by omega), Option.bind_some]
      have key := loopL_brk (ρ := Empty) (f := fun (x2 : Int) (s3 : (List (T3 Int Int Int))) =>
         ((lenOk (((slice s3 none (some x2))).length + ([h30 w]).length)).bind fun _ =>
         (lenOk ((((slice s3 none (some x2)) ++ [h30 w])).length + ((slice s3 (some x2) none)).length)).bind fun _ =>
         (some ((((slice s3 none (some x2)) ++ [h30 w]) ++ (slice s3 (some x2) none)))).bind fun (more_1 : (List (T3 Int Int Int))) =>
         (m__law_is_convex more_1).bind fun z4 =>
         if z4 = true then
         (some (.brk more_1))
         else
         (some (.nxt s3)))) (fun s => s = us.map h30) (fun s => ∃ us, s = us.map h30 ∧ Bg 150 (3 + (j + 1)) us) (xs := rangeL 0 ((us.length : Int)).toNat) (s := us.map h30) (fun x s hx hs => by
          subst hs
          obtain ⟨a1, a2⟩ := rangeL_mem hx
          obtain ⟨k, rfl⟩ : ∃ k : Nat, x = (k : Int) := ⟨x.toNat, by omega⟩
          have hk : k ≤ us.length := by omega
          have q1 := slice_len (us.map h30) none (some (k : Int))
          have q2 := slice_len (us.map h30) (some (k : Int)) none
          rw [List.length_map] at q1 q2
          rw [lenOk_ok (by simp only [List.length_cons, List.length_nil]; omega), Option.bind_some, lenOk_ok (by rw [List.length_append]; simp only [List.length_cons, List.length_nil]; omega), Option.bind_some, Option.bind_some, put_map hk]
          have ml : (us.take k ++ [w] ++ us.drop k).length = us.length + 1 := by simp; omega
          have ms : ∀ u ∈ us.take k ++ [w] ++ us.drop k, Sz 150 u := fun u hu => by
            rcases List.mem_append.mp hu with hu | hu
            · rcases List.mem_append.mp hu with hu | hu
              · exact g.sz u (List.mem_of_mem_take hu)
              · rw [List.mem_singleton] at hu; subst hu; exact sw
            · exact g.sz u (List.mem_of_mem_drop hu)
          rcases convex_iff (by decide : (0 : Int) < 30) (rv30 (by decide) ms) (by omega) (by omega) with ⟨c, ec⟩ | ⟨c, ec⟩
          · rw [ec, Option.bind_some, if_pos rfl]
            exact .inr ⟨_, rfl, _, rfl, ms, by omega, by omega, c⟩
          · rw [ec, Option.bind_some, if_neg (by decide)]
            exact .inl ⟨_, rfl, rfl⟩) rfl
      rcases key with ⟨s', e, q⟩ | ⟨s', e, us', q, g'⟩
      · exact ⟨_, (congrArg (fun o => Option.bind o _) e).trans rfl, bw, us, q, g.sz, g.lo, by omega, g.cv⟩
      · exact ⟨_, (congrArg (fun o => Option.bind o _) e).trans rfl, bw, us', q, g'⟩) ⟨b2, us, rfl, g1⟩
  obtain ⟨bs, us', es, g⟩ := i
  refine ⟨us', s.1, (congrArg (fun o => Option.bind o _) e).trans ?_, bs, g.sz, g.lo, by have := g.hi; omega, g.cv⟩
  rw [Option.bind_some, es]
/-! ### plain: the ring drawn; its fan -/
theorem bg_cvx {us : List P2} (h : Bg 150 5 us) : Cvx (us.map h30) ∧ (∀ p ∈ us.map h30, Box p ∧ p.c ≤ 30) := by
  have ov : ∀ u ∈ us, Ov 30 (h30 u) u := fun u _ => h30_ov u
  have lo := h.lo
  have sides : ∀ s ∈ sd (us.map h30), ∃ j k : Nat, ∃ (a : j < us.length) (b : k < us.length), (k = j + 1 ∨ (j + 1 = us.length ∧ k = 0)) ∧ s = ⟨h30 us[j], h30 us[k]⟩ := by
    intro s hs
    rw [sd_map] at hs
    obtain ⟨t, ht, rfl⟩ := List.mem_map.mp hs
    obtain ⟨i, hi⟩ := List.getElem?_of_mem ht
    have hl := (List.getElem?_eq_some_iff.mp hi).1
    rw [sd_len] at hl
    obtain ⟨p, q, e, e1, e2, _, _⟩ := sd_at hl
    rw [hi] at e
    cases e
    rw [ix_lt hl] at e2
    have eq2 := Option.some.inj e2
    by_cases z : i = 0
    · subst z
      have := ix_neg (xs := us) (k := 0) hl
      rw [show (-1 : Int) - ((0 : Nat) : Int) = ((0 : Nat) : Int) - 1 by omega] at this
      rw [this] at e1
      have eq1 := Option.some.inj e1
      exact ⟨us.length - 1 - 0, 0, by omega, hl, .inr ⟨by omega, rfl⟩, by rw [← eq1, ← eq2]⟩
    · have h2 : i - 1 < us.length := by omega
      have := ix_lt h2
      rw [show ((i - 1 : Nat) : Int) = (i : Int) - 1 by omega] at this
      rw [this] at e1
      have eq1 := Option.some.inj e1
      exact ⟨i - 1, i, h2, hl, .inl (by omega), by rw [← eq1, ← eq2]⟩
  have dpos : ∀ (j k i : Nat) (a : j < us.length) (b : k < us.length) (c : i < us.length), (k = j + 1 ∨ (j + 1 = us.length ∧ k = 0)) → i ≠ j → i ≠ k → 0 < det (h30 us[j]) (h30 us[k]) (h30 us[i]) := by
    intro j k i a b c n n1 n2
    have := h.cv j k i a c b n n1 n2
    rw [← sg_one, det_ov (by decide : (0 : Int) < 30) (h30_ov us[j]) (h30_ov us[k]) (h30_ov us[i]), sg_one]
    exact this
  refine ⟨⟨fun p hp => ?_, by rw [List.length_map]; exact lo, by rw [List.length_map]; exact h.hi, fun s hs p hp => ?_, fun s hs => ?_⟩, fun p hp => ?_⟩
  · obtain ⟨u, hu, rfl⟩ := List.mem_map.mp hp
    exact ⟨(h30_ov u).pos, (h30_ov u).one⟩
  · obtain ⟨j, k, a, b, n, rfl⟩ := sides s hs
    obtain ⟨u, hu, rfl⟩ := List.mem_map.mp hp
    obtain ⟨i, hi, rfl⟩ := List.mem_iff_getElem.mp hu
    by_cases c1 : i = j
    · subst c1; exact .inl rfl
    · by_cases c2 : i = k
      · subst c2; exact .inr (.inl rfl)
      · exact .inr (.inr (dpos j k i a b hi n c1 c2))
  · obtain ⟨j, k, a, b, n, rfl⟩ := sides s hs
    obtain ⟨i, hi, n1, n2⟩ : ∃ i, i < us.length ∧ i ≠ j ∧ i ≠ k := by
      by_cases z0 : (0 : Nat) ≠ j ∧ 0 ≠ k
      · exact ⟨0, by omega, z0.1, z0.2⟩
      · by_cases z1 : (1 : Nat) ≠ j ∧ 1 ≠ k
        · exact ⟨1, by omega, z1.1, z1.2⟩
        · exact ⟨2, by omega, by omega, by omega⟩
    exact ⟨_, List.mem_map.mpr ⟨us[i], List.getElem_mem hi, rfl⟩, dpos j k i a b hi n n1 n2⟩
  · obtain ⟨u, hu, rfl⟩ := List.mem_map.mp hp
    obtain ⟨⟨s1, s2⟩, s3, s4⟩ := h.sz u hu
    have o := h30_ov u
    have q1 := o.ea
    have q2 := o.eb
    have hp := o.pos
    have lo : ∀ x y : Int, 0 ≤ y → x * 30 = y * (h30 u).c → 0 ≤ x := fun x y h e => by
      have := Int.mul_nonneg h (Int.le_of_lt hp); omega
    have hi : ∀ x y : Int, y ≤ 150 → x * 30 = y * (h30 u).c → x ≤ 5 * (h30 u).c := fun x y h e => by
      have := Int.mul_le_mul_of_nonneg_right h (Int.le_of_lt hp); omega
    exact ⟨⟨lo _ _ s3 q1, hi _ _ (by omega) q1, lo _ _ s4 q2, hi _ _ (by omega) q2⟩, Int.le_of_dvd (by decide) o.dvd⟩
theorem lawfan_ok {R : List P3} (cv : Cvx R) (bx : ∀ p ∈ R, Box p) {N : Nat} (hB : PB R < (2 : Int) ^ N) (hN : N ≤ 3000) {xs : List Int} (hb : Bag xs) :
    ∃ M ys, m__law_fan R xs = some (fanL M R, ys) ∧ Bag ys ∧ PtG M ∧ Box M ∧ M.c < (2 : Int) ^ (N + 9) ∧ ∀ s ∈ sd R, 0 < det s.a s.b M := by
  obtain ⟨M, ys, e, b, g, bo, c, d⟩ := mixed_ok cv bx hB hN hb
  have l5 := cv.l5
  refine ⟨M, ys, ?_, b, g, bo, c, d⟩
  unfold m__law_fan
  rw [e, Option.bind_some, rngOk_ok (by omega) (by omega), Option.bind_some]
  have hz := foldO_zip (f := (fun (x1 : Int) (s1 : (List (List (T3 Int Int Int)))) => ((ix R ((x1 - 1))).bind fun x2 => (ix R x1).bind fun x3 => (lenOk (s1.length + 1)).bind fun _ => some ((s1 ++ [[M, x2, x3]]))))) (g := fun (s : T2 P3 P3) (s1 : List (List P3)) => (lenOk (s1.length + 1)).bind fun _ => some (s1 ++ [[M, s.a, s.b]])) (xs := rangeL 0 ((R.length : Int)).toNat) (ys := sd R) (by rw [rangeL_len, sd_len]; omega) (fun j x y hx hy s => by
    obtain ⟨ex, hj⟩ := rangeL_at hx
    obtain ⟨p, q, e', e1, e2, m1, m2⟩ := sd_at (xs := R) (j := j) (by omega)
    rw [hy] at e'
    cases e'
    rw [ex, Int.zero_add, e1, Option.bind_some, e2, Option.bind_some])
  dsimp only
  rw [hz]
  obtain ⟨s', e', h'⟩ := foldO_at (f := fun (s : T2 P3 P3) (s1 : List (List P3)) => (lenOk (s1.length + 1)).bind fun _ => some (s1 ++ [[M, s.a, s.b]])) (fun k s1 => s1 = ((sd R).take k).map fun s => [M, s.a, s.b]) (xs := sd R) (s := []) 0 (fun j s s1 hj i => by
    rw [Nat.zero_add] at i ⊢
    have hl := sd_len R
    have : s1.length ≤ 5 := by rw [i, List.length_map, List.length_take]; omega
    rw [lenOk_ok (by omega), Option.bind_some]
    refine ⟨_, rfl, ?_⟩
    rw [List.take_add_one, hj, List.map_append, i]; rfl) rfl
  rw [Nat.zero_add, List.take_length] at h'
  rw [e', h', Option.bind_some]
  rfl
/-- each triangle of a fan -/
theorem fan_tri {R : List P3} {M : P3} (d : ∀ s ∈ sd R, 0 < det s.a s.b M) : ∀ T ∈ fanL M R, Tri T ∧ ∀ p ∈ T, p = M ∨ p ∈ R := by
  intro T hT
  obtain ⟨s, hs, rfl⟩ := List.mem_map.mp hT
  obtain ⟨h1, h2⟩ := sd_mem (p := s.a) (q := s.b) hs
  refine ⟨⟨M, s.a, s.b, rfl, ?_⟩, fun p hp => ?_⟩
  · have := d s hs
    have e : det M s.a s.b = det s.a s.b M := by unfold det; grind
    rw [e]; exact this
  · simp only [List.mem_cons, List.not_mem_nil, or_false] at hp
    rcases hp with q | q | q
    · exact .inl q
    · exact .inr (q ▸ h1)
    · exact .inr (q ▸ h2)
/-- the middle is no corner -/
theorem fan_ne {R : List P3} {M : P3} (d : ∀ s ∈ sd R, 0 < det s.a s.b M) : ∀ u ∈ R, M ≠ u := by
  intro u hu e
  obtain ⟨j, hj⟩ := List.getElem?_of_mem hu
  have hl := (List.getElem?_eq_some_iff.mp hj).1
  obtain ⟨p, q, e1, _, e2, _, _⟩ := sd_at hl
  rw [ix_lt hl] at e2
  have eq := Option.some.inj e2
  have h := d _ (List.mem_of_getElem? e1)
  have : q = u := by
    have := (List.getElem?_eq_some_iff.mp hj).2
    rw [← eq, this]
  dsimp only at h
  rw [e, this] at h
  have := (det_self p u).2
  omega
/-! ### plain: what a triangle leaves in the tally -/
theorem det_ln (p q r : P3) : det p q r = la p q * r.a + lb p q * r.b + lc p q * r.c := rfl
theorem vert1 {p q r : P3} (d : 0 < det p q r) (gp : PtG p) (gq : PtG q) (gr : PtG r) : sideT ⟨p, q⟩ ⟨lnF p q, p⟩ + sideT ⟨q, r⟩ ⟨lnF p q, p⟩ + sideT ⟨r, p⟩ ⟨lnF p q, p⟩ = 1 := by
  obtain ⟨n1, n2, n3⟩ := det_ne d
  unfold sideT
  dsimp only
  have a1 : ¬ ((⟨lnF p q, p⟩ : Ky) = ⟨lnF p q, q⟩) := fun e => by injection e with _ e; exact n1 e
  have a2 : ¬ ((⟨lnF p q, p⟩ : Ky) = ⟨lnF q r, q⟩) := fun e => by injection e with _ e; exact n1 e
  have a3 : ¬ ((⟨lnF p q, p⟩ : Ky) = ⟨lnF q r, r⟩) := fun e => by injection e with _ e; exact n3 e.symm
  have a4 : ¬ ((⟨lnF p q, p⟩ : Ky) = ⟨lnF r p, r⟩) := fun e => by injection e with _ e; exact n3 e.symm
  have a5 : ¬ ((⟨lnF p q, p⟩ : Ky) = ⟨lnF r p, p⟩) := fun e => by
    injection e with e _
    have := ln_col (ln_ne gp.1 gq.1 gp.2 gq.2 n1) (ln_ne gr.1 gp.1 gr.2 gp.2 n3) e
    rw [← det_ln] at this
    omega
  rw [if_pos rfl, if_neg a1, if_neg a2, if_neg a3, if_neg a4, if_neg a5]
  decide
theorem vert {T : List P3} (t : Tri T) (g : ∀ p ∈ T, PtG p) : ∀ x ∈ T, ∃ k : Ky, k.b = x ∧ tls (sd T) k = 1 := by
  obtain ⟨p, q, r, rfl, d⟩ := t
  have d2 : 0 < det q r p := by
    have : det q r p = det p q r := by unfold det; grind
    omega
  have d3 : 0 < det r p q := by
    have : det r p q = det p q r := by unfold det; grind
    omega
  have gp := g p (by simp)
  have gq := g q (by simp)
  have gr := g r (by simp)
  intro x hx
  simp only [List.mem_cons, List.not_mem_nil, or_false] at hx
  rcases hx with e | e | e <;> subst e
  · exact ⟨⟨lnF x q, x⟩, rfl, by rw [tls3]; exact vert1 d gp gq gr⟩
  · refine ⟨⟨lnF x r, x⟩, rfl, ?_⟩
    rw [tls3]
    have := vert1 d2 gq gr gp
    omega
  · refine ⟨⟨lnF x p, x⟩, rfl, ?_⟩
    rw [tls3]
    have := vert1 d3 gr gp gq
    omega
theorem tls_off {us : List P3} {k : Ky} (h : k.b ∉ us) : tls (sd us) k = 0 := by
  have : ∀ ss : List (T2 P3 P3), (∀ s ∈ ss, k.b ≠ s.a ∧ k.b ≠ s.b) → tls ss k = 0 := by
    intro ss
    induction ss with
    | nil => intro _; rfl
    | cons s ss ih =>
      intro hs
      rw [tls_cons, ih fun t ht => hs t (List.mem_cons_of_mem _ ht)]
      obtain ⟨h1, h2⟩ := hs s List.mem_cons_self
      unfold sideT
      rw [if_neg (fun e => h1 (by rw [e])), if_neg (fun e => h2 (by rw [e]))]
      decide
  refine this _ fun s hs => ?_
  obtain ⟨h1, h2⟩ := sd_mem (p := s.a) (q := s.b) hs
  exact ⟨fun e => h (e ▸ h1), fun e => h (e ▸ h2)⟩
/-- how far along w -/
def dotw (w p : P3) : Int := w.a * p.a + w.b * p.b
theorem exists_top (w : P3) : ∀ {T : List P3}, T ≠ [] → (∀ p ∈ T, 0 < p.c) → ∃ p ∈ T, ∀ q ∈ T, dotw w q * p.c ≤ dotw w p * q.c
  | [], h, _ => absurd rfl h
  | [p], _, _ => ⟨p, by simp, fun q hq => by rw [List.mem_singleton.mp hq]; exact Int.le_refl _⟩
  | p :: q :: T, _, h => by
    obtain ⟨m, hm, top⟩ := exists_top w (T := q :: T) (by simp) fun x hx => h x (List.mem_cons_of_mem _ hx)
    have hp := h p List.mem_cons_self
    have hmc := h m (List.mem_cons_of_mem _ hm)
    by_cases c : dotw w p * m.c ≤ dotw w m * p.c
    · refine ⟨m, List.mem_cons_of_mem _ hm, fun x hx => ?_⟩
      rcases List.mem_cons.mp hx with e | hx
      · rw [e]; exact c
      · exact top x hx
    · refine ⟨p, List.mem_cons_self, fun x hx => ?_⟩
      rcases List.mem_cons.mp hx with e | hx
      · rw [e]; exact Int.le_refl _
      · have t := top x hx
        have hx' := h x (List.mem_cons_of_mem _ hx)
        have a1 := Int.mul_le_mul_of_nonneg_right t (Int.le_of_lt hp)
        have a2 := Int.mul_le_mul_of_nonneg_right (show dotw w m * p.c ≤ dotw w p * m.c by omega) (Int.le_of_lt hx')
        have : dotw w x * p.c * m.c ≤ dotw w p * x.c * m.c := by
          rw [show dotw w x * p.c * m.c = dotw w x * m.c * p.c by grind]
          refine Int.le_trans a1 ?_
          rw [show dotw w m * x.c * p.c = dotw w m * p.c * x.c by grind, show dotw w p * x.c * m.c = dotw w p * m.c * x.c by grind]
          exact a2
        exact Int.le_of_mul_le_mul_right this hmc
theorem sq_pos2 {a b : Int} (h : a ≠ 0 ∨ b ≠ 0) : 0 < a * a + b * b := by
  have sq : ∀ x : Int, 0 ≤ x * x := fun x => by
    rcases Int.le_total 0 x with h | h
    · exact Int.mul_nonneg h h
    · exact Int.mul_nonneg_of_nonpos_of_nonpos h h
  have nz : ∀ x : Int, x ≠ 0 → 0 < x * x := fun x hx => by
    have := sq x
    have : x * x ≠ 0 := fun e => by rcases Int.mul_eq_zero.mp e with z | z <;> exact hx z
    omega
  have := sq a
  have := sq b
  rcases h with h | h
  · have := nz a h; omega
  · have := nz b h; omega
/-- slid further than its top, a corner is none of the others -/
theorem shift_top {w p q : P3} (hp : 0 < p.c) (hq : 0 < q.c) (hw : 0 < w.c) (nz : w.a ≠ 0 ∨ w.b ≠ 0) (top : dotw w q * p.c ≤ dotw w p * q.c) : sl p w ≠ q := by
  intro e
  have lw := sl_low hp hw
  rw [e] at lw
  have e1 := lw.ea
  have e2 := lw.eb
  have k : dotw w q * (p.c * w.c) = (dotw w p * w.c + (w.a * w.a + w.b * w.b) * p.c) * q.c := by
    unfold dotw
    rw [show (w.a * q.a + w.b * q.b) * (p.c * w.c) = w.a * (q.a * (p.c * w.c)) + w.b * (q.b * (p.c * w.c)) by grind, e1, e2]
    grind
  have s := Int.mul_pos (Int.mul_pos (sq_pos2 nz) hp) hq
  have t := Int.mul_le_mul_of_nonneg_right top (Int.le_of_lt hw)
  have : dotw w q * p.c * w.c = dotw w p * q.c * w.c + (w.a * w.a + w.b * w.b) * p.c * q.c := by
    rw [show dotw w q * p.c * w.c = dotw w q * (p.c * w.c) by grind, k]; grind
  omega
theorem shift_off {w : P3} {T : List P3} (ne : T ≠ []) (h : ∀ p ∈ T, 0 < p.c) (hw : 0 < w.c) (nz : w.a ≠ 0 ∨ w.b ≠ 0) : ∃ p ∈ T, sl p w ∉ T := by
  obtain ⟨p, hp, top⟩ := exists_top w ne h
  exact ⟨p, hp, fun hm => shift_top (h p hp) (h _ hm) hw nz (top _ hm) rfl⟩
theorem shift_ne {w p : P3} (hp : 0 < p.c) (hw : 0 < w.c) (nz : w.a ≠ 0 ∨ w.b ≠ 0) : sl p w ≠ p := shift_top hp hp hw nz (Int.le_refl _)
/-- slid twice is slid by both -/
theorem sl_sl {p v w : P3} (hp : 0 < p.c) (hv : 0 < v.c) (hw : 0 < w.c) : sl p (sl v w) = sl (sl p v) w := by
  have a := sl_low hv hw
  have b := sl_low hp hv
  have c := sl_low hp a.pos
  have d := sl_low b.pos hw
  have P0 : 0 < p.c * v.c * w.c := Int.mul_pos (Int.mul_pos hp hv) hw
  have o1 : Ov (p.c * v.c * w.c) (sl p (sl v w)) ⟨p.a * v.c * w.c + v.a * p.c * w.c + w.a * p.c * v.c, p.b * v.c * w.c + v.b * p.c * w.c + w.b * p.c * v.c⟩ := by
    refine low3_ov c (by have := Int.mul_pos hp a.pos; omega) ?_ ?_
    · have e := a.ea
      generalize sl v w = x at *
      rw [Int.add_mul, show x.a * p.c * (p.c * v.c * w.c) = (x.a * (v.c * w.c)) * (p.c * p.c) by grind, e]; grind
    · have e := a.eb
      generalize sl v w = x at *
      rw [Int.add_mul, show x.b * p.c * (p.c * v.c * w.c) = (x.b * (v.c * w.c)) * (p.c * p.c) by grind, e]; grind
  have o2 : Ov (p.c * v.c * w.c) (sl (sl p v) w) ⟨p.a * v.c * w.c + v.a * p.c * w.c + w.a * p.c * v.c, p.b * v.c * w.c + v.b * p.c * w.c + w.b * p.c * v.c⟩ := by
    refine low3_ov d (by have := Int.mul_pos b.pos hw; omega) ?_ ?_
    · have e := b.ea
      generalize sl p v = x at *
      rw [Int.add_mul, show x.a * w.c * (p.c * v.c * w.c) = (x.a * (p.c * v.c)) * (w.c * w.c) by grind, e]; grind
    · have e := b.eb
      generalize sl p v = x at *
      rw [Int.add_mul, show x.b * w.c * (p.c * v.c * w.c) = (x.b * (p.c * v.c)) * (w.c * w.c) by grind, e]; grind
  exact ov_same P0 o1 o2
theorem ld_sl {f : Bool} {p v w : P3} (hp : 0 < p.c) (hv : 0 < v.c) (hw : 0 < w.c) : ld f (sl v w) p = sl (ld f v p) w := by
  unfold ld
  cases f with
  | true => exact sl_sl (p := tn p) hp hv hw
  | false => exact sl_sl hp hv hw
def bk (f : Bool) (v : P3) : P3 := if (!f) = true then tn v else v
theorem sl_back {p v : P3} (gp : PtG p) (hv : 0 < v.c) : sl (sl p v) (tn v) = p := by
  have b := sl_low gp.1 hv
  have d := sl_low (p := sl p v) (v := tn v) b.pos hv
  have P0 : 0 < p.c * v.c := Int.mul_pos gp.1 hv
  have o1 : Ov (p.c * v.c) (sl (sl p v) (tn v)) ⟨p.a * v.c, p.b * v.c⟩ := by
    refine low3_ov d (by have := Int.mul_pos b.pos hv; show (sl p v).c * v.c ≠ 0; omega) ?_ ?_
    · have e := b.ea
      show ((sl p v).a * v.c + -v.a * (sl p v).c) * (p.c * v.c) = p.a * v.c * ((sl p v).c * v.c)
      generalize sl p v = x at *
      rw [Int.add_mul, show x.a * v.c * (p.c * v.c) = (x.a * (p.c * v.c)) * v.c by grind, e]; grind
    · have e := b.eb
      show ((sl p v).b * v.c + -v.b * (sl p v).c) * (p.c * v.c) = p.b * v.c * ((sl p v).c * v.c)
      generalize sl p v = x at *
      rw [Int.add_mul, show x.b * v.c * (p.c * v.c) = (x.b * (p.c * v.c)) * v.c by grind, e]; grind
  have o2 : Ov (p.c * v.c) p ⟨p.a * v.c, p.b * v.c⟩ := ⟨gp.1, by show p.a * (p.c * v.c) = p.a * v.c * p.c; grind, by show p.b * (p.c * v.c) = p.b * v.c * p.c; grind, gp.2⟩
  exact ov_same P0 o1 o2
theorem tn_tn (p : P3) : tn (tn p) = p := by obtain ⟨a, b, c⟩ := p; unfold tn; simp
theorem tn_sl {p v : P3} (hp : 0 < p.c) (hv : 0 < v.c) : tn (sl p v) = sl (tn p) (tn v) := by
  have b := sl_low hp hv
  have d := sl_low (p := tn p) (v := tn v) hp hv
  have P0 : 0 < p.c * v.c := Int.mul_pos hp hv
  have o1 : Ov (p.c * v.c) (tn (sl p v)) ⟨-(p.a * v.c + v.a * p.c), -(p.b * v.c + v.b * p.c)⟩ := by
    have g := tn_g (p := sl p v) ⟨b.pos, b.one⟩
    refine ⟨g.1, ?_, ?_, g.2⟩
    · show -(sl p v).a * (p.c * v.c) = -(p.a * v.c + v.a * p.c) * (sl p v).c
      rw [Int.neg_mul, b.ea, Int.neg_mul]
    · show -(sl p v).b * (p.c * v.c) = -(p.b * v.c + v.b * p.c) * (sl p v).c
      rw [Int.neg_mul, b.eb, Int.neg_mul]
  have o2 : Ov (p.c * v.c) (sl (tn p) (tn v)) ⟨-(p.a * v.c + v.a * p.c), -(p.b * v.c + v.b * p.c)⟩ := by
    refine low3_ov d (by show p.c * v.c ≠ 0; omega) ?_ ?_
    · show (-p.a * v.c + -v.a * p.c) * (p.c * v.c) = -(p.a * v.c + v.a * p.c) * (p.c * v.c)
      grind
    · show (-p.b * v.c + -v.b * p.c) * (p.c * v.c) = -(p.b * v.c + v.b * p.c) * (p.c * v.c)
      grind
  exact ov_same P0 o1 o2
theorem ld_back {f : Bool} {p v : P3} (gp : PtG p) (gv : PtG v) : ld f (bk f v) (ld f v p) = p := by
  unfold ld bk
  cases f with
  | true =>
    simp only [if_true, Bool.not_true, Bool.false_eq_true, if_false]
    rw [tn_sl (p := tn p) gp.1 gv.1, tn_tn]
    have := sl_back gp (v := tn v) gv.1
    rw [tn_tn] at this
    exact this
  | false =>
    simp only [Bool.not_false, if_true, Bool.false_eq_true, if_false]
    exact sl_back gp gv.1
theorem bk_pt {f : Bool} {v : P3} {n : Nat} (h : Pt n v) : Pt n (bk f v) := by
  unfold bk
  split
  · exact tn_pt h
  · exact h
/-! ### plain: partings -/
structure Hg (h : P3 → P3) : Prop where
  g : ∀ p, PtG p → PtG (h p)
  inj : ∀ p q, PtG p → PtG q → h p = h q → p = q
theorem hg_id : Hg id := ⟨fun _ h => h, fun _ _ _ _ e => e⟩
theorem hg_ld (f : Bool) {v : P3} (hv : 0 < v.c) : Hg (ld f v) := ⟨fun _ h => ld_g h hv, fun _ _ hp hq e => ld_inj hp hq hv e⟩
def tlr (h : P3 → P3) (rs : List (List P3)) (k : Ky) : Int := tls ((rs.map (List.map h)).flatMap sd) k
theorem tlr_app (h : P3 → P3) (xs ys : List (List P3)) (k : Ky) : tlr h (xs ++ ys) k = tlr h xs k + tlr h ys k := by
  unfold tlr
  rw [List.map_append, List.flatMap_append, tls_app]
theorem tlr_one (h : P3 → P3) (T : List P3) (k : Ky) : tlr h [T] k = tls (sd (T.map h)) k := by
  unfold tlr
  simp
/-- rings that part R0 -/
structure Pts (C : Int) (R0 : List P3) (rs : List (List P3)) : Prop where
  tri : ∀ T ∈ rs, Tri T
  ok : ∀ T ∈ rs, ∀ p ∈ T, PtG p ∧ Box p ∧ PB T < C
  eq : ∀ h, Hg h → ∀ k, tlr h rs k = tls (sd (R0.map h)) k
theorem pb_le {C : Int} : ∀ {us : List P3}, (∀ p ∈ us, 0 < p.c ∧ p.c ≤ C) → PB us ≤ C ^ us.length
  | [], _ => by show (1 : Int) ≤ C ^ 0; rw [Int.pow_zero]; exact Int.le_refl _
  | p :: us, h => by
    have ih := pb_le (us := us) fun q hq => h q (List.mem_cons_of_mem _ hq)
    obtain ⟨h1, h2⟩ := h p List.mem_cons_self
    have hp : 0 < PB us := pb_pos fun q hq => (h q (List.mem_cons_of_mem _ hq)).1
    show p.c * PB us ≤ C ^ (us.length + 1)
    rw [Int.pow_succ, Int.mul_comm (C ^ _)]
    exact Int.mul_le_mul h2 ih (Int.le_of_lt hp) (by omega)
theorem pb_mem {us : List P3} (h : ∀ q ∈ us, 0 < q.c) {p : P3} (hp : p ∈ us) : p.c ≤ PB us := Int.le_of_dvd (pb_pos h) (pb_dvd hp)
theorem sl_mid {α : Type} {xs : List α} {i : Nat} {x : α} (h : xs[i]? = some x) : xs = xs.take i ++ [x] ++ xs.drop (i + 1) := by
  obtain ⟨hl, hx⟩ := List.getElem?_eq_some_iff.mp h
  have e := List.take_append_drop i xs
  rw [List.drop_eq_getElem_cons hl, hx] at e
  rw [List.append_assoc]
  exact e.symm
theorem fan_len (M : P3) (R : List P3) : (fanL M R).length = R.length := by unfold fanL; rw [List.length_map, sd_len]
/-- a ring of them parted once more -/
theorem Pts.part {C D : Int} {R0 : List P3} {rs : List (List P3)} {i : Nat} {T : List P3} {M : P3} (h : Pts C R0 rs) (hT : rs[i]? = some T) (CD : C ≤ D) (gM : PtG M) (bM : Box M) (d : ∀ s ∈ sd T, 0 < det s.a s.b M)
    (pbM : ∀ V ∈ fanL M T, PB V < D) : Pts D R0 (rs.take i ++ fanL M T ++ rs.drop (i + 1)) := by
  have hm := List.mem_of_getElem? hT
  have ft := fan_tri d
  have mem : ∀ V ∈ rs.take i ++ fanL M T ++ rs.drop (i + 1), V ∈ rs ∨ V ∈ fanL M T := fun V hV => by
    rcases List.mem_append.mp hV with q | q
    · rcases List.mem_append.mp q with q | q
      · exact .inl (List.mem_of_mem_take q)
      · exact .inr q
    · exact .inl (List.mem_of_mem_drop q)
  refine ⟨fun V hV => ?_, fun V hV p hp => ?_, fun f hf k => ?_⟩
  · rcases mem V hV with q | q
    · exact h.tri V q
    · exact (ft V q).1
  · rcases mem V hV with q | q
    · obtain ⟨a, b, c⟩ := h.ok V q p hp
      exact ⟨a, b, by omega⟩
    · rcases (ft V q).2 p hp with e | e
      · subst e; exact ⟨gM, bM, pbM V q⟩
      · obtain ⟨a, b, _⟩ := h.ok T hm p e
        exact ⟨a, b, pbM V q⟩
  · rw [← h.eq f hf k]
    have e : tlr f rs k = tlr f (rs.take i) k + tlr f [T] k + tlr f (rs.drop (i + 1)) k := by
      rw [← tlr_app, ← tlr_app, ← sl_mid hT]
    rw [e, tlr_app, tlr_app]
    have : tlr f (fanL M T) k = tlr f [T] k := by
      rw [tlr_one]
      exact fan_tls (hf.g M gM) (fun u hu => ⟨hf.g u (h.ok T hm u hu).1, fun e => fan_ne d u hu (hf.inj M u gM (h.ok T hm u hu).1 e)⟩) k
    rw [this]
/-- the first fan -/
theorem pts_first {R0 : List P3} {D : Int} {M : P3} (cv : Cvx R0) (bx : ∀ p ∈ R0, Box p) (gM : PtG M) (bM : Box M) (d : ∀ s ∈ sd R0, 0 < det s.a s.b M) (pbM : ∀ V ∈ fanL M R0, PB V < D) : Pts D R0 (fanL M R0) := by
  have ft := fan_tri d
  refine ⟨fun V hV => (ft V hV).1, fun V hV p hp => ?_, fun f hf k => ?_⟩
  · rcases (ft V hV).2 p hp with e | e
    · subst e; exact ⟨gM, bM, pbM V hV⟩
    · exact ⟨cv.g p e, bx p e, pbM V hV⟩
  · exact fan_tls (hf.g M gM) (fun u hu => ⟨hf.g u (cv.g u hu), fun e => fan_ne d u hu (hf.inj M u gM (cv.g u hu) e)⟩) k
/-! ### plain: plans of moves that part -/
theorem cvx_sides {R : List P3} (cv : Cvx R) {n : Nat} (pt : ∀ p ∈ R, Pt n p) : ∀ s ∈ sd R, OkS n s := by
  intro s hs
  obtain ⟨h1, h2⟩ := sd_mem (p := s.a) (q := s.b) hs
  refine ⟨fun e => ?_, pt _ h1, pt _ h2⟩
  obtain ⟨p, _, d⟩ := cv.ex s hs
  rw [e] at d
  have : det s.b s.b p = 0 := by unfold det; grind
  omega
theorem map_sides {R : List P3} (cv : Cvx R) {h : P3 → P3} (hh : Hg h) {n : Nat} (pt : ∀ p ∈ R, Pt n (h p)) : ∀ s ∈ sd (R.map h), OkS n s := by
  intro s hs
  rw [sd_map] at hs
  obtain ⟨t, ht, rfl⟩ := List.mem_map.mp hs
  obtain ⟨h1, h2⟩ := sd_mem (p := t.a) (q := t.b) ht
  refine ⟨fun e => ?_, pt _ h1, pt _ h2⟩
  have e' := hh.inj _ _ (cv.g _ h1) (cv.g _ h2) e
  obtain ⟨p, _, d⟩ := cv.ex t ht
  rw [e'] at d
  have : det t.b t.b p = 0 := by unfold det; grind
  omega
theorem rgs_tls (ms : List Mv) (k : Ky) : tls ((rgs ms).flatMap sd) k = tlr id (rgs ms) k := by
  unfold tlr
  have : (rgs ms).map (List.map id) = rgs ms := by
    have : (List.map id : List P3 → List P3) = id := by funext x; exact List.map_id x
    rw [this, List.map_id]
  rw [this]
/-! ### plain: plans, yes and no -/
theorem plan_no {n k : Nat} (hn : n + k ≤ 2990) {ms : List Mv} {t : Bool} {one other : List (List P3)} (h : ∀ m ∈ ms, (∀ p ∈ m.a, Pt n p) ∧ m.a.length ≤ 1000 ∧ Pt k m.c) (hl : ms.length ≤ 10000)
    (h1 : ∀ s ∈ one.flatMap sd, OkS 3000 s) (h2 : ∀ s ∈ other.flatMap sd, OkS 3000 s) (l1 : (one.flatMap sd).length ≤ 10000) (l2 : (other.flatMap sd).length ≤ 10000)
    (bad : (∃ m ∈ ms, ¬ (Tri m.a ∧ (m.b = true → t = true))) ∨ (∃ k, tls ((rgs ms).flatMap sd) k ≠ tls (one.flatMap sd) k) ∨ ∃ k, tls ((leds ms).flatMap sd) k ≠ tls (other.flatMap sd) k) : m_is_plan one other ms t = some false := by
  by_cases a : ∀ m ∈ ms, Tri m.a ∧ (m.b = true → t = true)
  · obtain ⟨b, e, hb⟩ := plan_good hn (fun m hm => ⟨(h m hm).1, (h m hm).2.2, a m hm⟩) hl h1 h2 l1 l2
    rw [e]
    cases b with
    | false => rfl
    | true =>
      obtain ⟨a1, a2⟩ := hb.mp rfl
      rcases bad with ⟨m, hm, q⟩ | ⟨k, q⟩ | ⟨k, q⟩
      · exact absurd (a m hm) q
      · exact absurd (a1 k) q
      · exact absurd (a2 k) q
  · have : ∃ m ∈ ms, ¬ (Tri m.a ∧ (m.b = true → t = true)) := by
      apply Classical.byContradiction
      intro z
      exact a fun m hm => Classical.byContradiction fun q => z ⟨m, hm, q⟩
    exact plan_bad (n := n) (by omega) (fun m hm => ⟨(h m hm).1, (h m hm).2.1⟩) this
theorem plan_yes {n k : Nat} (hn : n + k ≤ 2990) {ms : List Mv} {t : Bool} {one other : List (List P3)} (h : ∀ m ∈ ms, (∀ p ∈ m.a, Pt n p) ∧ Pt k m.c ∧ Tri m.a ∧ (m.b = true → t = true)) (hl : ms.length ≤ 10000)
    (h1 : ∀ s ∈ one.flatMap sd, OkS 3000 s) (h2 : ∀ s ∈ other.flatMap sd, OkS 3000 s) (l1 : (one.flatMap sd).length ≤ 10000) (l2 : (other.flatMap sd).length ≤ 10000)
    (a1 : ∀ k, tls ((rgs ms).flatMap sd) k = tls (one.flatMap sd) k) (a2 : ∀ k, tls ((leds ms).flatMap sd) k = tls (other.flatMap sd) k) : m_is_plan one other ms t = some true := by
  obtain ⟨b, e, hb⟩ := plan_good hn h hl h1 h2 l1 l2
  rw [e, hb.mpr ⟨a1, a2⟩]
theorem tls_zero {rs : List (List P3)} {k : Ky} (h : ∀ R ∈ rs, k.b ∉ R) : tls (rs.flatMap sd) k = 0 := by
  induction rs with
  | nil => rfl
  | cons R rs ih => rw [List.flatMap_cons, tls_app, tls_off (h R List.mem_cons_self), ih fun x hx => h x (List.mem_cons_of_mem _ hx)]; rfl
theorem det_sw (p q r : P3) : det q p r = -det p q r := by unfold det; grind
/-- a ring that bulges leaves something -/
theorem cvx_key {R : List P3} (cv : Cvx R) : ∃ k, tls (sd R) k ≠ 0 := by
  have l := cv.l3
  obtain ⟨a, b, e, _⟩ := sd_at (xs := R) (j := 0) (by omega)
  have hs : (⟨a, b⟩ : T2 P3 P3) ∈ sd R := List.mem_of_getElem? e
  obtain ⟨h1, h2⟩ := sd_mem hs
  obtain ⟨x, hx, dx⟩ := cv.ex _ hs
  dsimp only at dx
  have ne : a ≠ b := by
    intro z; subst z
    have : det a a x = 0 := by unfold det; grind
    omega
  have xa : x ≠ a := by intro z; subst z; have := (det_self x b).1; omega
  have xb : x ≠ b := by intro z; subst z; have := (det_self a x).2; omega
  have key : ∀ t ∈ sd R, 0 ≤ sideT t ⟨lnF a b, a⟩ := by
    intro t ht
    obtain ⟨g1, g2⟩ := sd_mem (p := t.a) (q := t.b) ht
    unfold sideT
    by_cases c : (⟨lnF a b, a⟩ : Ky) = ⟨lnF t.a t.b, t.b⟩
    · exfalso
      injection c with c1 c2
      have nt : t.a ≠ t.b := by
        intro z
        obtain ⟨y, _, dy⟩ := cv.ex t ht
        rw [z] at dy
        have : det t.b t.b y = 0 := by unfold det; grind
        omega
      have col := ln_col (ln_ne (cv.g _ h1).1 (cv.g _ h2).1 (cv.g _ h1).2 (cv.g _ h2).2 ne) (ln_ne (cv.g _ g1).1 (cv.g _ g2).1 (cv.g _ g1).2 (cv.g _ g2).2 nt) c1
      rw [← det_ln] at col
      rcases cv.cv _ hs t.a g1 with q | q | q
      · exact nt (by rw [← c2]; exact q)
      · have q : t.a = b := q
        have d1 : t.b = a := c2.symm
        rcases cv.cv t ht x hx with w | w | w
        · exact xb (by rw [w, q])
        · exact xa (by rw [w, d1])
        · rw [q, d1, det_sw] at w; omega
      · have q : 0 < det a b t.a := q
        omega
    · rw [if_neg c]; split <;> decide
  have one : sideT ⟨a, b⟩ ⟨lnF a b, a⟩ = 1 := by
    unfold sideT
    have : ¬ (⟨lnF a b, a⟩ : Ky) = ⟨lnF a b, b⟩ := fun c => by injection c with _ c; exact ne c
    dsimp only
    rw [if_pos rfl, if_neg this]; rfl
  refine ⟨⟨lnF a b, a⟩, fun z => ?_⟩
  have : 0 < tls (sd R) ⟨lnF a b, a⟩ := lsum_pos (fun y hy => by
    obtain ⟨t, ht, rfl⟩ := List.mem_map.mp hy
    exact key t ht) ⟨1, List.mem_map.mpr ⟨_, hs, one⟩, by decide⟩
  omega
/-! ### plain: triangles apart -/
def Inn (T : List P3) (x : P3) : Prop := ∀ s ∈ sd T, 0 < det s.a s.b x
/-- no point lies strictly in two sectors of a fan -/
theorem sec_apart {M a b c d x : P3} (hab : 0 < det a b M) (hcd : 0 < det c d M) (c1 : 0 ≤ det a b c) (c2 : 0 ≤ det a b d) (c3 : 0 < det a b c ∨ 0 < det a b d) (e1 : 0 ≤ det c d a) (e2 : 0 ≤ det c d b) (e3 : 0 < det c d a ∨ 0 < det c d b)
    (x1 : 0 < det M a x) (x2 : 0 < det a b x) (x3 : 0 < det b M x) (y1 : 0 < det M c x) (y2 : 0 < det c d x) (y3 : 0 < det d M x) : False := by
  have k1 : det a b x * det c d M = det c d x * det a b M + det d M x * det a b c + det M c x * det a b d := by unfold det; grind
  have k2 : det c d x * det a b M = det a b x * det c d M + det b M x * det c d a + det M a x * det c d b := by unfold det; grind
  have s1 : 0 < det d M x * det a b c + det M c x * det a b d := by
    have a1 := Int.mul_nonneg (Int.le_of_lt y3) c1
    have a2 := Int.mul_nonneg (Int.le_of_lt y1) c2
    rcases c3 with q | q
    · have := Int.mul_pos y3 q; omega
    · have := Int.mul_pos y1 q; omega
  have s2 : 0 < det b M x * det c d a + det M a x * det c d b := by
    have a1 := Int.mul_nonneg (Int.le_of_lt x3) e1
    have a2 := Int.mul_nonneg (Int.le_of_lt x1) e2
    rcases e3 with q | q
    · have := Int.mul_pos x3 q; omega
    · have := Int.mul_pos x1 q; omega
  omega
def Ap (S T : List P3) : Prop := (∀ x, ¬ (Inn S x ∧ Inn T x)) ∧ ∃ p, (p ∈ S ∧ p ∉ T) ∨ (p ∈ T ∧ p ∉ S)
theorem Ap.symm {S T : List P3} (h : Ap S T) : Ap T S := ⟨fun x q => h.1 x ⟨q.2, q.1⟩, by obtain ⟨p, q | q⟩ := h.2; exact ⟨p, .inr q⟩; exact ⟨p, .inl q⟩⟩
theorem inn3 {p q r x : P3} : Inn [p, q, r] x ↔ 0 < det r p x ∧ 0 < det p q x ∧ 0 < det q r x := by
  unfold Inn
  rw [sd3]
  constructor
  · intro h
    exact ⟨h ⟨r, p⟩ (by simp), h ⟨p, q⟩ (by simp), h ⟨q, r⟩ (by simp)⟩
  · rintro ⟨a, b, c⟩ s hs
    simp only [List.mem_cons, List.not_mem_nil, or_false] at hs
    rcases hs with e | e | e <;> subst e <;> assumption
/-- what lies in a part of a ring lies in the ring -/
theorem inn_fan {M a b x : P3} {R : List P3} (cv : Cvx R) (hs : (⟨a, b⟩ : T2 P3 P3) ∈ sd R) (d : ∀ s ∈ sd R, 0 < det s.a s.b M) (hx : Inn [M, a, b] x) : Inn R x := by
  obtain ⟨y3, y1, y2⟩ := inn3.mp hx
  intro t ht
  obtain ⟨h1, h2⟩ := sd_mem hs
  have dM := d t ht
  have dab := d _ hs
  dsimp only at dab
  have nn : ∀ p ∈ R, 0 ≤ det t.a t.b p := fun p hp => by
    rcases cv.cv t ht p hp with q | q | q
    · rw [q, (det_self t.a t.b).1]; exact Int.le_refl _
    · rw [q, (det_self t.a t.b).2]; exact Int.le_refl _
    · omega
  have k : det a b M * det t.a t.b x = det a b x * det t.a t.b M + det b M x * det t.a t.b a + det M a x * det t.a t.b b := by unfold det; grind
  have a1 := Int.mul_pos y2 dM
  have a2 := Int.mul_nonneg (Int.le_of_lt y3) (nn a h1)
  have a3 := Int.mul_nonneg (Int.le_of_lt y1) (nn b h2)
  have : 0 < det a b M * det t.a t.b x := by omega
  exact Int.pos_of_mul_pos_left (by rw [Int.mul_comm]; exact this) dab
/-! ### plain: rings apart -/
theorem side_ne {R : List P3} (cv : Cvx R) {s : T2 P3 P3} (hs : s ∈ sd R) : s.a ≠ s.b := by
  intro z
  obtain ⟨y, _, dy⟩ := cv.ex s hs
  rw [z] at dy
  have : det s.b s.b y = 0 := by unfold det; grind
  omega
theorem cvx_nn {R : List P3} (cv : Cvx R) {s : T2 P3 P3} (hs : s ∈ sd R) {p : P3} (hp : p ∈ R) : 0 ≤ det s.a s.b p := by
  rcases cv.cv s hs p hp with q | q | q
  · rw [q, (det_self s.a s.b).1]; exact Int.le_refl _
  · rw [q, (det_self s.a s.b).2]; exact Int.le_refl _
  · omega
theorem side_off {R : List P3} (cv : Cvx R) {s t : T2 P3 P3} (hs : s ∈ sd R) (ht : t ∈ sd R) (ne : s.b ≠ t.b) : 0 < det s.a s.b t.a ∨ 0 < det s.a s.b t.b := by
  obtain ⟨h1, h2⟩ := sd_mem (p := s.a) (q := s.b) hs
  obtain ⟨g1, g2⟩ := sd_mem (p := t.a) (q := t.b) ht
  rcases cv.cv s hs t.b g2 with q | q | q
  · rcases cv.cv s hs t.a g1 with w | w | w
    · exact absurd (w.trans q.symm) (side_ne cv ht)
    · obtain ⟨x, hx, dx⟩ := cv.ex s hs
      exfalso
      have xa : x ≠ s.a := by intro z; rw [z] at dx; have := (det_self s.a s.b).1; omega
      have xb : x ≠ s.b := by intro z; rw [z] at dx; have := (det_self s.a s.b).2; omega
      rcases cv.cv t ht x hx with u | u | u
      · exact xb (by rw [u, w])
      · exact xa (by rw [u, q])
      · rw [q, w, det_sw] at u; omega
    · exact .inl w
  · exact absurd q.symm ne
  · exact .inr q
theorem sdf_b {α : Type} : ∀ (a : α) (xs : List α), (sdf a xs).map (·.b) = xs
  | _, [] => rfl
  | a, x :: xs => by show x :: (sdf x xs).map (·.b) = _; rw [sdf_b]
theorem sd_b {α : Type} (xs : List α) : (sd xs).map (·.b) = xs := by
  unfold sd
  cases h : xs.getLast? with
  | none => rw [List.getLast?_eq_none_iff] at h; subst h; rfl
  | some l => exact sdf_b l xs
theorem sd_pw {α : Type} {xs : List α} (n : xs.Nodup) : (sd xs).Pairwise fun s t => s.b ≠ t.b := by
  have e := sd_b xs
  rw [← e] at n
  exact List.pairwise_map.mp n
theorem not_inn {R : List P3} {p : P3} (hp : p ∈ R) : ¬ Inn R p := by
  intro h
  rw [← sd_b R] at hp
  obtain ⟨s, hs, rfl⟩ := List.mem_map.mp hp
  have := h s hs
  have := (det_self s.a s.b).2
  omega
structure Dj (rs : List (List P3)) : Prop where
  ap : rs.Pairwise Ap
  vt : ∀ S ∈ rs, ∀ T ∈ rs, ∀ p ∈ S, ¬ Inn T p
theorem fan_dj {R : List P3} {M : P3} (cv : Cvx R) (nd : R.Nodup) (d : ∀ s ∈ sd R, 0 < det s.a s.b M) : Dj (fanL M R) := by
  have ne := fan_ne d
  refine ⟨?_, fun S hS T hT p hp hi => ?_⟩
  · unfold fanL
    rw [List.pairwise_map]
    refine List.Pairwise.imp_of_mem (fun {s t} hs ht n => ?_) (sd_pw nd)
    obtain ⟨h1, h2⟩ := sd_mem (p := s.a) (q := s.b) hs
    obtain ⟨g1, g2⟩ := sd_mem (p := t.a) (q := t.b) ht
    have o1 := side_off cv hs ht n
    refine ⟨fun x ⟨q1, q2⟩ => ?_, ?_⟩
    · obtain ⟨x3, x1, x2⟩ := inn3.mp q1
      obtain ⟨y3, y1, y2⟩ := inn3.mp q2
      exact sec_apart (d s hs) (d t ht) (cvx_nn cv hs g1) (cvx_nn cv hs g2) o1 (cvx_nn cv ht h1) (cvx_nn cv ht h2) (side_off cv ht hs fun z => n z.symm) x1 x2 x3 y1 y2 y3
    · have : ∀ p ∈ R, 0 < det s.a s.b p → p ∉ [M, s.a, s.b] := by
        intro p hp q hm
        simp only [List.mem_cons, List.not_mem_nil, or_false] at hm
        rcases hm with z | z | z
        · exact ne p hp z.symm
        · rw [z, (det_self s.a s.b).1] at q; omega
        · rw [z, (det_self s.a s.b).2] at q; omega
      rcases o1 with q | q
      · exact ⟨t.a, .inr ⟨by simp, this _ g1 q⟩⟩
      · exact ⟨t.b, .inr ⟨by simp, this _ g2 q⟩⟩
  · obtain ⟨t, ht, rfl⟩ := List.mem_map.mp hT
    rcases (fan_tri d S hS).2 p hp with e | e
    · subst e
      exact not_inn (by simp) hi
    · exact not_inn e (inn_fan cv ht d hi)
theorem ap_fan {S T V : List P3} {M : P3} (cv : Cvx T) (d : ∀ s ∈ sd T, 0 < det s.a s.b M) (a : Ap S T) (vt : ∀ p ∈ S, ¬ Inn T p) (hV : V ∈ fanL M T) : Ap S V := by
  obtain ⟨t, ht, rfl⟩ := List.mem_map.mp hV
  exact ⟨fun x q => a.1 x ⟨q.1, inn_fan cv ht d q.2⟩, M, .inr ⟨by simp, fun h => vt M h d⟩⟩
theorem Dj.part {rs : List (List P3)} {i : Nat} {T : List P3} {M : P3} (h : Dj rs) (hT : rs[i]? = some T) (cv : Cvx T) (nd : T.Nodup) (d : ∀ s ∈ sd T, 0 < det s.a s.b M) : Dj (rs.take i ++ fanL M T ++ rs.drop (i + 1)) := by
  have hm := List.mem_of_getElem? hT
  have fd := fan_dj cv nd d
  have old := h.ap
  rw [sl_mid hT, List.pairwise_append, List.pairwise_append] at old
  obtain ⟨⟨a1, _, a2⟩, a3, a4⟩ := old
  have t1 : ∀ S ∈ rs.take i, S ∈ rs := fun S q => List.mem_of_mem_take q
  have t2 : ∀ S ∈ rs.drop (i + 1), S ∈ rs := fun S q => List.mem_of_mem_drop q
  have apT : ∀ S, S ∈ rs.take i ∨ S ∈ rs.drop (i + 1) → Ap S T := fun S q => by
    rcases q with q | q
    · exact a2 S q T (by simp)
    · exact (a4 T (by simp) S q).symm
  refine ⟨?_, fun S hS U hU p hp hi => ?_⟩
  · rw [List.pairwise_append, List.pairwise_append]
    refine ⟨⟨a1, fd.ap, fun S hS V hV => ap_fan cv d (apT S (.inl hS)) (h.vt S (t1 S hS) T hm) hV⟩, a3, fun S hS V hV => ?_⟩
    rcases List.mem_append.mp hS with q | q
    · exact a4 S (List.mem_append_left _ q) V hV
    · exact (ap_fan cv d (apT V (.inr hV)) (h.vt V (t2 V hV) T hm) q).symm
  · have mem : ∀ V ∈ rs.take i ++ fanL M T ++ rs.drop (i + 1), ((V ∈ rs.take i ∨ V ∈ rs.drop (i + 1)) ∧ V ∈ rs) ∨ V ∈ fanL M T := fun V hV => by
      rcases List.mem_append.mp hV with q | q
      · rcases List.mem_append.mp q with q | q
        · exact .inl ⟨.inl q, t1 V q⟩
        · exact .inr q
      · exact .inl ⟨.inr q, t2 V q⟩
    have pt : p = M ∨ ∃ S' ∈ rs, p ∈ S' := by
      rcases mem S hS with q | q
      · exact .inr ⟨S, q.2, hp⟩
      · rcases (fan_tri d S q).2 p hp with e | e
        · exact .inl e
        · exact .inr ⟨T, hm, e⟩
    rcases mem U hU with ⟨q, q'⟩ | q
    · rcases pt with e | ⟨S', hS', e⟩
      · subst e
        exact (apT U q).1 p ⟨hi, d⟩
      · exact h.vt S' hS' U q' p e hi
    · rcases pt with e | ⟨S', hS', e⟩
      · subst e
        obtain ⟨t, ht, rfl⟩ := List.mem_map.mp q
        exact not_inn (by simp) hi
      · obtain ⟨t, ht, rfl⟩ := List.mem_map.mp q
        exact h.vt S' hS' T hm p e (inn_fan cv ht d hi)
theorem tri_nd {T : List P3} (t : Tri T) : T.Nodup := by
  obtain ⟨p, q, r, rfl, d⟩ := t
  obtain ⟨n1, n2, n3⟩ := det_ne d
  have n4 : p ≠ r := fun z => n3 z.symm
  simp [n1, n2, n4]
theorem bg_nd {us : List P2} (h : Bg 150 5 us) : (us.map h30).Nodup := by
  have lo := h.lo
  rw [List.nodup_iff_pairwise_ne, List.pairwise_map, List.pairwise_iff_getElem]
  intro i j hi hj lt e
  have k : us[i] = us[j] := by
    have o1 := h30_ov us[i]
    have o2 := h30_ov us[j]
    rw [e] at o1
    have a1 := o1.ea
    have a2 := o2.ea
    have b1 := o1.eb
    have b2 := o2.eb
    have p := o2.pos
    have x1 : us[i].a = us[j].a := Int.eq_of_mul_eq_mul_right (show (h30 us[j]).c ≠ 0 by omega) (by omega)
    have x2 : us[i].b = us[j].b := Int.eq_of_mul_eq_mul_right (show (h30 us[j]).c ≠ 0 by omega) (by omega)
    generalize us[i] = u at *
    generalize us[j] = v at *
    obtain ⟨a, b⟩ := u
    obtain ⟨c, d⟩ := v
    dsimp only at x1 x2
    rw [x1, x2]
  by_cases z : j = i + 1
  · subst z
    by_cases y : i = 0
    · subst y
      have := h.cv (us.length - 1) 0 1 (by omega) hj hi (.inr ⟨by omega, rfl⟩) (by omega) (by omega)
      rw [← k] at this
      unfold crs3 at this
      grind
    · have := h.cv (i - 1) i (i + 1) (by omega) hj hi (.inl (by omega)) (by omega) (by omega)
      rw [← k] at this
      unfold crs3 at this
      grind
  · have := h.cv i (i + 1) j hi hj (by omega) (.inl rfl) (by omega) z
    rw [← k] at this
    unfold crs3 at this
    grind
/-! ### plain: parted, spread -/
def sN : Nat → Nat
  | 0 => 44
  | j + 1 => 2 * sN j + 9
theorem sN_le {j : Nat} (h : j ≤ 3) : sN j ≤ 415 := by
  rcases (show j = 0 ∨ j = 1 ∨ j = 2 ∨ j = 3 by omega) with e | e | e | e <;> subst e <;> decide
theorem slc_mid {α : Type} {xs : List α} {i : Nat} (h : i < xs.length) : slice xs none (some (i : Int)) = xs.take i ∧ slice xs (some ((i : Int) + 1)) none = xs.drop (i + 1) := by
  refine ⟨slice_to (by omega), ?_⟩
  have := slice_from (xs := xs) (k := i + 1) (by omega)
  rw [show ((i + 1 : Nat) : Int) = (i : Int) + 1 by omega] at this
  exact this
theorem tri_ln {T : List P3} (t : Tri T) : T.length = 3 := by obtain ⟨p, q, r, rfl, _⟩ := t; rfl
theorem pw_le2 {n m : Nat} (h : n ≤ m) : (2 : Int) ^ n ≤ 2 ^ m := by
  have := Nat.pow_le_pow_right (n := 2) (by decide) h
  have e1 : (2 : Int) ^ n = ((2 ^ n : Nat) : Int) := by rw [Int.natCast_pow]; rfl
  have e2 : (2 : Int) ^ m = ((2 ^ m : Nat) : Int) := by rw [Int.natCast_pow]; rfl
  omega
/-- the bottoms of a part of a triangle -/
theorem tri_pb {T V : List P3} {M : P3} {N : Nat} (t : Tri T) (g : ∀ p ∈ T, 0 < p.c) (hM : 0 < M.c) (hB : PB T < (2 : Int) ^ N) (hc : M.c < (2 : Int) ^ (N + 9)) (hV : V ∈ fanL M T) : PB V < (2 : Int) ^ (2 * N + 9) := by
  obtain ⟨s, hs, rfl⟩ := List.mem_map.mp hV
  obtain ⟨p, q, r, rfl, _⟩ := t
  have hp := g p (by simp)
  have hq := g q (by simp)
  have hr := g r (by simp)
  have two : ∀ x y z : Int, 0 < x → 0 < y → 0 < z → x * y ≤ x * y * z := fun x y z hx hy hz => by
    have := Int.mul_le_mul_of_nonneg_left (show 1 ≤ z by omega) (Int.le_of_lt (Int.mul_pos hx hy))
    omega
  have e0 : PB [p, q, r] = p.c * q.c * r.c := by show p.c * (q.c * (r.c * 1)) = _; rw [Int.mul_one, Int.mul_assoc]
  have ab : s.a.c * s.b.c ≤ PB [p, q, r] ∧ 0 < s.a.c * s.b.c := by
    rw [sd3] at hs
    simp only [List.mem_cons, List.not_mem_nil, or_false] at hs
    rw [e0]
    rcases hs with e | e | e <;> subst e <;> dsimp only
    · have := two r.c p.c q.c hr hp hq
      exact ⟨by rw [show p.c * q.c * r.c = r.c * p.c * q.c by grind]; exact this, Int.mul_pos hr hp⟩
    · exact ⟨two _ _ _ hp hq hr, Int.mul_pos hp hq⟩
    · have := two q.c r.c p.c hq hr hp
      exact ⟨by rw [show p.c * q.c * r.c = q.c * r.c * p.c by grind]; exact this, Int.mul_pos hq hr⟩
  have e1 : PB [M, s.a, s.b] = M.c * (s.a.c * s.b.c) := by show M.c * (s.a.c * (s.b.c * 1)) = _; rw [Int.mul_one]
  rw [e1, show 2 * N + 9 = (N + 9) + N by omega, pow_add_i]
  have p9 : (0 : Int) < 2 ^ (N + 9) := Int.pow_pos (by decide)
  have m1 : M.c * (s.a.c * s.b.c) ≤ 2 ^ (N + 9) * (s.a.c * s.b.c) := Int.mul_le_mul_of_nonneg_right (Int.le_of_lt hc) (Int.le_of_lt ab.2)
  have m2 : (2 : Int) ^ (N + 9) * (s.a.c * s.b.c) < 2 ^ (N + 9) * 2 ^ N := Int.mul_lt_mul_of_pos_left (by omega) p9
  omega
structure P60 (N : Nat) (R0 : List P3) (rs : List (List P3)) : Prop where
  p : Pts ((2 : Int) ^ N) R0 rs
  dj : Dj rs
  l3 : 3 ≤ rs.length
theorem parted_ok {R0 : List P3} {many : Int} (m0 : 0 ≤ many) (m5 : many ≤ 3) {rs : List (List P3)} (h : P60 44 R0 rs) (hl : rs.length ≤ 5) {xs : List Int} (hb : Bag xs) :
    ∃ rs' ys, m__law_parted rs xs many = some (rs', ys) ∧ Bag ys ∧ P60 415 R0 rs' ∧ rs'.length ≤ 8 := by
  unfold m__law_parted
  rw [rngOk_ok (by omega) (by omega), Option.bind_some]
  obtain ⟨s', e, b, p, l⟩ := foldO_range (f := (fun (x1 : Int) (s1 : ((List Int) × (List (List (T3 Int Int Int))))) =>
 ((m__law_digit s1.1 ((s1.2.length : Int))).bind fun z1 =>
 (if (decide ((s1.2.length : Int) < 7)) = true then
 ((ix s1.2 z1.1).bind fun x2 =>
 (m__law_fan x2 z1.2).bind fun z2 =>
 (lenOk (((slice s1.2 none (some z1.1))).length + z2.1.length)).bind fun _ =>
 (lenOk ((((slice s1.2 none (some z1.1)) ++ z2.1)).length + ((slice s1.2 (some ((z1.1 + 1))) none)).length)).bind fun _ =>
 (some ((((slice s1.2 none (some z1.1)) ++ z2.1) ++ (slice s1.2 (some ((z1.1 + 1))) none)))).bind fun (made_1 : (List (List (T3 Int Int Int)))) =>
 some ((z2.2, made_1)))
 else
 (some ((z1.2, s1.2)))).bind fun (s3 : ((List Int) × (List (List (T3 Int Int Int))))) =>
 some ((s3.1, s3.2))))) (lo := 0) (n := many.toNat) (s := (xs, rs)) (fun j s => Bag s.1 ∧ P60 (sN j) R0 s.2 ∧ s.2.length ≤ 8) (fun j s hj i => by
    obtain ⟨bg, P, l8⟩ := i
    have l3 := P.l3
    have p := P.p
    have sj := sN_le (j := j) (by omega)
    have up : sN j ≤ sN (j + 1) := by show _ ≤ 2 * sN j + 9; omega
    obtain ⟨d, y1, e1, b1, l1, u1⟩ := digit_ok bg (many := (s.2.length : Int)) (by omega) (by omega)
    obtain ⟨i, rfl⟩ : ∃ n : Nat, d = (n : Int) := ⟨d.toNat, by omega⟩
    have hi : i < s.2.length := by omega
    rw [e1, Option.bind_some]
    dsimp only
    by_cases c : s.2.length < 7
    · rw [if_pos (by simp; omega)]
      rw [ix_lt hi, Option.bind_some]
      have hT : s.2[i]? = some s.2[i] := List.getElem?_eq_getElem hi
      have hm := List.getElem_mem hi
      generalize hTT : s.2[i] = T at *
      have tl := tri_ln (p.tri T hm)
      have gT : ∀ q ∈ T, PtG q := fun q hq => (p.ok T hm q hq).1
      have pb : PB T < (2 : Int) ^ (sN j) := by
        obtain ⟨a, b, c, e, _⟩ := p.tri T hm
        exact (p.ok T hm a (by rw [e]; simp)).2.2
      have cvT := tri_cvx (p.tri T hm) gT
      obtain ⟨M, y2, e2, b2, gM, bM, cM, dM⟩ := lawfan_ok cvT (fun q hq => (p.ok T hm q hq).2.1) pb (by omega) b1
      obtain ⟨sl1, sl2⟩ := slc_mid hi
      have fl := fan_len M T
      rw [e2, Option.bind_some, sl1, sl2, lenOk_ok (by rw [List.length_take]; dsimp only; omega), Option.bind_some, lenOk_ok (by rw [List.length_append, List.length_take, List.length_drop]; dsimp only; omega), Option.bind_some, Option.bind_some, Option.bind_some]
      have len : (s.2.take i ++ fanL M T ++ s.2.drop (i + 1)).length = s.2.length + 2 := by
        rw [List.length_append, List.length_append, List.length_take, List.length_drop, fl]; omega
      refine ⟨_, rfl, b2, ⟨p.part hT (pw_le2 up) gM bM dM fun V hV => tri_pb (p.tri T hm) (fun q hq => (gT q hq).1) gM.1 pb cM hV, P.dj.part hT cvT (tri_nd (p.tri T hm)) dM, ?_⟩, ?_⟩
      · show 3 ≤ (s.2.take i ++ fanL M T ++ s.2.drop (i + 1)).length; omega
      · show (s.2.take i ++ fanL M T ++ s.2.drop (i + 1)).length ≤ 8; omega
    · rw [if_neg (by simp; omega), Option.bind_some]
      refine ⟨_, rfl, b1, ⟨⟨p.tri, fun T hT q hq => ?_, p.eq⟩, P.dj, l3⟩, l8⟩
      obtain ⟨a, b, c⟩ := p.ok T hT q hq
      exact ⟨a, b, Int.lt_of_lt_of_le c (pw_le2 up)⟩) ⟨hb, h, by dsimp only; omega⟩
  rw [e, Option.bind_some]
  have sj := sN_le (j := many.toNat) (by omega)
  refine ⟨_, _, rfl, b, ⟨⟨p.p.tri, fun T hT q hq => ?_, p.p.eq⟩, p.dj, p.l3⟩, l⟩
  obtain ⟨a, b, c⟩ := p.p.ok T hT q hq
  exact ⟨a, b, Int.lt_of_lt_of_le c (pw_le2 sj)⟩
theorem first60 {us : List P2} (h : Bg 150 5 us) {xs : List Int} (hb : Bag xs) : ∃ rs ys, m__law_fan (us.map h30) xs = some (rs, ys) ∧ Bag ys ∧ P60 44 (us.map h30) rs ∧ rs.length ≤ 5 := by
  obtain ⟨cv, bx⟩ := bg_cvx h
  have nd := bg_nd h
  generalize us.map h30 = R0 at *
  have l5 := cv.l5
  have l3 := cv.l3
  have pb0 : PB R0 < (2 : Int) ^ 25 := by
    have h1 := pb_le (C := 30) (us := R0) fun p hp => ⟨(cv.g p hp).1, (bx p hp).2⟩
    have h2 : (30 : Int) ^ R0.length ≤ 30 ^ 5 := by
      rcases (show R0.length = 3 ∨ R0.length = 4 ∨ R0.length = 5 by omega) with e | e | e <;> rw [e] <;> decide
    exact Int.lt_of_le_of_lt (Int.le_trans h1 h2) (by decide)
  obtain ⟨M, y1, e1, b1, gM, bM, cM, dM⟩ := lawfan_ok cv (fun p hp => (bx p hp).1) pb0 (by decide) hb
  have fl := fan_len M R0
  refine ⟨_, _, e1, b1, ⟨pts_first cv (fun p hp => (bx p hp).1) gM bM dM fun V hV => ?_, fan_dj cv nd dM, by omega⟩, by omega⟩
  obtain ⟨t, ht, rfl⟩ := List.mem_map.mp hV
  obtain ⟨h1, h2⟩ := sd_mem (p := t.a) (q := t.b) ht
  have a1 := (bx _ h1).2
  have a2 := (bx _ h2).2
  have a3 := (cv.g _ h1).1
  have a4 := (cv.g _ h2).1
  show M.c * (t.a.c * (t.b.c * 1)) < 2 ^ 44
  have m2 : t.a.c * (t.b.c * 1) ≤ 30 * 30 := Int.mul_le_mul a1 (by omega) (by omega) (by decide)
  have m3 : 0 ≤ t.a.c * (t.b.c * 1) := Int.mul_nonneg (by omega) (by omega)
  have m4 : M.c * (t.a.c * (t.b.c * 1)) ≤ 2 ^ 34 * (t.a.c * (t.b.c * 1)) := Int.mul_le_mul_of_nonneg_right (Int.le_of_lt cM) m3
  have m5 : (2 : Int) ^ 34 * (t.a.c * (t.b.c * 1)) ≤ 2 ^ 34 * (30 * 30) := Int.mul_le_mul_of_nonneg_left m2 (by decide)
  have m6 : (2 : Int) ^ 34 * (30 * 30) < 2 ^ 44 := by decide
  omega
/-- the step of the move at place i -/
def Stp (i : Nat) (v : P3) : Prop := v.c = 1 ∧ 60 * (i : Int) ≤ v.a ∧ v.a ≤ 60 * (i : Int) + 8 ∧ -20 ≤ v.b ∧ v.b ≤ 20
theorem g3_one (a b : Int) : g3 a b 1 = 1 := by unfold g3; rw [Int.gcd_one]; simp
theorem Stp.pt {i : Nat} {v : P3} (h : Stp i v) (hi : i ≤ 8) : Pt 10 v := by
  obtain ⟨h1, h2, h3, h4, h5⟩ := h
  exact ⟨by omega, by omega, by omega, by omega, by rw [h1]; exact g3_one _ _⟩
theorem spread_ok {rs : List (List P3)} (hl : rs.length ≤ 8) {t : Bool} {xs : List Int} (hb : Bag xs) :
    ∃ ms ys, m__law_spread rs xs t = some (ms, ys) ∧ Bag ys ∧ rgs ms = rs ∧ ∀ i m, ms[i]? = some m → Stp i m.c := by
  unfold m__law_spread
  rw [rngOk_ok (by omega) (by omega), Option.bind_some]
  obtain ⟨s', e, b, r, st⟩ := foldO_range (f := (fun (x1 : Int) (s1 : ((List Int) × (List (T3 (List (T3 Int Int Int)) Bool (T3 Int Int Int))))) =>
 ((if t = true then
 ((m__law_digit s1.1 2).bind fun z2 =>
 some ((decide (z2.1 = 1)), z2.2))
 else some (false, s1.1)).bind fun b1 =>
 (m__law_digit b1.2 9).bind fun z3 =>
 (m__law_digit z3.2 41).bind fun z4 =>
 (some ((T3.mk (((60 * x1) + z3.1)) ((z4.1 - 20)) 1))).bind fun (step_1 : (T3 Int Int Int)) =>
 (ix rs x1).bind fun x2 =>
 (lenOk (s1.2.length + 1)).bind fun _ =>
 some ((z4.2, (s1.2 ++ [(T3.mk x2 b1.1 step_1)])))))) (lo := 0) (n := ((rs.length : Int)).toNat) (s := (xs, ([] : List Mv))) (fun j s => Bag s.1 ∧ rgs s.2 = rs.take j ∧ ∀ i m, s.2[i]? = some m → Stp i m.c) (fun j s hj i => by
    obtain ⟨bg, er, st⟩ := i
    obtain ⟨f, y0, e0, b0⟩ : ∃ f y0, (if t = true then ((m__law_digit s.1 2).bind fun z2 => some ((decide (z2.1 = 1)), z2.2)) else some (false, s.1)) = some (f, y0) ∧ Bag y0 := by
      cases t with
      | false => exact ⟨_, _, rfl, bg⟩
      | true =>
        obtain ⟨d, y, e, b, _, _⟩ := digit_ok bg (many := 2) (by decide) (by decide)
        exact ⟨_, _, by rw [if_pos rfl, e, Option.bind_some], b⟩
    obtain ⟨d, y1, e1, b1, l1, u1⟩ := digit_ok b0 (many := 9) (by decide) (by decide)
    obtain ⟨d', y2, e2, b2, l2, u2⟩ := digit_ok b1 (many := 41) (by decide) (by decide)
    have hj' : j < rs.length := by omega
    have sl : s.2.length = j := by
      have := congrArg List.length er
      unfold rgs at this
      rw [List.length_map, List.length_take] at this; omega
    rw [e0, Option.bind_some]
    dsimp only
    rw [e1, Option.bind_some]
    dsimp only
    rw [e2, Option.bind_some]
    dsimp only
    rw [Option.bind_some, Int.zero_add, ix_lt hj', Option.bind_some, lenOk_ok (by omega), Option.bind_some]
    refine ⟨_, rfl, b2, ?_, fun i m hm => ?_⟩
    · have : rs[j]? = some rs[j] := List.getElem?_eq_getElem hj'
      rw [List.take_add_one, this]
      unfold rgs at *
      rw [List.map_append, er]; rfl
    · dsimp only at hm
      by_cases c : i < s.2.length
      · rw [List.getElem?_append_left c] at hm
        exact st i m hm
      · rw [List.getElem?_append_right (by omega)] at hm
        have z : i - s.2.length = 0 := by
          have := (List.getElem?_eq_some_iff.mp hm).1
          simp at this; omega
        rw [z] at hm
        have hm := Option.some.inj hm
        rw [← hm]
        have : i = j := by omega
        subst this
        exact ⟨rfl, by show 60 * (i : Int) ≤ 60 * (i : Int) + d; omega, by show 60 * (i : Int) + d ≤ _; omega, by show -20 ≤ d' - 20; omega, by show d' - 20 ≤ 20; omega⟩) ⟨hb, rfl, fun i m hm => by simp at hm⟩
  rw [e, Option.bind_some]
  refine ⟨_, _, rfl, b, ?_, st⟩
  rw [r]
  exact List.take_of_length_le (by omega)
theorem copy_ok {ms : List Mv} (hl : ms.length ≤ 1000) : m__law_copy ms = some ms := by
  unfold m__law_copy
  rw [lenOk_ok (by omega), Option.bind_some, mapO_all (f := fun x1 : Mv => some (T3.mk x1.a x1.b x1.c)) (g := id) (fun m _ => rfl), Option.bind_some, List.map_id]
theorem lawledring_ok {m : Mv} {n k : Nat} (hp : ∀ p ∈ m.a, Pt n p) (hv : Pt k m.c) (h : n + k ≤ 7000) (hl : m.a.length ≤ 1000) : m__law_led_ring m = some (m.a.map (ld m.b m.c)) := by
  unfold m__law_led_ring
  rw [lenOk_ok (by omega), Option.bind_some, mapO_all (g := ld m.b m.c) (fun p hp' => by rw [lawled_ok (hp p hp') hv h]; rfl), Option.bind_some]
/-! ### plain: a plan by hand -/
theorem rgs_app (xs ys : List Mv) (k : Ky) : tls ((rgs (xs ++ ys)).flatMap sd) k = tls ((rgs xs).flatMap sd) k + tls ((rgs ys).flatMap sd) k := by
  unfold rgs
  rw [List.map_append, List.flatMap_append, tls_app]
theorem leds_app (xs ys : List Mv) (k : Ky) : tls ((leds (xs ++ ys)).flatMap sd) k = tls ((leds xs).flatMap sd) k + tls ((leds ys).flatMap sd) k := by
  unfold leds
  rw [List.map_append, List.flatMap_append, tls_app]
theorem rgs_one (m : Mv) (k : Ky) : tls ((rgs [m]).flatMap sd) k = tls (sd m.a) k := by unfold rgs; simp
theorem leds_one (m : Mv) (k : Ky) : tls ((leds [m]).flatMap sd) k = tls (sd (m.a.map (ld m.b m.c))) k := by unfold leds; simp
structure Wh (R0 : List P3) (ms : List Mv) : Prop where
  cv : Cvx R0
  bx : ∀ p ∈ R0, Box p ∧ p.c ≤ 30
  pts : Pts ((2 : Int) ^ 415) R0 (rgs ms)
  dj : Dj (rgs ms)
  st : ∀ i m, ms[i]? = some m → Stp i m.c
  l3 : 3 ≤ ms.length
  l8 : ms.length ≤ 8
def ledm (m : Mv) : List P3 := m.a.map (ld m.b m.c)
section
variable {R0 : List P3} {ms : List Mv}
theorem Wh.ring (h : Wh R0 ms) {m : Mv} (hm : m ∈ ms) : Tri m.a ∧ ∀ p ∈ m.a, Pt 418 p ∧ Box p := by
  have hr : m.a ∈ rgs ms := List.mem_map.mpr ⟨m, hm, rfl⟩
  refine ⟨h.pts.tri _ hr, fun p hp => ?_⟩
  obtain ⟨g, b, l⟩ := h.pts.ok _ hr p hp
  have : p.c ≤ PB m.a := pb_mem (fun x hx => (h.pts.ok _ hr x hx).1.1) hp
  exact ⟨box_pt (n := 415) g b (Int.lt_of_le_of_lt this l), b⟩
theorem Wh.stm (h : Wh R0 ms) {m : Mv} (hm : m ∈ ms) : Pt 10 m.c := by
  obtain ⟨i, hi⟩ := List.getElem?_of_mem hm
  have := (List.getElem?_eq_some_iff.mp hi).1
  have := h.l8
  exact (h.st i m hi).pt (by omega)
theorem Wh.ok (h : Wh R0 ms) {m : Mv} (hm : m ∈ ms) : (∀ p ∈ m.a, Pt 1720 p) ∧ m.a.length ≤ 1000 ∧ Pt 60 m.c ∧ Tri m.a := by
  obtain ⟨t, p⟩ := h.ring hm
  exact ⟨fun q hq => (p q hq).1.mono (by decide), by rw [tri_ln t]; decide, (h.stm hm).mono (by decide), t⟩
theorem Wh.p0 (h : Wh R0 ms) : ∀ p ∈ R0, Pt 8 p := fun p hp => box_pt (n := 5) (h.cv.g p hp) (h.bx p hp).1 (by have := (h.bx p hp).2; omega)
theorem Wh.s1 (h : Wh R0 ms) : ∀ s ∈ [R0].flatMap sd, OkS 3000 s := by
  intro s hs
  have hs : s ∈ sd R0 := by simpa using hs
  exact cvx_sides h.cv (fun p hp => (h.p0 p hp).mono (by decide)) s hs
theorem Wh.l1 (h : Wh R0 ms) : ([R0].flatMap sd).length ≤ 10000 := by
  have := h.cv.l5
  have e : [R0].flatMap sd = sd R0 := by simp
  rw [e, sd_len]; omega
theorem Wh.ledt (h : Wh R0 ms) {m : Mv} (hm : m ∈ ms) : Tri (ledm m) ∧ ∀ p ∈ ledm m, Pt 1710 p := by
  obtain ⟨t, p⟩ := h.ring hm
  have v := h.stm hm
  refine ⟨tri_ld t (fun q hq => (p q hq).1.pos) v.pos, fun q hq => ?_⟩
  obtain ⟨x, hx, rfl⟩ := List.mem_map.mp hq
  exact (ld_pt (p x hx).1 v).mono (by decide)
/-- rings that are led as the moves are -/
def Lg (ms : List Mv) (other : List (List P3)) : Prop := ∀ R ∈ other, ∃ m ∈ ms, R = ledm m
theorem Wh.s2 (h : Wh R0 ms) {other : List (List P3)} (l : Lg ms other) : ∀ s ∈ other.flatMap sd, OkS 3000 s := by
  intro s hs
  obtain ⟨R, hR, hs⟩ := List.mem_flatMap.mp hs
  obtain ⟨m, hm, rfl⟩ := l R hR
  obtain ⟨t, p⟩ := h.ledt hm
  exact tri_sides t (fun q hq => (p q hq).mono (by decide)) s hs
theorem len_tri {other : List (List P3)} (l : ∀ R ∈ other, R.length = 3) : (other.flatMap sd).length = 3 * other.length := by
  induction other with
  | nil => rfl
  | cons R rs ih =>
    rw [List.flatMap_cons, List.length_append, sd_len, l R List.mem_cons_self, ih fun x hx => l x (List.mem_cons_of_mem _ hx), List.length_cons]
    omega
theorem Wh.l2 (h : Wh R0 ms) {other : List (List P3)} (l : Lg ms other) (hl : other.length ≤ 100) : (other.flatMap sd).length ≤ 10000 := by
  rw [len_tri fun R hR => by obtain ⟨m, hm, rfl⟩ := l R hR; exact tri_ln (h.ledt hm).1]
  omega
theorem Wh.sumr (h : Wh R0 ms) (k : Ky) : tls ((rgs ms).flatMap sd) k = tls ([R0].flatMap sd) k := by
  rw [rgs_tls, h.pts.eq id hg_id]
  simp
theorem lg_leds (ms : List Mv) : Lg ms (leds ms) := fun R hR => by
  obtain ⟨m, hm, rfl⟩ := List.mem_map.mp hR
  exact ⟨m, hm, rfl⟩
/-- how far right the led rings lie -/
theorem ld_x {f : Bool} {p v : P3} (gp : 0 < p.c) (b : Box p) (vc : v.c = 1) {L H : Int} (v1 : L ≤ v.a) (v2 : v.a ≤ H) : (L - 5) * (ld f v p).c ≤ (ld f v p).a ∧ (ld f v p).a ≤ (H + 5) * (ld f v p).c := by
  obtain ⟨b1, b2, _, _⟩ := b
  have key : ∀ q : P3, q.c = p.c → (-5 * p.c ≤ q.a ∧ q.a ≤ 5 * p.c) → (L - 5) * (sl q v).c ≤ (sl q v).a ∧ (sl q v).a ≤ (H + 5) * (sl q v).c := by
    intro q qc ⟨q1, q2⟩
    have w := sl_low (p := q) (v := v) (by omega) (by omega)
    have e := w.ea
    have hp := w.pos
    generalize sl q v = s at *
    rw [vc, Int.mul_one, Int.mul_one, qc] at e
    have h1 : (L - 5) * p.c ≤ q.a + v.a * p.c := by
      have := Int.mul_le_mul_of_nonneg_right v1 (Int.le_of_lt gp)
      rw [Int.sub_mul]; omega
    have h2 : q.a + v.a * p.c ≤ (H + 5) * p.c := by
      have := Int.mul_le_mul_of_nonneg_right v2 (Int.le_of_lt gp)
      rw [Int.add_mul]; omega
    have m1 := Int.mul_le_mul_of_nonneg_right h1 (Int.le_of_lt hp)
    have m2 := Int.mul_le_mul_of_nonneg_right h2 (Int.le_of_lt hp)
    rw [← e] at m1 m2
    constructor
    · refine Int.le_of_mul_le_mul_right ?_ gp
      rw [show (L - 5) * s.c * p.c = (L - 5) * p.c * s.c by grind]; exact m1
    · refine Int.le_of_mul_le_mul_right ?_ gp
      rw [show (H + 5) * s.c * p.c = (H + 5) * p.c * s.c by grind]; exact m2
  unfold ld
  cases f with
  | true =>
    rw [if_pos rfl]
    exact key (tn p) rfl ⟨by show -5 * p.c ≤ -p.a; omega, by show -p.a ≤ _; omega⟩
  | false =>
    rw [if_neg (by decide)]
    exact key p rfl ⟨by omega, b2⟩
theorem Wh.xr (h : Wh R0 ms) {i : Nat} {m : Mv} (hm : ms[i]? = some m) {f : Bool} {T : List P3} {m' : Mv} (hm' : m' ∈ ms) (hT : T = m'.a) : ∀ p ∈ T.map (ld f m.c), (60 * (i : Int) - 5) * p.c ≤ p.a ∧ p.a ≤ (60 * (i : Int) + 13) * p.c ∧ 0 < p.c := by
  intro p hp
  obtain ⟨q, hq, rfl⟩ := List.mem_map.mp hp
  subst hT
  obtain ⟨g, b⟩ := (h.ring hm').2 q hq
  obtain ⟨s1, s2, s3, _⟩ := h.st i m hm
  obtain ⟨a1, a2⟩ := ld_x (f := f) g.pos b s1 s2 s3
  have e : (60 * (i : Int) + 8 + 5) = 60 * (i : Int) + 13 := by omega
  rw [e] at a2
  exact ⟨a1, a2, (ld_g (f := f) ⟨g.pos, g.one⟩ (show 0 < m.c.c by omega)).1⟩
theorem xr_off {i j : Nat} (ne : i ≠ j) {p : P3} (h0 : 0 < p.c) (a1 : (60 * (i : Int) - 5) * p.c ≤ p.a) (a2 : p.a ≤ (60 * (i : Int) + 13) * p.c) (b1 : (60 * (j : Int) - 5) * p.c ≤ p.a) (b2 : p.a ≤ (60 * (j : Int) + 13) * p.c) : False := by
  rcases Nat.lt_or_gt_of_ne ne with c | c
  · have := Int.mul_lt_mul_of_pos_right (show 60 * (i : Int) + 13 < 60 * (j : Int) - 5 by omega) h0
    omega
  · have := Int.mul_lt_mul_of_pos_right (show 60 * (j : Int) + 13 < 60 * (i : Int) - 5 by omega) h0
    omega
theorem mem_take_at {α : Type} {xs : List α} {i : Nat} {x : α} (h : x ∈ xs.take i) : ∃ j, j < i ∧ xs[j]? = some x := by
  obtain ⟨j, hj⟩ := List.getElem?_of_mem h
  have hl := (List.getElem?_eq_some_iff.mp hj).1
  rw [List.length_take] at hl
  refine ⟨j, by omega, ?_⟩
  rw [List.getElem?_take_of_lt (by omega)] at hj
  exact hj
theorem mem_drop_at {α : Type} {xs : List α} {i : Nat} {x : α} (h : x ∈ xs.drop i) : ∃ j, i ≤ j ∧ xs[j]? = some x := by
  obtain ⟨j, hj⟩ := List.getElem?_of_mem h
  rw [List.getElem?_drop] at hj
  exact ⟨i + j, by omega, hj⟩
/-- a corner of one led ring lies on no other -/
theorem Wh.lone (h : Wh R0 ms) {i : Nat} {m : Mv} (hm : ms[i]? = some m) {k : Ky} (hk : k.b ∈ ledm m) : tls ((leds (ms.take i)).flatMap sd) k = 0 ∧ tls ((leds (ms.drop (i + 1))).flatMap sd) k = 0 := by
  obtain ⟨a1, a2, a3⟩ := h.xr hm (f := m.b) (List.mem_of_getElem? hm) rfl k.b hk
  have key : ∀ j m', ms[j]? = some m' → j ≠ i → k.b ∉ ledm m' := fun j m' hj ne hin => by
    obtain ⟨b1, b2, _⟩ := h.xr hj (f := m'.b) (List.mem_of_getElem? hj) rfl k.b hin
    exact xr_off ne a3 b1 b2 a1 a2
  constructor
  · refine tls_zero fun R hR => ?_
    obtain ⟨m', hm', rfl⟩ := List.mem_map.mp hR
    obtain ⟨j, lt, hj⟩ := mem_take_at hm'
    exact key j m' hj (by omega)
  · refine tls_zero fun R hR => ?_
    obtain ⟨m', hm', rfl⟩ := List.mem_map.mp hR
    obtain ⟨j, lt, hj⟩ := mem_drop_at hm'
    exact key j m' hj (by omega)
theorem Wh.lkey (h : Wh R0 ms) {i : Nat} {m : Mv} (hm : ms[i]? = some m) : ∃ k : Ky, k.b ∈ ledm m ∧ tls (sd (ledm m)) k = 1 ∧ tls ((leds ms).flatMap sd) k = 1 := by
  obtain ⟨t, p⟩ := h.ledt (List.mem_of_getElem? hm)
  have t' := t
  obtain ⟨x, y, z, e, _⟩ := t'
  obtain ⟨k, k1, k2⟩ := vert t (fun q hq => (p q hq).g) x (by rw [e]; simp)
  have hk : k.b ∈ ledm m := by rw [k1, e]; simp
  obtain ⟨z1, z2⟩ := h.lone hm hk
  refine ⟨k, hk, k2, ?_⟩
  rw [sl_mid hm, leds_app, leds_app, leds_one, z1, z2]
  show 0 + tls (sd (ledm m)) k + 0 = 1
  rw [k2]; decide
/-- the led rings are not the cloth -/
theorem Wh.differ (h : Wh R0 ms) : ∃ k : Ky, tls ((leds ms).flatMap sd) k ≠ tls ([R0].flatMap sd) k := by
  have l3 := h.l3
  have hm : ms[2]? = some ms[2] := List.getElem?_eq_getElem (by omega)
  generalize ms[2] = m at *
  obtain ⟨k, k1, _, k3⟩ := h.lkey hm
  refine ⟨k, ?_⟩
  rw [k3, tls_zero (rs := [R0]) (k := k) fun R hR hin => ?_]
  · decide
  · rw [List.mem_singleton.mp hR] at hin
    obtain ⟨a1, _, a3⟩ := h.xr hm (f := m.b) (List.mem_of_getElem? hm) rfl k.b k1
    have b := (h.bx _ hin).1
    obtain ⟨_, b2, _⟩ := b
    have : (60 * ((2 : Nat) : Int) - 5) = 115 := by decide
    rw [this] at a1
    omega
end
/-! ### plain: k61, a plan spoiled -/
section
variable {R0 : List P3} {ms : List Mv} {i : Nat} {m : Mv}
theorem Wh.swap (h : Wh R0 ms) (hm : ms[i]? = some m) {xs : List Mv} (hx : ∀ x ∈ xs, (∀ p ∈ x.a, Pt 1720 p) ∧ x.a.length ≤ 1000 ∧ Pt 60 x.c) (hl : xs.length ≤ 2)
    (bad : (∃ x ∈ xs, ¬ Tri x.a) ∨ (∃ k, tls ((rgs xs).flatMap sd) k ≠ tls (sd m.a) k) ∨ ∃ k, tls ((leds xs).flatMap sd) k ≠ tls (sd (ledm m)) k) (t : Bool) : m_is_plan [R0] (leds ms) (ms.take i ++ xs ++ ms.drop (i + 1)) t = some false := by
  have l8 := h.l8
  have ll : (leds ms).length ≤ 100 := by unfold leds; rw [List.length_map]; omega
  refine plan_no (n := 1720) (k := 60) (by decide) (fun x hx' => ?_) (by rw [List.length_append, List.length_append, List.length_take, List.length_drop]; omega) h.s1 (h.s2 (lg_leds ms)) h.l1 (h.l2 (lg_leds ms) ll) ?_
  · rcases List.mem_append.mp hx' with q | q
    · rcases List.mem_append.mp q with q | q
      · obtain ⟨a, b, c, _⟩ := h.ok (List.mem_of_mem_take q); exact ⟨a, b, c⟩
      · exact hx x q
    · obtain ⟨a, b, c, _⟩ := h.ok (List.mem_of_mem_drop q); exact ⟨a, b, c⟩
  · rcases bad with ⟨x, mem, q⟩ | ⟨k, q⟩ | ⟨k, q⟩
    · exact .inl ⟨x, List.mem_append_left _ (List.mem_append_right _ mem), fun w => q w.1⟩
    · refine .inr (.inl ⟨k, fun e => q ?_⟩)
      have e2 := h.sumr k
      rw [sl_mid hm, rgs_app, rgs_app, rgs_one] at e2
      rw [rgs_app, rgs_app] at e
      omega
    · refine .inr (.inr ⟨k, fun e => q ?_⟩)
      have e2 : tls ((leds ms).flatMap sd) k = tls ((leds (ms.take i ++ [m] ++ ms.drop (i + 1))).flatMap sd) k := by rw [← sl_mid hm]
      rw [leds_app, leds_app, leds_one] at e2
      rw [leds_app, leds_app] at e
      show _ = tls (sd (m.a.map (ld m.b m.c))) k
      omega
theorem Wh.key (h : Wh R0 ms) (hm : m ∈ ms) : ∃ k, tls (sd m.a) k = 1 := by
  obtain ⟨t, p⟩ := h.ring hm
  have t' := t
  obtain ⟨x, y, z, e, _⟩ := t'
  obtain ⟨k, _, k2⟩ := vert t (fun q hq => (p q hq).1.g) x (by rw [e]; simp)
  exact ⟨k, k2⟩
theorem Wh.ok3 (h : Wh R0 ms) (hm : m ∈ ms) : (∀ p ∈ m.a, Pt 1720 p) ∧ m.a.length ≤ 1000 ∧ Pt 60 m.c := by
  obtain ⟨a, b, c, _⟩ := h.ok hm
  exact ⟨a, b, c⟩
theorem Wh.w0 (h : Wh R0 ms) (hm : ms[i]? = some m) (t : Bool) : m_is_plan [R0] (leds ms) (ms.take i ++ [] ++ ms.drop (i + 1)) t = some false := by
  refine h.swap hm (xs := []) (fun _ h => by cases h) (by simp) (.inr (.inl ?_)) t
  obtain ⟨k, e⟩ := h.key (List.mem_of_getElem? hm)
  refine ⟨k, ?_⟩
  rw [e]
  show (0 : Int) ≠ 1
  decide
theorem Wh.w1 (h : Wh R0 ms) (hm : ms[i]? = some m) (t : Bool) : m_is_plan [R0] (leds ms) (ms.take i ++ [m, m] ++ ms.drop (i + 1)) t = some false := by
  have mem := List.mem_of_getElem? hm
  refine h.swap hm (fun x hx => ?_) (by simp) (.inr (.inl ?_)) t
  · have : x = m := by simpa using hx
    rw [this]; exact h.ok3 mem
  · obtain ⟨k, e⟩ := h.key mem
    refine ⟨k, ?_⟩
    have := rgs_app [m] [m] k
    rw [rgs_one] at this
    rw [show [m, m] = [m] ++ [m] from rfl, this, e]; decide
/-- one move in the place of it -/
theorem Wh.one (h : Wh R0 ms) (hm : ms[i]? = some m) {x : Mv} (hx : (∀ p ∈ x.a, Pt 1720 p) ∧ x.a.length ≤ 1000 ∧ Pt 60 x.c) (bad : ¬ Tri x.a ∨ (∃ k, tls (sd x.a) k ≠ tls (sd m.a) k) ∨ ∃ k, tls (sd (ledm x)) k ≠ tls (sd (ledm m)) k) (t : Bool) : m_is_plan [R0] (leds ms) (ms.take i ++ [x] ++ ms.drop (i + 1)) t = some false := by
  refine h.swap hm (fun y hy => by rw [List.mem_singleton.mp hy]; exact hx) (by simp) ?_ t
  rcases bad with q | ⟨k, q⟩ | ⟨k, q⟩
  · exact .inl ⟨x, by simp, q⟩
  · exact .inr (.inl ⟨k, by rw [rgs_one]; exact q⟩)
  · exact .inr (.inr ⟨k, by rw [leds_one]; exact q⟩)
/-- a corner of the one that is none of the other -/
theorem off_key {S T : List P3} (t : Tri S) (g : ∀ p ∈ S, PtG p) {x : P3} (h1 : x ∈ S) (h2 : x ∉ T) : ∃ k, tls (sd S) k ≠ tls (sd T) k := by
  obtain ⟨k, k1, k2⟩ := vert t g x h1
  exact ⟨k, by rw [k2, tls_off (us := T) (k := k) (by rw [k1]; exact h2)]; decide⟩
theorem Wh.w2 (h : Wh R0 ms) (hm : ms[i]? = some m) {w : P3} (pw : Pt 10 w) (nz : w.a ≠ 0 ∨ w.b ≠ 0) (t : Bool) : m_is_plan [R0] (leds ms) (ms.take i ++ [⟨m.a, m.b, sl m.c w⟩] ++ ms.drop (i + 1)) t = some false := by
  have mem := List.mem_of_getElem? hm
  obtain ⟨tT, pT⟩ := h.ring mem
  have pv := h.stm mem
  obtain ⟨tL, pL⟩ := h.ledt mem
  have o := h.ok3 mem
  refine h.one hm (x := ⟨m.a, m.b, sl m.c w⟩) ⟨o.1, o.2.1, (sl_pt pv pw).mono (by decide)⟩ (.inr (.inr ?_)) t
  have ne : ledm m ≠ [] := by
    obtain ⟨p, q, r, e, _⟩ := tL
    rw [e]; simp
  obtain ⟨x, hx, off⟩ := shift_off (w := w) ne (fun p hp => (pL p hp).pos) pw.pos nz
  obtain ⟨p, hp, rfl⟩ := List.mem_map.mp hx
  have e : ld m.b (sl m.c w) p = sl (ld m.b m.c p) w := ld_sl (pT p hp).1.pos pv.pos pw.pos
  exact off_key (tri_ld tT (fun p hp => (pT p hp).1.pos) (sl_low pv.pos pw.pos).pos) (fun y hy => by
    obtain ⟨q, hq, rfl⟩ := List.mem_map.mp hy
    exact ld_g (pT q hq).1.g (sl_low pv.pos pw.pos).pos) (List.mem_map.mpr ⟨p, hp, rfl⟩) (by rw [e]; exact off)
theorem Wh.w3 (h : Wh R0 ms) (hm : ms[i]? = some m) {w : P3} (pw : Pt 10 w) (nz : w.a ≠ 0 ∨ w.b ≠ 0) {j : Nat} {p : P3} (hj : m.a[j]? = some p) (t : Bool) : m_is_plan [R0] (leds ms) (ms.take i ++ [⟨m.a.take j ++ [sl p w] ++ m.a.drop (j + 1), m.b, m.c⟩] ++ ms.drop (i + 1)) t = some false := by
  have mem := List.mem_of_getElem? hm
  obtain ⟨tT, pT⟩ := h.ring mem
  have o := h.ok3 mem
  have hp := List.mem_of_getElem? hj
  have lT := tri_ln tT
  obtain ⟨T, f, v⟩ := m
  dsimp only at *
  have pA : ∀ x ∈ T.take j ++ [sl p w] ++ T.drop (j + 1), Pt 1720 x := fun x hx => by
    rcases List.mem_append.mp hx with q | q
    · rcases List.mem_append.mp q with q | q
      · exact o.1 x (List.mem_of_mem_take q)
      · rw [List.mem_singleton.mp q]; exact (sl_pt (pT p hp).1 pw).mono (by decide)
    · exact o.1 x (List.mem_of_mem_drop q)
  have lA : (T.take j ++ [sl p w] ++ T.drop (j + 1)).length ≤ 1000 := by rw [List.length_append, List.length_append, List.length_take, List.length_drop]; simp; omega
  by_cases tri : Tri (T.take j ++ [sl p w] ++ T.drop (j + 1))
  · refine h.one hm ⟨pA, lA, o.2.2⟩ (.inr (.inl ?_)) t
    have ne : sl p w ≠ p := shift_ne (pT p hp).1.pos pw.pos nz
    refine off_key tri (fun x hx => (pA x hx).g) (x := sl p w) (by simp) ?_
    intro hin
    obtain ⟨x, y, z, eA, d⟩ := tri
    obtain ⟨n1, n2, n3⟩ := det_ne d
    obtain ⟨x', y', z', eT, d'⟩ := tT
    dsimp only at hin
    subst eT
    rcases j with _ | _ | _ | j
    · have : p = x' := by simpa using hj.symm
      subst this
      have e : [sl p w, y', z'] = [x, y, z] := eA
      injection e with e1 e
      injection e with e2 e
      injection e with e3 _
      simp only [List.mem_cons, List.not_mem_nil, or_false] at hin
      rcases hin with q | q | q
      · exact ne q
      · exact n1 (by rw [← e1, ← e2, q])
      · exact n3 (by rw [← e1, ← e3, q])
    · have : p = y' := by simpa using hj.symm
      subst this
      have e : [x', sl p w, z'] = [x, y, z] := eA
      injection e with e1 e
      injection e with e2 e
      injection e with e3 _
      simp only [List.mem_cons, List.not_mem_nil, or_false] at hin
      rcases hin with q | q | q
      · exact n1 (by rw [← e1, ← e2, q])
      · exact ne q
      · exact n2 (by rw [← e2, ← e3, q])
    · have : p = z' := by simpa using hj.symm
      subst this
      have e : [x', y', sl p w] = [x, y, z] := eA
      injection e with e1 e
      injection e with e2 e
      injection e with e3 _
      simp only [List.mem_cons, List.not_mem_nil, or_false] at hin
      rcases hin with q | q | q
      · exact n3 (by rw [← e1, ← e3, q])
      · exact n2 (by rw [← e2, ← e3, q])
      · exact ne q
    · simp at hj
  · exact h.one hm ⟨pA, lA, o.2.2⟩ (.inl tri) t
theorem Wh.w4 (h : Wh R0 ms) (hm : ms[i]? = some m) (t : Bool) : m_is_plan [R0] (leds ms) (ms.take i ++ [⟨m.a.reverse, m.b, m.c⟩] ++ ms.drop (i + 1)) t = some false := by
  have mem := List.mem_of_getElem? hm
  obtain ⟨tT, _⟩ := h.ring mem
  have o := h.ok3 mem
  refine h.one hm (x := ⟨m.a.reverse, m.b, m.c⟩) ⟨fun p hp => o.1 p (List.mem_reverse.mp hp), by rw [List.length_reverse]; exact o.2.1, o.2.2⟩ (.inl ?_) t
  obtain ⟨p, q, r, e, d⟩ := tT
  rintro ⟨x, y, z, e', d'⟩
  have e' : m.a.reverse = [x, y, z] := e'
  rw [e] at e'
  have e' : [r, q, p] = [x, y, z] := e'
  injection e' with e1 e'
  injection e' with e2 e'
  injection e' with e3 _
  rw [← e1, ← e2, ← e3] at d'
  have : det r q p = -det p q r := by unfold det; grind
  omega
theorem Wh.w5 (h : Wh R0 ms) (hm : ms[i]? = some m) (t : Bool) : m_is_plan [R0] (leds ms) (ms.take i ++ [⟨m.a, !m.b, m.c⟩] ++ ms.drop (i + 1)) t = some false := by
  have mem := List.mem_of_getElem? hm
  obtain ⟨tT, pT⟩ := h.ring mem
  have pv := h.stm mem
  have o := h.ok3 mem
  have vc : m.c.c = 1 := (h.st i m hm).1
  refine h.one hm (x := ⟨m.a, !m.b, m.c⟩) ⟨o.1, o.2.1, o.2.2⟩ (.inr (.inr ?_)) t
  -- a corner away from the upright axis
  obtain ⟨p, hp, pa⟩ : ∃ p ∈ m.a, 0 < p.a := by
    obtain ⟨x, y, z, e, d⟩ := tT
    apply Classical.byContradiction
    intro no
    have z0 : ∀ q ∈ m.a, q.a = 0 := fun q hq => by
      have b := (pT q hq).2.1
      have : ¬ 0 < q.a := fun w => no ⟨q, hq, w⟩
      omega
    have a1 := z0 x (by rw [e]; simp)
    have a2 := z0 y (by rw [e]; simp)
    have a3 := z0 z (by rw [e]; simp)
    unfold det at d
    rw [a1, a2, a3] at d
    simp at d
  have off : ld false m.c p ∉ m.a.map (ld true m.c) := by
    intro hin
    obtain ⟨q, hq, e⟩ := List.mem_map.mp hin
    have e : sl (tn q) m.c = sl p m.c := e
    have hq0 := (pT q hq).1.pos
    have hp0 := (pT p hp).1.pos
    have qa := (pT q hq).2.1
    have w1 := sl_low (p := p) (v := m.c) hp0 pv.pos
    have w2 := sl_low (p := tn q) (v := m.c) hq0 pv.pos
    rw [e] at w2
    have e1 := w1.ea
    have e2 := w2.ea
    have sp := w1.pos
    generalize sl p m.c = s at *
    rw [vc, Int.mul_one, Int.mul_one] at e1 e2
    have e2 : s.a * q.c = (-q.a + m.c.a * q.c) * s.c := e2
    have k1 : (s.a - m.c.a * s.c) * p.c = p.a * s.c := by rw [Int.sub_mul, e1]; grind
    have k2 : (s.a - m.c.a * s.c) * q.c = -(q.a * s.c) := by rw [Int.sub_mul, e2]; grind
    have d1 : 0 < (s.a - m.c.a * s.c) * p.c := by rw [k1]; exact Int.mul_pos pa sp
    have d2 : 0 < s.a - m.c.a * s.c := Int.pos_of_mul_pos_left d1 hp0
    have d3 := Int.mul_pos d2 hq0
    have d4 := Int.mul_nonneg qa (Int.le_of_lt sp)
    omega
  have tl : ∀ f, Tri (m.a.map (ld f m.c)) := fun f => tri_ld tT (fun p hp => (pT p hp).1.pos) pv.pos
  have gl : ∀ f, ∀ y ∈ m.a.map (ld f m.c), PtG y := fun f y hy => by
    obtain ⟨q, hq, rfl⟩ := List.mem_map.mp hy
    exact ld_g (pT q hq).1.g pv.pos
  obtain ⟨k, ne⟩ := off_key (tl false) (gl false) (List.mem_map.mpr ⟨p, hp, rfl⟩) off
  refine ⟨k, ?_⟩
  show tls (sd (m.a.map (ld (!m.b) m.c))) k ≠ tls (sd (m.a.map (ld m.b m.c))) k
  cases m.b with
  | true => exact ne
  | false => exact fun e => ne e.symm
theorem Wh.w6 (h : Wh R0 ms) (hm : ms[i]? = some m) {j : Nat} {m' : Mv} (hj : ms[j]? = some m') (ne : j ≠ i) (t : Bool) : m_is_plan [R0] (leds ms) (ms.take i ++ [⟨m.a, m.b, m'.c⟩] ++ ms.drop (i + 1)) t = some false := by
  have mem := List.mem_of_getElem? hm
  have mem' := List.mem_of_getElem? hj
  obtain ⟨tT, pT⟩ := h.ring mem
  have o := h.ok3 mem
  have o' := h.ok3 mem'
  have pv := h.stm mem'
  refine h.one hm (x := ⟨m.a, m.b, m'.c⟩) ⟨o.1, o.2.1, o'.2.2⟩ (.inr (.inr ?_)) t
  obtain ⟨x, y, z, e, d⟩ := tT
  refine off_key (tri_ld ⟨x, y, z, e, d⟩ (fun p hp => (pT p hp).1.pos) pv.pos) (fun y hy => by
    obtain ⟨q, hq, rfl⟩ := List.mem_map.mp hy
    exact ld_g (pT q hq).1.g pv.pos) (x := ld m.b m'.c x) (List.mem_map.mpr ⟨x, by show x ∈ m.a; rw [e]; simp, rfl⟩) ?_
  intro hin
  obtain ⟨a1, a2, a3⟩ := h.xr hj (f := m.b) mem rfl (ld m.b m'.c x) (List.mem_map.mpr ⟨x, by rw [e]; simp, rfl⟩)
  obtain ⟨b1, b2, _⟩ := h.xr hm (f := m.b) mem rfl _ hin
  exact xr_off ne a3 a1 a2 b1 b2
theorem Wh.w7 (h : Wh R0 ms) (hm : ms[i]? = some m) {j : Nat} {m' : Mv} (hj : ms[j]? = some m') (ne : j ≠ i) (t : Bool) : m_is_plan [R0] (leds ms) (ms.take i ++ [⟨m'.a, m.b, m.c⟩] ++ ms.drop (i + 1)) t = some false := by
  have mem := List.mem_of_getElem? hm
  have mem' := List.mem_of_getElem? hj
  obtain ⟨tT, pT⟩ := h.ring mem
  obtain ⟨tT', pT'⟩ := h.ring mem'
  have o := h.ok3 mem
  have o' := h.ok3 mem'
  refine h.one hm (x := ⟨m'.a, m.b, m.c⟩) ⟨o'.1, o'.2.1, o.2.2⟩ (.inr (.inl ?_)) t
  have ap : Ap m.a m'.a := by
    have pw := List.pairwise_iff_getElem.mp h.dj.ap
    obtain ⟨li, gi⟩ := List.getElem?_eq_some_iff.mp hm
    obtain ⟨lj, gj⟩ := List.getElem?_eq_some_iff.mp hj
    have len : (rgs ms).length = ms.length := by unfold rgs; rw [List.length_map]
    have ri : (rgs ms)[i]'(by omega) = m.a := by unfold rgs; rw [List.getElem_map, gi]
    have rj : (rgs ms)[j]'(by omega) = m'.a := by unfold rgs; rw [List.getElem_map, gj]
    rcases Nat.lt_or_gt_of_ne ne with c | c
    · have := pw j i (by omega) (by omega) c
      rw [ri, rj] at this
      exact this.symm
    · have := pw i j (by omega) (by omega) c
      rw [ri, rj] at this
      exact this
  obtain ⟨x, q | q⟩ := ap.2
  · obtain ⟨k, e⟩ := off_key tT (fun p hp => (pT p hp).1.g) q.1 q.2
    exact ⟨k, fun z => e z.symm⟩
  · exact off_key tT' (fun p hp => (pT' p hp).1.g) q.1 q.2
/-- no triangle -/
theorem Wh.flat (h : Wh R0 ms) (hm : ms[i]? = some m) {T : List P3} (pt : ∀ p ∈ T, Pt 1720 p) (hl : T.length ≤ 1000) (no : ¬ Tri T) (t : Bool) : m_is_plan [R0] (leds ms) (ms.take i ++ [⟨T, m.b, m.c⟩] ++ ms.drop (i + 1)) t = some false :=
  h.one hm (x := ⟨T, m.b, m.c⟩) ⟨pt, hl, (h.ok3 (List.mem_of_getElem? hm)).2.2⟩ (.inl no) t
end
/-! ### plain: the twelve ways -/
theorem ix_at {α : Type} {xs : List α} {j : Nat} {x : α} (h : xs[j]? = some x) : ix xs (j : Int) = some x := by
  obtain ⟨l, e⟩ := List.getElem?_eq_some_iff.mp h
  rw [ix_lt l, e]
theorem tri_only {p q r : P3} : Tri [p, q, r] ↔ 0 < det p q r := by
  constructor
  · rintro ⟨x, y, z, e, d⟩
    injection e with e1 e
    injection e with e2 e
    injection e with e3 _
    rw [e1, e2, e3]; exact d
  · intro d
    exact ⟨p, q, r, rfl, d⟩
theorem middle_ok {p q : P3} (hp : Pt 418 p) (hq : Pt 418 q) : ∃ M, m__law_middle p q = some M ∧ Pt 1720 M ∧ det p M q = 0 := by
  have n0 : 0 < 2 * p.c * q.c := Int.mul_pos (Int.mul_pos (by decide) hp.pos) hq.pos
  have s1 : (2 * p.c).natAbs < 2 ^ (2 + 418) := sz_mul (a := 2) (by decide) hp.sc
  have s2 : (2 * p.c * q.c).natAbs < 2 ^ (2 + 418 + 418) := sz_mul s1 hq.sc
  have sa : (p.a * q.c + q.a * p.c).natAbs < 2 ^ (418 + 418 + 1) := sz_add (sz_mul hp.sa hq.sc) (sz_mul hq.sa hp.sc)
  have sb : (p.b * q.c + q.b * p.c).natAbs < 2 ^ (418 + 418 + 1) := sz_add (sz_mul hp.sb hq.sc) (sz_mul hq.sb hp.sc)
  have w := hd_low n0 ⟨p.a * q.c + q.a * p.c, p.b * q.c + q.b * p.c⟩
  refine ⟨hd (2 * p.c * q.c) ⟨p.a * q.c + q.a * p.c, p.b * q.c + q.b * p.c⟩, ?_, w.pt (pow_le sa (by decide)) (pow_le sb (by decide)) (pow_le s2 (by decide)), ?_⟩
  · unfold m__law_middle
    rw [mulG_ok _ _ hp.sa hq.sc (by decide), Option.bind_some, mulG_ok _ _ hq.sa hp.sc (by decide), Option.bind_some, mulG_ok _ _ hp.sb hq.sc (by decide), Option.bind_some, mulG_ok _ _ hq.sb hp.sc (by decide), Option.bind_some, mulG_ok _ _ s1 hq.sc (by decide), Option.bind_some, lawpnt_ok n0 (pow_le s2 (by decide))]
    rfl
  · have e1 := w.ea
    have e2 := w.eb
    dsimp only at e1 e2
    generalize hd (2 * p.c * q.c) ⟨p.a * q.c + q.a * p.c, p.b * q.c + q.b * p.c⟩ = M at *
    refine Int.eq_of_mul_eq_mul_right (show 2 * p.c * q.c ≠ 0 by omega) ?_
    rw [Int.zero_mul]
    have : det p M q * (2 * p.c * q.c) = p.a * (M.b * (2 * p.c * q.c) * q.c - M.c * (2 * p.c * q.c) * q.b) - p.b * (M.a * (2 * p.c * q.c) * q.c - M.c * (2 * p.c * q.c) * q.a) + p.c * (M.a * (2 * p.c * q.c) * q.b - M.b * (2 * p.c * q.c) * q.a) := by unfold det; grind
    rw [this, e1, e2]
    grind
theorem Wh.w11 {R0 : List P3} {ms : List Mv} {i : Nat} {m : Mv} (h : Wh R0 ms) (hm : ms[i]? = some m) {T : List P3} (pt : ∀ p ∈ T, Pt 1720 p) (hl : T.length ≤ 1000) (no : ¬ Tri T) (t : Bool) : m_is_plan [R0] (leds ms) (ms.take i ++ [m, ⟨T, m.b, m.c⟩] ++ ms.drop (i + 1)) t = some false := by
  have mem := List.mem_of_getElem? hm
  refine h.swap hm (fun x hx => ?_) (by simp) (.inl ⟨⟨T, m.b, m.c⟩, by simp, no⟩) t
  simp only [List.mem_cons, List.not_mem_nil, or_false] at hx
  rcases hx with e | e
  · subst e; exact h.ok3 mem
  · subst e; exact ⟨pt, hl, (h.ok3 mem).2.2⟩
theorem spoiled_ok {R0 : List P3} {ms : List Mv} (h : Wh R0 ms) {xs : List Int} (hb : Bag xs) :
    ∃ bad ys, m__law_spoiled ms xs = some (bad, ys) ∧ Bag ys ∧ bad.length ≤ 1000 ∧ ∀ t, m_is_plan [R0] (leds ms) bad t = some false := by
  have l3 := h.l3
  have l8 := h.l8
  unfold m__law_spoiled
  obtain ⟨d1, y1, e1, b1, a1, u1⟩ := digit_ok hb (many := (ms.length : Int)) (by omega) (by omega)
  obtain ⟨d2, y2, e2, b2, a2, u2⟩ := digit_ok b1 (many := (ms.length : Int) - 1) (by omega) (by omega)
  obtain ⟨d3, y3, e3, b3, a3, u3⟩ := digit_ok b2 (many := 19) (by decide) (by decide)
  obtain ⟨d4, y4, e4, b4, a4, u4⟩ := digit_ok b3 (many := 19) (by decide) (by decide)
  obtain ⟨d5, y5, e5, b5, a5, u5⟩ := digit_ok b4 (many := 3) (by decide) (by decide)
  obtain ⟨d6, y6, e6, b6, a6, u6⟩ := digit_ok b5 (many := 12) (by decide) (by decide)
  obtain ⟨i, rfl⟩ : ∃ n : Nat, d1 = (n : Int) := ⟨d1.toNat, by omega⟩
  have hi : i < ms.length := by omega
  have hm : ms[i]? = some ms[i] := List.getElem?_eq_getElem hi
  have ixm : ix ms (i : Int) = some ms[i] := ix_lt hi
  generalize ms[i] = m at *
  have mem := List.mem_of_getElem? hm
  obtain ⟨j, hj, ej, ne⟩ : ∃ j : Nat, j < ms.length ∧ ((i : Int) + 1 + d2) % (ms.length : Int) = (j : Int) ∧ j ≠ i := by
    by_cases c : (i : Int) + 1 + d2 < (ms.length : Int)
    · exact ⟨((i : Int) + 1 + d2).toNat, by omega, by rw [Int.emod_eq_of_lt (by omega) c]; omega, by omega⟩
    · refine ⟨((i : Int) + 1 + d2 - (ms.length : Int)).toNat, by omega, ?_, by omega⟩
      rw [← Int.sub_emod_right, Int.emod_eq_of_lt (by omega) (by omega)]; omega
  have hm' : ms[j]? = some ms[j] := List.getElem?_eq_getElem hj
  have ixm' : ix ms (j : Int) = some ms[j] := ix_lt hj
  generalize ms[j] = m' at *
  obtain ⟨tT, pT⟩ := h.ring mem
  have pv := h.stm mem
  have lT := tri_ln tT
  obtain ⟨p, q, r, eT, dT⟩ := tT
  have p1 := pT p (by rw [eT]; simp)
  have p2 := pT q (by rw [eT]; simp)
  have p3 := pT r (by rw [eT]; simp)
  obtain ⟨s, rfl⟩ : ∃ n : Nat, d5 = (n : Int) := ⟨d5.toNat, by omega⟩
  have hs : s < m.a.length := by omega
  have hx : m.a[s]? = some m.a[s] := List.getElem?_eq_getElem hs
  have ixs : ix m.a (s : Int) = some m.a[s] := ix_lt hs
  generalize m.a[s] = x at *
  have hxm := List.mem_of_getElem? hx
  obtain ⟨sl1, sl2⟩ := slc_mid hi
  obtain ⟨sl3, sl4⟩ := slc_mid hs
  have sl5 : slice m.a (some (s : Int)) none = m.a.drop s := slice_from (by omega)
  obtain ⟨w, ew, pw, nz⟩ : ∃ w : P3, (if decide ((⟨d3 - 9, d4 - 9, 1⟩ : P3) = ⟨0, 0, 1⟩) = true then ((some (⟨1, 0, 2⟩ : P3)).bind fun (shift_2 : P3) => some shift_2) else some (⟨d3 - 9, d4 - 9, 1⟩ : P3)) = some w ∧ Pt 10 w ∧ (w.a ≠ 0 ∨ w.b ≠ 0) := by
    by_cases c : (⟨d3 - 9, d4 - 9, 1⟩ : P3) = ⟨0, 0, 1⟩
    · exact ⟨⟨1, 0, 2⟩, by rw [if_pos (by simpa using c)]; rfl, ⟨by decide, by decide, by decide, by decide, by decide⟩, .inl (by decide)⟩
    · refine ⟨⟨d3 - 9, d4 - 9, 1⟩, by rw [if_neg (by simpa using c)], ⟨by show (0 : Int) < 1; decide, by show (d3 - 9).natAbs < _; omega, by show (d4 - 9).natAbs < _; omega, by show (1 : Int).natAbs < _; decide, g3_one _ _⟩, ?_⟩
      by_cases z : d3 - 9 = 0
      · right
        intro z2
        have z2 : d4 - 9 = 0 := z2
        exact c (by rw [z, z2])
      · exact .inl z
  rw [e1, Option.bind_some]
  dsimp only
  rw [e2, Option.bind_some]
  dsimp only
  rw [modG_pos (by omega), Option.bind_some, ej, ixm, Option.bind_some, e3, Option.bind_some]
  dsimp only
  rw [e4, Option.bind_some]
  dsimp only
  rw [Option.bind_some, ew, Option.bind_some, e5, Option.bind_some]
  dsimp only
  rw [e6, Option.bind_some]
  dsimp only
  rw [Option.bind_some, Option.bind_some]
  have fin : ∀ s13 : List Mv, s13.length ≤ 2 → ((lenOk (((slice ms none (some (i : Int)))).length + s13.length)).bind fun _ =>
 (lenOk ((((slice ms none (some (i : Int))) ++ s13)).length + ((slice ms (some (((i : Int) + 1))) none)).length)).bind fun _ =>
 some (((((slice ms none (some (i : Int))) ++ s13) ++ (slice ms (some (((i : Int) + 1))) none)), y6))) = some (ms.take i ++ s13 ++ ms.drop (i + 1), y6) := by
    intro s13 hl
    rw [sl1, sl2, lenOk_ok (by rw [List.length_take]; omega), Option.bind_some, lenOk_ok (by rw [List.length_append, List.length_take, List.length_drop]; omega), Option.bind_some]
  have ends : ∀ s13 : List Mv, s13.length ≤ 2 → (∀ t, m_is_plan [R0] (leds ms) (ms.take i ++ s13 ++ ms.drop (i + 1)) t = some false) → ∃ bad ys, ((lenOk (((slice ms none (some (i : Int)))).length + s13.length)).bind fun _ =>
 (lenOk ((((slice ms none (some (i : Int))) ++ s13)).length + ((slice ms (some (((i : Int) + 1))) none)).length)).bind fun _ =>
 some (((((slice ms none (some (i : Int))) ++ s13) ++ (slice ms (some (((i : Int) + 1))) none)), y6))) = some (bad, ys) ∧ Bag ys ∧ bad.length ≤ 1000 ∧ ∀ t, m_is_plan [R0] (leds ms) bad t = some false := fun s13 hl k =>
    ⟨_, _, fin s13 hl, b6, by rw [List.length_append, List.length_append, List.length_take, List.length_drop]; omega, k⟩
  have l1 : ∀ x : Mv, [x].length ≤ 2 := fun x => by simp
  have o := h.ok3 mem
  have ways : d6 = 0 ∨ d6 = 1 ∨ d6 = 2 ∨ d6 = 3 ∨ d6 = 4 ∨ d6 = 5 ∨ d6 = 6 ∨ d6 = 7 ∨ d6 = 8 ∨ d6 = 9 ∨ d6 = 10 ∨ d6 = 11 := by omega
  have s012 : s = 0 ∨ s = 1 ∨ s = 2 := by omega
  clear fin e1 e2 e3 e4 e5 e6 ej ew
  rcases ways with z | z | z | z | z | z | z | z | z | z | z | z <;> subst z <;> simp only [decide_eq_true_eq, Int.reduceEq, if_false, if_true, Option.bind_some]
  · exact ends [] (by simp) (h.w0 hm)
  · exact ends [m, m] (by simp) (h.w1 hm)
  · rw [lawslid_ok pv pw (by decide)]
    simp only [Option.bind_some]
    exact ends _ (l1 _) (h.w2 hm pw nz)
  · rw [ixs]
    simp only [Option.bind_some]
    rw [lawslid_ok (pT x hxm).1 pw (by decide)]
    simp only [Option.bind_some]
    rw [sl3, sl4, lenOk_ok (by rw [List.length_take]; simp; omega)]
    simp only [Option.bind_some]
    rw [lenOk_ok (by rw [List.length_append, List.length_take, List.length_drop]; simp; omega)]
    simp only [Option.bind_some]
    exact ends _ (l1 _) (h.w3 hm pw nz hx)
  · exact ends _ (l1 _) (h.w4 hm)
  · exact ends _ (l1 _) (h.w5 hm)
  · rw [ixm']
    simp only [Option.bind_some]
    exact ends _ (l1 _) (h.w6 hm hm' ne)
  · rw [ixm']
    simp only [Option.bind_some]
    exact ends _ (l1 _) (h.w7 hm hm' ne)
  · rw [sl3, sl4, lenOk_ok (by rw [List.length_take, List.length_drop]; omega)]
    simp only [Option.bind_some]
    refine ends _ (l1 _) (h.flat hm (fun y hy => ?_) (by rw [List.length_append, List.length_take, List.length_drop]; omega) fun w => ?_)
    · rcases List.mem_append.mp hy with q | q
      · exact o.1 y (List.mem_of_mem_take q)
      · exact o.1 y (List.mem_of_mem_drop q)
    · have := tri_ln w
      rw [List.length_append, List.length_take, List.length_drop] at this
      omega
  · rw [ixs]
    simp only [Option.bind_some]
    rw [sl3, sl5, lenOk_ok (by rw [List.length_take]; simp; omega)]
    simp only [Option.bind_some]
    rw [lenOk_ok (by rw [List.length_append, List.length_take, List.length_drop]; simp; omega)]
    simp only [Option.bind_some]
    refine ends _ (l1 _) (h.flat hm (fun y hy => ?_) (by rw [List.length_append, List.length_append, List.length_take, List.length_drop]; simp; omega) fun w => ?_)
    · rcases List.mem_append.mp hy with q | q
      · rcases List.mem_append.mp q with q | q
        · exact o.1 y (List.mem_of_mem_take q)
        · rw [List.mem_singleton.mp q]; exact o.1 x hxm
      · exact o.1 y (List.mem_of_mem_drop q)
    · have := tri_ln w
      rw [List.length_append, List.length_append, List.length_take, List.length_drop] at this
      simp at this
      omega
  · obtain ⟨y, iy, hy, no⟩ : ∃ y, ix m.a ((s : Int) - 1) = some y ∧ y ∈ m.a ∧ ¬ Tri (m.a.take s ++ [y] ++ m.a.drop (s + 1)) := by
      rw [eT]
      rcases s012 with e | e | e <;> subst e
      · refine ⟨r, rfl, by simp, fun w => ?_⟩
        have := tri_only.mp (show Tri [r, q, r] from w)
        rw [(det_self r q).1] at this; omega
      · refine ⟨p, rfl, by simp, fun w => ?_⟩
        have := tri_only.mp (show Tri [p, p, r] from w)
        have z : det p p r = 0 := by unfold det; grind
        omega
      · refine ⟨q, rfl, by simp, fun w => ?_⟩
        have := tri_only.mp (show Tri [p, q, q] from w)
        rw [(det_self p q).2] at this; omega
    rw [iy]
    simp only [Option.bind_some]
    rw [sl3, sl4, lenOk_ok (by rw [List.length_take]; simp; omega)]
    simp only [Option.bind_some]
    rw [lenOk_ok (by rw [List.length_append, List.length_take, List.length_drop]; simp; omega)]
    simp only [Option.bind_some]
    refine ends _ (l1 _) (h.flat hm (fun y' hy' => ?_) (by rw [List.length_append, List.length_append, List.length_take, List.length_drop]; simp; omega) no)
    rcases List.mem_append.mp hy' with q | q
    · rcases List.mem_append.mp q with q | q
      · exact o.1 y' (List.mem_of_mem_take q)
      · rw [List.mem_singleton.mp q]; exact o.1 y hy
    · exact o.1 y' (List.mem_of_mem_drop q)
  · obtain ⟨y, iy, hy⟩ : ∃ y, ix m.a ((s : Int) - 1) = some y ∧ y ∈ m.a := by
      rw [eT]
      rcases s012 with e | e | e <;> subst e
      · exact ⟨r, rfl, by simp⟩
      · exact ⟨p, rfl, by simp⟩
      · exact ⟨q, rfl, by simp⟩
    obtain ⟨M, eM, pM, dM⟩ := middle_ok (pT y hy).1 (pT x hxm).1
    rw [iy, ixs]
    simp only [Option.bind_some]
    rw [eM]
    simp only [Option.bind_some]
    refine ends _ (by simp) (h.w11 hm (fun z hz => ?_) (by simp) fun w => ?_)
    · simp only [List.mem_cons, List.not_mem_nil, or_false] at hz
      rcases hz with e | e | e <;> subst e
      · exact o.1 _ hy
      · exact pM
      · exact o.1 _ hxm
    · have := tri_only.mp w
      omega
/-! ### plain: the second cloth spoiled, and the law -/
theorem slide_ok {p v : P3} {n : Nat} (hp : Pt n p) (vp : 0 < v.c) (va : v.a.natAbs < 2 ^ 10) (vb : v.b.natAbs < 2 ^ 10) (vc : v.c.natAbs < 2 ^ 10) (h : n ≤ 6000) : m__law_slid p v = some (sl p v) ∧ Pt (n + 11) (sl p v) := by
  have hc := Int.mul_pos hp.pos vp
  constructor
  · unfold m__law_slid
    rw [mulG_ok _ _ hp.sa vc (by omega), Option.bind_some, mulG_ok _ _ va hp.sc (by omega), Option.bind_some, mulG_ok _ _ hp.sb vc (by omega), Option.bind_some, mulG_ok _ _ vb hp.sc (by omega), Option.bind_some, mulG_ok _ _ hp.sc vc (by omega), Option.bind_some, lawpnt_ok hc (pow_le (sz_mul hp.sc vc) (by omega))]
    rfl
  · refine (sl_low hp.pos vp).pt (sz_add (n := n + 10) (sz_mul hp.sa vc) ?_) (sz_add (n := n + 10) (sz_mul hp.sb vc) ?_) (pow_le (sz_mul hp.sc vc) (by omega))
    · rw [Nat.add_comm n 10]; exact sz_mul va hp.sc
    · rw [Nat.add_comm n 10]; exact sz_mul vb hp.sc
section
variable {R0 : List P3} {ms : List Mv} {i : Nat} {m : Mv}
theorem fm_app (xs ys : List (List P3)) (k : Ky) : tls ((xs ++ ys).flatMap sd) k = tls (xs.flatMap sd) k + tls (ys.flatMap sd) k := by rw [List.flatMap_append, tls_app]
theorem fm_one (x : List P3) (k : Ky) : tls (([x] : List (List P3)).flatMap sd) k = tls (sd x) k := by simp
theorem leds_at (hm : ms[i]? = some m) : (leds ms)[i]? = some (ledm m) := by unfold leds; rw [List.getElem?_map, hm]; rfl
/-- another second cloth -/
theorem Wh.other (h : Wh R0 ms) (hm : ms[i]? = some m) {xs : List (List P3)} (hx : ∀ T ∈ xs, Tri T ∧ ∀ p ∈ T, Pt 2000 p) (hl : xs.length ≤ 2) (bad : ∃ k, tls (xs.flatMap sd) k ≠ tls (sd (ledm m)) k) : m_is_plan [R0] ((leds ms).take i ++ xs ++ (leds ms).drop (i + 1)) ms true = some false := by
  have l8 := h.l8
  have ll : (leds ms).length = ms.length := by unfold leds; rw [List.length_map]
  have mem : ∀ T ∈ (leds ms).take i ++ xs ++ (leds ms).drop (i + 1), Tri T ∧ ∀ p ∈ T, Pt 2000 p := fun T hT => by
    have old : T ∈ leds ms → Tri T ∧ ∀ p ∈ T, Pt 2000 p := fun q => by
      obtain ⟨m', hm', rfl⟩ := lg_leds ms T q
      obtain ⟨a, b⟩ := h.ledt hm'
      exact ⟨a, fun p hp => (b p hp).mono (by decide)⟩
    rcases List.mem_append.mp hT with q | q
    · rcases List.mem_append.mp q with q | q
      · exact old (List.mem_of_mem_take q)
      · exact hx T q
    · exact old (List.mem_of_mem_drop q)
  refine plan_no (n := 1720) (k := 60) (by decide) (fun x hx' => h.ok3 hx') (by omega) h.s1 (fun s hs => ?_) h.l1 ?_ (.inr (.inr ?_))
  · obtain ⟨T, hT, hs⟩ := List.mem_flatMap.mp hs
    exact tri_sides (mem T hT).1 (fun q hq => ((mem T hT).2 q hq).mono (by decide)) s hs
  · rw [len_tri fun R hR => tri_ln (mem R hR).1, List.length_append, List.length_append, List.length_take, List.length_drop]; omega
  · obtain ⟨k, q⟩ := bad
    refine ⟨k, fun e => q ?_⟩
    have e2 : tls ((leds ms).flatMap sd) k = tls (((leds ms).take i ++ [ledm m] ++ (leds ms).drop (i + 1)).flatMap sd) k := by rw [← sl_mid (leds_at hm)]
    rw [fm_app, fm_app, fm_one] at e2
    rw [fm_app, fm_app] at e
    omega
theorem Wh.out (h : Wh R0 ms) (hm : ms[i]? = some m) : m_is_plan [R0] ((leds ms).take i ++ (leds ms).drop (i + 1)) ms true = some false := by
  have := h.other hm (xs := []) (fun _ h => by cases h) (by simp) (by
    obtain ⟨k, _, e, _⟩ := h.lkey hm
    exact ⟨k, by rw [e]; show (0 : Int) ≠ 1; decide⟩)
  rw [List.append_nil] at this
  exact this
theorem Wh.lift (h : Wh R0 ms) (hm : ms[i]? = some m) {w : P3} (wp : 0 < w.c) (wa : w.a.natAbs < 2 ^ 10) (wb : w.b.natAbs < 2 ^ 10) (wc : w.c.natAbs < 2 ^ 10) (nz : w.a ≠ 0 ∨ w.b ≠ 0) : m_is_plan [R0] ((leds ms).take i ++ [(ledm m).map fun p => sl p w] ++ (leds ms).drop (i + 1)) ms true = some false := by
  have mem := List.mem_of_getElem? hm
  obtain ⟨tL, pL⟩ := h.ledt mem
  have tA : Tri ((ledm m).map fun p => sl p w) := tri_ld (f := false) (v := w) tL (fun p hp => (pL p hp).pos) wp
  have pA : ∀ y ∈ (ledm m).map fun p => sl p w, Pt 2000 y := fun y hy => by
    obtain ⟨q, hq, rfl⟩ := List.mem_map.mp hy
    exact (slide_ok (pL q hq) wp wa wb wc (by decide)).2.mono (by decide)
  refine h.other hm (fun T hT => ?_) (by simp) ?_
  · rw [List.mem_singleton.mp hT]; exact ⟨tA, pA⟩
  · have ne : ledm m ≠ [] := by
      obtain ⟨p, q, r, e, _⟩ := tL
      rw [e]; simp
    obtain ⟨x, hx, off⟩ := shift_off (w := w) ne (fun p hp => (pL p hp).pos) wp nz
    obtain ⟨k, e⟩ := off_key tA (fun y hy => (pA y hy).g) (x := sl x w) (List.mem_map.mpr ⟨x, hx, rfl⟩) off
    exact ⟨k, by rw [fm_one]; exact e⟩
theorem Wh.yes (h : Wh R0 ms) : m_is_plan [R0] (leds ms) ms true = some true := by
  have l8 := h.l8
  have ll : (leds ms).length ≤ 100 := by unfold leds; rw [List.length_map]; omega
  exact plan_yes (n := 1720) (k := 60) (by decide) (fun m hm => by
    obtain ⟨a, b, c, d⟩ := h.ok hm
    exact ⟨a, c, d, fun _ => rfl⟩) (by omega) h.s1 (h.s2 (lg_leds ms)) h.l1 (h.l2 (lg_leds ms) ll) (fun k => h.sumr k) fun _ => rfl
end
theorem law_true : ∀ ns : List Int, ns.length ≤ 63 → m_law ns = some true := by
  intro ns hl
  unfold m_law
  obtain ⟨c0, hc0⟩ := cell_ok ns 0
  obtain ⟨c1, hc1⟩ := cell_ok ns 1
  obtain ⟨g0, eg0, bg0⟩ := bag_ok c0
  obtain ⟨g1, eg1, bg1⟩ := bag_ok c1
  obtain ⟨us, y0, e0, b0, bul⟩ := bulging_ok bg0
  obtain ⟨cv, bx⟩ := bg_cvx bul
  obtain ⟨rs0, y2, e2, b2, P0, r5⟩ := first60 bul bg1
  generalize hR : us.map h30 = R0 at *
  obtain ⟨n, y3, e3, b3, l3, u3⟩ := digit_ok b2 (many := 4) (by decide) (by decide)
  obtain ⟨rs, y4, e4, b4, P, r8⟩ := parted_ok (many := n) l3 (by omega) P0 r5 b3
  obtain ⟨ms, y5, e5, b5, rg, st⟩ := spread_ok (t := true) r8 b4
  have lms : ms.length = rs.length := by
    have := congrArg List.length rg
    unfold rgs at this
    rw [List.length_map] at this; exact this
  have P3' := P.l3
  have wh : Wh R0 ms := ⟨cv, bx, by rw [rg]; exact P.p, by rw [rg]; exact P.dj, st, by omega, by omega⟩
  have hc0' : m__law_cell ns 0 = some c0 := hc0
  have hc1' : m__law_cell ns 1 = some c1 := hc1
  have i0 : ix [R0] 0 = some R0 := rfl
  rw [hc0', Option.bind_some, eg0, Option.bind_some, e0, Option.bind_some, Option.bind_some, hc1', Option.bind_some, eg1, Option.bind_some]
  dsimp only
  rw [i0, Option.bind_some, e2, Option.bind_some]
  dsimp only
  rw [e3, Option.bind_some]
  dsimp only
  rw [e4, Option.bind_some]
  dsimp only
  rw [e5, Option.bind_some]
  dsimp only
  rw [lenOk_ok (by omega), Option.bind_some, mapO_all (g := ledm) (fun m hm => by
    obtain ⟨a, b, c, _⟩ := wh.ok hm
    rw [lawledring_ok a c (by decide) b]; rfl), Option.bind_some]
  have el : ms.map ledm = leds ms := rfl
  rw [el]
  obtain ⟨y6, eL, b6⟩ := loopL_inv (ρ := Bool) (f := (fun (x3 : Int) (s2 : (List Int)) =>
 ((m__law_spoiled ms s2).bind fun z11 =>
 (m__law_copy z11.1).bind fun z12 =>
 (m_is_plan [R0] (leds ms) z12 true).bind fun z13 =>
 (if z13 = true then some true else
 ((m__law_copy z11.1).bind fun z16 =>
 (m_is_plan [R0] (leds ms) z16 false).bind fun z17 =>
 some z17)).bind fun b1 =>
 if b1 = true then
 (some (.ret false))
 else
 ((m_is_plan [R0] (leds ms) ms true).bind fun z18 =>
 if (!decide (z18 = true)) = true then
 (some (.ret false))
 else
 (some (.nxt z11.2)))))) (fun s => Bag s) (xs := rangeL 0 6) (s := y5) (fun x s hx b => by
    obtain ⟨bad, ys, e, b', hl, no⟩ := spoiled_ok wh b
    rw [e, Option.bind_some]
    dsimp only
    rw [copy_ok hl, Option.bind_some, no, Option.bind_some, if_neg (by decide), Option.bind_some, no, Option.bind_some, Option.bind_some, if_neg (by decide), wh.yes, Option.bind_some, if_neg (by decide)]
    exact ⟨ys, rfl, b'⟩) b5
  rw [eL, Option.bind_some]
  simp only [Lp.out]
  have ll : (leds ms).length = ms.length := by unfold leds; rw [List.length_map]
  obtain ⟨d, y7, e7, b7, a7, u7⟩ := digit_ok b6 (many := ((leds ms).length : Int)) (by omega) (by omega)
  obtain ⟨i, rfl⟩ : ∃ n : Nat, d = (n : Int) := ⟨d.toNat, by omega⟩
  have hi : i < ms.length := by omega
  have hm : ms[i]? = some ms[i] := List.getElem?_eq_getElem hi
  generalize ms[i] = m at *
  have mem := List.mem_of_getElem? hm
  obtain ⟨sl1, sl2⟩ := slc_mid (xs := leds ms) (i := i) (by omega)
  have ixl : ix (leds ms) (i : Int) = some (ledm m) := by
    have := leds_at hm
    obtain ⟨l, e⟩ := List.getElem?_eq_some_iff.mp this
    rw [ix_lt l, e]
  obtain ⟨d2, y8, e8, b8, a8, u8⟩ := digit_ok b7 (many := 9) (by decide) (by decide)
  obtain ⟨tL, pL⟩ := wh.ledt mem
  have lL := tri_ln tL
  rw [e7, Option.bind_some]
  dsimp only
  rw [sl1, sl2, lenOk_ok (by rw [List.length_take, List.length_drop]; omega), Option.bind_some, wh.out hm, Option.bind_some, if_neg (by decide), e8, Option.bind_some]
  dsimp only
  rw [Option.bind_some, ixl, Option.bind_some, lenOk_ok (by omega), Option.bind_some]
  have w1 : (1 + d2).natAbs < 2 ^ 10 := by omega
  rw [mapO_all (g := fun p => sl p ⟨0, 1 + d2, 4⟩) (fun p hp => by
    rw [(slide_ok (pL p hp) (v := ⟨0, 1 + d2, 4⟩) (show (0 : Int) < 4 by decide) (show (0 : Int).natAbs < 2 ^ 10 by decide) w1 (show (4 : Int).natAbs < 2 ^ 10 by decide) (by decide)).1]; rfl), Option.bind_some]
  rw [lenOk_ok (by rw [List.length_take]; simp; omega), Option.bind_some, lenOk_ok (by rw [List.length_append, List.length_take, List.length_drop]; simp; omega), Option.bind_some]
  rw [wh.lift hm (w := ⟨0, 1 + d2, 4⟩) (show (0 : Int) < 4 by decide) (show (0 : Int).natAbs < 2 ^ 10 by decide) w1 (show (4 : Int).natAbs < 2 ^ 10 by decide) (.inr (by show 1 + d2 ≠ 0; omega))]
  rfl
def top (i : Nat) : Stmt := PySem.Challenge.pw_slidecut_k61_plans_spoiled.main.body.getD i (.Pass ⟨0, 0, 0, 0⟩)
abbrev s__law_cell : Stmt := top 20
abbrev s__law_bag : Stmt := top 21
abbrev s__law_digit : Stmt := top 22
abbrev s__law_point : Stmt := top 23
abbrev s__law_place : Stmt := top 32
abbrev s__law_side : Stmt := top 26
abbrev s__law_three : Stmt := top 33
abbrev s__law_is_point : Stmt := top 27
abbrev s__law_is_convex : Stmt := top 28
abbrev s__law_bulging : Stmt := top 34
abbrev s__law_slid : Stmt := top 24
abbrev s__law_mixed : Stmt := top 36
abbrev s__law_fan : Stmt := top 44
abbrev s__law_parted : Stmt := top 45
abbrev s__law_spread : Stmt := top 46
abbrev s__law_turned : Stmt := top 25
abbrev s__law_led : Stmt := top 37
abbrev s__law_led_ring : Stmt := top 47
abbrev s__law_middle : Stmt := top 49
abbrev s__law_spoiled : Stmt := top 50
abbrev s__law_copy : Stmt := top 48
abbrev s_crossed : Stmt := top 11
abbrev s_side : Stmt := top 12
abbrev s_greatest_divisor : Stmt := top 5
abbrev s_ratio : Stmt := top 6
abbrev s_line_of : Stmt := top 14
abbrev s_count_sides : Stmt := top 15
abbrev s_parts_cloth : Stmt := top 16
abbrev s_turned : Stmt := top 10
abbrev s_point : Stmt := top 8
abbrev s_slid : Stmt := top 9
abbrev s_led_ring : Stmt := top 17
abbrev s_is_plan : Stmt := top 18
abbrev s_law : Stmt := top 51
structure Txt (K : PySem.W.Frag) (mg : Str → Option Value) where
  A__law_cell : Addr
  D__law_cell : FuncData
  F__law_cell : Fun K "_law_cell" "_law_cell" s__law_cell A__law_cell D__law_cell
  g__law_cell : mg "_law_cell" = some (.ref A__law_cell)
  b__law_cell : Binds K D__law_cell ["_law_script", "_law_k"] []
  A__law_bag : Addr
  D__law_bag : FuncData
  F__law_bag : Fun K "_law_bag" "_law_bag" s__law_bag A__law_bag D__law_bag
  g__law_bag : mg "_law_bag" = some (.ref A__law_bag)
  b__law_bag : Binds K D__law_bag ["_law_cell_here"] []
  A__law_digit : Addr
  D__law_digit : FuncData
  F__law_digit : Fun K "_law_digit" "_law_digit" s__law_digit A__law_digit D__law_digit
  g__law_digit : mg "_law_digit" = some (.ref A__law_digit)
  b__law_digit : Binds K D__law_digit ["_law_bag_here", "_law_many"] []
  A__law_point : Addr
  D__law_point : FuncData
  F__law_point : Fun K "_law_point" "_law_point" s__law_point A__law_point D__law_point
  g__law_point : mg "_law_point" = some (.ref A__law_point)
  b__law_point : Binds K D__law_point ["_law_a", "_law_b", "_law_n"] []
  A__law_place : Addr
  D__law_place : FuncData
  F__law_place : Fun K "_law_place" "_law_place" s__law_place A__law_place D__law_place
  g__law_place : mg "_law_place" = some (.ref A__law_place)
  b__law_place : Binds K D__law_place ["_law_bag_here", "_law_most"] []
  A__law_side : Addr
  D__law_side : FuncData
  F__law_side : Fun K "_law_side" "_law_side" s__law_side A__law_side D__law_side
  g__law_side : mg "_law_side" = some (.ref A__law_side)
  b__law_side : Binds K D__law_side ["_law_p", "_law_q", "_law_r"] []
  A__law_three : Addr
  D__law_three : FuncData
  F__law_three : Fun K "_law_three" "_law_three" s__law_three A__law_three D__law_three
  g__law_three : mg "_law_three" = some (.ref A__law_three)
  b__law_three : Binds K D__law_three ["_law_bag_here", "_law_most"] []
  A__law_is_point : Addr
  D__law_is_point : FuncData
  F__law_is_point : Fun K "_law_is_point" "_law_is_point" s__law_is_point A__law_is_point D__law_is_point
  g__law_is_point : mg "_law_is_point" = some (.ref A__law_is_point)
  b__law_is_point : Binds K D__law_is_point ["_law_p"] []
  A__law_is_convex : Addr
  D__law_is_convex : FuncData
  F__law_is_convex : Fun K "_law_is_convex" "_law_is_convex" s__law_is_convex A__law_is_convex D__law_is_convex
  g__law_is_convex : mg "_law_is_convex" = some (.ref A__law_is_convex)
  b__law_is_convex : Binds K D__law_is_convex ["_law_ring"] []
  A__law_bulging : Addr
  D__law_bulging : FuncData
  F__law_bulging : Fun K "_law_bulging" "_law_bulging" s__law_bulging A__law_bulging D__law_bulging
  g__law_bulging : mg "_law_bulging" = some (.ref A__law_bulging)
  b__law_bulging : Binds K D__law_bulging ["_law_bag_here", "_law_most"] []
  A__law_slid : Addr
  D__law_slid : FuncData
  F__law_slid : Fun K "_law_slid" "_law_slid" s__law_slid A__law_slid D__law_slid
  g__law_slid : mg "_law_slid" = some (.ref A__law_slid)
  b__law_slid : Binds K D__law_slid ["_law_p", "_law_v"] []
  A__law_mixed : Addr
  D__law_mixed : FuncData
  F__law_mixed : Fun K "_law_mixed" "_law_mixed" s__law_mixed A__law_mixed D__law_mixed
  g__law_mixed : mg "_law_mixed" = some (.ref A__law_mixed)
  b__law_mixed : Binds K D__law_mixed ["_law_ring", "_law_bag_here"] []
  A__law_fan : Addr
  D__law_fan : FuncData
  F__law_fan : Fun K "_law_fan" "_law_fan" s__law_fan A__law_fan D__law_fan
  g__law_fan : mg "_law_fan" = some (.ref A__law_fan)
  b__law_fan : Binds K D__law_fan ["_law_ring", "_law_bag_here"] []
  A__law_parted : Addr
  D__law_parted : FuncData
  F__law_parted : Fun K "_law_parted" "_law_parted" s__law_parted A__law_parted D__law_parted
  g__law_parted : mg "_law_parted" = some (.ref A__law_parted)
  b__law_parted : Binds K D__law_parted ["_law_rings", "_law_bag_here", "_law_many"] []
  A__law_spread : Addr
  D__law_spread : FuncData
  F__law_spread : Fun K "_law_spread" "_law_spread" s__law_spread A__law_spread D__law_spread
  g__law_spread : mg "_law_spread" = some (.ref A__law_spread)
  b__law_spread : Binds K D__law_spread ["_law_rings", "_law_bag_here", "_law_turning"] []
  A__law_turned : Addr
  D__law_turned : FuncData
  F__law_turned : Fun K "_law_turned" "_law_turned" s__law_turned A__law_turned D__law_turned
  g__law_turned : mg "_law_turned" = some (.ref A__law_turned)
  b__law_turned : Binds K D__law_turned ["_law_p"] []
  A__law_led : Addr
  D__law_led : FuncData
  F__law_led : Fun K "_law_led" "_law_led" s__law_led A__law_led D__law_led
  g__law_led : mg "_law_led" = some (.ref A__law_led)
  b__law_led : Binds K D__law_led ["_law_move", "_law_p"] []
  A__law_led_ring : Addr
  D__law_led_ring : FuncData
  F__law_led_ring : Fun K "_law_led_ring" "_law_led_ring" s__law_led_ring A__law_led_ring D__law_led_ring
  g__law_led_ring : mg "_law_led_ring" = some (.ref A__law_led_ring)
  b__law_led_ring : Binds K D__law_led_ring ["_law_move"] []
  A__law_middle : Addr
  D__law_middle : FuncData
  F__law_middle : Fun K "_law_middle" "_law_middle" s__law_middle A__law_middle D__law_middle
  g__law_middle : mg "_law_middle" = some (.ref A__law_middle)
  b__law_middle : Binds K D__law_middle ["_law_p", "_law_q"] []
  A__law_spoiled : Addr
  D__law_spoiled : FuncData
  F__law_spoiled : Fun K "_law_spoiled" "_law_spoiled" s__law_spoiled A__law_spoiled D__law_spoiled
  g__law_spoiled : mg "_law_spoiled" = some (.ref A__law_spoiled)
  b__law_spoiled : Binds K D__law_spoiled ["_law_moves", "_law_bag_here"] []
  A__law_copy : Addr
  D__law_copy : FuncData
  F__law_copy : Fun K "_law_copy" "_law_copy" s__law_copy A__law_copy D__law_copy
  g__law_copy : mg "_law_copy" = some (.ref A__law_copy)
  b__law_copy : Binds K D__law_copy ["_law_moves"] []
  A_crossed : Addr
  D_crossed : FuncData
  F_crossed : Fun K "crossed" "crossed" s_crossed A_crossed D_crossed
  g_crossed : mg "crossed" = some (.ref A_crossed)
  b_crossed : Binds K D_crossed ["p", "q"] []
  A_side : Addr
  D_side : FuncData
  F_side : Fun K "side" "side" s_side A_side D_side
  g_side : mg "side" = some (.ref A_side)
  b_side : Binds K D_side ["p", "q", "r"] []
  A_greatest_divisor : Addr
  D_greatest_divisor : FuncData
  F_greatest_divisor : Fun K "greatest_divisor" "greatest_divisor" s_greatest_divisor A_greatest_divisor D_greatest_divisor
  g_greatest_divisor : mg "greatest_divisor" = some (.ref A_greatest_divisor)
  b_greatest_divisor : Binds K D_greatest_divisor ["a", "b"] []
  A_ratio : Addr
  D_ratio : FuncData
  F_ratio : Fun K "ratio" "ratio" s_ratio A_ratio D_ratio
  g_ratio : mg "ratio" = some (.ref A_ratio)
  b_ratio : Binds K D_ratio ["top", "bottom"] []
  A_line_of : Addr
  D_line_of : FuncData
  F_line_of : Fun K "line_of" "line_of" s_line_of A_line_of D_line_of
  g_line_of : mg "line_of" = some (.ref A_line_of)
  b_line_of : Binds K D_line_of ["p", "q"] []
  A_count_sides : Addr
  D_count_sides : FuncData
  F_count_sides : Fun K "count_sides" "count_sides" s_count_sides A_count_sides D_count_sides
  g_count_sides : mg "count_sides" = some (.ref A_count_sides)
  b_count_sides : Binds K D_count_sides ["tally", "rings", "number"] []
  A_parts_cloth : Addr
  D_parts_cloth : FuncData
  F_parts_cloth : Fun K "parts_cloth" "parts_cloth" s_parts_cloth A_parts_cloth D_parts_cloth
  g_parts_cloth : mg "parts_cloth" = some (.ref A_parts_cloth)
  b_parts_cloth : Binds K D_parts_cloth ["rings", "cloth"] []
  A_turned : Addr
  D_turned : FuncData
  F_turned : Fun K "turned" "turned" s_turned A_turned D_turned
  g_turned : mg "turned" = some (.ref A_turned)
  b_turned : Binds K D_turned ["p"] []
  A_point : Addr
  D_point : FuncData
  F_point : Fun K "point" "point" s_point A_point D_point
  g_point : mg "point" = some (.ref A_point)
  b_point : Binds K D_point ["a", "b", "n"] []
  A_slid : Addr
  D_slid : FuncData
  F_slid : Fun K "slid" "slid" s_slid A_slid D_slid
  g_slid : mg "slid" = some (.ref A_slid)
  b_slid : Binds K D_slid ["p", "step"] []
  A_led_ring : Addr
  D_led_ring : FuncData
  F_led_ring : Fun K "led_ring" "led_ring" s_led_ring A_led_ring D_led_ring
  g_led_ring : mg "led_ring" = some (.ref A_led_ring)
  b_led_ring : Binds K D_led_ring ["move"] []
  A_is_plan : Addr
  D_is_plan : FuncData
  F_is_plan : Fun K "is_plan" "is_plan" s_is_plan A_is_plan D_is_plan
  g_is_plan : mg "is_plan" = some (.ref A_is_plan)
  b_is_plan : Binds K D_is_plan ["one", "other", "moves", "turning"] []
  A_law : Addr
  D_law : FuncData
  F_law : Fun K "law" "law" s_law A_law D_law
  g_law : mg "law" = some (.ref A_law)
  b_law : Binds K D_law ["_law_script"] []
  z_abs : mg "abs" = none
  z_all : mg "all" = none
  z_bool : mg "bool" = none
  z_enumerate : mg "enumerate" = none
  z_int : mg "int" = none
  z_isinstance : mg "isinstance" = none
  z_len : mg "len" = none
  z_list : mg "list" = none
  z_range : mg "range" = none
  z_tuple : mg "tuple" = none
section
variable {P : Program} {w : World} {K : PySem.W.Frag} {mg : Str → Option Value} {base : Heap}
abbrev sp__law_cell (K : PySem.W.Frag) : Sp := fun vs H Q _ => ∃ (X : Addr → Prop)  (a__law_script : (List Int)) (a__law_k : Int) (r : Int), m__law_cell a__law_script a__law_k = some r ∧ Cond K X H [.scr a__law_script, .imm (.int a__law_k)] vs ∧ ∀ H', Fin K X H [] [] (.imm (.int r)) (.int r) H' → Q (.int r) H'
theorem mk__law_cell {K : PySem.W.Frag} {X : Addr → Prop} {H : Hp} {vs : List V} {Q : VK} {E : XK}  {a__law_script : (List Int)} {a__law_k : Int} {r : Int} (hm : m__law_cell a__law_script a__law_k = some r) (c : Cond K X H [.scr a__law_script, .imm (.int a__law_k)] vs) (k : ∀ H', Fin K X H [] [] (.imm (.int r)) (.int r) H' → Q (.int r) H') : sp__law_cell K vs H Q E := ⟨X, a__law_script, a__law_k, r, hm, c, k⟩
abbrev n__law_cell : List Str := ["_law_script", "_law_k"]
theorem sc__law_cell : FnScope n__law_cell ["_law_script", "_law_k"] (defScope s__law_cell) := ⟨rfl, rfl, rfl, by decide +kernel, rfl, by decide +kernel, by decide +kernel⟩
theorem ok__law_cell (T : Txt K mg) : FnOk P w K mg base CX0 1 T.A__law_cell T.D__law_cell ["_law_script", "_law_k"] (sp__law_cell K) := by
  refine Fun.ok T.F__law_cell sc__law_cell (fun vs H Q E h => ?_) (fun cdv A outer s H vs Q E hr h => ?_)
  · obtain ⟨X, a__law_script, a__law_k, r, hm, c, kont⟩ := h
    exact c.len
  · obtain ⟨X, a__law_script, a__law_k, r, hm, c, kont⟩ := h
    refine ⟨_, (pss_cons (ps_if (pt_cmpR op_lt (pv 1) (pe_callB (r := rLenX K) call_lenX (by rfl) T.z_len (by decide +kernel) (pa_cons (pv 0) pa_nil)) (nomark _)) (pss_one (ps_ret (pe_ix (r := rIxL K) ix_list (pv 0) (pv 1) (fun _ _ => rfl)))) pss_nil)
      (pss_one (ps_ret pe_int))), ?_⟩
    have L0 : Lo ⟨K, X, H, muts [.scr a__law_script, .imm (.int a__law_k)], n__law_cell.length⟩ X H (L2.start n__law_cell vs) [.scr a__law_script, .imm (.int a__law_k)] := c.start n__law_cell (show (2 : Nat) ≤ 2 by decide)
    unfold m__law_cell at hm
    refine x_seq (x_ifS (x_test (x_op (x_vI (x := a__law_k) L0 rfl (x_cb (x_cons (x_vscr L0 rfl fun v1 r1 => x_nil (x_lenS r1 (x_r0 (x_kb (x_if hm (fun hm1 => ?_) fun hm1 => ?_)))))))))))
    · exact x_ret (x_op (x_vscr L0 rfl fun v2 r2 => x_vI (x := a__law_k) L0 rfl (x_ixS hm1 r2 fun x1 _ hm2 => x_finI (Q := Q) (ps := (fun (r : Int) => [])) (sc := fun (r : Int) => r) x1 hm2 kont (L0.fin hp0 (.int _)))))
    · refine x_next ?_
      exact x_ret (x_c (x_finI (Q := Q) (ps := (fun (r : Int) => [])) (sc := fun (r : Int) => r) 0 hm1 kont (L0.fin hp0 (.int _))))
abbrev sp__law_bag (K : PySem.W.Frag) : Sp := fun vs H Q _ => ∃ (X : Addr → Prop)  (a__law_cell_here : Int) (r : (List Int)), m__law_bag a__law_cell_here = some r ∧ Cond K X H [.imm (.int a__law_cell_here)] vs ∧ ∀ p H', Fin K X H [] [] (.new (ml (r : (List Int)))) (.ref p) H' → Q (.ref p) H'
theorem mk__law_bag {K : PySem.W.Frag} {X : Addr → Prop} {H : Hp} {vs : List V} {Q : VK} {E : XK}  {a__law_cell_here : Int} {r : (List Int)} (hm : m__law_bag a__law_cell_here = some r) (c : Cond K X H [.imm (.int a__law_cell_here)] vs) (k : ∀ p H', Fin K X H [] [] (.new (ml (r : (List Int)))) (.ref p) H' → Q (.ref p) H') : sp__law_bag K vs H Q E := ⟨X, a__law_cell_here, r, hm, c, k⟩
abbrev n__law_bag : List Str := ["_law_cell_here"]
theorem sc__law_bag : FnScope n__law_bag ["_law_cell_here"] (defScope s__law_bag) := ⟨rfl, rfl, rfl, by decide +kernel, rfl, by decide +kernel, by decide +kernel⟩
theorem ok__law_bag (T : Txt K mg) : FnOk P w K mg base CX0 1 T.A__law_bag T.D__law_bag ["_law_cell_here"] (sp__law_bag K) := by
  refine Fun.ok T.F__law_bag sc__law_bag (fun vs H Q E h => ?_) (fun cdv A outer s H vs Q E hr h => ?_)
  · obtain ⟨X, a__law_cell_here, r, hm, c, kont⟩ := h
    exact c.len
  · obtain ⟨X, a__law_cell_here, r, hm, c, kont⟩ := h
    refine ⟨_, (pss_one (ps_ret (pe_lst (pa_cons (pe_op op_mul (pv 0) (pe_callTy call_intX (by rfl) T.z_int (by decide +kernel) (pa_cons (pe_cmpR op_ge (pv 0) (pe_op op_pow pe_int pe_int) (nomark _)) pa_nil))) (pa_cons (pe_op op_mod (pv 0) pe_int) pa_nil))))), ?_⟩
    have L0 : Lo ⟨K, X, H, muts [.imm (.int a__law_cell_here)], n__law_bag.length⟩ X H (L2.start n__law_bag vs) [.imm (.int a__law_cell_here)] := c.start n__law_bag (show (1 : Nat) ≤ 1 by decide)
    unfold m__law_bag at hm
    exact x_ret (x_lst (x_cons (x_op (x_vI (x := a__law_cell_here) L0 rfl (x_cb (x_cons (x_op (x_vI (x := a__law_cell_here) L0 rfl (x_op (x_c (x_c (x_powc (n := 1000000000000000000) ⟨by decide, by decide, by decide⟩ (by decide +kernel) (x_r0 (x_nil (x_intb (x_mulR (b2_small _) (x_cons (x_op (x_vI (x := a__law_cell_here) L0 rfl (x_c (x_modc (by decide) (x_nil (x_mkN L0 (.cons (.int _) (.cons (.int _) .nil)) (show (2 : Nat) ≤ 16777216 by decide) fun p1 _ _ h01 hx1 L1 le1 => x_finP (Q := Q) (ps := (fun (r : (List Int)) => [])) (o := fun (r : (List Int)) => (ml (r : (List Int)))) (e := [(a__law_cell_here * (b2 ((decide (1000000000000000000 ≤ a__law_cell_here))))), (a__law_cell_here % 2147483647)]) hm kont (L1.finT (p := p1) (i := 1) (o := (ml ([(a__law_cell_here * (b2 ((decide (1000000000000000000 ≤ a__law_cell_here))))), (a__law_cell_here % 2147483647)] : (List Int)))) hp0 rfl h01))))))))))))))))))))))))
abbrev sp__law_digit (K : PySem.W.Frag) : Sp := fun vs H Q _ => ∃ (X : Addr → Prop) (p__law_bag_here : Addr) (a__law_bag_here : (List Int)) (a__law_many : Int) (r : (Int × (List Int))), m__law_digit a__law_bag_here a__law_many = some r ∧ Cond K X H [.mu p__law_bag_here (ml (a__law_bag_here : (List Int))), .imm (.int a__law_many)] vs ∧ ∀ H', Fin K X H [p__law_bag_here] [(p__law_bag_here, (ml (r.2 : (List Int))))] (.imm (.int r.1)) (.int r.1) H' → Q (.int r.1) H'
theorem mk__law_digit {K : PySem.W.Frag} {X : Addr → Prop} {H : Hp} {vs : List V} {Q : VK} {E : XK} {p__law_bag_here : Addr} {a__law_bag_here : (List Int)} {a__law_many : Int} {r : (Int × (List Int))} (hm : m__law_digit a__law_bag_here a__law_many = some r) (c : Cond K X H [.mu p__law_bag_here (ml (a__law_bag_here : (List Int))), .imm (.int a__law_many)] vs) (k : ∀ H', Fin K X H [p__law_bag_here] [(p__law_bag_here, (ml (r.2 : (List Int))))] (.imm (.int r.1)) (.int r.1) H' → Q (.int r.1) H') : sp__law_digit K vs H Q E := ⟨X, p__law_bag_here, a__law_bag_here, a__law_many, r, hm, c, k⟩
abbrev n__law_digit : List Str := ["_law_bag_here", "_law_many", "_law_found"]
theorem sc__law_digit : FnScope n__law_digit ["_law_bag_here", "_law_many"] (defScope s__law_digit) := ⟨rfl, rfl, rfl, by decide +kernel, rfl, by decide +kernel, by decide +kernel⟩
theorem ok__law_digit (T : Txt K mg) : FnOk P w K mg base CX0 1 T.A__law_digit T.D__law_digit ["_law_bag_here", "_law_many"] (sp__law_digit K) := by
  refine Fun.ok T.F__law_digit sc__law_digit (fun vs H Q E h => ?_) (fun cdv A outer s H vs Q E hr h => ?_)
  · obtain ⟨X, p__law_bag_here, a__law_bag_here, a__law_many, r, hm, c, kont⟩ := h
    exact c.len
  · obtain ⟨X, p__law_bag_here, a__law_bag_here, a__law_many, r, hm, c, kont⟩ := h
    refine ⟨_, (pss_cons (ps_if (pt_cmpR op_gt (pe_ix (r := rIxL K) ix_list (pv 0) pe_int (fun _ _ => rfl)) pe_int (nomark _)) (pss_cons (ps_set (i := 2) sc__law_digit.nd rfl (Or.inl rfl) (pe_op op_modN (pe_ix (r := rIxL K) ix_list (pv 0) pe_int (fun _ _ => rfl)) (pv 1)))
      (pss_cons (ps_asg (pe_op op_divG (pe_ix (r := rIxL K) ix_list (pv 0) pe_int (fun _ _ => rfl)) (pv 1)) (pg_sub (pv 0) pe_int set_list))
      (pss_one (ps_ret (pv 2))))) pss_nil)
      (pss_cons (ps_asg (pe_op op_mod (pe_op op_add (pe_op op_mul (pe_ix (r := rIxL K) ix_list (pv 0) pe_int (fun _ _ => rfl)) pe_int) pe_int) pe_int) (pg_sub (pv 0) pe_int set_list))
      (pss_one (ps_ret (pe_op op_modN (pe_op op_fdiv (pe_op op_mod (pe_op op_mul (pe_ix (r := rIxL K) ix_list (pv 0) pe_int (fun _ _ => rfl)) pe_int) pe_int) pe_int) (pv 1)))))), ?_⟩
    have L0 : Lo ⟨K, X, H, muts [.mu p__law_bag_here (ml (a__law_bag_here : (List Int))), .imm (.int a__law_many)], n__law_digit.length⟩ X H (L2.start n__law_digit vs) [.mu p__law_bag_here (ml (a__law_bag_here : (List Int))), .imm (.int a__law_many), .unk] := c.start n__law_digit (show (2 : Nat) ≤ 3 by decide)
    unfold m__law_digit at hm
    refine x_seq (x_ifS (x_test (x_op (x_op (x_vm L0 rfl (x_c (x_ixMI (xs := a__law_bag_here) (j := 0) L0 rfl hm fun x1 _ hm1 => x_c (x_r0 (x_kb (x_if hm1 (fun hm2 => ?_) fun hm2 => ?_))))))))))
    · refine x_seq (x_asg (x_op (x_op (x_vm L0 rfl (x_c (x_ixMI (xs := a__law_bag_here) (j := 0) L0 rfl hm2 fun x2 _ hm3 => x_vI (x := a__law_many) L0 rfl (x_mod hm3 fun z1 _ hm4 => x_set (d := (.int z1)) (Γ' := [.mu p__law_bag_here (ml (a__law_bag_here : (List Int))), .imm (.int a__law_many), .imm (.int z1)]) L0 (.int _) (show (2 : Nat) < 3 by decide) rfl fun _ L1 => ?_)))))))
      refine x_seq (x_asg (x_op (x_op (x_vm L1 rfl (x_c (x_ixMI (xs := a__law_bag_here) (j := 0) L1 rfl hm4 fun x3 _ hm5 => x_vI (x := a__law_many) L1 rfl (x_div hm5 fun z2 _ hm6 => x_gSub (x_vm L1 rfl (x_c (x_setI (xs := a__law_bag_here) (x := z2) (j := 0) L1 rfl hm6 (.int _) fun y1 _ _ hm7 L2 => have L3 : Lo _ _ _ _ [.mu p__law_bag_here (ml (y1 : (List Int))), .imm (.int a__law_many), .imm (.int z1)] := L2; ?_))))))))))
      exact x_ret (x_vI (x := z1) L3 rfl (x_finI (Q := Q) (ps := (fun (r : (Int × (List Int))) => [(p__law_bag_here, (ml (r.2 : (List Int))))])) (sc := fun (r : (Int × (List Int))) => r.1) ((z1, y1)) hm7 kont (L3.fin (hp1 (L3.mrep (i := 0) rfl)) (.int _))))
    · refine x_next ?_
      refine x_seq (x_asg (x_op (x_op (x_op (x_op (x_vm L0 rfl (x_c (x_ixMI (xs := a__law_bag_here) (j := 0) L0 rfl hm2 fun x4 _ hm8 => x_c (x_mulR (by decide) (x_c (x_r0 (x_c (x_modc (by decide) (x_gSub (x_vm L0 rfl (x_c (x_setI (xs := a__law_bag_here) (x := (((x4 * 48271) + 11) % 2147483647)) (j := 0) L0 rfl hm8 (.int _) fun y2 _ _ hm9 L4 => have L5 : Lo _ _ _ _ [.mu p__law_bag_here (ml (y2 : (List Int))), .imm (.int a__law_many), .unk] := L4; ?_)))))))))))))))))
      exact x_ret (x_op (x_op (x_op (x_op (x_op (x_vm L5 rfl (x_c (x_ixMI (xs := y2) (j := 0) L5 rfl hm9 fun x5 _ hm10 => x_c (x_mulR (by decide) (x_c (x_modc (by decide) (x_c (x_divc ⟨by decide, by decide⟩ (x_vI (x := a__law_many) L5 rfl (x_mod hm10 fun z3 _ hm11 => x_finI (Q := Q) (ps := (fun (r : (Int × (List Int))) => [(p__law_bag_here, (ml (r.2 : (List Int))))])) (sc := fun (r : (Int × (List Int))) => r.1) ((z3, y2)) hm11 kont (L5.fin (hp1 (L5.mrep (i := 0) rfl)) (.int _)))))))))))))))))
abbrev sp__law_point (K : PySem.W.Frag) : Sp := fun vs H Q _ => ∃ (X : Addr → Prop)  (a__law_a : Int) (a__law_b : Int) (a__law_n : Int) (r : (T3 Int Int Int)), m__law_point a__law_a a__law_b a__law_n = some r ∧ Cond K X H [.imm (.int a__law_a), .imm (.int a__law_b), .imm (.int a__law_n)] vs ∧ ∀ v H', Fin K X H [] [] (.imm (enc (r : (T3 Int Int Int)))) v H' → Q v H'
theorem mk__law_point {K : PySem.W.Frag} {X : Addr → Prop} {H : Hp} {vs : List V} {Q : VK} {E : XK}  {a__law_a : Int} {a__law_b : Int} {a__law_n : Int} {r : (T3 Int Int Int)} (hm : m__law_point a__law_a a__law_b a__law_n = some r) (c : Cond K X H [.imm (.int a__law_a), .imm (.int a__law_b), .imm (.int a__law_n)] vs) (k : ∀ v H', Fin K X H [] [] (.imm (enc (r : (T3 Int Int Int)))) v H' → Q v H') : sp__law_point K vs H Q E := ⟨X, a__law_a, a__law_b, a__law_n, r, hm, c, k⟩
abbrev n__law_point : List Str := ["_law_a", "_law_b", "_law_n", "_law_one", "_law_other", "_law_rest"]
theorem sc__law_point : FnScope n__law_point ["_law_a", "_law_b", "_law_n"] (defScope s__law_point) := ⟨rfl, rfl, rfl, by decide +kernel, rfl, by decide +kernel, by decide +kernel⟩
theorem ok__law_point (T : Txt K mg) : FnOk P w K mg base CX0 1 T.A__law_point T.D__law_point ["_law_a", "_law_b", "_law_n"] (sp__law_point K) := by
  refine Fun.ok T.F__law_point sc__law_point (fun vs H Q E h => ?_) (fun cdv A outer s H vs Q E hr h => ?_)
  · obtain ⟨X, a__law_a, a__law_b, a__law_n, r, hm, c, kont⟩ := h
    exact c.len
  · obtain ⟨X, a__law_a, a__law_b, a__law_n, r, hm, c, kont⟩ := h
    refine ⟨_, (pss_cons (ps_set (i := 3) sc__law_point.nd rfl (Or.inl rfl) (pe_callB call_absX (by rfl) T.z_abs (by decide +kernel) (pa_cons (pv 0) pa_nil)))
      (pss_cons (ps_for PassesOwn.never rfl (pi_list (pe_lst (pa_cons (pe_callB call_absX (by rfl) T.z_abs (by decide +kernel) (pa_cons (pv 1) pa_nil)) (pa_cons (pv 2) pa_nil)))) (pg_name (i := 4) sc__law_point.nd rfl (Or.inl rfl)) (pss_one (ps_while PassesOwn.never (pt_cmpR op_gt (pv 4) pe_int (nomark _)) (pss_cons (ps_set (i := 5) sc__law_point.nd rfl (Or.inl rfl) (pe_op op_modN (pv 3) (pv 4)))
      (pss_cons (ps_set (i := 3) sc__law_point.nd rfl (Or.inl rfl) (pv 4))
      (pss_one (ps_set (i := 4) sc__law_point.nd rfl (Or.inl rfl) (pv 5))))))))
      (pss_one (ps_ret (pe_tup (pa_cons (pe_op op_divG (pv 0) (pv 3)) (pa_cons (pe_op op_divG (pv 1) (pv 3)) (pa_cons (pe_op op_divG (pv 2) (pv 3)) pa_nil)))))))), ?_⟩
    have L0 : Lo ⟨K, X, H, muts [.imm (.int a__law_a), .imm (.int a__law_b), .imm (.int a__law_n)], n__law_point.length⟩ X H (L2.start n__law_point vs) [.imm (.int a__law_a), .imm (.int a__law_b), .imm (.int a__law_n), .unk, .unk, .unk] := c.start n__law_point (show (3 : Nat) ≤ 6 by decide)
    unfold m__law_point at hm
    refine x_seq (x_asg (x_cb (x_cons (x_vI (x := a__law_a) L0 rfl (x_nil (x_abs (x_bset (x0 := (iabs a__law_a)) (d := fun one_1 => (.int one_1)) (Γf := fun one_1 => [.imm (.int a__law_a), .imm (.int a__law_b), .imm (.int a__law_n), .imm (.int one_1), .unk, .unk]) hm L0 (.int _) (show (3 : Nat) < 6 by decide) (fun _ => rfl) fun one_1 _ hm1 L1 => ?_)))))))
    refine x_seq (x_tforL (x_lst (x_cons (x_cb (x_cons (x_vI (x := a__law_b) L1 rfl (x_nil (x_abs (x_cons (x_vI (x := a__law_n) L1 rfl (x_nil (x_mkL L1 (.cons (.int _) (.cons (.int _) .nil)) (show (2 : Nat) ≤ 16777216 by decide) fun v1 _ L2 le1 r1 => have r2 : Rep _ _ _ (enc ([(iabs a__law_b), a__law_n] : (List Int))) v1 := r1; x_foL (G := (fun (s1 : Int) => [.imm (.int a__law_a), .imm (.int a__law_b), .imm (.int a__law_n), .imm (.int s1), .unk, .unk])) (s0 := one_1) (xs := [(iabs a__law_b), a__law_n]) (L2.weak (Γ' := [.imm (.int a__law_a), .imm (.int a__law_b), .imm (.int a__law_n), .imm (.int one_1), .unk, .unk]) (.k (.k (.k (.k (.k (.k .e))))))) (fun _ _ => rfl) r2 hm1 (fun x1 s1 H1 _ u1 _ _ _ _ _ hm2 L3 r3 hN1 hC1 => ?_) (fun s2 _ _ hm3 L4 => ?_)))))))))))))
    · refine x_set (d := (.int x1)) (Γ' := [.imm (.int a__law_a), .imm (.int a__law_b), .imm (.int a__law_n), .imm (.int s1), .imm (.int x1), .unk]) L3 r3 (show (4 : Nat) < 6 by decide) rfl fun _ L5 => ?_
      refine x_wh (n := x1.natAbs + 2) (G := (fun (s3 : (Int × Int)) => [.imm (.int a__law_a), .imm (.int a__law_b), .imm (.int a__law_n), .imm (.int s3.1), .imm (.int s3.2), .unk])) (s0 := (s1, x1)) (ρ := Empty) (ps := fun _ => []) (rs := fun _ => .imm .none) (L5.weak (Γ' := [.imm (.int a__law_a), .imm (.int a__law_b), .imm (.int a__law_n), .imm (.int s1), .imm (.int x1), .unk]) (.k (.k (.k (.k (.k (.k .e))))))) (fun _ _ => rfl) hm2 (fun s3 H2 _ _ _ _ _ _ hm5 L6 hN2 hC2 hB2 hR2 _ hQ1 => ?_) (fun s4 _ _ hm6 L7 => ?_) (fun q => q.elim)
      · refine x_test (x_op (x_vI (x := s3.2) L6 rfl (x_c (x_r0 (x_kb (hQ1 _ _ (x_whIf hm5 (fun hm8 => ?_) fun hm8 => ?_)))))))
        · refine x_seq (x_asg (x_op (x_vI (x := s3.1) L6 rfl (x_vI (x := s3.2) L6 rfl (x_mod hm8 fun z1 _ hm9 => x_set (d := (.int z1)) (Γ' := [.imm (.int a__law_a), .imm (.int a__law_b), .imm (.int a__law_n), .imm (.int s3.1), .imm (.int s3.2), .imm (.int z1)]) L6 (.int _) (show (5 : Nat) < 6 by decide) rfl fun _ L8 => ?_)))))
          refine x_seq (x_asg (x_vI (x := s3.2) L8 rfl (x_set (d := (.int s3.2)) (Γ' := [.imm (.int a__law_a), .imm (.int a__law_b), .imm (.int a__law_n), .imm (.int s3.2), .imm (.int s3.2), .imm (.int z1)]) L8 (.int _) (show (3 : Nat) < 6 by decide) rfl fun _ L9 => ?_)))
          refine x_asg (x_vI (x := z1) L9 rfl (x_set (d := (.int z1)) (Γ' := [.imm (.int a__law_a), .imm (.int a__law_b), .imm (.int a__law_n), .imm (.int s3.2), .imm (.int z1), .imm (.int z1)]) L9 (.int _) (show (4 : Nat) < 6 by decide) rfl fun _ L10 => ?_))
          exact x_leafN (G := (fun (s3 : (Int × Int)) => [.imm (.int a__law_a), .imm (.int a__law_b), .imm (.int a__law_n), .imm (.int s3.1), .imm (.int s3.2), .unk])) (e := (s3.2, z1)) hm9 hN2 (L10.weak (Γ' := [.imm (.int a__law_a), .imm (.int a__law_b), .imm (.int a__law_n), .imm (.int s3.2), .imm (.int z1), .unk]) (.k (.k (.k (.k (.k (.d .e)))))))
        · exact x_leafB (G := (fun (s3 : (Int × Int)) => [.imm (.int a__law_a), .imm (.int a__law_b), .imm (.int a__law_n), .imm (.int s3.1), .imm (.int s3.2), .unk])) (e := (s3.1, s3.2)) hm8 hB2 (L6.weak (Γ' := [.imm (.int a__law_a), .imm (.int a__law_b), .imm (.int a__law_n), .imm (.int s3.1), .imm (.int s3.2), .unk]) (.k (.k (.k (.k (.k (.k .e)))))))
      exact x_leaf (G := (fun (s1 : Int) => [.imm (.int a__law_a), .imm (.int a__law_b), .imm (.int a__law_n), .imm (.int s1), .unk, .unk])) (e := s4.1) hm6 hN1 (L7.weak (Γ' := [.imm (.int a__law_a), .imm (.int a__law_b), .imm (.int a__law_n), .imm (.int s4.1), .unk, .unk]) (.k (.k (.k (.k (.d (.k .e)))))))
    exact x_ret (x_tup (x_cons (x_op (x_vI (x := a__law_a) L4 rfl (x_vI (x := s2) L4 rfl (x_div hm3 fun z2 _ hm10 => x_cons (x_op (x_vI (x := a__law_b) L4 rfl (x_vI (x := s2) L4 rfl (x_div hm10 fun z3 _ hm11 => x_cons (x_op (x_vI (x := a__law_n) L4 rfl (x_vI (x := s2) L4 rfl (x_div hm11 fun z4 _ hm12 => x_nil (x_mkT L4 (.cons (.int _) (.cons (.int _) (.cons (.int _) .nil))) (show (3 : Nat) ≤ 16777216 by decide) fun v2 _ L11 le2 r5 => have r6 : Rep _ _ _ (enc ((T3.mk z2 z3 z4) : (T3 Int Int Int))) v2 := r5; x_fin (Q := Q) (ps := (fun (r : (T3 Int Int Int)) => [])) (rs := (fun (r : (T3 Int Int Int)) => (.imm (enc (r : (T3 Int Int Int)))))) (e := (T3.mk z2 z3 z4)) hm12 kont (L11.fin hp0 r6))))))))))))))))
abbrev sp__law_place (K : PySem.W.Frag) : Sp := fun vs H Q _ => ∃ (X : Addr → Prop) (p__law_bag_here : Addr) (a__law_bag_here : (List Int)) (a__law_most : Int) (r : ((T3 Int Int Int) × (List Int))), m__law_place a__law_bag_here a__law_most = some r ∧ Cond K X H [.mu p__law_bag_here (ml (a__law_bag_here : (List Int))), .imm (.int a__law_most)] vs ∧ ∀ v H', Fin K X H [p__law_bag_here] [(p__law_bag_here, (ml (r.2 : (List Int))))] (.imm (enc (r.1 : (T3 Int Int Int)))) v H' → Q v H'
theorem mk__law_place {K : PySem.W.Frag} {X : Addr → Prop} {H : Hp} {vs : List V} {Q : VK} {E : XK} {p__law_bag_here : Addr} {a__law_bag_here : (List Int)} {a__law_most : Int} {r : ((T3 Int Int Int) × (List Int))} (hm : m__law_place a__law_bag_here a__law_most = some r) (c : Cond K X H [.mu p__law_bag_here (ml (a__law_bag_here : (List Int))), .imm (.int a__law_most)] vs) (k : ∀ v H', Fin K X H [p__law_bag_here] [(p__law_bag_here, (ml (r.2 : (List Int))))] (.imm (enc (r.1 : (T3 Int Int Int)))) v H' → Q v H') : sp__law_place K vs H Q E := ⟨X, p__law_bag_here, a__law_bag_here, a__law_most, r, hm, c, k⟩
abbrev n__law_place : List Str := ["_law_bag_here", "_law_most", "_law_n"]
theorem sc__law_place : FnScope n__law_place ["_law_bag_here", "_law_most"] (defScope s__law_place) := ⟨rfl, rfl, rfl, by decide +kernel, rfl, by decide +kernel, by decide +kernel⟩
theorem ok__law_place (T : Txt K mg) : FnOk P w K mg base CX0 2 T.A__law_place T.D__law_place ["_law_bag_here", "_law_most"] (sp__law_place K) := by
  refine Fun.ok T.F__law_place sc__law_place (fun vs H Q E h => ?_) (fun cdv A outer s H vs Q E hr h => ?_)
  · obtain ⟨X, p__law_bag_here, a__law_bag_here, a__law_most, r, hm, c, kont⟩ := h
    exact c.len
  · obtain ⟨X, p__law_bag_here, a__law_bag_here, a__law_most, r, hm, c, kont⟩ := h
    refine ⟨_, (pss_cons (ps_set (i := 2) sc__law_place.nd rfl (Or.inl rfl) (pe_ix (r := rIxL K) ix_list (pe_lst (pa_cons pe_int (pa_cons pe_int (pa_cons pe_int (pa_cons pe_int (pa_cons pe_int pa_nil)))))) (pe_call (ok__law_digit T) hr (by rfl) T.g__law_digit T.F__law_digit.kp T.b__law_digit .nil pass0 (pa_cons (pv 0) (pa_cons pe_int pa_nil))) (fun _ _ => rfl)))
      (pss_one (ps_ret (pe_call (ok__law_point T) hr (by rfl) T.g__law_point T.F__law_point.kp T.b__law_point .nil pass0 (pa_cons (pe_call (ok__law_digit T) hr (by rfl) T.g__law_digit T.F__law_digit.kp T.b__law_digit .nil pass0 (pa_cons (pv 0) (pa_cons (pe_op op_add (pe_op op_mulW (pv 1) (pv 2)) pe_int) pa_nil))) (pa_cons (pe_call (ok__law_digit T) hr (by rfl) T.g__law_digit T.F__law_digit.kp T.b__law_digit .nil pass0 (pa_cons (pv 0) (pa_cons (pe_op op_add (pe_op op_mulW (pv 1) (pv 2)) pe_int) pa_nil))) (pa_cons (pv 2) pa_nil))))))), ?_⟩
    have L0 : Lo ⟨K, X, H, muts [.mu p__law_bag_here (ml (a__law_bag_here : (List Int))), .imm (.int a__law_most)], n__law_place.length⟩ X H (L2.start n__law_place vs) [.mu p__law_bag_here (ml (a__law_bag_here : (List Int))), .imm (.int a__law_most), .unk] := c.start n__law_place (show (2 : Nat) ≤ 3 by decide)
    unfold m__law_place at hm
    refine x_seq (x_asg (x_op (x_lst (x_cons (x_c (x_cons (x_c (x_cons (x_c (x_cons (x_c (x_cons (x_c (x_nil (x_mkL L0 (.cons (.int _) (.cons (.int _) (.cons (.int _) (.cons (.int _) (.cons (.int _) .nil))))) (show (5 : Nat) ≤ 16777216 by decide) fun v1 _ L1 le1 r1 => have r2 : Rep _ _ _ (enc ([1, 1, 1, 2, 3] : (List Int))) v1 := r1; x_call (x_cons (x_vm L1 rfl (x_cons (x_c (x_nil (obE hm fun z1 hz1 hm1 => mk__law_digit hz1 (L1.cond1 (i := 0) (.m (L1.mrep (i := 0) rfl) (.im (.int _) .nil)) rfl rfl rfl) fun _ F1 => k1 L1 F1 (i := 0) (Γ' := [.mu p__law_bag_here (ml (z1.2 : (List Int))), .imm (.int a__law_most), .unk]) rfl rfl rfl fun L2 le2 => have r3 := le2 _ _ r2; x_ixLI (xs := [1, 1, 1, 2, 3]) hm1 r3 fun x1 _ hm2 => x_set (d := (.int x1)) (Γ' := [.mu p__law_bag_here (ml (z1.2 : (List Int))), .imm (.int a__law_most), .imm (.int x1)]) L2 (.int _) (show (2 : Nat) < 3 by decide) rfl fun _ L3 => ?_)))))))))))))))))))))
    exact x_ret (x_call (x_cons (x_call (x_cons (x_vm L3 rfl (x_cons (x_op (x_op (x_vI (x := a__law_most) L3 rfl (x_vI (x := x1) L3 rfl (x_mul hm2 fun z2 _ hm3 => x_c (x_r0 (x_nil (obE hm3 fun z3 hz2 hm4 => mk__law_digit hz2 (L3.cond1 (i := 0) (.m (L3.mrep (i := 0) rfl) (.im (.int _) .nil)) rfl rfl rfl) fun _ F2 => k1 L3 F2 (i := 0) (Γ' := [.mu p__law_bag_here (ml (z3.2 : (List Int))), .imm (.int a__law_most), .imm (.int x1)]) rfl rfl rfl fun L4 le3 => x_cons (x_call (x_cons (x_vm L4 rfl (x_cons (x_op (x_op (x_vI (x := a__law_most) L4 rfl (x_vI (x := x1) L4 rfl (x_mul hm4 fun z4 _ hm5 => x_c (x_r0 (x_nil (obE hm5 fun z5 hz3 hm6 => mk__law_digit hz3 (L4.cond1 (i := 0) (.m (L4.mrep (i := 0) rfl) (.im (.int _) .nil)) rfl rfl rfl) fun _ F3 => k1 L4 F3 (i := 0) (Γ' := [.mu p__law_bag_here (ml (z5.2 : (List Int))), .imm (.int a__law_most), .imm (.int x1)]) rfl rfl rfl fun L5 le4 => x_cons (x_vI (x := x1) L5 rfl (x_nil (obE hm6 fun z6 hz4 hm7 => mk__law_point hz4 (L5.cond0 (.im (.int _) (.im (.int _) (.im (.int _) .nil))) rfl) fun v5 _ F4 => k0d L5 F4 fun L6 le5 r4 => x_fin (Q := Q) (ps := (fun (r : ((T3 Int Int Int) × (List Int))) => [(p__law_bag_here, (ml (r.2 : (List Int))))])) (rs := (fun (r : ((T3 Int Int Int) × (List Int))) => (.imm (enc (r.1 : (T3 Int Int Int)))))) (e := (z6, z5.2)) hm7 kont (L6.fin (hp1 (L6.mrep (i := 0) rfl)) r4))))))))))))))))))))))))))))))
abbrev sp__law_side (K : PySem.W.Frag) : Sp := fun vs H Q _ => ∃ (X : Addr → Prop)  (a__law_p : (T3 Int Int Int)) (a__law_q : (T3 Int Int Int)) (a__law_r : (T3 Int Int Int)) (r : Int), m__law_side a__law_p a__law_q a__law_r = some r ∧ Cond K X H [.imm (enc (a__law_p : (T3 Int Int Int))), .imm (enc (a__law_q : (T3 Int Int Int))), .imm (enc (a__law_r : (T3 Int Int Int)))] vs ∧ ∀ H', Fin K X H [] [] (.imm (.int r)) (.int r) H' → Q (.int r) H'
theorem mk__law_side {K : PySem.W.Frag} {X : Addr → Prop} {H : Hp} {vs : List V} {Q : VK} {E : XK}  {a__law_p : (T3 Int Int Int)} {a__law_q : (T3 Int Int Int)} {a__law_r : (T3 Int Int Int)} {r : Int} (hm : m__law_side a__law_p a__law_q a__law_r = some r) (c : Cond K X H [.imm (enc (a__law_p : (T3 Int Int Int))), .imm (enc (a__law_q : (T3 Int Int Int))), .imm (enc (a__law_r : (T3 Int Int Int)))] vs) (k : ∀ H', Fin K X H [] [] (.imm (.int r)) (.int r) H' → Q (.int r) H') : sp__law_side K vs H Q E := ⟨X, a__law_p, a__law_q, a__law_r, r, hm, c, k⟩
abbrev n__law_side : List Str := ["_law_p", "_law_q", "_law_r", "_law_found"]
theorem sc__law_side : FnScope n__law_side ["_law_p", "_law_q", "_law_r"] (defScope s__law_side) := ⟨rfl, rfl, rfl, by decide +kernel, rfl, by decide +kernel, by decide +kernel⟩
theorem ok__law_side (T : Txt K mg) : FnOk P w K mg base CX0 1 T.A__law_side T.D__law_side ["_law_p", "_law_q", "_law_r"] (sp__law_side K) := by
  refine Fun.ok T.F__law_side sc__law_side (fun vs H Q E h => ?_) (fun cdv A outer s H vs Q E hr h => ?_)
  · obtain ⟨X, a__law_p, a__law_q, a__law_r, r, hm, c, kont⟩ := h
    exact c.len
  · obtain ⟨X, a__law_p, a__law_q, a__law_r, r, hm, c, kont⟩ := h
    refine ⟨_, (pss_cons (ps_set (i := 3) sc__law_side.nd rfl (Or.inl rfl) (pe_op op_mulW (pe_ix (r := rIxT K) ix_tup (pv 0) pe_int (fun _ _ => rfl)) (pe_op op_sub (pe_op op_mulW (pe_ix (r := rIxT K) ix_tup (pv 1) pe_int (fun _ _ => rfl)) (pe_ix (r := rIxT K) ix_tup (pv 2) pe_int (fun _ _ => rfl))) (pe_op op_mulW (pe_ix (r := rIxT K) ix_tup (pv 1) pe_int (fun _ _ => rfl)) (pe_ix (r := rIxT K) ix_tup (pv 2) pe_int (fun _ _ => rfl))))))
      (pss_cons (ps_set (i := 3) sc__law_side.nd rfl (Or.inl rfl) (pe_op op_sub (pv 3) (pe_op op_mulW (pe_ix (r := rIxT K) ix_tup (pv 0) pe_int (fun _ _ => rfl)) (pe_op op_sub (pe_op op_mulW (pe_ix (r := rIxT K) ix_tup (pv 1) pe_int (fun _ _ => rfl)) (pe_ix (r := rIxT K) ix_tup (pv 2) pe_int (fun _ _ => rfl))) (pe_op op_mulW (pe_ix (r := rIxT K) ix_tup (pv 1) pe_int (fun _ _ => rfl)) (pe_ix (r := rIxT K) ix_tup (pv 2) pe_int (fun _ _ => rfl)))))))
      (pss_cons (ps_set (i := 3) sc__law_side.nd rfl (Or.inl rfl) (pe_op op_add (pv 3) (pe_op op_mulW (pe_ix (r := rIxT K) ix_tup (pv 0) pe_int (fun _ _ => rfl)) (pe_op op_sub (pe_op op_mulW (pe_ix (r := rIxT K) ix_tup (pv 1) pe_int (fun _ _ => rfl)) (pe_ix (r := rIxT K) ix_tup (pv 2) pe_int (fun _ _ => rfl))) (pe_op op_mulW (pe_ix (r := rIxT K) ix_tup (pv 1) pe_int (fun _ _ => rfl)) (pe_ix (r := rIxT K) ix_tup (pv 2) pe_int (fun _ _ => rfl)))))))
      (pss_one (ps_ret (pe_op op_sub (pe_callTy call_intX (by rfl) T.z_int (by decide +kernel) (pa_cons (pe_cmpR op_gt (pv 3) pe_int (nomark _)) pa_nil)) (pe_callTy call_intX (by rfl) T.z_int (by decide +kernel) (pa_cons (pe_cmpR op_lt (pv 3) pe_int (nomark _)) pa_nil)))))))), ?_⟩
    have L0 : Lo ⟨K, X, H, muts [.imm (enc (a__law_p : (T3 Int Int Int))), .imm (enc (a__law_q : (T3 Int Int Int))), .imm (enc (a__law_r : (T3 Int Int Int)))], n__law_side.length⟩ X H (L2.start n__law_side vs) [.imm (enc (a__law_p : (T3 Int Int Int))), .imm (enc (a__law_q : (T3 Int Int Int))), .imm (enc (a__law_r : (T3 Int Int Int))), .unk] := c.start n__law_side (show (3 : Nat) ≤ 4 by decide)
    unfold m__law_side at hm
    refine x_seq (x_asg (x_op (x_op (x_vd (d := (enc (a__law_p : (T3 Int Int Int)))) L0 rfl fun v1 r1 => x_c (x_ixTI (x := a__law_p.a) r1 rfl (x_op (x_op (x_op (x_vd (d := (enc (a__law_q : (T3 Int Int Int)))) L0 rfl fun v2 r2 => x_c (x_ixTI (x := a__law_q.b) r2 rfl (x_op (x_vd (d := (enc (a__law_r : (T3 Int Int Int)))) L0 rfl fun v3 r3 => x_c (x_ixTI (x := a__law_r.c) r3 rfl (x_mul hm fun z1 _ hm1 => x_op (x_op (x_vd (d := (enc (a__law_q : (T3 Int Int Int)))) L0 rfl fun v4 r4 => x_c (x_ixTI (x := a__law_q.c) r4 rfl (x_op (x_vd (d := (enc (a__law_r : (T3 Int Int Int)))) L0 rfl fun v5 r5 => x_c (x_ixTI (x := a__law_r.b) r5 rfl (x_mul hm1 fun z2 _ hm2 => x_r0 (x_mul hm2 fun z3 _ hm3 => x_set (d := (.int z3)) (Γ' := [.imm (enc (a__law_p : (T3 Int Int Int))), .imm (enc (a__law_q : (T3 Int Int Int))), .imm (enc (a__law_r : (T3 Int Int Int))), .imm (.int z3)]) L0 (.int _) (show (3 : Nat) < 4 by decide) rfl fun _ L1 => ?_))))))))))))))))))))))
    refine x_seq (x_asg (x_op (x_vI (x := z3) L1 rfl (x_op (x_op (x_vd (d := (enc (a__law_p : (T3 Int Int Int)))) L1 rfl fun v6 r6 => x_c (x_ixTI (x := a__law_p.b) r6 rfl (x_op (x_op (x_op (x_vd (d := (enc (a__law_q : (T3 Int Int Int)))) L1 rfl fun v7 r7 => x_c (x_ixTI (x := a__law_q.a) r7 rfl (x_op (x_vd (d := (enc (a__law_r : (T3 Int Int Int)))) L1 rfl fun v8 r8 => x_c (x_ixTI (x := a__law_r.c) r8 rfl (x_mul hm3 fun z4 _ hm4 => x_op (x_op (x_vd (d := (enc (a__law_q : (T3 Int Int Int)))) L1 rfl fun v9 r9 => x_c (x_ixTI (x := a__law_q.c) r9 rfl (x_op (x_vd (d := (enc (a__law_r : (T3 Int Int Int)))) L1 rfl fun v10 r10 => x_c (x_ixTI (x := a__law_r.a) r10 rfl (x_mul hm4 fun z5 _ hm5 => x_r0 (x_mul hm5 fun z6 _ hm6 => x_r0 (x_bset (x0 := (z3 - z6)) (d := fun found_1 => (.int found_1)) (Γf := fun found_1 => [.imm (enc (a__law_p : (T3 Int Int Int))), .imm (enc (a__law_q : (T3 Int Int Int))), .imm (enc (a__law_r : (T3 Int Int Int))), .imm (.int found_1)]) hm6 L1 (.int _) (show (3 : Nat) < 4 by decide) (fun _ => rfl) fun found_1 _ hm7 L2 => ?_)))))))))))))))))))))))))
    refine x_seq (x_asg (x_op (x_vI (x := found_1) L2 rfl (x_op (x_op (x_vd (d := (enc (a__law_p : (T3 Int Int Int)))) L2 rfl fun v11 r11 => x_c (x_ixTI (x := a__law_p.c) r11 rfl (x_op (x_op (x_op (x_vd (d := (enc (a__law_q : (T3 Int Int Int)))) L2 rfl fun v12 r12 => x_c (x_ixTI (x := a__law_q.a) r12 rfl (x_op (x_vd (d := (enc (a__law_r : (T3 Int Int Int)))) L2 rfl fun v13 r13 => x_c (x_ixTI (x := a__law_r.b) r13 rfl (x_mul hm7 fun z7 _ hm8 => x_op (x_op (x_vd (d := (enc (a__law_q : (T3 Int Int Int)))) L2 rfl fun v14 r14 => x_c (x_ixTI (x := a__law_q.b) r14 rfl (x_op (x_vd (d := (enc (a__law_r : (T3 Int Int Int)))) L2 rfl fun v15 r15 => x_c (x_ixTI (x := a__law_r.a) r15 rfl (x_mul hm8 fun z8 _ hm9 => x_r0 (x_mul hm9 fun z9 _ hm10 => x_r0 (x_bset (x0 := (found_1 + z9)) (d := fun found_2 => (.int found_2)) (Γf := fun found_2 => [.imm (enc (a__law_p : (T3 Int Int Int))), .imm (enc (a__law_q : (T3 Int Int Int))), .imm (enc (a__law_r : (T3 Int Int Int))), .imm (.int found_2)]) hm10 L2 (.int _) (show (3 : Nat) < 4 by decide) (fun _ => rfl) fun found_2 _ hm11 L3 => ?_)))))))))))))))))))))))))
    exact x_ret (x_op (x_cb (x_cons (x_op (x_vI (x := found_2) L3 rfl (x_c (x_r0 (x_nil (x_intb (x_cb (x_cons (x_op (x_vI (x := found_2) L3 rfl (x_c (x_r0 (x_nil (x_intb (x_r0 (x_finI (Q := Q) (ps := (fun (r : Int) => [])) (sc := fun (r : Int) => r) (((b2 ((decide (0 < found_2)))) - (b2 ((decide (found_2 < 0)))))) hm11 kont (L3.fin hp0 (.int _)))))))))))))))))))))
abbrev sp__law_three (K : PySem.W.Frag) : Sp := fun vs H Q _ => ∃ (X : Addr → Prop) (p__law_bag_here : Addr) (a__law_bag_here : (List Int)) (a__law_most : Int) (r : ((List (T3 Int Int Int)) × (List Int))), m__law_three a__law_bag_here a__law_most = some r ∧ Cond K X H [.mu p__law_bag_here (ml (a__law_bag_here : (List Int))), .imm (.int a__law_most)] vs ∧ ∀ v H', Fin K X H [p__law_bag_here] [(p__law_bag_here, (ml (r.2 : (List Int))))] (.imm (enc (r.1 : (List (T3 Int Int Int))))) v H' → Q v H'
theorem mk__law_three {K : PySem.W.Frag} {X : Addr → Prop} {H : Hp} {vs : List V} {Q : VK} {E : XK} {p__law_bag_here : Addr} {a__law_bag_here : (List Int)} {a__law_most : Int} {r : ((List (T3 Int Int Int)) × (List Int))} (hm : m__law_three a__law_bag_here a__law_most = some r) (c : Cond K X H [.mu p__law_bag_here (ml (a__law_bag_here : (List Int))), .imm (.int a__law_most)] vs) (k : ∀ v H', Fin K X H [p__law_bag_here] [(p__law_bag_here, (ml (r.2 : (List Int))))] (.imm (enc (r.1 : (List (T3 Int Int Int))))) v H' → Q v H') : sp__law_three K vs H Q E := ⟨X, p__law_bag_here, a__law_bag_here, a__law_most, r, hm, c, k⟩
abbrev n__law_three : List Str := ["_law_bag_here", "_law_most", "_law_ring", "_law_hand", "_law_k"]
theorem sc__law_three : FnScope n__law_three ["_law_bag_here", "_law_most"] (defScope s__law_three) := ⟨rfl, rfl, rfl, by decide +kernel, rfl, by decide +kernel, by decide +kernel⟩
theorem ok__law_three (T : Txt K mg) : FnOk P w K mg base CX0 3 T.A__law_three T.D__law_three ["_law_bag_here", "_law_most"] (sp__law_three K) := by
  refine Fun.ok T.F__law_three sc__law_three (fun vs H Q E h => ?_) (fun cdv A outer s H vs Q E hr h => ?_)
  · obtain ⟨X, p__law_bag_here, a__law_bag_here, a__law_most, r, hm, c, kont⟩ := h
    exact c.len
  · obtain ⟨X, p__law_bag_here, a__law_bag_here, a__law_most, r, hm, c, kont⟩ := h
    refine ⟨_, (pss_cons (ps_setLc (i := 2) (own := [("_law_k", 4)])  (g := gName 4) (tt := tYes) rfl sc__law_three.nd rfl rfl (sw_true rfl rfl rfl (by decide +kernel)) (pi_range1 (by rfl) T.z_range (pa_cons pe_int pa_nil)) (blkOk_by (N := n__law_three) (sc := defScope s__law_three) (by decide +kernel)) (fun _ _ _ _ _ => (pg_name (i := 4) sc__law_three.nd rfl (Or.inl rfl))) (fun _ _ _ _ _ => pts_nil) (fun _ _ _ _ _ => (pe_call (ok__law_place T) hr (by rfl) T.g__law_place T.F__law_place.kp T.b__law_place .nil pass0 (pa_cons (pv 0) (pa_cons (pv 1) pa_nil)))))
      (pss_cons (ps_set (i := 3) sc__law_three.nd rfl (Or.inl rfl) (pe_call (ok__law_side T) (hr.mono (by decide)) (by rfl) T.g__law_side T.F__law_side.kp T.b__law_side .nil pass0 (pa_cons (pe_ix (r := rIxL K) ix_list (pv 2) pe_int (fun _ _ => rfl)) (pa_cons (pe_ix (r := rIxL K) ix_list (pv 2) pe_int (fun _ _ => rfl)) (pa_cons (pe_ix (r := rIxL K) ix_list (pv 2) pe_int (fun _ _ => rfl)) pa_nil)))))
      (pss_cons (ps_if (pt_cmpR op_eq (pv 3) pe_int (nomark _)) (pss_one (ps_ret (pe_lst (pa_cons (pe_tup (pa_cons pe_int (pa_cons pe_int (pa_cons pe_int pa_nil)))) (pa_cons (pe_tup (pa_cons (pv 1) (pa_cons pe_int (pa_cons pe_int pa_nil)))) (pa_cons (pe_tup (pa_cons pe_int (pa_cons (pv 1) (pa_cons pe_int pa_nil)))) pa_nil)))))) pss_nil)
      (pss_one (ps_ret (pe_step (pv 2) (pv 3))))))), ?_⟩
    have L0 : Lo ⟨K, X, H, muts [.mu p__law_bag_here (ml (a__law_bag_here : (List Int))), .imm (.int a__law_most)], n__law_three.length⟩ X H (L2.start n__law_three vs) [.mu p__law_bag_here (ml (a__law_bag_here : (List Int))), .imm (.int a__law_most), .unk, .unk, .unk] := c.start n__law_three (show (2 : Nat) ≤ 5 by decide)
    unfold m__law_three at hm
    refine x_seq (x_asg (x_lcr1 (x_cons (x_c (x_nil (x_r1c (n := 3) (by decide) (obE hm fun q1 hy1 hm1 => x_lcR (G := (fun (s1 : (List Int)) => [.mu p__law_bag_here (ml (s1 : (List Int))), .imm (.int a__law_most), .unk, .unk, .unk])) (s0 := a__law_bag_here) L0 (fun _ _ => rfl) (mapS_comp hy1) (show (3 : Nat) ≤ 16777216 by decide) (fun x1 s1 _ H1 _ u1 _ _ _ hF1 L1 r1 hn1 hy2 => obE hF1 fun y1 hm2 he1 => x_cName (d := (.int x1)) (Γ' := [.mu p__law_bag_here (ml (s1 : (List Int))), .imm (.int a__law_most), .unk, .unk, .imm (.int x1)]) L1 r1 (show (4 : Nat) < 5 by decide) rfl fun _ L2 => x_yes (x_call (x_cons (x_vm L2 rfl (x_cons (x_vI (x := a__law_most) L2 rfl (x_nil (obE hm2 fun z1 hz2 hm3 => mk__law_place hz2 (L2.cond1 (i := 0) (.m (L2.mrep (i := 0) rfl) (.im (.int _) .nil)) rfl rfl rfl) fun v1 _ F1 => k1d L2 F1 (i := 0) (Γ' := [.mu p__law_bag_here (ml (z1.2 : (List Int))), .imm (.int a__law_most), .unk, .unk, .imm (.int x1)]) rfl rfl rfl fun L3 le1 r2 => x_cy (G := (fun (s1 : (List Int)) => [.mu p__law_bag_here (ml (s1 : (List Int))), .imm (.int a__law_most), .unk, .unk, .unk])) (s := s1) (s' := z1.2) (y := z1.1) (by cases hm3; cases he1; rfl) hy2 L1 L3 (.m (.i rfl (.i rfl (.i rfl (.i rfl .e))))) r2)))))))) fun p1 _ L4 le2 r3 => have L5 : Lo _ _ _ _ [.mu p__law_bag_here (ml (q1.2 : (List Int))), .imm (.int a__law_most), .unk, .unk, .unk] := L4; have r4 : Rep _ _ _ (enc (q1.1 : (List (T3 Int Int Int)))) (.ref p1) := r3; x_set (d := (enc (q1.1 : (List (T3 Int Int Int))))) (Γ' := [.mu p__law_bag_here (ml (q1.2 : (List Int))), .imm (.int a__law_most), .imm (enc (q1.1 : (List (T3 Int Int Int)))), .unk, .unk]) L5 r4 (show (2 : Nat) < 5 by decide) rfl fun _ L6 => ?_)))))))
    refine x_seq (x_asg (x_call (x_cons (x_op (x_vd (d := (enc (q1.1 : (List (T3 Int Int Int))))) L6 rfl fun v2 r5 => x_c (x_ixL (xs := q1.1) hm1 r5 fun x2 v3 _ hm4 r6 => x_cons (x_op (x_vd (d := (enc (q1.1 : (List (T3 Int Int Int))))) L6 rfl fun v4 r7 => x_c (x_ixL (xs := q1.1) hm4 r7 fun x3 v5 _ hm5 r8 => x_cons (x_op (x_vd (d := (enc (q1.1 : (List (T3 Int Int Int))))) L6 rfl fun v6 r9 => x_c (x_ixL (xs := q1.1) hm5 r9 fun x4 v7 _ hm6 r10 => x_nil (obE hm6 fun z2 hz3 hm7 => mk__law_side hz3 (L6.cond0 (.im r6 (.im r8 (.im r10 .nil))) rfl) fun _ F2 => k0 L6 F2 fun L7 le3 => x_set (d := (.int z2)) (Γ' := [.mu p__law_bag_here (ml (q1.2 : (List Int))), .imm (.int a__law_most), .imm (enc (q1.1 : (List (T3 Int Int Int)))), .imm (.int z2), .unk]) L7 (.int _) (show (3 : Nat) < 5 by decide) rfl fun _ L8 => ?_)))))))))))))
    refine x_seq (x_ifS (x_test (x_op (x_vI (x := z2) L8 rfl (x_c (x_eqi (x_kb (x_if hm7 (fun hm8 => ?_) fun hm8 => ?_))))))))
    · exact x_ret (x_lst (x_cons (x_tup (x_cons (x_c (x_cons (x_c (x_cons (x_c (x_nil (x_mkT L8 (.cons (.int _) (.cons (.int _) (.cons (.int _) .nil))) (show (3 : Nat) ≤ 16777216 by decide) fun v9 _ L9 le4 r11 => have r12 : Rep _ _ _ (enc ((T3.mk 0 0 1) : (T3 Int Int Int))) v9 := r11; x_cons (x_tup (x_cons (x_vI (x := a__law_most) L9 rfl (x_cons (x_c (x_cons (x_c (x_nil (x_mkT L9 (.cons (.int _) (.cons (.int _) (.cons (.int _) .nil))) (show (3 : Nat) ≤ 16777216 by decide) fun v10 _ L10 le5 r13 => have r14 := le5 _ _ r12; have r15 : Rep _ _ _ (enc ((T3.mk a__law_most 1 1) : (T3 Int Int Int))) v10 := r13; x_cons (x_tup (x_cons (x_c (x_cons (x_vI (x := a__law_most) L10 rfl (x_cons (x_c (x_nil (x_mkT L10 (.cons (.int _) (.cons (.int _) (.cons (.int _) .nil))) (show (3 : Nat) ≤ 16777216 by decide) fun v11 _ L11 le6 r16 => have r17 := le6 _ _ r14; have r18 := le6 _ _ r15; have r19 : Rep _ _ _ (enc ((T3.mk 1 a__law_most 1) : (T3 Int Int Int))) v11 := r16; x_nil (x_mkL L11 (.cons r17 (.cons r18 (.cons r19 .nil))) (show (3 : Nat) ≤ 16777216 by decide) fun v12 _ L12 le7 r20 => have r21 : Rep _ _ _ (enc ([(T3.mk 0 0 1), (T3.mk a__law_most 1 1), (T3.mk 1 a__law_most 1)] : (List (T3 Int Int Int)))) v12 := r20; x_fin (Q := Q) (ps := (fun (r : ((List (T3 Int Int Int)) × (List Int))) => [(p__law_bag_here, (ml (r.2 : (List Int))))])) (rs := (fun (r : ((List (T3 Int Int Int)) × (List Int))) => (.imm (enc (r.1 : (List (T3 Int Int Int))))))) (e := ([(T3.mk 0 0 1), (T3.mk a__law_most 1 1), (T3.mk 1 a__law_most 1)], q1.2)) hm8 kont (L12.fin (hp1 (L12.mrep (i := 0) rfl)) r21)))))))))))))))))))))))))))))))
    · refine x_next ?_
      exact x_ret (x_step (x_vd (d := (enc (q1.1 : (List (T3 Int Int Int))))) L8 rfl fun v13 r22 => x_vI (x := z2) L8 rfl (x_stepL (xs := q1.1) L8 hm8 r22 fun ys1 v14 _ hm9 L13 le8 r23 => x_fin (Q := Q) (ps := (fun (r : ((List (T3 Int Int Int)) × (List Int))) => [(p__law_bag_here, (ml (r.2 : (List Int))))])) (rs := (fun (r : ((List (T3 Int Int Int)) × (List Int))) => (.imm (enc (r.1 : (List (T3 Int Int Int))))))) (e := (ys1, q1.2)) hm9 kont (L13.fin (hp1 (L13.mrep (i := 0) rfl)) r23))))
abbrev sp__law_is_point (K : PySem.W.Frag) : Sp := fun vs H Q _ => ∃ (X : Addr → Prop)  (a__law_p : (T3 Int Int Int)) (r : Bool), m__law_is_point a__law_p = some r ∧ Cond K X H [.imm (enc (a__law_p : (T3 Int Int Int)))] vs ∧ ∀ H', Fin K X H [] [] (.imm (.bool r)) (.bl r) H' → Q (.bl r) H'
theorem mk__law_is_point {K : PySem.W.Frag} {X : Addr → Prop} {H : Hp} {vs : List V} {Q : VK} {E : XK}  {a__law_p : (T3 Int Int Int)} {r : Bool} (hm : m__law_is_point a__law_p = some r) (c : Cond K X H [.imm (enc (a__law_p : (T3 Int Int Int)))] vs) (k : ∀ H', Fin K X H [] [] (.imm (.bool r)) (.bl r) H' → Q (.bl r) H') : sp__law_is_point K vs H Q E := ⟨X, a__law_p, r, hm, c, k⟩
abbrev n__law_is_point : List Str := ["_law_p", "_law_number"]
theorem sc__law_is_point : FnScope n__law_is_point ["_law_p"] (defScope s__law_is_point) := ⟨rfl, rfl, rfl, by decide +kernel, rfl, by decide +kernel, by decide +kernel⟩
theorem ok__law_is_point (T : Txt K mg) : FnOk P w K mg base CX0 2 T.A__law_is_point T.D__law_is_point ["_law_p"] (sp__law_is_point K) := by
  refine Fun.ok T.F__law_is_point sc__law_is_point (fun vs H Q E h => ?_) (fun cdv A outer s H vs Q E hr h => ?_)
  · obtain ⟨X, a__law_p, r, hm, c, kont⟩ := h
    exact c.len
  · obtain ⟨X, a__law_p, r, hm, c, kont⟩ := h
    refine ⟨_, (pss_cons (ps_if (PW.pt (pw_or (pt_not (pt_val (pe_callB (r := rIsi K) call_isi (by rfl) T.z_isinstance (by decide +kernel) (pa_cons (pv 0) (pa_cons (pe_bltn (v := .ty "tuple") (u := .type "tuple") (by rfl) T.z_tuple (by decide +kernel) rfl) pa_nil))))) (pw_or1 (pt_cmpR op_ne (pe_callB (r := rLenX K) call_lenX (by rfl) T.z_len (by decide +kernel) (pa_cons (pv 0) pa_nil)) pe_int (nomark _))))) (pss_one (ps_ret pe_bl)) pss_nil)
      (pss_cons (ps_for PassesOwn.never rfl (pi_tup (pv 0)) (pg_name (i := 1) sc__law_is_point.nd rfl (Or.inl rfl)) (pss_one (ps_if (PW.pt (pw_or (pt_not (pt_val (pe_callB (r := rIsi K) call_isi (by rfl) T.z_isinstance (by decide +kernel) (pa_cons (pv 1) (pa_cons (pe_bltn (v := .ty "int") (u := .type "int") (by rfl) T.z_int (by decide +kernel) rfl) pa_nil))))) (pw_or1 (pt_val (pe_callB (r := rIsi K) call_isi (by rfl) T.z_isinstance (by decide +kernel) (pa_cons (pv 1) (pa_cons (pe_bltn (v := .ty "bool") (u := .type "bool") (by rfl) T.z_bool (by decide +kernel) rfl) pa_nil))))))) (pss_one (ps_ret pe_bl)) pss_nil)))
      (pss_one (ps_ret (pe_and (pe_cmpR op_gt (pe_ix (r := rIxT K) ix_tup (pv 0) pe_int (fun _ _ => rfl)) pe_int (nomark _)) (pe_one (pe_cmpR (r := rEqD K) (op_eqD hr.units) (pe_call (ok__law_point T) hr (by rfl) T.g__law_point T.F__law_point.kp T.b__law_point .nil pass0 (pa_cons (pe_ix (r := rIxT K) ix_tup (pv 0) pe_int (fun _ _ => rfl)) (pa_cons (pe_ix (r := rIxT K) ix_tup (pv 0) pe_int (fun _ _ => rfl)) (pa_cons (pe_ix (r := rIxT K) ix_tup (pv 0) pe_int (fun _ _ => rfl)) pa_nil)))) (pv 0) (nomark _)))))))), ?_⟩
    have L0 : Lo ⟨K, X, H, muts [.imm (enc (a__law_p : (T3 Int Int Int)))], n__law_is_point.length⟩ X H (L2.start n__law_is_point vs) [.imm (enc (a__law_p : (T3 Int Int Int))), .unk] := c.start n__law_is_point (show (1 : Nat) ≤ 2 by decide)
    unfold m__law_is_point at hm
    refine x_seq (x_ifS (x_or (x_not (x_tB (x_cb (x_cons (x_vd (d := (enc (a__law_p : (T3 Int Int Int)))) L0 rfl fun v1 r1 => x_cons (x_c (x_nil (x_isi (T := "tuple") (b := true) r1 (show kitB "tuple" "tuple" = some true by decide +kernel) (x_kb (x_kn (x_orP (B := (!decide (3 = 3))) (fun _ hq => x_test (x_op (x_cb (x_cons (x_vd (d := (enc (a__law_p : (T3 Int Int Int)))) L0 rfl fun v2 r2 => x_nil (x_lenT (n := 3) r2 rfl (x_c (x_nei (x_kb (hq)))))))))) (x_if hm (fun hm1 => ?_) fun hm1 => ?_))))))))))))))
    · exact x_ret (x_c (x_finB (Q := Q) (ps := (fun (r : Bool) => [])) (sc := fun (r : Bool) => r) false hm1 kont (L0.fin hp0 (.bl _))))
    · refine x_next ?_
      refine x_seq (x_tforT (x_vd (d := (enc (a__law_p : (T3 Int Int Int)))) L0 rfl fun v3 r3 => x_flT (G := (fun (s1 : Unit) => [.imm (enc (a__law_p : (T3 Int Int Int))), .unk])) (s0 := ()) (xs := [a__law_p.a, a__law_p.b, a__law_p.c]) (ps := (fun (r : Bool) => [])) (rs := (fun (r : Bool) => (.imm (.bool r)))) (L0.weak (Γ' := [.imm (enc (a__law_p : (T3 Int Int Int))), .unk]) (.k (.k .e))) (fun _ _ => rfl) r3 hm1 (fun x1 s1 H1 _ u1 _ _ _ _ _ hm2 L1 r4 hN1 hC1 hB1 hR1 => ?_) (fun s2 _ _ hm3 L2 => ?_) (fun _ _ _ hm4 F1 => x_finRB (Q := Q) (ps := (fun (r : Bool) => [])) (sc := fun (r : Bool) => r) hm4 kont F1)))
      · refine x_set (d := (.int x1)) (Γ' := [.imm (enc (a__law_p : (T3 Int Int Int))), .imm (.int x1)]) L1 r4 (show (1 : Nat) < 2 by decide) rfl fun _ L3 => ?_
        refine x_ifS (x_or (x_not (x_tB (x_cb (x_cons (x_vI (x := x1) L3 rfl (x_cons (x_c (x_nil (x_isiI (x := x1) (T := "int") (b := true) (show kitB "int" "int" = some true by decide +kernel) (x_kb (x_kn (x_orP (B := false) (fun _ hq => x_tB (x_cb (x_cons (x_vI (x := x1) L3 rfl (x_cons (x_c (x_nil (x_isiI (x := x1) (T := "bool") (b := false) (show kitB "int" "bool" = some false by decide +kernel) (x_kb (hq)))))))))) (x_if hm2 (fun hm5 => ?_) fun hm5 => ?_))))))))))))))
        · exact x_ret (x_c (x_leafR (ps := (fun (r : Bool) => [])) (rs := (fun (r : Bool) => (.imm (.bool r)))) (e := false) hm5 hR1 (L3.fin hp0 (.bl _))))
        · refine x_next ?_
          exact x_leafN (G := (fun (s1 : Unit) => [.imm (enc (a__law_p : (T3 Int Int Int))), .unk])) (e := ()) hm5 hN1 (L3.weak (Γ' := [.imm (enc (a__law_p : (T3 Int Int Int))), .unk]) (.k (.d .e)))
      exact x_ret (x_andV (x_op (x_op (x_vd (d := (enc (a__law_p : (T3 Int Int Int)))) L2 rfl fun v4 r5 => x_c (x_ixTI (x := a__law_p.c) r5 rfl (x_c (x_r0 (x_kb (x_andVB L2 hm3 (fun _ hm7 _ hq => x_op (x_call (x_cons (x_op (x_vd (d := (enc (a__law_p : (T3 Int Int Int)))) L2 rfl fun v10 r11 => x_c (x_ixTI (x := a__law_p.a) r11 rfl (x_cons (x_op (x_vd (d := (enc (a__law_p : (T3 Int Int Int)))) L2 rfl fun v11 r12 => x_c (x_ixTI (x := a__law_p.b) r12 rfl (x_cons (x_op (x_vd (d := (enc (a__law_p : (T3 Int Int Int)))) L2 rfl fun v12 r13 => x_c (x_ixTI (x := a__law_p.c) r13 rfl (x_nil (obE hm7 fun z2 hz2 hm8 => mk__law_point hz2 (L2.cond0 (.im (.int _) (.im (.int _) (.im (.int _) .nil))) rfl) fun v13 _ F3 => k0d L2 F3 fun L5 le2 r14 => x_vd (d := (enc (a__law_p : (T3 Int Int Int)))) L5 rfl fun v14 r15 => x_eqd (x := z2) (y := a__law_p) r14.dp r15.dp (by decide) (x_lfV hm8 hq L5))))))))))))))))) fun b1 _ hm9 L6 => x_finB (Q := Q) (ps := (fun (r : Bool) => [])) (sc := fun (r : Bool) => r) b1 hm9 kont (L6.fin hp0 (.bl _)))))))))))
abbrev sp__law_is_convex (K : PySem.W.Frag) : Sp := fun vs H Q _ => ∃ (X : Addr → Prop)  (a__law_ring : (List (T3 Int Int Int))) (r : Bool), m__law_is_convex a__law_ring = some r ∧ Cond K X H [.imm (enc (a__law_ring : (List (T3 Int Int Int))))] vs ∧ ∀ H', Fin K X H [] [] (.imm (.bool r)) (.bl r) H' → Q (.bl r) H'
theorem mk__law_is_convex {K : PySem.W.Frag} {X : Addr → Prop} {H : Hp} {vs : List V} {Q : VK} {E : XK}  {a__law_ring : (List (T3 Int Int Int))} {r : Bool} (hm : m__law_is_convex a__law_ring = some r) (c : Cond K X H [.imm (enc (a__law_ring : (List (T3 Int Int Int))))] vs) (k : ∀ H', Fin K X H [] [] (.imm (.bool r)) (.bl r) H' → Q (.bl r) H') : sp__law_is_convex K vs H Q E := ⟨X, a__law_ring, r, hm, c, k⟩
abbrev n__law_is_convex : List Str := ["_law_ring", "_law_k", "_law_j", "_law_p"]
theorem sc__law_is_convex : FnScope n__law_is_convex ["_law_ring"] (defScope s__law_is_convex) := ⟨rfl, rfl, rfl, by decide +kernel, rfl, by decide +kernel, by decide +kernel⟩
theorem ok__law_is_convex (T : Txt K mg) : FnOk P w K mg base CX0 3 T.A__law_is_convex T.D__law_is_convex ["_law_ring"] (sp__law_is_convex K) := by
  refine Fun.ok T.F__law_is_convex sc__law_is_convex (fun vs H Q E h => ?_) (fun cdv A outer s H vs Q E hr h => ?_)
  · obtain ⟨X, a__law_ring, r, hm, c, kont⟩ := h
    exact c.len
  · obtain ⟨X, a__law_ring, r, hm, c, kont⟩ := h
    refine ⟨_, (pss_cons (ps_if (PW.pt (pw_or (pt_not (pt_val (pe_callB (r := rIsi K) call_isi (by rfl) T.z_isinstance (by decide +kernel) (pa_cons (pv 0) (pa_cons (pe_bltn (v := .ty "list") (u := .type "list") (by rfl) T.z_list (by decide +kernel) rfl) pa_nil))))) (pw_or1 (pt_cmpR op_lt (pe_callB (r := rLenX K) call_lenX (by rfl) T.z_len (by decide +kernel) (pa_cons (pv 0) pa_nil)) pe_int (nomark _))))) (pss_one (ps_ret pe_bl)) pss_nil)
      (pss_cons (ps_if (pt_cmpR op_gt (pe_callB (r := rLenX K) call_lenX (by rfl) T.z_len (by decide +kernel) (pa_cons (pe_lc (own := [("_law_p", 3)]) (g := gName 3) (tt := _) rfl sc__law_is_convex.nd (pi_list (pv 0)) (blkOk_by (N := n__law_is_convex) (sc := defScope s__law_is_convex) (by decide +kernel)) (fun _ _ _ _ _ => (pg_name (i := 3) sc__law_is_convex.nd rfl (Or.inl rfl))) (fun _ _ _ _ _ => (pts_one (pt_not (pt_val (pe_call (ok__law_is_point T) hr (by rfl) T.g__law_is_point T.F__law_is_point.kp T.b__law_is_point .nil pass0 (pa_cons (pv 3) pa_nil)))))) (fun _ _ _ _ _ => (pv 3))) pa_nil)) pe_int (nomark _)) (pss_one (ps_ret pe_bl)) pss_nil)
      (pss_cons (ps_for PassesOwn.never rfl (pi_range1 (by rfl) T.z_range (pa_cons (pe_callB (r := rLenX K) call_lenX (by rfl) T.z_len (by decide +kernel) (pa_cons (pv 0) pa_nil)) pa_nil)) (pg_name (i := 1) sc__law_is_convex.nd rfl (Or.inl rfl)) (pss_one (ps_for PassesOwn.never rfl (pi_range1 (by rfl) T.z_range (pa_cons (pe_callB (r := rLenX K) call_lenX (by rfl) T.z_len (by decide +kernel) (pa_cons (pv 0) pa_nil)) pa_nil)) (pg_name (i := 2) sc__law_is_convex.nd rfl (Or.inl rfl)) (pss_one (ps_if (PW.pt (pw_and (pt_cmpR op_ne (pv 2) (pv 1) (nomark _)) (pw_and1 (pt_cmpR op_ne (pv 2) (pe_op op_modN (pe_op op_add (pv 1) pe_int) (pe_callB (r := rLenX K) call_lenX (by rfl) T.z_len (by decide +kernel) (pa_cons (pv 0) pa_nil))) (nomark _))))) (pss_one (ps_if (pt_cmpR op_ne (pe_call (ok__law_side T) (hr.mono (by decide)) (by rfl) T.g__law_side T.F__law_side.kp T.b__law_side .nil pass0 (pa_cons (pe_ix (r := rIxL K) ix_list (pv 0) (pv 1) (fun _ _ => rfl)) (pa_cons (pe_ix (r := rIxL K) ix_list (pv 0) (pe_op op_modN (pe_op op_add (pv 1) pe_int) (pe_callB (r := rLenX K) call_lenX (by rfl) T.z_len (by decide +kernel) (pa_cons (pv 0) pa_nil))) (fun _ _ => rfl)) (pa_cons (pe_ix (r := rIxL K) ix_list (pv 0) (pv 2) (fun _ _ => rfl)) pa_nil)))) pe_int (nomark _)) (pss_one (ps_ret pe_bl)) pss_nil)) pss_nil)))))
      (pss_one (ps_ret pe_bl))))), ?_⟩
    have L0 : Lo ⟨K, X, H, muts [.imm (enc (a__law_ring : (List (T3 Int Int Int))))], n__law_is_convex.length⟩ X H (L2.start n__law_is_convex vs) [.imm (enc (a__law_ring : (List (T3 Int Int Int)))), .unk, .unk, .unk] := c.start n__law_is_convex (show (1 : Nat) ≤ 4 by decide)
    unfold m__law_is_convex at hm
    refine x_seq (x_ifS (x_or (x_not (x_tB (x_cb (x_cons (x_vd (d := (enc (a__law_ring : (List (T3 Int Int Int))))) L0 rfl fun v1 r1 => x_cons (x_c (x_nil (x_isi (T := "list") (b := true) r1 (show kitB "list" "list" = some true by decide +kernel) (x_kb (x_kn (x_orP (B := (decide ((a__law_ring.length : Int) < 3))) (fun _ hq => x_test (x_op (x_cb (x_cons (x_vd (d := (enc (a__law_ring : (List (T3 Int Int Int))))) L0 rfl fun v2 r2 => x_nil (x_lenL (xs := a__law_ring) r2 (x_c (x_r0 (x_kb (hq)))))))))) (x_if hm (fun hm1 => ?_) fun hm1 => ?_))))))))))))))
    · exact x_ret (x_c (x_finB (Q := Q) (ps := (fun (r : Bool) => [])) (sc := fun (r : Bool) => r) false hm1 kont (L0.fin hp0 (.bl _))))
    · refine x_next ?_
      refine x_seq (x_ifS (x_test (x_op (x_cb (x_cons (x_lcl (x_vd (d := (enc (a__law_ring : (List (T3 Int Int Int))))) L0 rfl fun v3 r3 => obE hm1 fun _ hl1 hm2 => obE hm2 fun ys1 hy1 hm3 => x_lcL (G := (fun (s1 : Unit) => [.imm (enc (a__law_ring : (List (T3 Int Int Int)))), .unk, .unk, .unk])) (s0 := ()) (xs := a__law_ring) L0 (fun _ _ => rfl) r3 (filO_comp hy1) (lenOk_le hl1) (fun x1 s1 _ H1 _ u1 _ _ _ hF1 L1 r4 hn1 hy2 => obE hF1 fun y1 hm4 he1 => x_cName (d := (enc (x1 : (T3 Int Int Int)))) (Γ' := [.imm (enc (a__law_ring : (List (T3 Int Int Int)))), .unk, .unk, .imm (enc (x1 : (T3 Int Int Int)))]) L1 r4 (show (3 : Nat) < 4 by decide) rfl fun _ L2 => x_not (x_tB (x_call (x_cons (x_vd (d := (enc (x1 : (T3 Int Int Int)))) L2 rfl fun v4 r5 => x_nil (obE hm4 fun z1 hz2 hm5 => mk__law_is_point hz2 (L2.cond0 (.im r5 .nil) rfl) fun _ F1 => k0 L2 F1 fun L3 le1 => x_kb (x_kn (x_ct hm5 (fun hm6 => x_vd (d := (enc (x1 : (T3 Int Int Int)))) L3 rfl fun v6 r6 => x_cy (G := (fun (s1 : Unit) => [.imm (enc (a__law_ring : (List (T3 Int Int Int)))), .unk, .unk, .unk])) (s := s1) (s' := ()) (y := x1) (by cases hm6; cases he1; rfl) hy2 L1 L3 (.i rfl (.i rfl (.i rfl (.i rfl .e)))) r6) (fun hm6 => x_cn (G := (fun (s1 : Unit) => [.imm (enc (a__law_ring : (List (T3 Int Int Int)))), .unk, .unk, .unk])) (s := s1) (s' := ()) (by cases hm6; cases he1; rfl) hn1 L1 L3 (.i rfl (.i rfl (.i rfl (.i rfl .e))))))))))))) fun p1 _ L4 le2 r7 => have L5 : Lo _ _ _ _ [.imm (enc (a__law_ring : (List (T3 Int Int Int)))), .unk, .unk, .unk] := L4; have r8 : Rep _ _ _ (enc (ys1 : (List (T3 Int Int Int)))) (.ref p1) := r7; x_nil (x_lenL (xs := ys1) r8 (x_c (x_r0 (x_kb (x_if hm3 (fun hm7 => ?_) fun hm7 => ?_))))))))))))
      · exact x_ret (x_c (x_finB (Q := Q) (ps := (fun (r : Bool) => [])) (sc := fun (r : Bool) => r) false hm7 kont (L5.fin hp0 (.bl _))))
      · refine x_next ?_
        refine x_seq (x_tforR1 (x_cons (x_cb (x_cons (x_vd (d := (enc (a__law_ring : (List (T3 Int Int Int))))) L5 rfl fun v7 r9 => x_nil (x_lenL (xs := a__law_ring) r9 (x_nil (x_r1 hm7 fun hm8 => x_flR (G := (fun (s2 : Unit) => [.imm (enc (a__law_ring : (List (T3 Int Int Int)))), .unk, .unk, .unk])) (s0 := ()) (ps := (fun (r : Bool) => [])) (rs := (fun (r : Bool) => (.imm (.bool r)))) (L5.weak (Γ' := [.imm (enc (a__law_ring : (List (T3 Int Int Int)))), .unk, .unk, .unk]) (.k (.k (.k (.k .e))))) (fun _ _ => rfl) hm8 (fun x2 s2 H2 _ u2 _ _ _ _ _ hm9 L6 r10 hN1 hC1 hB1 hR1 => ?_) (fun s3 _ _ hm10 L7 => ?_) (fun _ _ _ hm11 F2 => x_finRB (Q := Q) (ps := (fun (r : Bool) => [])) (sc := fun (r : Bool) => r) hm11 kont F2)))))))))
        · refine x_set (d := (.int x2)) (Γ' := [.imm (enc (a__law_ring : (List (T3 Int Int Int)))), .imm (.int x2), .unk, .unk]) L6 r10 (show (1 : Nat) < 4 by decide) rfl fun _ L8 => ?_
          refine x_tforR1 (x_cons (x_cb (x_cons (x_vd (d := (enc (a__law_ring : (List (T3 Int Int Int))))) L8 rfl fun v8 r11 => x_nil (x_lenL (xs := a__law_ring) r11 (x_nil (x_r1 hm9 fun hm12 => x_flR (G := (fun (s4 : Unit) => [.imm (enc (a__law_ring : (List (T3 Int Int Int)))), .imm (.int x2), .unk, .unk])) (s0 := ()) (ps := (fun (r : Bool) => [])) (rs := (fun (r : Bool) => (.imm (.bool r)))) (L8.weak (Γ' := [.imm (enc (a__law_ring : (List (T3 Int Int Int)))), .imm (.int x2), .unk, .unk]) (.k (.k (.k (.k .e))))) (fun _ _ => rfl) hm12 (fun x3 s4 H3 _ u3 _ _ _ _ _ hm13 L9 r12 hN2 hC2 hB2 hR2 => ?_) (fun s5 _ _ hm14 L10 => ?_) (fun _ _ _ hm15 F3 => x_leafR (ps := (fun (r : Bool) => [])) (rs := (fun (r : Bool) => (.imm (.bool r)))) hm15 hR1 F3))))))))
          · refine x_set (d := (.int x3)) (Γ' := [.imm (enc (a__law_ring : (List (T3 Int Int Int)))), .imm (.int x2), .imm (.int x3), .unk]) L9 r12 (show (2 : Nat) < 4 by decide) rfl fun _ L11 => ?_
            refine x_ifS (x_and (x_test (x_op (x_vI (x := x3) L11 rfl (x_vI (x := x2) L11 rfl (x_nei (x_kb (x_andB L11 hm13 (fun _ hm17 _ hq => x_test (x_op (x_vI (x := x3) L11 rfl (x_op (x_op (x_vI (x := x2) L11 rfl (x_c (x_r0 (x_cb (x_cons (x_vd (d := (enc (a__law_ring : (List (T3 Int Int Int))))) L11 rfl fun v10 r14 => x_nil (x_lenL (xs := a__law_ring) r14 (x_mod hm17 fun z3 _ hm18 => x_nei (x_kb (x_lfT hm18 hq L11))))))))))))))) fun b1 _ hm19 L12 => x_if hm19 (fun hm20 => ?_) fun hm20 => ?_))))))))
            · refine x_ifS (x_test (x_op (x_call (x_cons (x_op (x_vd (d := (enc (a__law_ring : (List (T3 Int Int Int))))) L12 rfl fun v11 r15 => x_vI (x := x2) L12 rfl (x_ixL (xs := a__law_ring) hm20 r15 fun x4 v12 _ hm21 r16 => x_cons (x_op (x_vd (d := (enc (a__law_ring : (List (T3 Int Int Int))))) L12 rfl fun v13 r17 => x_op (x_op (x_vI (x := x2) L12 rfl (x_c (x_r0 (x_cb (x_cons (x_vd (d := (enc (a__law_ring : (List (T3 Int Int Int))))) L12 rfl fun v14 r18 => x_nil (x_lenL (xs := a__law_ring) r18 (x_mod hm21 fun z4 _ hm22 => x_ixL (xs := a__law_ring) hm22 r17 fun x5 v15 _ hm23 r19 => x_cons (x_op (x_vd (d := (enc (a__law_ring : (List (T3 Int Int Int))))) L12 rfl fun v16 r20 => x_vI (x := x3) L12 rfl (x_ixL (xs := a__law_ring) hm23 r20 fun x6 v17 _ hm24 r21 => x_nil (obE hm24 fun z5 hz3 hm25 => mk__law_side hz3 (L12.cond0 (.im r16 (.im r19 (.im r21 .nil))) rfl) fun _ F4 => k0 L12 F4 fun L13 le3 => x_c (x_nei (x_kb (x_if hm25 (fun hm26 => ?_) fun hm26 => ?_)))))))))))))))))))))))))
              · exact x_ret (x_c (x_leafR (ps := (fun (r : Bool) => [])) (rs := (fun (r : Bool) => (.imm (.bool r)))) (e := false) hm26 hR2 (L13.fin hp0 (.bl _))))
              · refine x_next ?_
                exact x_leafN (G := (fun (s4 : Unit) => [.imm (enc (a__law_ring : (List (T3 Int Int Int)))), .imm (.int x2), .unk, .unk])) (e := ()) hm26 hN2 (L13.weak (Γ' := [.imm (enc (a__law_ring : (List (T3 Int Int Int)))), .imm (.int x2), .unk, .unk]) (.k (.k (.d (.k .e)))))
            · refine x_next ?_
              exact x_leafN (G := (fun (s4 : Unit) => [.imm (enc (a__law_ring : (List (T3 Int Int Int)))), .imm (.int x2), .unk, .unk])) (e := ()) hm20 hN2 (L12.weak (Γ' := [.imm (enc (a__law_ring : (List (T3 Int Int Int)))), .imm (.int x2), .unk, .unk]) (.k (.k (.d (.k .e)))))
          exact x_leafN (G := (fun (s2 : Unit) => [.imm (enc (a__law_ring : (List (T3 Int Int Int)))), .unk, .unk, .unk])) (e := ()) hm14 hN1 (L10.weak (Γ' := [.imm (enc (a__law_ring : (List (T3 Int Int Int)))), .unk, .unk, .unk]) (.k (.d (.k (.k .e)))))
        exact x_ret (x_c (x_finB (Q := Q) (ps := (fun (r : Bool) => [])) (sc := fun (r : Bool) => r) true hm10 kont (L7.fin hp0 (.bl _))))
abbrev sp__law_bulging (K : PySem.W.Frag) : Sp := fun vs H Q _ => ∃ (X : Addr → Prop) (p__law_bag_here : Addr) (a__law_bag_here : (List Int)) (a__law_most : Int) (r : ((List (T3 Int Int Int)) × (List Int))), m__law_bulging a__law_bag_here a__law_most = some r ∧ Cond K X H [.mu p__law_bag_here (ml (a__law_bag_here : (List Int))), .imm (.int a__law_most)] vs ∧ ∀ v H', Fin K X H [p__law_bag_here] [(p__law_bag_here, (ml (r.2 : (List Int))))] (.imm (enc (r.1 : (List (T3 Int Int Int))))) v H' → Q v H'
theorem mk__law_bulging {K : PySem.W.Frag} {X : Addr → Prop} {H : Hp} {vs : List V} {Q : VK} {E : XK} {p__law_bag_here : Addr} {a__law_bag_here : (List Int)} {a__law_most : Int} {r : ((List (T3 Int Int Int)) × (List Int))} (hm : m__law_bulging a__law_bag_here a__law_most = some r) (c : Cond K X H [.mu p__law_bag_here (ml (a__law_bag_here : (List Int))), .imm (.int a__law_most)] vs) (k : ∀ v H', Fin K X H [p__law_bag_here] [(p__law_bag_here, (ml (r.2 : (List Int))))] (.imm (enc (r.1 : (List (T3 Int Int Int))))) v H' → Q v H') : sp__law_bulging K vs H Q E := ⟨X, p__law_bag_here, a__law_bag_here, a__law_most, r, hm, c, k⟩
abbrev n__law_bulging : List Str := ["_law_bag_here", "_law_most", "_law_ring", "_law_k", "_law_p", "_law_at_end", "_law_more"]
theorem sc__law_bulging : FnScope n__law_bulging ["_law_bag_here", "_law_most"] (defScope s__law_bulging) := ⟨rfl, rfl, rfl, by decide +kernel, rfl, by decide +kernel, by decide +kernel⟩
theorem ok__law_bulging (T : Txt K mg) : FnOk P w K mg base CX0 4 T.A__law_bulging T.D__law_bulging ["_law_bag_here", "_law_most"] (sp__law_bulging K) := by
  refine Fun.ok T.F__law_bulging sc__law_bulging (fun vs H Q E h => ?_) (fun cdv A outer s H vs Q E hr h => ?_)
  · obtain ⟨X, p__law_bag_here, a__law_bag_here, a__law_most, r, hm, c, kont⟩ := h
    exact c.len
  · obtain ⟨X, p__law_bag_here, a__law_bag_here, a__law_most, r, hm, c, kont⟩ := h
    refine ⟨_, (pss_cons (ps_set (i := 2) sc__law_bulging.nd rfl (Or.inl rfl) (pe_call (ok__law_three T) hr (by rfl) T.g__law_three T.F__law_three.kp T.b__law_three .nil pass0 (pa_cons (pv 0) (pa_cons (pv 1) pa_nil))))
      (pss_cons (ps_for PassesOwn.never rfl (pi_range1 (by rfl) T.z_range (pa_cons (pe_call (ok__law_digit T) (hr.mono (by decide)) (by rfl) T.g__law_digit T.F__law_digit.kp T.b__law_digit .nil pass0 (pa_cons (pv 0) (pa_cons pe_int pa_nil))) pa_nil)) (pg_name (i := 3) sc__law_bulging.nd rfl (Or.inl rfl)) (pss_cons (ps_set (i := 4) sc__law_bulging.nd rfl (Or.inl rfl) (pe_call (ok__law_place T) (hr.mono (by decide)) (by rfl) T.g__law_place T.F__law_place.kp T.b__law_place .nil pass0 (pa_cons (pv 0) (pa_cons (pv 1) pa_nil))))
      (pss_one (ps_for PassesOwn.never rfl (pi_range1 (by rfl) T.z_range (pa_cons (pe_callB (r := rLenX K) call_lenX (by rfl) T.z_len (by decide +kernel) (pa_cons (pv 2) pa_nil)) pa_nil)) (pg_name (i := 5) sc__law_bulging.nd rfl (Or.inl rfl)) (pss_cons (ps_set (i := 6) sc__law_bulging.nd rfl (Or.inl rfl) (pe_op op_catR (pe_op op_catR (pe_slice (r := rSlL K) sl_list (pv 2) po_none (po_some (pv 5))) (pe_lst (pa_cons (pv 4) pa_nil))) (pe_slice (r := rSlL K) sl_list (pv 2) (po_some (pv 5)) po_none)))
      (pss_one (ps_if (pt_val (pe_call (ok__law_is_convex T) hr (by rfl) T.g__law_is_convex T.F__law_is_convex.kp T.b__law_is_convex .nil pass0 (pa_cons (pv 6) pa_nil))) (pss_cons (ps_set (i := 2) sc__law_bulging.nd rfl (Or.inl rfl) (pv 6))
      (pss_one ps_break)) pss_nil)))))))
      (pss_one (ps_ret (pv 2))))), ?_⟩
    have L0 : Lo ⟨K, X, H, muts [.mu p__law_bag_here (ml (a__law_bag_here : (List Int))), .imm (.int a__law_most)], n__law_bulging.length⟩ X H (L2.start n__law_bulging vs) [.mu p__law_bag_here (ml (a__law_bag_here : (List Int))), .imm (.int a__law_most), .unk, .unk, .unk, .unk, .unk] := c.start n__law_bulging (show (2 : Nat) ≤ 7 by decide)
    unfold m__law_bulging at hm
    refine x_seq (x_asg (x_call (x_cons (x_vm L0 rfl (x_cons (x_vI (x := a__law_most) L0 rfl (x_nil (obE hm fun z1 hz1 hm1 => mk__law_three hz1 (L0.cond1 (i := 0) (.m (L0.mrep (i := 0) rfl) (.im (.int _) .nil)) rfl rfl rfl) fun v1 _ F1 => k1d L0 F1 (i := 0) (Γ' := [.mu p__law_bag_here (ml (z1.2 : (List Int))), .imm (.int a__law_most), .unk, .unk, .unk, .unk, .unk]) rfl rfl rfl fun L1 le1 r1 => x_set (d := (enc (z1.1 : (List (T3 Int Int Int))))) (Γ' := [.mu p__law_bag_here (ml (z1.2 : (List Int))), .imm (.int a__law_most), .imm (enc (z1.1 : (List (T3 Int Int Int)))), .unk, .unk, .unk, .unk]) L1 r1 (show (2 : Nat) < 7 by decide) rfl fun _ L2 => ?_))))))))
    refine x_seq (x_tforR1 (x_cons (x_call (x_cons (x_vm L2 rfl (x_cons (x_c (x_nil (obE hm1 fun z2 hz2 hm2 => mk__law_digit hz2 (L2.cond1 (i := 0) (.m (L2.mrep (i := 0) rfl) (.im (.int _) .nil)) rfl rfl rfl) fun _ F2 => k1 L2 F2 (i := 0) (Γ' := [.mu p__law_bag_here (ml (z2.2 : (List Int))), .imm (.int a__law_most), .imm (enc (z1.1 : (List (T3 Int Int Int)))), .unk, .unk, .unk, .unk]) rfl rfl rfl fun L3 le2 => x_nil (x_r1 hm2 fun hm3 => x_foR (G := (fun (s1 : ((List Int) × (List (T3 Int Int Int)))) => [.mu p__law_bag_here (ml (s1.1 : (List Int))), .imm (.int a__law_most), .imm (enc (s1.2 : (List (T3 Int Int Int)))), .unk, .unk, .unk, .unk])) (s0 := (z2.2, z1.1)) (L3.weak (Γ' := [.mu p__law_bag_here (ml (z2.2 : (List Int))), .imm (.int a__law_most), .imm (enc (z1.1 : (List (T3 Int Int Int)))), .unk, .unk, .unk, .unk]) (.k (.k (.k (.k (.k (.k (.k .e)))))))) (fun _ _ => rfl) hm3 (fun x1 s1 H1 _ u1 _ _ _ _ _ hm4 L4 r2 hN1 hC1 => ?_) (fun s2 _ _ hm5 L5 => ?_)))))))))))
    · refine x_set (d := (.int x1)) (Γ' := [.mu p__law_bag_here (ml (s1.1 : (List Int))), .imm (.int a__law_most), .imm (enc (s1.2 : (List (T3 Int Int Int)))), .imm (.int x1), .unk, .unk, .unk]) L4 r2 (show (3 : Nat) < 7 by decide) rfl fun _ L6 => ?_
      refine x_seq (x_asg (x_call (x_cons (x_vm L6 rfl (x_cons (x_vI (x := a__law_most) L6 rfl (x_nil (obE hm4 fun z3 hz3 hm7 => mk__law_place hz3 (L6.cond1 (i := 0) (.m (L6.mrep (i := 0) rfl) (.im (.int _) .nil)) rfl rfl rfl) fun v3 _ F4 => k1d L6 F4 (i := 0) (Γ' := [.mu p__law_bag_here (ml (z3.2 : (List Int))), .imm (.int a__law_most), .imm (enc (s1.2 : (List (T3 Int Int Int)))), .imm (.int x1), .unk, .unk, .unk]) rfl rfl rfl fun L7 le3 r3 => x_set (d := (enc (z3.1 : (T3 Int Int Int)))) (Γ' := [.mu p__law_bag_here (ml (z3.2 : (List Int))), .imm (.int a__law_most), .imm (enc (s1.2 : (List (T3 Int Int Int)))), .imm (.int x1), .imm (enc (z3.1 : (T3 Int Int Int))), .unk, .unk]) L7 r3 (show (4 : Nat) < 7 by decide) rfl fun _ L8 => ?_))))))))
      refine x_tforR1 (x_cons (x_cb (x_cons (x_vd (d := (enc (s1.2 : (List (T3 Int Int Int))))) L8 rfl fun v4 r4 => x_nil (x_lenL (xs := s1.2) r4 (x_nil (x_r1 hm7 fun hm8 => x_flR (G := (fun (s3 : (List (T3 Int Int Int))) => [.mu p__law_bag_here (ml (z3.2 : (List Int))), .imm (.int a__law_most), .imm (enc (s3 : (List (T3 Int Int Int)))), .imm (.int x1), .imm (enc (z3.1 : (T3 Int Int Int))), .unk, .unk])) (s0 := s1.2) (ρ := Empty) (ps := fun _ => []) (rs := fun _ => .imm .none) (L8.weak (Γ' := [.mu p__law_bag_here (ml (z3.2 : (List Int))), .imm (.int a__law_most), .imm (enc (s1.2 : (List (T3 Int Int Int)))), .imm (.int x1), .imm (enc (z3.1 : (T3 Int Int Int))), .unk, .unk]) (.k (.k (.k (.k (.k (.k (.k .e)))))))) (fun _ _ => rfl) hm8 (fun x2 s3 H2 _ u2 _ _ _ _ _ hm9 L9 r5 hN2 hC2 hB2 hR2 => ?_) (fun s4 _ _ hm10 L10 => ?_) (fun q => q.elim))))))))
      · refine x_set (d := (.int x2)) (Γ' := [.mu p__law_bag_here (ml (z3.2 : (List Int))), .imm (.int a__law_most), .imm (enc (s3 : (List (T3 Int Int Int)))), .imm (.int x1), .imm (enc (z3.1 : (T3 Int Int Int))), .imm (.int x2), .unk]) L9 r5 (show (5 : Nat) < 7 by decide) rfl fun _ L11 => ?_
        refine x_seq (x_asg (x_op (x_op (x_sl (x_vd (d := (enc (s3 : (List (T3 Int Int Int))))) L11 rfl fun v5 r6 => x_noP (x_part (x_vI (x := x2) L11 rfl (x_partK (x_slL (xs := s3) L11 r6 fun v6 _ L12 le4 r7 => have r8 : Rep _ _ _ (enc ((slice s3 none (some x2)) : (List (T3 Int Int Int)))) v6 := r7; x_lst (x_cons (x_vd (d := (enc (z3.1 : (T3 Int Int Int)))) L12 rfl fun v7 r9 => x_nil (x_mkL L12 (.cons r9 .nil) (show (1 : Nat) ≤ 16777216 by decide) fun v8 _ L13 le5 r10 => have r11 := le5 _ _ r8; have r12 : Rep _ _ _ (enc ([z3.1] : (List (T3 Int Int Int)))) v8 := r10; x_cat L13 hm9 r11 r12 fun v9 _ hm12 L14 le6 r13 => have r14 : Rep _ _ _ (enc (((slice s3 none (some x2)) ++ [z3.1]) : (List (T3 Int Int Int)))) v9 := r13; x_sl (x_vd (d := (enc (s3 : (List (T3 Int Int Int))))) L14 rfl fun v10 r15 => x_part (x_vI (x := x2) L14 rfl (x_partK (x_noP (x_slL (xs := s3) L14 r15 fun v11 _ L15 le7 r16 => have r17 := le7 _ _ r14; have r18 : Rep _ _ _ (enc ((slice s3 (some x2) none) : (List (T3 Int Int Int)))) v11 := r16; x_cat L15 hm12 r17 r18 fun v12 _ hm13 L16 le8 r19 => have r20 : Rep _ _ _ (enc ((((slice s3 none (some x2)) ++ [z3.1]) ++ (slice s3 (some x2) none)) : (List (T3 Int Int Int)))) v12 := r19; x_bset (x0 := (((slice s3 none (some x2)) ++ [z3.1]) ++ (slice s3 (some x2) none))) (d := fun more_1 => (enc (more_1 : (List (T3 Int Int Int))))) (Γf := fun more_1 => [.mu p__law_bag_here (ml (z3.2 : (List Int))), .imm (.int a__law_most), .imm (enc (s3 : (List (T3 Int Int Int)))), .imm (.int x1), .imm (enc (z3.1 : (T3 Int Int Int))), .imm (.int x2), .imm (enc (more_1 : (List (T3 Int Int Int))))]) hm13 L16 r20 (show (6 : Nat) < 7 by decide) (fun _ => rfl) fun more_1 _ hm14 L17 => ?_)))))))))))))))))
        refine x_ifS (x_tB (x_call (x_cons (x_vd (d := (enc (more_1 : (List (T3 Int Int Int))))) L17 rfl fun v13 r21 => x_nil (obE hm14 fun z4 hz4 hm15 => mk__law_is_convex hz4 (L17.cond0 (.im r21 .nil) rfl) fun _ F6 => k0 L17 F6 fun L18 le9 => x_kb (x_if hm15 (fun hm16 => ?_) fun hm16 => ?_))))))
        · refine x_seq (x_asg (x_vd (d := (enc (more_1 : (List (T3 Int Int Int))))) L18 rfl fun v15 r22 => x_set (d := (enc (more_1 : (List (T3 Int Int Int))))) (Γ' := [.mu p__law_bag_here (ml (z3.2 : (List Int))), .imm (.int a__law_most), .imm (enc (more_1 : (List (T3 Int Int Int)))), .imm (.int x1), .imm (enc (z3.1 : (T3 Int Int Int))), .imm (.int x2), .imm (enc (more_1 : (List (T3 Int Int Int))))]) L18 r22 (show (2 : Nat) < 7 by decide) rfl fun _ L19 => ?_))
          exact x_break (x_leafB (G := (fun (s3 : (List (T3 Int Int Int))) => [.mu p__law_bag_here (ml (z3.2 : (List Int))), .imm (.int a__law_most), .imm (enc (s3 : (List (T3 Int Int Int)))), .imm (.int x1), .imm (enc (z3.1 : (T3 Int Int Int))), .unk, .unk])) (e := more_1) hm16 hB2 (L19.weak (Γ' := [.mu p__law_bag_here (ml (z3.2 : (List Int))), .imm (.int a__law_most), .imm (enc (more_1 : (List (T3 Int Int Int)))), .imm (.int x1), .imm (enc (z3.1 : (T3 Int Int Int))), .unk, .unk]) (.k (.k (.k (.k (.k (.d (.d .e)))))))))
        · refine x_next ?_
          exact x_leafN (G := (fun (s3 : (List (T3 Int Int Int))) => [.mu p__law_bag_here (ml (z3.2 : (List Int))), .imm (.int a__law_most), .imm (enc (s3 : (List (T3 Int Int Int)))), .imm (.int x1), .imm (enc (z3.1 : (T3 Int Int Int))), .unk, .unk])) (e := s3) hm16 hN2 (L18.weak (Γ' := [.mu p__law_bag_here (ml (z3.2 : (List Int))), .imm (.int a__law_most), .imm (enc (s3 : (List (T3 Int Int Int)))), .imm (.int x1), .imm (enc (z3.1 : (T3 Int Int Int))), .unk, .unk]) (.k (.k (.k (.k (.k (.d (.d .e))))))))
      exact x_leaf (G := (fun (s1 : ((List Int) × (List (T3 Int Int Int)))) => [.mu p__law_bag_here (ml (s1.1 : (List Int))), .imm (.int a__law_most), .imm (enc (s1.2 : (List (T3 Int Int Int)))), .unk, .unk, .unk, .unk])) (e := (z3.2, s4)) hm10 hN1 (L10.weak (Γ' := [.mu p__law_bag_here (ml (z3.2 : (List Int))), .imm (.int a__law_most), .imm (enc (s4 : (List (T3 Int Int Int)))), .unk, .unk, .unk, .unk]) (.k (.k (.k (.d (.d (.k (.k .e))))))))
    exact x_ret (x_vd (d := (enc (s2.2 : (List (T3 Int Int Int))))) L5 rfl fun v16 r23 => x_fin (Q := Q) (ps := (fun (r : ((List (T3 Int Int Int)) × (List Int))) => [(p__law_bag_here, (ml (r.2 : (List Int))))])) (rs := (fun (r : ((List (T3 Int Int Int)) × (List Int))) => (.imm (enc (r.1 : (List (T3 Int Int Int))))))) (e := (s2.2, s2.1)) hm5 kont (L5.fin (hp1 (L5.mrep (i := 0) rfl)) r23))
abbrev sp__law_slid (K : PySem.W.Frag) : Sp := fun vs H Q _ => ∃ (X : Addr → Prop)  (a__law_p : (T3 Int Int Int)) (a__law_v : (T3 Int Int Int)) (r : (T3 Int Int Int)), m__law_slid a__law_p a__law_v = some r ∧ Cond K X H [.imm (enc (a__law_p : (T3 Int Int Int))), .imm (enc (a__law_v : (T3 Int Int Int)))] vs ∧ ∀ v H', Fin K X H [] [] (.imm (enc (r : (T3 Int Int Int)))) v H' → Q v H'
theorem mk__law_slid {K : PySem.W.Frag} {X : Addr → Prop} {H : Hp} {vs : List V} {Q : VK} {E : XK}  {a__law_p : (T3 Int Int Int)} {a__law_v : (T3 Int Int Int)} {r : (T3 Int Int Int)} (hm : m__law_slid a__law_p a__law_v = some r) (c : Cond K X H [.imm (enc (a__law_p : (T3 Int Int Int))), .imm (enc (a__law_v : (T3 Int Int Int)))] vs) (k : ∀ v H', Fin K X H [] [] (.imm (enc (r : (T3 Int Int Int)))) v H' → Q v H') : sp__law_slid K vs H Q E := ⟨X, a__law_p, a__law_v, r, hm, c, k⟩
abbrev n__law_slid : List Str := ["_law_p", "_law_v"]
theorem sc__law_slid : FnScope n__law_slid ["_law_p", "_law_v"] (defScope s__law_slid) := ⟨rfl, rfl, rfl, by decide +kernel, rfl, by decide +kernel, by decide +kernel⟩
theorem ok__law_slid (T : Txt K mg) : FnOk P w K mg base CX0 2 T.A__law_slid T.D__law_slid ["_law_p", "_law_v"] (sp__law_slid K) := by
  refine Fun.ok T.F__law_slid sc__law_slid (fun vs H Q E h => ?_) (fun cdv A outer s H vs Q E hr h => ?_)
  · obtain ⟨X, a__law_p, a__law_v, r, hm, c, kont⟩ := h
    exact c.len
  · obtain ⟨X, a__law_p, a__law_v, r, hm, c, kont⟩ := h
    refine ⟨_, (pss_one (ps_ret (pe_call (ok__law_point T) hr (by rfl) T.g__law_point T.F__law_point.kp T.b__law_point .nil pass0 (pa_cons (pe_op op_add (pe_op op_mulW (pe_ix (r := rIxT K) ix_tup (pv 0) pe_int (fun _ _ => rfl)) (pe_ix (r := rIxT K) ix_tup (pv 1) pe_int (fun _ _ => rfl))) (pe_op op_mulW (pe_ix (r := rIxT K) ix_tup (pv 1) pe_int (fun _ _ => rfl)) (pe_ix (r := rIxT K) ix_tup (pv 0) pe_int (fun _ _ => rfl)))) (pa_cons (pe_op op_add (pe_op op_mulW (pe_ix (r := rIxT K) ix_tup (pv 0) pe_int (fun _ _ => rfl)) (pe_ix (r := rIxT K) ix_tup (pv 1) pe_int (fun _ _ => rfl))) (pe_op op_mulW (pe_ix (r := rIxT K) ix_tup (pv 1) pe_int (fun _ _ => rfl)) (pe_ix (r := rIxT K) ix_tup (pv 0) pe_int (fun _ _ => rfl)))) (pa_cons (pe_op op_mulW (pe_ix (r := rIxT K) ix_tup (pv 0) pe_int (fun _ _ => rfl)) (pe_ix (r := rIxT K) ix_tup (pv 1) pe_int (fun _ _ => rfl))) pa_nil)))))), ?_⟩
    have L0 : Lo ⟨K, X, H, muts [.imm (enc (a__law_p : (T3 Int Int Int))), .imm (enc (a__law_v : (T3 Int Int Int)))], n__law_slid.length⟩ X H (L2.start n__law_slid vs) [.imm (enc (a__law_p : (T3 Int Int Int))), .imm (enc (a__law_v : (T3 Int Int Int)))] := c.start n__law_slid (show (2 : Nat) ≤ 2 by decide)
    unfold m__law_slid at hm
    exact x_ret (x_call (x_cons (x_op (x_op (x_op (x_vd (d := (enc (a__law_p : (T3 Int Int Int)))) L0 rfl fun v1 r1 => x_c (x_ixTI (x := a__law_p.a) r1 rfl (x_op (x_vd (d := (enc (a__law_v : (T3 Int Int Int)))) L0 rfl fun v2 r2 => x_c (x_ixTI (x := a__law_v.c) r2 rfl (x_mul hm fun z1 _ hm1 => x_op (x_op (x_vd (d := (enc (a__law_v : (T3 Int Int Int)))) L0 rfl fun v3 r3 => x_c (x_ixTI (x := a__law_v.a) r3 rfl (x_op (x_vd (d := (enc (a__law_p : (T3 Int Int Int)))) L0 rfl fun v4 r4 => x_c (x_ixTI (x := a__law_p.c) r4 rfl (x_mul hm1 fun z2 _ hm2 => x_r0 (x_cons (x_op (x_op (x_op (x_vd (d := (enc (a__law_p : (T3 Int Int Int)))) L0 rfl fun v5 r5 => x_c (x_ixTI (x := a__law_p.b) r5 rfl (x_op (x_vd (d := (enc (a__law_v : (T3 Int Int Int)))) L0 rfl fun v6 r6 => x_c (x_ixTI (x := a__law_v.c) r6 rfl (x_mul hm2 fun z3 _ hm3 => x_op (x_op (x_vd (d := (enc (a__law_v : (T3 Int Int Int)))) L0 rfl fun v7 r7 => x_c (x_ixTI (x := a__law_v.b) r7 rfl (x_op (x_vd (d := (enc (a__law_p : (T3 Int Int Int)))) L0 rfl fun v8 r8 => x_c (x_ixTI (x := a__law_p.c) r8 rfl (x_mul hm3 fun z4 _ hm4 => x_r0 (x_cons (x_op (x_op (x_vd (d := (enc (a__law_p : (T3 Int Int Int)))) L0 rfl fun v9 r9 => x_c (x_ixTI (x := a__law_p.c) r9 rfl (x_op (x_vd (d := (enc (a__law_v : (T3 Int Int Int)))) L0 rfl fun v10 r10 => x_c (x_ixTI (x := a__law_v.c) r10 rfl (x_mul hm4 fun z5 _ hm5 => x_nil (obE hm5 fun z6 hz1 hm6 => mk__law_point hz1 (L0.cond0 (.im (.int _) (.im (.int _) (.im (.int _) .nil))) rfl) fun v11 _ F1 => k0d L0 F1 fun L1 le1 r11 => x_fin (Q := Q) (ps := (fun (r : (T3 Int Int Int)) => [])) (rs := (fun (r : (T3 Int Int Int)) => (.imm (enc (r : (T3 Int Int Int)))))) (e := z6) hm6 kont (L1.fin hp0 r11))))))))))))))))))))))))))))))))))))))))))))))
abbrev sp__law_mixed (K : PySem.W.Frag) : Sp := fun vs H Q _ => ∃ (X : Addr → Prop) (p__law_bag_here : Addr) (a__law_ring : (List (T3 Int Int Int))) (a__law_bag_here : (List Int)) (r : ((T3 Int Int Int) × (List Int))), m__law_mixed a__law_ring a__law_bag_here = some r ∧ Cond K X H [.imm (enc (a__law_ring : (List (T3 Int Int Int)))), .mu p__law_bag_here (ml (a__law_bag_here : (List Int)))] vs ∧ ∀ v H', Fin K X H [p__law_bag_here] [(p__law_bag_here, (ml (r.2 : (List Int))))] (.imm (enc (r.1 : (T3 Int Int Int)))) v H' → Q v H'
theorem mk__law_mixed {K : PySem.W.Frag} {X : Addr → Prop} {H : Hp} {vs : List V} {Q : VK} {E : XK} {p__law_bag_here : Addr} {a__law_ring : (List (T3 Int Int Int))} {a__law_bag_here : (List Int)} {r : ((T3 Int Int Int) × (List Int))} (hm : m__law_mixed a__law_ring a__law_bag_here = some r) (c : Cond K X H [.imm (enc (a__law_ring : (List (T3 Int Int Int)))), .mu p__law_bag_here (ml (a__law_bag_here : (List Int)))] vs) (k : ∀ v H', Fin K X H [p__law_bag_here] [(p__law_bag_here, (ml (r.2 : (List Int))))] (.imm (enc (r.1 : (T3 Int Int Int)))) v H' → Q v H') : sp__law_mixed K vs H Q E := ⟨X, p__law_bag_here, a__law_ring, a__law_bag_here, r, hm, c, k⟩
abbrev n__law_mixed : List Str := ["_law_ring", "_law_bag_here", "_law_found", "_law_weights", "_law_p", "_law_weight"]
theorem sc__law_mixed : FnScope n__law_mixed ["_law_ring", "_law_bag_here"] (defScope s__law_mixed) := ⟨rfl, rfl, rfl, by decide +kernel, rfl, by decide +kernel, by decide +kernel⟩
theorem ok__law_mixed (T : Txt K mg) : FnOk P w K mg base CX0 3 T.A__law_mixed T.D__law_mixed ["_law_ring", "_law_bag_here"] (sp__law_mixed K) := by
  refine Fun.ok T.F__law_mixed sc__law_mixed (fun vs H Q E h => ?_) (fun cdv A outer s H vs Q E hr h => ?_)
  · obtain ⟨X, p__law_bag_here, a__law_ring, a__law_bag_here, r, hm, c, kont⟩ := h
    exact c.len
  · obtain ⟨X, p__law_bag_here, a__law_ring, a__law_bag_here, r, hm, c, kont⟩ := h
    refine ⟨_, (pss_cons (ps_set (i := 2) sc__law_mixed.nd rfl (Or.inl rfl) (pe_tup (pa_cons pe_int (pa_cons pe_int (pa_cons pe_int pa_nil)))))
      (pss_cons (ps_set (i := 3) sc__law_mixed.nd rfl (Or.inl rfl) pe_int)
      (pss_cons (ps_for PassesOwn.never rfl (pi_list (pv 0)) (pg_name (i := 4) sc__law_mixed.nd rfl (Or.inl rfl)) (pss_cons (ps_set (i := 5) sc__law_mixed.nd rfl (Or.inl rfl) (pe_op op_add pe_int (pe_call (ok__law_digit T) (hr.mono (by decide)) (by rfl) T.g__law_digit T.F__law_digit.kp T.b__law_digit .nil pass0 (pa_cons (pv 1) (pa_cons pe_int pa_nil)))))
      (pss_cons (ps_set (i := 2) sc__law_mixed.nd rfl (Or.inl rfl) (pe_call (ok__law_slid T) hr (by rfl) T.g__law_slid T.F__law_slid.kp T.b__law_slid .nil pass0 (pa_cons (pv 2) (pa_cons (pe_call (ok__law_point T) (hr.mono (by decide)) (by rfl) T.g__law_point T.F__law_point.kp T.b__law_point .nil pass0 (pa_cons (pe_op op_mulW (pe_ix (r := rIxT K) ix_tup (pv 4) pe_int (fun _ _ => rfl)) (pv 5)) (pa_cons (pe_op op_mulW (pe_ix (r := rIxT K) ix_tup (pv 4) pe_int (fun _ _ => rfl)) (pv 5)) (pa_cons (pe_ix (r := rIxT K) ix_tup (pv 4) pe_int (fun _ _ => rfl)) pa_nil)))) pa_nil))))
      (pss_one (ps_aug (i := 3) sc__law_mixed.nd rfl (Or.inl rfl) (pv 5) ip_add)))))
      (pss_one (ps_ret (pe_call (ok__law_point T) (hr.mono (by decide)) (by rfl) T.g__law_point T.F__law_point.kp T.b__law_point .nil pass0 (pa_cons (pe_ix (r := rIxT K) ix_tup (pv 2) pe_int (fun _ _ => rfl)) (pa_cons (pe_ix (r := rIxT K) ix_tup (pv 2) pe_int (fun _ _ => rfl)) (pa_cons (pe_op op_mulW (pe_ix (r := rIxT K) ix_tup (pv 2) pe_int (fun _ _ => rfl)) (pv 3)) pa_nil))))))))), ?_⟩
    have L0 : Lo ⟨K, X, H, muts [.imm (enc (a__law_ring : (List (T3 Int Int Int)))), .mu p__law_bag_here (ml (a__law_bag_here : (List Int)))], n__law_mixed.length⟩ X H (L2.start n__law_mixed vs) [.imm (enc (a__law_ring : (List (T3 Int Int Int)))), .mu p__law_bag_here (ml (a__law_bag_here : (List Int))), .unk, .unk, .unk, .unk] := c.start n__law_mixed (show (2 : Nat) ≤ 6 by decide)
    unfold m__law_mixed at hm
    refine x_seq (x_asg (x_tup (x_cons (x_c (x_cons (x_c (x_cons (x_c (x_nil (x_mkT L0 (.cons (.int _) (.cons (.int _) (.cons (.int _) .nil))) (show (3 : Nat) ≤ 16777216 by decide) fun v1 _ L1 le1 r1 => have r2 : Rep _ _ _ (enc ((T3.mk 0 0 1) : (T3 Int Int Int))) v1 := r1; x_bset (x0 := (T3.mk 0 0 1)) (d := fun found_1 => (enc (found_1 : (T3 Int Int Int)))) (Γf := fun found_1 => [.imm (enc (a__law_ring : (List (T3 Int Int Int)))), .mu p__law_bag_here (ml (a__law_bag_here : (List Int))), .imm (enc (found_1 : (T3 Int Int Int))), .unk, .unk, .unk]) hm L1 r2 (show (2 : Nat) < 6 by decide) (fun _ => rfl) fun found_1 _ hm1 L2 => ?_))))))))))
    refine x_seq (x_asg (x_c (x_set (d := (.int 0)) (Γ' := [.imm (enc (a__law_ring : (List (T3 Int Int Int)))), .mu p__law_bag_here (ml (a__law_bag_here : (List Int))), .imm (enc (found_1 : (T3 Int Int Int))), .imm (.int 0), .unk, .unk]) L2 (.int _) (show (3 : Nat) < 6 by decide) rfl fun _ L3 => ?_)))
    refine x_seq (x_tforL (x_vd (d := (enc (a__law_ring : (List (T3 Int Int Int))))) L3 rfl fun v2 r3 => x_foL (G := (fun (s1 : ((List Int) × (T3 Int Int Int) × Int)) => [.imm (enc (a__law_ring : (List (T3 Int Int Int)))), .mu p__law_bag_here (ml (s1.1 : (List Int))), .imm (enc (s1.2.1 : (T3 Int Int Int))), .imm (.int s1.2.2), .unk, .unk])) (s0 := (a__law_bag_here, found_1, 0)) (xs := a__law_ring) (L3.weak (Γ' := [.imm (enc (a__law_ring : (List (T3 Int Int Int)))), .mu p__law_bag_here (ml (a__law_bag_here : (List Int))), .imm (enc (found_1 : (T3 Int Int Int))), .imm (.int 0), .unk, .unk]) (.k (.k (.k (.k (.k (.k .e))))))) (fun _ _ => rfl) r3 hm1 (fun x1 s1 H1 _ u1 _ _ _ _ _ hm2 L4 r4 hN1 hC1 => ?_) (fun s2 _ _ hm3 L5 => ?_)))
    · refine x_set (d := (enc (x1 : (T3 Int Int Int)))) (Γ' := [.imm (enc (a__law_ring : (List (T3 Int Int Int)))), .mu p__law_bag_here (ml (s1.1 : (List Int))), .imm (enc (s1.2.1 : (T3 Int Int Int))), .imm (.int s1.2.2), .imm (enc (x1 : (T3 Int Int Int))), .unk]) L4 r4 (show (4 : Nat) < 6 by decide) rfl fun _ L6 => ?_
      refine x_seq (x_asg (x_op (x_c (x_call (x_cons (x_vm L6 rfl (x_cons (x_c (x_nil (obE hm2 fun z1 hz1 hm5 => mk__law_digit hz1 (L6.cond1 (i := 1) (.m (L6.mrep (i := 1) rfl) (.im (.int _) .nil)) rfl rfl rfl) fun _ F2 => k1 L6 F2 (i := 1) (Γ' := [.imm (enc (a__law_ring : (List (T3 Int Int Int)))), .mu p__law_bag_here (ml (z1.2 : (List Int))), .imm (enc (s1.2.1 : (T3 Int Int Int))), .imm (.int s1.2.2), .imm (enc (x1 : (T3 Int Int Int))), .unk]) rfl rfl rfl fun L7 le2 => x_r0 (x_bset (x0 := (1 + z1.1)) (d := fun weight_1 => (.int weight_1)) (Γf := fun weight_1 => [.imm (enc (a__law_ring : (List (T3 Int Int Int)))), .mu p__law_bag_here (ml (z1.2 : (List Int))), .imm (enc (s1.2.1 : (T3 Int Int Int))), .imm (.int s1.2.2), .imm (enc (x1 : (T3 Int Int Int))), .imm (.int weight_1)]) hm5 L7 (.int _) (show (5 : Nat) < 6 by decide) (fun _ => rfl) fun weight_1 _ hm6 L8 => ?_)))))))))))
      refine x_seq (x_asg (x_call (x_cons (x_vd (d := (enc (s1.2.1 : (T3 Int Int Int)))) L8 rfl fun v4 r5 => x_cons (x_call (x_cons (x_op (x_op (x_vd (d := (enc (x1 : (T3 Int Int Int)))) L8 rfl fun v5 r6 => x_c (x_ixTI (x := x1.a) r6 rfl (x_vI (x := weight_1) L8 rfl (x_mul hm6 fun z2 _ hm7 => x_cons (x_op (x_op (x_vd (d := (enc (x1 : (T3 Int Int Int)))) L8 rfl fun v6 r7 => x_c (x_ixTI (x := x1.b) r7 rfl (x_vI (x := weight_1) L8 rfl (x_mul hm7 fun z3 _ hm8 => x_cons (x_op (x_vd (d := (enc (x1 : (T3 Int Int Int)))) L8 rfl fun v7 r8 => x_c (x_ixTI (x := x1.c) r8 rfl (x_nil (obE hm8 fun z4 hz2 hm9 => mk__law_point hz2 (L8.cond0 (.im (.int _) (.im (.int _) (.im (.int _) .nil))) rfl) fun v8 _ F3 => k0d L8 F3 fun L9 le3 r9 => have r10 := le3 _ _ r5; x_nil (obE hm9 fun z5 hz3 hm10 => mk__law_slid hz3 (L9.cond0 (.im r10 (.im r9 .nil)) rfl) fun v9 _ F4 => k0d L9 F4 fun L10 le4 r11 => x_set (d := (enc (z5 : (T3 Int Int Int)))) (Γ' := [.imm (enc (a__law_ring : (List (T3 Int Int Int)))), .mu p__law_bag_here (ml (z1.2 : (List Int))), .imm (enc (z5 : (T3 Int Int Int))), .imm (.int s1.2.2), .imm (enc (x1 : (T3 Int Int Int))), .imm (.int weight_1)]) L10 r11 (show (2 : Nat) < 6 by decide) rfl fun _ L11 => ?_))))))))))))))))))))))))
      refine x_aug (x := s1.2.2) L11 rfl (x_vI (x := weight_1) L11 rfl (x_augI (obE hm10 fun weights_1 hahm11 hm11 => x_augS (z := (s1.2.2 + weight_1)) (Γ' := [.imm (enc (a__law_ring : (List (T3 Int Int Int)))), .mu p__law_bag_here (ml (z1.2 : (List Int))), .imm (enc (z5 : (T3 Int Int Int))), .imm (.int weights_1), .imm (enc (x1 : (T3 Int Int Int))), .imm (.int weight_1)]) L11 (show (3 : Nat) < 6 by decide) (by cases hahm11; rfl) fun _ L12 => ?_)))
      exact x_leaf (G := (fun (s1 : ((List Int) × (T3 Int Int Int) × Int)) => [.imm (enc (a__law_ring : (List (T3 Int Int Int)))), .mu p__law_bag_here (ml (s1.1 : (List Int))), .imm (enc (s1.2.1 : (T3 Int Int Int))), .imm (.int s1.2.2), .unk, .unk])) (e := (z1.2, z5, weights_1)) hm11 hN1 (L12.weak (Γ' := [.imm (enc (a__law_ring : (List (T3 Int Int Int)))), .mu p__law_bag_here (ml (z1.2 : (List Int))), .imm (enc (z5 : (T3 Int Int Int))), .imm (.int weights_1), .unk, .unk]) (.k (.k (.k (.k (.d (.d .e)))))))
    exact x_ret (x_call (x_cons (x_op (x_vd (d := (enc (s2.2.1 : (T3 Int Int Int)))) L5 rfl fun v10 r12 => x_c (x_ixTI (x := s2.2.1.a) r12 rfl (x_cons (x_op (x_vd (d := (enc (s2.2.1 : (T3 Int Int Int)))) L5 rfl fun v11 r13 => x_c (x_ixTI (x := s2.2.1.b) r13 rfl (x_cons (x_op (x_op (x_vd (d := (enc (s2.2.1 : (T3 Int Int Int)))) L5 rfl fun v12 r14 => x_c (x_ixTI (x := s2.2.1.c) r14 rfl (x_vI (x := s2.2.2) L5 rfl (x_mul hm3 fun z6 _ hm12 => x_nil (obE hm12 fun z7 hz4 hm13 => mk__law_point hz4 (L5.cond0 (.im (.int _) (.im (.int _) (.im (.int _) .nil))) rfl) fun v13 _ F5 => k0d L5 F5 fun L13 le5 r15 => x_fin (Q := Q) (ps := (fun (r : ((T3 Int Int Int) × (List Int))) => [(p__law_bag_here, (ml (r.2 : (List Int))))])) (rs := (fun (r : ((T3 Int Int Int) × (List Int))) => (.imm (enc (r.1 : (T3 Int Int Int)))))) (e := (z7, s2.1)) hm13 kont (L13.fin (hp1 (L13.mrep (i := 1) rfl)) r15))))))))))))))))))
abbrev sp__law_fan (K : PySem.W.Frag) : Sp := fun vs H Q _ => ∃ (X : Addr → Prop) (p__law_bag_here : Addr) (a__law_ring : (List (T3 Int Int Int))) (a__law_bag_here : (List Int)) (r : ((List (List (T3 Int Int Int))) × (List Int))), m__law_fan a__law_ring a__law_bag_here = some r ∧ Cond K X H [.imm (enc (a__law_ring : (List (T3 Int Int Int)))), .mu p__law_bag_here (ml (a__law_bag_here : (List Int)))] vs ∧ ∀ p H', Fin K X H [p__law_bag_here] [(p__law_bag_here, (ml (r.2 : (List Int))))] (.new (ml (r.1 : (List (List (T3 Int Int Int)))))) (.ref p) H' → Q (.ref p) H'
theorem mk__law_fan {K : PySem.W.Frag} {X : Addr → Prop} {H : Hp} {vs : List V} {Q : VK} {E : XK} {p__law_bag_here : Addr} {a__law_ring : (List (T3 Int Int Int))} {a__law_bag_here : (List Int)} {r : ((List (List (T3 Int Int Int))) × (List Int))} (hm : m__law_fan a__law_ring a__law_bag_here = some r) (c : Cond K X H [.imm (enc (a__law_ring : (List (T3 Int Int Int)))), .mu p__law_bag_here (ml (a__law_bag_here : (List Int)))] vs) (k : ∀ p H', Fin K X H [p__law_bag_here] [(p__law_bag_here, (ml (r.2 : (List Int))))] (.new (ml (r.1 : (List (List (T3 Int Int Int)))))) (.ref p) H' → Q (.ref p) H') : sp__law_fan K vs H Q E := ⟨X, p__law_bag_here, a__law_ring, a__law_bag_here, r, hm, c, k⟩
abbrev n__law_fan : List Str := ["_law_ring", "_law_bag_here", "_law_p", "_law_made", "_law_k"]
theorem sc__law_fan : FnScope n__law_fan ["_law_ring", "_law_bag_here"] (defScope s__law_fan) := ⟨rfl, rfl, rfl, by decide +kernel, rfl, by decide +kernel, by decide +kernel⟩
theorem ok__law_fan (T : Txt K mg) : FnOk P w K mg base CX0 4 T.A__law_fan T.D__law_fan ["_law_ring", "_law_bag_here"] (sp__law_fan K) := by
  refine Fun.ok T.F__law_fan sc__law_fan (fun vs H Q E h => ?_) (fun cdv A outer s H vs Q E hr h => ?_)
  · obtain ⟨X, p__law_bag_here, a__law_ring, a__law_bag_here, r, hm, c, kont⟩ := h
    exact c.len
  · obtain ⟨X, p__law_bag_here, a__law_ring, a__law_bag_here, r, hm, c, kont⟩ := h
    refine ⟨_, (pss_cons (ps_set (i := 2) sc__law_fan.nd rfl (Or.inl rfl) (pe_call (ok__law_mixed T) hr (by rfl) T.g__law_mixed T.F__law_mixed.kp T.b__law_mixed .nil pass0 (pa_cons (pv 0) (pa_cons (pv 1) pa_nil))))
      (pss_cons (ps_set (i := 3) sc__law_fan.nd rfl (Or.inl rfl) (pe_lst pa_nil))
      (pss_cons (ps_for PassesOwn.never rfl (pi_range1 (by rfl) T.z_range (pa_cons (pe_callB (r := rLenX K) call_lenX (by rfl) T.z_len (by decide +kernel) (pa_cons (pv 0) pa_nil)) pa_nil)) (pg_name (i := 4) sc__law_fan.nd rfl (Or.inl rfl)) (pss_one (ps_expr (pe_bm PySem.F.plainAttrs_list PySem.F.slot_list_append PySem.F.type_list_append mt_append (pv 3) (pa_cons (pe_lst (pa_cons (pv 2) (pa_cons (pe_ix (r := rIxL K) ix_list (pv 0) (pe_op op_sub (pv 4) pe_int) (fun _ _ => rfl)) (pa_cons (pe_ix (r := rIxL K) ix_list (pv 0) (pv 4) (fun _ _ => rfl)) pa_nil)))) pa_nil)))))
      (pss_one (ps_ret (pv 3)))))), ?_⟩
    have L0 : Lo ⟨K, X, H, muts [.imm (enc (a__law_ring : (List (T3 Int Int Int)))), .mu p__law_bag_here (ml (a__law_bag_here : (List Int)))], n__law_fan.length⟩ X H (L2.start n__law_fan vs) [.imm (enc (a__law_ring : (List (T3 Int Int Int)))), .mu p__law_bag_here (ml (a__law_bag_here : (List Int))), .unk, .unk, .unk] := c.start n__law_fan (show (2 : Nat) ≤ 5 by decide)
    unfold m__law_fan at hm
    refine x_seq (x_asg (x_call (x_cons (x_vd (d := (enc (a__law_ring : (List (T3 Int Int Int))))) L0 rfl fun v1 r1 => x_cons (x_vm L0 rfl (x_nil (obE hm fun z1 hz1 hm1 => mk__law_mixed hz1 (L0.cond1 (i := 1) (.im r1 (.m (L0.mrep (i := 1) rfl) .nil)) rfl rfl rfl) fun v2 _ F1 => k1d L0 F1 (i := 1) (Γ' := [.imm (enc (a__law_ring : (List (T3 Int Int Int)))), .mu p__law_bag_here (ml (z1.2 : (List Int))), .unk, .unk, .unk]) rfl rfl rfl fun L1 le1 r2 => x_set (d := (enc (z1.1 : (T3 Int Int Int)))) (Γ' := [.imm (enc (a__law_ring : (List (T3 Int Int Int)))), .mu p__law_bag_here (ml (z1.2 : (List Int))), .imm (enc (z1.1 : (T3 Int Int Int))), .unk, .unk]) L1 r2 (show (2 : Nat) < 5 by decide) rfl fun _ L2 => ?_)))))))
    refine x_seq (x_asg (x_lst (x_nil (x_mkN L2 .nil (show (0 : Nat) ≤ 16777216 by decide) fun p1 _ _ h01 hx1 L3 le2 => x_setN (Γ := [.imm (enc (a__law_ring : (List (T3 Int Int Int)))), .mu p__law_bag_here (ml (z1.2 : (List Int))), .imm (enc (z1.1 : (T3 Int Int Int))), .unk, .unk]) (p := p1) (o := (ml (([] : (List (List (T3 Int Int Int)))) : (List (List (T3 Int Int Int)))))) (Γ' := [.imm (enc (a__law_ring : (List (T3 Int Int Int)))), .mu p__law_bag_here (ml (z1.2 : (List Int))), .imm (enc (z1.1 : (T3 Int Int Int))), .mu p1 (ml (([] : (List (List (T3 Int Int Int)))) : (List (List (T3 Int Int Int))))), .unk]) L3 (show (3 : Nat) < 5 by decide) (show (3 : Nat) < 5 by decide) rfl fun _ L4 => ?_))))
    refine x_seq (x_tforR1 (x_cons (x_cb (x_cons (x_vd (d := (enc (a__law_ring : (List (T3 Int Int Int))))) L4 rfl fun v3 r3 => x_nil (x_lenL (xs := a__law_ring) r3 (x_nil (x_r1 hm1 fun hm2 => x_foR (G := (fun (s1 : (List (List (T3 Int Int Int)))) => [.imm (enc (a__law_ring : (List (T3 Int Int Int)))), .mu p__law_bag_here (ml (z1.2 : (List Int))), .imm (enc (z1.1 : (T3 Int Int Int))), .mu p1 (ml (s1 : (List (List (T3 Int Int Int))))), .unk])) (s0 := ([] : (List (List (T3 Int Int Int))))) (L4.weak (Γ' := [.imm (enc (a__law_ring : (List (T3 Int Int Int)))), .mu p__law_bag_here (ml (z1.2 : (List Int))), .imm (enc (z1.1 : (T3 Int Int Int))), .mu p1 (ml (([] : (List (List (T3 Int Int Int)))) : (List (List (T3 Int Int Int))))), .unk]) (.k (.k (.k (.k (.k .e)))))) (fun _ _ => rfl) hm2 (fun x1 s1 H1 _ u1 _ _ _ _ _ hm3 L5 r4 hN1 hC1 => ?_) (fun s2 _ _ hm4 L6 => ?_)))))))))
    · refine x_set (d := (.int x1)) (Γ' := [.imm (enc (a__law_ring : (List (T3 Int Int Int)))), .mu p__law_bag_here (ml (z1.2 : (List Int))), .imm (enc (z1.1 : (T3 Int Int Int))), .mu p1 (ml (s1 : (List (List (T3 Int Int Int))))), .imm (.int x1)]) L5 r4 (show (4 : Nat) < 5 by decide) rfl fun _ L7 => ?_
      refine x_drop (x_bm (x_vm L7 rfl (x_tyM L7 (i := 3) rfl (?_))))
      refine x_cons (x_lst (x_cons (x_vd (d := (enc (z1.1 : (T3 Int Int Int)))) L7 rfl fun v4 r5 => x_cons (x_op (x_vd (d := (enc (a__law_ring : (List (T3 Int Int Int))))) L7 rfl fun v5 r6 => x_op (x_vI (x := x1) L7 rfl (x_c (x_r0 (x_ixL (xs := a__law_ring) hm3 r6 fun x2 v6 _ hm6 r7 => x_cons (x_op (x_vd (d := (enc (a__law_ring : (List (T3 Int Int Int))))) L7 rfl fun v7 r8 => x_vI (x := x1) L7 rfl (x_ixL (xs := a__law_ring) hm6 r8 fun x3 v8 _ hm7 r9 => x_nil (x_mkL L7 (.cons r5 (.cons r7 (.cons r9 .nil))) (show (3 : Nat) ≤ 16777216 by decide) fun v9 _ L8 le3 r10 => have r11 : Rep _ _ _ (enc ([z1.1, x2, x3] : (List (T3 Int Int Int)))) v9 := r10; x_nil (x_append (xs := s1) (x := [z1.1, x2, x3]) (i := 3) (Γ' := [.imm (enc (a__law_ring : (List (T3 Int Int Int)))), .mu p__law_bag_here (ml (z1.2 : (List Int))), .imm (enc (z1.1 : (T3 Int Int Int))), .mu p1 (ml ((s1 ++ [[z1.1, x2, x3]]) : (List (List (T3 Int Int Int))))), .imm (.int x1)]) L8 rfl hm7 r11 rfl fun _ hm8 L9 le4 => ?_))))))))))))))
      exact x_leaf (G := (fun (s1 : (List (List (T3 Int Int Int)))) => [.imm (enc (a__law_ring : (List (T3 Int Int Int)))), .mu p__law_bag_here (ml (z1.2 : (List Int))), .imm (enc (z1.1 : (T3 Int Int Int))), .mu p1 (ml (s1 : (List (List (T3 Int Int Int))))), .unk])) (e := (s1 ++ [[z1.1, x2, x3]])) hm8 hN1 (L9.weak (Γ' := [.imm (enc (a__law_ring : (List (T3 Int Int Int)))), .mu p__law_bag_here (ml (z1.2 : (List Int))), .imm (enc (z1.1 : (T3 Int Int Int))), .mu p1 (ml ((s1 ++ [[z1.1, x2, x3]]) : (List (List (T3 Int Int Int))))), .unk]) (.k (.k (.k (.k (.d .e))))))
    exact x_ret (x_vm L6 rfl (x_finP (Q := Q) (ps := (fun (r : ((List (List (T3 Int Int Int))) × (List Int))) => [(p__law_bag_here, (ml (r.2 : (List Int))))])) (o := fun (r : ((List (List (T3 Int Int Int))) × (List Int))) => (ml (r.1 : (List (List (T3 Int Int Int)))))) (e := (s2, z1.2)) hm4 kont (L6.finM (p := p1) (i := 3) (hp1 (L6.mrep (i := 1) rfl)) rfl h01)))
abbrev sp__law_parted (K : PySem.W.Frag) : Sp := fun vs H Q _ => ∃ (X : Addr → Prop) (p__law_bag_here : Addr) (a__law_rings : (List (List (T3 Int Int Int)))) (a__law_bag_here : (List Int)) (a__law_many : Int) (r : ((List (List (T3 Int Int Int))) × (List Int))), m__law_parted a__law_rings a__law_bag_here a__law_many = some r ∧ Cond K X H [.imm (enc (a__law_rings : (List (List (T3 Int Int Int))))), .mu p__law_bag_here (ml (a__law_bag_here : (List Int))), .imm (.int a__law_many)] vs ∧ ∀ v H', Fin K X H [p__law_bag_here] [(p__law_bag_here, (ml (r.2 : (List Int))))] (.imm (enc (r.1 : (List (List (T3 Int Int Int)))))) v H' → Q v H'
theorem mk__law_parted {K : PySem.W.Frag} {X : Addr → Prop} {H : Hp} {vs : List V} {Q : VK} {E : XK} {p__law_bag_here : Addr} {a__law_rings : (List (List (T3 Int Int Int)))} {a__law_bag_here : (List Int)} {a__law_many : Int} {r : ((List (List (T3 Int Int Int))) × (List Int))} (hm : m__law_parted a__law_rings a__law_bag_here a__law_many = some r) (c : Cond K X H [.imm (enc (a__law_rings : (List (List (T3 Int Int Int))))), .mu p__law_bag_here (ml (a__law_bag_here : (List Int))), .imm (.int a__law_many)] vs) (k : ∀ v H', Fin K X H [p__law_bag_here] [(p__law_bag_here, (ml (r.2 : (List Int))))] (.imm (enc (r.1 : (List (List (T3 Int Int Int)))))) v H' → Q v H') : sp__law_parted K vs H Q E := ⟨X, p__law_bag_here, a__law_rings, a__law_bag_here, a__law_many, r, hm, c, k⟩
abbrev n__law_parted : List Str := ["_law_rings", "_law_bag_here", "_law_many", "_law_made", "_law_k", "_law_at_place"]
theorem sc__law_parted : FnScope n__law_parted ["_law_rings", "_law_bag_here", "_law_many"] (defScope s__law_parted) := ⟨rfl, rfl, rfl, by decide +kernel, rfl, by decide +kernel, by decide +kernel⟩
theorem ok__law_parted (T : Txt K mg) : FnOk P w K mg base CX0 5 T.A__law_parted T.D__law_parted ["_law_rings", "_law_bag_here", "_law_many"] (sp__law_parted K) := by
  refine Fun.ok T.F__law_parted sc__law_parted (fun vs H Q E h => ?_) (fun cdv A outer s H vs Q E hr h => ?_)
  · obtain ⟨X, p__law_bag_here, a__law_rings, a__law_bag_here, a__law_many, r, hm, c, kont⟩ := h
    exact c.len
  · obtain ⟨X, p__law_bag_here, a__law_rings, a__law_bag_here, a__law_many, r, hm, c, kont⟩ := h
    refine ⟨_, (pss_cons (ps_set (i := 3) sc__law_parted.nd rfl (Or.inl rfl) (pe_callTy (r := rListX K) call_listX (by rfl) T.z_list (by decide +kernel) (pa_cons (pv 0) pa_nil)))
      (pss_cons (ps_for PassesOwn.never rfl (pi_range1 (by rfl) T.z_range (pa_cons (pv 2) pa_nil)) (pg_name (i := 4) sc__law_parted.nd rfl (Or.inl rfl)) (pss_cons (ps_set (i := 5) sc__law_parted.nd rfl (Or.inl rfl) (pe_call (ok__law_digit T) (hr.mono (by decide)) (by rfl) T.g__law_digit T.F__law_digit.kp T.b__law_digit .nil pass0 (pa_cons (pv 1) (pa_cons (pe_callB (r := rLenX K) call_lenX (by rfl) T.z_len (by decide +kernel) (pa_cons (pv 3) pa_nil)) pa_nil))))
      (pss_one (ps_if (pt_cmpR op_lt (pe_callB (r := rLenX K) call_lenX (by rfl) T.z_len (by decide +kernel) (pa_cons (pv 3) pa_nil)) pe_int (nomark _)) (pss_one (ps_set (i := 3) sc__law_parted.nd rfl (Or.inl rfl) (pe_op op_catR (pe_op op_catR (pe_slice (r := rSlL K) sl_list (pv 3) po_none (po_some (pv 5))) (pe_call (ok__law_fan T) hr (by rfl) T.g__law_fan T.F__law_fan.kp T.b__law_fan .nil pass0 (pa_cons (pe_ix (r := rIxL K) ix_list (pv 3) (pv 5) (fun _ _ => rfl)) (pa_cons (pv 1) pa_nil)))) (pe_slice (r := rSlL K) sl_list (pv 3) (po_some (pe_op op_add (pv 5) pe_int)) po_none)))) pss_nil))))
      (pss_one (ps_ret (pv 3))))), ?_⟩
    have L0 : Lo ⟨K, X, H, muts [.imm (enc (a__law_rings : (List (List (T3 Int Int Int))))), .mu p__law_bag_here (ml (a__law_bag_here : (List Int))), .imm (.int a__law_many)], n__law_parted.length⟩ X H (L2.start n__law_parted vs) [.imm (enc (a__law_rings : (List (List (T3 Int Int Int))))), .mu p__law_bag_here (ml (a__law_bag_here : (List Int))), .imm (.int a__law_many), .unk, .unk, .unk] := c.start n__law_parted (show (3 : Nat) ≤ 6 by decide)
    unfold m__law_parted at hm
    refine x_seq (x_asg (x_cb (x_cons (x_vd (d := (enc (a__law_rings : (List (List (T3 Int Int Int)))))) L0 rfl fun v1 r1 => x_nil (x_listL (xs := a__law_rings) L0 r1 fun v2 _ L1 le1 r2 => have r3 : Rep _ _ _ (enc (a__law_rings : (List (List (T3 Int Int Int))))) v2 := r2; x_set (d := (enc (a__law_rings : (List (List (T3 Int Int Int)))))) (Γ' := [.imm (enc (a__law_rings : (List (List (T3 Int Int Int))))), .mu p__law_bag_here (ml (a__law_bag_here : (List Int))), .imm (.int a__law_many), .imm (enc (a__law_rings : (List (List (T3 Int Int Int))))), .unk, .unk]) L1 r3 (show (3 : Nat) < 6 by decide) rfl fun _ L2 => ?_)))))
    refine x_seq (x_tforR1 (x_cons (x_vI (x := a__law_many) L2 rfl (x_nil (x_r1 hm fun hm1 => x_foR (G := (fun (s1 : ((List Int) × (List (List (T3 Int Int Int))))) => [.imm (enc (a__law_rings : (List (List (T3 Int Int Int))))), .mu p__law_bag_here (ml (s1.1 : (List Int))), .imm (.int a__law_many), .imm (enc (s1.2 : (List (List (T3 Int Int Int))))), .unk, .unk])) (s0 := (a__law_bag_here, a__law_rings)) (L2.weak (Γ' := [.imm (enc (a__law_rings : (List (List (T3 Int Int Int))))), .mu p__law_bag_here (ml (a__law_bag_here : (List Int))), .imm (.int a__law_many), .imm (enc (a__law_rings : (List (List (T3 Int Int Int))))), .unk, .unk]) (.k (.k (.k (.k (.k (.k .e))))))) (fun _ _ => rfl) hm1 (fun x1 s1 H1 _ u1 _ _ _ _ _ hm2 L3 r4 hN1 hC1 => ?_) (fun s2 _ _ hm3 L4 => ?_))))))
    · refine x_set (d := (.int x1)) (Γ' := [.imm (enc (a__law_rings : (List (List (T3 Int Int Int))))), .mu p__law_bag_here (ml (s1.1 : (List Int))), .imm (.int a__law_many), .imm (enc (s1.2 : (List (List (T3 Int Int Int))))), .imm (.int x1), .unk]) L3 r4 (show (4 : Nat) < 6 by decide) rfl fun _ L5 => ?_
      refine x_seq (x_asg (x_call (x_cons (x_vm L5 rfl (x_cons (x_cb (x_cons (x_vd (d := (enc (s1.2 : (List (List (T3 Int Int Int)))))) L5 rfl fun v3 r5 => x_nil (x_lenL (xs := s1.2) r5 (x_nil (obE hm2 fun z1 hz1 hm5 => mk__law_digit hz1 (L5.cond1 (i := 1) (.m (L5.mrep (i := 1) rfl) (.im (.int _) .nil)) rfl rfl rfl) fun _ F2 => k1 L5 F2 (i := 1) (Γ' := [.imm (enc (a__law_rings : (List (List (T3 Int Int Int))))), .mu p__law_bag_here (ml (z1.2 : (List Int))), .imm (.int a__law_many), .imm (enc (s1.2 : (List (List (T3 Int Int Int))))), .imm (.int x1), .unk]) rfl rfl rfl fun L6 le2 => x_set (d := (.int z1.1)) (Γ' := [.imm (enc (a__law_rings : (List (List (T3 Int Int Int))))), .mu p__law_bag_here (ml (z1.2 : (List Int))), .imm (.int a__law_many), .imm (enc (s1.2 : (List (List (T3 Int Int Int))))), .imm (.int x1), .imm (.int z1.1)]) L6 (.int _) (show (5 : Nat) < 6 by decide) rfl fun _ L7 => ?_)))))))))))
      refine x_ifS (x_test (x_op (x_cb (x_cons (x_vd (d := (enc (s1.2 : (List (List (T3 Int Int Int)))))) L7 rfl fun v5 r6 => x_nil (x_lenL (xs := s1.2) r6 (x_c (x_r0 (x_kb (x_join (G := (fun (s3 : ((List Int) × (List (List (T3 Int Int Int))))) => [.imm (enc (a__law_rings : (List (List (T3 Int Int Int))))), .mu p__law_bag_here (ml (s3.1 : (List Int))), .imm (.int a__law_many), .imm (enc (s3.2 : (List (List (T3 Int Int Int))))), .imm (.int x1), .imm (.int z1.1)])) L7 hm5 (fun _ hm6 _ hN2 => ?_) (fun _ hm6 _ hN2 => ?_) fun s3 X1 _ _ hm7 L8 => ?_))))))))))
      · refine x_asg (x_op (x_op (x_sl (x_vd (d := (enc (s1.2 : (List (List (T3 Int Int Int)))))) L7 rfl fun v6 r7 => x_noP (x_part (x_vI (x := z1.1) L7 rfl (x_partK (x_slL (xs := s1.2) L7 r7 fun v7 _ L9 le3 r8 => have r9 : Rep _ _ _ (enc ((slice s1.2 none (some z1.1)) : (List (List (T3 Int Int Int))))) v7 := r8; x_call (x_cons (x_op (x_vd (d := (enc (s1.2 : (List (List (T3 Int Int Int)))))) L9 rfl fun v8 r10 => x_vI (x := z1.1) L9 rfl (x_ixL (xs := s1.2) hm6 r10 fun x2 v9 _ hm8 r11 => x_cons (x_vm L9 rfl (x_nil (obE hm8 fun z2 hz2 hm9 => mk__law_fan hz2 (L9.cond1 (i := 1) (.im r11 (.m (L9.mrep (i := 1) rfl) .nil)) rfl rfl rfl) fun p1 _ F3 => k1i L9 F3 (i := 1) (Γ' := [.imm (enc (a__law_rings : (List (List (T3 Int Int Int))))), .mu p__law_bag_here (ml (z2.2 : (List Int))), .imm (.int a__law_many), .imm (enc (s1.2 : (List (List (T3 Int Int Int))))), .imm (.int x1), .imm (.int z1.1)]) rfl rfl rfl fun L10 le4 r12 => have r13 := le4 _ _ r9; have r14 : Rep _ _ _ (enc (z2.1 : (List (List (T3 Int Int Int))))) (.ref p1) := r12; x_cat L10 hm9 r13 r14 fun v10 _ hm10 L11 le5 r15 => have r16 : Rep _ _ _ (enc (((slice s1.2 none (some z1.1)) ++ z2.1) : (List (List (T3 Int Int Int))))) v10 := r15; x_sl (x_vd (d := (enc (s1.2 : (List (List (T3 Int Int Int)))))) L11 rfl fun v11 r17 => x_part (x_op (x_vI (x := z1.1) L11 rfl (x_c (x_r0 (x_partK (x_noP (x_slL (xs := s1.2) L11 r17 fun v12 _ L12 le6 r18 => have r19 := le6 _ _ r16; have r20 : Rep _ _ _ (enc ((slice s1.2 (some ((z1.1 + 1))) none) : (List (List (T3 Int Int Int))))) v12 := r18; x_cat L12 hm10 r19 r20 fun v13 _ hm11 L13 le7 r21 => have r22 : Rep _ _ _ (enc ((((slice s1.2 none (some z1.1)) ++ z2.1) ++ (slice s1.2 (some ((z1.1 + 1))) none)) : (List (List (T3 Int Int Int))))) v13 := r21; x_bset (x0 := (((slice s1.2 none (some z1.1)) ++ z2.1) ++ (slice s1.2 (some ((z1.1 + 1))) none))) (d := fun made_1 => (enc (made_1 : (List (List (T3 Int Int Int)))))) (Γf := fun made_1 => [.imm (enc (a__law_rings : (List (List (T3 Int Int Int))))), .mu p__law_bag_here (ml (z2.2 : (List Int))), .imm (.int a__law_many), .imm (enc (made_1 : (List (List (T3 Int Int Int))))), .imm (.int x1), .imm (.int z1.1)]) hm11 L13 r22 (show (3 : Nat) < 6 by decide) (fun _ => rfl) fun made_1 _ hm12 L14 => ?_)))))))))))))))))))))))
        exact x_leaf (G := (fun (s3 : ((List Int) × (List (List (T3 Int Int Int))))) => [.imm (enc (a__law_rings : (List (List (T3 Int Int Int))))), .mu p__law_bag_here (ml (s3.1 : (List Int))), .imm (.int a__law_many), .imm (enc (s3.2 : (List (List (T3 Int Int Int))))), .imm (.int x1), .imm (.int z1.1)])) (e := (z2.2, made_1)) hm12 hN2 (L14.weak (Γ' := [.imm (enc (a__law_rings : (List (List (T3 Int Int Int))))), .mu p__law_bag_here (ml (z2.2 : (List Int))), .imm (.int a__law_many), .imm (enc (made_1 : (List (List (T3 Int Int Int))))), .imm (.int x1), .imm (.int z1.1)]) (.k (.k (.k (.k (.k (.k .e)))))))
      · refine x_next ?_
        exact x_leaf (G := (fun (s3 : ((List Int) × (List (List (T3 Int Int Int))))) => [.imm (enc (a__law_rings : (List (List (T3 Int Int Int))))), .mu p__law_bag_here (ml (s3.1 : (List Int))), .imm (.int a__law_many), .imm (enc (s3.2 : (List (List (T3 Int Int Int))))), .imm (.int x1), .imm (.int z1.1)])) (e := (z1.2, s1.2)) hm6 hN2 (L7.weak (Γ' := [.imm (enc (a__law_rings : (List (List (T3 Int Int Int))))), .mu p__law_bag_here (ml (z1.2 : (List Int))), .imm (.int a__law_many), .imm (enc (s1.2 : (List (List (T3 Int Int Int))))), .imm (.int x1), .imm (.int z1.1)]) (.k (.k (.k (.k (.k (.k .e)))))))
      exact x_leaf (G := (fun (s1 : ((List Int) × (List (List (T3 Int Int Int))))) => [.imm (enc (a__law_rings : (List (List (T3 Int Int Int))))), .mu p__law_bag_here (ml (s1.1 : (List Int))), .imm (.int a__law_many), .imm (enc (s1.2 : (List (List (T3 Int Int Int))))), .unk, .unk])) (e := (s3.1, s3.2)) hm7 hN1 (L8.weak (Γ' := [.imm (enc (a__law_rings : (List (List (T3 Int Int Int))))), .mu p__law_bag_here (ml (s3.1 : (List Int))), .imm (.int a__law_many), .imm (enc (s3.2 : (List (List (T3 Int Int Int))))), .unk, .unk]) (.k (.k (.k (.k (.d (.d .e)))))))
    exact x_ret (x_vd (d := (enc (s2.2 : (List (List (T3 Int Int Int)))))) L4 rfl fun v14 r23 => x_fin (Q := Q) (ps := (fun (r : ((List (List (T3 Int Int Int))) × (List Int))) => [(p__law_bag_here, (ml (r.2 : (List Int))))])) (rs := (fun (r : ((List (List (T3 Int Int Int))) × (List Int))) => (.imm (enc (r.1 : (List (List (T3 Int Int Int)))))))) (e := (s2.2, s2.1)) hm3 kont (L4.fin (hp1 (L4.mrep (i := 1) rfl)) r23))
abbrev sp__law_spread (K : PySem.W.Frag) : Sp := fun vs H Q _ => ∃ (X : Addr → Prop) (p__law_bag_here : Addr) (a__law_rings : (List (List (T3 Int Int Int)))) (a__law_bag_here : (List Int)) (a__law_turning : Bool) (r : ((List (T3 (List (T3 Int Int Int)) Bool (T3 Int Int Int))) × (List Int))), m__law_spread a__law_rings a__law_bag_here a__law_turning = some r ∧ Cond K X H [.imm (enc (a__law_rings : (List (List (T3 Int Int Int))))), .mu p__law_bag_here (ml (a__law_bag_here : (List Int))), .imm (.bool a__law_turning)] vs ∧ ∀ p H', Fin K X H [p__law_bag_here] [(p__law_bag_here, (ml (r.2 : (List Int))))] (.new (ml (r.1 : (List (T3 (List (T3 Int Int Int)) Bool (T3 Int Int Int)))))) (.ref p) H' → Q (.ref p) H'
theorem mk__law_spread {K : PySem.W.Frag} {X : Addr → Prop} {H : Hp} {vs : List V} {Q : VK} {E : XK} {p__law_bag_here : Addr} {a__law_rings : (List (List (T3 Int Int Int)))} {a__law_bag_here : (List Int)} {a__law_turning : Bool} {r : ((List (T3 (List (T3 Int Int Int)) Bool (T3 Int Int Int))) × (List Int))} (hm : m__law_spread a__law_rings a__law_bag_here a__law_turning = some r) (c : Cond K X H [.imm (enc (a__law_rings : (List (List (T3 Int Int Int))))), .mu p__law_bag_here (ml (a__law_bag_here : (List Int))), .imm (.bool a__law_turning)] vs) (k : ∀ p H', Fin K X H [p__law_bag_here] [(p__law_bag_here, (ml (r.2 : (List Int))))] (.new (ml (r.1 : (List (T3 (List (T3 Int Int Int)) Bool (T3 Int Int Int)))))) (.ref p) H' → Q (.ref p) H') : sp__law_spread K vs H Q E := ⟨X, p__law_bag_here, a__law_rings, a__law_bag_here, a__law_turning, r, hm, c, k⟩
abbrev n__law_spread : List Str := ["_law_rings", "_law_bag_here", "_law_turning", "_law_made", "_law_k", "_law_flag", "_law_step"]
theorem sc__law_spread : FnScope n__law_spread ["_law_rings", "_law_bag_here", "_law_turning"] (defScope s__law_spread) := ⟨rfl, rfl, rfl, by decide +kernel, rfl, by decide +kernel, by decide +kernel⟩
theorem ok__law_spread (T : Txt K mg) : FnOk P w K mg base CX0 2 T.A__law_spread T.D__law_spread ["_law_rings", "_law_bag_here", "_law_turning"] (sp__law_spread K) := by
  refine Fun.ok T.F__law_spread sc__law_spread (fun vs H Q E h => ?_) (fun cdv A outer s H vs Q E hr h => ?_)
  · obtain ⟨X, p__law_bag_here, a__law_rings, a__law_bag_here, a__law_turning, r, hm, c, kont⟩ := h
    exact c.len
  · obtain ⟨X, p__law_bag_here, a__law_rings, a__law_bag_here, a__law_turning, r, hm, c, kont⟩ := h
    refine ⟨_, (pss_cons (ps_set (i := 3) sc__law_spread.nd rfl (Or.inl rfl) (pe_lst pa_nil))
      (pss_cons (ps_for PassesOwn.never rfl (pi_range1 (by rfl) T.z_range (pa_cons (pe_callB (r := rLenX K) call_lenX (by rfl) T.z_len (by decide +kernel) (pa_cons (pv 0) pa_nil)) pa_nil)) (pg_name (i := 4) sc__law_spread.nd rfl (Or.inl rfl)) (pss_cons (ps_set (i := 5) sc__law_spread.nd rfl (Or.inl rfl) (pe_and (pv 2) (pe_one (pe_cmpR op_eq (pe_call (ok__law_digit T) hr (by rfl) T.g__law_digit T.F__law_digit.kp T.b__law_digit .nil pass0 (pa_cons (pv 1) (pa_cons pe_int pa_nil))) pe_int (nomark _)))))
      (pss_cons (ps_set (i := 6) sc__law_spread.nd rfl (Or.inl rfl) (pe_tup (pa_cons (pe_op op_add (pe_op op_mul pe_int (pv 4)) (pe_call (ok__law_digit T) hr (by rfl) T.g__law_digit T.F__law_digit.kp T.b__law_digit .nil pass0 (pa_cons (pv 1) (pa_cons pe_int pa_nil)))) (pa_cons (pe_op op_sub (pe_call (ok__law_digit T) hr (by rfl) T.g__law_digit T.F__law_digit.kp T.b__law_digit .nil pass0 (pa_cons (pv 1) (pa_cons pe_int pa_nil))) pe_int) (pa_cons pe_int pa_nil)))))
      (pss_one (ps_expr (pe_bm PySem.F.plainAttrs_list PySem.F.slot_list_append PySem.F.type_list_append mt_append (pv 3) (pa_cons (pe_tup (pa_cons (pe_ix (r := rIxL K) ix_list (pv 0) (pv 4) (fun _ _ => rfl)) (pa_cons (pv 5) (pa_cons (pv 6) pa_nil)))) pa_nil)))))))
      (pss_one (ps_ret (pv 3))))), ?_⟩
    have L0 : Lo ⟨K, X, H, muts [.imm (enc (a__law_rings : (List (List (T3 Int Int Int))))), .mu p__law_bag_here (ml (a__law_bag_here : (List Int))), .imm (.bool a__law_turning)], n__law_spread.length⟩ X H (L2.start n__law_spread vs) [.imm (enc (a__law_rings : (List (List (T3 Int Int Int))))), .mu p__law_bag_here (ml (a__law_bag_here : (List Int))), .imm (.bool a__law_turning), .unk, .unk, .unk, .unk] := c.start n__law_spread (show (3 : Nat) ≤ 7 by decide)
    unfold m__law_spread at hm
    refine x_seq (x_asg (x_lst (x_nil (x_mkN L0 .nil (show (0 : Nat) ≤ 16777216 by decide) fun p1 _ _ h01 hx1 L1 le1 => x_setN (Γ := [.imm (enc (a__law_rings : (List (List (T3 Int Int Int))))), .mu p__law_bag_here (ml (a__law_bag_here : (List Int))), .imm (.bool a__law_turning), .unk, .unk, .unk, .unk]) (p := p1) (o := (ml (([] : (List (T3 (List (T3 Int Int Int)) Bool (T3 Int Int Int)))) : (List (T3 (List (T3 Int Int Int)) Bool (T3 Int Int Int)))))) (Γ' := [.imm (enc (a__law_rings : (List (List (T3 Int Int Int))))), .mu p__law_bag_here (ml (a__law_bag_here : (List Int))), .imm (.bool a__law_turning), .mu p1 (ml (([] : (List (T3 (List (T3 Int Int Int)) Bool (T3 Int Int Int)))) : (List (T3 (List (T3 Int Int Int)) Bool (T3 Int Int Int))))), .unk, .unk, .unk]) L1 (show (3 : Nat) < 7 by decide) (show (3 : Nat) < 7 by decide) rfl fun _ L2 => ?_))))
    refine x_seq (x_tforR1 (x_cons (x_cb (x_cons (x_vd (d := (enc (a__law_rings : (List (List (T3 Int Int Int)))))) L2 rfl fun v1 r1 => x_nil (x_lenL (xs := a__law_rings) r1 (x_nil (x_r1 hm fun hm1 => x_foR (G := (fun (s1 : ((List Int) × (List (T3 (List (T3 Int Int Int)) Bool (T3 Int Int Int))))) => [.imm (enc (a__law_rings : (List (List (T3 Int Int Int))))), .mu p__law_bag_here (ml (s1.1 : (List Int))), .imm (.bool a__law_turning), .mu p1 (ml (s1.2 : (List (T3 (List (T3 Int Int Int)) Bool (T3 Int Int Int))))), .unk, .unk, .unk])) (s0 := (a__law_bag_here, ([] : (List (T3 (List (T3 Int Int Int)) Bool (T3 Int Int Int)))))) (L2.weak (Γ' := [.imm (enc (a__law_rings : (List (List (T3 Int Int Int))))), .mu p__law_bag_here (ml (a__law_bag_here : (List Int))), .imm (.bool a__law_turning), .mu p1 (ml (([] : (List (T3 (List (T3 Int Int Int)) Bool (T3 Int Int Int)))) : (List (T3 (List (T3 Int Int Int)) Bool (T3 Int Int Int))))), .unk, .unk, .unk]) (.k (.k (.k (.k (.k (.k (.k .e)))))))) (fun _ _ => rfl) hm1 (fun x1 s1 H1 _ u1 _ _ _ _ _ hm2 L3 r2 hN1 hC1 => ?_) (fun s2 _ _ hm3 L4 => ?_)))))))))
    · refine x_set (d := (.int x1)) (Γ' := [.imm (enc (a__law_rings : (List (List (T3 Int Int Int))))), .mu p__law_bag_here (ml (s1.1 : (List Int))), .imm (.bool a__law_turning), .mu p1 (ml (s1.2 : (List (T3 (List (T3 Int Int Int)) Bool (T3 Int Int Int))))), .imm (.int x1), .unk, .unk]) L3 r2 (show (4 : Nat) < 7 by decide) rfl fun _ L5 => ?_
      refine x_seq (x_asg (x_andV (x_vB (x := a__law_turning) L5 rfl (x_kb (x_andVG (G := (fun (s3 : (List Int)) => [.imm (enc (a__law_rings : (List (List (T3 Int Int Int))))), .mu p__law_bag_here (ml (s3 : (List Int))), .imm (.bool a__law_turning), .mu p1 (ml (s1.2 : (List (T3 (List (T3 Int Int Int)) Bool (T3 Int Int Int))))), .imm (.int x1), .unk, .unk])) (s0 := s1.1) L5 hm2 (fun _ hm6 _ hq => x_op (x_call (x_cons (x_vm L5 rfl (x_cons (x_c (x_nil (obE hm6 fun z2 hz2 hm7 => mk__law_digit hz2 (L5.cond1 (i := 1) (.m (L5.mrep (i := 1) rfl) (.im (.int _) .nil)) rfl rfl rfl) fun _ F3 => k1 L5 F3 (i := 1) (Γ' := [.imm (enc (a__law_rings : (List (List (T3 Int Int Int))))), .mu p__law_bag_here (ml (z2.2 : (List Int))), .imm (.bool a__law_turning), .mu p1 (ml (s1.2 : (List (T3 (List (T3 Int Int Int)) Bool (T3 Int Int Int))))), .imm (.int x1), .unk, .unk]) rfl rfl rfl fun L7 le3 => x_c (x_eqi (x_lfVG (G := (fun (s3 : (List Int)) => [.imm (enc (a__law_rings : (List (List (T3 Int Int Int))))), .mu p__law_bag_here (ml (s3 : (List Int))), .imm (.bool a__law_turning), .mu p1 (ml (s1.2 : (List (T3 (List (T3 Int Int Int)) Bool (T3 Int Int Int))))), .imm (.int x1), .unk, .unk])) (e := z2.2) hm7 hq L7)))))))))) fun b1 _ _ hm8 L8 => x_set (d := (.bool b1.1)) (Γ' := [.imm (enc (a__law_rings : (List (List (T3 Int Int Int))))), .mu p__law_bag_here (ml (b1.2 : (List Int))), .imm (.bool a__law_turning), .mu p1 (ml (s1.2 : (List (T3 (List (T3 Int Int Int)) Bool (T3 Int Int Int))))), .imm (.int x1), .imm (.bool b1.1), .unk]) L8 (.bl _) (show (5 : Nat) < 7 by decide) rfl fun _ L9 => ?_)))))
      refine x_seq (x_asg (x_tup (x_cons (x_op (x_op (x_c (x_vI (x := x1) L9 rfl (x_mulL (by decide) (x_call (x_cons (x_vm L9 rfl (x_cons (x_c (x_nil (obE hm8 fun z3 hz3 hm9 => mk__law_digit hz3 (L9.cond1 (i := 1) (.m (L9.mrep (i := 1) rfl) (.im (.int _) .nil)) rfl rfl rfl) fun _ F4 => k1 L9 F4 (i := 1) (Γ' := [.imm (enc (a__law_rings : (List (List (T3 Int Int Int))))), .mu p__law_bag_here (ml (z3.2 : (List Int))), .imm (.bool a__law_turning), .mu p1 (ml (s1.2 : (List (T3 (List (T3 Int Int Int)) Bool (T3 Int Int Int))))), .imm (.int x1), .imm (.bool b1.1), .unk]) rfl rfl rfl fun L10 le4 => x_r0 (x_cons (x_op (x_call (x_cons (x_vm L10 rfl (x_cons (x_c (x_nil (obE hm9 fun z4 hz4 hm10 => mk__law_digit hz4 (L10.cond1 (i := 1) (.m (L10.mrep (i := 1) rfl) (.im (.int _) .nil)) rfl rfl rfl) fun _ F5 => k1 L10 F5 (i := 1) (Γ' := [.imm (enc (a__law_rings : (List (List (T3 Int Int Int))))), .mu p__law_bag_here (ml (z4.2 : (List Int))), .imm (.bool a__law_turning), .mu p1 (ml (s1.2 : (List (T3 (List (T3 Int Int Int)) Bool (T3 Int Int Int))))), .imm (.int x1), .imm (.bool b1.1), .unk]) rfl rfl rfl fun L11 le5 => x_c (x_r0 (x_cons (x_c (x_nil (x_mkT L11 (.cons (.int _) (.cons (.int _) (.cons (.int _) .nil))) (show (3 : Nat) ≤ 16777216 by decide) fun v6 _ L12 le6 r3 => have r4 : Rep _ _ _ (enc ((T3.mk (((60 * x1) + z3.1)) ((z4.1 - 20)) 1) : (T3 Int Int Int))) v6 := r3; x_bset (x0 := (T3.mk (((60 * x1) + z3.1)) ((z4.1 - 20)) 1)) (d := fun step_1 => (enc (step_1 : (T3 Int Int Int)))) (Γf := fun step_1 => [.imm (enc (a__law_rings : (List (List (T3 Int Int Int))))), .mu p__law_bag_here (ml (z4.2 : (List Int))), .imm (.bool a__law_turning), .mu p1 (ml (s1.2 : (List (T3 (List (T3 Int Int Int)) Bool (T3 Int Int Int))))), .imm (.int x1), .imm (.bool b1.1), .imm (enc (step_1 : (T3 Int Int Int)))]) hm10 L12 r4 (show (6 : Nat) < 7 by decide) (fun _ => rfl) fun step_1 _ hm11 L13 => ?_)))))))))))))))))))))))))))))
      refine x_drop (x_bm (x_vm L13 rfl (x_tyM L13 (i := 3) rfl (?_))))
      refine x_cons (x_tup (x_cons (x_op (x_vd (d := (enc (a__law_rings : (List (List (T3 Int Int Int)))))) L13 rfl fun v7 r5 => x_vI (x := x1) L13 rfl (x_ixL (xs := a__law_rings) hm11 r5 fun x2 v8 _ hm12 r6 => x_cons (x_vB (x := b1.1) L13 rfl (x_cons (x_vd (d := (enc (step_1 : (T3 Int Int Int)))) L13 rfl fun v9 r7 => x_nil (x_mkT L13 (.cons r6 (.cons (.bl _) (.cons r7 .nil))) (show (3 : Nat) ≤ 16777216 by decide) fun v10 _ L14 le7 r8 => have r9 : Rep _ _ _ (enc ((T3.mk x2 b1.1 step_1) : (T3 (List (T3 Int Int Int)) Bool (T3 Int Int Int)))) v10 := r8; x_nil (x_append (xs := s1.2) (x := (T3.mk x2 b1.1 step_1)) (i := 3) (Γ' := [.imm (enc (a__law_rings : (List (List (T3 Int Int Int))))), .mu p__law_bag_here (ml (z4.2 : (List Int))), .imm (.bool a__law_turning), .mu p1 (ml ((s1.2 ++ [(T3.mk x2 b1.1 step_1)]) : (List (T3 (List (T3 Int Int Int)) Bool (T3 Int Int Int))))), .imm (.int x1), .imm (.bool b1.1), .imm (enc (step_1 : (T3 Int Int Int)))]) L14 rfl hm12 r9 rfl fun _ hm13 L15 le8 => ?_))))))))))
      exact x_leaf (G := (fun (s1 : ((List Int) × (List (T3 (List (T3 Int Int Int)) Bool (T3 Int Int Int))))) => [.imm (enc (a__law_rings : (List (List (T3 Int Int Int))))), .mu p__law_bag_here (ml (s1.1 : (List Int))), .imm (.bool a__law_turning), .mu p1 (ml (s1.2 : (List (T3 (List (T3 Int Int Int)) Bool (T3 Int Int Int))))), .unk, .unk, .unk])) (e := (z4.2, (s1.2 ++ [(T3.mk x2 b1.1 step_1)]))) hm13 hN1 (L15.weak (Γ' := [.imm (enc (a__law_rings : (List (List (T3 Int Int Int))))), .mu p__law_bag_here (ml (z4.2 : (List Int))), .imm (.bool a__law_turning), .mu p1 (ml ((s1.2 ++ [(T3.mk x2 b1.1 step_1)]) : (List (T3 (List (T3 Int Int Int)) Bool (T3 Int Int Int))))), .unk, .unk, .unk]) (.k (.k (.k (.k (.d (.d (.d .e))))))))
    exact x_ret (x_vm L4 rfl (x_finP (Q := Q) (ps := (fun (r : ((List (T3 (List (T3 Int Int Int)) Bool (T3 Int Int Int))) × (List Int))) => [(p__law_bag_here, (ml (r.2 : (List Int))))])) (o := fun (r : ((List (T3 (List (T3 Int Int Int)) Bool (T3 Int Int Int))) × (List Int))) => (ml (r.1 : (List (T3 (List (T3 Int Int Int)) Bool (T3 Int Int Int)))))) (e := (s2.2, s2.1)) hm3 kont (L4.finM (p := p1) (i := 3) (hp1 (L4.mrep (i := 1) rfl)) rfl h01)))
abbrev sp__law_turned (K : PySem.W.Frag) : Sp := fun vs H Q _ => ∃ (X : Addr → Prop)  (a__law_p : (T3 Int Int Int)) (r : (T3 Int Int Int)), m__law_turned a__law_p = some r ∧ Cond K X H [.imm (enc (a__law_p : (T3 Int Int Int)))] vs ∧ ∀ v H', Fin K X H [] [] (.imm (enc (r : (T3 Int Int Int)))) v H' → Q v H'
theorem mk__law_turned {K : PySem.W.Frag} {X : Addr → Prop} {H : Hp} {vs : List V} {Q : VK} {E : XK}  {a__law_p : (T3 Int Int Int)} {r : (T3 Int Int Int)} (hm : m__law_turned a__law_p = some r) (c : Cond K X H [.imm (enc (a__law_p : (T3 Int Int Int)))] vs) (k : ∀ v H', Fin K X H [] [] (.imm (enc (r : (T3 Int Int Int)))) v H' → Q v H') : sp__law_turned K vs H Q E := ⟨X, a__law_p, r, hm, c, k⟩
abbrev n__law_turned : List Str := ["_law_p"]
theorem sc__law_turned : FnScope n__law_turned ["_law_p"] (defScope s__law_turned) := ⟨rfl, rfl, rfl, by decide +kernel, rfl, by decide +kernel, by decide +kernel⟩
theorem ok__law_turned (T : Txt K mg) : FnOk P w K mg base CX0 1 T.A__law_turned T.D__law_turned ["_law_p"] (sp__law_turned K) := by
  refine Fun.ok T.F__law_turned sc__law_turned (fun vs H Q E h => ?_) (fun cdv A outer s H vs Q E hr h => ?_)
  · obtain ⟨X, a__law_p, r, hm, c, kont⟩ := h
    exact c.len
  · obtain ⟨X, a__law_p, r, hm, c, kont⟩ := h
    refine ⟨_, (pss_one (ps_ret (pe_tup (pa_cons (pe_un un_neg (pe_ix (r := rIxT K) ix_tup (pv 0) pe_int (fun _ _ => rfl))) (pa_cons (pe_un un_neg (pe_ix (r := rIxT K) ix_tup (pv 0) pe_int (fun _ _ => rfl))) (pa_cons (pe_ix (r := rIxT K) ix_tup (pv 0) pe_int (fun _ _ => rfl)) pa_nil)))))), ?_⟩
    have L0 : Lo ⟨K, X, H, muts [.imm (enc (a__law_p : (T3 Int Int Int)))], n__law_turned.length⟩ X H (L2.start n__law_turned vs) [.imm (enc (a__law_p : (T3 Int Int Int)))] := c.start n__law_turned (show (1 : Nat) ≤ 1 by decide)
    unfold m__law_turned at hm
    exact x_ret (x_tup (x_cons (x_un (x_op (x_vd (d := (enc (a__law_p : (T3 Int Int Int)))) L0 rfl fun v1 r1 => x_c (x_ixTI (x := a__law_p.a) r1 rfl (x_u (x_cons (x_un (x_op (x_vd (d := (enc (a__law_p : (T3 Int Int Int)))) L0 rfl fun v2 r2 => x_c (x_ixTI (x := a__law_p.b) r2 rfl (x_u (x_cons (x_op (x_vd (d := (enc (a__law_p : (T3 Int Int Int)))) L0 rfl fun v3 r3 => x_c (x_ixTI (x := a__law_p.c) r3 rfl (x_nil (x_mkT L0 (.cons (.int _) (.cons (.int _) (.cons (.int _) .nil))) (show (3 : Nat) ≤ 16777216 by decide) fun v4 _ L1 le1 r4 => have r5 : Rep _ _ _ (enc ((T3.mk ((-a__law_p.a)) ((-a__law_p.b)) a__law_p.c) : (T3 Int Int Int))) v4 := r4; x_fin (Q := Q) (ps := (fun (r : (T3 Int Int Int)) => [])) (rs := (fun (r : (T3 Int Int Int)) => (.imm (enc (r : (T3 Int Int Int)))))) (e := (T3.mk ((-a__law_p.a)) ((-a__law_p.b)) a__law_p.c)) hm kont (L1.fin hp0 r5))))))))))))))))))))
abbrev sp__law_led (K : PySem.W.Frag) : Sp := fun vs H Q _ => ∃ (X : Addr → Prop)  (a__law_move : (T3 (List (T3 Int Int Int)) Bool (T3 Int Int Int))) (a__law_p : (T3 Int Int Int)) (r : (T3 Int Int Int)), m__law_led a__law_move a__law_p = some r ∧ Cond K X H [.imm (enc (a__law_move : (T3 (List (T3 Int Int Int)) Bool (T3 Int Int Int)))), .imm (enc (a__law_p : (T3 Int Int Int)))] vs ∧ ∀ v H', Fin K X H [] [] (.imm (enc (r : (T3 Int Int Int)))) v H' → Q v H'
theorem mk__law_led {K : PySem.W.Frag} {X : Addr → Prop} {H : Hp} {vs : List V} {Q : VK} {E : XK}  {a__law_move : (T3 (List (T3 Int Int Int)) Bool (T3 Int Int Int))} {a__law_p : (T3 Int Int Int)} {r : (T3 Int Int Int)} (hm : m__law_led a__law_move a__law_p = some r) (c : Cond K X H [.imm (enc (a__law_move : (T3 (List (T3 Int Int Int)) Bool (T3 Int Int Int)))), .imm (enc (a__law_p : (T3 Int Int Int)))] vs) (k : ∀ v H', Fin K X H [] [] (.imm (enc (r : (T3 Int Int Int)))) v H' → Q v H') : sp__law_led K vs H Q E := ⟨X, a__law_move, a__law_p, r, hm, c, k⟩
abbrev n__law_led : List Str := ["_law_move", "_law_p"]
theorem sc__law_led : FnScope n__law_led ["_law_move", "_law_p"] (defScope s__law_led) := ⟨rfl, rfl, rfl, by decide +kernel, rfl, by decide +kernel, by decide +kernel⟩
theorem ok__law_led (T : Txt K mg) : FnOk P w K mg base CX0 3 T.A__law_led T.D__law_led ["_law_move", "_law_p"] (sp__law_led K) := by
  refine Fun.ok T.F__law_led sc__law_led (fun vs H Q E h => ?_) (fun cdv A outer s H vs Q E hr h => ?_)
  · obtain ⟨X, a__law_move, a__law_p, r, hm, c, kont⟩ := h
    exact c.len
  · obtain ⟨X, a__law_move, a__law_p, r, hm, c, kont⟩ := h
    refine ⟨_, (pss_cons (ps_if (pt_val (pe_ix (r := rIxT K) ix_tup (pv 0) pe_int (fun _ _ => rfl))) (pss_one (ps_set (i := 1) sc__law_led.nd rfl (Or.inl rfl) (pe_call (ok__law_turned T) (hr.mono (by decide)) (by rfl) T.g__law_turned T.F__law_turned.kp T.b__law_turned .nil pass0 (pa_cons (pv 1) pa_nil)))) pss_nil)
      (pss_one (ps_ret (pe_call (ok__law_slid T) hr (by rfl) T.g__law_slid T.F__law_slid.kp T.b__law_slid .nil pass0 (pa_cons (pv 1) (pa_cons (pe_ix (r := rIxT K) ix_tup (pv 0) pe_int (fun _ _ => rfl)) pa_nil)))))), ?_⟩
    have L0 : Lo ⟨K, X, H, muts [.imm (enc (a__law_move : (T3 (List (T3 Int Int Int)) Bool (T3 Int Int Int)))), .imm (enc (a__law_p : (T3 Int Int Int)))], n__law_led.length⟩ X H (L2.start n__law_led vs) [.imm (enc (a__law_move : (T3 (List (T3 Int Int Int)) Bool (T3 Int Int Int)))), .imm (enc (a__law_p : (T3 Int Int Int)))] := c.start n__law_led (show (2 : Nat) ≤ 2 by decide)
    unfold m__law_led at hm
    refine x_seq (x_ifS (x_tB (x_op (x_vd (d := (enc (a__law_move : (T3 (List (T3 Int Int Int)) Bool (T3 Int Int Int))))) L0 rfl fun v1 r1 => x_c (x_ixTB (x := a__law_move.b) r1 rfl (x_kb (x_join (G := (fun (s1 : (T3 Int Int Int)) => [.imm (enc (a__law_move : (T3 (List (T3 Int Int Int)) Bool (T3 Int Int Int)))), .imm (enc (s1 : (T3 Int Int Int)))])) L0 hm (fun _ hm1 _ hN1 => ?_) (fun _ hm1 _ hN1 => ?_) fun s1 X1 _ _ hm2 L1 => ?_)))))))
    · refine x_asg (x_call (x_cons (x_vd (d := (enc (a__law_p : (T3 Int Int Int)))) L0 rfl fun v2 r2 => x_nil (obE hm1 fun z1 hz1 hm3 => mk__law_turned hz1 (L0.cond0 (.im r2 .nil) rfl) fun v3 _ F1 => k0d L0 F1 fun L2 le1 r3 => x_set (d := (enc (z1 : (T3 Int Int Int)))) (Γ' := [.imm (enc (a__law_move : (T3 (List (T3 Int Int Int)) Bool (T3 Int Int Int)))), .imm (enc (z1 : (T3 Int Int Int)))]) L2 r3 (show (1 : Nat) < 2 by decide) rfl fun _ L3 => ?_))))
      exact x_leaf (G := (fun (s1 : (T3 Int Int Int)) => [.imm (enc (a__law_move : (T3 (List (T3 Int Int Int)) Bool (T3 Int Int Int)))), .imm (enc (s1 : (T3 Int Int Int)))])) (e := z1) hm3 hN1 (L3.weak (Γ' := [.imm (enc (a__law_move : (T3 (List (T3 Int Int Int)) Bool (T3 Int Int Int)))), .imm (enc (z1 : (T3 Int Int Int)))]) (.k (.k .e)))
    · refine x_next ?_
      exact x_leaf (G := (fun (s1 : (T3 Int Int Int)) => [.imm (enc (a__law_move : (T3 (List (T3 Int Int Int)) Bool (T3 Int Int Int)))), .imm (enc (s1 : (T3 Int Int Int)))])) (e := a__law_p) hm1 hN1 (L0.weak (Γ' := [.imm (enc (a__law_move : (T3 (List (T3 Int Int Int)) Bool (T3 Int Int Int)))), .imm (enc (a__law_p : (T3 Int Int Int)))]) (.k (.k .e)))
    exact x_ret (x_call (x_cons (x_vd (d := (enc (s1 : (T3 Int Int Int)))) L1 rfl fun v4 r4 => x_cons (x_op (x_vd (d := (enc (a__law_move : (T3 (List (T3 Int Int Int)) Bool (T3 Int Int Int))))) L1 rfl fun v5 r5 => x_c (x_ixT (d := (enc (a__law_move.c : (T3 Int Int Int)))) r5 rfl fun v6 r6 => x_nil (obE hm2 fun z2 hz2 hm4 => mk__law_slid hz2 (L1.cond0 (.im r4 (.im r6 .nil)) rfl) fun v7 _ F2 => k0d L1 F2 fun L4 le2 r7 => x_fin (Q := Q) (ps := (fun (r : (T3 Int Int Int)) => [])) (rs := (fun (r : (T3 Int Int Int)) => (.imm (enc (r : (T3 Int Int Int)))))) (e := z2) hm4 kont (L4.fin hp0 r7))))))))
abbrev sp__law_led_ring (K : PySem.W.Frag) : Sp := fun vs H Q _ => ∃ (X : Addr → Prop)  (a__law_move : (T3 (List (T3 Int Int Int)) Bool (T3 Int Int Int))) (r : (List (T3 Int Int Int))), m__law_led_ring a__law_move = some r ∧ Cond K X H [.imm (enc (a__law_move : (T3 (List (T3 Int Int Int)) Bool (T3 Int Int Int))))] vs ∧ ∀ p H', Fin K X H [] [] (.new (ml (r : (List (T3 Int Int Int))))) (.ref p) H' → Q (.ref p) H'
theorem mk__law_led_ring {K : PySem.W.Frag} {X : Addr → Prop} {H : Hp} {vs : List V} {Q : VK} {E : XK}  {a__law_move : (T3 (List (T3 Int Int Int)) Bool (T3 Int Int Int))} {r : (List (T3 Int Int Int))} (hm : m__law_led_ring a__law_move = some r) (c : Cond K X H [.imm (enc (a__law_move : (T3 (List (T3 Int Int Int)) Bool (T3 Int Int Int))))] vs) (k : ∀ p H', Fin K X H [] [] (.new (ml (r : (List (T3 Int Int Int))))) (.ref p) H' → Q (.ref p) H') : sp__law_led_ring K vs H Q E := ⟨X, a__law_move, r, hm, c, k⟩
abbrev n__law_led_ring : List Str := ["_law_move", "_law_p"]
theorem sc__law_led_ring : FnScope n__law_led_ring ["_law_move"] (defScope s__law_led_ring) := ⟨rfl, rfl, rfl, by decide +kernel, rfl, by decide +kernel, by decide +kernel⟩
theorem ok__law_led_ring (T : Txt K mg) : FnOk P w K mg base CX0 4 T.A__law_led_ring T.D__law_led_ring ["_law_move"] (sp__law_led_ring K) := by
  refine Fun.ok T.F__law_led_ring sc__law_led_ring (fun vs H Q E h => ?_) (fun cdv A outer s H vs Q E hr h => ?_)
  · obtain ⟨X, a__law_move, r, hm, c, kont⟩ := h
    exact c.len
  · obtain ⟨X, a__law_move, r, hm, c, kont⟩ := h
    refine ⟨_, (pss_one (ps_ret (pe_lc (own := [("_law_p", 1)]) (g := gName 1) (tt := tYes) rfl sc__law_led_ring.nd (pi_list (pe_ix (r := rIxT K) ix_tup (pv 0) pe_int (fun _ _ => rfl))) (blkOk_by (N := n__law_led_ring) (sc := defScope s__law_led_ring) (by decide +kernel)) (fun _ _ _ _ _ => (pg_name (i := 1) sc__law_led_ring.nd rfl (Or.inl rfl))) (fun _ _ _ _ _ => pts_nil) (fun _ _ _ _ _ => (pe_call (ok__law_led T) hr (by rfl) T.g__law_led T.F__law_led.kp T.b__law_led .nil pass0 (pa_cons (pv 0) (pa_cons (pv 1) pa_nil))))))), ?_⟩
    have L0 : Lo ⟨K, X, H, muts [.imm (enc (a__law_move : (T3 (List (T3 Int Int Int)) Bool (T3 Int Int Int))))], n__law_led_ring.length⟩ X H (L2.start n__law_led_ring vs) [.imm (enc (a__law_move : (T3 (List (T3 Int Int Int)) Bool (T3 Int Int Int)))), .unk] := c.start n__law_led_ring (show (1 : Nat) ≤ 2 by decide)
    unfold m__law_led_ring at hm
    exact x_ret (x_lcl (x_op (x_vd (d := (enc (a__law_move : (T3 (List (T3 Int Int Int)) Bool (T3 Int Int Int))))) L0 rfl fun v1 r1 => x_c (x_ixT (d := (enc (a__law_move.a : (List (T3 Int Int Int))))) r1 rfl fun v2 r2 => obE hm fun _ hl1 hm1 => obE hm1 fun ys1 hy1 hm2 => x_lcLN (G := (fun (s1 : Unit) => [.imm (enc (a__law_move : (T3 (List (T3 Int Int Int)) Bool (T3 Int Int Int)))), .unk])) (s0 := ()) (xs := a__law_move.a) L0 (fun _ _ => rfl) r2 (mapO_comp hy1) (lenOk_le hl1) (fun x1 s1 _ H1 _ u1 _ _ _ hF1 L1 r3 hn1 hy2 => obE hF1 fun y1 hm3 he1 => x_cName (d := (enc (x1 : (T3 Int Int Int)))) (Γ' := [.imm (enc (a__law_move : (T3 (List (T3 Int Int Int)) Bool (T3 Int Int Int)))), .imm (enc (x1 : (T3 Int Int Int)))]) L1 r3 (show (1 : Nat) < 2 by decide) rfl fun _ L2 => x_yes (x_call (x_cons (x_vd (d := (enc (a__law_move : (T3 (List (T3 Int Int Int)) Bool (T3 Int Int Int))))) L2 rfl fun v3 r4 => x_cons (x_vd (d := (enc (x1 : (T3 Int Int Int)))) L2 rfl fun v4 r5 => x_nil (obE hm3 fun z1 hz2 hm4 => mk__law_led hz2 (L2.cond0 (.im r4 (.im r5 .nil)) rfl) fun v5 _ F1 => k0d L2 F1 fun L3 le1 r6 => x_cy (G := (fun (s1 : Unit) => [.imm (enc (a__law_move : (T3 (List (T3 Int Int Int)) Bool (T3 Int Int Int)))), .unk])) (s := s1) (s' := ()) (y := z1) (by cases hm4; cases he1; rfl) hy2 L1 L3 (.i rfl (.i rfl .e)) r6)))))) fun p1 _ _ h01 hx1 L4 le2 => x_finP (Q := Q) (ps := (fun (r : (List (T3 Int Int Int))) => [])) (o := fun (r : (List (T3 Int Int Int))) => (ml (r : (List (T3 Int Int Int))))) (e := ys1) hm2 kont (L4.finT (p := p1) (i := 2) (o := (ml (ys1 : (List (T3 Int Int Int))))) hp0 rfl h01)))))
abbrev sp__law_middle (K : PySem.W.Frag) : Sp := fun vs H Q _ => ∃ (X : Addr → Prop)  (a__law_p : (T3 Int Int Int)) (a__law_q : (T3 Int Int Int)) (r : (T3 Int Int Int)), m__law_middle a__law_p a__law_q = some r ∧ Cond K X H [.imm (enc (a__law_p : (T3 Int Int Int))), .imm (enc (a__law_q : (T3 Int Int Int)))] vs ∧ ∀ v H', Fin K X H [] [] (.imm (enc (r : (T3 Int Int Int)))) v H' → Q v H'
theorem mk__law_middle {K : PySem.W.Frag} {X : Addr → Prop} {H : Hp} {vs : List V} {Q : VK} {E : XK}  {a__law_p : (T3 Int Int Int)} {a__law_q : (T3 Int Int Int)} {r : (T3 Int Int Int)} (hm : m__law_middle a__law_p a__law_q = some r) (c : Cond K X H [.imm (enc (a__law_p : (T3 Int Int Int))), .imm (enc (a__law_q : (T3 Int Int Int)))] vs) (k : ∀ v H', Fin K X H [] [] (.imm (enc (r : (T3 Int Int Int)))) v H' → Q v H') : sp__law_middle K vs H Q E := ⟨X, a__law_p, a__law_q, r, hm, c, k⟩
abbrev n__law_middle : List Str := ["_law_p", "_law_q"]
theorem sc__law_middle : FnScope n__law_middle ["_law_p", "_law_q"] (defScope s__law_middle) := ⟨rfl, rfl, rfl, by decide +kernel, rfl, by decide +kernel, by decide +kernel⟩
theorem ok__law_middle (T : Txt K mg) : FnOk P w K mg base CX0 2 T.A__law_middle T.D__law_middle ["_law_p", "_law_q"] (sp__law_middle K) := by
  refine Fun.ok T.F__law_middle sc__law_middle (fun vs H Q E h => ?_) (fun cdv A outer s H vs Q E hr h => ?_)
  · obtain ⟨X, a__law_p, a__law_q, r, hm, c, kont⟩ := h
    exact c.len
  · obtain ⟨X, a__law_p, a__law_q, r, hm, c, kont⟩ := h
    refine ⟨_, (pss_one (ps_ret (pe_call (ok__law_point T) hr (by rfl) T.g__law_point T.F__law_point.kp T.b__law_point .nil pass0 (pa_cons (pe_op op_add (pe_op op_mulW (pe_ix (r := rIxT K) ix_tup (pv 0) pe_int (fun _ _ => rfl)) (pe_ix (r := rIxT K) ix_tup (pv 1) pe_int (fun _ _ => rfl))) (pe_op op_mulW (pe_ix (r := rIxT K) ix_tup (pv 1) pe_int (fun _ _ => rfl)) (pe_ix (r := rIxT K) ix_tup (pv 0) pe_int (fun _ _ => rfl)))) (pa_cons (pe_op op_add (pe_op op_mulW (pe_ix (r := rIxT K) ix_tup (pv 0) pe_int (fun _ _ => rfl)) (pe_ix (r := rIxT K) ix_tup (pv 1) pe_int (fun _ _ => rfl))) (pe_op op_mulW (pe_ix (r := rIxT K) ix_tup (pv 1) pe_int (fun _ _ => rfl)) (pe_ix (r := rIxT K) ix_tup (pv 0) pe_int (fun _ _ => rfl)))) (pa_cons (pe_op op_mulW (pe_op op_mul pe_int (pe_ix (r := rIxT K) ix_tup (pv 0) pe_int (fun _ _ => rfl))) (pe_ix (r := rIxT K) ix_tup (pv 1) pe_int (fun _ _ => rfl))) pa_nil)))))), ?_⟩
    have L0 : Lo ⟨K, X, H, muts [.imm (enc (a__law_p : (T3 Int Int Int))), .imm (enc (a__law_q : (T3 Int Int Int)))], n__law_middle.length⟩ X H (L2.start n__law_middle vs) [.imm (enc (a__law_p : (T3 Int Int Int))), .imm (enc (a__law_q : (T3 Int Int Int)))] := c.start n__law_middle (show (2 : Nat) ≤ 2 by decide)
    unfold m__law_middle at hm
    exact x_ret (x_call (x_cons (x_op (x_op (x_op (x_vd (d := (enc (a__law_p : (T3 Int Int Int)))) L0 rfl fun v1 r1 => x_c (x_ixTI (x := a__law_p.a) r1 rfl (x_op (x_vd (d := (enc (a__law_q : (T3 Int Int Int)))) L0 rfl fun v2 r2 => x_c (x_ixTI (x := a__law_q.c) r2 rfl (x_mul hm fun z1 _ hm1 => x_op (x_op (x_vd (d := (enc (a__law_q : (T3 Int Int Int)))) L0 rfl fun v3 r3 => x_c (x_ixTI (x := a__law_q.a) r3 rfl (x_op (x_vd (d := (enc (a__law_p : (T3 Int Int Int)))) L0 rfl fun v4 r4 => x_c (x_ixTI (x := a__law_p.c) r4 rfl (x_mul hm1 fun z2 _ hm2 => x_r0 (x_cons (x_op (x_op (x_op (x_vd (d := (enc (a__law_p : (T3 Int Int Int)))) L0 rfl fun v5 r5 => x_c (x_ixTI (x := a__law_p.b) r5 rfl (x_op (x_vd (d := (enc (a__law_q : (T3 Int Int Int)))) L0 rfl fun v6 r6 => x_c (x_ixTI (x := a__law_q.c) r6 rfl (x_mul hm2 fun z3 _ hm3 => x_op (x_op (x_vd (d := (enc (a__law_q : (T3 Int Int Int)))) L0 rfl fun v7 r7 => x_c (x_ixTI (x := a__law_q.b) r7 rfl (x_op (x_vd (d := (enc (a__law_p : (T3 Int Int Int)))) L0 rfl fun v8 r8 => x_c (x_ixTI (x := a__law_p.c) r8 rfl (x_mul hm3 fun z4 _ hm4 => x_r0 (x_cons (x_op (x_op (x_c (x_op (x_vd (d := (enc (a__law_p : (T3 Int Int Int)))) L0 rfl fun v9 r9 => x_c (x_ixTI (x := a__law_p.c) r9 rfl (x_mulL (by decide) (x_op (x_vd (d := (enc (a__law_q : (T3 Int Int Int)))) L0 rfl fun v10 r10 => x_c (x_ixTI (x := a__law_q.c) r10 rfl (x_mul hm4 fun z5 _ hm5 => x_nil (obE hm5 fun z6 hz1 hm6 => mk__law_point hz1 (L0.cond0 (.im (.int _) (.im (.int _) (.im (.int _) .nil))) rfl) fun v11 _ F1 => k0d L0 F1 fun L1 le1 r11 => x_fin (Q := Q) (ps := (fun (r : (T3 Int Int Int)) => [])) (rs := (fun (r : (T3 Int Int Int)) => (.imm (enc (r : (T3 Int Int Int)))))) (e := z6) hm6 kont (L1.fin hp0 r11)))))))))))))))))))))))))))))))))))))))))))))))))
abbrev sp__law_spoiled (K : PySem.W.Frag) : Sp := fun vs H Q _ => ∃ (X : Addr → Prop) (p__law_bag_here : Addr) (a__law_moves : (List (T3 (List (T3 Int Int Int)) Bool (T3 Int Int Int)))) (a__law_bag_here : (List Int)) (r : ((List (T3 (List (T3 Int Int Int)) Bool (T3 Int Int Int))) × (List Int))), m__law_spoiled a__law_moves a__law_bag_here = some r ∧ Cond K X H [.imm (enc (a__law_moves : (List (T3 (List (T3 Int Int Int)) Bool (T3 Int Int Int))))), .mu p__law_bag_here (ml (a__law_bag_here : (List Int)))] vs ∧ ∀ p H', Fin K X H [p__law_bag_here] [(p__law_bag_here, (ml (r.2 : (List Int))))] (.new (ml (r.1 : (List (T3 (List (T3 Int Int Int)) Bool (T3 Int Int Int)))))) (.ref p) H' → Q (.ref p) H'
theorem mk__law_spoiled {K : PySem.W.Frag} {X : Addr → Prop} {H : Hp} {vs : List V} {Q : VK} {E : XK} {p__law_bag_here : Addr} {a__law_moves : (List (T3 (List (T3 Int Int Int)) Bool (T3 Int Int Int)))} {a__law_bag_here : (List Int)} {r : ((List (T3 (List (T3 Int Int Int)) Bool (T3 Int Int Int))) × (List Int))} (hm : m__law_spoiled a__law_moves a__law_bag_here = some r) (c : Cond K X H [.imm (enc (a__law_moves : (List (T3 (List (T3 Int Int Int)) Bool (T3 Int Int Int))))), .mu p__law_bag_here (ml (a__law_bag_here : (List Int)))] vs) (k : ∀ p H', Fin K X H [p__law_bag_here] [(p__law_bag_here, (ml (r.2 : (List Int))))] (.new (ml (r.1 : (List (T3 (List (T3 Int Int Int)) Bool (T3 Int Int Int)))))) (.ref p) H' → Q (.ref p) H') : sp__law_spoiled K vs H Q E := ⟨X, p__law_bag_here, a__law_moves, a__law_bag_here, r, hm, c, k⟩
abbrev n__law_spoiled : List Str := ["_law_moves", "_law_bag_here", "_law_k", "_law_j", "_law_ring", "_law_flag", "_law_step", "_law_shift", "_law_spot", "_law_way", "_law_some"]
theorem sc__law_spoiled : FnScope n__law_spoiled ["_law_moves", "_law_bag_here"] (defScope s__law_spoiled) := ⟨rfl, rfl, rfl, by decide +kernel, rfl, by decide +kernel, by decide +kernel⟩
theorem ok__law_spoiled (T : Txt K mg) : FnOk P w K mg base CX0 3 T.A__law_spoiled T.D__law_spoiled ["_law_moves", "_law_bag_here"] (sp__law_spoiled K) := by
  refine Fun.ok T.F__law_spoiled sc__law_spoiled (fun vs H Q E h => ?_) (fun cdv A outer s H vs Q E hr h => ?_)
  · obtain ⟨X, p__law_bag_here, a__law_moves, a__law_bag_here, r, hm, c, kont⟩ := h
    exact c.len
  · obtain ⟨X, p__law_bag_here, a__law_moves, a__law_bag_here, r, hm, c, kont⟩ := h
    refine ⟨_, (pss_cons (ps_set (i := 2) sc__law_spoiled.nd rfl (Or.inl rfl) (pe_call (ok__law_digit T) (hr.mono (by decide)) (by rfl) T.g__law_digit T.F__law_digit.kp T.b__law_digit .nil pass0 (pa_cons (pv 1) (pa_cons (pe_callB (r := rLenX K) call_lenX (by rfl) T.z_len (by decide +kernel) (pa_cons (pv 0) pa_nil)) pa_nil))))
      (pss_cons (ps_set (i := 3) sc__law_spoiled.nd rfl (Or.inl rfl) (pe_op op_modN (pe_op op_add (pe_op op_add (pv 2) pe_int) (pe_call (ok__law_digit T) (hr.mono (by decide)) (by rfl) T.g__law_digit T.F__law_digit.kp T.b__law_digit .nil pass0 (pa_cons (pv 1) (pa_cons (pe_op op_sub (pe_callB (r := rLenX K) call_lenX (by rfl) T.z_len (by decide +kernel) (pa_cons (pv 0) pa_nil)) pe_int) pa_nil)))) (pe_callB (r := rLenX K) call_lenX (by rfl) T.z_len (by decide +kernel) (pa_cons (pv 0) pa_nil))))
      (pss_cons (ps_asg (pe_ix (r := rIxL K) ix_list (pv 0) (pv 2) (fun _ _ => rfl)) (pg_tup rfl (pgs_cons (pg_name (i := 4) sc__law_spoiled.nd rfl (Or.inl rfl)) (pgs_cons (pg_name (i := 5) sc__law_spoiled.nd rfl (Or.inl rfl)) (pgs_cons (pg_name (i := 6) sc__law_spoiled.nd rfl (Or.inl rfl)) pgs_nil)))))
      (pss_cons (ps_set (i := 7) sc__law_spoiled.nd rfl (Or.inl rfl) (pe_tup (pa_cons (pe_op op_sub (pe_call (ok__law_digit T) (hr.mono (by decide)) (by rfl) T.g__law_digit T.F__law_digit.kp T.b__law_digit .nil pass0 (pa_cons (pv 1) (pa_cons pe_int pa_nil))) pe_int) (pa_cons (pe_op op_sub (pe_call (ok__law_digit T) (hr.mono (by decide)) (by rfl) T.g__law_digit T.F__law_digit.kp T.b__law_digit .nil pass0 (pa_cons (pv 1) (pa_cons pe_int pa_nil))) pe_int) (pa_cons pe_int pa_nil)))))
      (pss_cons (ps_if (pt_cmpR (r := rEqD K) (op_eqD hr.units) (pv 7) (pe_tup (pa_cons pe_int (pa_cons pe_int (pa_cons pe_int pa_nil)))) (nomark _)) (pss_one (ps_set (i := 7) sc__law_spoiled.nd rfl (Or.inl rfl) (pe_tup (pa_cons pe_int (pa_cons pe_int (pa_cons pe_int pa_nil)))))) pss_nil)
      (pss_cons (ps_set (i := 8) sc__law_spoiled.nd rfl (Or.inl rfl) (pe_call (ok__law_digit T) (hr.mono (by decide)) (by rfl) T.g__law_digit T.F__law_digit.kp T.b__law_digit .nil pass0 (pa_cons (pv 1) (pa_cons pe_int pa_nil))))
      (pss_cons (ps_set (i := 9) sc__law_spoiled.nd rfl (Or.inl rfl) (pe_call (ok__law_digit T) (hr.mono (by decide)) (by rfl) T.g__law_digit T.F__law_digit.kp T.b__law_digit .nil pass0 (pa_cons (pv 1) (pa_cons pe_int pa_nil))))
      (pss_cons (ps_set (i := 10) sc__law_spoiled.nd rfl (Or.inl rfl) (pe_lst (pa_cons (pe_ix (r := rIxL K) ix_list (pv 0) (pv 2) (fun _ _ => rfl)) pa_nil)))
      (pss_cons (ps_if (pt_cmpR op_eq (pv 9) pe_int (nomark _)) (pss_one (ps_set (i := 10) sc__law_spoiled.nd rfl (Or.inl rfl) (pe_lst pa_nil))) pss_nil)
      (pss_cons (ps_if (pt_cmpR op_eq (pv 9) pe_int (nomark _)) (pss_one (ps_set (i := 10) sc__law_spoiled.nd rfl (Or.inl rfl) (pe_lst (pa_cons (pe_ix (r := rIxL K) ix_list (pv 0) (pv 2) (fun _ _ => rfl)) (pa_cons (pe_ix (r := rIxL K) ix_list (pv 0) (pv 2) (fun _ _ => rfl)) pa_nil))))) pss_nil)
      (pss_cons (ps_if (pt_cmpR op_eq (pv 9) pe_int (nomark _)) (pss_one (ps_set (i := 10) sc__law_spoiled.nd rfl (Or.inl rfl) (pe_lst (pa_cons (pe_tup (pa_cons (pv 4) (pa_cons (pv 5) (pa_cons (pe_call (ok__law_slid T) hr (by rfl) T.g__law_slid T.F__law_slid.kp T.b__law_slid .nil pass0 (pa_cons (pv 6) (pa_cons (pv 7) pa_nil))) pa_nil)))) pa_nil)))) pss_nil)
      (pss_cons (ps_if (pt_cmpR op_eq (pv 9) pe_int (nomark _)) (pss_one (ps_set (i := 10) sc__law_spoiled.nd rfl (Or.inl rfl) (pe_lst (pa_cons (pe_tup (pa_cons (pe_op op_catR (pe_op op_catR (pe_slice (r := rSlL K) sl_list (pv 4) po_none (po_some (pv 8))) (pe_lst (pa_cons (pe_call (ok__law_slid T) hr (by rfl) T.g__law_slid T.F__law_slid.kp T.b__law_slid .nil pass0 (pa_cons (pe_ix (r := rIxL K) ix_list (pv 4) (pv 8) (fun _ _ => rfl)) (pa_cons (pv 7) pa_nil))) pa_nil))) (pe_slice (r := rSlL K) sl_list (pv 4) (po_some (pe_op op_add (pv 8) pe_int)) po_none)) (pa_cons (pv 5) (pa_cons (pv 6) pa_nil)))) pa_nil)))) pss_nil)
      (pss_cons (ps_if (pt_cmpR op_eq (pv 9) pe_int (nomark _)) (pss_one (ps_set (i := 10) sc__law_spoiled.nd rfl (Or.inl rfl) (pe_lst (pa_cons (pe_tup (pa_cons (pe_revL (pv 4)) (pa_cons (pv 5) (pa_cons (pv 6) pa_nil)))) pa_nil)))) pss_nil)
      (pss_cons (ps_if (pt_cmpR op_eq (pv 9) pe_int (nomark _)) (pss_one (ps_set (i := 10) sc__law_spoiled.nd rfl (Or.inl rfl) (pe_lst (pa_cons (pe_tup (pa_cons (pv 4) (pa_cons (pe_not (pv 5)) (pa_cons (pv 6) pa_nil)))) pa_nil)))) pss_nil)
      (pss_cons (ps_if (pt_cmpR op_eq (pv 9) pe_int (nomark _)) (pss_one (ps_set (i := 10) sc__law_spoiled.nd rfl (Or.inl rfl) (pe_lst (pa_cons (pe_tup (pa_cons (pv 4) (pa_cons (pv 5) (pa_cons (pe_ix (r := rIxT K) ix_tup (pe_ix (r := rIxL K) ix_list (pv 0) (pv 3) (fun _ _ => rfl)) pe_int (fun _ _ => rfl)) pa_nil)))) pa_nil)))) pss_nil)
      (pss_cons (ps_if (pt_cmpR op_eq (pv 9) pe_int (nomark _)) (pss_one (ps_set (i := 10) sc__law_spoiled.nd rfl (Or.inl rfl) (pe_lst (pa_cons (pe_tup (pa_cons (pe_ix (r := rIxT K) ix_tup (pe_ix (r := rIxL K) ix_list (pv 0) (pv 3) (fun _ _ => rfl)) pe_int (fun _ _ => rfl)) (pa_cons (pv 5) (pa_cons (pv 6) pa_nil)))) pa_nil)))) pss_nil)
      (pss_cons (ps_if (pt_cmpR op_eq (pv 9) pe_int (nomark _)) (pss_one (ps_set (i := 10) sc__law_spoiled.nd rfl (Or.inl rfl) (pe_lst (pa_cons (pe_tup (pa_cons (pe_op op_catR (pe_slice (r := rSlL K) sl_list (pv 4) po_none (po_some (pv 8))) (pe_slice (r := rSlL K) sl_list (pv 4) (po_some (pe_op op_add (pv 8) pe_int)) po_none)) (pa_cons (pv 5) (pa_cons (pv 6) pa_nil)))) pa_nil)))) pss_nil)
      (pss_cons (ps_if (pt_cmpR op_eq (pv 9) pe_int (nomark _)) (pss_one (ps_set (i := 10) sc__law_spoiled.nd rfl (Or.inl rfl) (pe_lst (pa_cons (pe_tup (pa_cons (pe_op op_catR (pe_op op_catR (pe_slice (r := rSlL K) sl_list (pv 4) po_none (po_some (pv 8))) (pe_lst (pa_cons (pe_ix (r := rIxL K) ix_list (pv 4) (pv 8) (fun _ _ => rfl)) pa_nil))) (pe_slice (r := rSlL K) sl_list (pv 4) (po_some (pv 8)) po_none)) (pa_cons (pv 5) (pa_cons (pv 6) pa_nil)))) pa_nil)))) pss_nil)
      (pss_cons (ps_if (pt_cmpR op_eq (pv 9) pe_int (nomark _)) (pss_one (ps_set (i := 10) sc__law_spoiled.nd rfl (Or.inl rfl) (pe_lst (pa_cons (pe_tup (pa_cons (pe_op op_catR (pe_op op_catR (pe_slice (r := rSlL K) sl_list (pv 4) po_none (po_some (pv 8))) (pe_lst (pa_cons (pe_ix (r := rIxL K) ix_list (pv 4) (pe_op op_sub (pv 8) pe_int) (fun _ _ => rfl)) pa_nil))) (pe_slice (r := rSlL K) sl_list (pv 4) (po_some (pe_op op_add (pv 8) pe_int)) po_none)) (pa_cons (pv 5) (pa_cons (pv 6) pa_nil)))) pa_nil)))) pss_nil)
      (pss_cons (ps_if (pt_cmpR op_eq (pv 9) pe_int (nomark _)) (pss_one (ps_set (i := 10) sc__law_spoiled.nd rfl (Or.inl rfl) (pe_lst (pa_cons (pe_ix (r := rIxL K) ix_list (pv 0) (pv 2) (fun _ _ => rfl)) (pa_cons (pe_tup (pa_cons (pe_lst (pa_cons (pe_ix (r := rIxL K) ix_list (pv 4) (pe_op op_sub (pv 8) pe_int) (fun _ _ => rfl)) (pa_cons (pe_call (ok__law_middle T) hr (by rfl) T.g__law_middle T.F__law_middle.kp T.b__law_middle .nil pass0 (pa_cons (pe_ix (r := rIxL K) ix_list (pv 4) (pe_op op_sub (pv 8) pe_int) (fun _ _ => rfl)) (pa_cons (pe_ix (r := rIxL K) ix_list (pv 4) (pv 8) (fun _ _ => rfl)) pa_nil))) (pa_cons (pe_ix (r := rIxL K) ix_list (pv 4) (pv 8) (fun _ _ => rfl)) pa_nil)))) (pa_cons (pv 5) (pa_cons (pv 6) pa_nil)))) pa_nil))))) pss_nil)
      (pss_one (ps_ret (pe_op op_catR (pe_op op_catR (pe_slice (r := rSlL K) sl_list (pv 0) po_none (po_some (pv 2))) (pv 10)) (pe_slice (r := rSlL K) sl_list (pv 0) (po_some (pe_op op_add (pv 2) pe_int)) po_none)))))))))))))))))))))))), ?_⟩
    have L0 : Lo ⟨K, X, H, muts [.imm (enc (a__law_moves : (List (T3 (List (T3 Int Int Int)) Bool (T3 Int Int Int))))), .mu p__law_bag_here (ml (a__law_bag_here : (List Int)))], n__law_spoiled.length⟩ X H (L2.start n__law_spoiled vs) [.imm (enc (a__law_moves : (List (T3 (List (T3 Int Int Int)) Bool (T3 Int Int Int))))), .mu p__law_bag_here (ml (a__law_bag_here : (List Int))), .unk, .unk, .unk, .unk, .unk, .unk, .unk, .unk, .unk] := c.start n__law_spoiled (show (2 : Nat) ≤ 11 by decide)
    unfold m__law_spoiled at hm
    refine x_seq (x_asg (x_call (x_cons (x_vm L0 rfl (x_cons (x_cb (x_cons (x_vd (d := (enc (a__law_moves : (List (T3 (List (T3 Int Int Int)) Bool (T3 Int Int Int)))))) L0 rfl fun v1 r1 => x_nil (x_lenL (xs := a__law_moves) r1 (x_nil (obE hm fun z1 hz1 hm1 => mk__law_digit hz1 (L0.cond1 (i := 1) (.m (L0.mrep (i := 1) rfl) (.im (.int _) .nil)) rfl rfl rfl) fun _ F1 => k1 L0 F1 (i := 1) (Γ' := [.imm (enc (a__law_moves : (List (T3 (List (T3 Int Int Int)) Bool (T3 Int Int Int))))), .mu p__law_bag_here (ml (z1.2 : (List Int))), .unk, .unk, .unk, .unk, .unk, .unk, .unk, .unk, .unk]) rfl rfl rfl fun L1 le1 => x_set (d := (.int z1.1)) (Γ' := [.imm (enc (a__law_moves : (List (T3 (List (T3 Int Int Int)) Bool (T3 Int Int Int))))), .mu p__law_bag_here (ml (z1.2 : (List Int))), .imm (.int z1.1), .unk, .unk, .unk, .unk, .unk, .unk, .unk, .unk]) L1 (.int _) (show (2 : Nat) < 11 by decide) rfl fun _ L2 => ?_)))))))))))
    refine x_seq (x_asg (x_op (x_op (x_op (x_vI (x := z1.1) L2 rfl (x_c (x_r0 (x_call (x_cons (x_vm L2 rfl (x_cons (x_op (x_cb (x_cons (x_vd (d := (enc (a__law_moves : (List (T3 (List (T3 Int Int Int)) Bool (T3 Int Int Int)))))) L2 rfl fun v3 r2 => x_nil (x_lenL (xs := a__law_moves) r2 (x_c (x_r0 (x_nil (obE hm1 fun z2 hz2 hm2 => mk__law_digit hz2 (L2.cond1 (i := 1) (.m (L2.mrep (i := 1) rfl) (.im (.int _) .nil)) rfl rfl rfl) fun _ F2 => k1 L2 F2 (i := 1) (Γ' := [.imm (enc (a__law_moves : (List (T3 (List (T3 Int Int Int)) Bool (T3 Int Int Int))))), .mu p__law_bag_here (ml (z2.2 : (List Int))), .imm (.int z1.1), .unk, .unk, .unk, .unk, .unk, .unk, .unk, .unk]) rfl rfl rfl fun L3 le2 => x_r0 (x_cb (x_cons (x_vd (d := (enc (a__law_moves : (List (T3 (List (T3 Int Int Int)) Bool (T3 Int Int Int)))))) L3 rfl fun v5 r3 => x_nil (x_lenL (xs := a__law_moves) r3 (x_mod hm2 fun z3 _ hm3 => x_set (d := (.int z3)) (Γ' := [.imm (enc (a__law_moves : (List (T3 (List (T3 Int Int Int)) Bool (T3 Int Int Int))))), .mu p__law_bag_here (ml (z2.2 : (List Int))), .imm (.int z1.1), .imm (.int z3), .unk, .unk, .unk, .unk, .unk, .unk, .unk]) L3 (.int _) (show (3 : Nat) < 11 by decide) rfl fun _ L4 => ?_)))))))))))))))))))))))))
    refine x_seq (x_asg (x_op (x_vd (d := (enc (a__law_moves : (List (T3 (List (T3 Int Int Int)) Bool (T3 Int Int Int)))))) L4 rfl fun v6 r4 => x_vI (x := z1.1) L4 rfl (x_ixL (xs := a__law_moves) hm3 r4 fun x1 v7 _ hm4 r5 => x_gTup r5 rfl fun vs1 rs1 => x_gCons rs1 fun v8 _ r6 rs2 => x_set (d := (enc (x1.a : (List (T3 Int Int Int))))) (Γ' := [.imm (enc (a__law_moves : (List (T3 (List (T3 Int Int Int)) Bool (T3 Int Int Int))))), .mu p__law_bag_here (ml (z2.2 : (List Int))), .imm (.int z1.1), .imm (.int z3), .imm (enc (x1.a : (List (T3 Int Int Int)))), .unk, .unk, .unk, .unk, .unk, .unk]) L4 r6 (show (4 : Nat) < 11 by decide) rfl fun _ L5 => x_gCons rs2 fun v9 _ r7 rs3 => x_set (d := (.bool x1.b)) (Γ' := [.imm (enc (a__law_moves : (List (T3 (List (T3 Int Int Int)) Bool (T3 Int Int Int))))), .mu p__law_bag_here (ml (z2.2 : (List Int))), .imm (.int z1.1), .imm (.int z3), .imm (enc (x1.a : (List (T3 Int Int Int)))), .imm (.bool x1.b), .unk, .unk, .unk, .unk, .unk]) L5 r7 (show (5 : Nat) < 11 by decide) rfl fun _ L6 => x_gCons rs3 fun v10 _ r8 rs4 => x_set (d := (enc (x1.c : (T3 Int Int Int)))) (Γ' := [.imm (enc (a__law_moves : (List (T3 (List (T3 Int Int Int)) Bool (T3 Int Int Int))))), .mu p__law_bag_here (ml (z2.2 : (List Int))), .imm (.int z1.1), .imm (.int z3), .imm (enc (x1.a : (List (T3 Int Int Int)))), .imm (.bool x1.b), .imm (enc (x1.c : (T3 Int Int Int))), .unk, .unk, .unk, .unk]) L6 r8 (show (6 : Nat) < 11 by decide) rfl fun _ L7 => x_gNil rs4 (?_)))))
    refine x_seq (x_asg (x_tup (x_cons (x_op (x_call (x_cons (x_vm L7 rfl (x_cons (x_c (x_nil (obE hm4 fun z4 hz3 hm5 => mk__law_digit hz3 (L7.cond1 (i := 1) (.m (L7.mrep (i := 1) rfl) (.im (.int _) .nil)) rfl rfl rfl) fun _ F3 => k1 L7 F3 (i := 1) (Γ' := [.imm (enc (a__law_moves : (List (T3 (List (T3 Int Int Int)) Bool (T3 Int Int Int))))), .mu p__law_bag_here (ml (z4.2 : (List Int))), .imm (.int z1.1), .imm (.int z3), .imm (enc (x1.a : (List (T3 Int Int Int)))), .imm (.bool x1.b), .imm (enc (x1.c : (T3 Int Int Int))), .unk, .unk, .unk, .unk]) rfl rfl rfl fun L8 le3 => x_c (x_r0 (x_cons (x_op (x_call (x_cons (x_vm L8 rfl (x_cons (x_c (x_nil (obE hm5 fun z5 hz4 hm6 => mk__law_digit hz4 (L8.cond1 (i := 1) (.m (L8.mrep (i := 1) rfl) (.im (.int _) .nil)) rfl rfl rfl) fun _ F4 => k1 L8 F4 (i := 1) (Γ' := [.imm (enc (a__law_moves : (List (T3 (List (T3 Int Int Int)) Bool (T3 Int Int Int))))), .mu p__law_bag_here (ml (z5.2 : (List Int))), .imm (.int z1.1), .imm (.int z3), .imm (enc (x1.a : (List (T3 Int Int Int)))), .imm (.bool x1.b), .imm (enc (x1.c : (T3 Int Int Int))), .unk, .unk, .unk, .unk]) rfl rfl rfl fun L9 le4 => x_c (x_r0 (x_cons (x_c (x_nil (x_mkT L9 (.cons (.int _) (.cons (.int _) (.cons (.int _) .nil))) (show (3 : Nat) ≤ 16777216 by decide) fun v13 _ L10 le5 r9 => have r10 : Rep _ _ _ (enc ((T3.mk ((z4.1 - 9)) ((z5.1 - 9)) 1) : (T3 Int Int Int))) v13 := r9; x_bset (x0 := (T3.mk ((z4.1 - 9)) ((z5.1 - 9)) 1)) (d := fun shift_1 => (enc (shift_1 : (T3 Int Int Int)))) (Γf := fun shift_1 => [.imm (enc (a__law_moves : (List (T3 (List (T3 Int Int Int)) Bool (T3 Int Int Int))))), .mu p__law_bag_here (ml (z5.2 : (List Int))), .imm (.int z1.1), .imm (.int z3), .imm (enc (x1.a : (List (T3 Int Int Int)))), .imm (.bool x1.b), .imm (enc (x1.c : (T3 Int Int Int))), .imm (enc (shift_1 : (T3 Int Int Int))), .unk, .unk, .unk]) hm6 L10 r10 (show (7 : Nat) < 11 by decide) (fun _ => rfl) fun shift_1 _ hm7 L11 => ?_))))))))))))))))))))))))))
    refine x_seq (x_ifS (x_test (x_op (x_vd (d := (enc (shift_1 : (T3 Int Int Int)))) L11 rfl fun v14 r11 => x_tup (x_cons (x_c (x_cons (x_c (x_cons (x_c (x_nil (x_mkT L11 (.cons (.int _) (.cons (.int _) (.cons (.int _) .nil))) (show (3 : Nat) ≤ 16777216 by decide) fun v15 _ L12 le6 r12 => have r13 := le6 _ _ r11; have r14 : Rep _ _ _ (enc ((T3.mk 0 0 1) : (T3 Int Int Int))) v15 := r12; x_eqd (x := shift_1) (y := (T3.mk 0 0 1)) r13.dp r14.dp (by decide) (x_kb (x_join (G := (fun (s1 : (T3 Int Int Int)) => [.imm (enc (a__law_moves : (List (T3 (List (T3 Int Int Int)) Bool (T3 Int Int Int))))), .mu p__law_bag_here (ml (z5.2 : (List Int))), .imm (.int z1.1), .imm (.int z3), .imm (enc (x1.a : (List (T3 Int Int Int)))), .imm (.bool x1.b), .imm (enc (x1.c : (T3 Int Int Int))), .imm (enc (s1 : (T3 Int Int Int))), .unk, .unk, .unk])) L12 hm7 (fun _ hm8 _ hN1 => ?_) (fun _ hm8 _ hN1 => ?_) fun s1 X1 _ _ hm9 L13 => ?_))))))))))))))
    · refine x_asg (x_tup (x_cons (x_c (x_cons (x_c (x_cons (x_c (x_nil (x_mkT L12 (.cons (.int _) (.cons (.int _) (.cons (.int _) .nil))) (show (3 : Nat) ≤ 16777216 by decide) fun v16 _ L14 le7 r15 => have r16 : Rep _ _ _ (enc ((T3.mk 1 0 2) : (T3 Int Int Int))) v16 := r15; x_bset (x0 := (T3.mk 1 0 2)) (d := fun shift_2 => (enc (shift_2 : (T3 Int Int Int)))) (Γf := fun shift_2 => [.imm (enc (a__law_moves : (List (T3 (List (T3 Int Int Int)) Bool (T3 Int Int Int))))), .mu p__law_bag_here (ml (z5.2 : (List Int))), .imm (.int z1.1), .imm (.int z3), .imm (enc (x1.a : (List (T3 Int Int Int)))), .imm (.bool x1.b), .imm (enc (x1.c : (T3 Int Int Int))), .imm (enc (shift_2 : (T3 Int Int Int))), .unk, .unk, .unk]) hm8 L14 r16 (show (7 : Nat) < 11 by decide) (fun _ => rfl) fun shift_2 _ hm10 L15 => ?_)))))))))
      exact x_leaf (G := (fun (s1 : (T3 Int Int Int)) => [.imm (enc (a__law_moves : (List (T3 (List (T3 Int Int Int)) Bool (T3 Int Int Int))))), .mu p__law_bag_here (ml (z5.2 : (List Int))), .imm (.int z1.1), .imm (.int z3), .imm (enc (x1.a : (List (T3 Int Int Int)))), .imm (.bool x1.b), .imm (enc (x1.c : (T3 Int Int Int))), .imm (enc (s1 : (T3 Int Int Int))), .unk, .unk, .unk])) (e := shift_2) hm10 hN1 (L15.weak (Γ' := [.imm (enc (a__law_moves : (List (T3 (List (T3 Int Int Int)) Bool (T3 Int Int Int))))), .mu p__law_bag_here (ml (z5.2 : (List Int))), .imm (.int z1.1), .imm (.int z3), .imm (enc (x1.a : (List (T3 Int Int Int)))), .imm (.bool x1.b), .imm (enc (x1.c : (T3 Int Int Int))), .imm (enc (shift_2 : (T3 Int Int Int))), .unk, .unk, .unk]) (.k (.k (.k (.k (.k (.k (.k (.k (.k (.k (.k .e))))))))))))
    · refine x_next ?_
      exact x_leaf (G := (fun (s1 : (T3 Int Int Int)) => [.imm (enc (a__law_moves : (List (T3 (List (T3 Int Int Int)) Bool (T3 Int Int Int))))), .mu p__law_bag_here (ml (z5.2 : (List Int))), .imm (.int z1.1), .imm (.int z3), .imm (enc (x1.a : (List (T3 Int Int Int)))), .imm (.bool x1.b), .imm (enc (x1.c : (T3 Int Int Int))), .imm (enc (s1 : (T3 Int Int Int))), .unk, .unk, .unk])) (e := shift_1) hm8 hN1 (L12.weak (Γ' := [.imm (enc (a__law_moves : (List (T3 (List (T3 Int Int Int)) Bool (T3 Int Int Int))))), .mu p__law_bag_here (ml (z5.2 : (List Int))), .imm (.int z1.1), .imm (.int z3), .imm (enc (x1.a : (List (T3 Int Int Int)))), .imm (.bool x1.b), .imm (enc (x1.c : (T3 Int Int Int))), .imm (enc (shift_1 : (T3 Int Int Int))), .unk, .unk, .unk]) (.k (.k (.k (.k (.k (.k (.k (.k (.k (.k (.k .e))))))))))))
    refine x_seq (x_asg (x_call (x_cons (x_vm L13 rfl (x_cons (x_c (x_nil (obE hm9 fun z6 hz5 hm11 => mk__law_digit hz5 (L13.cond1 (i := 1) (.m (L13.mrep (i := 1) rfl) (.im (.int _) .nil)) rfl rfl rfl) fun _ F5 => k1 L13 F5 (i := 1) (Γ' := [.imm (enc (a__law_moves : (List (T3 (List (T3 Int Int Int)) Bool (T3 Int Int Int))))), .mu p__law_bag_here (ml (z6.2 : (List Int))), .imm (.int z1.1), .imm (.int z3), .imm (enc (x1.a : (List (T3 Int Int Int)))), .imm (.bool x1.b), .imm (enc (x1.c : (T3 Int Int Int))), .imm (enc (s1 : (T3 Int Int Int))), .unk, .unk, .unk]) rfl rfl rfl fun L16 le8 => x_set (d := (.int z6.1)) (Γ' := [.imm (enc (a__law_moves : (List (T3 (List (T3 Int Int Int)) Bool (T3 Int Int Int))))), .mu p__law_bag_here (ml (z6.2 : (List Int))), .imm (.int z1.1), .imm (.int z3), .imm (enc (x1.a : (List (T3 Int Int Int)))), .imm (.bool x1.b), .imm (enc (x1.c : (T3 Int Int Int))), .imm (enc (s1 : (T3 Int Int Int))), .imm (.int z6.1), .unk, .unk]) L16 (.int _) (show (8 : Nat) < 11 by decide) rfl fun _ L17 => ?_))))))))
    refine x_seq (x_asg (x_call (x_cons (x_vm L17 rfl (x_cons (x_c (x_nil (obE hm11 fun z7 hz6 hm12 => mk__law_digit hz6 (L17.cond1 (i := 1) (.m (L17.mrep (i := 1) rfl) (.im (.int _) .nil)) rfl rfl rfl) fun _ F6 => k1 L17 F6 (i := 1) (Γ' := [.imm (enc (a__law_moves : (List (T3 (List (T3 Int Int Int)) Bool (T3 Int Int Int))))), .mu p__law_bag_here (ml (z7.2 : (List Int))), .imm (.int z1.1), .imm (.int z3), .imm (enc (x1.a : (List (T3 Int Int Int)))), .imm (.bool x1.b), .imm (enc (x1.c : (T3 Int Int Int))), .imm (enc (s1 : (T3 Int Int Int))), .imm (.int z6.1), .unk, .unk]) rfl rfl rfl fun L18 le9 => x_set (d := (.int z7.1)) (Γ' := [.imm (enc (a__law_moves : (List (T3 (List (T3 Int Int Int)) Bool (T3 Int Int Int))))), .mu p__law_bag_here (ml (z7.2 : (List Int))), .imm (.int z1.1), .imm (.int z3), .imm (enc (x1.a : (List (T3 Int Int Int)))), .imm (.bool x1.b), .imm (enc (x1.c : (T3 Int Int Int))), .imm (enc (s1 : (T3 Int Int Int))), .imm (.int z6.1), .imm (.int z7.1), .unk]) L18 (.int _) (show (9 : Nat) < 11 by decide) rfl fun _ L19 => ?_))))))))
    refine x_seq (x_asg (x_lst (x_cons (x_op (x_vd (d := (enc (a__law_moves : (List (T3 (List (T3 Int Int Int)) Bool (T3 Int Int Int)))))) L19 rfl fun v19 r17 => x_vI (x := z1.1) L19 rfl (x_ixL (xs := a__law_moves) hm12 r17 fun x2 v20 _ hm13 r18 => x_nil (x_mkL L19 (.cons r18 .nil) (show (1 : Nat) ≤ 16777216 by decide) fun v21 _ L20 le10 r19 => have r20 : Rep _ _ _ (enc ([x2] : (List (T3 (List (T3 Int Int Int)) Bool (T3 Int Int Int))))) v21 := r19; x_bset (x0 := [x2]) (d := fun some_1 => (enc (some_1 : (List (T3 (List (T3 Int Int Int)) Bool (T3 Int Int Int)))))) (Γf := fun some_1 => [.imm (enc (a__law_moves : (List (T3 (List (T3 Int Int Int)) Bool (T3 Int Int Int))))), .mu p__law_bag_here (ml (z7.2 : (List Int))), .imm (.int z1.1), .imm (.int z3), .imm (enc (x1.a : (List (T3 Int Int Int)))), .imm (.bool x1.b), .imm (enc (x1.c : (T3 Int Int Int))), .imm (enc (s1 : (T3 Int Int Int))), .imm (.int z6.1), .imm (.int z7.1), .imm (enc (some_1 : (List (T3 (List (T3 Int Int Int)) Bool (T3 Int Int Int)))))]) hm13 L20 r20 (show (10 : Nat) < 11 by decide) (fun _ => rfl) fun some_1 _ hm14 L21 => ?_)))))))
    refine x_seq (x_ifS (x_test (x_op (x_vI (x := z7.1) L21 rfl (x_c (x_eqi (x_kb (x_join (G := (fun (s2 : (List (T3 (List (T3 Int Int Int)) Bool (T3 Int Int Int)))) => [.imm (enc (a__law_moves : (List (T3 (List (T3 Int Int Int)) Bool (T3 Int Int Int))))), .mu p__law_bag_here (ml (z7.2 : (List Int))), .imm (.int z1.1), .imm (.int z3), .imm (enc (x1.a : (List (T3 Int Int Int)))), .imm (.bool x1.b), .imm (enc (x1.c : (T3 Int Int Int))), .imm (enc (s1 : (T3 Int Int Int))), .imm (.int z6.1), .imm (.int z7.1), .imm (enc (s2 : (List (T3 (List (T3 Int Int Int)) Bool (T3 Int Int Int)))))])) L21 hm14 (fun _ hm15 _ hN2 => ?_) (fun _ hm15 _ hN2 => ?_) fun s2 X2 _ _ hm16 L22 => ?_))))))))
    · refine x_asg (x_lst (x_nil (x_mkL L21 .nil (show (0 : Nat) ≤ 16777216 by decide) fun v22 _ L23 le11 r21 => have r22 : Rep _ _ _ (enc (([] : (List (T3 (List (T3 Int Int Int)) Bool (T3 Int Int Int)))) : (List (T3 (List (T3 Int Int Int)) Bool (T3 Int Int Int))))) v22 := r21; x_bset (x0 := ([] : (List (T3 (List (T3 Int Int Int)) Bool (T3 Int Int Int))))) (d := fun some_2 => (enc (some_2 : (List (T3 (List (T3 Int Int Int)) Bool (T3 Int Int Int)))))) (Γf := fun some_2 => [.imm (enc (a__law_moves : (List (T3 (List (T3 Int Int Int)) Bool (T3 Int Int Int))))), .mu p__law_bag_here (ml (z7.2 : (List Int))), .imm (.int z1.1), .imm (.int z3), .imm (enc (x1.a : (List (T3 Int Int Int)))), .imm (.bool x1.b), .imm (enc (x1.c : (T3 Int Int Int))), .imm (enc (s1 : (T3 Int Int Int))), .imm (.int z6.1), .imm (.int z7.1), .imm (enc (some_2 : (List (T3 (List (T3 Int Int Int)) Bool (T3 Int Int Int)))))]) hm15 L23 r22 (show (10 : Nat) < 11 by decide) (fun _ => rfl) fun some_2 _ hm17 L24 => ?_)))
      exact x_leaf (G := (fun (s2 : (List (T3 (List (T3 Int Int Int)) Bool (T3 Int Int Int)))) => [.imm (enc (a__law_moves : (List (T3 (List (T3 Int Int Int)) Bool (T3 Int Int Int))))), .mu p__law_bag_here (ml (z7.2 : (List Int))), .imm (.int z1.1), .imm (.int z3), .imm (enc (x1.a : (List (T3 Int Int Int)))), .imm (.bool x1.b), .imm (enc (x1.c : (T3 Int Int Int))), .imm (enc (s1 : (T3 Int Int Int))), .imm (.int z6.1), .imm (.int z7.1), .imm (enc (s2 : (List (T3 (List (T3 Int Int Int)) Bool (T3 Int Int Int)))))])) (e := some_2) hm17 hN2 (L24.weak (Γ' := [.imm (enc (a__law_moves : (List (T3 (List (T3 Int Int Int)) Bool (T3 Int Int Int))))), .mu p__law_bag_here (ml (z7.2 : (List Int))), .imm (.int z1.1), .imm (.int z3), .imm (enc (x1.a : (List (T3 Int Int Int)))), .imm (.bool x1.b), .imm (enc (x1.c : (T3 Int Int Int))), .imm (enc (s1 : (T3 Int Int Int))), .imm (.int z6.1), .imm (.int z7.1), .imm (enc (some_2 : (List (T3 (List (T3 Int Int Int)) Bool (T3 Int Int Int)))))]) (.k (.k (.k (.k (.k (.k (.k (.k (.k (.k (.k .e))))))))))))
    · refine x_next ?_
      exact x_leaf (G := (fun (s2 : (List (T3 (List (T3 Int Int Int)) Bool (T3 Int Int Int)))) => [.imm (enc (a__law_moves : (List (T3 (List (T3 Int Int Int)) Bool (T3 Int Int Int))))), .mu p__law_bag_here (ml (z7.2 : (List Int))), .imm (.int z1.1), .imm (.int z3), .imm (enc (x1.a : (List (T3 Int Int Int)))), .imm (.bool x1.b), .imm (enc (x1.c : (T3 Int Int Int))), .imm (enc (s1 : (T3 Int Int Int))), .imm (.int z6.1), .imm (.int z7.1), .imm (enc (s2 : (List (T3 (List (T3 Int Int Int)) Bool (T3 Int Int Int)))))])) (e := some_1) hm15 hN2 (L21.weak (Γ' := [.imm (enc (a__law_moves : (List (T3 (List (T3 Int Int Int)) Bool (T3 Int Int Int))))), .mu p__law_bag_here (ml (z7.2 : (List Int))), .imm (.int z1.1), .imm (.int z3), .imm (enc (x1.a : (List (T3 Int Int Int)))), .imm (.bool x1.b), .imm (enc (x1.c : (T3 Int Int Int))), .imm (enc (s1 : (T3 Int Int Int))), .imm (.int z6.1), .imm (.int z7.1), .imm (enc (some_1 : (List (T3 (List (T3 Int Int Int)) Bool (T3 Int Int Int)))))]) (.k (.k (.k (.k (.k (.k (.k (.k (.k (.k (.k .e))))))))))))
    refine x_seq (x_ifS (x_test (x_op (x_vI (x := z7.1) L22 rfl (x_c (x_eqi (x_kb (x_join (G := (fun (s3 : (List (T3 (List (T3 Int Int Int)) Bool (T3 Int Int Int)))) => [.imm (enc (a__law_moves : (List (T3 (List (T3 Int Int Int)) Bool (T3 Int Int Int))))), .mu p__law_bag_here (ml (z7.2 : (List Int))), .imm (.int z1.1), .imm (.int z3), .imm (enc (x1.a : (List (T3 Int Int Int)))), .imm (.bool x1.b), .imm (enc (x1.c : (T3 Int Int Int))), .imm (enc (s1 : (T3 Int Int Int))), .imm (.int z6.1), .imm (.int z7.1), .imm (enc (s3 : (List (T3 (List (T3 Int Int Int)) Bool (T3 Int Int Int)))))])) L22 hm16 (fun _ hm18 _ hN3 => ?_) (fun _ hm18 _ hN3 => ?_) fun s3 X3 _ _ hm19 L25 => ?_))))))))
    · refine x_asg (x_lst (x_cons (x_op (x_vd (d := (enc (a__law_moves : (List (T3 (List (T3 Int Int Int)) Bool (T3 Int Int Int)))))) L22 rfl fun v23 r23 => x_vI (x := z1.1) L22 rfl (x_ixL (xs := a__law_moves) hm18 r23 fun x3 v24 _ hm20 r24 => x_cons (x_op (x_vd (d := (enc (a__law_moves : (List (T3 (List (T3 Int Int Int)) Bool (T3 Int Int Int)))))) L22 rfl fun v25 r25 => x_vI (x := z1.1) L22 rfl (x_ixL (xs := a__law_moves) hm20 r25 fun x4 v26 _ hm21 r26 => x_nil (x_mkL L22 (.cons r24 (.cons r26 .nil)) (show (2 : Nat) ≤ 16777216 by decide) fun v27 _ L26 le12 r27 => have r28 : Rep _ _ _ (enc ([x3, x4] : (List (T3 (List (T3 Int Int Int)) Bool (T3 Int Int Int))))) v27 := r27; x_bset (x0 := [x3, x4]) (d := fun some_3 => (enc (some_3 : (List (T3 (List (T3 Int Int Int)) Bool (T3 Int Int Int)))))) (Γf := fun some_3 => [.imm (enc (a__law_moves : (List (T3 (List (T3 Int Int Int)) Bool (T3 Int Int Int))))), .mu p__law_bag_here (ml (z7.2 : (List Int))), .imm (.int z1.1), .imm (.int z3), .imm (enc (x1.a : (List (T3 Int Int Int)))), .imm (.bool x1.b), .imm (enc (x1.c : (T3 Int Int Int))), .imm (enc (s1 : (T3 Int Int Int))), .imm (.int z6.1), .imm (.int z7.1), .imm (enc (some_3 : (List (T3 (List (T3 Int Int Int)) Bool (T3 Int Int Int)))))]) hm21 L26 r28 (show (10 : Nat) < 11 by decide) (fun _ => rfl) fun some_3 _ hm22 L27 => ?_)))))))))
      exact x_leaf (G := (fun (s3 : (List (T3 (List (T3 Int Int Int)) Bool (T3 Int Int Int)))) => [.imm (enc (a__law_moves : (List (T3 (List (T3 Int Int Int)) Bool (T3 Int Int Int))))), .mu p__law_bag_here (ml (z7.2 : (List Int))), .imm (.int z1.1), .imm (.int z3), .imm (enc (x1.a : (List (T3 Int Int Int)))), .imm (.bool x1.b), .imm (enc (x1.c : (T3 Int Int Int))), .imm (enc (s1 : (T3 Int Int Int))), .imm (.int z6.1), .imm (.int z7.1), .imm (enc (s3 : (List (T3 (List (T3 Int Int Int)) Bool (T3 Int Int Int)))))])) (e := some_3) hm22 hN3 (L27.weak (Γ' := [.imm (enc (a__law_moves : (List (T3 (List (T3 Int Int Int)) Bool (T3 Int Int Int))))), .mu p__law_bag_here (ml (z7.2 : (List Int))), .imm (.int z1.1), .imm (.int z3), .imm (enc (x1.a : (List (T3 Int Int Int)))), .imm (.bool x1.b), .imm (enc (x1.c : (T3 Int Int Int))), .imm (enc (s1 : (T3 Int Int Int))), .imm (.int z6.1), .imm (.int z7.1), .imm (enc (some_3 : (List (T3 (List (T3 Int Int Int)) Bool (T3 Int Int Int)))))]) (.k (.k (.k (.k (.k (.k (.k (.k (.k (.k (.k .e))))))))))))
    · refine x_next ?_
      exact x_leaf (G := (fun (s3 : (List (T3 (List (T3 Int Int Int)) Bool (T3 Int Int Int)))) => [.imm (enc (a__law_moves : (List (T3 (List (T3 Int Int Int)) Bool (T3 Int Int Int))))), .mu p__law_bag_here (ml (z7.2 : (List Int))), .imm (.int z1.1), .imm (.int z3), .imm (enc (x1.a : (List (T3 Int Int Int)))), .imm (.bool x1.b), .imm (enc (x1.c : (T3 Int Int Int))), .imm (enc (s1 : (T3 Int Int Int))), .imm (.int z6.1), .imm (.int z7.1), .imm (enc (s3 : (List (T3 (List (T3 Int Int Int)) Bool (T3 Int Int Int)))))])) (e := s2) hm18 hN3 (L22.weak (Γ' := [.imm (enc (a__law_moves : (List (T3 (List (T3 Int Int Int)) Bool (T3 Int Int Int))))), .mu p__law_bag_here (ml (z7.2 : (List Int))), .imm (.int z1.1), .imm (.int z3), .imm (enc (x1.a : (List (T3 Int Int Int)))), .imm (.bool x1.b), .imm (enc (x1.c : (T3 Int Int Int))), .imm (enc (s1 : (T3 Int Int Int))), .imm (.int z6.1), .imm (.int z7.1), .imm (enc (s2 : (List (T3 (List (T3 Int Int Int)) Bool (T3 Int Int Int)))))]) (.k (.k (.k (.k (.k (.k (.k (.k (.k (.k (.k .e))))))))))))
    refine x_seq (x_ifS (x_test (x_op (x_vI (x := z7.1) L25 rfl (x_c (x_eqi (x_kb (x_join (G := (fun (s4 : (List (T3 (List (T3 Int Int Int)) Bool (T3 Int Int Int)))) => [.imm (enc (a__law_moves : (List (T3 (List (T3 Int Int Int)) Bool (T3 Int Int Int))))), .mu p__law_bag_here (ml (z7.2 : (List Int))), .imm (.int z1.1), .imm (.int z3), .imm (enc (x1.a : (List (T3 Int Int Int)))), .imm (.bool x1.b), .imm (enc (x1.c : (T3 Int Int Int))), .imm (enc (s1 : (T3 Int Int Int))), .imm (.int z6.1), .imm (.int z7.1), .imm (enc (s4 : (List (T3 (List (T3 Int Int Int)) Bool (T3 Int Int Int)))))])) L25 hm19 (fun _ hm23 _ hN4 => ?_) (fun _ hm23 _ hN4 => ?_) fun s4 X4 _ _ hm24 L28 => ?_))))))))
    · refine x_asg (x_lst (x_cons (x_tup (x_cons (x_vd (d := (enc (x1.a : (List (T3 Int Int Int))))) L25 rfl fun v28 r29 => x_cons (x_vB (x := x1.b) L25 rfl (x_cons (x_call (x_cons (x_vd (d := (enc (x1.c : (T3 Int Int Int)))) L25 rfl fun v29 r30 => x_cons (x_vd (d := (enc (s1 : (T3 Int Int Int)))) L25 rfl fun v30 r31 => x_nil (obE hm23 fun z8 hz7 hm25 => mk__law_slid hz7 (L25.cond0 (.im r30 (.im r31 .nil)) rfl) fun v31 _ F7 => k0d L25 F7 fun L29 le13 r32 => have r33 := le13 _ _ r29; x_nil (x_mkT L29 (.cons r33 (.cons (.bl _) (.cons r32 .nil))) (show (3 : Nat) ≤ 16777216 by decide) fun v32 _ L30 le14 r34 => have r35 : Rep _ _ _ (enc ((T3.mk x1.a x1.b z8) : (T3 (List (T3 Int Int Int)) Bool (T3 Int Int Int)))) v32 := r34; x_nil (x_mkL L30 (.cons r35 .nil) (show (1 : Nat) ≤ 16777216 by decide) fun v33 _ L31 le15 r36 => have r37 : Rep _ _ _ (enc ([(T3.mk x1.a x1.b z8)] : (List (T3 (List (T3 Int Int Int)) Bool (T3 Int Int Int))))) v33 := r36; x_bset (x0 := [(T3.mk x1.a x1.b z8)]) (d := fun some_4 => (enc (some_4 : (List (T3 (List (T3 Int Int Int)) Bool (T3 Int Int Int)))))) (Γf := fun some_4 => [.imm (enc (a__law_moves : (List (T3 (List (T3 Int Int Int)) Bool (T3 Int Int Int))))), .mu p__law_bag_here (ml (z7.2 : (List Int))), .imm (.int z1.1), .imm (.int z3), .imm (enc (x1.a : (List (T3 Int Int Int)))), .imm (.bool x1.b), .imm (enc (x1.c : (T3 Int Int Int))), .imm (enc (s1 : (T3 Int Int Int))), .imm (.int z6.1), .imm (.int z7.1), .imm (enc (some_4 : (List (T3 (List (T3 Int Int Int)) Bool (T3 Int Int Int)))))]) hm25 L31 r37 (show (10 : Nat) < 11 by decide) (fun _ => rfl) fun some_4 _ hm26 L32 => ?_))))))))))))))
      exact x_leaf (G := (fun (s4 : (List (T3 (List (T3 Int Int Int)) Bool (T3 Int Int Int)))) => [.imm (enc (a__law_moves : (List (T3 (List (T3 Int Int Int)) Bool (T3 Int Int Int))))), .mu p__law_bag_here (ml (z7.2 : (List Int))), .imm (.int z1.1), .imm (.int z3), .imm (enc (x1.a : (List (T3 Int Int Int)))), .imm (.bool x1.b), .imm (enc (x1.c : (T3 Int Int Int))), .imm (enc (s1 : (T3 Int Int Int))), .imm (.int z6.1), .imm (.int z7.1), .imm (enc (s4 : (List (T3 (List (T3 Int Int Int)) Bool (T3 Int Int Int)))))])) (e := some_4) hm26 hN4 (L32.weak (Γ' := [.imm (enc (a__law_moves : (List (T3 (List (T3 Int Int Int)) Bool (T3 Int Int Int))))), .mu p__law_bag_here (ml (z7.2 : (List Int))), .imm (.int z1.1), .imm (.int z3), .imm (enc (x1.a : (List (T3 Int Int Int)))), .imm (.bool x1.b), .imm (enc (x1.c : (T3 Int Int Int))), .imm (enc (s1 : (T3 Int Int Int))), .imm (.int z6.1), .imm (.int z7.1), .imm (enc (some_4 : (List (T3 (List (T3 Int Int Int)) Bool (T3 Int Int Int)))))]) (.k (.k (.k (.k (.k (.k (.k (.k (.k (.k (.k .e))))))))))))
    · refine x_next ?_
      exact x_leaf (G := (fun (s4 : (List (T3 (List (T3 Int Int Int)) Bool (T3 Int Int Int)))) => [.imm (enc (a__law_moves : (List (T3 (List (T3 Int Int Int)) Bool (T3 Int Int Int))))), .mu p__law_bag_here (ml (z7.2 : (List Int))), .imm (.int z1.1), .imm (.int z3), .imm (enc (x1.a : (List (T3 Int Int Int)))), .imm (.bool x1.b), .imm (enc (x1.c : (T3 Int Int Int))), .imm (enc (s1 : (T3 Int Int Int))), .imm (.int z6.1), .imm (.int z7.1), .imm (enc (s4 : (List (T3 (List (T3 Int Int Int)) Bool (T3 Int Int Int)))))])) (e := s3) hm23 hN4 (L25.weak (Γ' := [.imm (enc (a__law_moves : (List (T3 (List (T3 Int Int Int)) Bool (T3 Int Int Int))))), .mu p__law_bag_here (ml (z7.2 : (List Int))), .imm (.int z1.1), .imm (.int z3), .imm (enc (x1.a : (List (T3 Int Int Int)))), .imm (.bool x1.b), .imm (enc (x1.c : (T3 Int Int Int))), .imm (enc (s1 : (T3 Int Int Int))), .imm (.int z6.1), .imm (.int z7.1), .imm (enc (s3 : (List (T3 (List (T3 Int Int Int)) Bool (T3 Int Int Int)))))]) (.k (.k (.k (.k (.k (.k (.k (.k (.k (.k (.k .e))))))))))))
    refine x_seq (x_ifS (x_test (x_op (x_vI (x := z7.1) L28 rfl (x_c (x_eqi (x_kb (x_join (G := (fun (s5 : (List (T3 (List (T3 Int Int Int)) Bool (T3 Int Int Int)))) => [.imm (enc (a__law_moves : (List (T3 (List (T3 Int Int Int)) Bool (T3 Int Int Int))))), .mu p__law_bag_here (ml (z7.2 : (List Int))), .imm (.int z1.1), .imm (.int z3), .imm (enc (x1.a : (List (T3 Int Int Int)))), .imm (.bool x1.b), .imm (enc (x1.c : (T3 Int Int Int))), .imm (enc (s1 : (T3 Int Int Int))), .imm (.int z6.1), .imm (.int z7.1), .imm (enc (s5 : (List (T3 (List (T3 Int Int Int)) Bool (T3 Int Int Int)))))])) L28 hm24 (fun _ hm27 _ hN5 => ?_) (fun _ hm27 _ hN5 => ?_) fun s5 X5 _ _ hm28 L33 => ?_))))))))
    · refine x_asg (x_lst (x_cons (x_tup (x_cons (x_op (x_op (x_sl (x_vd (d := (enc (x1.a : (List (T3 Int Int Int))))) L28 rfl fun v34 r38 => x_noP (x_part (x_vI (x := z6.1) L28 rfl (x_partK (x_slL (xs := x1.a) L28 r38 fun v35 _ L34 le16 r39 => have r40 : Rep _ _ _ (enc ((slice x1.a none (some z6.1)) : (List (T3 Int Int Int)))) v35 := r39; x_lst (x_cons (x_call (x_cons (x_op (x_vd (d := (enc (x1.a : (List (T3 Int Int Int))))) L34 rfl fun v36 r41 => x_vI (x := z6.1) L34 rfl (x_ixL (xs := x1.a) hm27 r41 fun x5 v37 _ hm29 r42 => x_cons (x_vd (d := (enc (s1 : (T3 Int Int Int)))) L34 rfl fun v38 r43 => x_nil (obE hm29 fun z9 hz8 hm30 => mk__law_slid hz8 (L34.cond0 (.im r42 (.im r43 .nil)) rfl) fun v39 _ F8 => k0d L34 F8 fun L35 le17 r44 => have r45 := le17 _ _ r40; x_nil (x_mkL L35 (.cons r44 .nil) (show (1 : Nat) ≤ 16777216 by decide) fun v40 _ L36 le18 r46 => have r47 := le18 _ _ r45; have r48 : Rep _ _ _ (enc ([z9] : (List (T3 Int Int Int)))) v40 := r46; x_cat L36 hm30 r47 r48 fun v41 _ hm31 L37 le19 r49 => have r50 : Rep _ _ _ (enc (((slice x1.a none (some z6.1)) ++ [z9]) : (List (T3 Int Int Int)))) v41 := r49; x_sl (x_vd (d := (enc (x1.a : (List (T3 Int Int Int))))) L37 rfl fun v42 r51 => x_part (x_op (x_vI (x := z6.1) L37 rfl (x_c (x_r0 (x_partK (x_noP (x_slL (xs := x1.a) L37 r51 fun v43 _ L38 le20 r52 => have r53 := le20 _ _ r50; have r54 : Rep _ _ _ (enc ((slice x1.a (some ((z6.1 + 1))) none) : (List (T3 Int Int Int)))) v43 := r52; x_cat L38 hm31 r53 r54 fun v44 _ hm32 L39 le21 r55 => have r56 : Rep _ _ _ (enc ((((slice x1.a none (some z6.1)) ++ [z9]) ++ (slice x1.a (some ((z6.1 + 1))) none)) : (List (T3 Int Int Int)))) v44 := r55; x_cons (x_vB (x := x1.b) L39 rfl (x_cons (x_vd (d := (enc (x1.c : (T3 Int Int Int)))) L39 rfl fun v45 r57 => x_nil (x_mkT L39 (.cons r56 (.cons (.bl _) (.cons r57 .nil))) (show (3 : Nat) ≤ 16777216 by decide) fun v46 _ L40 le22 r58 => have r59 : Rep _ _ _ (enc ((T3.mk ((((slice x1.a none (some z6.1)) ++ [z9]) ++ (slice x1.a (some ((z6.1 + 1))) none))) x1.b x1.c) : (T3 (List (T3 Int Int Int)) Bool (T3 Int Int Int)))) v46 := r58; x_nil (x_mkL L40 (.cons r59 .nil) (show (1 : Nat) ≤ 16777216 by decide) fun v47 _ L41 le23 r60 => have r61 : Rep _ _ _ (enc ([(T3.mk ((((slice x1.a none (some z6.1)) ++ [z9]) ++ (slice x1.a (some ((z6.1 + 1))) none))) x1.b x1.c)] : (List (T3 (List (T3 Int Int Int)) Bool (T3 Int Int Int))))) v47 := r60; x_bset (x0 := [(T3.mk ((((slice x1.a none (some z6.1)) ++ [z9]) ++ (slice x1.a (some ((z6.1 + 1))) none))) x1.b x1.c)]) (d := fun some_5 => (enc (some_5 : (List (T3 (List (T3 Int Int Int)) Bool (T3 Int Int Int)))))) (Γf := fun some_5 => [.imm (enc (a__law_moves : (List (T3 (List (T3 Int Int Int)) Bool (T3 Int Int Int))))), .mu p__law_bag_here (ml (z7.2 : (List Int))), .imm (.int z1.1), .imm (.int z3), .imm (enc (x1.a : (List (T3 Int Int Int)))), .imm (.bool x1.b), .imm (enc (x1.c : (T3 Int Int Int))), .imm (enc (s1 : (T3 Int Int Int))), .imm (.int z6.1), .imm (.int z7.1), .imm (enc (some_5 : (List (T3 (List (T3 Int Int Int)) Bool (T3 Int Int Int)))))]) hm32 L41 r61 (show (10 : Nat) < 11 by decide) (fun _ => rfl) fun some_5 _ hm33 L42 => ?_))))))))))))))))))))))))))))))))))
      exact x_leaf (G := (fun (s5 : (List (T3 (List (T3 Int Int Int)) Bool (T3 Int Int Int)))) => [.imm (enc (a__law_moves : (List (T3 (List (T3 Int Int Int)) Bool (T3 Int Int Int))))), .mu p__law_bag_here (ml (z7.2 : (List Int))), .imm (.int z1.1), .imm (.int z3), .imm (enc (x1.a : (List (T3 Int Int Int)))), .imm (.bool x1.b), .imm (enc (x1.c : (T3 Int Int Int))), .imm (enc (s1 : (T3 Int Int Int))), .imm (.int z6.1), .imm (.int z7.1), .imm (enc (s5 : (List (T3 (List (T3 Int Int Int)) Bool (T3 Int Int Int)))))])) (e := some_5) hm33 hN5 (L42.weak (Γ' := [.imm (enc (a__law_moves : (List (T3 (List (T3 Int Int Int)) Bool (T3 Int Int Int))))), .mu p__law_bag_here (ml (z7.2 : (List Int))), .imm (.int z1.1), .imm (.int z3), .imm (enc (x1.a : (List (T3 Int Int Int)))), .imm (.bool x1.b), .imm (enc (x1.c : (T3 Int Int Int))), .imm (enc (s1 : (T3 Int Int Int))), .imm (.int z6.1), .imm (.int z7.1), .imm (enc (some_5 : (List (T3 (List (T3 Int Int Int)) Bool (T3 Int Int Int)))))]) (.k (.k (.k (.k (.k (.k (.k (.k (.k (.k (.k .e))))))))))))
    · refine x_next ?_
      exact x_leaf (G := (fun (s5 : (List (T3 (List (T3 Int Int Int)) Bool (T3 Int Int Int)))) => [.imm (enc (a__law_moves : (List (T3 (List (T3 Int Int Int)) Bool (T3 Int Int Int))))), .mu p__law_bag_here (ml (z7.2 : (List Int))), .imm (.int z1.1), .imm (.int z3), .imm (enc (x1.a : (List (T3 Int Int Int)))), .imm (.bool x1.b), .imm (enc (x1.c : (T3 Int Int Int))), .imm (enc (s1 : (T3 Int Int Int))), .imm (.int z6.1), .imm (.int z7.1), .imm (enc (s5 : (List (T3 (List (T3 Int Int Int)) Bool (T3 Int Int Int)))))])) (e := s4) hm27 hN5 (L28.weak (Γ' := [.imm (enc (a__law_moves : (List (T3 (List (T3 Int Int Int)) Bool (T3 Int Int Int))))), .mu p__law_bag_here (ml (z7.2 : (List Int))), .imm (.int z1.1), .imm (.int z3), .imm (enc (x1.a : (List (T3 Int Int Int)))), .imm (.bool x1.b), .imm (enc (x1.c : (T3 Int Int Int))), .imm (enc (s1 : (T3 Int Int Int))), .imm (.int z6.1), .imm (.int z7.1), .imm (enc (s4 : (List (T3 (List (T3 Int Int Int)) Bool (T3 Int Int Int)))))]) (.k (.k (.k (.k (.k (.k (.k (.k (.k (.k (.k .e))))))))))))
    refine x_seq (x_ifS (x_test (x_op (x_vI (x := z7.1) L33 rfl (x_c (x_eqi (x_kb (x_join (G := (fun (s6 : (List (T3 (List (T3 Int Int Int)) Bool (T3 Int Int Int)))) => [.imm (enc (a__law_moves : (List (T3 (List (T3 Int Int Int)) Bool (T3 Int Int Int))))), .mu p__law_bag_here (ml (z7.2 : (List Int))), .imm (.int z1.1), .imm (.int z3), .imm (enc (x1.a : (List (T3 Int Int Int)))), .imm (.bool x1.b), .imm (enc (x1.c : (T3 Int Int Int))), .imm (enc (s1 : (T3 Int Int Int))), .imm (.int z6.1), .imm (.int z7.1), .imm (enc (s6 : (List (T3 (List (T3 Int Int Int)) Bool (T3 Int Int Int)))))])) L33 hm28 (fun _ hm34 _ hN6 => ?_) (fun _ hm34 _ hN6 => ?_) fun s6 X6 _ _ hm35 L43 => ?_))))))))
    · refine x_asg (x_lst (x_cons (x_tup (x_cons (x_revL (x_vd (d := (enc (x1.a : (List (T3 Int Int Int))))) L33 rfl fun v48 r62 => x_revv (xs := x1.a) L33 r62 fun v49 _ L44 le24 r63 => have r64 : Rep _ _ _ (enc (x1.a.reverse : (List (T3 Int Int Int)))) v49 := r63; x_cons (x_vB (x := x1.b) L44 rfl (x_cons (x_vd (d := (enc (x1.c : (T3 Int Int Int)))) L44 rfl fun v50 r65 => x_nil (x_mkT L44 (.cons r64 (.cons (.bl _) (.cons r65 .nil))) (show (3 : Nat) ≤ 16777216 by decide) fun v51 _ L45 le25 r66 => have r67 : Rep _ _ _ (enc ((T3.mk x1.a.reverse x1.b x1.c) : (T3 (List (T3 Int Int Int)) Bool (T3 Int Int Int)))) v51 := r66; x_nil (x_mkL L45 (.cons r67 .nil) (show (1 : Nat) ≤ 16777216 by decide) fun v52 _ L46 le26 r68 => have r69 : Rep _ _ _ (enc ([(T3.mk x1.a.reverse x1.b x1.c)] : (List (T3 (List (T3 Int Int Int)) Bool (T3 Int Int Int))))) v52 := r68; x_bset (x0 := [(T3.mk x1.a.reverse x1.b x1.c)]) (d := fun some_6 => (enc (some_6 : (List (T3 (List (T3 Int Int Int)) Bool (T3 Int Int Int)))))) (Γf := fun some_6 => [.imm (enc (a__law_moves : (List (T3 (List (T3 Int Int Int)) Bool (T3 Int Int Int))))), .mu p__law_bag_here (ml (z7.2 : (List Int))), .imm (.int z1.1), .imm (.int z3), .imm (enc (x1.a : (List (T3 Int Int Int)))), .imm (.bool x1.b), .imm (enc (x1.c : (T3 Int Int Int))), .imm (enc (s1 : (T3 Int Int Int))), .imm (.int z6.1), .imm (.int z7.1), .imm (enc (some_6 : (List (T3 (List (T3 Int Int Int)) Bool (T3 Int Int Int)))))]) hm34 L46 r69 (show (10 : Nat) < 11 by decide) (fun _ => rfl) fun some_6 _ hm36 L47 => ?_)))))))))))
      exact x_leaf (G := (fun (s6 : (List (T3 (List (T3 Int Int Int)) Bool (T3 Int Int Int)))) => [.imm (enc (a__law_moves : (List (T3 (List (T3 Int Int Int)) Bool (T3 Int Int Int))))), .mu p__law_bag_here (ml (z7.2 : (List Int))), .imm (.int z1.1), .imm (.int z3), .imm (enc (x1.a : (List (T3 Int Int Int)))), .imm (.bool x1.b), .imm (enc (x1.c : (T3 Int Int Int))), .imm (enc (s1 : (T3 Int Int Int))), .imm (.int z6.1), .imm (.int z7.1), .imm (enc (s6 : (List (T3 (List (T3 Int Int Int)) Bool (T3 Int Int Int)))))])) (e := some_6) hm36 hN6 (L47.weak (Γ' := [.imm (enc (a__law_moves : (List (T3 (List (T3 Int Int Int)) Bool (T3 Int Int Int))))), .mu p__law_bag_here (ml (z7.2 : (List Int))), .imm (.int z1.1), .imm (.int z3), .imm (enc (x1.a : (List (T3 Int Int Int)))), .imm (.bool x1.b), .imm (enc (x1.c : (T3 Int Int Int))), .imm (enc (s1 : (T3 Int Int Int))), .imm (.int z6.1), .imm (.int z7.1), .imm (enc (some_6 : (List (T3 (List (T3 Int Int Int)) Bool (T3 Int Int Int)))))]) (.k (.k (.k (.k (.k (.k (.k (.k (.k (.k (.k .e))))))))))))
    · refine x_next ?_
      exact x_leaf (G := (fun (s6 : (List (T3 (List (T3 Int Int Int)) Bool (T3 Int Int Int)))) => [.imm (enc (a__law_moves : (List (T3 (List (T3 Int Int Int)) Bool (T3 Int Int Int))))), .mu p__law_bag_here (ml (z7.2 : (List Int))), .imm (.int z1.1), .imm (.int z3), .imm (enc (x1.a : (List (T3 Int Int Int)))), .imm (.bool x1.b), .imm (enc (x1.c : (T3 Int Int Int))), .imm (enc (s1 : (T3 Int Int Int))), .imm (.int z6.1), .imm (.int z7.1), .imm (enc (s6 : (List (T3 (List (T3 Int Int Int)) Bool (T3 Int Int Int)))))])) (e := s5) hm34 hN6 (L33.weak (Γ' := [.imm (enc (a__law_moves : (List (T3 (List (T3 Int Int Int)) Bool (T3 Int Int Int))))), .mu p__law_bag_here (ml (z7.2 : (List Int))), .imm (.int z1.1), .imm (.int z3), .imm (enc (x1.a : (List (T3 Int Int Int)))), .imm (.bool x1.b), .imm (enc (x1.c : (T3 Int Int Int))), .imm (enc (s1 : (T3 Int Int Int))), .imm (.int z6.1), .imm (.int z7.1), .imm (enc (s5 : (List (T3 (List (T3 Int Int Int)) Bool (T3 Int Int Int)))))]) (.k (.k (.k (.k (.k (.k (.k (.k (.k (.k (.k .e))))))))))))
    refine x_seq (x_ifS (x_test (x_op (x_vI (x := z7.1) L43 rfl (x_c (x_eqi (x_kb (x_join (G := (fun (s7 : (List (T3 (List (T3 Int Int Int)) Bool (T3 Int Int Int)))) => [.imm (enc (a__law_moves : (List (T3 (List (T3 Int Int Int)) Bool (T3 Int Int Int))))), .mu p__law_bag_here (ml (z7.2 : (List Int))), .imm (.int z1.1), .imm (.int z3), .imm (enc (x1.a : (List (T3 Int Int Int)))), .imm (.bool x1.b), .imm (enc (x1.c : (T3 Int Int Int))), .imm (enc (s1 : (T3 Int Int Int))), .imm (.int z6.1), .imm (.int z7.1), .imm (enc (s7 : (List (T3 (List (T3 Int Int Int)) Bool (T3 Int Int Int)))))])) L43 hm35 (fun _ hm37 _ hN7 => ?_) (fun _ hm37 _ hN7 => ?_) fun s7 X7 _ _ hm38 L48 => ?_))))))))
    · refine x_asg (x_lst (x_cons (x_tup (x_cons (x_vd (d := (enc (x1.a : (List (T3 Int Int Int))))) L43 rfl fun v53 r70 => x_cons (x_notV (x_vB (x := x1.b) L43 rfl (x_kb (x_knV (x_cons (x_vd (d := (enc (x1.c : (T3 Int Int Int)))) L43 rfl fun v54 r71 => x_nil (x_mkT L43 (.cons r70 (.cons (.bl _) (.cons r71 .nil))) (show (3 : Nat) ≤ 16777216 by decide) fun v55 _ L49 le27 r72 => have r73 : Rep _ _ _ (enc ((T3.mk x1.a ((!x1.b)) x1.c) : (T3 (List (T3 Int Int Int)) Bool (T3 Int Int Int)))) v55 := r72; x_nil (x_mkL L49 (.cons r73 .nil) (show (1 : Nat) ≤ 16777216 by decide) fun v56 _ L50 le28 r74 => have r75 : Rep _ _ _ (enc ([(T3.mk x1.a ((!x1.b)) x1.c)] : (List (T3 (List (T3 Int Int Int)) Bool (T3 Int Int Int))))) v56 := r74; x_bset (x0 := [(T3.mk x1.a ((!x1.b)) x1.c)]) (d := fun some_7 => (enc (some_7 : (List (T3 (List (T3 Int Int Int)) Bool (T3 Int Int Int)))))) (Γf := fun some_7 => [.imm (enc (a__law_moves : (List (T3 (List (T3 Int Int Int)) Bool (T3 Int Int Int))))), .mu p__law_bag_here (ml (z7.2 : (List Int))), .imm (.int z1.1), .imm (.int z3), .imm (enc (x1.a : (List (T3 Int Int Int)))), .imm (.bool x1.b), .imm (enc (x1.c : (T3 Int Int Int))), .imm (enc (s1 : (T3 Int Int Int))), .imm (.int z6.1), .imm (.int z7.1), .imm (enc (some_7 : (List (T3 (List (T3 Int Int Int)) Bool (T3 Int Int Int)))))]) hm37 L50 r75 (show (10 : Nat) < 11 by decide) (fun _ => rfl) fun some_7 _ hm39 L51 => ?_)))))))))))))
      exact x_leaf (G := (fun (s7 : (List (T3 (List (T3 Int Int Int)) Bool (T3 Int Int Int)))) => [.imm (enc (a__law_moves : (List (T3 (List (T3 Int Int Int)) Bool (T3 Int Int Int))))), .mu p__law_bag_here (ml (z7.2 : (List Int))), .imm (.int z1.1), .imm (.int z3), .imm (enc (x1.a : (List (T3 Int Int Int)))), .imm (.bool x1.b), .imm (enc (x1.c : (T3 Int Int Int))), .imm (enc (s1 : (T3 Int Int Int))), .imm (.int z6.1), .imm (.int z7.1), .imm (enc (s7 : (List (T3 (List (T3 Int Int Int)) Bool (T3 Int Int Int)))))])) (e := some_7) hm39 hN7 (L51.weak (Γ' := [.imm (enc (a__law_moves : (List (T3 (List (T3 Int Int Int)) Bool (T3 Int Int Int))))), .mu p__law_bag_here (ml (z7.2 : (List Int))), .imm (.int z1.1), .imm (.int z3), .imm (enc (x1.a : (List (T3 Int Int Int)))), .imm (.bool x1.b), .imm (enc (x1.c : (T3 Int Int Int))), .imm (enc (s1 : (T3 Int Int Int))), .imm (.int z6.1), .imm (.int z7.1), .imm (enc (some_7 : (List (T3 (List (T3 Int Int Int)) Bool (T3 Int Int Int)))))]) (.k (.k (.k (.k (.k (.k (.k (.k (.k (.k (.k .e))))))))))))
    · refine x_next ?_
      exact x_leaf (G := (fun (s7 : (List (T3 (List (T3 Int Int Int)) Bool (T3 Int Int Int)))) => [.imm (enc (a__law_moves : (List (T3 (List (T3 Int Int Int)) Bool (T3 Int Int Int))))), .mu p__law_bag_here (ml (z7.2 : (List Int))), .imm (.int z1.1), .imm (.int z3), .imm (enc (x1.a : (List (T3 Int Int Int)))), .imm (.bool x1.b), .imm (enc (x1.c : (T3 Int Int Int))), .imm (enc (s1 : (T3 Int Int Int))), .imm (.int z6.1), .imm (.int z7.1), .imm (enc (s7 : (List (T3 (List (T3 Int Int Int)) Bool (T3 Int Int Int)))))])) (e := s6) hm37 hN7 (L43.weak (Γ' := [.imm (enc (a__law_moves : (List (T3 (List (T3 Int Int Int)) Bool (T3 Int Int Int))))), .mu p__law_bag_here (ml (z7.2 : (List Int))), .imm (.int z1.1), .imm (.int z3), .imm (enc (x1.a : (List (T3 Int Int Int)))), .imm (.bool x1.b), .imm (enc (x1.c : (T3 Int Int Int))), .imm (enc (s1 : (T3 Int Int Int))), .imm (.int z6.1), .imm (.int z7.1), .imm (enc (s6 : (List (T3 (List (T3 Int Int Int)) Bool (T3 Int Int Int)))))]) (.k (.k (.k (.k (.k (.k (.k (.k (.k (.k (.k .e))))))))))))
    refine x_seq (x_ifS (x_test (x_op (x_vI (x := z7.1) L48 rfl (x_c (x_eqi (x_kb (x_join (G := (fun (s8 : (List (T3 (List (T3 Int Int Int)) Bool (T3 Int Int Int)))) => [.imm (enc (a__law_moves : (List (T3 (List (T3 Int Int Int)) Bool (T3 Int Int Int))))), .mu p__law_bag_here (ml (z7.2 : (List Int))), .imm (.int z1.1), .imm (.int z3), .imm (enc (x1.a : (List (T3 Int Int Int)))), .imm (.bool x1.b), .imm (enc (x1.c : (T3 Int Int Int))), .imm (enc (s1 : (T3 Int Int Int))), .imm (.int z6.1), .imm (.int z7.1), .imm (enc (s8 : (List (T3 (List (T3 Int Int Int)) Bool (T3 Int Int Int)))))])) L48 hm38 (fun _ hm40 _ hN8 => ?_) (fun _ hm40 _ hN8 => ?_) fun s8 X8 _ _ hm41 L52 => ?_))))))))
    · refine x_asg (x_lst (x_cons (x_tup (x_cons (x_vd (d := (enc (x1.a : (List (T3 Int Int Int))))) L48 rfl fun v57 r76 => x_cons (x_vB (x := x1.b) L48 rfl (x_cons (x_op (x_op (x_vd (d := (enc (a__law_moves : (List (T3 (List (T3 Int Int Int)) Bool (T3 Int Int Int)))))) L48 rfl fun v58 r77 => x_vI (x := z3) L48 rfl (x_ixL (xs := a__law_moves) hm40 r77 fun x6 v59 _ hm42 r78 => x_c (x_ixT (d := (enc (x6.c : (T3 Int Int Int)))) r78 rfl fun v60 r79 => x_nil (x_mkT L48 (.cons r76 (.cons (.bl _) (.cons r79 .nil))) (show (3 : Nat) ≤ 16777216 by decide) fun v61 _ L53 le29 r80 => have r81 : Rep _ _ _ (enc ((T3.mk x1.a x1.b x6.c) : (T3 (List (T3 Int Int Int)) Bool (T3 Int Int Int)))) v61 := r80; x_nil (x_mkL L53 (.cons r81 .nil) (show (1 : Nat) ≤ 16777216 by decide) fun v62 _ L54 le30 r82 => have r83 : Rep _ _ _ (enc ([(T3.mk x1.a x1.b x6.c)] : (List (T3 (List (T3 Int Int Int)) Bool (T3 Int Int Int))))) v62 := r82; x_bset (x0 := [(T3.mk x1.a x1.b x6.c)]) (d := fun some_8 => (enc (some_8 : (List (T3 (List (T3 Int Int Int)) Bool (T3 Int Int Int)))))) (Γf := fun some_8 => [.imm (enc (a__law_moves : (List (T3 (List (T3 Int Int Int)) Bool (T3 Int Int Int))))), .mu p__law_bag_here (ml (z7.2 : (List Int))), .imm (.int z1.1), .imm (.int z3), .imm (enc (x1.a : (List (T3 Int Int Int)))), .imm (.bool x1.b), .imm (enc (x1.c : (T3 Int Int Int))), .imm (enc (s1 : (T3 Int Int Int))), .imm (.int z6.1), .imm (.int z7.1), .imm (enc (some_8 : (List (T3 (List (T3 Int Int Int)) Bool (T3 Int Int Int)))))]) hm42 L54 r83 (show (10 : Nat) < 11 by decide) (fun _ => rfl) fun some_8 _ hm43 L55 => ?_))))))))))))))
      exact x_leaf (G := (fun (s8 : (List (T3 (List (T3 Int Int Int)) Bool (T3 Int Int Int)))) => [.imm (enc (a__law_moves : (List (T3 (List (T3 Int Int Int)) Bool (T3 Int Int Int))))), .mu p__law_bag_here (ml (z7.2 : (List Int))), .imm (.int z1.1), .imm (.int z3), .imm (enc (x1.a : (List (T3 Int Int Int)))), .imm (.bool x1.b), .imm (enc (x1.c : (T3 Int Int Int))), .imm (enc (s1 : (T3 Int Int Int))), .imm (.int z6.1), .imm (.int z7.1), .imm (enc (s8 : (List (T3 (List (T3 Int Int Int)) Bool (T3 Int Int Int)))))])) (e := some_8) hm43 hN8 (L55.weak (Γ' := [.imm (enc (a__law_moves : (List (T3 (List (T3 Int Int Int)) Bool (T3 Int Int Int))))), .mu p__law_bag_here (ml (z7.2 : (List Int))), .imm (.int z1.1), .imm (.int z3), .imm (enc (x1.a : (List (T3 Int Int Int)))), .imm (.bool x1.b), .imm (enc (x1.c : (T3 Int Int Int))), .imm (enc (s1 : (T3 Int Int Int))), .imm (.int z6.1), .imm (.int z7.1), .imm (enc (some_8 : (List (T3 (List (T3 Int Int Int)) Bool (T3 Int Int Int)))))]) (.k (.k (.k (.k (.k (.k (.k (.k (.k (.k (.k .e))))))))))))
    · refine x_next ?_
      exact x_leaf (G := (fun (s8 : (List (T3 (List (T3 Int Int Int)) Bool (T3 Int Int Int)))) => [.imm (enc (a__law_moves : (List (T3 (List (T3 Int Int Int)) Bool (T3 Int Int Int))))), .mu p__law_bag_here (ml (z7.2 : (List Int))), .imm (.int z1.1), .imm (.int z3), .imm (enc (x1.a : (List (T3 Int Int Int)))), .imm (.bool x1.b), .imm (enc (x1.c : (T3 Int Int Int))), .imm (enc (s1 : (T3 Int Int Int))), .imm (.int z6.1), .imm (.int z7.1), .imm (enc (s8 : (List (T3 (List (T3 Int Int Int)) Bool (T3 Int Int Int)))))])) (e := s7) hm40 hN8 (L48.weak (Γ' := [.imm (enc (a__law_moves : (List (T3 (List (T3 Int Int Int)) Bool (T3 Int Int Int))))), .mu p__law_bag_here (ml (z7.2 : (List Int))), .imm (.int z1.1), .imm (.int z3), .imm (enc (x1.a : (List (T3 Int Int Int)))), .imm (.bool x1.b), .imm (enc (x1.c : (T3 Int Int Int))), .imm (enc (s1 : (T3 Int Int Int))), .imm (.int z6.1), .imm (.int z7.1), .imm (enc (s7 : (List (T3 (List (T3 Int Int Int)) Bool (T3 Int Int Int)))))]) (.k (.k (.k (.k (.k (.k (.k (.k (.k (.k (.k .e))))))))))))
    refine x_seq (x_ifS (x_test (x_op (x_vI (x := z7.1) L52 rfl (x_c (x_eqi (x_kb (x_join (G := (fun (s9 : (List (T3 (List (T3 Int Int Int)) Bool (T3 Int Int Int)))) => [.imm (enc (a__law_moves : (List (T3 (List (T3 Int Int Int)) Bool (T3 Int Int Int))))), .mu p__law_bag_here (ml (z7.2 : (List Int))), .imm (.int z1.1), .imm (.int z3), .imm (enc (x1.a : (List (T3 Int Int Int)))), .imm (.bool x1.b), .imm (enc (x1.c : (T3 Int Int Int))), .imm (enc (s1 : (T3 Int Int Int))), .imm (.int z6.1), .imm (.int z7.1), .imm (enc (s9 : (List (T3 (List (T3 Int Int Int)) Bool (T3 Int Int Int)))))])) L52 hm41 (fun _ hm44 _ hN9 => ?_) (fun _ hm44 _ hN9 => ?_) fun s9 X9 _ _ hm45 L56 => ?_))))))))
    · refine x_asg (x_lst (x_cons (x_tup (x_cons (x_op (x_op (x_vd (d := (enc (a__law_moves : (List (T3 (List (T3 Int Int Int)) Bool (T3 Int Int Int)))))) L52 rfl fun v63 r84 => x_vI (x := z3) L52 rfl (x_ixL (xs := a__law_moves) hm44 r84 fun x7 v64 _ hm46 r85 => x_c (x_ixT (d := (enc (x7.a : (List (T3 Int Int Int))))) r85 rfl fun v65 r86 => x_cons (x_vB (x := x1.b) L52 rfl (x_cons (x_vd (d := (enc (x1.c : (T3 Int Int Int)))) L52 rfl fun v66 r87 => x_nil (x_mkT L52 (.cons r86 (.cons (.bl _) (.cons r87 .nil))) (show (3 : Nat) ≤ 16777216 by decide) fun v67 _ L57 le31 r88 => have r89 : Rep _ _ _ (enc ((T3.mk x7.a x1.b x1.c) : (T3 (List (T3 Int Int Int)) Bool (T3 Int Int Int)))) v67 := r88; x_nil (x_mkL L57 (.cons r89 .nil) (show (1 : Nat) ≤ 16777216 by decide) fun v68 _ L58 le32 r90 => have r91 : Rep _ _ _ (enc ([(T3.mk x7.a x1.b x1.c)] : (List (T3 (List (T3 Int Int Int)) Bool (T3 Int Int Int))))) v68 := r90; x_bset (x0 := [(T3.mk x7.a x1.b x1.c)]) (d := fun some_9 => (enc (some_9 : (List (T3 (List (T3 Int Int Int)) Bool (T3 Int Int Int)))))) (Γf := fun some_9 => [.imm (enc (a__law_moves : (List (T3 (List (T3 Int Int Int)) Bool (T3 Int Int Int))))), .mu p__law_bag_here (ml (z7.2 : (List Int))), .imm (.int z1.1), .imm (.int z3), .imm (enc (x1.a : (List (T3 Int Int Int)))), .imm (.bool x1.b), .imm (enc (x1.c : (T3 Int Int Int))), .imm (enc (s1 : (T3 Int Int Int))), .imm (.int z6.1), .imm (.int z7.1), .imm (enc (some_9 : (List (T3 (List (T3 Int Int Int)) Bool (T3 Int Int Int)))))]) hm46 L58 r91 (show (10 : Nat) < 11 by decide) (fun _ => rfl) fun some_9 _ hm47 L59 => ?_))))))))))))))
      exact x_leaf (G := (fun (s9 : (List (T3 (List (T3 Int Int Int)) Bool (T3 Int Int Int)))) => [.imm (enc (a__law_moves : (List (T3 (List (T3 Int Int Int)) Bool (T3 Int Int Int))))), .mu p__law_bag_here (ml (z7.2 : (List Int))), .imm (.int z1.1), .imm (.int z3), .imm (enc (x1.a : (List (T3 Int Int Int)))), .imm (.bool x1.b), .imm (enc (x1.c : (T3 Int Int Int))), .imm (enc (s1 : (T3 Int Int Int))), .imm (.int z6.1), .imm (.int z7.1), .imm (enc (s9 : (List (T3 (List (T3 Int Int Int)) Bool (T3 Int Int Int)))))])) (e := some_9) hm47 hN9 (L59.weak (Γ' := [.imm (enc (a__law_moves : (List (T3 (List (T3 Int Int Int)) Bool (T3 Int Int Int))))), .mu p__law_bag_here (ml (z7.2 : (List Int))), .imm (.int z1.1), .imm (.int z3), .imm (enc (x1.a : (List (T3 Int Int Int)))), .imm (.bool x1.b), .imm (enc (x1.c : (T3 Int Int Int))), .imm (enc (s1 : (T3 Int Int Int))), .imm (.int z6.1), .imm (.int z7.1), .imm (enc (some_9 : (List (T3 (List (T3 Int Int Int)) Bool (T3 Int Int Int)))))]) (.k (.k (.k (.k (.k (.k (.k (.k (.k (.k (.k .e))))))))))))
    · refine x_next ?_
      exact x_leaf (G := (fun (s9 : (List (T3 (List (T3 Int Int Int)) Bool (T3 Int Int Int)))) => [.imm (enc (a__law_moves : (List (T3 (List (T3 Int Int Int)) Bool (T3 Int Int Int))))), .mu p__law_bag_here (ml (z7.2 : (List Int))), .imm (.int z1.1), .imm (.int z3), .imm (enc (x1.a : (List (T3 Int Int Int)))), .imm (.bool x1.b), .imm (enc (x1.c : (T3 Int Int Int))), .imm (enc (s1 : (T3 Int Int Int))), .imm (.int z6.1), .imm (.int z7.1), .imm (enc (s9 : (List (T3 (List (T3 Int Int Int)) Bool (T3 Int Int Int)))))])) (e := s8) hm44 hN9 (L52.weak (Γ' := [.imm (enc (a__law_moves : (List (T3 (List (T3 Int Int Int)) Bool (T3 Int Int Int))))), .mu p__law_bag_here (ml (z7.2 : (List Int))), .imm (.int z1.1), .imm (.int z3), .imm (enc (x1.a : (List (T3 Int Int Int)))), .imm (.bool x1.b), .imm (enc (x1.c : (T3 Int Int Int))), .imm (enc (s1 : (T3 Int Int Int))), .imm (.int z6.1), .imm (.int z7.1), .imm (enc (s8 : (List (T3 (List (T3 Int Int Int)) Bool (T3 Int Int Int)))))]) (.k (.k (.k (.k (.k (.k (.k (.k (.k (.k (.k .e))))))))))))
    refine x_seq (x_ifS (x_test (x_op (x_vI (x := z7.1) L56 rfl (x_c (x_eqi (x_kb (x_join (G := (fun (s10 : (List (T3 (List (T3 Int Int Int)) Bool (T3 Int Int Int)))) => [.imm (enc (a__law_moves : (List (T3 (List (T3 Int Int Int)) Bool (T3 Int Int Int))))), .mu p__law_bag_here (ml (z7.2 : (List Int))), .imm (.int z1.1), .imm (.int z3), .imm (enc (x1.a : (List (T3 Int Int Int)))), .imm (.bool x1.b), .imm (enc (x1.c : (T3 Int Int Int))), .imm (enc (s1 : (T3 Int Int Int))), .imm (.int z6.1), .imm (.int z7.1), .imm (enc (s10 : (List (T3 (List (T3 Int Int Int)) Bool (T3 Int Int Int)))))])) L56 hm45 (fun _ hm48 _ hN10 => ?_) (fun _ hm48 _ hN10 => ?_) fun s10 X10 _ _ hm49 L60 => ?_))))))))
    · refine x_asg (x_lst (x_cons (x_tup (x_cons (x_op (x_sl (x_vd (d := (enc (x1.a : (List (T3 Int Int Int))))) L56 rfl fun v69 r92 => x_noP (x_part (x_vI (x := z6.1) L56 rfl (x_partK (x_slL (xs := x1.a) L56 r92 fun v70 _ L61 le33 r93 => have r94 : Rep _ _ _ (enc ((slice x1.a none (some z6.1)) : (List (T3 Int Int Int)))) v70 := r93; x_sl (x_vd (d := (enc (x1.a : (List (T3 Int Int Int))))) L61 rfl fun v71 r95 => x_part (x_op (x_vI (x := z6.1) L61 rfl (x_c (x_r0 (x_partK (x_noP (x_slL (xs := x1.a) L61 r95 fun v72 _ L62 le34 r96 => have r97 := le34 _ _ r94; have r98 : Rep _ _ _ (enc ((slice x1.a (some ((z6.1 + 1))) none) : (List (T3 Int Int Int)))) v72 := r96; x_cat L62 hm48 r97 r98 fun v73 _ hm50 L63 le35 r99 => have r100 : Rep _ _ _ (enc (((slice x1.a none (some z6.1)) ++ (slice x1.a (some ((z6.1 + 1))) none)) : (List (T3 Int Int Int)))) v73 := r99; x_cons (x_vB (x := x1.b) L63 rfl (x_cons (x_vd (d := (enc (x1.c : (T3 Int Int Int)))) L63 rfl fun v74 r101 => x_nil (x_mkT L63 (.cons r100 (.cons (.bl _) (.cons r101 .nil))) (show (3 : Nat) ≤ 16777216 by decide) fun v75 _ L64 le36 r102 => have r103 : Rep _ _ _ (enc ((T3.mk (((slice x1.a none (some z6.1)) ++ (slice x1.a (some ((z6.1 + 1))) none))) x1.b x1.c) : (T3 (List (T3 Int Int Int)) Bool (T3 Int Int Int)))) v75 := r102; x_nil (x_mkL L64 (.cons r103 .nil) (show (1 : Nat) ≤ 16777216 by decide) fun v76 _ L65 le37 r104 => have r105 : Rep _ _ _ (enc ([(T3.mk (((slice x1.a none (some z6.1)) ++ (slice x1.a (some ((z6.1 + 1))) none))) x1.b x1.c)] : (List (T3 (List (T3 Int Int Int)) Bool (T3 Int Int Int))))) v76 := r104; x_bset (x0 := [(T3.mk (((slice x1.a none (some z6.1)) ++ (slice x1.a (some ((z6.1 + 1))) none))) x1.b x1.c)]) (d := fun some_10 => (enc (some_10 : (List (T3 (List (T3 Int Int Int)) Bool (T3 Int Int Int)))))) (Γf := fun some_10 => [.imm (enc (a__law_moves : (List (T3 (List (T3 Int Int Int)) Bool (T3 Int Int Int))))), .mu p__law_bag_here (ml (z7.2 : (List Int))), .imm (.int z1.1), .imm (.int z3), .imm (enc (x1.a : (List (T3 Int Int Int)))), .imm (.bool x1.b), .imm (enc (x1.c : (T3 Int Int Int))), .imm (enc (s1 : (T3 Int Int Int))), .imm (.int z6.1), .imm (.int z7.1), .imm (enc (some_10 : (List (T3 (List (T3 Int Int Int)) Bool (T3 Int Int Int)))))]) hm50 L65 r105 (show (10 : Nat) < 11 by decide) (fun _ => rfl) fun some_10 _ hm51 L66 => ?_))))))))))))))))))))))))
      exact x_leaf (G := (fun (s10 : (List (T3 (List (T3 Int Int Int)) Bool (T3 Int Int Int)))) => [.imm (enc (a__law_moves : (List (T3 (List (T3 Int Int Int)) Bool (T3 Int Int Int))))), .mu p__law_bag_here (ml (z7.2 : (List Int))), .imm (.int z1.1), .imm (.int z3), .imm (enc (x1.a : (List (T3 Int Int Int)))), .imm (.bool x1.b), .imm (enc (x1.c : (T3 Int Int Int))), .imm (enc (s1 : (T3 Int Int Int))), .imm (.int z6.1), .imm (.int z7.1), .imm (enc (s10 : (List (T3 (List (T3 Int Int Int)) Bool (T3 Int Int Int)))))])) (e := some_10) hm51 hN10 (L66.weak (Γ' := [.imm (enc (a__law_moves : (List (T3 (List (T3 Int Int Int)) Bool (T3 Int Int Int))))), .mu p__law_bag_here (ml (z7.2 : (List Int))), .imm (.int z1.1), .imm (.int z3), .imm (enc (x1.a : (List (T3 Int Int Int)))), .imm (.bool x1.b), .imm (enc (x1.c : (T3 Int Int Int))), .imm (enc (s1 : (T3 Int Int Int))), .imm (.int z6.1), .imm (.int z7.1), .imm (enc (some_10 : (List (T3 (List (T3 Int Int Int)) Bool (T3 Int Int Int)))))]) (.k (.k (.k (.k (.k (.k (.k (.k (.k (.k (.k .e))))))))))))
    · refine x_next ?_
      exact x_leaf (G := (fun (s10 : (List (T3 (List (T3 Int Int Int)) Bool (T3 Int Int Int)))) => [.imm (enc (a__law_moves : (List (T3 (List (T3 Int Int Int)) Bool (T3 Int Int Int))))), .mu p__law_bag_here (ml (z7.2 : (List Int))), .imm (.int z1.1), .imm (.int z3), .imm (enc (x1.a : (List (T3 Int Int Int)))), .imm (.bool x1.b), .imm (enc (x1.c : (T3 Int Int Int))), .imm (enc (s1 : (T3 Int Int Int))), .imm (.int z6.1), .imm (.int z7.1), .imm (enc (s10 : (List (T3 (List (T3 Int Int Int)) Bool (T3 Int Int Int)))))])) (e := s9) hm48 hN10 (L56.weak (Γ' := [.imm (enc (a__law_moves : (List (T3 (List (T3 Int Int Int)) Bool (T3 Int Int Int))))), .mu p__law_bag_here (ml (z7.2 : (List Int))), .imm (.int z1.1), .imm (.int z3), .imm (enc (x1.a : (List (T3 Int Int Int)))), .imm (.bool x1.b), .imm (enc (x1.c : (T3 Int Int Int))), .imm (enc (s1 : (T3 Int Int Int))), .imm (.int z6.1), .imm (.int z7.1), .imm (enc (s9 : (List (T3 (List (T3 Int Int Int)) Bool (T3 Int Int Int)))))]) (.k (.k (.k (.k (.k (.k (.k (.k (.k (.k (.k .e))))))))))))
    refine x_seq (x_ifS (x_test (x_op (x_vI (x := z7.1) L60 rfl (x_c (x_eqi (x_kb (x_join (G := (fun (s11 : (List (T3 (List (T3 Int Int Int)) Bool (T3 Int Int Int)))) => [.imm (enc (a__law_moves : (List (T3 (List (T3 Int Int Int)) Bool (T3 Int Int Int))))), .mu p__law_bag_here (ml (z7.2 : (List Int))), .imm (.int z1.1), .imm (.int z3), .imm (enc (x1.a : (List (T3 Int Int Int)))), .imm (.bool x1.b), .imm (enc (x1.c : (T3 Int Int Int))), .imm (enc (s1 : (T3 Int Int Int))), .imm (.int z6.1), .imm (.int z7.1), .imm (enc (s11 : (List (T3 (List (T3 Int Int Int)) Bool (T3 Int Int Int)))))])) L60 hm49 (fun _ hm52 _ hN11 => ?_) (fun _ hm52 _ hN11 => ?_) fun s11 X11 _ _ hm53 L67 => ?_))))))))
    · refine x_asg (x_lst (x_cons (x_tup (x_cons (x_op (x_op (x_sl (x_vd (d := (enc (x1.a : (List (T3 Int Int Int))))) L60 rfl fun v77 r106 => x_noP (x_part (x_vI (x := z6.1) L60 rfl (x_partK (x_slL (xs := x1.a) L60 r106 fun v78 _ L68 le38 r107 => have r108 : Rep _ _ _ (enc ((slice x1.a none (some z6.1)) : (List (T3 Int Int Int)))) v78 := r107; x_lst (x_cons (x_op (x_vd (d := (enc (x1.a : (List (T3 Int Int Int))))) L68 rfl fun v79 r109 => x_vI (x := z6.1) L68 rfl (x_ixL (xs := x1.a) hm52 r109 fun x8 v80 _ hm54 r110 => x_nil (x_mkL L68 (.cons r110 .nil) (show (1 : Nat) ≤ 16777216 by decide) fun v81 _ L69 le39 r111 => have r112 := le39 _ _ r108; have r113 : Rep _ _ _ (enc ([x8] : (List (T3 Int Int Int)))) v81 := r111; x_cat L69 hm54 r112 r113 fun v82 _ hm55 L70 le40 r114 => have r115 : Rep _ _ _ (enc (((slice x1.a none (some z6.1)) ++ [x8]) : (List (T3 Int Int Int)))) v82 := r114; x_sl (x_vd (d := (enc (x1.a : (List (T3 Int Int Int))))) L70 rfl fun v83 r116 => x_part (x_vI (x := z6.1) L70 rfl (x_partK (x_noP (x_slL (xs := x1.a) L70 r116 fun v84 _ L71 le41 r117 => have r118 := le41 _ _ r115; have r119 : Rep _ _ _ (enc ((slice x1.a (some z6.1) none) : (List (T3 Int Int Int)))) v84 := r117; x_cat L71 hm55 r118 r119 fun v85 _ hm56 L72 le42 r120 => have r121 : Rep _ _ _ (enc ((((slice x1.a none (some z6.1)) ++ [x8]) ++ (slice x1.a (some z6.1) none)) : (List (T3 Int Int Int)))) v85 := r120; x_cons (x_vB (x := x1.b) L72 rfl (x_cons (x_vd (d := (enc (x1.c : (T3 Int Int Int)))) L72 rfl fun v86 r122 => x_nil (x_mkT L72 (.cons r121 (.cons (.bl _) (.cons r122 .nil))) (show (3 : Nat) ≤ 16777216 by decide) fun v87 _ L73 le43 r123 => have r124 : Rep _ _ _ (enc ((T3.mk ((((slice x1.a none (some z6.1)) ++ [x8]) ++ (slice x1.a (some z6.1) none))) x1.b x1.c) : (T3 (List (T3 Int Int Int)) Bool (T3 Int Int Int)))) v87 := r123; x_nil (x_mkL L73 (.cons r124 .nil) (show (1 : Nat) ≤ 16777216 by decide) fun v88 _ L74 le44 r125 => have r126 : Rep _ _ _ (enc ([(T3.mk ((((slice x1.a none (some z6.1)) ++ [x8]) ++ (slice x1.a (some z6.1) none))) x1.b x1.c)] : (List (T3 (List (T3 Int Int Int)) Bool (T3 Int Int Int))))) v88 := r125; x_bset (x0 := [(T3.mk ((((slice x1.a none (some z6.1)) ++ [x8]) ++ (slice x1.a (some z6.1) none))) x1.b x1.c)]) (d := fun some_11 => (enc (some_11 : (List (T3 (List (T3 Int Int Int)) Bool (T3 Int Int Int)))))) (Γf := fun some_11 => [.imm (enc (a__law_moves : (List (T3 (List (T3 Int Int Int)) Bool (T3 Int Int Int))))), .mu p__law_bag_here (ml (z7.2 : (List Int))), .imm (.int z1.1), .imm (.int z3), .imm (enc (x1.a : (List (T3 Int Int Int)))), .imm (.bool x1.b), .imm (enc (x1.c : (T3 Int Int Int))), .imm (enc (s1 : (T3 Int Int Int))), .imm (.int z6.1), .imm (.int z7.1), .imm (enc (some_11 : (List (T3 (List (T3 Int Int Int)) Bool (T3 Int Int Int)))))]) hm56 L74 r126 (show (10 : Nat) < 11 by decide) (fun _ => rfl) fun some_11 _ hm57 L75 => ?_)))))))))))))))))))))))))))
      exact x_leaf (G := (fun (s11 : (List (T3 (List (T3 Int Int Int)) Bool (T3 Int Int Int)))) => [.imm (enc (a__law_moves : (List (T3 (List (T3 Int Int Int)) Bool (T3 Int Int Int))))), .mu p__law_bag_here (ml (z7.2 : (List Int))), .imm (.int z1.1), .imm (.int z3), .imm (enc (x1.a : (List (T3 Int Int Int)))), .imm (.bool x1.b), .imm (enc (x1.c : (T3 Int Int Int))), .imm (enc (s1 : (T3 Int Int Int))), .imm (.int z6.1), .imm (.int z7.1), .imm (enc (s11 : (List (T3 (List (T3 Int Int Int)) Bool (T3 Int Int Int)))))])) (e := some_11) hm57 hN11 (L75.weak (Γ' := [.imm (enc (a__law_moves : (List (T3 (List (T3 Int Int Int)) Bool (T3 Int Int Int))))), .mu p__law_bag_here (ml (z7.2 : (List Int))), .imm (.int z1.1), .imm (.int z3), .imm (enc (x1.a : (List (T3 Int Int Int)))), .imm (.bool x1.b), .imm (enc (x1.c : (T3 Int Int Int))), .imm (enc (s1 : (T3 Int Int Int))), .imm (.int z6.1), .imm (.int z7.1), .imm (enc (some_11 : (List (T3 (List (T3 Int Int Int)) Bool (T3 Int Int Int)))))]) (.k (.k (.k (.k (.k (.k (.k (.k (.k (.k (.k .e))))))))))))
    · refine x_next ?_
      exact x_leaf (G := (fun (s11 : (List (T3 (List (T3 Int Int Int)) Bool (T3 Int Int Int)))) => [.imm (enc (a__law_moves : (List (T3 (List (T3 Int Int Int)) Bool (T3 Int Int Int))))), .mu p__law_bag_here (ml (z7.2 : (List Int))), .imm (.int z1.1), .imm (.int z3), .imm (enc (x1.a : (List (T3 Int Int Int)))), .imm (.bool x1.b), .imm (enc (x1.c : (T3 Int Int Int))), .imm (enc (s1 : (T3 Int Int Int))), .imm (.int z6.1), .imm (.int z7.1), .imm (enc (s11 : (List (T3 (List (T3 Int Int Int)) Bool (T3 Int Int Int)))))])) (e := s10) hm52 hN11 (L60.weak (Γ' := [.imm (enc (a__law_moves : (List (T3 (List (T3 Int Int Int)) Bool (T3 Int Int Int))))), .mu p__law_bag_here (ml (z7.2 : (List Int))), .imm (.int z1.1), .imm (.int z3), .imm (enc (x1.a : (List (T3 Int Int Int)))), .imm (.bool x1.b), .imm (enc (x1.c : (T3 Int Int Int))), .imm (enc (s1 : (T3 Int Int Int))), .imm (.int z6.1), .imm (.int z7.1), .imm (enc (s10 : (List (T3 (List (T3 Int Int Int)) Bool (T3 Int Int Int)))))]) (.k (.k (.k (.k (.k (.k (.k (.k (.k (.k (.k .e))))))))))))
    refine x_seq (x_ifS (x_test (x_op (x_vI (x := z7.1) L67 rfl (x_c (x_eqi (x_kb (x_join (G := (fun (s12 : (List (T3 (List (T3 Int Int Int)) Bool (T3 Int Int Int)))) => [.imm (enc (a__law_moves : (List (T3 (List (T3 Int Int Int)) Bool (T3 Int Int Int))))), .mu p__law_bag_here (ml (z7.2 : (List Int))), .imm (.int z1.1), .imm (.int z3), .imm (enc (x1.a : (List (T3 Int Int Int)))), .imm (.bool x1.b), .imm (enc (x1.c : (T3 Int Int Int))), .imm (enc (s1 : (T3 Int Int Int))), .imm (.int z6.1), .imm (.int z7.1), .imm (enc (s12 : (List (T3 (List (T3 Int Int Int)) Bool (T3 Int Int Int)))))])) L67 hm53 (fun _ hm58 _ hN12 => ?_) (fun _ hm58 _ hN12 => ?_) fun s12 X12 _ _ hm59 L76 => ?_))))))))
    · refine x_asg (x_lst (x_cons (x_tup (x_cons (x_op (x_op (x_sl (x_vd (d := (enc (x1.a : (List (T3 Int Int Int))))) L67 rfl fun v89 r127 => x_noP (x_part (x_vI (x := z6.1) L67 rfl (x_partK (x_slL (xs := x1.a) L67 r127 fun v90 _ L77 le45 r128 => have r129 : Rep _ _ _ (enc ((slice x1.a none (some z6.1)) : (List (T3 Int Int Int)))) v90 := r128; x_lst (x_cons (x_op (x_vd (d := (enc (x1.a : (List (T3 Int Int Int))))) L77 rfl fun v91 r130 => x_op (x_vI (x := z6.1) L77 rfl (x_c (x_r0 (x_ixL (xs := x1.a) hm58 r130 fun x9 v92 _ hm60 r131 => x_nil (x_mkL L77 (.cons r131 .nil) (show (1 : Nat) ≤ 16777216 by decide) fun v93 _ L78 le46 r132 => have r133 := le46 _ _ r129; have r134 : Rep _ _ _ (enc ([x9] : (List (T3 Int Int Int)))) v93 := r132; x_cat L78 hm60 r133 r134 fun v94 _ hm61 L79 le47 r135 => have r136 : Rep _ _ _ (enc (((slice x1.a none (some z6.1)) ++ [x9]) : (List (T3 Int Int Int)))) v94 := r135; x_sl (x_vd (d := (enc (x1.a : (List (T3 Int Int Int))))) L79 rfl fun v95 r137 => x_part (x_op (x_vI (x := z6.1) L79 rfl (x_c (x_r0 (x_partK (x_noP (x_slL (xs := x1.a) L79 r137 fun v96 _ L80 le48 r138 => have r139 := le48 _ _ r136; have r140 : Rep _ _ _ (enc ((slice x1.a (some ((z6.1 + 1))) none) : (List (T3 Int Int Int)))) v96 := r138; x_cat L80 hm61 r139 r140 fun v97 _ hm62 L81 le49 r141 => have r142 : Rep _ _ _ (enc ((((slice x1.a none (some z6.1)) ++ [x9]) ++ (slice x1.a (some ((z6.1 + 1))) none)) : (List (T3 Int Int Int)))) v97 := r141; x_cons (x_vB (x := x1.b) L81 rfl (x_cons (x_vd (d := (enc (x1.c : (T3 Int Int Int)))) L81 rfl fun v98 r143 => x_nil (x_mkT L81 (.cons r142 (.cons (.bl _) (.cons r143 .nil))) (show (3 : Nat) ≤ 16777216 by decide) fun v99 _ L82 le50 r144 => have r145 : Rep _ _ _ (enc ((T3.mk ((((slice x1.a none (some z6.1)) ++ [x9]) ++ (slice x1.a (some ((z6.1 + 1))) none))) x1.b x1.c) : (T3 (List (T3 Int Int Int)) Bool (T3 Int Int Int)))) v99 := r144; x_nil (x_mkL L82 (.cons r145 .nil) (show (1 : Nat) ≤ 16777216 by decide) fun v100 _ L83 le51 r146 => have r147 : Rep _ _ _ (enc ([(T3.mk ((((slice x1.a none (some z6.1)) ++ [x9]) ++ (slice x1.a (some ((z6.1 + 1))) none))) x1.b x1.c)] : (List (T3 (List (T3 Int Int Int)) Bool (T3 Int Int Int))))) v100 := r146; x_bset (x0 := [(T3.mk ((((slice x1.a none (some z6.1)) ++ [x9]) ++ (slice x1.a (some ((z6.1 + 1))) none))) x1.b x1.c)]) (d := fun some_12 => (enc (some_12 : (List (T3 (List (T3 Int Int Int)) Bool (T3 Int Int Int)))))) (Γf := fun some_12 => [.imm (enc (a__law_moves : (List (T3 (List (T3 Int Int Int)) Bool (T3 Int Int Int))))), .mu p__law_bag_here (ml (z7.2 : (List Int))), .imm (.int z1.1), .imm (.int z3), .imm (enc (x1.a : (List (T3 Int Int Int)))), .imm (.bool x1.b), .imm (enc (x1.c : (T3 Int Int Int))), .imm (enc (s1 : (T3 Int Int Int))), .imm (.int z6.1), .imm (.int z7.1), .imm (enc (some_12 : (List (T3 (List (T3 Int Int Int)) Bool (T3 Int Int Int)))))]) hm62 L83 r147 (show (10 : Nat) < 11 by decide) (fun _ => rfl) fun some_12 _ hm63 L84 => ?_)))))))))))))))))))))))))))))))))
      exact x_leaf (G := (fun (s12 : (List (T3 (List (T3 Int Int Int)) Bool (T3 Int Int Int)))) => [.imm (enc (a__law_moves : (List (T3 (List (T3 Int Int Int)) Bool (T3 Int Int Int))))), .mu p__law_bag_here (ml (z7.2 : (List Int))), .imm (.int z1.1), .imm (.int z3), .imm (enc (x1.a : (List (T3 Int Int Int)))), .imm (.bool x1.b), .imm (enc (x1.c : (T3 Int Int Int))), .imm (enc (s1 : (T3 Int Int Int))), .imm (.int z6.1), .imm (.int z7.1), .imm (enc (s12 : (List (T3 (List (T3 Int Int Int)) Bool (T3 Int Int Int)))))])) (e := some_12) hm63 hN12 (L84.weak (Γ' := [.imm (enc (a__law_moves : (List (T3 (List (T3 Int Int Int)) Bool (T3 Int Int Int))))), .mu p__law_bag_here (ml (z7.2 : (List Int))), .imm (.int z1.1), .imm (.int z3), .imm (enc (x1.a : (List (T3 Int Int Int)))), .imm (.bool x1.b), .imm (enc (x1.c : (T3 Int Int Int))), .imm (enc (s1 : (T3 Int Int Int))), .imm (.int z6.1), .imm (.int z7.1), .imm (enc (some_12 : (List (T3 (List (T3 Int Int Int)) Bool (T3 Int Int Int)))))]) (.k (.k (.k (.k (.k (.k (.k (.k (.k (.k (.k .e))))))))))))
    · refine x_next ?_
      exact x_leaf (G := (fun (s12 : (List (T3 (List (T3 Int Int Int)) Bool (T3 Int Int Int)))) => [.imm (enc (a__law_moves : (List (T3 (List (T3 Int Int Int)) Bool (T3 Int Int Int))))), .mu p__law_bag_here (ml (z7.2 : (List Int))), .imm (.int z1.1), .imm (.int z3), .imm (enc (x1.a : (List (T3 Int Int Int)))), .imm (.bool x1.b), .imm (enc (x1.c : (T3 Int Int Int))), .imm (enc (s1 : (T3 Int Int Int))), .imm (.int z6.1), .imm (.int z7.1), .imm (enc (s12 : (List (T3 (List (T3 Int Int Int)) Bool (T3 Int Int Int)))))])) (e := s11) hm58 hN12 (L67.weak (Γ' := [.imm (enc (a__law_moves : (List (T3 (List (T3 Int Int Int)) Bool (T3 Int Int Int))))), .mu p__law_bag_here (ml (z7.2 : (List Int))), .imm (.int z1.1), .imm (.int z3), .imm (enc (x1.a : (List (T3 Int Int Int)))), .imm (.bool x1.b), .imm (enc (x1.c : (T3 Int Int Int))), .imm (enc (s1 : (T3 Int Int Int))), .imm (.int z6.1), .imm (.int z7.1), .imm (enc (s11 : (List (T3 (List (T3 Int Int Int)) Bool (T3 Int Int Int)))))]) (.k (.k (.k (.k (.k (.k (.k (.k (.k (.k (.k .e))))))))))))
    refine x_seq (x_ifS (x_test (x_op (x_vI (x := z7.1) L76 rfl (x_c (x_eqi (x_kb (x_join (G := (fun (s13 : (List (T3 (List (T3 Int Int Int)) Bool (T3 Int Int Int)))) => [.imm (enc (a__law_moves : (List (T3 (List (T3 Int Int Int)) Bool (T3 Int Int Int))))), .mu p__law_bag_here (ml (z7.2 : (List Int))), .imm (.int z1.1), .imm (.int z3), .imm (enc (x1.a : (List (T3 Int Int Int)))), .imm (.bool x1.b), .imm (enc (x1.c : (T3 Int Int Int))), .imm (enc (s1 : (T3 Int Int Int))), .imm (.int z6.1), .imm (.int z7.1), .imm (enc (s13 : (List (T3 (List (T3 Int Int Int)) Bool (T3 Int Int Int)))))])) L76 hm59 (fun _ hm64 _ hN13 => ?_) (fun _ hm64 _ hN13 => ?_) fun s13 X13 _ _ hm65 L85 => ?_))))))))
    · refine x_asg (x_lst (x_cons (x_op (x_vd (d := (enc (a__law_moves : (List (T3 (List (T3 Int Int Int)) Bool (T3 Int Int Int)))))) L76 rfl fun v101 r148 => x_vI (x := z1.1) L76 rfl (x_ixL (xs := a__law_moves) hm64 r148 fun x10 v102 _ hm66 r149 => x_cons (x_tup (x_cons (x_lst (x_cons (x_op (x_vd (d := (enc (x1.a : (List (T3 Int Int Int))))) L76 rfl fun v103 r150 => x_op (x_vI (x := z6.1) L76 rfl (x_c (x_r0 (x_ixL (xs := x1.a) hm66 r150 fun x11 v104 _ hm67 r151 => x_cons (x_call (x_cons (x_op (x_vd (d := (enc (x1.a : (List (T3 Int Int Int))))) L76 rfl fun v105 r152 => x_op (x_vI (x := z6.1) L76 rfl (x_c (x_r0 (x_ixL (xs := x1.a) hm67 r152 fun x12 v106 _ hm68 r153 => x_cons (x_op (x_vd (d := (enc (x1.a : (List (T3 Int Int Int))))) L76 rfl fun v107 r154 => x_vI (x := z6.1) L76 rfl (x_ixL (xs := x1.a) hm68 r154 fun x13 v108 _ hm69 r155 => x_nil (obE hm69 fun z10 hz9 hm70 => mk__law_middle hz9 (L76.cond0 (.im r153 (.im r155 .nil)) rfl) fun v109 _ F9 => k0d L76 F9 fun L86 le52 r156 => have r157 := le52 _ _ r149; have r158 := le52 _ _ r151; x_cons (x_op (x_vd (d := (enc (x1.a : (List (T3 Int Int Int))))) L86 rfl fun v110 r159 => x_vI (x := z6.1) L86 rfl (x_ixL (xs := x1.a) hm70 r159 fun x14 v111 _ hm71 r160 => x_nil (x_mkL L86 (.cons r158 (.cons r156 (.cons r160 .nil))) (show (3 : Nat) ≤ 16777216 by decide) fun v112 _ L87 le53 r161 => have r162 := le53 _ _ r157; have r163 : Rep _ _ _ (enc ([x11, z10, x14] : (List (T3 Int Int Int)))) v112 := r161; x_cons (x_vB (x := x1.b) L87 rfl (x_cons (x_vd (d := (enc (x1.c : (T3 Int Int Int)))) L87 rfl fun v113 r164 => x_nil (x_mkT L87 (.cons r163 (.cons (.bl _) (.cons r164 .nil))) (show (3 : Nat) ≤ 16777216 by decide) fun v114 _ L88 le54 r165 => have r166 := le54 _ _ r162; have r167 : Rep _ _ _ (enc ((T3.mk ([x11, z10, x14]) x1.b x1.c) : (T3 (List (T3 Int Int Int)) Bool (T3 Int Int Int)))) v114 := r165; x_nil (x_mkL L88 (.cons r166 (.cons r167 .nil)) (show (2 : Nat) ≤ 16777216 by decide) fun v115 _ L89 le55 r168 => have r169 : Rep _ _ _ (enc ([x10, (T3.mk ([x11, z10, x14]) x1.b x1.c)] : (List (T3 (List (T3 Int Int Int)) Bool (T3 Int Int Int))))) v115 := r168; x_bset (x0 := [x10, (T3.mk ([x11, z10, x14]) x1.b x1.c)]) (d := fun some_13 => (enc (some_13 : (List (T3 (List (T3 Int Int Int)) Bool (T3 Int Int Int)))))) (Γf := fun some_13 => [.imm (enc (a__law_moves : (List (T3 (List (T3 Int Int Int)) Bool (T3 Int Int Int))))), .mu p__law_bag_here (ml (z7.2 : (List Int))), .imm (.int z1.1), .imm (.int z3), .imm (enc (x1.a : (List (T3 Int Int Int)))), .imm (.bool x1.b), .imm (enc (x1.c : (T3 Int Int Int))), .imm (enc (s1 : (T3 Int Int Int))), .imm (.int z6.1), .imm (.int z7.1), .imm (enc (some_13 : (List (T3 (List (T3 Int Int Int)) Bool (T3 Int Int Int)))))]) hm71 L89 r169 (show (10 : Nat) < 11 by decide) (fun _ => rfl) fun some_13 _ hm72 L90 => ?_))))))))))))))))))))))))))))))))))))
      exact x_leaf (G := (fun (s13 : (List (T3 (List (T3 Int Int Int)) Bool (T3 Int Int Int)))) => [.imm (enc (a__law_moves : (List (T3 (List (T3 Int Int Int)) Bool (T3 Int Int Int))))), .mu p__law_bag_here (ml (z7.2 : (List Int))), .imm (.int z1.1), .imm (.int z3), .imm (enc (x1.a : (List (T3 Int Int Int)))), .imm (.bool x1.b), .imm (enc (x1.c : (T3 Int Int Int))), .imm (enc (s1 : (T3 Int Int Int))), .imm (.int z6.1), .imm (.int z7.1), .imm (enc (s13 : (List (T3 (List (T3 Int Int Int)) Bool (T3 Int Int Int)))))])) (e := some_13) hm72 hN13 (L90.weak (Γ' := [.imm (enc (a__law_moves : (List (T3 (List (T3 Int Int Int)) Bool (T3 Int Int Int))))), .mu p__law_bag_here (ml (z7.2 : (List Int))), .imm (.int z1.1), .imm (.int z3), .imm (enc (x1.a : (List (T3 Int Int Int)))), .imm (.bool x1.b), .imm (enc (x1.c : (T3 Int Int Int))), .imm (enc (s1 : (T3 Int Int Int))), .imm (.int z6.1), .imm (.int z7.1), .imm (enc (some_13 : (List (T3 (List (T3 Int Int Int)) Bool (T3 Int Int Int)))))]) (.k (.k (.k (.k (.k (.k (.k (.k (.k (.k (.k .e))))))))))))
    · refine x_next ?_
      exact x_leaf (G := (fun (s13 : (List (T3 (List (T3 Int Int Int)) Bool (T3 Int Int Int)))) => [.imm (enc (a__law_moves : (List (T3 (List (T3 Int Int Int)) Bool (T3 Int Int Int))))), .mu p__law_bag_here (ml (z7.2 : (List Int))), .imm (.int z1.1), .imm (.int z3), .imm (enc (x1.a : (List (T3 Int Int Int)))), .imm (.bool x1.b), .imm (enc (x1.c : (T3 Int Int Int))), .imm (enc (s1 : (T3 Int Int Int))), .imm (.int z6.1), .imm (.int z7.1), .imm (enc (s13 : (List (T3 (List (T3 Int Int Int)) Bool (T3 Int Int Int)))))])) (e := s12) hm64 hN13 (L76.weak (Γ' := [.imm (enc (a__law_moves : (List (T3 (List (T3 Int Int Int)) Bool (T3 Int Int Int))))), .mu p__law_bag_here (ml (z7.2 : (List Int))), .imm (.int z1.1), .imm (.int z3), .imm (enc (x1.a : (List (T3 Int Int Int)))), .imm (.bool x1.b), .imm (enc (x1.c : (T3 Int Int Int))), .imm (enc (s1 : (T3 Int Int Int))), .imm (.int z6.1), .imm (.int z7.1), .imm (enc (s12 : (List (T3 (List (T3 Int Int Int)) Bool (T3 Int Int Int)))))]) (.k (.k (.k (.k (.k (.k (.k (.k (.k (.k (.k .e))))))))))))
    exact x_ret (x_op (x_op (x_sl (x_vd (d := (enc (a__law_moves : (List (T3 (List (T3 Int Int Int)) Bool (T3 Int Int Int)))))) L85 rfl fun v116 r170 => x_noP (x_part (x_vI (x := z1.1) L85 rfl (x_partK (x_slL (xs := a__law_moves) L85 r170 fun v117 _ L91 le56 r171 => have r172 : Rep _ _ _ (enc ((slice a__law_moves none (some z1.1)) : (List (T3 (List (T3 Int Int Int)) Bool (T3 Int Int Int))))) v117 := r171; x_vd (d := (enc (s13 : (List (T3 (List (T3 Int Int Int)) Bool (T3 Int Int Int)))))) L91 rfl fun v118 r173 => x_cat L91 hm65 r172 r173 fun v119 _ hm73 L92 le57 r174 => have r175 : Rep _ _ _ (enc (((slice a__law_moves none (some z1.1)) ++ s13) : (List (T3 (List (T3 Int Int Int)) Bool (T3 Int Int Int))))) v119 := r174; x_sl (x_vd (d := (enc (a__law_moves : (List (T3 (List (T3 Int Int Int)) Bool (T3 Int Int Int)))))) L92 rfl fun v120 r176 => x_part (x_op (x_vI (x := z1.1) L92 rfl (x_c (x_r0 (x_partK (x_noP (x_slL (xs := a__law_moves) L92 r176 fun v121 _ L93 le58 r177 => have r178 := le58 _ _ r175; have r179 : Rep _ _ _ (enc ((slice a__law_moves (some ((z1.1 + 1))) none) : (List (T3 (List (T3 Int Int Int)) Bool (T3 Int Int Int))))) v121 := r177; x_catN L93 hm73 r178 r179 fun p1 _ _ hm74 h01 hx1 L94 le59 => x_finP (Q := Q) (ps := (fun (r : ((List (T3 (List (T3 Int Int Int)) Bool (T3 Int Int Int))) × (List Int))) => [(p__law_bag_here, (ml (r.2 : (List Int))))])) (o := fun (r : ((List (T3 (List (T3 Int Int Int)) Bool (T3 Int Int Int))) × (List Int))) => (ml (r.1 : (List (T3 (List (T3 Int Int Int)) Bool (T3 Int Int Int)))))) (e := ((((slice a__law_moves none (some z1.1)) ++ s13) ++ (slice a__law_moves (some ((z1.1 + 1))) none)), z7.2)) hm74 kont (L94.finT (p := p1) (i := 11) (o := (ml ((((slice a__law_moves none (some z1.1)) ++ s13) ++ (slice a__law_moves (some ((z1.1 + 1))) none)) : (List (T3 (List (T3 Int Int Int)) Bool (T3 Int Int Int)))))) (hp1 (L94.mrep (i := 1) rfl)) rfl h01)))))))))))))))))
abbrev sp__law_copy (K : PySem.W.Frag) : Sp := fun vs H Q _ => ∃ (X : Addr → Prop)  (a__law_moves : (List (T3 (List (T3 Int Int Int)) Bool (T3 Int Int Int)))) (r : (List (T3 (List (T3 Int Int Int)) Bool (T3 Int Int Int)))), m__law_copy a__law_moves = some r ∧ Cond K X H [.imm (enc (a__law_moves : (List (T3 (List (T3 Int Int Int)) Bool (T3 Int Int Int)))))] vs ∧ ∀ p H', Fin K X H [] [] (.new (ml (r : (List (T3 (List (T3 Int Int Int)) Bool (T3 Int Int Int)))))) (.ref p) H' → Q (.ref p) H'
theorem mk__law_copy {K : PySem.W.Frag} {X : Addr → Prop} {H : Hp} {vs : List V} {Q : VK} {E : XK}  {a__law_moves : (List (T3 (List (T3 Int Int Int)) Bool (T3 Int Int Int)))} {r : (List (T3 (List (T3 Int Int Int)) Bool (T3 Int Int Int)))} (hm : m__law_copy a__law_moves = some r) (c : Cond K X H [.imm (enc (a__law_moves : (List (T3 (List (T3 Int Int Int)) Bool (T3 Int Int Int)))))] vs) (k : ∀ p H', Fin K X H [] [] (.new (ml (r : (List (T3 (List (T3 Int Int Int)) Bool (T3 Int Int Int)))))) (.ref p) H' → Q (.ref p) H') : sp__law_copy K vs H Q E := ⟨X, a__law_moves, r, hm, c, k⟩
abbrev n__law_copy : List Str := ["_law_moves", "_law_ring", "_law_flag", "_law_step"]
theorem sc__law_copy : FnScope n__law_copy ["_law_moves"] (defScope s__law_copy) := ⟨rfl, rfl, rfl, by decide +kernel, rfl, by decide +kernel, by decide +kernel⟩
theorem ok__law_copy (T : Txt K mg) : FnOk P w K mg base CX0 1 T.A__law_copy T.D__law_copy ["_law_moves"] (sp__law_copy K) := by
  refine Fun.ok T.F__law_copy sc__law_copy (fun vs H Q E h => ?_) (fun cdv A outer s H vs Q E hr h => ?_)
  · obtain ⟨X, a__law_moves, r, hm, c, kont⟩ := h
    exact c.len
  · obtain ⟨X, a__law_moves, r, hm, c, kont⟩ := h
    refine ⟨_, (pss_one (ps_ret (pe_lc (own := [("_law_ring", 1), ("_law_flag", 2), ("_law_step", 3)]) (g := gTup K 3 (gCons (gName 1) (gCons (gName 2) (gCons (gName 3) gNil)))) (tt := tYes) rfl sc__law_copy.nd (pi_list (pv 0)) (blkOk_by (N := n__law_copy) (sc := defScope s__law_copy) (by decide +kernel)) (fun _ _ _ _ _ => (pg_tup rfl (pgs_cons (pg_name (i := 1) sc__law_copy.nd rfl (Or.inl rfl)) (pgs_cons (pg_name (i := 2) sc__law_copy.nd rfl (Or.inl rfl)) (pgs_cons (pg_name (i := 3) sc__law_copy.nd rfl (Or.inl rfl)) pgs_nil))))) (fun _ _ _ _ _ => pts_nil) (fun _ _ _ _ _ => (pe_tup (pa_cons (pe_callTy (r := rListX K) call_listX (by rfl) T.z_list (by decide +kernel) (pa_cons (pv 1) pa_nil)) (pa_cons (pv 2) (pa_cons (pv 3) pa_nil)))))))), ?_⟩
    have L0 : Lo ⟨K, X, H, muts [.imm (enc (a__law_moves : (List (T3 (List (T3 Int Int Int)) Bool (T3 Int Int Int)))))], n__law_copy.length⟩ X H (L2.start n__law_copy vs) [.imm (enc (a__law_moves : (List (T3 (List (T3 Int Int Int)) Bool (T3 Int Int Int))))), .unk, .unk, .unk] := c.start n__law_copy (show (1 : Nat) ≤ 4 by decide)
    unfold m__law_copy at hm
    exact x_ret (x_lcl (x_vd (d := (enc (a__law_moves : (List (T3 (List (T3 Int Int Int)) Bool (T3 Int Int Int)))))) L0 rfl fun v1 r1 => obE hm fun _ hl1 hm1 => obE hm1 fun ys1 hy1 hm2 => x_lcLN (G := (fun (s1 : Unit) => [.imm (enc (a__law_moves : (List (T3 (List (T3 Int Int Int)) Bool (T3 Int Int Int))))), .unk, .unk, .unk])) (s0 := ()) (xs := a__law_moves) L0 (fun _ _ => rfl) r1 (mapO_comp hy1) (lenOk_le hl1) (fun x1 s1 _ H1 _ u1 _ _ _ hF1 L1 r2 hn1 hy2 => obE hF1 fun y1 hm3 he1 => x_cTup3 (d1 := (enc (x1.a : (List (T3 Int Int Int))))) (d2 := (.bool x1.b)) (d3 := (enc (x1.c : (T3 Int Int Int)))) (Γ' := [.imm (enc (a__law_moves : (List (T3 (List (T3 Int Int Int)) Bool (T3 Int Int Int))))), .imm (enc (x1.a : (List (T3 Int Int Int)))), .imm (.bool x1.b), .imm (enc (x1.c : (T3 Int Int Int)))]) L1 r2 (show (1 : Nat) < 4 by decide) (show (2 : Nat) < 4 by decide) (show (3 : Nat) < 4 by decide) (by decide) (by decide) (by decide) rfl fun _ L2 => x_yes (x_tup (x_cons (x_cb (x_cons (x_vd (d := (enc (x1.a : (List (T3 Int Int Int))))) L2 rfl fun v2 r3 => x_nil (x_listL (xs := x1.a) L2 r3 fun v3 _ L3 le1 r4 => have r5 : Rep _ _ _ (enc (x1.a : (List (T3 Int Int Int)))) v3 := r4; x_cons (x_vB (x := x1.b) L3 rfl (x_cons (x_vd (d := (enc (x1.c : (T3 Int Int Int)))) L3 rfl fun v4 r6 => x_nil (x_mkT L3 (.cons r5 (.cons (.bl _) (.cons r6 .nil))) (show (3 : Nat) ≤ 16777216 by decide) fun v5 _ L4 le2 r7 => have r8 : Rep _ _ _ (enc ((T3.mk x1.a x1.b x1.c) : (T3 (List (T3 Int Int Int)) Bool (T3 Int Int Int)))) v5 := r7; x_cy (G := (fun (s1 : Unit) => [.imm (enc (a__law_moves : (List (T3 (List (T3 Int Int Int)) Bool (T3 Int Int Int))))), .unk, .unk, .unk])) (s := s1) (s' := ()) (y := (T3.mk x1.a x1.b x1.c)) (by cases hm3; cases he1; rfl) hy2 L1 L4 (.i rfl (.i rfl (.i rfl (.i rfl .e)))) r8))))))))))) fun p1 _ _ h01 hx1 L5 le3 => x_finP (Q := Q) (ps := (fun (r : (List (T3 (List (T3 Int Int Int)) Bool (T3 Int Int Int)))) => [])) (o := fun (r : (List (T3 (List (T3 Int Int Int)) Bool (T3 Int Int Int)))) => (ml (r : (List (T3 (List (T3 Int Int Int)) Bool (T3 Int Int Int)))))) (e := ys1) hm2 kont (L5.finT (p := p1) (i := 4) (o := (ml (ys1 : (List (T3 (List (T3 Int Int Int)) Bool (T3 Int Int Int)))))) hp0 rfl h01)))
abbrev sp_crossed (K : PySem.W.Frag) : Sp := fun vs H Q _ => ∃ (X : Addr → Prop)  (a_p : (T3 Int Int Int)) (a_q : (T3 Int Int Int)) (r : (T3 Int Int Int)), m_crossed a_p a_q = some r ∧ Cond K X H [.imm (enc (a_p : (T3 Int Int Int))), .imm (enc (a_q : (T3 Int Int Int)))] vs ∧ ∀ v H', Fin K X H [] [] (.imm (enc (r : (T3 Int Int Int)))) v H' → Q v H'
theorem mk_crossed {K : PySem.W.Frag} {X : Addr → Prop} {H : Hp} {vs : List V} {Q : VK} {E : XK}  {a_p : (T3 Int Int Int)} {a_q : (T3 Int Int Int)} {r : (T3 Int Int Int)} (hm : m_crossed a_p a_q = some r) (c : Cond K X H [.imm (enc (a_p : (T3 Int Int Int))), .imm (enc (a_q : (T3 Int Int Int)))] vs) (k : ∀ v H', Fin K X H [] [] (.imm (enc (r : (T3 Int Int Int)))) v H' → Q v H') : sp_crossed K vs H Q E := ⟨X, a_p, a_q, r, hm, c, k⟩
abbrev n_crossed : List Str := ["p", "q"]
theorem sc_crossed : FnScope n_crossed ["p", "q"] (defScope s_crossed) := ⟨rfl, rfl, rfl, by decide +kernel, rfl, by decide +kernel, by decide +kernel⟩
theorem ok_crossed (T : Txt K mg) : FnOk P w K mg base CX0 1 T.A_crossed T.D_crossed ["p", "q"] (sp_crossed K) := by
  refine Fun.ok T.F_crossed sc_crossed (fun vs H Q E h => ?_) (fun cdv A outer s H vs Q E hr h => ?_)
  · obtain ⟨X, a_p, a_q, r, hm, c, kont⟩ := h
    exact c.len
  · obtain ⟨X, a_p, a_q, r, hm, c, kont⟩ := h
    refine ⟨_, (pss_one (ps_ret (pe_tup (pa_cons (pe_op op_sub (pe_op op_mulW (pe_ix (r := rIxT K) ix_tup (pv 0) pe_int (fun _ _ => rfl)) (pe_ix (r := rIxT K) ix_tup (pv 1) pe_int (fun _ _ => rfl))) (pe_op op_mulW (pe_ix (r := rIxT K) ix_tup (pv 0) pe_int (fun _ _ => rfl)) (pe_ix (r := rIxT K) ix_tup (pv 1) pe_int (fun _ _ => rfl)))) (pa_cons (pe_op op_sub (pe_op op_mulW (pe_ix (r := rIxT K) ix_tup (pv 0) pe_int (fun _ _ => rfl)) (pe_ix (r := rIxT K) ix_tup (pv 1) pe_int (fun _ _ => rfl))) (pe_op op_mulW (pe_ix (r := rIxT K) ix_tup (pv 0) pe_int (fun _ _ => rfl)) (pe_ix (r := rIxT K) ix_tup (pv 1) pe_int (fun _ _ => rfl)))) (pa_cons (pe_op op_sub (pe_op op_mulW (pe_ix (r := rIxT K) ix_tup (pv 0) pe_int (fun _ _ => rfl)) (pe_ix (r := rIxT K) ix_tup (pv 1) pe_int (fun _ _ => rfl))) (pe_op op_mulW (pe_ix (r := rIxT K) ix_tup (pv 0) pe_int (fun _ _ => rfl)) (pe_ix (r := rIxT K) ix_tup (pv 1) pe_int (fun _ _ => rfl)))) pa_nil)))))), ?_⟩
    have L0 : Lo ⟨K, X, H, muts [.imm (enc (a_p : (T3 Int Int Int))), .imm (enc (a_q : (T3 Int Int Int)))], n_crossed.length⟩ X H (L2.start n_crossed vs) [.imm (enc (a_p : (T3 Int Int Int))), .imm (enc (a_q : (T3 Int Int Int)))] := c.start n_crossed (show (2 : Nat) ≤ 2 by decide)
    unfold m_crossed at hm
    exact x_ret (x_tup (x_cons (x_op (x_op (x_op (x_vd (d := (enc (a_p : (T3 Int Int Int)))) L0 rfl fun v1 r1 => x_c (x_ixTI (x := a_p.b) r1 rfl (x_op (x_vd (d := (enc (a_q : (T3 Int Int Int)))) L0 rfl fun v2 r2 => x_c (x_ixTI (x := a_q.c) r2 rfl (x_mul hm fun z1 _ hm1 => x_op (x_op (x_vd (d := (enc (a_p : (T3 Int Int Int)))) L0 rfl fun v3 r3 => x_c (x_ixTI (x := a_p.c) r3 rfl (x_op (x_vd (d := (enc (a_q : (T3 Int Int Int)))) L0 rfl fun v4 r4 => x_c (x_ixTI (x := a_q.b) r4 rfl (x_mul hm1 fun z2 _ hm2 => x_r0 (x_cons (x_op (x_op (x_op (x_vd (d := (enc (a_p : (T3 Int Int Int)))) L0 rfl fun v5 r5 => x_c (x_ixTI (x := a_p.c) r5 rfl (x_op (x_vd (d := (enc (a_q : (T3 Int Int Int)))) L0 rfl fun v6 r6 => x_c (x_ixTI (x := a_q.a) r6 rfl (x_mul hm2 fun z3 _ hm3 => x_op (x_op (x_vd (d := (enc (a_p : (T3 Int Int Int)))) L0 rfl fun v7 r7 => x_c (x_ixTI (x := a_p.a) r7 rfl (x_op (x_vd (d := (enc (a_q : (T3 Int Int Int)))) L0 rfl fun v8 r8 => x_c (x_ixTI (x := a_q.c) r8 rfl (x_mul hm3 fun z4 _ hm4 => x_r0 (x_cons (x_op (x_op (x_op (x_vd (d := (enc (a_p : (T3 Int Int Int)))) L0 rfl fun v9 r9 => x_c (x_ixTI (x := a_p.a) r9 rfl (x_op (x_vd (d := (enc (a_q : (T3 Int Int Int)))) L0 rfl fun v10 r10 => x_c (x_ixTI (x := a_q.b) r10 rfl (x_mul hm4 fun z5 _ hm5 => x_op (x_op (x_vd (d := (enc (a_p : (T3 Int Int Int)))) L0 rfl fun v11 r11 => x_c (x_ixTI (x := a_p.b) r11 rfl (x_op (x_vd (d := (enc (a_q : (T3 Int Int Int)))) L0 rfl fun v12 r12 => x_c (x_ixTI (x := a_q.a) r12 rfl (x_mul hm5 fun z6 _ hm6 => x_r0 (x_nil (x_mkT L0 (.cons (.int _) (.cons (.int _) (.cons (.int _) .nil))) (show (3 : Nat) ≤ 16777216 by decide) fun v13 _ L1 le1 r13 => have r14 : Rep _ _ _ (enc ((T3.mk ((z1 - z2)) ((z3 - z4)) ((z5 - z6))) : (T3 Int Int Int))) v13 := r13; x_fin (Q := Q) (ps := (fun (r : (T3 Int Int Int)) => [])) (rs := (fun (r : (T3 Int Int Int)) => (.imm (enc (r : (T3 Int Int Int)))))) (e := (T3.mk ((z1 - z2)) ((z3 - z4)) ((z5 - z6)))) hm6 kont (L1.fin hp0 r14)))))))))))))))))))))))))))))))))))))))))))))))))))))))
abbrev sp_side (K : PySem.W.Frag) : Sp := fun vs H Q _ => ∃ (X : Addr → Prop)  (a_p : (T3 Int Int Int)) (a_q : (T3 Int Int Int)) (a_r : (T3 Int Int Int)) (r : Int), m_side a_p a_q a_r = some r ∧ Cond K X H [.imm (enc (a_p : (T3 Int Int Int))), .imm (enc (a_q : (T3 Int Int Int))), .imm (enc (a_r : (T3 Int Int Int)))] vs ∧ ∀ H', Fin K X H [] [] (.imm (.int r)) (.int r) H' → Q (.int r) H'
theorem mk_side {K : PySem.W.Frag} {X : Addr → Prop} {H : Hp} {vs : List V} {Q : VK} {E : XK}  {a_p : (T3 Int Int Int)} {a_q : (T3 Int Int Int)} {a_r : (T3 Int Int Int)} {r : Int} (hm : m_side a_p a_q a_r = some r) (c : Cond K X H [.imm (enc (a_p : (T3 Int Int Int))), .imm (enc (a_q : (T3 Int Int Int))), .imm (enc (a_r : (T3 Int Int Int)))] vs) (k : ∀ H', Fin K X H [] [] (.imm (.int r)) (.int r) H' → Q (.int r) H') : sp_side K vs H Q E := ⟨X, a_p, a_q, a_r, r, hm, c, k⟩
abbrev n_side : List Str := ["p", "q", "r", "line", "number"]
theorem sc_side : FnScope n_side ["p", "q", "r"] (defScope s_side) := ⟨rfl, rfl, rfl, by decide +kernel, rfl, by decide +kernel, by decide +kernel⟩
theorem ok_side (T : Txt K mg) : FnOk P w K mg base CX0 2 T.A_side T.D_side ["p", "q", "r"] (sp_side K) := by
  refine Fun.ok T.F_side sc_side (fun vs H Q E h => ?_) (fun cdv A outer s H vs Q E hr h => ?_)
  · obtain ⟨X, a_p, a_q, a_r, r, hm, c, kont⟩ := h
    exact c.len
  · obtain ⟨X, a_p, a_q, a_r, r, hm, c, kont⟩ := h
    refine ⟨_, (pss_cons (ps_set (i := 3) sc_side.nd rfl (Or.inl rfl) (pe_call (ok_crossed T) hr (by rfl) T.g_crossed T.F_crossed.kp T.b_crossed .nil pass0 (pa_cons (pv 0) (pa_cons (pv 1) pa_nil))))
      (pss_cons (ps_set (i := 4) sc_side.nd rfl (Or.inl rfl) (pe_op op_add (pe_op op_add (pe_op op_mulW (pe_ix (r := rIxT K) ix_tup (pv 3) pe_int (fun _ _ => rfl)) (pe_ix (r := rIxT K) ix_tup (pv 2) pe_int (fun _ _ => rfl))) (pe_op op_mulW (pe_ix (r := rIxT K) ix_tup (pv 3) pe_int (fun _ _ => rfl)) (pe_ix (r := rIxT K) ix_tup (pv 2) pe_int (fun _ _ => rfl)))) (pe_op op_mulW (pe_ix (r := rIxT K) ix_tup (pv 3) pe_int (fun _ _ => rfl)) (pe_ix (r := rIxT K) ix_tup (pv 2) pe_int (fun _ _ => rfl)))))
      (pss_cons (ps_if (pt_cmpR op_eq (pv 4) pe_int (nomark _)) (pss_one (ps_ret pe_int)) pss_nil)
      (pss_cons (ps_if (pt_cmpR op_gt (pv 4) pe_int (nomark _)) (pss_one (ps_ret pe_int)) pss_nil)
      (pss_one (ps_ret (pe_un un_neg pe_int))))))), ?_⟩
    have L0 : Lo ⟨K, X, H, muts [.imm (enc (a_p : (T3 Int Int Int))), .imm (enc (a_q : (T3 Int Int Int))), .imm (enc (a_r : (T3 Int Int Int)))], n_side.length⟩ X H (L2.start n_side vs) [.imm (enc (a_p : (T3 Int Int Int))), .imm (enc (a_q : (T3 Int Int Int))), .imm (enc (a_r : (T3 Int Int Int))), .unk, .unk] := c.start n_side (show (3 : Nat) ≤ 5 by decide)
    unfold m_side at hm
    refine x_seq (x_asg (x_call (x_cons (x_vd (d := (enc (a_p : (T3 Int Int Int)))) L0 rfl fun v1 r1 => x_cons (x_vd (d := (enc (a_q : (T3 Int Int Int)))) L0 rfl fun v2 r2 => x_nil (obE hm fun z1 hz1 hm1 => mk_crossed hz1 (L0.cond0 (.im r1 (.im r2 .nil)) rfl) fun v3 _ F1 => k0d L0 F1 fun L1 le1 r3 => x_set (d := (enc (z1 : (T3 Int Int Int)))) (Γ' := [.imm (enc (a_p : (T3 Int Int Int))), .imm (enc (a_q : (T3 Int Int Int))), .imm (enc (a_r : (T3 Int Int Int))), .imm (enc (z1 : (T3 Int Int Int))), .unk]) L1 r3 (show (3 : Nat) < 5 by decide) rfl fun _ L2 => ?_))))))
    refine x_seq (x_asg (x_op (x_op (x_op (x_op (x_vd (d := (enc (z1 : (T3 Int Int Int)))) L2 rfl fun v4 r4 => x_c (x_ixTI (x := z1.a) r4 rfl (x_op (x_vd (d := (enc (a_r : (T3 Int Int Int)))) L2 rfl fun v5 r5 => x_c (x_ixTI (x := a_r.a) r5 rfl (x_mul hm1 fun z2 _ hm2 => x_op (x_op (x_vd (d := (enc (z1 : (T3 Int Int Int)))) L2 rfl fun v6 r6 => x_c (x_ixTI (x := z1.b) r6 rfl (x_op (x_vd (d := (enc (a_r : (T3 Int Int Int)))) L2 rfl fun v7 r7 => x_c (x_ixTI (x := a_r.b) r7 rfl (x_mul hm2 fun z3 _ hm3 => x_r0 (x_op (x_op (x_vd (d := (enc (z1 : (T3 Int Int Int)))) L2 rfl fun v8 r8 => x_c (x_ixTI (x := z1.c) r8 rfl (x_op (x_vd (d := (enc (a_r : (T3 Int Int Int)))) L2 rfl fun v9 r9 => x_c (x_ixTI (x := a_r.c) r9 rfl (x_mul hm3 fun z4 _ hm4 => x_r0 (x_bset (x0 := ((z2 + z3) + z4)) (d := fun number_1 => (.int number_1)) (Γf := fun number_1 => [.imm (enc (a_p : (T3 Int Int Int))), .imm (enc (a_q : (T3 Int Int Int))), .imm (enc (a_r : (T3 Int Int Int))), .imm (enc (z1 : (T3 Int Int Int))), .imm (.int number_1)]) hm4 L2 (.int _) (show (4 : Nat) < 5 by decide) (fun _ => rfl) fun number_1 _ hm5 L3 => ?_)))))))))))))))))))))))))))
    refine x_seq (x_ifS (x_test (x_op (x_vI (x := number_1) L3 rfl (x_c (x_eqi (x_kb (x_if hm5 (fun hm6 => ?_) fun hm6 => ?_))))))))
    · exact x_ret (x_c (x_finI (Q := Q) (ps := (fun (r : Int) => [])) (sc := fun (r : Int) => r) 0 hm6 kont (L3.fin hp0 (.int _))))
    · refine x_next ?_
      refine x_seq (x_ifS (x_test (x_op (x_vI (x := number_1) L3 rfl (x_c (x_r0 (x_kb (x_if hm6 (fun hm7 => ?_) fun hm7 => ?_))))))))
      · exact x_ret (x_c (x_finI (Q := Q) (ps := (fun (r : Int) => [])) (sc := fun (r : Int) => r) 1 hm7 kont (L3.fin hp0 (.int _))))
      · refine x_next ?_
        exact x_ret (x_un (x_c (x_u (x_finI (Q := Q) (ps := (fun (r : Int) => [])) (sc := fun (r : Int) => r) ((-1)) hm7 kont (L3.fin hp0 (.int _))))))
abbrev sp_greatest_divisor (K : PySem.W.Frag) : Sp := fun vs H Q _ => ∃ (X : Addr → Prop)  (a_a : Int) (a_b : Int) (r : Int), m_greatest_divisor a_a a_b = some r ∧ Cond K X H [.imm (.int a_a), .imm (.int a_b)] vs ∧ ∀ H', Fin K X H [] [] (.imm (.int r)) (.int r) H' → Q (.int r) H'
theorem mk_greatest_divisor {K : PySem.W.Frag} {X : Addr → Prop} {H : Hp} {vs : List V} {Q : VK} {E : XK}  {a_a : Int} {a_b : Int} {r : Int} (hm : m_greatest_divisor a_a a_b = some r) (c : Cond K X H [.imm (.int a_a), .imm (.int a_b)] vs) (k : ∀ H', Fin K X H [] [] (.imm (.int r)) (.int r) H' → Q (.int r) H') : sp_greatest_divisor K vs H Q E := ⟨X, a_a, a_b, r, hm, c, k⟩
abbrev n_greatest_divisor : List Str := ["a", "b", "one", "other"]
theorem sc_greatest_divisor : FnScope n_greatest_divisor ["a", "b"] (defScope s_greatest_divisor) := ⟨rfl, rfl, rfl, by decide +kernel, rfl, by decide +kernel, by decide +kernel⟩
theorem ok_greatest_divisor (T : Txt K mg) : FnOk P w K mg base CX0 1 T.A_greatest_divisor T.D_greatest_divisor ["a", "b"] (sp_greatest_divisor K) := by
  refine Fun.ok T.F_greatest_divisor sc_greatest_divisor (fun vs H Q E h => ?_) (fun cdv A outer s H vs Q E hr h => ?_)
  · obtain ⟨X, a_a, a_b, r, hm, c, kont⟩ := h
    exact c.len
  · obtain ⟨X, a_a, a_b, r, hm, c, kont⟩ := h
    refine ⟨_, (pss_cons (ps_set (i := 2) sc_greatest_divisor.nd rfl (Or.inl rfl) (pe_callB call_absX (by rfl) T.z_abs (by decide +kernel) (pa_cons (pv 0) pa_nil)))
      (pss_cons (ps_set (i := 3) sc_greatest_divisor.nd rfl (Or.inl rfl) (pe_callB call_absX (by rfl) T.z_abs (by decide +kernel) (pa_cons (pv 1) pa_nil)))
      (pss_cons (ps_while PassesOwn.never (pt_cmpR op_gt (pv 3) pe_int (nomark _)) (pss_one (ps_par (i := 2) (j := 3) (by rfl) sc_greatest_divisor.nd rfl rfl (by decide) rfl rfl (pa_cons (pv 3) (pa_cons (pe_op op_modN (pv 2) (pv 3)) pa_nil)) (by rfl))))
      (pss_one (ps_ret (pv 2)))))), ?_⟩
    have L0 : Lo ⟨K, X, H, muts [.imm (.int a_a), .imm (.int a_b)], n_greatest_divisor.length⟩ X H (L2.start n_greatest_divisor vs) [.imm (.int a_a), .imm (.int a_b), .unk, .unk] := c.start n_greatest_divisor (show (2 : Nat) ≤ 4 by decide)
    unfold m_greatest_divisor at hm
    refine x_seq (x_asg (x_cb (x_cons (x_vI (x := a_a) L0 rfl (x_nil (x_abs (x_bset (x0 := (iabs a_a)) (d := fun one_1 => (.int one_1)) (Γf := fun one_1 => [.imm (.int a_a), .imm (.int a_b), .imm (.int one_1), .unk]) hm L0 (.int _) (show (2 : Nat) < 4 by decide) (fun _ => rfl) fun one_1 _ hm1 L1 => ?_)))))))
    refine x_seq (x_asg (x_cb (x_cons (x_vI (x := a_b) L1 rfl (x_nil (x_abs (x_bset (x0 := (iabs a_b)) (d := fun other_1 => (.int other_1)) (Γf := fun other_1 => [.imm (.int a_a), .imm (.int a_b), .imm (.int one_1), .imm (.int other_1)]) hm1 L1 (.int _) (show (3 : Nat) < 4 by decide) (fun _ => rfl) fun other_1 _ hm2 L2 => ?_)))))))
    refine x_seq (x_wh (n := other_1.natAbs + 2) (G := (fun (s1 : (Int × Int)) => [.imm (.int a_a), .imm (.int a_b), .imm (.int s1.1), .imm (.int s1.2)])) (s0 := (one_1, other_1)) (ρ := Empty) (ps := fun _ => []) (rs := fun _ => .imm .none) (L2.weak (Γ' := [.imm (.int a_a), .imm (.int a_b), .imm (.int one_1), .imm (.int other_1)]) (.k (.k (.k (.k .e))))) (fun _ _ => rfl) hm2 (fun s1 H1 _ _ _ _ _ _ hm3 L3 hN1 hC1 hB1 hR1 _ hQ1 => ?_) (fun s2 _ _ hm4 L4 => ?_) (fun q => q.elim))
    · refine x_test (x_op (x_vI (x := s1.2) L3 rfl (x_c (x_r0 (x_kb (hQ1 _ _ (x_whIf hm3 (fun hm6 => ?_) fun hm6 => ?_)))))))
      · refine x_par (x_cons (x_vI (x := s1.2) L3 rfl (x_cons (x_op (x_vI (x := s1.1) L3 rfl (x_vI (x := s1.2) L3 rfl (x_mod hm6 fun z1 _ hm7 => x_nil (x_par2 (x := (.int s1.2)) (y := (.int z1)) (Γ' := [.imm (.int a_a), .imm (.int a_b), .imm (.int s1.2), .imm (.int z1)]) L3 (.int _) (.int _) (show (2 : Nat) < 4 by decide) (show (3 : Nat) < 4 by decide) rfl fun _ L5 => ?_))))))))
        exact x_leafN (G := (fun (s1 : (Int × Int)) => [.imm (.int a_a), .imm (.int a_b), .imm (.int s1.1), .imm (.int s1.2)])) (e := (s1.2, z1)) hm7 hN1 (L5.weak (Γ' := [.imm (.int a_a), .imm (.int a_b), .imm (.int s1.2), .imm (.int z1)]) (.k (.k (.k (.k .e)))))
      · exact x_leafB (G := (fun (s1 : (Int × Int)) => [.imm (.int a_a), .imm (.int a_b), .imm (.int s1.1), .imm (.int s1.2)])) (e := (s1.1, s1.2)) hm6 hB1 (L3.weak (Γ' := [.imm (.int a_a), .imm (.int a_b), .imm (.int s1.1), .imm (.int s1.2)]) (.k (.k (.k (.k .e)))))
    exact x_ret (x_vI (x := s2.1) L4 rfl (x_finI (Q := Q) (ps := (fun (r : Int) => [])) (sc := fun (r : Int) => r) s2.1 hm4 kont (L4.fin hp0 (.int _))))
abbrev sp_ratio (K : PySem.W.Frag) : Sp := fun vs H Q _ => ∃ (X : Addr → Prop)  (a_top : Int) (a_bottom : Int) (r : (T2 Int Int)), m_ratio a_top a_bottom = some r ∧ Cond K X H [.imm (.int a_top), .imm (.int a_bottom)] vs ∧ ∀ v H', Fin K X H [] [] (.imm (enc (r : (T2 Int Int)))) v H' → Q v H'
theorem mk_ratio {K : PySem.W.Frag} {X : Addr → Prop} {H : Hp} {vs : List V} {Q : VK} {E : XK}  {a_top : Int} {a_bottom : Int} {r : (T2 Int Int)} (hm : m_ratio a_top a_bottom = some r) (c : Cond K X H [.imm (.int a_top), .imm (.int a_bottom)] vs) (k : ∀ v H', Fin K X H [] [] (.imm (enc (r : (T2 Int Int)))) v H' → Q v H') : sp_ratio K vs H Q E := ⟨X, a_top, a_bottom, r, hm, c, k⟩
abbrev n_ratio : List Str := ["top", "bottom", "divisor"]
theorem sc_ratio : FnScope n_ratio ["top", "bottom"] (defScope s_ratio) := ⟨rfl, rfl, rfl, by decide +kernel, rfl, by decide +kernel, by decide +kernel⟩
theorem ok_ratio (T : Txt K mg) : FnOk P w K mg base CX0 2 T.A_ratio T.D_ratio ["top", "bottom"] (sp_ratio K) := by
  refine Fun.ok T.F_ratio sc_ratio (fun vs H Q E h => ?_) (fun cdv A outer s H vs Q E hr h => ?_)
  · obtain ⟨X, a_top, a_bottom, r, hm, c, kont⟩ := h
    exact c.len
  · obtain ⟨X, a_top, a_bottom, r, hm, c, kont⟩ := h
    refine ⟨_, (pss_cons (ps_if (pt_cmpR op_eq (pv 1) pe_int (nomark _)) (pss_one ps_never) pss_nil)
      (pss_cons (ps_set (i := 2) sc_ratio.nd rfl (Or.inl rfl) (pe_call (ok_greatest_divisor T) hr (by rfl) T.g_greatest_divisor T.F_greatest_divisor.kp T.b_greatest_divisor .nil pass0 (pa_cons (pv 0) (pa_cons (pv 1) pa_nil))))
      (pss_cons (ps_if (pt_cmpR op_lt (pv 1) pe_int (nomark _)) (pss_one (ps_set (i := 2) sc_ratio.nd rfl (Or.inl rfl) (pe_un un_neg (pv 2)))) pss_nil)
      (pss_one (ps_ret (pe_tup (pa_cons (pe_op op_divG (pv 0) (pv 2)) (pa_cons (pe_op op_divG (pv 1) (pv 2)) pa_nil)))))))), ?_⟩
    have L0 : Lo ⟨K, X, H, muts [.imm (.int a_top), .imm (.int a_bottom)], n_ratio.length⟩ X H (L2.start n_ratio vs) [.imm (.int a_top), .imm (.int a_bottom), .unk] := c.start n_ratio (show (2 : Nat) ≤ 3 by decide)
    unfold m_ratio at hm
    refine x_seq (x_ifS (x_test (x_op (x_vI (x := a_bottom) L0 rfl (x_c (x_eqi (x_kb (x_if hm (fun hm1 => ?_) fun hm1 => ?_))))))))
    · exact (nomatch hm1)
    · refine x_next ?_
      refine x_seq (x_asg (x_call (x_cons (x_vI (x := a_top) L0 rfl (x_cons (x_vI (x := a_bottom) L0 rfl (x_nil (obE hm1 fun z1 hz1 hm2 => mk_greatest_divisor hz1 (L0.cond0 (.im (.int _) (.im (.int _) .nil)) rfl) fun _ F1 => k0 L0 F1 fun L1 le1 => x_set (d := (.int z1)) (Γ' := [.imm (.int a_top), .imm (.int a_bottom), .imm (.int z1)]) L1 (.int _) (show (2 : Nat) < 3 by decide) rfl fun _ L2 => ?_))))))))
      refine x_seq (x_ifS (x_test (x_op (x_vI (x := a_bottom) L2 rfl (x_c (x_r0 (x_kb (x_join (G := (fun (s1 : Int) => [.imm (.int a_top), .imm (.int a_bottom), .imm (.int s1)])) L2 hm2 (fun _ hm3 _ hN1 => ?_) (fun _ hm3 _ hN1 => ?_) fun s1 X1 _ _ hm4 L3 => ?_))))))))
      · refine x_asg (x_un (x_vI (x := z1) L2 rfl (x_u (x_bset (x0 := (-z1)) (d := fun divisor_1 => (.int divisor_1)) (Γf := fun divisor_1 => [.imm (.int a_top), .imm (.int a_bottom), .imm (.int divisor_1)]) hm3 L2 (.int _) (show (2 : Nat) < 3 by decide) (fun _ => rfl) fun divisor_1 _ hm5 L4 => ?_))))
        exact x_leaf (G := (fun (s1 : Int) => [.imm (.int a_top), .imm (.int a_bottom), .imm (.int s1)])) (e := divisor_1) hm5 hN1 (L4.weak (Γ' := [.imm (.int a_top), .imm (.int a_bottom), .imm (.int divisor_1)]) (.k (.k (.k .e))))
      · refine x_next ?_
        exact x_leaf (G := (fun (s1 : Int) => [.imm (.int a_top), .imm (.int a_bottom), .imm (.int s1)])) (e := z1) hm3 hN1 (L2.weak (Γ' := [.imm (.int a_top), .imm (.int a_bottom), .imm (.int z1)]) (.k (.k (.k .e))))
      exact x_ret (x_tup (x_cons (x_op (x_vI (x := a_top) L3 rfl (x_vI (x := s1) L3 rfl (x_div hm4 fun z2 _ hm6 => x_cons (x_op (x_vI (x := a_bottom) L3 rfl (x_vI (x := s1) L3 rfl (x_div hm6 fun z3 _ hm7 => x_nil (x_mkT L3 (.cons (.int _) (.cons (.int _) .nil)) (show (2 : Nat) ≤ 16777216 by decide) fun v2 _ L5 le2 r1 => have r2 : Rep _ _ _ (enc ((T2.mk z2 z3) : (T2 Int Int))) v2 := r1; x_fin (Q := Q) (ps := (fun (r : (T2 Int Int)) => [])) (rs := (fun (r : (T2 Int Int)) => (.imm (enc (r : (T2 Int Int)))))) (e := (T2.mk z2 z3)) hm7 kont (L5.fin hp0 r2))))))))))))
abbrev sp_line_of (K : PySem.W.Frag) : Sp := fun vs H Q _ => ∃ (X : Addr → Prop)  (a_p : (T3 Int Int Int)) (a_q : (T3 Int Int Int)) (r : (T3 Int (T2 Int Int) (T2 Int Int))), m_line_of a_p a_q = some r ∧ Cond K X H [.imm (enc (a_p : (T3 Int Int Int))), .imm (enc (a_q : (T3 Int Int Int)))] vs ∧ ∀ v H', Fin K X H [] [] (.imm (enc (r : (T3 Int (T2 Int Int) (T2 Int Int))))) v H' → Q v H'
theorem mk_line_of {K : PySem.W.Frag} {X : Addr → Prop} {H : Hp} {vs : List V} {Q : VK} {E : XK}  {a_p : (T3 Int Int Int)} {a_q : (T3 Int Int Int)} {r : (T3 Int (T2 Int Int) (T2 Int Int))} (hm : m_line_of a_p a_q = some r) (c : Cond K X H [.imm (enc (a_p : (T3 Int Int Int))), .imm (enc (a_q : (T3 Int Int Int)))] vs) (k : ∀ v H', Fin K X H [] [] (.imm (enc (r : (T3 Int (T2 Int Int) (T2 Int Int))))) v H' → Q v H') : sp_line_of K vs H Q E := ⟨X, a_p, a_q, r, hm, c, k⟩
abbrev n_line_of : List Str := ["p", "q", "a", "b", "c"]
theorem sc_line_of : FnScope n_line_of ["p", "q"] (defScope s_line_of) := ⟨rfl, rfl, rfl, by decide +kernel, rfl, by decide +kernel, by decide +kernel⟩
theorem ok_line_of (T : Txt K mg) : FnOk P w K mg base CX0 3 T.A_line_of T.D_line_of ["p", "q"] (sp_line_of K) := by
  refine Fun.ok T.F_line_of sc_line_of (fun vs H Q E h => ?_) (fun cdv A outer s H vs Q E hr h => ?_)
  · obtain ⟨X, a_p, a_q, r, hm, c, kont⟩ := h
    exact c.len
  · obtain ⟨X, a_p, a_q, r, hm, c, kont⟩ := h
    refine ⟨_, (pss_cons (ps_set (i := 2) sc_line_of.nd rfl (Or.inl rfl) (pe_op op_sub (pe_op op_mulW (pe_ix (r := rIxT K) ix_tup (pv 0) pe_int (fun _ _ => rfl)) (pe_ix (r := rIxT K) ix_tup (pv 1) pe_int (fun _ _ => rfl))) (pe_op op_mulW (pe_ix (r := rIxT K) ix_tup (pv 0) pe_int (fun _ _ => rfl)) (pe_ix (r := rIxT K) ix_tup (pv 1) pe_int (fun _ _ => rfl)))))
      (pss_cons (ps_set (i := 3) sc_line_of.nd rfl (Or.inl rfl) (pe_op op_sub (pe_op op_mulW (pe_ix (r := rIxT K) ix_tup (pv 0) pe_int (fun _ _ => rfl)) (pe_ix (r := rIxT K) ix_tup (pv 1) pe_int (fun _ _ => rfl))) (pe_op op_mulW (pe_ix (r := rIxT K) ix_tup (pv 0) pe_int (fun _ _ => rfl)) (pe_ix (r := rIxT K) ix_tup (pv 1) pe_int (fun _ _ => rfl)))))
      (pss_cons (ps_set (i := 4) sc_line_of.nd rfl (Or.inl rfl) (pe_op op_sub (pe_op op_mulW (pe_ix (r := rIxT K) ix_tup (pv 0) pe_int (fun _ _ => rfl)) (pe_ix (r := rIxT K) ix_tup (pv 1) pe_int (fun _ _ => rfl))) (pe_op op_mulW (pe_ix (r := rIxT K) ix_tup (pv 0) pe_int (fun _ _ => rfl)) (pe_ix (r := rIxT K) ix_tup (pv 1) pe_int (fun _ _ => rfl)))))
      (pss_cons (ps_if (pt_cmpR op_ne (pv 2) pe_int (nomark _)) (pss_one (ps_ret (pe_tup (pa_cons pe_int (pa_cons (pe_call (ok_ratio T) hr (by rfl) T.g_ratio T.F_ratio.kp T.b_ratio .nil pass0 (pa_cons (pv 3) (pa_cons (pv 2) pa_nil))) (pa_cons (pe_call (ok_ratio T) hr (by rfl) T.g_ratio T.F_ratio.kp T.b_ratio .nil pass0 (pa_cons (pv 4) (pa_cons (pv 2) pa_nil))) pa_nil)))))) pss_nil)
      (pss_one (ps_ret (pe_tup (pa_cons pe_int (pa_cons (pe_tup (pa_cons pe_int (pa_cons pe_int pa_nil))) (pa_cons (pe_call (ok_ratio T) hr (by rfl) T.g_ratio T.F_ratio.kp T.b_ratio .nil pass0 (pa_cons (pv 4) (pa_cons (pv 3) pa_nil))) pa_nil)))))))))), ?_⟩
    have L0 : Lo ⟨K, X, H, muts [.imm (enc (a_p : (T3 Int Int Int))), .imm (enc (a_q : (T3 Int Int Int)))], n_line_of.length⟩ X H (L2.start n_line_of vs) [.imm (enc (a_p : (T3 Int Int Int))), .imm (enc (a_q : (T3 Int Int Int))), .unk, .unk, .unk] := c.start n_line_of (show (2 : Nat) ≤ 5 by decide)
    unfold m_line_of at hm
    refine x_seq (x_asg (x_op (x_op (x_op (x_vd (d := (enc (a_p : (T3 Int Int Int)))) L0 rfl fun v1 r1 => x_c (x_ixTI (x := a_p.b) r1 rfl (x_op (x_vd (d := (enc (a_q : (T3 Int Int Int)))) L0 rfl fun v2 r2 => x_c (x_ixTI (x := a_q.c) r2 rfl (x_mul hm fun z1 _ hm1 => x_op (x_op (x_vd (d := (enc (a_p : (T3 Int Int Int)))) L0 rfl fun v3 r3 => x_c (x_ixTI (x := a_p.c) r3 rfl (x_op (x_vd (d := (enc (a_q : (T3 Int Int Int)))) L0 rfl fun v4 r4 => x_c (x_ixTI (x := a_q.b) r4 rfl (x_mul hm1 fun z2 _ hm2 => x_r0 (x_bset (x0 := (z1 - z2)) (d := fun a_1 => (.int a_1)) (Γf := fun a_1 => [.imm (enc (a_p : (T3 Int Int Int))), .imm (enc (a_q : (T3 Int Int Int))), .imm (.int a_1), .unk, .unk]) hm2 L0 (.int _) (show (2 : Nat) < 5 by decide) (fun _ => rfl) fun a_1 _ hm3 L1 => ?_))))))))))))))))))
    refine x_seq (x_asg (x_op (x_op (x_op (x_vd (d := (enc (a_p : (T3 Int Int Int)))) L1 rfl fun v5 r5 => x_c (x_ixTI (x := a_p.c) r5 rfl (x_op (x_vd (d := (enc (a_q : (T3 Int Int Int)))) L1 rfl fun v6 r6 => x_c (x_ixTI (x := a_q.a) r6 rfl (x_mul hm3 fun z3 _ hm4 => x_op (x_op (x_vd (d := (enc (a_p : (T3 Int Int Int)))) L1 rfl fun v7 r7 => x_c (x_ixTI (x := a_p.a) r7 rfl (x_op (x_vd (d := (enc (a_q : (T3 Int Int Int)))) L1 rfl fun v8 r8 => x_c (x_ixTI (x := a_q.c) r8 rfl (x_mul hm4 fun z4 _ hm5 => x_r0 (x_bset (x0 := (z3 - z4)) (d := fun b_1 => (.int b_1)) (Γf := fun b_1 => [.imm (enc (a_p : (T3 Int Int Int))), .imm (enc (a_q : (T3 Int Int Int))), .imm (.int a_1), .imm (.int b_1), .unk]) hm5 L1 (.int _) (show (3 : Nat) < 5 by decide) (fun _ => rfl) fun b_1 _ hm6 L2 => ?_))))))))))))))))))
    refine x_seq (x_asg (x_op (x_op (x_op (x_vd (d := (enc (a_p : (T3 Int Int Int)))) L2 rfl fun v9 r9 => x_c (x_ixTI (x := a_p.a) r9 rfl (x_op (x_vd (d := (enc (a_q : (T3 Int Int Int)))) L2 rfl fun v10 r10 => x_c (x_ixTI (x := a_q.b) r10 rfl (x_mul hm6 fun z5 _ hm7 => x_op (x_op (x_vd (d := (enc (a_p : (T3 Int Int Int)))) L2 rfl fun v11 r11 => x_c (x_ixTI (x := a_p.b) r11 rfl (x_op (x_vd (d := (enc (a_q : (T3 Int Int Int)))) L2 rfl fun v12 r12 => x_c (x_ixTI (x := a_q.a) r12 rfl (x_mul hm7 fun z6 _ hm8 => x_r0 (x_bset (x0 := (z5 - z6)) (d := fun c_1 => (.int c_1)) (Γf := fun c_1 => [.imm (enc (a_p : (T3 Int Int Int))), .imm (enc (a_q : (T3 Int Int Int))), .imm (.int a_1), .imm (.int b_1), .imm (.int c_1)]) hm8 L2 (.int _) (show (4 : Nat) < 5 by decide) (fun _ => rfl) fun c_1 _ hm9 L3 => ?_))))))))))))))))))
    refine x_seq (x_ifS (x_test (x_op (x_vI (x := a_1) L3 rfl (x_c (x_nei (x_kb (x_if hm9 (fun hm10 => ?_) fun hm10 => ?_))))))))
    · exact x_ret (x_tup (x_cons (x_c (x_cons (x_call (x_cons (x_vI (x := b_1) L3 rfl (x_cons (x_vI (x := a_1) L3 rfl (x_nil (obE hm10 fun z7 hz1 hm11 => mk_ratio hz1 (L3.cond0 (.im (.int _) (.im (.int _) .nil)) rfl) fun v13 _ F1 => k0d L3 F1 fun L4 le1 r13 => x_cons (x_call (x_cons (x_vI (x := c_1) L4 rfl (x_cons (x_vI (x := a_1) L4 rfl (x_nil (obE hm11 fun z8 hz2 hm12 => mk_ratio hz2 (L4.cond0 (.im (.int _) (.im (.int _) .nil)) rfl) fun v14 _ F2 => k0d L4 F2 fun L5 le2 r14 => have r15 := le2 _ _ r13; x_nil (x_mkT L5 (.cons (.int _) (.cons r15 (.cons r14 .nil))) (show (3 : Nat) ≤ 16777216 by decide) fun v15 _ L6 le3 r16 => have r17 : Rep _ _ _ (enc ((T3.mk 1 z7 z8) : (T3 Int (T2 Int Int) (T2 Int Int)))) v15 := r16; x_fin (Q := Q) (ps := (fun (r : (T3 Int (T2 Int Int) (T2 Int Int))) => [])) (rs := (fun (r : (T3 Int (T2 Int Int) (T2 Int Int))) => (.imm (enc (r : (T3 Int (T2 Int Int) (T2 Int Int))))))) (e := (T3.mk 1 z7 z8)) hm12 kont (L6.fin hp0 r17))))))))))))))))))))
    · refine x_next ?_
      exact x_ret (x_tup (x_cons (x_c (x_cons (x_tup (x_cons (x_c (x_cons (x_c (x_nil (x_mkT L3 (.cons (.int _) (.cons (.int _) .nil)) (show (2 : Nat) ≤ 16777216 by decide) fun v16 _ L7 le4 r18 => have r19 : Rep _ _ _ (enc ((T2.mk 1 1) : (T2 Int Int))) v16 := r18; x_cons (x_call (x_cons (x_vI (x := c_1) L7 rfl (x_cons (x_vI (x := b_1) L7 rfl (x_nil (obE hm10 fun z9 hz3 hm13 => mk_ratio hz3 (L7.cond0 (.im (.int _) (.im (.int _) .nil)) rfl) fun v17 _ F3 => k0d L7 F3 fun L8 le5 r20 => have r21 := le5 _ _ r19; x_nil (x_mkT L8 (.cons (.int _) (.cons r21 (.cons r20 .nil))) (show (3 : Nat) ≤ 16777216 by decide) fun v18 _ L9 le6 r22 => have r23 : Rep _ _ _ (enc ((T3.mk 0 ((T2.mk 1 1)) z9) : (T3 Int (T2 Int Int) (T2 Int Int)))) v18 := r22; x_fin (Q := Q) (ps := (fun (r : (T3 Int (T2 Int Int) (T2 Int Int))) => [])) (rs := (fun (r : (T3 Int (T2 Int Int) (T2 Int Int))) => (.imm (enc (r : (T3 Int (T2 Int Int) (T2 Int Int))))))) (e := (T3.mk 0 ((T2.mk 1 1)) z9)) hm13 kont (L9.fin hp0 r23))))))))))))))))))))
abbrev sp_count_sides (K : PySem.W.Frag) : Sp := fun vs H Q _ => ∃ (X : Addr → Prop) (p_tally : Addr) (a_tally : (List ((T2 (T3 Int (T2 Int Int) (T2 Int Int)) (T3 Int Int Int)) × Int))) (a_rings : (List (List (T3 Int Int Int)))) (a_number : Int) (r : (Unit × (List ((T2 (T3 Int (T2 Int Int) (T2 Int Int)) (T3 Int Int Int)) × Int)))), m_count_sides a_tally a_rings a_number = some r ∧ Cond K X H [.mu p_tally (mn K P w (a_tally : (List ((T2 (T3 Int (T2 Int Int) (T2 Int Int)) (T3 Int Int Int)) × Int)))), .imm (enc (a_rings : (List (List (T3 Int Int Int))))), .imm (.int a_number)] vs ∧ ∀ H', Fin K X H [p_tally] [(p_tally, (mn K P w (r.2 : (List ((T2 (T3 Int (T2 Int Int) (T2 Int Int)) (T3 Int Int Int)) × Int)))))] (.imm .none) .non H' → Q .non H'
theorem mk_count_sides {K : PySem.W.Frag} {X : Addr → Prop} {H : Hp} {vs : List V} {Q : VK} {E : XK} {p_tally : Addr} {a_tally : (List ((T2 (T3 Int (T2 Int Int) (T2 Int Int)) (T3 Int Int Int)) × Int))} {a_rings : (List (List (T3 Int Int Int)))} {a_number : Int} {r : (Unit × (List ((T2 (T3 Int (T2 Int Int) (T2 Int Int)) (T3 Int Int Int)) × Int)))} (hm : m_count_sides a_tally a_rings a_number = some r) (c : Cond K X H [.mu p_tally (mn K P w (a_tally : (List ((T2 (T3 Int (T2 Int Int) (T2 Int Int)) (T3 Int Int Int)) × Int)))), .imm (enc (a_rings : (List (List (T3 Int Int Int))))), .imm (.int a_number)] vs) (k : ∀ H', Fin K X H [p_tally] [(p_tally, (mn K P w (r.2 : (List ((T2 (T3 Int (T2 Int Int) (T2 Int Int)) (T3 Int Int Int)) × Int)))))] (.imm .none) .non H' → Q .non H') : sp_count_sides (P := P) (w := w) K vs H Q E := ⟨X, p_tally, a_tally, a_rings, a_number, r, hm, c, k⟩
abbrev n_count_sides : List Str := ["tally", "rings", "number", "ring", "k", "corner", "ahead", "line"]
theorem sc_count_sides : FnScope n_count_sides ["tally", "rings", "number"] (defScope s_count_sides) := ⟨rfl, rfl, rfl, by decide +kernel, rfl, by decide +kernel, by decide +kernel⟩
theorem ok_count_sides (T : Txt K mg) : FnOk P w K mg base CX0 4 T.A_count_sides T.D_count_sides ["tally", "rings", "number"] (sp_count_sides (P := P) (w := w) K) := by
  refine Fun.ok T.F_count_sides sc_count_sides (fun vs H Q E h => ?_) (fun cdv A outer s H vs Q E hr h => ?_)
  · obtain ⟨X, p_tally, a_tally, a_rings, a_number, r, hm, c, kont⟩ := h
    exact c.len
  · obtain ⟨X, p_tally, a_tally, a_rings, a_number, r, hm, c, kont⟩ := h
    refine ⟨_, (pss_one (ps_for PassesOwn.never rfl (pi_list (pv 1)) (pg_name (i := 3) sc_count_sides.nd rfl (Or.inl rfl)) (pss_one (ps_for PassesOwn.never rfl (pi_enum (by rfl) T.z_enumerate (pa_cons (pv 3) pa_nil)) (pg_tup rfl (pgs_cons (pg_name (i := 4) sc_count_sides.nd rfl (Or.inl rfl)) (pgs_cons (pg_name (i := 5) sc_count_sides.nd rfl (Or.inl rfl)) pgs_nil))) (pss_cons (ps_set (i := 6) sc_count_sides.nd rfl (Or.inl rfl) (pe_ix (r := rIxL K) ix_list (pv 3) (pe_op op_sub (pv 4) pe_int) (fun _ _ => rfl)))
      (pss_cons (ps_set (i := 7) sc_count_sides.nd rfl (Or.inl rfl) (pe_call (ok_line_of T) hr (by rfl) T.g_line_of T.F_line_of.kp T.b_line_of .nil pass0 (pa_cons (pv 6) (pa_cons (pv 5) pa_nil))))
      (pss_cons (ps_nput (room65 hr) (pv 0) (pe_tup (pa_cons (pv 7) (pa_cons (pv 6) pa_nil))) (pe_op op_add (pe_nget2 (room65 hr) (pv 0) (pe_tup (pa_cons (pv 7) (pa_cons (pv 6) pa_nil))) pe_int ⟨by rfl, by rfl, by rfl, by rfl⟩) (pv 2)) (by rfl))
      (pss_one (ps_nput (room65 hr) (pv 0) (pe_tup (pa_cons (pv 7) (pa_cons (pv 5) pa_nil))) (pe_op op_sub (pe_nget2 (room65 hr) (pv 0) (pe_tup (pa_cons (pv 7) (pa_cons (pv 5) pa_nil))) pe_int ⟨by rfl, by rfl, by rfl, by rfl⟩) (pv 2)) (by rfl)))))))))), ?_⟩
    have L0 : Lo ⟨K, X, H, muts [.mu p_tally (mn K P w (a_tally : (List ((T2 (T3 Int (T2 Int Int) (T2 Int Int)) (T3 Int Int Int)) × Int)))), .imm (enc (a_rings : (List (List (T3 Int Int Int))))), .imm (.int a_number)], n_count_sides.length⟩ X H (L2.start n_count_sides vs) [.mu p_tally (mn K P w (a_tally : (List ((T2 (T3 Int (T2 Int Int) (T2 Int Int)) (T3 Int Int Int)) × Int)))), .imm (enc (a_rings : (List (List (T3 Int Int Int))))), .imm (.int a_number), .unk, .unk, .unk, .unk, .unk] := c.start n_count_sides (show (3 : Nat) ≤ 8 by decide)
    unfold m_count_sides at hm
    refine x_tforL (x_vd (d := (enc (a_rings : (List (List (T3 Int Int Int)))))) L0 rfl fun v1 r1 => x_foL (G := (fun (s1 : (List ((T2 (T3 Int (T2 Int Int) (T2 Int Int)) (T3 Int Int Int)) × Int))) => [.mu p_tally (mn K P w (s1 : (List ((T2 (T3 Int (T2 Int Int) (T2 Int Int)) (T3 Int Int Int)) × Int)))), .imm (enc (a_rings : (List (List (T3 Int Int Int))))), .imm (.int a_number), .unk, .unk, .unk, .unk, .unk])) (s0 := a_tally) (xs := a_rings) (L0.weak (Γ' := [.mu p_tally (mn K P w (a_tally : (List ((T2 (T3 Int (T2 Int Int) (T2 Int Int)) (T3 Int Int Int)) × Int)))), .imm (enc (a_rings : (List (List (T3 Int Int Int))))), .imm (.int a_number), .unk, .unk, .unk, .unk, .unk]) (.k (.k (.k (.k (.k (.k (.k (.k .e))))))))) (fun _ _ => rfl) r1 hm (fun x1 s1 H1 _ u1 _ _ _ _ _ hm1 L1 r2 hN1 hC1 => ?_) (fun s2 _ _ hm2 L2 => ?_))
    · refine x_set (d := (enc (x1 : (List (T3 Int Int Int))))) (Γ' := [.mu p_tally (mn K P w (s1 : (List ((T2 (T3 Int (T2 Int Int) (T2 Int Int)) (T3 Int Int Int)) × Int)))), .imm (enc (a_rings : (List (List (T3 Int Int Int))))), .imm (.int a_number), .imm (enc (x1 : (List (T3 Int Int Int)))), .unk, .unk, .unk, .unk]) L1 r2 (show (3 : Nat) < 8 by decide) rfl fun _ L3 => ?_
      refine x_tforE (x_cons (x_vd (d := (enc (x1 : (List (T3 Int Int Int))))) L3 rfl fun v2 r3 => x_nil (x_foE (G := (fun (s3 : (List ((T2 (T3 Int (T2 Int Int) (T2 Int Int)) (T3 Int Int Int)) × Int))) => [.mu p_tally (mn K P w (s3 : (List ((T2 (T3 Int (T2 Int Int) (T2 Int Int)) (T3 Int Int Int)) × Int)))), .imm (enc (a_rings : (List (List (T3 Int Int Int))))), .imm (.int a_number), .imm (enc (x1 : (List (T3 Int Int Int)))), .unk, .unk, .unk, .unk])) (s0 := s1) (xs := x1) (L3.weak (Γ' := [.mu p_tally (mn K P w (s1 : (List ((T2 (T3 Int (T2 Int Int) (T2 Int Int)) (T3 Int Int Int)) × Int)))), .imm (enc (a_rings : (List (List (T3 Int Int Int))))), .imm (.int a_number), .imm (enc (x1 : (List (T3 Int Int Int)))), .unk, .unk, .unk, .unk]) (.k (.k (.k (.k (.k (.k (.k (.k .e))))))))) (fun _ _ => rfl) r3 hm1 (fun x2 s3 H2 _ u2 _ _ _ _ _ hm4 L4 r4 hN2 hC2 => ?_) (fun s4 _ _ hm5 L5 => ?_))))
      · refine x_gTup r4 rfl fun vs1 rs1 => x_gCons rs1 fun v3 _ r5 rs2 => x_set (d := (.int x2.a)) (Γ' := [.mu p_tally (mn K P w (s3 : (List ((T2 (T3 Int (T2 Int Int) (T2 Int Int)) (T3 Int Int Int)) × Int)))), .imm (enc (a_rings : (List (List (T3 Int Int Int))))), .imm (.int a_number), .imm (enc (x1 : (List (T3 Int Int Int)))), .imm (.int x2.a), .unk, .unk, .unk]) L4 r5 (show (4 : Nat) < 8 by decide) rfl fun _ L6 => x_gCons rs2 fun v4 _ r6 rs3 => x_set (d := (enc (x2.b : (T3 Int Int Int)))) (Γ' := [.mu p_tally (mn K P w (s3 : (List ((T2 (T3 Int (T2 Int Int) (T2 Int Int)) (T3 Int Int Int)) × Int)))), .imm (enc (a_rings : (List (List (T3 Int Int Int))))), .imm (.int a_number), .imm (enc (x1 : (List (T3 Int Int Int)))), .imm (.int x2.a), .imm (enc (x2.b : (T3 Int Int Int))), .unk, .unk]) L6 r6 (show (5 : Nat) < 8 by decide) rfl fun _ L7 => x_gNil rs3 (?_)
        refine x_seq (x_asg (x_op (x_vd (d := (enc (x1 : (List (T3 Int Int Int))))) L7 rfl fun v5 r7 => x_op (x_vI (x := x2.a) L7 rfl (x_c (x_r0 (x_ixL (xs := x1) hm4 r7 fun x3 v6 _ hm7 r8 => x_set (d := (enc (x3 : (T3 Int Int Int)))) (Γ' := [.mu p_tally (mn K P w (s3 : (List ((T2 (T3 Int (T2 Int Int) (T2 Int Int)) (T3 Int Int Int)) × Int)))), .imm (enc (a_rings : (List (List (T3 Int Int Int))))), .imm (.int a_number), .imm (enc (x1 : (List (T3 Int Int Int)))), .imm (.int x2.a), .imm (enc (x2.b : (T3 Int Int Int))), .imm (enc (x3 : (T3 Int Int Int))), .unk]) L7 r8 (show (6 : Nat) < 8 by decide) rfl fun _ L8 => ?_)))))))
        refine x_seq (x_asg (x_call (x_cons (x_vd (d := (enc (x3 : (T3 Int Int Int)))) L8 rfl fun v7 r9 => x_cons (x_vd (d := (enc (x2.b : (T3 Int Int Int)))) L8 rfl fun v8 r10 => x_nil (obE hm7 fun z1 hz1 hm8 => mk_line_of hz1 (L8.cond0 (.im r9 (.im r10 .nil)) rfl) fun v9 _ F3 => k0d L8 F3 fun L9 le1 r11 => x_set (d := (enc (z1 : (T3 Int (T2 Int Int) (T2 Int Int))))) (Γ' := [.mu p_tally (mn K P w (s3 : (List ((T2 (T3 Int (T2 Int Int) (T2 Int Int)) (T3 Int Int Int)) × Int)))), .imm (enc (a_rings : (List (List (T3 Int Int Int))))), .imm (.int a_number), .imm (enc (x1 : (List (T3 Int Int Int)))), .imm (.int x2.a), .imm (enc (x2.b : (T3 Int Int Int))), .imm (enc (x3 : (T3 Int Int Int))), .imm (enc (z1 : (T3 Int (T2 Int Int) (T2 Int Int))))]) L9 r11 (show (7 : Nat) < 8 by decide) rfl fun _ L10 => ?_))))))
        refine x_seq (x_nputS (x_op (x_ng2 (x_vm L10 rfl (x_isN (kvs := s3) (i := 0) L10 rfl (x_tup (x_cons (x_vd (d := (enc (z1 : (T3 Int (T2 Int Int) (T2 Int Int))))) L10 rfl fun v10 r12 => x_cons (x_vd (d := (enc (x3 : (T3 Int Int Int)))) L10 rfl fun v11 r13 => x_nil (x_mkT L10 (.cons r12 (.cons r13 .nil)) (show (2 : Nat) ≤ 16777216 by decide) fun v12 _ L11 le2 r14 => have r15 : Rep _ _ _ (enc ((T2.mk z1 x3) : (T2 (T3 Int (T2 Int Int) (T2 Int Int)) (T3 Int Int Int)))) v12 := r14; x_c (x_nget2 (kvs := s3) (k := (T2.mk z1 x3)) (d := 0) (i := 0) L11 rfl r15 (x_vI (x := a_number) L11 rfl (x_r0 (x_vm L11 rfl (x_tup (x_cons (x_vd (d := (enc (z1 : (T3 Int (T2 Int Int) (T2 Int Int))))) L11 rfl fun v13 r16 => x_cons (x_vd (d := (enc (x3 : (T3 Int Int Int)))) L11 rfl fun v14 r17 => x_nil (x_mkT L11 (.cons r16 (.cons r17 .nil)) (show (2 : Nat) ≤ 16777216 by decide) fun v15 _ L12 le3 r18 => have r19 : Rep _ _ _ (enc ((T2.mk z1 x3) : (T2 (T3 Int (T2 Int Int) (T2 Int Int)) (T3 Int Int Int)))) v15 := r18; x_nput (kvs := s3) (k := (T2.mk z1 x3)) (j := (((ngetM s3 ((T2.mk z1 x3))).getD 0) + a_number)) (i := 0) (Γ' := [.mu p_tally (mn K P w ((nputM s3 ((T2.mk z1 x3)) ((((ngetM s3 ((T2.mk z1 x3))).getD 0) + a_number))) : (List ((T2 (T3 Int (T2 Int Int) (T2 Int Int)) (T3 Int Int Int)) × Int)))), .imm (enc (a_rings : (List (List (T3 Int Int Int))))), .imm (.int a_number), .imm (enc (x1 : (List (T3 Int Int Int)))), .imm (.int x2.a), .imm (enc (x2.b : (T3 Int Int Int))), .imm (enc (x3 : (T3 Int Int Int))), .imm (enc (z1 : (T3 Int (T2 Int Int) (T2 Int Int))))]) L12 rfl hm8 r19 rfl fun _ hm9 L13 le4 => ?_)))))))))))))))))))
        refine x_nputS (x_op (x_ng2 (x_vm L13 rfl (x_isN (kvs := (nputM s3 ((T2.mk z1 x3)) ((((ngetM s3 ((T2.mk z1 x3))).getD 0) + a_number)))) (i := 0) L13 rfl (x_tup (x_cons (x_vd (d := (enc (z1 : (T3 Int (T2 Int Int) (T2 Int Int))))) L13 rfl fun v16 r20 => x_cons (x_vd (d := (enc (x2.b : (T3 Int Int Int)))) L13 rfl fun v17 r21 => x_nil (x_mkT L13 (.cons r20 (.cons r21 .nil)) (show (2 : Nat) ≤ 16777216 by decide) fun v18 _ L14 le5 r22 => have r23 : Rep _ _ _ (enc ((T2.mk z1 x2.b) : (T2 (T3 Int (T2 Int Int) (T2 Int Int)) (T3 Int Int Int)))) v18 := r22; x_c (x_nget2 (kvs := (nputM s3 ((T2.mk z1 x3)) ((((ngetM s3 ((T2.mk z1 x3))).getD 0) + a_number)))) (k := (T2.mk z1 x2.b)) (d := 0) (i := 0) L14 rfl r23 (x_vI (x := a_number) L14 rfl (x_r0 (x_vm L14 rfl (x_tup (x_cons (x_vd (d := (enc (z1 : (T3 Int (T2 Int Int) (T2 Int Int))))) L14 rfl fun v19 r24 => x_cons (x_vd (d := (enc (x2.b : (T3 Int Int Int)))) L14 rfl fun v20 r25 => x_nil (x_mkT L14 (.cons r24 (.cons r25 .nil)) (show (2 : Nat) ≤ 16777216 by decide) fun v21 _ L15 le6 r26 => have r27 : Rep _ _ _ (enc ((T2.mk z1 x2.b) : (T2 (T3 Int (T2 Int Int) (T2 Int Int)) (T3 Int Int Int)))) v21 := r26; x_nput (kvs := (nputM s3 ((T2.mk z1 x3)) ((((ngetM s3 ((T2.mk z1 x3))).getD 0) + a_number)))) (k := (T2.mk z1 x2.b)) (j := (((ngetM ((nputM s3 ((T2.mk z1 x3)) ((((ngetM s3 ((T2.mk z1 x3))).getD 0) + a_number)))) ((T2.mk z1 x2.b))).getD 0) - a_number)) (i := 0) (Γ' := [.mu p_tally (mn K P w ((nputM ((nputM s3 ((T2.mk z1 x3)) ((((ngetM s3 ((T2.mk z1 x3))).getD 0) + a_number)))) ((T2.mk z1 x2.b)) ((((ngetM ((nputM s3 ((T2.mk z1 x3)) ((((ngetM s3 ((T2.mk z1 x3))).getD 0) + a_number)))) ((T2.mk z1 x2.b))).getD 0) - a_number))) : (List ((T2 (T3 Int (T2 Int Int) (T2 Int Int)) (T3 Int Int Int)) × Int)))), .imm (enc (a_rings : (List (List (T3 Int Int Int))))), .imm (.int a_number), .imm (enc (x1 : (List (T3 Int Int Int)))), .imm (.int x2.a), .imm (enc (x2.b : (T3 Int Int Int))), .imm (enc (x3 : (T3 Int Int Int))), .imm (enc (z1 : (T3 Int (T2 Int Int) (T2 Int Int))))]) L15 rfl hm9 r27 rfl fun _ hm10 L16 le7 => ?_))))))))))))))))))
        exact x_leaf (G := (fun (s3 : (List ((T2 (T3 Int (T2 Int Int) (T2 Int Int)) (T3 Int Int Int)) × Int))) => [.mu p_tally (mn K P w (s3 : (List ((T2 (T3 Int (T2 Int Int) (T2 Int Int)) (T3 Int Int Int)) × Int)))), .imm (enc (a_rings : (List (List (T3 Int Int Int))))), .imm (.int a_number), .imm (enc (x1 : (List (T3 Int Int Int)))), .unk, .unk, .unk, .unk])) (e := (nputM ((nputM s3 ((T2.mk z1 x3)) ((((ngetM s3 ((T2.mk z1 x3))).getD 0) + a_number)))) ((T2.mk z1 x2.b)) ((((ngetM ((nputM s3 ((T2.mk z1 x3)) ((((ngetM s3 ((T2.mk z1 x3))).getD 0) + a_number)))) ((T2.mk z1 x2.b))).getD 0) - a_number)))) hm10 hN2 (L16.weak (Γ' := [.mu p_tally (mn K P w ((nputM ((nputM s3 ((T2.mk z1 x3)) ((((ngetM s3 ((T2.mk z1 x3))).getD 0) + a_number)))) ((T2.mk z1 x2.b)) ((((ngetM ((nputM s3 ((T2.mk z1 x3)) ((((ngetM s3 ((T2.mk z1 x3))).getD 0) + a_number)))) ((T2.mk z1 x2.b))).getD 0) - a_number))) : (List ((T2 (T3 Int (T2 Int Int) (T2 Int Int)) (T3 Int Int Int)) × Int)))), .imm (enc (a_rings : (List (List (T3 Int Int Int))))), .imm (.int a_number), .imm (enc (x1 : (List (T3 Int Int Int)))), .unk, .unk, .unk, .unk]) (.k (.k (.k (.k (.d (.d (.d (.d .e)))))))))
      exact x_leaf (G := (fun (s1 : (List ((T2 (T3 Int (T2 Int Int) (T2 Int Int)) (T3 Int Int Int)) × Int))) => [.mu p_tally (mn K P w (s1 : (List ((T2 (T3 Int (T2 Int Int) (T2 Int Int)) (T3 Int Int Int)) × Int)))), .imm (enc (a_rings : (List (List (T3 Int Int Int))))), .imm (.int a_number), .unk, .unk, .unk, .unk, .unk])) (e := s4) hm5 hN1 (L5.weak (Γ' := [.mu p_tally (mn K P w (s4 : (List ((T2 (T3 Int (T2 Int Int) (T2 Int Int)) (T3 Int Int Int)) × Int)))), .imm (enc (a_rings : (List (List (T3 Int Int Int))))), .imm (.int a_number), .unk, .unk, .unk, .unk, .unk]) (.k (.k (.k (.d (.k (.k (.k (.k .e)))))))))
    exact x_finN (Q := Q) (ps := (fun (r : (Unit × (List ((T2 (T3 Int (T2 Int Int) (T2 Int Int)) (T3 Int Int Int)) × Int)))) => [(p_tally, (mn K P w (r.2 : (List ((T2 (T3 Int (T2 Int Int) (T2 Int Int)) (T3 Int Int Int)) × Int)))))])) (sc := fun (r : (Unit × (List ((T2 (T3 Int (T2 Int Int) (T2 Int Int)) (T3 Int Int Int)) × Int)))) => r.1) (((), s2)) hm2 kont (L2.fin (hp1 (L2.mrep (i := 0) rfl)) .non)
abbrev sp_parts_cloth (K : PySem.W.Frag) : Sp := fun vs H Q _ => ∃ (X : Addr → Prop)  (a_rings : (List (List (T3 Int Int Int)))) (a_cloth : (List (List (T3 Int Int Int)))) (r : Bool), m_parts_cloth a_rings a_cloth = some r ∧ Cond K X H [.imm (enc (a_rings : (List (List (T3 Int Int Int))))), .imm (enc (a_cloth : (List (List (T3 Int Int Int)))))] vs ∧ ∀ H', Fin K X H [] [] (.imm (.bool r)) (.bl r) H' → Q (.bl r) H'
theorem mk_parts_cloth {K : PySem.W.Frag} {X : Addr → Prop} {H : Hp} {vs : List V} {Q : VK} {E : XK}  {a_rings : (List (List (T3 Int Int Int)))} {a_cloth : (List (List (T3 Int Int Int)))} {r : Bool} (hm : m_parts_cloth a_rings a_cloth = some r) (c : Cond K X H [.imm (enc (a_rings : (List (List (T3 Int Int Int))))), .imm (enc (a_cloth : (List (List (T3 Int Int Int)))))] vs) (k : ∀ H', Fin K X H [] [] (.imm (.bool r)) (.bl r) H' → Q (.bl r) H') : sp_parts_cloth K vs H Q E := ⟨X, a_rings, a_cloth, r, hm, c, k⟩
abbrev n_parts_cloth : List Str := ["rings", "cloth", "tally", "key"]
theorem sc_parts_cloth : FnScope n_parts_cloth ["rings", "cloth"] (defScope s_parts_cloth) := ⟨rfl, rfl, rfl, by decide +kernel, rfl, by decide +kernel, by decide +kernel⟩
theorem ok_parts_cloth (T : Txt K mg) : FnOk P w K mg base CX0 5 T.A_parts_cloth T.D_parts_cloth ["rings", "cloth"] (sp_parts_cloth K) := by
  refine Fun.ok T.F_parts_cloth sc_parts_cloth (fun vs H Q E h => ?_) (fun cdv A outer s H vs Q E hr h => ?_)
  · obtain ⟨X, a_rings, a_cloth, r, hm, c, kont⟩ := h
    exact c.len
  · obtain ⟨X, a_rings, a_cloth, r, hm, c, kont⟩ := h
    refine ⟨_, (pss_cons (ps_set (i := 2) sc_parts_cloth.nd rfl (Or.inr rfl) pe_nnew)
      (pss_cons (ps_expr (pe_call (ok_count_sides T) hr (by rfl) T.g_count_sides T.F_count_sides.kp T.b_count_sides .nil pass0 (pa_cons (pv 2) (pa_cons (pv 0) (pa_cons pe_int pa_nil)))))
      (pss_cons (ps_expr (pe_call (ok_count_sides T) hr (by rfl) T.g_count_sides T.F_count_sides.kp T.b_count_sides .nil pass0 (pa_cons (pv 2) (pa_cons (pv 1) (pa_cons (pe_un un_neg pe_int) pa_nil)))))
      (pss_one (ps_ret (pe_callB (r := rAll K) (cr_all rfl) (by rfl) T.z_all (by decide +kernel) (pa_cons (pe_lock (pe_lc (own := [("key", 3)]) (g := gName 3) (tt := tYes) rfl sc_parts_cloth.nd (pi_nkeys (pv 2)) (blkOk_by (N := n_parts_cloth) (sc := defScope s_parts_cloth) (by decide +kernel)) (fun _ _ _ _ _ => (pg_name (i := 3) sc_parts_cloth.nd rfl (Or.inl rfl))) (fun _ _ _ _ _ => pts_nil) (fun _ _ _ _ _ => (pe_cmpR op_eq (pe_ngetK (P := P) (w := w) rfl rfl (room65 hr) (pv 2) (pv 3) (fun _ _ => rfl)) pe_int (nomark _))))) pa_nil))))))), ?_⟩
    have L0 : Lo ⟨K, X, H, muts [.imm (enc (a_rings : (List (List (T3 Int Int Int))))), .imm (enc (a_cloth : (List (List (T3 Int Int Int)))))], n_parts_cloth.length⟩ X H (L2.start n_parts_cloth vs) [.imm (enc (a_rings : (List (List (T3 Int Int Int))))), .imm (enc (a_cloth : (List (List (T3 Int Int Int))))), .unk, .unk] := c.start n_parts_cloth (show (2 : Nat) ≤ 4 by decide)
    unfold m_parts_cloth at hm
    refine x_seq (x_asg (x_nnew (P := P) (w := w) (κ := (T2 (T3 Int (T2 Int Int) (T2 Int Int)) (T3 Int Int Int))) L0 fun p1 _ _ h01 hx1 L1 le1 => x_setN (Γ := [.imm (enc (a_rings : (List (List (T3 Int Int Int))))), .imm (enc (a_cloth : (List (List (T3 Int Int Int))))), .unk, .unk]) (p := p1) (o := (mn K P w (([] : (List ((T2 (T3 Int (T2 Int Int) (T2 Int Int)) (T3 Int Int Int)) × Int))) : (List ((T2 (T3 Int (T2 Int Int) (T2 Int Int)) (T3 Int Int Int)) × Int))))) (Γ' := [.imm (enc (a_rings : (List (List (T3 Int Int Int))))), .imm (enc (a_cloth : (List (List (T3 Int Int Int))))), .mu p1 (mn K P w (([] : (List ((T2 (T3 Int (T2 Int Int) (T2 Int Int)) (T3 Int Int Int)) × Int))) : (List ((T2 (T3 Int (T2 Int Int) (T2 Int Int)) (T3 Int Int Int)) × Int)))), .unk]) L1 (show (2 : Nat) < 4 by decide) (show (2 : Nat) < 4 by decide) rfl fun _ L2 => ?_))
    refine x_seq (x_drop (x_call (x_cons (x_vm L2 rfl (x_cons (x_vd (d := (enc (a_rings : (List (List (T3 Int Int Int)))))) L2 rfl fun v1 r1 => x_cons (x_c (x_nil (obE hm fun z1 hz1 hm1 => mk_count_sides hz1 (L2.cond1 (i := 2) (.m (L2.mrep (i := 2) rfl) (.im r1 (.im (.int _) .nil))) rfl rfl rfl) fun _ F1 => k1 L2 F1 (i := 2) (Γ' := [.imm (enc (a_rings : (List (List (T3 Int Int Int))))), .imm (enc (a_cloth : (List (List (T3 Int Int Int))))), .mu p1 (mn K P w (z1.2 : (List ((T2 (T3 Int (T2 Int Int) (T2 Int Int)) (T3 Int Int Int)) × Int)))), .unk]) rfl rfl rfl fun L3 le2 => ?_)))))))))
    refine x_seq (x_drop (x_call (x_cons (x_vm L3 rfl (x_cons (x_vd (d := (enc (a_cloth : (List (List (T3 Int Int Int)))))) L3 rfl fun v3 r2 => x_cons (x_un (x_c (x_u (x_nil (obE hm1 fun z2 hz2 hm2 => mk_count_sides hz2 (L3.cond1 (i := 2) (.m (L3.mrep (i := 2) rfl) (.im r2 (.im (.int _) .nil))) rfl rfl rfl) fun _ F2 => k1 L3 F2 (i := 2) (Γ' := [.imm (enc (a_rings : (List (List (T3 Int Int Int))))), .imm (enc (a_cloth : (List (List (T3 Int Int Int))))), .mu p1 (mn K P w (z2.2 : (List ((T2 (T3 Int (T2 Int Int) (T2 Int Int)) (T3 Int Int Int)) × Int)))), .unk]) rfl rfl rfl fun L4 le3 => ?_)))))))))))
    exact x_ret (x_cb (x_cons (obE hm2 fun _ hl1 hm3 => x_lcNd (kvs := z2.2) (i := 2) (j := 3) L4 rfl (by decide) (show (3 : Nat) < 4 by decide) (lenOk_le hl1) (fun _ _ _ _ _ h1 h2 hg hq => x_ndEq h1 h2 hg hq) fun v5 _ L5 le4 r3 => have r4 : Rep _ _ _ (enc ((List.map (fun e => decide (e.2 = 0)) z2.2) : (List Bool))) (.ref v5) := r3; x_nil (x_all (bs := (List.map (fun e => decide (e.2 = 0)) z2.2)) r4 (x_finB (Q := Q) (ps := (fun (r : Bool) => [])) (sc := fun (r : Bool) => r) ((((List.map (fun e => decide (e.2 = 0)) z2.2)).all id)) hm3 kont (L5.fin hp0 (.bl _)))))))
abbrev sp_turned (K : PySem.W.Frag) : Sp := fun vs H Q _ => ∃ (X : Addr → Prop)  (a_p : (T3 Int Int Int)) (r : (T3 Int Int Int)), m_turned a_p = some r ∧ Cond K X H [.imm (enc (a_p : (T3 Int Int Int)))] vs ∧ ∀ v H', Fin K X H [] [] (.imm (enc (r : (T3 Int Int Int)))) v H' → Q v H'
theorem mk_turned {K : PySem.W.Frag} {X : Addr → Prop} {H : Hp} {vs : List V} {Q : VK} {E : XK}  {a_p : (T3 Int Int Int)} {r : (T3 Int Int Int)} (hm : m_turned a_p = some r) (c : Cond K X H [.imm (enc (a_p : (T3 Int Int Int)))] vs) (k : ∀ v H', Fin K X H [] [] (.imm (enc (r : (T3 Int Int Int)))) v H' → Q v H') : sp_turned K vs H Q E := ⟨X, a_p, r, hm, c, k⟩
abbrev n_turned : List Str := ["p"]
theorem sc_turned : FnScope n_turned ["p"] (defScope s_turned) := ⟨rfl, rfl, rfl, by decide +kernel, rfl, by decide +kernel, by decide +kernel⟩
theorem ok_turned (T : Txt K mg) : FnOk P w K mg base CX0 1 T.A_turned T.D_turned ["p"] (sp_turned K) := by
  refine Fun.ok T.F_turned sc_turned (fun vs H Q E h => ?_) (fun cdv A outer s H vs Q E hr h => ?_)
  · obtain ⟨X, a_p, r, hm, c, kont⟩ := h
    exact c.len
  · obtain ⟨X, a_p, r, hm, c, kont⟩ := h
    refine ⟨_, (pss_one (ps_ret (pe_tup (pa_cons (pe_un un_neg (pe_ix (r := rIxT K) ix_tup (pv 0) pe_int (fun _ _ => rfl))) (pa_cons (pe_un un_neg (pe_ix (r := rIxT K) ix_tup (pv 0) pe_int (fun _ _ => rfl))) (pa_cons (pe_ix (r := rIxT K) ix_tup (pv 0) pe_int (fun _ _ => rfl)) pa_nil)))))), ?_⟩
    have L0 : Lo ⟨K, X, H, muts [.imm (enc (a_p : (T3 Int Int Int)))], n_turned.length⟩ X H (L2.start n_turned vs) [.imm (enc (a_p : (T3 Int Int Int)))] := c.start n_turned (show (1 : Nat) ≤ 1 by decide)
    unfold m_turned at hm
    exact x_ret (x_tup (x_cons (x_un (x_op (x_vd (d := (enc (a_p : (T3 Int Int Int)))) L0 rfl fun v1 r1 => x_c (x_ixTI (x := a_p.a) r1 rfl (x_u (x_cons (x_un (x_op (x_vd (d := (enc (a_p : (T3 Int Int Int)))) L0 rfl fun v2 r2 => x_c (x_ixTI (x := a_p.b) r2 rfl (x_u (x_cons (x_op (x_vd (d := (enc (a_p : (T3 Int Int Int)))) L0 rfl fun v3 r3 => x_c (x_ixTI (x := a_p.c) r3 rfl (x_nil (x_mkT L0 (.cons (.int _) (.cons (.int _) (.cons (.int _) .nil))) (show (3 : Nat) ≤ 16777216 by decide) fun v4 _ L1 le1 r4 => have r5 : Rep _ _ _ (enc ((T3.mk ((-a_p.a)) ((-a_p.b)) a_p.c) : (T3 Int Int Int))) v4 := r4; x_fin (Q := Q) (ps := (fun (r : (T3 Int Int Int)) => [])) (rs := (fun (r : (T3 Int Int Int)) => (.imm (enc (r : (T3 Int Int Int)))))) (e := (T3.mk ((-a_p.a)) ((-a_p.b)) a_p.c)) hm kont (L1.fin hp0 r5))))))))))))))))))))
abbrev sp_point (K : PySem.W.Frag) : Sp := fun vs H Q _ => ∃ (X : Addr → Prop)  (a_a : Int) (a_b : Int) (a_n : Int) (r : (T3 Int Int Int)), m_point a_a a_b a_n = some r ∧ Cond K X H [.imm (.int a_a), .imm (.int a_b), .imm (.int a_n)] vs ∧ ∀ v H', Fin K X H [] [] (.imm (enc (r : (T3 Int Int Int)))) v H' → Q v H'
theorem mk_point {K : PySem.W.Frag} {X : Addr → Prop} {H : Hp} {vs : List V} {Q : VK} {E : XK}  {a_a : Int} {a_b : Int} {a_n : Int} {r : (T3 Int Int Int)} (hm : m_point a_a a_b a_n = some r) (c : Cond K X H [.imm (.int a_a), .imm (.int a_b), .imm (.int a_n)] vs) (k : ∀ v H', Fin K X H [] [] (.imm (enc (r : (T3 Int Int Int)))) v H' → Q v H') : sp_point K vs H Q E := ⟨X, a_a, a_b, a_n, r, hm, c, k⟩
abbrev n_point : List Str := ["a", "b", "n", "divisor"]
theorem sc_point : FnScope n_point ["a", "b", "n"] (defScope s_point) := ⟨rfl, rfl, rfl, by decide +kernel, rfl, by decide +kernel, by decide +kernel⟩
theorem ok_point (T : Txt K mg) : FnOk P w K mg base CX0 2 T.A_point T.D_point ["a", "b", "n"] (sp_point K) := by
  refine Fun.ok T.F_point sc_point (fun vs H Q E h => ?_) (fun cdv A outer s H vs Q E hr h => ?_)
  · obtain ⟨X, a_a, a_b, a_n, r, hm, c, kont⟩ := h
    exact c.len
  · obtain ⟨X, a_a, a_b, a_n, r, hm, c, kont⟩ := h
    refine ⟨_, (pss_cons (ps_if (pt_cmpR op_eq (pv 2) pe_int (nomark _)) (pss_one ps_never) pss_nil)
      (pss_cons (ps_set (i := 3) sc_point.nd rfl (Or.inl rfl) (pe_call (ok_greatest_divisor T) hr (by rfl) T.g_greatest_divisor T.F_greatest_divisor.kp T.b_greatest_divisor .nil pass0 (pa_cons (pe_call (ok_greatest_divisor T) hr (by rfl) T.g_greatest_divisor T.F_greatest_divisor.kp T.b_greatest_divisor .nil pass0 (pa_cons (pv 0) (pa_cons (pv 2) pa_nil))) (pa_cons (pv 1) pa_nil))))
      (pss_cons (ps_if (pt_cmpR op_lt (pv 2) pe_int (nomark _)) (pss_one (ps_set (i := 3) sc_point.nd rfl (Or.inl rfl) (pe_un un_neg (pv 3)))) pss_nil)
      (pss_one (ps_ret (pe_tup (pa_cons (pe_op op_divG (pv 0) (pv 3)) (pa_cons (pe_op op_divG (pv 1) (pv 3)) (pa_cons (pe_op op_divG (pv 2) (pv 3)) pa_nil))))))))), ?_⟩
    have L0 : Lo ⟨K, X, H, muts [.imm (.int a_a), .imm (.int a_b), .imm (.int a_n)], n_point.length⟩ X H (L2.start n_point vs) [.imm (.int a_a), .imm (.int a_b), .imm (.int a_n), .unk] := c.start n_point (show (3 : Nat) ≤ 4 by decide)
    unfold m_point at hm
    refine x_seq (x_ifS (x_test (x_op (x_vI (x := a_n) L0 rfl (x_c (x_eqi (x_kb (x_if hm (fun hm1 => ?_) fun hm1 => ?_))))))))
    · exact (nomatch hm1)
    · refine x_next ?_
      refine x_seq (x_asg (x_call (x_cons (x_call (x_cons (x_vI (x := a_a) L0 rfl (x_cons (x_vI (x := a_n) L0 rfl (x_nil (obE hm1 fun z1 hz1 hm2 => mk_greatest_divisor hz1 (L0.cond0 (.im (.int _) (.im (.int _) .nil)) rfl) fun _ F1 => k0 L0 F1 fun L1 le1 => x_cons (x_vI (x := a_b) L1 rfl (x_nil (obE hm2 fun z2 hz2 hm3 => mk_greatest_divisor hz2 (L1.cond0 (.im (.int _) (.im (.int _) .nil)) rfl) fun _ F2 => k0 L1 F2 fun L2 le2 => x_set (d := (.int z2)) (Γ' := [.imm (.int a_a), .imm (.int a_b), .imm (.int a_n), .imm (.int z2)]) L2 (.int _) (show (3 : Nat) < 4 by decide) rfl fun _ L3 => ?_)))))))))))))
      refine x_seq (x_ifS (x_test (x_op (x_vI (x := a_n) L3 rfl (x_c (x_r0 (x_kb (x_join (G := (fun (s1 : Int) => [.imm (.int a_a), .imm (.int a_b), .imm (.int a_n), .imm (.int s1)])) L3 hm3 (fun _ hm4 _ hN1 => ?_) (fun _ hm4 _ hN1 => ?_) fun s1 X1 _ _ hm5 L4 => ?_))))))))
      · refine x_asg (x_un (x_vI (x := z2) L3 rfl (x_u (x_bset (x0 := (-z2)) (d := fun divisor_1 => (.int divisor_1)) (Γf := fun divisor_1 => [.imm (.int a_a), .imm (.int a_b), .imm (.int a_n), .imm (.int divisor_1)]) hm4 L3 (.int _) (show (3 : Nat) < 4 by decide) (fun _ => rfl) fun divisor_1 _ hm6 L5 => ?_))))
        exact x_leaf (G := (fun (s1 : Int) => [.imm (.int a_a), .imm (.int a_b), .imm (.int a_n), .imm (.int s1)])) (e := divisor_1) hm6 hN1 (L5.weak (Γ' := [.imm (.int a_a), .imm (.int a_b), .imm (.int a_n), .imm (.int divisor_1)]) (.k (.k (.k (.k .e)))))
      · refine x_next ?_
        exact x_leaf (G := (fun (s1 : Int) => [.imm (.int a_a), .imm (.int a_b), .imm (.int a_n), .imm (.int s1)])) (e := z2) hm4 hN1 (L3.weak (Γ' := [.imm (.int a_a), .imm (.int a_b), .imm (.int a_n), .imm (.int z2)]) (.k (.k (.k (.k .e)))))
      exact x_ret (x_tup (x_cons (x_op (x_vI (x := a_a) L4 rfl (x_vI (x := s1) L4 rfl (x_div hm5 fun z3 _ hm7 => x_cons (x_op (x_vI (x := a_b) L4 rfl (x_vI (x := s1) L4 rfl (x_div hm7 fun z4 _ hm8 => x_cons (x_op (x_vI (x := a_n) L4 rfl (x_vI (x := s1) L4 rfl (x_div hm8 fun z5 _ hm9 => x_nil (x_mkT L4 (.cons (.int _) (.cons (.int _) (.cons (.int _) .nil))) (show (3 : Nat) ≤ 16777216 by decide) fun v3 _ L6 le3 r1 => have r2 : Rep _ _ _ (enc ((T3.mk z3 z4 z5) : (T3 Int Int Int))) v3 := r1; x_fin (Q := Q) (ps := (fun (r : (T3 Int Int Int)) => [])) (rs := (fun (r : (T3 Int Int Int)) => (.imm (enc (r : (T3 Int Int Int)))))) (e := (T3.mk z3 z4 z5)) hm9 kont (L6.fin hp0 r2))))))))))))))))
abbrev sp_slid (K : PySem.W.Frag) : Sp := fun vs H Q _ => ∃ (X : Addr → Prop)  (a_p : (T3 Int Int Int)) (a_step : (T3 Int Int Int)) (r : (T3 Int Int Int)), m_slid a_p a_step = some r ∧ Cond K X H [.imm (enc (a_p : (T3 Int Int Int))), .imm (enc (a_step : (T3 Int Int Int)))] vs ∧ ∀ v H', Fin K X H [] [] (.imm (enc (r : (T3 Int Int Int)))) v H' → Q v H'
theorem mk_slid {K : PySem.W.Frag} {X : Addr → Prop} {H : Hp} {vs : List V} {Q : VK} {E : XK}  {a_p : (T3 Int Int Int)} {a_step : (T3 Int Int Int)} {r : (T3 Int Int Int)} (hm : m_slid a_p a_step = some r) (c : Cond K X H [.imm (enc (a_p : (T3 Int Int Int))), .imm (enc (a_step : (T3 Int Int Int)))] vs) (k : ∀ v H', Fin K X H [] [] (.imm (enc (r : (T3 Int Int Int)))) v H' → Q v H') : sp_slid K vs H Q E := ⟨X, a_p, a_step, r, hm, c, k⟩
abbrev n_slid : List Str := ["p", "step"]
theorem sc_slid : FnScope n_slid ["p", "step"] (defScope s_slid) := ⟨rfl, rfl, rfl, by decide +kernel, rfl, by decide +kernel, by decide +kernel⟩
theorem ok_slid (T : Txt K mg) : FnOk P w K mg base CX0 3 T.A_slid T.D_slid ["p", "step"] (sp_slid K) := by
  refine Fun.ok T.F_slid sc_slid (fun vs H Q E h => ?_) (fun cdv A outer s H vs Q E hr h => ?_)
  · obtain ⟨X, a_p, a_step, r, hm, c, kont⟩ := h
    exact c.len
  · obtain ⟨X, a_p, a_step, r, hm, c, kont⟩ := h
    refine ⟨_, (pss_one (ps_ret (pe_call (ok_point T) hr (by rfl) T.g_point T.F_point.kp T.b_point .nil pass0 (pa_cons (pe_op op_add (pe_op op_mulW (pe_ix (r := rIxT K) ix_tup (pv 0) pe_int (fun _ _ => rfl)) (pe_ix (r := rIxT K) ix_tup (pv 1) pe_int (fun _ _ => rfl))) (pe_op op_mulW (pe_ix (r := rIxT K) ix_tup (pv 1) pe_int (fun _ _ => rfl)) (pe_ix (r := rIxT K) ix_tup (pv 0) pe_int (fun _ _ => rfl)))) (pa_cons (pe_op op_add (pe_op op_mulW (pe_ix (r := rIxT K) ix_tup (pv 0) pe_int (fun _ _ => rfl)) (pe_ix (r := rIxT K) ix_tup (pv 1) pe_int (fun _ _ => rfl))) (pe_op op_mulW (pe_ix (r := rIxT K) ix_tup (pv 1) pe_int (fun _ _ => rfl)) (pe_ix (r := rIxT K) ix_tup (pv 0) pe_int (fun _ _ => rfl)))) (pa_cons (pe_op op_mulW (pe_ix (r := rIxT K) ix_tup (pv 0) pe_int (fun _ _ => rfl)) (pe_ix (r := rIxT K) ix_tup (pv 1) pe_int (fun _ _ => rfl))) pa_nil)))))), ?_⟩
    have L0 : Lo ⟨K, X, H, muts [.imm (enc (a_p : (T3 Int Int Int))), .imm (enc (a_step : (T3 Int Int Int)))], n_slid.length⟩ X H (L2.start n_slid vs) [.imm (enc (a_p : (T3 Int Int Int))), .imm (enc (a_step : (T3 Int Int Int)))] := c.start n_slid (show (2 : Nat) ≤ 2 by decide)
    unfold m_slid at hm
    exact x_ret (x_call (x_cons (x_op (x_op (x_op (x_vd (d := (enc (a_p : (T3 Int Int Int)))) L0 rfl fun v1 r1 => x_c (x_ixTI (x := a_p.a) r1 rfl (x_op (x_vd (d := (enc (a_step : (T3 Int Int Int)))) L0 rfl fun v2 r2 => x_c (x_ixTI (x := a_step.c) r2 rfl (x_mul hm fun z1 _ hm1 => x_op (x_op (x_vd (d := (enc (a_step : (T3 Int Int Int)))) L0 rfl fun v3 r3 => x_c (x_ixTI (x := a_step.a) r3 rfl (x_op (x_vd (d := (enc (a_p : (T3 Int Int Int)))) L0 rfl fun v4 r4 => x_c (x_ixTI (x := a_p.c) r4 rfl (x_mul hm1 fun z2 _ hm2 => x_r0 (x_cons (x_op (x_op (x_op (x_vd (d := (enc (a_p : (T3 Int Int Int)))) L0 rfl fun v5 r5 => x_c (x_ixTI (x := a_p.b) r5 rfl (x_op (x_vd (d := (enc (a_step : (T3 Int Int Int)))) L0 rfl fun v6 r6 => x_c (x_ixTI (x := a_step.c) r6 rfl (x_mul hm2 fun z3 _ hm3 => x_op (x_op (x_vd (d := (enc (a_step : (T3 Int Int Int)))) L0 rfl fun v7 r7 => x_c (x_ixTI (x := a_step.b) r7 rfl (x_op (x_vd (d := (enc (a_p : (T3 Int Int Int)))) L0 rfl fun v8 r8 => x_c (x_ixTI (x := a_p.c) r8 rfl (x_mul hm3 fun z4 _ hm4 => x_r0 (x_cons (x_op (x_op (x_vd (d := (enc (a_p : (T3 Int Int Int)))) L0 rfl fun v9 r9 => x_c (x_ixTI (x := a_p.c) r9 rfl (x_op (x_vd (d := (enc (a_step : (T3 Int Int Int)))) L0 rfl fun v10 r10 => x_c (x_ixTI (x := a_step.c) r10 rfl (x_mul hm4 fun z5 _ hm5 => x_nil (obE hm5 fun z6 hz1 hm6 => mk_point hz1 (L0.cond0 (.im (.int _) (.im (.int _) (.im (.int _) .nil))) rfl) fun v11 _ F1 => k0d L0 F1 fun L1 le1 r11 => x_fin (Q := Q) (ps := (fun (r : (T3 Int Int Int)) => [])) (rs := (fun (r : (T3 Int Int Int)) => (.imm (enc (r : (T3 Int Int Int)))))) (e := z6) hm6 kont (L1.fin hp0 r11))))))))))))))))))))))))))))))))))))))))))))))
abbrev sp_led_ring (K : PySem.W.Frag) : Sp := fun vs H Q _ => ∃ (X : Addr → Prop)  (a_move : (T3 (List (T3 Int Int Int)) Bool (T3 Int Int Int))) (r : (List (T3 Int Int Int))), m_led_ring a_move = some r ∧ Cond K X H [.imm (enc (a_move : (T3 (List (T3 Int Int Int)) Bool (T3 Int Int Int))))] vs ∧ ∀ p H', Fin K X H [] [] (.new (ml (r : (List (T3 Int Int Int))))) (.ref p) H' → Q (.ref p) H'
theorem mk_led_ring {K : PySem.W.Frag} {X : Addr → Prop} {H : Hp} {vs : List V} {Q : VK} {E : XK}  {a_move : (T3 (List (T3 Int Int Int)) Bool (T3 Int Int Int))} {r : (List (T3 Int Int Int))} (hm : m_led_ring a_move = some r) (c : Cond K X H [.imm (enc (a_move : (T3 (List (T3 Int Int Int)) Bool (T3 Int Int Int))))] vs) (k : ∀ p H', Fin K X H [] [] (.new (ml (r : (List (T3 Int Int Int))))) (.ref p) H' → Q (.ref p) H') : sp_led_ring K vs H Q E := ⟨X, a_move, r, hm, c, k⟩
abbrev n_led_ring : List Str := ["move", "ring", "flag", "step", "p"]
theorem sc_led_ring : FnScope n_led_ring ["move"] (defScope s_led_ring) := ⟨rfl, rfl, rfl, by decide +kernel, rfl, by decide +kernel, by decide +kernel⟩
theorem ok_led_ring (T : Txt K mg) : FnOk P w K mg base CX0 4 T.A_led_ring T.D_led_ring ["move"] (sp_led_ring K) := by
  refine Fun.ok T.F_led_ring sc_led_ring (fun vs H Q E h => ?_) (fun cdv A outer s H vs Q E hr h => ?_)
  · obtain ⟨X, a_move, r, hm, c, kont⟩ := h
    exact c.len
  · obtain ⟨X, a_move, r, hm, c, kont⟩ := h
    refine ⟨_, (pss_cons (ps_asg (pv 0) (pg_tup rfl (pgs_cons (pg_name (i := 1) sc_led_ring.nd rfl (Or.inl rfl)) (pgs_cons (pg_name (i := 2) sc_led_ring.nd rfl (Or.inl rfl)) (pgs_cons (pg_name (i := 3) sc_led_ring.nd rfl (Or.inr rfl)) pgs_nil)))))
      (pss_cons (ps_if (pt_val (pv 2)) (pss_one (ps_ret (pe_lc (own := [("p", 4)]) (g := gName 4) (tt := tYes) rfl sc_led_ring.nd (pi_list (pv 1)) (blkOk_by (N := n_led_ring) (sc := defScope s_led_ring) (by decide +kernel)) (fun _ _ _ _ _ => (pg_name (i := 4) sc_led_ring.nd rfl (Or.inl rfl))) (fun _ _ _ _ _ => pts_nil) (fun _ _ _ _ _ => (pe_call (ok_slid T) hr (by rfl) T.g_slid T.F_slid.kp T.b_slid .nil pass0 (pa_cons (pe_call (ok_turned T) (hr.mono (by decide)) (by rfl) T.g_turned T.F_turned.kp T.b_turned .nil pass0 (pa_cons (pv 4) pa_nil)) (pa_cons (pv 3) pa_nil))))))) pss_nil)
      (pss_one (ps_ret (pe_lc (own := [("p", 4)]) (g := gName 4) (tt := tYes) rfl sc_led_ring.nd (pi_list (pv 1)) (blkOk_by (N := n_led_ring) (sc := defScope s_led_ring) (by decide +kernel)) (fun _ _ _ _ _ => (pg_name (i := 4) sc_led_ring.nd rfl (Or.inl rfl))) (fun _ _ _ _ _ => pts_nil) (fun _ _ _ _ _ => (pe_call (ok_slid T) hr (by rfl) T.g_slid T.F_slid.kp T.b_slid .nil pass0 (pa_cons (pv 4) (pa_cons (pv 3) pa_nil))))))))), ?_⟩
    have L0 : Lo ⟨K, X, H, muts [.imm (enc (a_move : (T3 (List (T3 Int Int Int)) Bool (T3 Int Int Int))))], n_led_ring.length⟩ X H (L2.start n_led_ring vs) [.imm (enc (a_move : (T3 (List (T3 Int Int Int)) Bool (T3 Int Int Int)))), .unk, .unk, .unk, .unk] := c.start n_led_ring (show (1 : Nat) ≤ 5 by decide)
    unfold m_led_ring at hm
    refine x_seq (x_asg (x_vd (d := (enc (a_move : (T3 (List (T3 Int Int Int)) Bool (T3 Int Int Int))))) L0 rfl fun v1 r1 => x_gTup r1 rfl fun vs1 rs1 => x_gCons rs1 fun v2 _ r2 rs2 => x_set (d := (enc (a_move.a : (List (T3 Int Int Int))))) (Γ' := [.imm (enc (a_move : (T3 (List (T3 Int Int Int)) Bool (T3 Int Int Int)))), .imm (enc (a_move.a : (List (T3 Int Int Int)))), .unk, .unk, .unk]) L0 r2 (show (1 : Nat) < 5 by decide) rfl fun _ L1 => x_gCons rs2 fun v3 _ r3 rs3 => x_set (d := (.bool a_move.b)) (Γ' := [.imm (enc (a_move : (T3 (List (T3 Int Int Int)) Bool (T3 Int Int Int)))), .imm (enc (a_move.a : (List (T3 Int Int Int)))), .imm (.bool a_move.b), .unk, .unk]) L1 r3 (show (2 : Nat) < 5 by decide) rfl fun _ L2 => x_gCons rs3 fun v4 _ r4 rs4 => x_set (d := (enc (a_move.c : (T3 Int Int Int)))) (Γ' := [.imm (enc (a_move : (T3 (List (T3 Int Int Int)) Bool (T3 Int Int Int)))), .imm (enc (a_move.a : (List (T3 Int Int Int)))), .imm (.bool a_move.b), .imm (enc (a_move.c : (T3 Int Int Int))), .unk]) L2 r4 (show (3 : Nat) < 5 by decide) rfl fun _ L3 => x_gNil rs4 (?_)))
    refine x_seq (x_ifS (x_tB (x_vB (x := a_move.b) L3 rfl (x_kb (x_if hm (fun hm1 => ?_) fun hm1 => ?_)))))
    · exact x_ret (x_lcl (x_vd (d := (enc (a_move.a : (List (T3 Int Int Int))))) L3 rfl fun v5 r5 => obE hm1 fun _ hl1 hm2 => obE hm2 fun ys1 hy1 hm3 => x_lcLN (G := (fun (s1 : Unit) => [.imm (enc (a_move : (T3 (List (T3 Int Int Int)) Bool (T3 Int Int Int)))), .imm (enc (a_move.a : (List (T3 Int Int Int)))), .imm (.bool a_move.b), .imm (enc (a_move.c : (T3 Int Int Int))), .unk])) (s0 := ()) (xs := a_move.a) L3 (fun _ _ => rfl) r5 (mapO_comp hy1) (lenOk_le hl1) (fun x1 s1 _ H1 _ u1 _ _ _ hF1 L4 r6 hn1 hy2 => obE hF1 fun y1 hm4 he1 => x_cName (d := (enc (x1 : (T3 Int Int Int)))) (Γ' := [.imm (enc (a_move : (T3 (List (T3 Int Int Int)) Bool (T3 Int Int Int)))), .imm (enc (a_move.a : (List (T3 Int Int Int)))), .imm (.bool a_move.b), .imm (enc (a_move.c : (T3 Int Int Int))), .imm (enc (x1 : (T3 Int Int Int)))]) L4 r6 (show (4 : Nat) < 5 by decide) rfl fun _ L5 => x_yes (x_call (x_cons (x_call (x_cons (x_vd (d := (enc (x1 : (T3 Int Int Int)))) L5 rfl fun v6 r7 => x_nil (obE hm4 fun z1 hz2 hm5 => mk_turned hz2 (L5.cond0 (.im r7 .nil) rfl) fun v7 _ F1 => k0d L5 F1 fun L6 le1 r8 => x_cons (x_vd (d := (enc (a_move.c : (T3 Int Int Int)))) L6 rfl fun v8 r9 => x_nil (obE hm5 fun z2 hz3 hm6 => mk_slid hz3 (L6.cond0 (.im r8 (.im r9 .nil)) rfl) fun v9 _ F2 => k0d L6 F2 fun L7 le2 r10 => x_cy (G := (fun (s1 : Unit) => [.imm (enc (a_move : (T3 (List (T3 Int Int Int)) Bool (T3 Int Int Int)))), .imm (enc (a_move.a : (List (T3 Int Int Int)))), .imm (.bool a_move.b), .imm (enc (a_move.c : (T3 Int Int Int))), .unk])) (s := s1) (s' := ()) (y := z2) (by cases hm6; cases he1; rfl) hy2 L4 L7 (.i rfl (.i rfl (.i rfl (.i rfl (.i rfl .e))))) r10))))))))) fun p1 _ _ h01 hx1 L8 le3 => x_finP (Q := Q) (ps := (fun (r : (List (T3 Int Int Int))) => [])) (o := fun (r : (List (T3 Int Int Int))) => (ml (r : (List (T3 Int Int Int))))) (e := ys1) hm3 kont (L8.finT (p := p1) (i := 5) (o := (ml (ys1 : (List (T3 Int Int Int))))) hp0 rfl h01)))
    · refine x_next ?_
      exact x_ret (x_lcl (x_vd (d := (enc (a_move.a : (List (T3 Int Int Int))))) L3 rfl fun v10 r11 => obE hm1 fun _ hl2 hm7 => obE hm7 fun ys2 hy3 hm8 => x_lcLN (G := (fun (s2 : Unit) => [.imm (enc (a_move : (T3 (List (T3 Int Int Int)) Bool (T3 Int Int Int)))), .imm (enc (a_move.a : (List (T3 Int Int Int)))), .imm (.bool a_move.b), .imm (enc (a_move.c : (T3 Int Int Int))), .unk])) (s0 := ()) (xs := a_move.a) L3 (fun _ _ => rfl) r11 (mapO_comp hy3) (lenOk_le hl2) (fun x2 s2 _ H2 _ u2 _ _ _ hF2 L10 r12 hn2 hy4 => obE hF2 fun y2 hm9 he2 => x_cName (d := (enc (x2 : (T3 Int Int Int)))) (Γ' := [.imm (enc (a_move : (T3 (List (T3 Int Int Int)) Bool (T3 Int Int Int)))), .imm (enc (a_move.a : (List (T3 Int Int Int)))), .imm (.bool a_move.b), .imm (enc (a_move.c : (T3 Int Int Int))), .imm (enc (x2 : (T3 Int Int Int)))]) L10 r12 (show (4 : Nat) < 5 by decide) rfl fun _ L11 => x_yes (x_call (x_cons (x_vd (d := (enc (x2 : (T3 Int Int Int)))) L11 rfl fun v11 r13 => x_cons (x_vd (d := (enc (a_move.c : (T3 Int Int Int)))) L11 rfl fun v12 r14 => x_nil (obE hm9 fun z3 hz5 hm10 => mk_slid hz5 (L11.cond0 (.im r13 (.im r14 .nil)) rfl) fun v13 _ F3 => k0d L11 F3 fun L12 le4 r15 => x_cy (G := (fun (s2 : Unit) => [.imm (enc (a_move : (T3 (List (T3 Int Int Int)) Bool (T3 Int Int Int)))), .imm (enc (a_move.a : (List (T3 Int Int Int)))), .imm (.bool a_move.b), .imm (enc (a_move.c : (T3 Int Int Int))), .unk])) (s := s2) (s' := ()) (y := z3) (by cases hm10; cases he2; rfl) hy4 L10 L12 (.i rfl (.i rfl (.i rfl (.i rfl (.i rfl .e))))) r15)))))) fun p2 _ _ h02 hx2 L13 le5 => x_finP (Q := Q) (ps := (fun (r : (List (T3 Int Int Int))) => [])) (o := fun (r : (List (T3 Int Int Int))) => (ml (r : (List (T3 Int Int Int))))) (e := ys2) hm8 kont (L13.finT (p := p2) (i := 5) (o := (ml (ys2 : (List (T3 Int Int Int))))) hp0 rfl h02)))
abbrev sp_is_plan (K : PySem.W.Frag) : Sp := fun vs H Q _ => ∃ (X : Addr → Prop)  (a_one : (List (List (T3 Int Int Int)))) (a_other : (List (List (T3 Int Int Int)))) (a_moves : (List (T3 (List (T3 Int Int Int)) Bool (T3 Int Int Int)))) (a_turning : Bool) (r : Bool), m_is_plan a_one a_other a_moves a_turning = some r ∧ Cond K X H [.imm (enc (a_one : (List (List (T3 Int Int Int))))), .imm (enc (a_other : (List (List (T3 Int Int Int))))), .imm (enc (a_moves : (List (T3 (List (T3 Int Int Int)) Bool (T3 Int Int Int))))), .imm (.bool a_turning)] vs ∧ ∀ H', Fin K X H [] [] (.imm (.bool r)) (.bl r) H' → Q (.bl r) H'
theorem mk_is_plan {K : PySem.W.Frag} {X : Addr → Prop} {H : Hp} {vs : List V} {Q : VK} {E : XK}  {a_one : (List (List (T3 Int Int Int)))} {a_other : (List (List (T3 Int Int Int)))} {a_moves : (List (T3 (List (T3 Int Int Int)) Bool (T3 Int Int Int)))} {a_turning : Bool} {r : Bool} (hm : m_is_plan a_one a_other a_moves a_turning = some r) (c : Cond K X H [.imm (enc (a_one : (List (List (T3 Int Int Int))))), .imm (enc (a_other : (List (List (T3 Int Int Int))))), .imm (enc (a_moves : (List (T3 (List (T3 Int Int Int)) Bool (T3 Int Int Int))))), .imm (.bool a_turning)] vs) (k : ∀ H', Fin K X H [] [] (.imm (.bool r)) (.bl r) H' → Q (.bl r) H') : sp_is_plan K vs H Q E := ⟨X, a_one, a_other, a_moves, a_turning, r, hm, c, k⟩
abbrev n_is_plan : List Str := ["one", "other", "moves", "turning", "ring", "flag", "step", "move"]
theorem sc_is_plan : FnScope n_is_plan ["one", "other", "moves", "turning"] (defScope s_is_plan) := ⟨rfl, rfl, rfl, by decide +kernel, rfl, by decide +kernel, by decide +kernel⟩
theorem ok_is_plan (T : Txt K mg) : FnOk P w K mg base CX0 6 T.A_is_plan T.D_is_plan ["one", "other", "moves", "turning"] (sp_is_plan K) := by
  refine Fun.ok T.F_is_plan sc_is_plan (fun vs H Q E h => ?_) (fun cdv A outer s H vs Q E hr h => ?_)
  · obtain ⟨X, a_one, a_other, a_moves, a_turning, r, hm, c, kont⟩ := h
    exact c.len
  · obtain ⟨X, a_one, a_other, a_moves, a_turning, r, hm, c, kont⟩ := h
    refine ⟨_, (pss_cons (ps_for PassesOwn.never rfl (pi_list (pv 2)) (pg_tup rfl (pgs_cons (pg_name (i := 4) sc_is_plan.nd rfl (Or.inl rfl)) (pgs_cons (pg_name (i := 5) sc_is_plan.nd rfl (Or.inl rfl)) (pgs_cons (pg_name (i := 6) sc_is_plan.nd rfl (Or.inl rfl)) pgs_nil)))) (pss_one (ps_if (PW.pt (pw_or (pt_cmpR op_ne (pe_callB (r := rLenX K) call_lenX (by rfl) T.z_len (by decide +kernel) (pa_cons (pv 4) pa_nil)) pe_int (nomark _)) (pw_or (pt_cmpR op_ne (pe_call (ok_side T) (hr.mono (by decide)) (by rfl) T.g_side T.F_side.kp T.b_side .nil pass0 (pa_cons (pe_ix (r := rIxL K) ix_list (pv 4) pe_int (fun _ _ => rfl)) (pa_cons (pe_ix (r := rIxL K) ix_list (pv 4) pe_int (fun _ _ => rfl)) (pa_cons (pe_ix (r := rIxL K) ix_list (pv 4) pe_int (fun _ _ => rfl)) pa_nil)))) pe_int (nomark _)) (pw_or1 (PW.pt (pw_and (pt_val (pv 5)) (pw_and1 (pt_not (pt_val (pv 3)))))))))) (pss_one (ps_ret pe_bl)) pss_nil)))
      (pss_cons (ps_if (pt_not (pt_val (pe_call (ok_parts_cloth T) hr (by rfl) T.g_parts_cloth T.F_parts_cloth.kp T.b_parts_cloth .nil pass0 (pa_cons (pe_lc (own := [("move", 7)]) (g := gName 7) (tt := tYes) rfl sc_is_plan.nd (pi_list (pv 2)) (blkOk_by (N := n_is_plan) (sc := defScope s_is_plan) (by decide +kernel)) (fun _ _ _ _ _ => (pg_name (i := 7) sc_is_plan.nd rfl (Or.inl rfl))) (fun _ _ _ _ _ => pts_nil) (fun _ _ _ _ _ => (pe_ix (r := rIxT K) ix_tup (pv 7) pe_int (fun _ _ => rfl)))) (pa_cons (pv 0) pa_nil))))) (pss_one (ps_ret pe_bl)) pss_nil)
      (pss_one (ps_ret (pe_call (ok_parts_cloth T) hr (by rfl) T.g_parts_cloth T.F_parts_cloth.kp T.b_parts_cloth .nil pass0 (pa_cons (pe_lc (own := [("move", 7)]) (g := gName 7) (tt := tYes) rfl sc_is_plan.nd (pi_list (pv 2)) (blkOk_by (N := n_is_plan) (sc := defScope s_is_plan) (by decide +kernel)) (fun _ _ _ _ _ => (pg_name (i := 7) sc_is_plan.nd rfl (Or.inl rfl))) (fun _ _ _ _ _ => pts_nil) (fun _ _ _ _ _ => (pe_call (ok_led_ring T) (hr.mono (by decide)) (by rfl) T.g_led_ring T.F_led_ring.kp T.b_led_ring .nil pass0 (pa_cons (pv 7) pa_nil)))) (pa_cons (pv 1) pa_nil))))))), ?_⟩
    have L0 : Lo ⟨K, X, H, muts [.imm (enc (a_one : (List (List (T3 Int Int Int))))), .imm (enc (a_other : (List (List (T3 Int Int Int))))), .imm (enc (a_moves : (List (T3 (List (T3 Int Int Int)) Bool (T3 Int Int Int))))), .imm (.bool a_turning)], n_is_plan.length⟩ X H (L2.start n_is_plan vs) [.imm (enc (a_one : (List (List (T3 Int Int Int))))), .imm (enc (a_other : (List (List (T3 Int Int Int))))), .imm (enc (a_moves : (List (T3 (List (T3 Int Int Int)) Bool (T3 Int Int Int))))), .imm (.bool a_turning), .unk, .unk, .unk, .unk] := c.start n_is_plan (show (4 : Nat) ≤ 8 by decide)
    unfold m_is_plan at hm
    refine x_seq (x_tforL (x_vd (d := (enc (a_moves : (List (T3 (List (T3 Int Int Int)) Bool (T3 Int Int Int)))))) L0 rfl fun v1 r1 => x_flL (G := (fun (s1 : Unit) => [.imm (enc (a_one : (List (List (T3 Int Int Int))))), .imm (enc (a_other : (List (List (T3 Int Int Int))))), .imm (enc (a_moves : (List (T3 (List (T3 Int Int Int)) Bool (T3 Int Int Int))))), .imm (.bool a_turning), .unk, .unk, .unk, .unk])) (s0 := ()) (xs := a_moves) (ps := (fun (r : Bool) => [])) (rs := (fun (r : Bool) => (.imm (.bool r)))) (L0.weak (Γ' := [.imm (enc (a_one : (List (List (T3 Int Int Int))))), .imm (enc (a_other : (List (List (T3 Int Int Int))))), .imm (enc (a_moves : (List (T3 (List (T3 Int Int Int)) Bool (T3 Int Int Int))))), .imm (.bool a_turning), .unk, .unk, .unk, .unk]) (.k (.k (.k (.k (.k (.k (.k (.k .e))))))))) (fun _ _ => rfl) r1 hm (fun x1 s1 H1 _ u1 _ _ _ _ _ hm1 L1 r2 hN1 hC1 hB1 hR1 => ?_) (fun s2 _ _ hm2 L2 => ?_) (fun _ _ _ hm3 F1 => x_finRB (Q := Q) (ps := (fun (r : Bool) => [])) (sc := fun (r : Bool) => r) hm3 kont F1)))
    · refine x_gTup r2 rfl fun vs1 rs1 => x_gCons rs1 fun v2 _ r3 rs2 => x_set (d := (enc (x1.a : (List (T3 Int Int Int))))) (Γ' := [.imm (enc (a_one : (List (List (T3 Int Int Int))))), .imm (enc (a_other : (List (List (T3 Int Int Int))))), .imm (enc (a_moves : (List (T3 (List (T3 Int Int Int)) Bool (T3 Int Int Int))))), .imm (.bool a_turning), .imm (enc (x1.a : (List (T3 Int Int Int)))), .unk, .unk, .unk]) L1 r3 (show (4 : Nat) < 8 by decide) rfl fun _ L3 => x_gCons rs2 fun v3 _ r4 rs3 => x_set (d := (.bool x1.b)) (Γ' := [.imm (enc (a_one : (List (List (T3 Int Int Int))))), .imm (enc (a_other : (List (List (T3 Int Int Int))))), .imm (enc (a_moves : (List (T3 (List (T3 Int Int Int)) Bool (T3 Int Int Int))))), .imm (.bool a_turning), .imm (enc (x1.a : (List (T3 Int Int Int)))), .imm (.bool x1.b), .unk, .unk]) L3 r4 (show (5 : Nat) < 8 by decide) rfl fun _ L4 => x_gCons rs3 fun v4 _ r5 rs4 => x_set (d := (enc (x1.c : (T3 Int Int Int)))) (Γ' := [.imm (enc (a_one : (List (List (T3 Int Int Int))))), .imm (enc (a_other : (List (List (T3 Int Int Int))))), .imm (enc (a_moves : (List (T3 (List (T3 Int Int Int)) Bool (T3 Int Int Int))))), .imm (.bool a_turning), .imm (enc (x1.a : (List (T3 Int Int Int)))), .imm (.bool x1.b), .imm (enc (x1.c : (T3 Int Int Int))), .unk]) L4 r5 (show (6 : Nat) < 8 by decide) rfl fun _ L5 => x_gNil rs4 (?_)
      refine x_ifS (x_or (x_test (x_op (x_cb (x_cons (x_vd (d := (enc (x1.a : (List (T3 Int Int Int))))) L5 rfl fun v5 r6 => x_nil (x_lenL (xs := x1.a) r6 (x_c (x_nei (x_kb (x_orB L5 hm1 (fun _ hm8 _ hq => x_or (x_test (x_op (x_call (x_cons (x_op (x_vd (d := (enc (x1.a : (List (T3 Int Int Int))))) L5 rfl fun v13 r13 => x_c (x_ixL (xs := x1.a) hm8 r13 fun x5 v14 _ hm9 r14 => x_cons (x_op (x_vd (d := (enc (x1.a : (List (T3 Int Int Int))))) L5 rfl fun v15 r15 => x_c (x_ixL (xs := x1.a) hm9 r15 fun x6 v16 _ hm10 r16 => x_cons (x_op (x_vd (d := (enc (x1.a : (List (T3 Int Int Int))))) L5 rfl fun v17 r17 => x_c (x_ixL (xs := x1.a) hm10 r17 fun x7 v18 _ hm11 r18 => x_nil (obE hm11 fun z2 hz2 hm12 => mk_side hz2 (L5.cond0 (.im r14 (.im r16 (.im r18 .nil))) rfl) fun _ F3 => k0 L5 F3 fun L7 le2 => x_c (x_nei (x_kb (x_orP (B := (x1.b && (!a_turning))) (fun _ hq => x_and (x_tB (x_vB (x := x1.b) L7 rfl (x_kb (x_andP (B := (!a_turning)) (fun _ hq => x_not (x_tB (x_vB (x := a_turning) L7 rfl (x_kb (x_kn (hq)))))) (hq)))))) (x_lfT hm12 hq L7))))))))))))))))))) fun b1 _ hm13 L8 => x_if hm13 (fun hm14 => ?_) fun hm14 => ?_)))))))))))
      · exact x_ret (x_c (x_leafR (ps := (fun (r : Bool) => [])) (rs := (fun (r : Bool) => (.imm (.bool r)))) (e := false) hm14 hR1 (L8.fin hp0 (.bl _))))
      · refine x_next ?_
        exact x_leafN (G := (fun (s1 : Unit) => [.imm (enc (a_one : (List (List (T3 Int Int Int))))), .imm (enc (a_other : (List (List (T3 Int Int Int))))), .imm (enc (a_moves : (List (T3 (List (T3 Int Int Int)) Bool (T3 Int Int Int))))), .imm (.bool a_turning), .unk, .unk, .unk, .unk])) (e := ()) hm14 hN1 (L8.weak (Γ' := [.imm (enc (a_one : (List (List (T3 Int Int Int))))), .imm (enc (a_other : (List (List (T3 Int Int Int))))), .imm (enc (a_moves : (List (T3 (List (T3 Int Int Int)) Bool (T3 Int Int Int))))), .imm (.bool a_turning), .unk, .unk, .unk, .unk]) (.k (.k (.k (.k (.d (.d (.d (.k .e)))))))))
    refine x_seq (x_ifS (x_not (x_tB (x_call (x_cons (x_lcl (x_vd (d := (enc (a_moves : (List (T3 (List (T3 Int Int Int)) Bool (T3 Int Int Int)))))) L2 rfl fun v20 r19 => obE hm2 fun _ hl1 hm15 => obE hm15 fun ys1 hy1 hm16 => x_lcL (G := (fun (s4 : Unit) => [.imm (enc (a_one : (List (List (T3 Int Int Int))))), .imm (enc (a_other : (List (List (T3 Int Int Int))))), .imm (enc (a_moves : (List (T3 (List (T3 Int Int Int)) Bool (T3 Int Int Int))))), .imm (.bool a_turning), .unk, .unk, .unk, .unk])) (s0 := ()) (xs := a_moves) L2 (fun _ _ => rfl) r19 (mapO_comp hy1) (lenOk_le hl1) (fun x8 s4 _ H2 _ u2 _ _ _ hF1 L9 r20 hn1 hy2 => obE hF1 fun y1 hm17 he1 => x_cName (d := (enc (x8 : (T3 (List (T3 Int Int Int)) Bool (T3 Int Int Int))))) (Γ' := [.imm (enc (a_one : (List (List (T3 Int Int Int))))), .imm (enc (a_other : (List (List (T3 Int Int Int))))), .imm (enc (a_moves : (List (T3 (List (T3 Int Int Int)) Bool (T3 Int Int Int))))), .imm (.bool a_turning), .unk, .unk, .unk, .imm (enc (x8 : (T3 (List (T3 Int Int Int)) Bool (T3 Int Int Int))))]) L9 r20 (show (7 : Nat) < 8 by decide) rfl fun _ L10 => x_yes (x_op (x_vd (d := (enc (x8 : (T3 (List (T3 Int Int Int)) Bool (T3 Int Int Int))))) L10 rfl fun v21 r21 => x_c (x_ixT (d := (enc (x8.a : (List (T3 Int Int Int))))) r21 rfl fun v22 r22 => x_cy (G := (fun (s4 : Unit) => [.imm (enc (a_one : (List (List (T3 Int Int Int))))), .imm (enc (a_other : (List (List (T3 Int Int Int))))), .imm (enc (a_moves : (List (T3 (List (T3 Int Int Int)) Bool (T3 Int Int Int))))), .imm (.bool a_turning), .unk, .unk, .unk, .unk])) (s := s4) (s' := ()) (y := x8.a) (by cases hm17; cases he1; rfl) hy2 L9 L10 (.i rfl (.i rfl (.i rfl (.i rfl (.i rfl (.i rfl (.i rfl (.i rfl .e)))))))) r22)))) fun p1 _ L11 le3 r23 => have L12 : Lo _ _ _ _ [.imm (enc (a_one : (List (List (T3 Int Int Int))))), .imm (enc (a_other : (List (List (T3 Int Int Int))))), .imm (enc (a_moves : (List (T3 (List (T3 Int Int Int)) Bool (T3 Int Int Int))))), .imm (.bool a_turning), .unk, .unk, .unk, .unk] := L11; have r24 : Rep _ _ _ (enc (ys1 : (List (List (T3 Int Int Int))))) (.ref p1) := r23; x_cons (x_vd (d := (enc (a_one : (List (List (T3 Int Int Int)))))) L12 rfl fun v23 r25 => x_nil (obE hm16 fun z3 hz4 hm18 => mk_parts_cloth hz4 (L12.cond0 (.im r24 (.im r25 .nil)) rfl) fun _ F4 => k0 L12 F4 fun L13 le4 => x_kb (x_kn (x_if hm18 (fun hm19 => ?_) fun hm19 => ?_)))))))))))
    · exact x_ret (x_c (x_finB (Q := Q) (ps := (fun (r : Bool) => [])) (sc := fun (r : Bool) => r) false hm19 kont (L13.fin hp0 (.bl _))))
    · refine x_next ?_
      exact x_ret (x_call (x_cons (x_lcl (x_vd (d := (enc (a_moves : (List (T3 (List (T3 Int Int Int)) Bool (T3 Int Int Int)))))) L13 rfl fun v25 r26 => obE hm19 fun _ hl2 hm20 => obE hm20 fun ys2 hy3 hm21 => x_lcL (G := (fun (s5 : Unit) => [.imm (enc (a_one : (List (List (T3 Int Int Int))))), .imm (enc (a_other : (List (List (T3 Int Int Int))))), .imm (enc (a_moves : (List (T3 (List (T3 Int Int Int)) Bool (T3 Int Int Int))))), .imm (.bool a_turning), .unk, .unk, .unk, .unk])) (s0 := ()) (xs := a_moves) L13 (fun _ _ => rfl) r26 (mapO_comp hy3) (lenOk_le hl2) (fun x9 s5 _ H3 _ u3 _ _ _ hF2 L14 r27 hn2 hy4 => obE hF2 fun y2 hm22 he2 => x_cName (d := (enc (x9 : (T3 (List (T3 Int Int Int)) Bool (T3 Int Int Int))))) (Γ' := [.imm (enc (a_one : (List (List (T3 Int Int Int))))), .imm (enc (a_other : (List (List (T3 Int Int Int))))), .imm (enc (a_moves : (List (T3 (List (T3 Int Int Int)) Bool (T3 Int Int Int))))), .imm (.bool a_turning), .unk, .unk, .unk, .imm (enc (x9 : (T3 (List (T3 Int Int Int)) Bool (T3 Int Int Int))))]) L14 r27 (show (7 : Nat) < 8 by decide) rfl fun _ L15 => x_yes (x_call (x_cons (x_vd (d := (enc (x9 : (T3 (List (T3 Int Int Int)) Bool (T3 Int Int Int))))) L15 rfl fun v26 r28 => x_nil (obE hm22 fun z4 hz6 hm23 => mk_led_ring hz6 (L15.cond0 (.im r28 .nil) rfl) fun p2 _ F5 => k0i L15 F5 fun L16 le5 r29 => have r30 : Rep _ _ _ (enc (z4 : (List (T3 Int Int Int)))) (.ref p2) := r29; x_cy (G := (fun (s5 : Unit) => [.imm (enc (a_one : (List (List (T3 Int Int Int))))), .imm (enc (a_other : (List (List (T3 Int Int Int))))), .imm (enc (a_moves : (List (T3 (List (T3 Int Int Int)) Bool (T3 Int Int Int))))), .imm (.bool a_turning), .unk, .unk, .unk, .unk])) (s := s5) (s' := ()) (y := z4) (by cases hm23; cases he2; rfl) hy4 L14 L16 (.i rfl (.i rfl (.i rfl (.i rfl (.i rfl (.i rfl (.i rfl (.i rfl .e)))))))) r30))))) fun p3 _ L17 le6 r31 => have L18 : Lo _ _ _ _ [.imm (enc (a_one : (List (List (T3 Int Int Int))))), .imm (enc (a_other : (List (List (T3 Int Int Int))))), .imm (enc (a_moves : (List (T3 (List (T3 Int Int Int)) Bool (T3 Int Int Int))))), .imm (.bool a_turning), .unk, .unk, .unk, .unk] := L17; have r32 : Rep _ _ _ (enc (ys2 : (List (List (T3 Int Int Int))))) (.ref p3) := r31; x_cons (x_vd (d := (enc (a_other : (List (List (T3 Int Int Int)))))) L18 rfl fun v27 r33 => x_nil (obE hm21 fun z5 hz7 hm24 => mk_parts_cloth hz7 (L18.cond0 (.im r32 (.im r33 .nil)) rfl) fun _ F6 => k0 L18 F6 fun L19 le7 => x_finB (Q := Q) (ps := (fun (r : Bool) => [])) (sc := fun (r : Bool) => r) z5 hm24 kont (L19.fin hp0 (.bl _))))))))
abbrev sp_law (K : PySem.W.Frag) : Sp := fun vs H Q _ => ∃ (X : Addr → Prop)  (a__law_script : (List Int)) (r : Bool), m_law a__law_script = some r ∧ Cond K X H [.scr a__law_script] vs ∧ ∀ H', Fin K X H [] [] (.imm (.bool r)) (.bl r) H' → Q (.bl r) H'
theorem mk_law {K : PySem.W.Frag} {X : Addr → Prop} {H : Hp} {vs : List V} {Q : VK} {E : XK}  {a__law_script : (List Int)} {r : Bool} (hm : m_law a__law_script = some r) (c : Cond K X H [.scr a__law_script] vs) (k : ∀ H', Fin K X H [] [] (.imm (.bool r)) (.bl r) H' → Q (.bl r) H') : sp_law K vs H Q E := ⟨X, a__law_script, r, hm, c, k⟩
abbrev n_law : List Str := ["_law_script", "_law_one", "_law_bag_here", "_law_rings", "_law_moves", "_law_other", "_law_k", "_law_bad", "_law_lift", "_law_away", "_law_move", "_law_p"]
theorem sc_law : FnScope n_law ["_law_script"] (defScope s_law) := ⟨rfl, rfl, rfl, by decide +kernel, rfl, by decide +kernel, by decide +kernel⟩
theorem ok_law (T : Txt K mg) : FnOk P w K mg base CX0 7 T.A_law T.D_law ["_law_script"] (sp_law K) := by
  refine Fun.ok T.F_law sc_law (fun vs H Q E h => ?_) (fun cdv A outer s H vs Q E hr h => ?_)
  · obtain ⟨X, a__law_script, r, hm, c, kont⟩ := h
    exact c.len
  · obtain ⟨X, a__law_script, r, hm, c, kont⟩ := h
    refine ⟨_, (pss_cons (ps_set (i := 1) sc_law.nd rfl (Or.inl rfl) (pe_lst (pa_cons (pe_call (ok__law_bulging T) (hr.mono (by decide)) (by rfl) T.g__law_bulging T.F__law_bulging.kp T.b__law_bulging .nil pass0 (pa_cons (pe_call (ok__law_bag T) (hr.mono (by decide)) (by rfl) T.g__law_bag T.F__law_bag.kp T.b__law_bag .nil pass0 (pa_cons (pe_call (ok__law_cell T) (hr.mono (by decide)) (by rfl) T.g__law_cell T.F__law_cell.kp T.b__law_cell .nil pass0 (pa_cons (pv 0) (pa_cons pe_int pa_nil))) pa_nil)) (pa_cons pe_int pa_nil))) pa_nil)))
      (pss_cons (ps_set (i := 2) sc_law.nd rfl (Or.inl rfl) (pe_call (ok__law_bag T) (hr.mono (by decide)) (by rfl) T.g__law_bag T.F__law_bag.kp T.b__law_bag .nil pass0 (pa_cons (pe_call (ok__law_cell T) (hr.mono (by decide)) (by rfl) T.g__law_cell T.F__law_cell.kp T.b__law_cell .nil pass0 (pa_cons (pv 0) (pa_cons pe_int pa_nil))) pa_nil)))
      (pss_cons (ps_set (i := 3) sc_law.nd rfl (Or.inl rfl) (pe_call (ok__law_parted T) (hr.mono (by decide)) (by rfl) T.g__law_parted T.F__law_parted.kp T.b__law_parted .nil pass0 (pa_cons (pe_call (ok__law_fan T) (hr.mono (by decide)) (by rfl) T.g__law_fan T.F__law_fan.kp T.b__law_fan .nil pass0 (pa_cons (pe_ix (r := rIxL K) ix_list (pv 1) pe_int (fun _ _ => rfl)) (pa_cons (pv 2) pa_nil))) (pa_cons (pv 2) (pa_cons (pe_call (ok__law_digit T) (hr.mono (by decide)) (by rfl) T.g__law_digit T.F__law_digit.kp T.b__law_digit .nil pass0 (pa_cons (pv 2) (pa_cons pe_int pa_nil))) pa_nil)))))
      (pss_cons (ps_set (i := 4) sc_law.nd rfl (Or.inl rfl) (pe_call (ok__law_spread T) (hr.mono (by decide)) (by rfl) T.g__law_spread T.F__law_spread.kp T.b__law_spread .nil pass0 (pa_cons (pv 3) (pa_cons (pv 2) (pa_cons pe_bl pa_nil)))))
      (pss_cons (ps_setLc (i := 5) (own := [("_law_move", 10)])  (g := gName 10) (tt := tYes) rfl sc_law.nd rfl rfl (sw_true rfl rfl rfl (by decide +kernel)) (pi_list (pv 4)) (blkOk_by (N := n_law) (sc := defScope s_law) (by decide +kernel)) (fun _ _ _ _ _ => (pg_name (i := 10) sc_law.nd rfl (Or.inl rfl))) (fun _ _ _ _ _ => pts_nil) (fun _ _ _ _ _ => (pe_call (ok__law_led_ring T) (hr.mono (by decide)) (by rfl) T.g__law_led_ring T.F__law_led_ring.kp T.b__law_led_ring .nil pass0 (pa_cons (pv 10) pa_nil))))
      (pss_cons (ps_for PassesOwn.never rfl (pi_range1 (by rfl) T.z_range (pa_cons pe_int pa_nil)) (pg_name (i := 6) sc_law.nd rfl (Or.inl rfl)) (pss_cons (ps_set (i := 7) sc_law.nd rfl (Or.inl rfl) (pe_call (ok__law_spoiled T) (hr.mono (by decide)) (by rfl) T.g__law_spoiled T.F__law_spoiled.kp T.b__law_spoiled .nil pass0 (pa_cons (pv 4) (pa_cons (pv 2) pa_nil))))
      (pss_cons (ps_if (PW.pt (pw_or (pt_val (pe_call (ok_is_plan T) hr (by rfl) T.g_is_plan T.F_is_plan.kp T.b_is_plan .nil pass0 (pa_cons (pv 1) (pa_cons (pv 5) (pa_cons (pe_call (ok__law_copy T) (hr.mono (by decide)) (by rfl) T.g__law_copy T.F__law_copy.kp T.b__law_copy .nil pass0 (pa_cons (pv 7) pa_nil)) (pa_cons pe_bl pa_nil)))))) (pw_or1 (pt_val (pe_call (ok_is_plan T) hr (by rfl) T.g_is_plan T.F_is_plan.kp T.b_is_plan .nil pass0 (pa_cons (pv 1) (pa_cons (pv 5) (pa_cons (pe_call (ok__law_copy T) (hr.mono (by decide)) (by rfl) T.g__law_copy T.F__law_copy.kp T.b__law_copy .nil pass0 (pa_cons (pv 7) pa_nil)) (pa_cons pe_bl pa_nil))))))))) (pss_one (ps_ret pe_bl)) pss_nil)
      (pss_one (ps_if (pt_cmpR op_notBX (pe_call (ok_is_plan T) hr (by rfl) T.g_is_plan T.F_is_plan.kp T.b_is_plan .nil pass0 (pa_cons (pv 1) (pa_cons (pv 5) (pa_cons (pv 4) (pa_cons pe_bl pa_nil))))) pe_bl (nomark _)) (pss_one (ps_ret pe_bl)) pss_nil)))))
      (pss_cons (ps_set (i := 6) sc_law.nd rfl (Or.inl rfl) (pe_call (ok__law_digit T) (hr.mono (by decide)) (by rfl) T.g__law_digit T.F__law_digit.kp T.b__law_digit .nil pass0 (pa_cons (pv 2) (pa_cons (pe_callB (r := rLenX K) call_lenX (by rfl) T.z_len (by decide +kernel) (pa_cons (pv 5) pa_nil)) pa_nil))))
      (pss_cons (ps_if (pt_val (pe_call (ok_is_plan T) hr (by rfl) T.g_is_plan T.F_is_plan.kp T.b_is_plan .nil pass0 (pa_cons (pv 1) (pa_cons (pe_op op_catR (pe_slice (r := rSlL K) sl_list (pv 5) po_none (po_some (pv 6))) (pe_slice (r := rSlL K) sl_list (pv 5) (po_some (pe_op op_add (pv 6) pe_int)) po_none)) (pa_cons (pv 4) (pa_cons pe_bl pa_nil)))))) (pss_one (ps_ret pe_bl)) pss_nil)
      (pss_cons (ps_set (i := 8) sc_law.nd rfl (Or.inr rfl) (pe_op op_add pe_int (pe_call (ok__law_digit T) (hr.mono (by decide)) (by rfl) T.g__law_digit T.F__law_digit.kp T.b__law_digit .nil pass0 (pa_cons (pv 2) (pa_cons pe_int pa_nil)))))
      (pss_cons (ps_setLc (i := 9) (own := [("_law_p", 11)])  (g := gName 11) (tt := tYes) rfl sc_law.nd rfl rfl (sw_true rfl rfl rfl (by decide +kernel)) (pi_list (pe_ix (r := rIxL K) ix_list (pv 5) (pv 6) (fun _ _ => rfl))) (blkOk_by (N := n_law) (sc := defScope s_law) (by decide +kernel)) (fun _ _ _ _ _ => (pg_name (i := 11) sc_law.nd rfl (Or.inl rfl))) (fun _ _ _ _ _ => pts_nil) (fun _ _ _ _ _ => (pe_call (ok__law_slid T) (hr.mono (by decide)) (by rfl) T.g__law_slid T.F__law_slid.kp T.b__law_slid .nil pass0 (pa_cons (pv 11) (pa_cons (pe_tup (pa_cons pe_int (pa_cons (pv 8) (pa_cons pe_int pa_nil)))) pa_nil)))))
      (pss_one (ps_ret (pe_not (pe_call (ok_is_plan T) hr (by rfl) T.g_is_plan T.F_is_plan.kp T.b_is_plan .nil pass0 (pa_cons (pv 1) (pa_cons (pe_op op_catR (pe_op op_catR (pe_slice (r := rSlL K) sl_list (pv 5) po_none (po_some (pv 6))) (pe_lst (pa_cons (pv 9) pa_nil))) (pe_slice (r := rSlL K) sl_list (pv 5) (po_some (pe_op op_add (pv 6) pe_int)) po_none)) (pa_cons (pv 4) (pa_cons pe_bl pa_nil)))))))))))))))))), ?_⟩
    have L0 : Lo ⟨K, X, H, muts [.scr a__law_script], n_law.length⟩ X H (L2.start n_law vs) [.scr a__law_script, .unk, .unk, .unk, .unk, .unk, .unk, .unk, .unk, .unk, .unk, .unk] := c.start n_law (show (1 : Nat) ≤ 12 by decide)
    unfold m_law at hm
    refine x_seq (x_asg (x_lst (x_cons (x_call (x_cons (x_call (x_cons (x_call (x_cons (x_vscr L0 rfl fun v1 r1 => x_cons (x_c (x_nil (obE hm fun z1 hz1 hm1 => mk__law_cell hz1 (L0.cond0 (.s r1 (.im (.int _) .nil)) rfl) fun _ F1 => k0 L0 F1 fun L1 le1 => x_nil (obE hm1 fun z2 hz2 hm2 => mk__law_bag hz2 (L1.cond0 (.im (.int _) .nil) rfl) fun p1 _ F2 => k0N L1 F2 fun _ h01 hx1 L2 le2 => x_cons (x_c (x_nil (obE hm2 fun z3 hz3 hm3 => mk__law_bulging hz3 (L2.cond1 (i := 12) (.m (L2.tmp (i := 12) rfl) (.im (.int _) .nil)) rfl rfl rfl) fun v3 _ F3 => k1d L2 F3 (i := 12) (Γ' := [.scr a__law_script, .unk, .unk, .unk, .unk, .unk, .unk, .unk, .unk, .unk, .unk, .unk, .tmp p1 (ml (z3.2 : (List Int)))]) rfl rfl rfl fun L3 le3 r3 => x_nil (x_mkL L3 (.cons r3 .nil) (show (1 : Nat) ≤ 16777216 by decide) fun v4 _ L4 le4 r4 => have r5 : Rep _ _ _ (enc ([z3.1] : (List (List (T3 Int Int Int))))) v4 := r4; x_bset (x0 := [z3.1]) (d := fun one_1 => (enc (one_1 : (List (List (T3 Int Int Int)))))) (Γf := fun one_1 => [.scr a__law_script, .imm (enc (one_1 : (List (List (T3 Int Int Int))))), .unk, .unk, .unk, .unk, .unk, .unk, .unk, .unk, .unk, .unk, .tmp p1 (ml (z3.2 : (List Int)))]) hm3 L4 r5 (show (1 : Nat) < 12 by decide) (fun _ => rfl) fun one_1 _ hm4 L5 => ?_))))))))))))))))))
    have L6 := L5.weak (Γ' := [.scr a__law_script, .imm (enc (one_1 : (List (List (T3 Int Int Int))))), .unk, .unk, .unk, .unk, .unk, .unk, .unk, .unk, .unk, .unk]) (.k (.k (.k (.k (.k (.k (.k (.k (.k (.k (.k (.k .e))))))))))))
    refine x_seq (x_asg (x_call (x_cons (x_call (x_cons (x_vscr L6 rfl fun v5 r6 => x_cons (x_c (x_nil (obE hm4 fun z4 hz4 hm5 => mk__law_cell hz4 (L6.cond0 (.s r6 (.im (.int _) .nil)) rfl) fun _ F4 => k0 L6 F4 fun L7 le5 => x_nil (obE hm5 fun z5 hz5 hm6 => mk__law_bag hz5 (L7.cond0 (.im (.int _) .nil) rfl) fun p2 _ F5 => k0N L7 F5 fun _ h02 hx2 L8 le6 => x_setN (Γ := [.scr a__law_script, .imm (enc (one_1 : (List (List (T3 Int Int Int))))), .unk, .unk, .unk, .unk, .unk, .unk, .unk, .unk, .unk, .unk]) (p := p2) (o := (ml (z5 : (List Int)))) (Γ' := [.scr a__law_script, .imm (enc (one_1 : (List (List (T3 Int Int Int))))), .mu p2 (ml (z5 : (List Int))), .unk, .unk, .unk, .unk, .unk, .unk, .unk, .unk, .unk]) L8 (show (2 : Nat) < 12 by decide) (show (2 : Nat) < 12 by decide) rfl fun _ L9 => ?_))))))))))
    refine x_seq (x_asg (x_call (x_cons (x_call (x_cons (x_op (x_vd (d := (enc (one_1 : (List (List (T3 Int Int Int)))))) L9 rfl fun v7 r8 => x_c (x_ixL (xs := one_1) hm6 r8 fun x1 v8 _ hm7 r9 => x_cons (x_vm L9 rfl (x_nil (obE hm7 fun z6 hz6 hm8 => mk__law_fan hz6 (L9.cond1 (i := 2) (.im r9 (.m (L9.mrep (i := 2) rfl) .nil)) rfl rfl rfl) fun p3 _ F6 => k1i L9 F6 (i := 2) (Γ' := [.scr a__law_script, .imm (enc (one_1 : (List (List (T3 Int Int Int))))), .mu p2 (ml (z6.2 : (List Int))), .unk, .unk, .unk, .unk, .unk, .unk, .unk, .unk, .unk]) rfl rfl rfl fun L10 le7 r10 => have r11 : Rep _ _ _ (enc (z6.1 : (List (List (T3 Int Int Int))))) (.ref p3) := r10; x_cons (x_vm L10 rfl (x_cons (x_call (x_cons (x_vm L10 rfl (x_cons (x_c (x_nil (obE hm8 fun z7 hz7 hm9 => mk__law_digit hz7 (L10.cond1 (i := 2) (.m (L10.mrep (i := 2) rfl) (.im (.int _) .nil)) rfl rfl rfl) fun _ F7 => k1 L10 F7 (i := 2) (Γ' := [.scr a__law_script, .imm (enc (one_1 : (List (List (T3 Int Int Int))))), .mu p2 (ml (z7.2 : (List Int))), .unk, .unk, .unk, .unk, .unk, .unk, .unk, .unk, .unk]) rfl rfl rfl fun L11 le8 => have r12 := le8 _ _ r11; x_nil (obE hm9 fun z8 hz8 hm10 => mk__law_parted hz8 (L11.cond1 (i := 2) (.im r12 (.m (L11.mrep (i := 2) rfl) (.im (.int _) .nil))) rfl rfl rfl) fun v10 _ F8 => k1d L11 F8 (i := 2) (Γ' := [.scr a__law_script, .imm (enc (one_1 : (List (List (T3 Int Int Int))))), .mu p2 (ml (z8.2 : (List Int))), .unk, .unk, .unk, .unk, .unk, .unk, .unk, .unk, .unk]) rfl rfl rfl fun L12 le9 r13 => x_set (d := (enc (z8.1 : (List (List (T3 Int Int Int)))))) (Γ' := [.scr a__law_script, .imm (enc (one_1 : (List (List (T3 Int Int Int))))), .mu p2 (ml (z8.2 : (List Int))), .imm (enc (z8.1 : (List (List (T3 Int Int Int))))), .unk, .unk, .unk, .unk, .unk, .unk, .unk, .unk]) L12 r13 (show (3 : Nat) < 12 by decide) rfl fun _ L13 => ?_)))))))))))))))))))))
    refine x_seq (x_asg (x_call (x_cons (x_vd (d := (enc (z8.1 : (List (List (T3 Int Int Int)))))) L13 rfl fun v11 r14 => x_cons (x_vm L13 rfl (x_cons (x_c (x_nil (obE hm10 fun z9 hz9 hm11 => mk__law_spread hz9 (L13.cond1 (i := 2) (.im r14 (.m (L13.mrep (i := 2) rfl) (.im (.bl _) .nil))) rfl rfl rfl) fun p4 _ F9 => k1i L13 F9 (i := 2) (Γ' := [.scr a__law_script, .imm (enc (one_1 : (List (List (T3 Int Int Int))))), .mu p2 (ml (z9.2 : (List Int))), .imm (enc (z8.1 : (List (List (T3 Int Int Int))))), .unk, .unk, .unk, .unk, .unk, .unk, .unk, .unk]) rfl rfl rfl fun L14 le10 r15 => have r16 : Rep _ _ _ (enc (z9.1 : (List (T3 (List (T3 Int Int Int)) Bool (T3 Int Int Int))))) (.ref p4) := r15; x_set (d := (enc (z9.1 : (List (T3 (List (T3 Int Int Int)) Bool (T3 Int Int Int)))))) (Γ' := [.scr a__law_script, .imm (enc (one_1 : (List (List (T3 Int Int Int))))), .mu p2 (ml (z9.2 : (List Int))), .imm (enc (z8.1 : (List (List (T3 Int Int Int))))), .imm (enc (z9.1 : (List (T3 (List (T3 Int Int Int)) Bool (T3 Int Int Int))))), .unk, .unk, .unk, .unk, .unk, .unk, .unk]) L14 r16 (show (4 : Nat) < 12 by decide) rfl fun _ L15 => ?_)))))))))
    refine x_seq (x_asg (x_lcl (x_vd (d := (enc (z9.1 : (List (T3 (List (T3 Int Int Int)) Bool (T3 Int Int Int)))))) L15 rfl fun v12 r17 => obE hm11 fun _ hl1 hm12 => obE hm12 fun ys1 hy1 hm13 => x_lcL (G := (fun (s1 : Unit) => [.scr a__law_script, .imm (enc (one_1 : (List (List (T3 Int Int Int))))), .mu p2 (ml (z9.2 : (List Int))), .imm (enc (z8.1 : (List (List (T3 Int Int Int))))), .imm (enc (z9.1 : (List (T3 (List (T3 Int Int Int)) Bool (T3 Int Int Int))))), .unk, .unk, .unk, .unk, .unk, .unk, .unk])) (s0 := ()) (xs := z9.1) L15 (fun _ _ => rfl) r17 (mapO_comp hy1) (lenOk_le hl1) (fun x2 s1 _ H1 _ u1 _ _ _ hF1 L16 r18 hn1 hy2 => obE hF1 fun y1 hm14 he1 => x_cName (d := (enc (x2 : (T3 (List (T3 Int Int Int)) Bool (T3 Int Int Int))))) (Γ' := [.scr a__law_script, .imm (enc (one_1 : (List (List (T3 Int Int Int))))), .mu p2 (ml (z9.2 : (List Int))), .imm (enc (z8.1 : (List (List (T3 Int Int Int))))), .imm (enc (z9.1 : (List (T3 (List (T3 Int Int Int)) Bool (T3 Int Int Int))))), .unk, .unk, .unk, .unk, .unk, .imm (enc (x2 : (T3 (List (T3 Int Int Int)) Bool (T3 Int Int Int)))), .unk]) L16 r18 (show (10 : Nat) < 12 by decide) rfl fun _ L17 => x_yes (x_call (x_cons (x_vd (d := (enc (x2 : (T3 (List (T3 Int Int Int)) Bool (T3 Int Int Int))))) L17 rfl fun v13 r19 => x_nil (obE hm14 fun z10 hz11 hm15 => mk__law_led_ring hz11 (L17.cond0 (.im r19 .nil) rfl) fun p5 _ F10 => k0i L17 F10 fun L18 le11 r20 => have r21 : Rep _ _ _ (enc (z10 : (List (T3 Int Int Int)))) (.ref p5) := r20; x_cy (G := (fun (s1 : Unit) => [.scr a__law_script, .imm (enc (one_1 : (List (List (T3 Int Int Int))))), .mu p2 (ml (z9.2 : (List Int))), .imm (enc (z8.1 : (List (List (T3 Int Int Int))))), .imm (enc (z9.1 : (List (T3 (List (T3 Int Int Int)) Bool (T3 Int Int Int))))), .unk, .unk, .unk, .unk, .unk, .unk, .unk])) (s := s1) (s' := ()) (y := z10) (by cases hm15; cases he1; rfl) hy2 L16 L18 (.i rfl (.i rfl (.m (.i rfl (.i rfl (.i rfl (.i rfl (.i rfl (.i rfl (.i rfl (.i rfl (.i rfl .e)))))))))))) r21))))) fun p6 _ L19 le12 r22 => have L20 : Lo _ _ _ _ [.scr a__law_script, .imm (enc (one_1 : (List (List (T3 Int Int Int))))), .mu p2 (ml (z9.2 : (List Int))), .imm (enc (z8.1 : (List (List (T3 Int Int Int))))), .imm (enc (z9.1 : (List (T3 (List (T3 Int Int Int)) Bool (T3 Int Int Int))))), .unk, .unk, .unk, .unk, .unk, .unk, .unk] := L19; have r23 : Rep _ _ _ (enc (ys1 : (List (List (T3 Int Int Int))))) (.ref p6) := r22; x_set (d := (enc (ys1 : (List (List (T3 Int Int Int)))))) (Γ' := [.scr a__law_script, .imm (enc (one_1 : (List (List (T3 Int Int Int))))), .mu p2 (ml (z9.2 : (List Int))), .imm (enc (z8.1 : (List (List (T3 Int Int Int))))), .imm (enc (z9.1 : (List (T3 (List (T3 Int Int Int)) Bool (T3 Int Int Int))))), .imm (enc (ys1 : (List (List (T3 Int Int Int))))), .unk, .unk, .unk, .unk, .unk, .unk]) L20 r23 (show (5 : Nat) < 12 by decide) rfl fun _ L21 => ?_)))
    refine x_seq (x_tforR1 (x_cons (x_c (x_nil (x_r1c (n := 6) (by decide) (x_flR (G := (fun (s2 : (List Int)) => [.scr a__law_script, .imm (enc (one_1 : (List (List (T3 Int Int Int))))), .mu p2 (ml (s2 : (List Int))), .imm (enc (z8.1 : (List (List (T3 Int Int Int))))), .imm (enc (z9.1 : (List (T3 (List (T3 Int Int Int)) Bool (T3 Int Int Int))))), .imm (enc (ys1 : (List (List (T3 Int Int Int))))), .unk, .unk, .unk, .unk, .unk, .unk])) (s0 := z9.2) (ps := (fun (r : Bool) => [])) (rs := (fun (r : Bool) => (.imm (.bool r)))) (L21.weak (Γ' := [.scr a__law_script, .imm (enc (one_1 : (List (List (T3 Int Int Int))))), .mu p2 (ml (z9.2 : (List Int))), .imm (enc (z8.1 : (List (List (T3 Int Int Int))))), .imm (enc (z9.1 : (List (T3 (List (T3 Int Int Int)) Bool (T3 Int Int Int))))), .imm (enc (ys1 : (List (List (T3 Int Int Int))))), .unk, .unk, .unk, .unk, .unk, .unk]) (.k (.k (.k (.k (.k (.k (.k (.k (.k (.k (.k (.k .e))))))))))))) (fun _ _ => rfl) hm13 (fun x3 s2 H2 _ u2 _ _ _ _ _ hm16 L22 r24 hN1 hC1 hB1 hR1 => ?_) (fun s3 _ _ hm17 L23 => ?_) (fun _ _ _ hm18 F11 => x_finRB (Q := Q) (ps := (fun (r : Bool) => [])) (sc := fun (r : Bool) => r) hm18 kont F11)))))))
    · refine x_set (d := (.int x3)) (Γ' := [.scr a__law_script, .imm (enc (one_1 : (List (List (T3 Int Int Int))))), .mu p2 (ml (s2 : (List Int))), .imm (enc (z8.1 : (List (List (T3 Int Int Int))))), .imm (enc (z9.1 : (List (T3 (List (T3 Int Int Int)) Bool (T3 Int Int Int))))), .imm (enc (ys1 : (List (List (T3 Int Int Int))))), .imm (.int x3), .unk, .unk, .unk, .unk, .unk]) L22 r24 (show (6 : Nat) < 12 by decide) rfl fun _ L24 => ?_
      refine x_seq (x_asg (x_call (x_cons (x_vd (d := (enc (z9.1 : (List (T3 (List (T3 Int Int Int)) Bool (T3 Int Int Int)))))) L24 rfl fun v14 r25 => x_cons (x_vm L24 rfl (x_nil (obE hm16 fun z11 hz12 hm19 => mk__law_spoiled hz12 (L24.cond1 (i := 2) (.im r25 (.m (L24.mrep (i := 2) rfl) .nil)) rfl rfl rfl) fun p7 _ F12 => k1i L24 F12 (i := 2) (Γ' := [.scr a__law_script, .imm (enc (one_1 : (List (List (T3 Int Int Int))))), .mu p2 (ml (z11.2 : (List Int))), .imm (enc (z8.1 : (List (List (T3 Int Int Int))))), .imm (enc (z9.1 : (List (T3 (List (T3 Int Int Int)) Bool (T3 Int Int Int))))), .imm (enc (ys1 : (List (List (T3 Int Int Int))))), .imm (.int x3), .unk, .unk, .unk, .unk, .unk]) rfl rfl rfl fun L25 le13 r26 => have r27 : Rep _ _ _ (enc (z11.1 : (List (T3 (List (T3 Int Int Int)) Bool (T3 Int Int Int))))) (.ref p7) := r26; x_set (d := (enc (z11.1 : (List (T3 (List (T3 Int Int Int)) Bool (T3 Int Int Int)))))) (Γ' := [.scr a__law_script, .imm (enc (one_1 : (List (List (T3 Int Int Int))))), .mu p2 (ml (z11.2 : (List Int))), .imm (enc (z8.1 : (List (List (T3 Int Int Int))))), .imm (enc (z9.1 : (List (T3 (List (T3 Int Int Int)) Bool (T3 Int Int Int))))), .imm (enc (ys1 : (List (List (T3 Int Int Int))))), .imm (.int x3), .imm (enc (z11.1 : (List (T3 (List (T3 Int Int Int)) Bool (T3 Int Int Int))))), .unk, .unk, .unk, .unk]) L25 r27 (show (7 : Nat) < 12 by decide) rfl fun _ L26 => ?_)))))))
      refine x_seq (x_ifS (x_or (x_tB (x_call (x_cons (x_vd (d := (enc (one_1 : (List (List (T3 Int Int Int)))))) L26 rfl fun v15 r28 => x_cons (x_vd (d := (enc (ys1 : (List (List (T3 Int Int Int)))))) L26 rfl fun v16 r29 => x_cons (x_call (x_cons (x_vd (d := (enc (z11.1 : (List (T3 (List (T3 Int Int Int)) Bool (T3 Int Int Int)))))) L26 rfl fun v17 r30 => x_nil (obE hm19 fun z12 hz13 hm20 => mk__law_copy hz13 (L26.cond0 (.im r30 .nil) rfl) fun p8 _ F13 => k0i L26 F13 fun L27 le14 r31 => have r32 := le14 _ _ r28; have r33 := le14 _ _ r29; have r34 : Rep _ _ _ (enc (z12 : (List (T3 (List (T3 Int Int Int)) Bool (T3 Int Int Int))))) (.ref p8) := r31; x_cons (x_c (x_nil (obE hm20 fun z13 hz14 hm21 => mk_is_plan hz14 (L27.cond0 (.im r32 (.im r33 (.im r34 (.im (.bl _) .nil)))) rfl) fun _ F14 => k0 L27 F14 fun L28 le15 => x_kb (x_orB L28 hm21 (fun _ hm24 _ hq => x_tB (x_call (x_cons (x_vd (d := (enc (one_1 : (List (List (T3 Int Int Int)))))) L28 rfl fun v23 r42 => x_cons (x_vd (d := (enc (ys1 : (List (List (T3 Int Int Int)))))) L28 rfl fun v24 r43 => x_cons (x_call (x_cons (x_vd (d := (enc (z11.1 : (List (T3 (List (T3 Int Int Int)) Bool (T3 Int Int Int)))))) L28 rfl fun v25 r44 => x_nil (obE hm24 fun z16 hz17 hm25 => mk__law_copy hz17 (L28.cond0 (.im r44 .nil) rfl) fun p10 _ F17 => k0i L28 F17 fun L31 le18 r45 => have r46 := le18 _ _ r42; have r47 := le18 _ _ r43; have r48 : Rep _ _ _ (enc (z16 : (List (T3 (List (T3 Int Int Int)) Bool (T3 Int Int Int))))) (.ref p10) := r45; x_cons (x_c (x_nil (obE hm25 fun z17 hz18 hm26 => mk_is_plan hz18 (L31.cond0 (.im r46 (.im r47 (.im r48 (.im (.bl _) .nil)))) rfl) fun _ F18 => k0 L31 F18 fun L32 le19 => x_kb (x_lfT hm26 hq L32))))))))))))) fun b1 _ hm27 L33 => x_if hm27 (fun hm28 => ?_) fun hm28 => ?_)))))))))))))))
      · exact x_ret (x_c (x_leafR (ps := (fun (r : Bool) => [])) (rs := (fun (r : Bool) => (.imm (.bool r)))) (e := false) hm28 hR1 (L33.fin hp0 (.bl _))))
      · refine x_next ?_
        refine x_ifS (x_test (x_op (x_call (x_cons (x_vd (d := (enc (one_1 : (List (List (T3 Int Int Int)))))) L33 rfl fun v27 r49 => x_cons (x_vd (d := (enc (ys1 : (List (List (T3 Int Int Int)))))) L33 rfl fun v28 r50 => x_cons (x_vd (d := (enc (z9.1 : (List (T3 (List (T3 Int Int Int)) Bool (T3 Int Int Int)))))) L33 rfl fun v29 r51 => x_cons (x_c (x_nil (obE hm28 fun z18 hz19 hm29 => mk_is_plan hz19 (L33.cond0 (.im r49 (.im r50 (.im r51 (.im (.bl _) .nil)))) rfl) fun _ F19 => k0 L33 F19 fun L34 le20 => x_c (x_notBX (x_kb (x_if hm29 (fun hm30 => ?_) fun hm30 => ?_)))))))))))))
        · exact x_ret (x_c (x_leafR (ps := (fun (r : Bool) => [])) (rs := (fun (r : Bool) => (.imm (.bool r)))) (e := false) hm30 hR1 (L34.fin hp0 (.bl _))))
        · refine x_next ?_
          exact x_leafN (G := (fun (s2 : (List Int)) => [.scr a__law_script, .imm (enc (one_1 : (List (List (T3 Int Int Int))))), .mu p2 (ml (s2 : (List Int))), .imm (enc (z8.1 : (List (List (T3 Int Int Int))))), .imm (enc (z9.1 : (List (T3 (List (T3 Int Int Int)) Bool (T3 Int Int Int))))), .imm (enc (ys1 : (List (List (T3 Int Int Int))))), .unk, .unk, .unk, .unk, .unk, .unk])) (e := z11.2) hm30 hN1 (L34.weak (Γ' := [.scr a__law_script, .imm (enc (one_1 : (List (List (T3 Int Int Int))))), .mu p2 (ml (z11.2 : (List Int))), .imm (enc (z8.1 : (List (List (T3 Int Int Int))))), .imm (enc (z9.1 : (List (T3 (List (T3 Int Int Int)) Bool (T3 Int Int Int))))), .imm (enc (ys1 : (List (List (T3 Int Int Int))))), .unk, .unk, .unk, .unk, .unk, .unk]) (.k (.k (.k (.k (.k (.k (.d (.d (.k (.k (.k (.k .e)))))))))))))
    refine x_seq (x_asg (x_call (x_cons (x_vm L23 rfl (x_cons (x_cb (x_cons (x_vd (d := (enc (ys1 : (List (List (T3 Int Int Int)))))) L23 rfl fun v31 r52 => x_nil (x_lenL (xs := ys1) r52 (x_nil (obE hm17 fun z19 hz20 hm31 => mk__law_digit hz20 (L23.cond1 (i := 2) (.m (L23.mrep (i := 2) rfl) (.im (.int _) .nil)) rfl rfl rfl) fun _ F20 => k1 L23 F20 (i := 2) (Γ' := [.scr a__law_script, .imm (enc (one_1 : (List (List (T3 Int Int Int))))), .mu p2 (ml (z19.2 : (List Int))), .imm (enc (z8.1 : (List (List (T3 Int Int Int))))), .imm (enc (z9.1 : (List (T3 (List (T3 Int Int Int)) Bool (T3 Int Int Int))))), .imm (enc (ys1 : (List (List (T3 Int Int Int))))), .unk, .unk, .unk, .unk, .unk, .unk]) rfl rfl rfl fun L35 le21 => x_set (d := (.int z19.1)) (Γ' := [.scr a__law_script, .imm (enc (one_1 : (List (List (T3 Int Int Int))))), .mu p2 (ml (z19.2 : (List Int))), .imm (enc (z8.1 : (List (List (T3 Int Int Int))))), .imm (enc (z9.1 : (List (T3 (List (T3 Int Int Int)) Bool (T3 Int Int Int))))), .imm (enc (ys1 : (List (List (T3 Int Int Int))))), .imm (.int z19.1), .unk, .unk, .unk, .unk, .unk]) L35 (.int _) (show (6 : Nat) < 12 by decide) rfl fun _ L36 => ?_)))))))))))
    refine x_seq (x_ifS (x_tB (x_call (x_cons (x_vd (d := (enc (one_1 : (List (List (T3 Int Int Int)))))) L36 rfl fun v33 r53 => x_cons (x_op (x_sl (x_vd (d := (enc (ys1 : (List (List (T3 Int Int Int)))))) L36 rfl fun v34 r54 => x_noP (x_part (x_vI (x := z19.1) L36 rfl (x_partK (x_slL (xs := ys1) L36 r54 fun v35 _ L37 le22 r55 => have r56 := le22 _ _ r53; have r57 : Rep _ _ _ (enc ((slice ys1 none (some z19.1)) : (List (List (T3 Int Int Int))))) v35 := r55; x_sl (x_vd (d := (enc (ys1 : (List (List (T3 Int Int Int)))))) L37 rfl fun v36 r58 => x_part (x_op (x_vI (x := z19.1) L37 rfl (x_c (x_r0 (x_partK (x_noP (x_slL (xs := ys1) L37 r58 fun v37 _ L38 le23 r59 => have r60 := le23 _ _ r56; have r61 := le23 _ _ r57; have r62 : Rep _ _ _ (enc ((slice ys1 (some ((z19.1 + 1))) none) : (List (List (T3 Int Int Int))))) v37 := r59; x_cat L38 hm31 r61 r62 fun v38 _ hm32 L39 le24 r63 => have r64 := le24 _ _ r60; have r65 : Rep _ _ _ (enc (((slice ys1 none (some z19.1)) ++ (slice ys1 (some ((z19.1 + 1))) none)) : (List (List (T3 Int Int Int))))) v38 := r63; x_cons (x_vd (d := (enc (z9.1 : (List (T3 (List (T3 Int Int Int)) Bool (T3 Int Int Int)))))) L39 rfl fun v39 r66 => x_cons (x_c (x_nil (obE hm32 fun z20 hz21 hm33 => mk_is_plan hz21 (L39.cond0 (.im r64 (.im r65 (.im r66 (.im (.bl _) .nil)))) rfl) fun _ F21 => k0 L39 F21 fun L40 le25 => x_kb (x_if hm33 (fun hm34 => ?_) fun hm34 => ?_)))))))))))))))))))))))))
    · exact x_ret (x_c (x_finB (Q := Q) (ps := (fun (r : Bool) => [])) (sc := fun (r : Bool) => r) false hm34 kont (L40.fin hp0 (.bl _))))
    · refine x_next ?_
      refine x_seq (x_asg (x_op (x_c (x_call (x_cons (x_vm L40 rfl (x_cons (x_c (x_nil (obE hm34 fun z21 hz22 hm35 => mk__law_digit hz22 (L40.cond1 (i := 2) (.m (L40.mrep (i := 2) rfl) (.im (.int _) .nil)) rfl rfl rfl) fun _ F22 => k1 L40 F22 (i := 2) (Γ' := [.scr a__law_script, .imm (enc (one_1 : (List (List (T3 Int Int Int))))), .mu p2 (ml (z21.2 : (List Int))), .imm (enc (z8.1 : (List (List (T3 Int Int Int))))), .imm (enc (z9.1 : (List (T3 (List (T3 Int Int Int)) Bool (T3 Int Int Int))))), .imm (enc (ys1 : (List (List (T3 Int Int Int))))), .imm (.int z19.1), .unk, .unk, .unk, .unk, .unk]) rfl rfl rfl fun L41 le26 => x_r0 (x_bset (x0 := (1 + z21.1)) (d := fun lift_1 => (.int lift_1)) (Γf := fun lift_1 => [.scr a__law_script, .imm (enc (one_1 : (List (List (T3 Int Int Int))))), .mu p2 (ml (z21.2 : (List Int))), .imm (enc (z8.1 : (List (List (T3 Int Int Int))))), .imm (enc (z9.1 : (List (T3 (List (T3 Int Int Int)) Bool (T3 Int Int Int))))), .imm (enc (ys1 : (List (List (T3 Int Int Int))))), .imm (.int z19.1), .unk, .imm (.int lift_1), .unk, .unk, .unk]) hm35 L41 (.int _) (show (8 : Nat) < 12 by decide) (fun _ => rfl) fun lift_1 _ hm36 L42 => ?_)))))))))))
      refine x_seq (x_asg (x_lcl (x_op (x_vd (d := (enc (ys1 : (List (List (T3 Int Int Int)))))) L42 rfl fun v42 r67 => x_vI (x := z19.1) L42 rfl (x_ixL (xs := ys1) hm36 r67 fun x4 v43 _ hm37 r68 => obE hm37 fun _ hl2 hm38 => obE hm38 fun ys2 hy3 hm39 => x_lcL (G := (fun (s5 : Unit) => [.scr a__law_script, .imm (enc (one_1 : (List (List (T3 Int Int Int))))), .mu p2 (ml (z21.2 : (List Int))), .imm (enc (z8.1 : (List (List (T3 Int Int Int))))), .imm (enc (z9.1 : (List (T3 (List (T3 Int Int Int)) Bool (T3 Int Int Int))))), .imm (enc (ys1 : (List (List (T3 Int Int Int))))), .imm (.int z19.1), .unk, .imm (.int lift_1), .unk, .unk, .unk])) (s0 := ()) (xs := x4) L42 (fun _ _ => rfl) r68 (mapO_comp hy3) (lenOk_le hl2) (fun x5 s5 _ H3 _ u3 _ _ _ hF2 L43 r69 hn2 hy4 => obE hF2 fun y2 hm40 he2 => x_cName (d := (enc (x5 : (T3 Int Int Int)))) (Γ' := [.scr a__law_script, .imm (enc (one_1 : (List (List (T3 Int Int Int))))), .mu p2 (ml (z21.2 : (List Int))), .imm (enc (z8.1 : (List (List (T3 Int Int Int))))), .imm (enc (z9.1 : (List (T3 (List (T3 Int Int Int)) Bool (T3 Int Int Int))))), .imm (enc (ys1 : (List (List (T3 Int Int Int))))), .imm (.int z19.1), .unk, .imm (.int lift_1), .unk, .unk, .imm (enc (x5 : (T3 Int Int Int)))]) L43 r69 (show (11 : Nat) < 12 by decide) rfl fun _ L44 => x_yes (x_call (x_cons (x_vd (d := (enc (x5 : (T3 Int Int Int)))) L44 rfl fun v44 r70 => x_cons (x_tup (x_cons (x_c (x_cons (x_vI (x := lift_1) L44 rfl (x_cons (x_c (x_nil (x_mkT L44 (.cons (.int _) (.cons (.int _) (.cons (.int _) .nil))) (show (3 : Nat) ≤ 16777216 by decide) fun v45 _ L45 le27 r71 => have r72 := le27 _ _ r70; have r73 : Rep _ _ _ (enc ((T3.mk 0 lift_1 4) : (T3 Int Int Int))) v45 := r71; x_nil (obE hm40 fun z22 hz24 hm41 => mk__law_slid hz24 (L45.cond0 (.im r72 (.im r73 .nil)) rfl) fun v46 _ F23 => k0d L45 F23 fun L46 le28 r74 => x_cy (G := (fun (s5 : Unit) => [.scr a__law_script, .imm (enc (one_1 : (List (List (T3 Int Int Int))))), .mu p2 (ml (z21.2 : (List Int))), .imm (enc (z8.1 : (List (List (T3 Int Int Int))))), .imm (enc (z9.1 : (List (T3 (List (T3 Int Int Int)) Bool (T3 Int Int Int))))), .imm (enc (ys1 : (List (List (T3 Int Int Int))))), .imm (.int z19.1), .unk, .imm (.int lift_1), .unk, .unk, .unk])) (s := s5) (s' := ()) (y := z22) (by cases hm41; cases he2; rfl) hy4 L43 L46 (.i rfl (.i rfl (.m (.i rfl (.i rfl (.i rfl (.i rfl (.i rfl (.i rfl (.i rfl (.i rfl (.i rfl .e)))))))))))) r74)))))))))))))) fun p11 _ L47 le29 r75 => have L48 : Lo _ _ _ _ [.scr a__law_script, .imm (enc (one_1 : (List (List (T3 Int Int Int))))), .mu p2 (ml (z21.2 : (List Int))), .imm (enc (z8.1 : (List (List (T3 Int Int Int))))), .imm (enc (z9.1 : (List (T3 (List (T3 Int Int Int)) Bool (T3 Int Int Int))))), .imm (enc (ys1 : (List (List (T3 Int Int Int))))), .imm (.int z19.1), .unk, .imm (.int lift_1), .unk, .unk, .unk] := L47; have r76 : Rep _ _ _ (enc (ys2 : (List (T3 Int Int Int)))) (.ref p11) := r75; x_set (d := (enc (ys2 : (List (T3 Int Int Int))))) (Γ' := [.scr a__law_script, .imm (enc (one_1 : (List (List (T3 Int Int Int))))), .mu p2 (ml (z21.2 : (List Int))), .imm (enc (z8.1 : (List (List (T3 Int Int Int))))), .imm (enc (z9.1 : (List (T3 (List (T3 Int Int Int)) Bool (T3 Int Int Int))))), .imm (enc (ys1 : (List (List (T3 Int Int Int))))), .imm (.int z19.1), .unk, .imm (.int lift_1), .imm (enc (ys2 : (List (T3 Int Int Int)))), .unk, .unk]) L48 r76 (show (9 : Nat) < 12 by decide) rfl fun _ L49 => ?_)))))
      exact x_ret (x_notV (x_call (x_cons (x_vd (d := (enc (one_1 : (List (List (T3 Int Int Int)))))) L49 rfl fun v47 r77 => x_cons (x_op (x_op (x_sl (x_vd (d := (enc (ys1 : (List (List (T3 Int Int Int)))))) L49 rfl fun v48 r78 => x_noP (x_part (x_vI (x := z19.1) L49 rfl (x_partK (x_slL (xs := ys1) L49 r78 fun v49 _ L50 le30 r79 => have r80 := le30 _ _ r77; have r81 : Rep _ _ _ (enc ((slice ys1 none (some z19.1)) : (List (List (T3 Int Int Int))))) v49 := r79; x_lst (x_cons (x_vd (d := (enc (ys2 : (List (T3 Int Int Int))))) L50 rfl fun v50 r82 => x_nil (x_mkL L50 (.cons r82 .nil) (show (1 : Nat) ≤ 16777216 by decide) fun v51 _ L51 le31 r83 => have r84 := le31 _ _ r80; have r85 := le31 _ _ r81; have r86 : Rep _ _ _ (enc ([ys2] : (List (List (T3 Int Int Int))))) v51 := r83; x_cat L51 hm39 r85 r86 fun v52 _ hm42 L52 le32 r87 => have r88 := le32 _ _ r84; have r89 : Rep _ _ _ (enc (((slice ys1 none (some z19.1)) ++ [ys2]) : (List (List (T3 Int Int Int))))) v52 := r87; x_sl (x_vd (d := (enc (ys1 : (List (List (T3 Int Int Int)))))) L52 rfl fun v53 r90 => x_part (x_op (x_vI (x := z19.1) L52 rfl (x_c (x_r0 (x_partK (x_noP (x_slL (xs := ys1) L52 r90 fun v54 _ L53 le33 r91 => have r92 := le33 _ _ r88; have r93 := le33 _ _ r89; have r94 : Rep _ _ _ (enc ((slice ys1 (some ((z19.1 + 1))) none) : (List (List (T3 Int Int Int))))) v54 := r91; x_cat L53 hm42 r93 r94 fun v55 _ hm43 L54 le34 r95 => have r96 := le34 _ _ r92; have r97 : Rep _ _ _ (enc ((((slice ys1 none (some z19.1)) ++ [ys2]) ++ (slice ys1 (some ((z19.1 + 1))) none)) : (List (List (T3 Int Int Int))))) v55 := r95; x_cons (x_vd (d := (enc (z9.1 : (List (T3 (List (T3 Int Int Int)) Bool (T3 Int Int Int)))))) L54 rfl fun v56 r98 => x_cons (x_c (x_nil (obE hm43 fun z23 hz25 hm44 => mk_is_plan hz25 (L54.cond0 (.im r96 (.im r97 (.im r98 (.im (.bl _) .nil)))) rfl) fun _ F24 => k0 L54 F24 fun L55 le35 => x_kb (x_knV (x_finB (Q := Q) (ps := (fun (r : Bool) => [])) (sc := fun (r : Bool) => r) ((!z23)) hm44 kont (L55.fin hp0 (.bl _)))))))))))))))))))))))))))))))
end
theorem all_mk {l : PySem.W.OpenLaw} {w : World} {K : PySem.W.Frag} {h : Heap} {mg : Str → Option Value} {fa : Addr} (X : K.In h) (G : h.Ns mainGlobals mg) (hfa : mg "law" = some (.ref fa))
    {f0 : Addr} {od0 an0 : Option Addr} {sl0 : Array (Option Value)} {oc0 kV0 dc0 pm0 cd0 ct0 : Value}
    (a0 : PySem.W.nsIn K mainGlobals "_law_cell" = some (some (.ref f0))) (l0 : K.lookup f0 = some ⟨oc0, od0, .func (PySem.W.fnOf "_law_cell" "_law_cell" (defArgs s__law_cell) (defBody s__law_cell) (defScope s__law_cell) .none kV0 dc0 pm0 an0 cd0 ct0), sl0⟩) (c0 : PySem.W.codeIn K cd0 "_law_cell" = true) (k0 : PySem.W.keepIn K (.ref f0) = true)
    {f1 : Addr} {od1 an1 : Option Addr} {sl1 : Array (Option Value)} {oc1 kV1 dc1 pm1 cd1 ct1 : Value}
    (a1 : PySem.W.nsIn K mainGlobals "_law_bag" = some (some (.ref f1))) (l1 : K.lookup f1 = some ⟨oc1, od1, .func (PySem.W.fnOf "_law_bag" "_law_bag" (defArgs s__law_bag) (defBody s__law_bag) (defScope s__law_bag) .none kV1 dc1 pm1 an1 cd1 ct1), sl1⟩) (c1 : PySem.W.codeIn K cd1 "_law_bag" = true) (k1 : PySem.W.keepIn K (.ref f1) = true)
    {f2 : Addr} {od2 an2 : Option Addr} {sl2 : Array (Option Value)} {oc2 kV2 dc2 pm2 cd2 ct2 : Value}
    (a2 : PySem.W.nsIn K mainGlobals "_law_digit" = some (some (.ref f2))) (l2 : K.lookup f2 = some ⟨oc2, od2, .func (PySem.W.fnOf "_law_digit" "_law_digit" (defArgs s__law_digit) (defBody s__law_digit) (defScope s__law_digit) .none kV2 dc2 pm2 an2 cd2 ct2), sl2⟩) (c2 : PySem.W.codeIn K cd2 "_law_digit" = true) (k2 : PySem.W.keepIn K (.ref f2) = true)
    {f3 : Addr} {od3 an3 : Option Addr} {sl3 : Array (Option Value)} {oc3 kV3 dc3 pm3 cd3 ct3 : Value}
    (a3 : PySem.W.nsIn K mainGlobals "_law_point" = some (some (.ref f3))) (l3 : K.lookup f3 = some ⟨oc3, od3, .func (PySem.W.fnOf "_law_point" "_law_point" (defArgs s__law_point) (defBody s__law_point) (defScope s__law_point) .none kV3 dc3 pm3 an3 cd3 ct3), sl3⟩) (c3 : PySem.W.codeIn K cd3 "_law_point" = true) (k3 : PySem.W.keepIn K (.ref f3) = true)
    {f4 : Addr} {od4 an4 : Option Addr} {sl4 : Array (Option Value)} {oc4 kV4 dc4 pm4 cd4 ct4 : Value}
    (a4 : PySem.W.nsIn K mainGlobals "_law_place" = some (some (.ref f4))) (l4 : K.lookup f4 = some ⟨oc4, od4, .func (PySem.W.fnOf "_law_place" "_law_place" (defArgs s__law_place) (defBody s__law_place) (defScope s__law_place) .none kV4 dc4 pm4 an4 cd4 ct4), sl4⟩) (c4 : PySem.W.codeIn K cd4 "_law_place" = true) (k4 : PySem.W.keepIn K (.ref f4) = true)
    {f5 : Addr} {od5 an5 : Option Addr} {sl5 : Array (Option Value)} {oc5 kV5 dc5 pm5 cd5 ct5 : Value}
    (a5 : PySem.W.nsIn K mainGlobals "_law_side" = some (some (.ref f5))) (l5 : K.lookup f5 = some ⟨oc5, od5, .func (PySem.W.fnOf "_law_side" "_law_side" (defArgs s__law_side) (defBody s__law_side) (defScope s__law_side) .none kV5 dc5 pm5 an5 cd5 ct5), sl5⟩) (c5 : PySem.W.codeIn K cd5 "_law_side" = true) (k5 : PySem.W.keepIn K (.ref f5) = true)
    {f6 : Addr} {od6 an6 : Option Addr} {sl6 : Array (Option Value)} {oc6 kV6 dc6 pm6 cd6 ct6 : Value}
    (a6 : PySem.W.nsIn K mainGlobals "_law_three" = some (some (.ref f6))) (l6 : K.lookup f6 = some ⟨oc6, od6, .func (PySem.W.fnOf "_law_three" "_law_three" (defArgs s__law_three) (defBody s__law_three) (defScope s__law_three) .none kV6 dc6 pm6 an6 cd6 ct6), sl6⟩) (c6 : PySem.W.codeIn K cd6 "_law_three" = true) (k6 : PySem.W.keepIn K (.ref f6) = true)
    {f7 : Addr} {od7 an7 : Option Addr} {sl7 : Array (Option Value)} {oc7 kV7 dc7 pm7 cd7 ct7 : Value}
    (a7 : PySem.W.nsIn K mainGlobals "_law_is_point" = some (some (.ref f7))) (l7 : K.lookup f7 = some ⟨oc7, od7, .func (PySem.W.fnOf "_law_is_point" "_law_is_point" (defArgs s__law_is_point) (defBody s__law_is_point) (defScope s__law_is_point) .none kV7 dc7 pm7 an7 cd7 ct7), sl7⟩) (c7 : PySem.W.codeIn K cd7 "_law_is_point" = true) (k7 : PySem.W.keepIn K (.ref f7) = true)
    {f8 : Addr} {od8 an8 : Option Addr} {sl8 : Array (Option Value)} {oc8 kV8 dc8 pm8 cd8 ct8 : Value}
    (a8 : PySem.W.nsIn K mainGlobals "_law_is_convex" = some (some (.ref f8))) (l8 : K.lookup f8 = some ⟨oc8, od8, .func (PySem.W.fnOf "_law_is_convex" "_law_is_convex" (defArgs s__law_is_convex) (defBody s__law_is_convex) (defScope s__law_is_convex) .none kV8 dc8 pm8 an8 cd8 ct8), sl8⟩) (c8 : PySem.W.codeIn K cd8 "_law_is_convex" = true) (k8 : PySem.W.keepIn K (.ref f8) = true)
    {f9 : Addr} {od9 an9 : Option Addr} {sl9 : Array (Option Value)} {oc9 kV9 dc9 pm9 cd9 ct9 : Value}
    (a9 : PySem.W.nsIn K mainGlobals "_law_bulging" = some (some (.ref f9))) (l9 : K.lookup f9 = some ⟨oc9, od9, .func (PySem.W.fnOf "_law_bulging" "_law_bulging" (defArgs s__law_bulging) (defBody s__law_bulging) (defScope s__law_bulging) .none kV9 dc9 pm9 an9 cd9 ct9), sl9⟩) (c9 : PySem.W.codeIn K cd9 "_law_bulging" = true) (k9 : PySem.W.keepIn K (.ref f9) = true)
    {f10 : Addr} {od10 an10 : Option Addr} {sl10 : Array (Option Value)} {oc10 kV10 dc10 pm10 cd10 ct10 : Value}
    (a10 : PySem.W.nsIn K mainGlobals "_law_slid" = some (some (.ref f10))) (l10 : K.lookup f10 = some ⟨oc10, od10, .func (PySem.W.fnOf "_law_slid" "_law_slid" (defArgs s__law_slid) (defBody s__law_slid) (defScope s__law_slid) .none kV10 dc10 pm10 an10 cd10 ct10), sl10⟩) (c10 : PySem.W.codeIn K cd10 "_law_slid" = true) (k10 : PySem.W.keepIn K (.ref f10) = true)
    {f11 : Addr} {od11 an11 : Option Addr} {sl11 : Array (Option Value)} {oc11 kV11 dc11 pm11 cd11 ct11 : Value}
    (a11 : PySem.W.nsIn K mainGlobals "_law_mixed" = some (some (.ref f11))) (l11 : K.lookup f11 = some ⟨oc11, od11, .func (PySem.W.fnOf "_law_mixed" "_law_mixed" (defArgs s__law_mixed) (defBody s__law_mixed) (defScope s__law_mixed) .none kV11 dc11 pm11 an11 cd11 ct11), sl11⟩) (c11 : PySem.W.codeIn K cd11 "_law_mixed" = true) (k11 : PySem.W.keepIn K (.ref f11) = true)
    {f12 : Addr} {od12 an12 : Option Addr} {sl12 : Array (Option Value)} {oc12 kV12 dc12 pm12 cd12 ct12 : Value}
    (a12 : PySem.W.nsIn K mainGlobals "_law_fan" = some (some (.ref f12))) (l12 : K.lookup f12 = some ⟨oc12, od12, .func (PySem.W.fnOf "_law_fan" "_law_fan" (defArgs s__law_fan) (defBody s__law_fan) (defScope s__law_fan) .none kV12 dc12 pm12 an12 cd12 ct12), sl12⟩) (c12 : PySem.W.codeIn K cd12 "_law_fan" = true) (k12 : PySem.W.keepIn K (.ref f12) = true)
    {f13 : Addr} {od13 an13 : Option Addr} {sl13 : Array (Option Value)} {oc13 kV13 dc13 pm13 cd13 ct13 : Value}
    (a13 : PySem.W.nsIn K mainGlobals "_law_parted" = some (some (.ref f13))) (l13 : K.lookup f13 = some ⟨oc13, od13, .func (PySem.W.fnOf "_law_parted" "_law_parted" (defArgs s__law_parted) (defBody s__law_parted) (defScope s__law_parted) .none kV13 dc13 pm13 an13 cd13 ct13), sl13⟩) (c13 : PySem.W.codeIn K cd13 "_law_parted" = true) (k13 : PySem.W.keepIn K (.ref f13) = true)
    {f14 : Addr} {od14 an14 : Option Addr} {sl14 : Array (Option Value)} {oc14 kV14 dc14 pm14 cd14 ct14 : Value}
    (a14 : PySem.W.nsIn K mainGlobals "_law_spread" = some (some (.ref f14))) (l14 : K.lookup f14 = some ⟨oc14, od14, .func (PySem.W.fnOf "_law_spread" "_law_spread" (defArgs s__law_spread) (defBody s__law_spread) (defScope s__law_spread) .none kV14 dc14 pm14 an14 cd14 ct14), sl14⟩) (c14 : PySem.W.codeIn K cd14 "_law_spread" = true) (k14 : PySem.W.keepIn K (.ref f14) = true)
    {f15 : Addr} {od15 an15 : Option Addr} {sl15 : Array (Option Value)} {oc15 kV15 dc15 pm15 cd15 ct15 : Value}
    (a15 : PySem.W.nsIn K mainGlobals "_law_turned" = some (some (.ref f15))) (l15 : K.lookup f15 = some ⟨oc15, od15, .func (PySem.W.fnOf "_law_turned" "_law_turned" (defArgs s__law_turned) (defBody s__law_turned) (defScope s__law_turned) .none kV15 dc15 pm15 an15 cd15 ct15), sl15⟩) (c15 : PySem.W.codeIn K cd15 "_law_turned" = true) (k15 : PySem.W.keepIn K (.ref f15) = true)
    {f16 : Addr} {od16 an16 : Option Addr} {sl16 : Array (Option Value)} {oc16 kV16 dc16 pm16 cd16 ct16 : Value}
    (a16 : PySem.W.nsIn K mainGlobals "_law_led" = some (some (.ref f16))) (l16 : K.lookup f16 = some ⟨oc16, od16, .func (PySem.W.fnOf "_law_led" "_law_led" (defArgs s__law_led) (defBody s__law_led) (defScope s__law_led) .none kV16 dc16 pm16 an16 cd16 ct16), sl16⟩) (c16 : PySem.W.codeIn K cd16 "_law_led" = true) (k16 : PySem.W.keepIn K (.ref f16) = true)
    {f17 : Addr} {od17 an17 : Option Addr} {sl17 : Array (Option Value)} {oc17 kV17 dc17 pm17 cd17 ct17 : Value}
    (a17 : PySem.W.nsIn K mainGlobals "_law_led_ring" = some (some (.ref f17))) (l17 : K.lookup f17 = some ⟨oc17, od17, .func (PySem.W.fnOf "_law_led_ring" "_law_led_ring" (defArgs s__law_led_ring) (defBody s__law_led_ring) (defScope s__law_led_ring) .none kV17 dc17 pm17 an17 cd17 ct17), sl17⟩) (c17 : PySem.W.codeIn K cd17 "_law_led_ring" = true) (k17 : PySem.W.keepIn K (.ref f17) = true)
    {f18 : Addr} {od18 an18 : Option Addr} {sl18 : Array (Option Value)} {oc18 kV18 dc18 pm18 cd18 ct18 : Value}
    (a18 : PySem.W.nsIn K mainGlobals "_law_middle" = some (some (.ref f18))) (l18 : K.lookup f18 = some ⟨oc18, od18, .func (PySem.W.fnOf "_law_middle" "_law_middle" (defArgs s__law_middle) (defBody s__law_middle) (defScope s__law_middle) .none kV18 dc18 pm18 an18 cd18 ct18), sl18⟩) (c18 : PySem.W.codeIn K cd18 "_law_middle" = true) (k18 : PySem.W.keepIn K (.ref f18) = true)
    {f19 : Addr} {od19 an19 : Option Addr} {sl19 : Array (Option Value)} {oc19 kV19 dc19 pm19 cd19 ct19 : Value}
    (a19 : PySem.W.nsIn K mainGlobals "_law_spoiled" = some (some (.ref f19))) (l19 : K.lookup f19 = some ⟨oc19, od19, .func (PySem.W.fnOf "_law_spoiled" "_law_spoiled" (defArgs s__law_spoiled) (defBody s__law_spoiled) (defScope s__law_spoiled) .none kV19 dc19 pm19 an19 cd19 ct19), sl19⟩) (c19 : PySem.W.codeIn K cd19 "_law_spoiled" = true) (k19 : PySem.W.keepIn K (.ref f19) = true)
    {f20 : Addr} {od20 an20 : Option Addr} {sl20 : Array (Option Value)} {oc20 kV20 dc20 pm20 cd20 ct20 : Value}
    (a20 : PySem.W.nsIn K mainGlobals "_law_copy" = some (some (.ref f20))) (l20 : K.lookup f20 = some ⟨oc20, od20, .func (PySem.W.fnOf "_law_copy" "_law_copy" (defArgs s__law_copy) (defBody s__law_copy) (defScope s__law_copy) .none kV20 dc20 pm20 an20 cd20 ct20), sl20⟩) (c20 : PySem.W.codeIn K cd20 "_law_copy" = true) (k20 : PySem.W.keepIn K (.ref f20) = true)
    {f21 : Addr} {od21 an21 : Option Addr} {sl21 : Array (Option Value)} {oc21 kV21 dc21 pm21 cd21 ct21 : Value}
    (a21 : PySem.W.nsIn K mainGlobals "crossed" = some (some (.ref f21))) (l21 : K.lookup f21 = some ⟨oc21, od21, .func (PySem.W.fnOf "crossed" "crossed" (defArgs s_crossed) (defBody s_crossed) (defScope s_crossed) .none kV21 dc21 pm21 an21 cd21 ct21), sl21⟩) (c21 : PySem.W.codeIn K cd21 "crossed" = true) (k21 : PySem.W.keepIn K (.ref f21) = true)
    {f22 : Addr} {od22 an22 : Option Addr} {sl22 : Array (Option Value)} {oc22 kV22 dc22 pm22 cd22 ct22 : Value}
    (a22 : PySem.W.nsIn K mainGlobals "side" = some (some (.ref f22))) (l22 : K.lookup f22 = some ⟨oc22, od22, .func (PySem.W.fnOf "side" "side" (defArgs s_side) (defBody s_side) (defScope s_side) .none kV22 dc22 pm22 an22 cd22 ct22), sl22⟩) (c22 : PySem.W.codeIn K cd22 "side" = true) (k22 : PySem.W.keepIn K (.ref f22) = true)
    {f23 : Addr} {od23 an23 : Option Addr} {sl23 : Array (Option Value)} {oc23 kV23 dc23 pm23 cd23 ct23 : Value}
    (a23 : PySem.W.nsIn K mainGlobals "greatest_divisor" = some (some (.ref f23))) (l23 : K.lookup f23 = some ⟨oc23, od23, .func (PySem.W.fnOf "greatest_divisor" "greatest_divisor" (defArgs s_greatest_divisor) (defBody s_greatest_divisor) (defScope s_greatest_divisor) .none kV23 dc23 pm23 an23 cd23 ct23), sl23⟩) (c23 : PySem.W.codeIn K cd23 "greatest_divisor" = true) (k23 : PySem.W.keepIn K (.ref f23) = true)
    {f24 : Addr} {od24 an24 : Option Addr} {sl24 : Array (Option Value)} {oc24 kV24 dc24 pm24 cd24 ct24 : Value}
    (a24 : PySem.W.nsIn K mainGlobals "ratio" = some (some (.ref f24))) (l24 : K.lookup f24 = some ⟨oc24, od24, .func (PySem.W.fnOf "ratio" "ratio" (defArgs s_ratio) (defBody s_ratio) (defScope s_ratio) .none kV24 dc24 pm24 an24 cd24 ct24), sl24⟩) (c24 : PySem.W.codeIn K cd24 "ratio" = true) (k24 : PySem.W.keepIn K (.ref f24) = true)
    {f25 : Addr} {od25 an25 : Option Addr} {sl25 : Array (Option Value)} {oc25 kV25 dc25 pm25 cd25 ct25 : Value}
    (a25 : PySem.W.nsIn K mainGlobals "line_of" = some (some (.ref f25))) (l25 : K.lookup f25 = some ⟨oc25, od25, .func (PySem.W.fnOf "line_of" "line_of" (defArgs s_line_of) (defBody s_line_of) (defScope s_line_of) .none kV25 dc25 pm25 an25 cd25 ct25), sl25⟩) (c25 : PySem.W.codeIn K cd25 "line_of" = true) (k25 : PySem.W.keepIn K (.ref f25) = true)
    {f26 : Addr} {od26 an26 : Option Addr} {sl26 : Array (Option Value)} {oc26 kV26 dc26 pm26 cd26 ct26 : Value}
    (a26 : PySem.W.nsIn K mainGlobals "count_sides" = some (some (.ref f26))) (l26 : K.lookup f26 = some ⟨oc26, od26, .func (PySem.W.fnOf "count_sides" "count_sides" (defArgs s_count_sides) (defBody s_count_sides) (defScope s_count_sides) .none kV26 dc26 pm26 an26 cd26 ct26), sl26⟩) (c26 : PySem.W.codeIn K cd26 "count_sides" = true) (k26 : PySem.W.keepIn K (.ref f26) = true)
    {f27 : Addr} {od27 an27 : Option Addr} {sl27 : Array (Option Value)} {oc27 kV27 dc27 pm27 cd27 ct27 : Value}
    (a27 : PySem.W.nsIn K mainGlobals "parts_cloth" = some (some (.ref f27))) (l27 : K.lookup f27 = some ⟨oc27, od27, .func (PySem.W.fnOf "parts_cloth" "parts_cloth" (defArgs s_parts_cloth) (defBody s_parts_cloth) (defScope s_parts_cloth) .none kV27 dc27 pm27 an27 cd27 ct27), sl27⟩) (c27 : PySem.W.codeIn K cd27 "parts_cloth" = true) (k27 : PySem.W.keepIn K (.ref f27) = true)
    {f28 : Addr} {od28 an28 : Option Addr} {sl28 : Array (Option Value)} {oc28 kV28 dc28 pm28 cd28 ct28 : Value}
    (a28 : PySem.W.nsIn K mainGlobals "turned" = some (some (.ref f28))) (l28 : K.lookup f28 = some ⟨oc28, od28, .func (PySem.W.fnOf "turned" "turned" (defArgs s_turned) (defBody s_turned) (defScope s_turned) .none kV28 dc28 pm28 an28 cd28 ct28), sl28⟩) (c28 : PySem.W.codeIn K cd28 "turned" = true) (k28 : PySem.W.keepIn K (.ref f28) = true)
    {f29 : Addr} {od29 an29 : Option Addr} {sl29 : Array (Option Value)} {oc29 kV29 dc29 pm29 cd29 ct29 : Value}
    (a29 : PySem.W.nsIn K mainGlobals "point" = some (some (.ref f29))) (l29 : K.lookup f29 = some ⟨oc29, od29, .func (PySem.W.fnOf "point" "point" (defArgs s_point) (defBody s_point) (defScope s_point) .none kV29 dc29 pm29 an29 cd29 ct29), sl29⟩) (c29 : PySem.W.codeIn K cd29 "point" = true) (k29 : PySem.W.keepIn K (.ref f29) = true)
    {f30 : Addr} {od30 an30 : Option Addr} {sl30 : Array (Option Value)} {oc30 kV30 dc30 pm30 cd30 ct30 : Value}
    (a30 : PySem.W.nsIn K mainGlobals "slid" = some (some (.ref f30))) (l30 : K.lookup f30 = some ⟨oc30, od30, .func (PySem.W.fnOf "slid" "slid" (defArgs s_slid) (defBody s_slid) (defScope s_slid) .none kV30 dc30 pm30 an30 cd30 ct30), sl30⟩) (c30 : PySem.W.codeIn K cd30 "slid" = true) (k30 : PySem.W.keepIn K (.ref f30) = true)
    {f31 : Addr} {od31 an31 : Option Addr} {sl31 : Array (Option Value)} {oc31 kV31 dc31 pm31 cd31 ct31 : Value}
    (a31 : PySem.W.nsIn K mainGlobals "led_ring" = some (some (.ref f31))) (l31 : K.lookup f31 = some ⟨oc31, od31, .func (PySem.W.fnOf "led_ring" "led_ring" (defArgs s_led_ring) (defBody s_led_ring) (defScope s_led_ring) .none kV31 dc31 pm31 an31 cd31 ct31), sl31⟩) (c31 : PySem.W.codeIn K cd31 "led_ring" = true) (k31 : PySem.W.keepIn K (.ref f31) = true)
    {f32 : Addr} {od32 an32 : Option Addr} {sl32 : Array (Option Value)} {oc32 kV32 dc32 pm32 cd32 ct32 : Value}
    (a32 : PySem.W.nsIn K mainGlobals "is_plan" = some (some (.ref f32))) (l32 : K.lookup f32 = some ⟨oc32, od32, .func (PySem.W.fnOf "is_plan" "is_plan" (defArgs s_is_plan) (defBody s_is_plan) (defScope s_is_plan) .none kV32 dc32 pm32 an32 cd32 ct32), sl32⟩) (c32 : PySem.W.codeIn K cd32 "is_plan" = true) (k32 : PySem.W.keepIn K (.ref f32) = true)
    {f33 : Addr} {od33 an33 : Option Addr} {sl33 : Array (Option Value)} {oc33 kV33 dc33 pm33 cd33 ct33 : Value}
    (a33 : PySem.W.nsIn K mainGlobals "law" = some (some (.ref f33))) (l33 : K.lookup f33 = some ⟨oc33, od33, .func (PySem.W.fnOf "law" "law" (defArgs s_law) (defBody s_law) (defScope s_law) .none kV33 dc33 pm33 an33 cd33 ct33), sl33⟩) (c33 : PySem.W.codeIn K cd33 "law" = true) (k33 : PySem.W.keepIn K (.ref f33) = true)
    (z_abs : PySem.W.nsIn K mainGlobals "abs" = some none)
    (z_all : PySem.W.nsIn K mainGlobals "all" = some none)
    (z_bool : PySem.W.nsIn K mainGlobals "bool" = some none)
    (z_enumerate : PySem.W.nsIn K mainGlobals "enumerate" = some none)
    (z_int : PySem.W.nsIn K mainGlobals "int" = some none)
    (z_isinstance : PySem.W.nsIn K mainGlobals "isinstance" = some none)
    (z_len : PySem.W.nsIn K mainGlobals "len" = some none)
    (z_list : PySem.W.nsIn K mainGlobals "list" = some none)
    (z_range : PySem.W.nsIn K mainGlobals "range" = some none)
    (z_tuple : PySem.W.nsIn K mainGlobals "tuple" = some none)
    : ∃ fd : FuncData, (∀ (s : Shared) (v : Value), BindsTo s fd ⟨[v], []⟩ [("_law_script", v)]) ∧ ∀ base : Heap, K.In base → base.Ns mainGlobals mg → FnOk l.prog w K mg base CX0 7 fa fd ["_law_script"] (sp_law K) := by
  have e := hfa.symm.trans (PySem.W.mg_of X G a33)
  cases e
  let T : Txt K mg := {
    A__law_cell := f0, D__law_cell := PySem.W.fnOf "_law_cell" "_law_cell" (defArgs s__law_cell) (defBody s__law_cell) (defScope s__law_cell) .none kV0 dc0 pm0 an0 cd0 ct0, F__law_cell := fun_mk (st := s__law_cell) l0 c0 k0, g__law_cell := PySem.W.mg_of X G a0, b__law_cell := (fun_mk (st := s__law_cell) l0 c0 k0).binds (ps := ["_law_script", "_law_k"]) fun _ _ _ _ _ _ us hl => match us, hl with | [_, _], _ => rfl,
    A__law_bag := f1, D__law_bag := PySem.W.fnOf "_law_bag" "_law_bag" (defArgs s__law_bag) (defBody s__law_bag) (defScope s__law_bag) .none kV1 dc1 pm1 an1 cd1 ct1, F__law_bag := fun_mk (st := s__law_bag) l1 c1 k1, g__law_bag := PySem.W.mg_of X G a1, b__law_bag := (fun_mk (st := s__law_bag) l1 c1 k1).binds (ps := ["_law_cell_here"]) fun _ _ _ _ _ _ us hl => match us, hl with | [_], _ => rfl,
    A__law_digit := f2, D__law_digit := PySem.W.fnOf "_law_digit" "_law_digit" (defArgs s__law_digit) (defBody s__law_digit) (defScope s__law_digit) .none kV2 dc2 pm2 an2 cd2 ct2, F__law_digit := fun_mk (st := s__law_digit) l2 c2 k2, g__law_digit := PySem.W.mg_of X G a2, b__law_digit := (fun_mk (st := s__law_digit) l2 c2 k2).binds (ps := ["_law_bag_here", "_law_many"]) fun _ _ _ _ _ _ us hl => match us, hl with | [_, _], _ => rfl,
    A__law_point := f3, D__law_point := PySem.W.fnOf "_law_point" "_law_point" (defArgs s__law_point) (defBody s__law_point) (defScope s__law_point) .none kV3 dc3 pm3 an3 cd3 ct3, F__law_point := fun_mk (st := s__law_point) l3 c3 k3, g__law_point := PySem.W.mg_of X G a3, b__law_point := (fun_mk (st := s__law_point) l3 c3 k3).binds (ps := ["_law_a", "_law_b", "_law_n"]) fun _ _ _ _ _ _ us hl => match us, hl with | [_, _, _], _ => rfl,
    A__law_place := f4, D__law_place := PySem.W.fnOf "_law_place" "_law_place" (defArgs s__law_place) (defBody s__law_place) (defScope s__law_place) .none kV4 dc4 pm4 an4 cd4 ct4, F__law_place := fun_mk (st := s__law_place) l4 c4 k4, g__law_place := PySem.W.mg_of X G a4, b__law_place := (fun_mk (st := s__law_place) l4 c4 k4).binds (ps := ["_law_bag_here", "_law_most"]) fun _ _ _ _ _ _ us hl => match us, hl with | [_, _], _ => rfl,
    A__law_side := f5, D__law_side := PySem.W.fnOf "_law_side" "_law_side" (defArgs s__law_side) (defBody s__law_side) (defScope s__law_side) .none kV5 dc5 pm5 an5 cd5 ct5, F__law_side := fun_mk (st := s__law_side) l5 c5 k5, g__law_side := PySem.W.mg_of X G a5, b__law_side := (fun_mk (st := s__law_side) l5 c5 k5).binds (ps := ["_law_p", "_law_q", "_law_r"]) fun _ _ _ _ _ _ us hl => match us, hl with | [_, _, _], _ => rfl,
    A__law_three := f6, D__law_three := PySem.W.fnOf "_law_three" "_law_three" (defArgs s__law_three) (defBody s__law_three) (defScope s__law_three) .none kV6 dc6 pm6 an6 cd6 ct6, F__law_three := fun_mk (st := s__law_three) l6 c6 k6, g__law_three := PySem.W.mg_of X G a6, b__law_three := (fun_mk (st := s__law_three) l6 c6 k6).binds (ps := ["_law_bag_here", "_law_most"]) fun _ _ _ _ _ _ us hl => match us, hl with | [_, _], _ => rfl,
    A__law_is_point := f7, D__law_is_point := PySem.W.fnOf "_law_is_point" "_law_is_point" (defArgs s__law_is_point) (defBody s__law_is_point) (defScope s__law_is_point) .none kV7 dc7 pm7 an7 cd7 ct7, F__law_is_point := fun_mk (st := s__law_is_point) l7 c7 k7, g__law_is_point := PySem.W.mg_of X G a7, b__law_is_point := (fun_mk (st := s__law_is_point) l7 c7 k7).binds (ps := ["_law_p"]) fun _ _ _ _ _ _ us hl => match us, hl with | [_], _ => rfl,
    A__law_is_convex := f8, D__law_is_convex := PySem.W.fnOf "_law_is_convex" "_law_is_convex" (defArgs s__law_is_convex) (defBody s__law_is_convex) (defScope s__law_is_convex) .none kV8 dc8 pm8 an8 cd8 ct8, F__law_is_convex := fun_mk (st := s__law_is_convex) l8 c8 k8, g__law_is_convex := PySem.W.mg_of X G a8, b__law_is_convex := (fun_mk (st := s__law_is_convex) l8 c8 k8).binds (ps := ["_law_ring"]) fun _ _ _ _ _ _ us hl => match us, hl with | [_], _ => rfl,
    A__law_bulging := f9, D__law_bulging := PySem.W.fnOf "_law_bulging" "_law_bulging" (defArgs s__law_bulging) (defBody s__law_bulging) (defScope s__law_bulging) .none kV9 dc9 pm9 an9 cd9 ct9, F__law_bulging := fun_mk (st := s__law_bulging) l9 c9 k9, g__law_bulging := PySem.W.mg_of X G a9, b__law_bulging := (fun_mk (st := s__law_bulging) l9 c9 k9).binds (ps := ["_law_bag_here", "_law_most"]) fun _ _ _ _ _ _ us hl => match us, hl with | [_, _], _ => rfl,
    A__law_slid := f10, D__law_slid := PySem.W.fnOf "_law_slid" "_law_slid" (defArgs s__law_slid) (defBody s__law_slid) (defScope s__law_slid) .none kV10 dc10 pm10 an10 cd10 ct10, F__law_slid := fun_mk (st := s__law_slid) l10 c10 k10, g__law_slid := PySem.W.mg_of X G a10, b__law_slid := (fun_mk (st := s__law_slid) l10 c10 k10).binds (ps := ["_law_p", "_law_v"]) fun _ _ _ _ _ _ us hl => match us, hl with | [_, _], _ => rfl,
    A__law_mixed := f11, D__law_mixed := PySem.W.fnOf "_law_mixed" "_law_mixed" (defArgs s__law_mixed) (defBody s__law_mixed) (defScope s__law_mixed) .none kV11 dc11 pm11 an11 cd11 ct11, F__law_mixed := fun_mk (st := s__law_mixed) l11 c11 k11, g__law_mixed := PySem.W.mg_of X G a11, b__law_mixed := (fun_mk (st := s__law_mixed) l11 c11 k11).binds (ps := ["_law_ring", "_law_bag_here"]) fun _ _ _ _ _ _ us hl => match us, hl with | [_, _], _ => rfl,
    A__law_fan := f12, D__law_fan := PySem.W.fnOf "_law_fan" "_law_fan" (defArgs s__law_fan) (defBody s__law_fan) (defScope s__law_fan) .none kV12 dc12 pm12 an12 cd12 ct12, F__law_fan := fun_mk (st := s__law_fan) l12 c12 k12, g__law_fan := PySem.W.mg_of X G a12, b__law_fan := (fun_mk (st := s__law_fan) l12 c12 k12).binds (ps := ["_law_ring", "_law_bag_here"]) fun _ _ _ _ _ _ us hl => match us, hl with | [_, _], _ => rfl,
    A__law_parted := f13, D__law_parted := PySem.W.fnOf "_law_parted" "_law_parted" (defArgs s__law_parted) (defBody s__law_parted) (defScope s__law_parted) .none kV13 dc13 pm13 an13 cd13 ct13, F__law_parted := fun_mk (st := s__law_parted) l13 c13 k13, g__law_parted := PySem.W.mg_of X G a13, b__law_parted := (fun_mk (st := s__law_parted) l13 c13 k13).binds (ps := ["_law_rings", "_law_bag_here", "_law_many"]) fun _ _ _ _ _ _ us hl => match us, hl with | [_, _, _], _ => rfl,
    A__law_spread := f14, D__law_spread := PySem.W.fnOf "_law_spread" "_law_spread" (defArgs s__law_spread) (defBody s__law_spread) (defScope s__law_spread) .none kV14 dc14 pm14 an14 cd14 ct14, F__law_spread := fun_mk (st := s__law_spread) l14 c14 k14, g__law_spread := PySem.W.mg_of X G a14, b__law_spread := (fun_mk (st := s__law_spread) l14 c14 k14).binds (ps := ["_law_rings", "_law_bag_here", "_law_turning"]) fun _ _ _ _ _ _ us hl => match us, hl with | [_, _, _], _ => rfl,
    A__law_turned := f15, D__law_turned := PySem.W.fnOf "_law_turned" "_law_turned" (defArgs s__law_turned) (defBody s__law_turned) (defScope s__law_turned) .none kV15 dc15 pm15 an15 cd15 ct15, F__law_turned := fun_mk (st := s__law_turned) l15 c15 k15, g__law_turned := PySem.W.mg_of X G a15, b__law_turned := (fun_mk (st := s__law_turned) l15 c15 k15).binds (ps := ["_law_p"]) fun _ _ _ _ _ _ us hl => match us, hl with | [_], _ => rfl,
    A__law_led := f16, D__law_led := PySem.W.fnOf "_law_led" "_law_led" (defArgs s__law_led) (defBody s__law_led) (defScope s__law_led) .none kV16 dc16 pm16 an16 cd16 ct16, F__law_led := fun_mk (st := s__law_led) l16 c16 k16, g__law_led := PySem.W.mg_of X G a16, b__law_led := (fun_mk (st := s__law_led) l16 c16 k16).binds (ps := ["_law_move", "_law_p"]) fun _ _ _ _ _ _ us hl => match us, hl with | [_, _], _ => rfl,
    A__law_led_ring := f17, D__law_led_ring := PySem.W.fnOf "_law_led_ring" "_law_led_ring" (defArgs s__law_led_ring) (defBody s__law_led_ring) (defScope s__law_led_ring) .none kV17 dc17 pm17 an17 cd17 ct17, F__law_led_ring := fun_mk (st := s__law_led_ring) l17 c17 k17, g__law_led_ring := PySem.W.mg_of X G a17, b__law_led_ring := (fun_mk (st := s__law_led_ring) l17 c17 k17).binds (ps := ["_law_move"]) fun _ _ _ _ _ _ us hl => match us, hl with | [_], _ => rfl,
    A__law_middle := f18, D__law_middle := PySem.W.fnOf "_law_middle" "_law_middle" (defArgs s__law_middle) (defBody s__law_middle) (defScope s__law_middle) .none kV18 dc18 pm18 an18 cd18 ct18, F__law_middle := fun_mk (st := s__law_middle) l18 c18 k18, g__law_middle := PySem.W.mg_of X G a18, b__law_middle := (fun_mk (st := s__law_middle) l18 c18 k18).binds (ps := ["_law_p", "_law_q"]) fun _ _ _ _ _ _ us hl => match us, hl with | [_, _], _ => rfl,
    A__law_spoiled := f19, D__law_spoiled := PySem.W.fnOf "_law_spoiled" "_law_spoiled" (defArgs s__law_spoiled) (defBody s__law_spoiled) (defScope s__law_spoiled) .none kV19 dc19 pm19 an19 cd19 ct19, F__law_spoiled := fun_mk (st := s__law_spoiled) l19 c19 k19, g__law_spoiled := PySem.W.mg_of X G a19, b__law_spoiled := (fun_mk (st := s__law_spoiled) l19 c19 k19).binds (ps := ["_law_moves", "_law_bag_here"]) fun _ _ _ _ _ _ us hl => match us, hl with | [_, _], _ => rfl,
    A__law_copy := f20, D__law_copy := PySem.W.fnOf "_law_copy" "_law_copy" (defArgs s__law_copy) (defBody s__law_copy) (defScope s__law_copy) .none kV20 dc20 pm20 an20 cd20 ct20, F__law_copy := fun_mk (st := s__law_copy) l20 c20 k20, g__law_copy := PySem.W.mg_of X G a20, b__law_copy := (fun_mk (st := s__law_copy) l20 c20 k20).binds (ps := ["_law_moves"]) fun _ _ _ _ _ _ us hl => match us, hl with | [_], _ => rfl,
    A_crossed := f21, D_crossed := PySem.W.fnOf "crossed" "crossed" (defArgs s_crossed) (defBody s_crossed) (defScope s_crossed) .none kV21 dc21 pm21 an21 cd21 ct21, F_crossed := fun_mk (st := s_crossed) l21 c21 k21, g_crossed := PySem.W.mg_of X G a21, b_crossed := (fun_mk (st := s_crossed) l21 c21 k21).binds (ps := ["p", "q"]) fun _ _ _ _ _ _ us hl => match us, hl with | [_, _], _ => rfl,
    A_side := f22, D_side := PySem.W.fnOf "side" "side" (defArgs s_side) (defBody s_side) (defScope s_side) .none kV22 dc22 pm22 an22 cd22 ct22, F_side := fun_mk (st := s_side) l22 c22 k22, g_side := PySem.W.mg_of X G a22, b_side := (fun_mk (st := s_side) l22 c22 k22).binds (ps := ["p", "q", "r"]) fun _ _ _ _ _ _ us hl => match us, hl with | [_, _, _], _ => rfl,
    A_greatest_divisor := f23, D_greatest_divisor := PySem.W.fnOf "greatest_divisor" "greatest_divisor" (defArgs s_greatest_divisor) (defBody s_greatest_divisor) (defScope s_greatest_divisor) .none kV23 dc23 pm23 an23 cd23 ct23, F_greatest_divisor := fun_mk (st := s_greatest_divisor) l23 c23 k23, g_greatest_divisor := PySem.W.mg_of X G a23, b_greatest_divisor := (fun_mk (st := s_greatest_divisor) l23 c23 k23).binds (ps := ["a", "b"]) fun _ _ _ _ _ _ us hl => match us, hl with | [_, _], _ => rfl,
    A_ratio := f24, D_ratio := PySem.W.fnOf "ratio" "ratio" (defArgs s_ratio) (defBody s_ratio) (defScope s_ratio) .none kV24 dc24 pm24 an24 cd24 ct24, F_ratio := fun_mk (st := s_ratio) l24 c24 k24, g_ratio := PySem.W.mg_of X G a24, b_ratio := (fun_mk (st := s_ratio) l24 c24 k24).binds (ps := ["top", "bottom"]) fun _ _ _ _ _ _ us hl => match us, hl with | [_, _], _ => rfl,
    A_line_of := f25, D_line_of := PySem.W.fnOf "line_of" "line_of" (defArgs s_line_of) (defBody s_line_of) (defScope s_line_of) .none kV25 dc25 pm25 an25 cd25 ct25, F_line_of := fun_mk (st := s_line_of) l25 c25 k25, g_line_of := PySem.W.mg_of X G a25, b_line_of := (fun_mk (st := s_line_of) l25 c25 k25).binds (ps := ["p", "q"]) fun _ _ _ _ _ _ us hl => match us, hl with | [_, _], _ => rfl,
    A_count_sides := f26, D_count_sides := PySem.W.fnOf "count_sides" "count_sides" (defArgs s_count_sides) (defBody s_count_sides) (defScope s_count_sides) .none kV26 dc26 pm26 an26 cd26 ct26, F_count_sides := fun_mk (st := s_count_sides) l26 c26 k26, g_count_sides := PySem.W.mg_of X G a26, b_count_sides := (fun_mk (st := s_count_sides) l26 c26 k26).binds (ps := ["tally", "rings", "number"]) fun _ _ _ _ _ _ us hl => match us, hl with | [_, _, _], _ => rfl,
    A_parts_cloth := f27, D_parts_cloth := PySem.W.fnOf "parts_cloth" "parts_cloth" (defArgs s_parts_cloth) (defBody s_parts_cloth) (defScope s_parts_cloth) .none kV27 dc27 pm27 an27 cd27 ct27, F_parts_cloth := fun_mk (st := s_parts_cloth) l27 c27 k27, g_parts_cloth := PySem.W.mg_of X G a27, b_parts_cloth := (fun_mk (st := s_parts_cloth) l27 c27 k27).binds (ps := ["rings", "cloth"]) fun _ _ _ _ _ _ us hl => match us, hl with | [_, _], _ => rfl,
    A_turned := f28, D_turned := PySem.W.fnOf "turned" "turned" (defArgs s_turned) (defBody s_turned) (defScope s_turned) .none kV28 dc28 pm28 an28 cd28 ct28, F_turned := fun_mk (st := s_turned) l28 c28 k28, g_turned := PySem.W.mg_of X G a28, b_turned := (fun_mk (st := s_turned) l28 c28 k28).binds (ps := ["p"]) fun _ _ _ _ _ _ us hl => match us, hl with | [_], _ => rfl,
    A_point := f29, D_point := PySem.W.fnOf "point" "point" (defArgs s_point) (defBody s_point) (defScope s_point) .none kV29 dc29 pm29 an29 cd29 ct29, F_point := fun_mk (st := s_point) l29 c29 k29, g_point := PySem.W.mg_of X G a29, b_point := (fun_mk (st := s_point) l29 c29 k29).binds (ps := ["a", "b", "n"]) fun _ _ _ _ _ _ us hl => match us, hl with | [_, _, _], _ => rfl,
    A_slid := f30, D_slid := PySem.W.fnOf "slid" "slid" (defArgs s_slid) (defBody s_slid) (defScope s_slid) .none kV30 dc30 pm30 an30 cd30 ct30, F_slid := fun_mk (st := s_slid) l30 c30 k30, g_slid := PySem.W.mg_of X G a30, b_slid := (fun_mk (st := s_slid) l30 c30 k30).binds (ps := ["p", "step"]) fun _ _ _ _ _ _ us hl => match us, hl with | [_, _], _ => rfl,
    A_led_ring := f31, D_led_ring := PySem.W.fnOf "led_ring" "led_ring" (defArgs s_led_ring) (defBody s_led_ring) (defScope s_led_ring) .none kV31 dc31 pm31 an31 cd31 ct31, F_led_ring := fun_mk (st := s_led_ring) l31 c31 k31, g_led_ring := PySem.W.mg_of X G a31, b_led_ring := (fun_mk (st := s_led_ring) l31 c31 k31).binds (ps := ["move"]) fun _ _ _ _ _ _ us hl => match us, hl with | [_], _ => rfl,
    A_is_plan := f32, D_is_plan := PySem.W.fnOf "is_plan" "is_plan" (defArgs s_is_plan) (defBody s_is_plan) (defScope s_is_plan) .none kV32 dc32 pm32 an32 cd32 ct32, F_is_plan := fun_mk (st := s_is_plan) l32 c32 k32, g_is_plan := PySem.W.mg_of X G a32, b_is_plan := (fun_mk (st := s_is_plan) l32 c32 k32).binds (ps := ["one", "other", "moves", "turning"]) fun _ _ _ _ _ _ us hl => match us, hl with | [_, _, _, _], _ => rfl,
    A_law := fa, D_law := PySem.W.fnOf "law" "law" (defArgs s_law) (defBody s_law) (defScope s_law) .none kV33 dc33 pm33 an33 cd33 ct33, F_law := fun_mk (st := s_law) l33 c33 k33, g_law := PySem.W.mg_of X G a33, b_law := (fun_mk (st := s_law) l33 c33 k33).binds (ps := ["_law_script"]) fun _ _ _ _ _ _ us hl => match us, hl with | [_], _ => rfl,
    z_abs := PySem.W.mg_none_of X G z_abs,
    z_all := PySem.W.mg_none_of X G z_all,
    z_bool := PySem.W.mg_none_of X G z_bool,
    z_enumerate := PySem.W.mg_none_of X G z_enumerate,
    z_int := PySem.W.mg_none_of X G z_int,
    z_isinstance := PySem.W.mg_none_of X G z_isinstance,
    z_len := PySem.W.mg_none_of X G z_len,
    z_list := PySem.W.mg_none_of X G z_list,
    z_range := PySem.W.mg_none_of X G z_range,
    z_tuple := PySem.W.mg_none_of X G z_tuple }
  exact ⟨_, fun s v => .of_eq rfl, fun base _ _ => ok_law (P := l.prog) (w := w) (base := base) T⟩
theorem walk {l : PySem.W.OpenLaw} {q : Program} {loose : List Str} {XP : (Str → Option Value) → Heap → Prop} {YP : World → Heap → Prop} {d : DefRec} {K : Params → PySem.W.Frag} (hn : l.most = some 63) (hdf : d.params.defaults = [])
    (hY : ∀ (w : World) (h : Heap), YP w h → (K w.params).In h)
    (F : ∀ (w : World) (mg : Str → Option Value) (fa : Addr) (h : Heap), (K w.params).In h → h.Ns mainGlobals mg → mg d.name = some (.ref fa) →
      ∃ fd : FuncData, (∀ (s : Shared) (u : Value), BindsTo s fd ⟨[u], []⟩ [("_law_script", u)]) ∧ ∀ base : Heap, (K w.params).In base → base.Ns mainGlobals mg → FnOk l.prog w (K w.params) mg base CX0 7 fa fd ["_law_script"] (sp_law (K w.params))) :
    PySem.W.WalkO q loose XP YP l.row.toRowW d [] (fun f vs => PySem.call f vs) :=
  L2.walk_of (n := 63) (k := 7) (x := "_law_script") (CX := fun _ => CX0) (sp := fun w => sp_law (K w.params)) hn (by decide) hdf ⟨rfl, by decide, by decide⟩ hY F (fun _ H a ns hl _ hS => mk_law (X := fun _ => False) (law_true ns hl) ⟨.s (.of hS) .nil, List.nodup_nil, fun _ h => (nomatch h), fun _ h => h.elim⟩ fun _ _ => rfl) fun _ _ _ _ _ z => z
end Sc
open PySem PySem.W PyProof.Rows
set_option maxRecDepth 100000 in
set_option maxHeartbeats 0 in
theorem PySem.Challenge.cw_slidecut_k61_plans_spoiled_holds : PySem.Challenge.rw_slidecut_k61_plans_spoiled.Holds := by
  w_on; o_law; k_head; (case hw => w_witness2)
  k_fill
  refine Sc.walk (l := PySem.Challenge.rw_slidecut_k61_plans_spoiled) rfl rfl (fun w h Y => PySem.W.kIn_of Y) ?F
  case F =>
    intro w mg fa h KX G hmg
    refine' Sc.all_mk KX G hmg ?a0 ?l0 ?c0 ?k0 ?a1 ?l1 ?c1 ?k1 ?a2 ?l2 ?c2 ?k2 ?a3 ?l3 ?c3 ?k3 ?a4 ?l4 ?c4 ?k4 ?a5 ?l5 ?c5 ?k5 ?a6 ?l6 ?c6 ?k6 ?a7 ?l7 ?c7 ?k7 ?a8 ?l8 ?c8 ?k8 ?a9 ?l9 ?c9 ?k9 ?a10 ?l10 ?c10 ?k10 ?a11 ?l11 ?c11 ?k11 ?a12 ?l12 ?c12 ?k12 ?a13 ?l13 ?c13 ?k13 ?a14 ?l14 ?c14 ?k14 ?a15 ?l15 ?c15 ?k15 ?a16 ?l16 ?c16 ?k16 ?a17 ?l17 ?c17 ?k17 ?a18 ?l18 ?c18 ?k18 ?a19 ?l19 ?c19 ?k19 ?a20 ?l20 ?c20 ?k20 ?a21 ?l21 ?c21 ?k21 ?a22 ?l22 ?c22 ?k22 ?a23 ?l23 ?c23 ?k23 ?a24 ?l24 ?c24 ?k24 ?a25 ?l25 ?c25 ?k25 ?a26 ?l26 ?c26 ?k26 ?a27 ?l27 ?c27 ?k27 ?a28 ?l28 ?c28 ?k28 ?a29 ?l29 ?c29 ?k29 ?a30 ?l30 ?c30 ?k30 ?a31 ?l31 ?c31 ?k31 ?a32 ?l32 ?c32 ?k32 ?a33 ?l33 ?c33 ?k33 ?z_abs ?z_all ?z_bool ?z_enumerate ?z_int ?z_isinstance ?z_len ?z_list ?z_range ?z_tuple
    (case a0 => k_is)
    (case l0 => k_is)
    (case c0 => k_is)
    (case k0 => k_is)
    (case a1 => k_is)
    (case l1 => k_is)
    (case c1 => k_is)
    (case k1 => k_is)
    (case a2 => k_is)
    (case l2 => k_is)
    (case c2 => k_is)
    (case k2 => k_is)
    (case a3 => k_is)
    (case l3 => k_is)
    (case c3 => k_is)
    (case k3 => k_is)
    (case a4 => k_is)
    (case l4 => k_is)
    (case c4 => k_is)
    (case k4 => k_is)
    (case a5 => k_is)
    (case l5 => k_is)
    (case c5 => k_is)
    (case k5 => k_is)
    (case a6 => k_is)
    (case l6 => k_is)
    (case c6 => k_is)
    (case k6 => k_is)
    (case a7 => k_is)
    (case l7 => k_is)
    (case c7 => k_is)
    (case k7 => k_is)
    (case a8 => k_is)
    (case l8 => k_is)
    (case c8 => k_is)
    (case k8 => k_is)
    (case a9 => k_is)
    (case l9 => k_is)
    (case c9 => k_is)
    (case k9 => k_is)
    (case a10 => k_is)
    (case l10 => k_is)
    (case c10 => k_is)
    (case k10 => k_is)
    (case a11 => k_is)
    (case l11 => k_is)
    (case c11 => k_is)
    (case k11 => k_is)
    (case a12 => k_is)
    (case l12 => k_is)
    (case c12 => k_is)
    (case k12 => k_is)
    (case a13 => k_is)
    (case l13 => k_is)
    (case c13 => k_is)
    (case k13 => k_is)
    (case a14 => k_is)
    (case l14 => k_is)
    (case c14 => k_is)
    (case k14 => k_is)
    (case a15 => k_is)
    (case l15 => k_is)
    (case c15 => k_is)
    (case k15 => k_is)
    (case a16 => k_is)
    (case l16 => k_is)
    (case c16 => k_is)
    (case k16 => k_is)
    (case a17 => k_is)
    (case l17 => k_is)
    (case c17 => k_is)
    (case k17 => k_is)
    (case a18 => k_is)
    (case l18 => k_is)
    (case c18 => k_is)
    (case k18 => k_is)
    (case a19 => k_is)
    (case l19 => k_is)
    (case c19 => k_is)
    (case k19 => k_is)
    (case a20 => k_is)
    (case l20 => k_is)
    (case c20 => k_is)
    (case k20 => k_is)
    (case a21 => k_is)
    (case l21 => k_is)
    (case c21 => k_is)
    (case k21 => k_is)
    (case a22 => k_is)
    (case l22 => k_is)
    (case c22 => k_is)
    (case k22 => k_is)
    (case a23 => k_is)
    (case l23 => k_is)
    (case c23 => k_is)
    (case k23 => k_is)
    (case a24 => k_is)
    (case l24 => k_is)
    (case c24 => k_is)
    (case k24 => k_is)
    (case a25 => k_is)
    (case l25 => k_is)
    (case c25 => k_is)
    (case k25 => k_is)
    (case a26 => k_is)
    (case l26 => k_is)
    (case c26 => k_is)
    (case k26 => k_is)
    (case a27 => k_is)
    (case l27 => k_is)
    (case c27 => k_is)
    (case k27 => k_is)
    (case a28 => k_is)
    (case l28 => k_is)
    (case c28 => k_is)
    (case k28 => k_is)
    (case a29 => k_is)
    (case l29 => k_is)
    (case c29 => k_is)
    (case k29 => k_is)
    (case a30 => k_is)
    (case l30 => k_is)
    (case c30 => k_is)
    (case k30 => k_is)
    (case a31 => k_is)
    (case l31 => k_is)
    (case c31 => k_is)
    (case k31 => k_is)
    (case a32 => k_is)
    (case l32 => k_is)
    (case c32 => k_is)
    (case k32 => k_is)
    (case a33 => k_is)
    (case l33 => k_is)
    (case c33 => k_is)
    (case k33 => k_is)
    (case z_abs => k_is)
    (case z_all => k_is)
    (case z_bool => k_is)
    (case z_enumerate => k_is)
    (case z_int => k_is)
    (case z_isinstance => k_is)
    (case z_len => k_is)
    (case z_list => k_is)
    (case z_range => k_is)
    (case z_tuple => k_is)
#print axioms PySem.Challenge.cw_slidecut_k61_plans_spoiled_holds
