import PyProof.Rows.All
import Wide.All
import OpenK.AllK
import Wide.FinOn
import HandS.ForMost
import HandS.Wide
import HandS.IsInst
import HandS.Style
import HandS.Deep
import HandS.TryOnly
import HandS.ExcOwn
import HandS.ExcIs
import HandS.WordsExc
import KE.DataMinMax
import HandS.TupLe
import HandS.TupSets
import HandS.Steps
import HandS.Conv
import HandS.Walk
import HandS.SortRule
import HandS.DictTup
import KE.KDictPairs
import KE.KDictKeyed
import HandS.Zip
import HandS.More
import KE.KDictKeyed
import PySem.Challenge.RW_slidecut_k48_what_two_rings_have_in_comm
set_option Elab.async false
set_option maxRecDepth 100000
set_option maxHeartbeats 4000000
set_option linter.unusedVariables false
namespace Sc
open PySem PySem.Spec PyProof.Rows L2

/-! ### data in the heap -/
mutual
/-- v stands for the data d; no list of it is one of X -/
inductive Rep (K : PySem.W.Frag) (X : Addr → Prop) (H : Hp) : PyData → V → Prop
  | non : Rep K X H .none .non
  | bl (b : Bool) : Rep K X H (.bool b) (.bl b)
  | int (i : Int) : Rep K X H (.int i) (.int i)
  | str (x : Str) : Rep K X H (.str x) (.str x)
  | tup {a : Addr} {ds : List PyData} {vs : List V} : H a = some (.tup vs) → Reps K X H ds vs → Rep K X H (.tuple ds) (.ref a)
  | lst {a : Addr} {ds : List PyData} {vs : List V} : ¬ X a → Rd H a (.lst vs) → Reps K X H ds vs → Rep K X H (.list ds) (.ref a)
inductive Reps (K : PySem.W.Frag) (X : Addr → Prop) (H : Hp) : List PyData → List V → Prop
  | nil : Reps K X H [] []
  | cons {d : PyData} {ds : List PyData} {v : V} {vs : List V} : Rep K X H d v → Reps K X H ds vs → Reps K X H (d :: ds) (v :: vs)
end

/-- what may not be written stands as it stood -/
def Keep (X : Addr → Prop) (H H' : Hp) : Prop :=
  (∀ a o, H a = some o → ¬ X a → H' a = some o) ∧ (∀ a vs, H a = some (.tup vs) → H' a = some (.tup vs)) ∧ (∀ a o u, H a = some (.frz o u) → H' a = some (.frz o u))
theorem Keep.refl {X : Addr → Prop} {H : Hp} : Keep X H H := ⟨fun _ _ h _ => h, fun _ _ h => h, fun _ _ _ h => h⟩
theorem Keep.same {X : Addr → Prop} {H H' : Hp} (s : Same H H') : Keep X H H' := ⟨fun _ _ h _ => s _ _ h, fun _ _ h => s _ _ h, fun _ _ _ h => s _ _ h⟩
theorem Keep.rd {X : Addr → Prop} {H H' : Hp} (k : Keep X H H') {a : Addr} {o : HO} (n : ¬ X a) (h : Rd H a o) : Rd H' a o := by
  rcases h with h | ⟨u, h⟩
  · exact .inl (k.1 _ _ h n)
  · exact .inr ⟨u, k.2.2 _ _ _ h⟩
theorem Keep.sqT {X : Addr → Prop} {K : PySem.W.Frag} {H H' : Hp} (k : Keep X H H') {a : Addr} {vs : List V} (h : SqT K H a vs) : SqT K H' a vs := by
  rcases h with (h | ⟨o, h⟩) | h
  · exact .inl (.inl (k.2.1 _ _ h))
  · exact .inl (.inr ⟨o, k.2.2 _ _ _ h⟩)
  · exact .inr h
theorem Keep.mono {X Y : Addr → Prop} {H H' : Hp} (k : Keep X H H') (h : ∀ a, X a → Y a) : Keep Y H H' := ⟨fun a o e n => k.1 a o e fun z => n (h a z), k.2.1, k.2.2⟩
theorem Keep.trans {X : Addr → Prop} {H H1 H2 : Hp} (k : Keep X H H1) (j : Keep X H1 H2) : Keep X H H2 := ⟨fun a o e n => j.1 a o (k.1 a o e n) n, fun a v e => j.2.1 a v (k.2.1 a v e), fun a o u e => j.2.2 a o u (k.2.2 a o u e)⟩

section
variable {K : PySem.W.Frag} {X Y : Addr → Prop} {H H' : Hp}
mutual
theorem Rep.keep (k : Keep X H H') : ∀ {d : PyData} {v : V}, Rep K X H d v → Rep K X H' d v
  | _, _, .non => .non
  | _, _, .bl b => .bl b
  | _, _, .int i => .int i
  | _, _, .str x => .str x
  | _, _, .tup h r => .tup (k.2.1 _ _ h) (Reps.keep k r)
  | _, _, .lst n h r => .lst n (k.rd n h) (Reps.keep k r)
theorem Reps.keep (k : Keep X H H') : ∀ {d : List PyData} {v : List V}, Reps K X H d v → Reps K X H' d v
  | _, _, .nil => .nil
  | _, _, .cons r t => .cons (Rep.keep k r) (Reps.keep k t)
end
mutual
theorem Rep.anti (h : ∀ a, Y a → X a) : ∀ {d : PyData} {v : V}, Rep K X H d v → Rep K Y H d v
  | _, _, .non => .non
  | _, _, .bl b => .bl b
  | _, _, .int i => .int i
  | _, _, .str x => .str x
  | _, _, .tup q r => .tup q (Reps.anti h r)
  | _, _, .lst n q r => .lst (fun z => n (h _ z)) q (Reps.anti h r)
theorem Reps.anti (h : ∀ a, Y a → X a) : ∀ {d : List PyData} {v : List V}, Reps K X H d v → Reps K Y H d v
  | _, _, .nil => .nil
  | _, _, .cons r t => .cons (Rep.anti h r) (Reps.anti h t)
end
theorem rd_nn {a : Addr} {o : HO} (h : Rd H a o) : H a ≠ none := by
  rcases h with h | ⟨u, h⟩ <;> rw [h] <;> exact fun z => nomatch z
mutual
/-- a new address may be forbidden -/
theorem Rep.more {p : Addr} (hp : H p = none) : ∀ {d : PyData} {v : V}, Rep K X H d v → Rep K (fun a => X a ∨ a = p) H d v
  | _, _, .non => .non
  | _, _, .bl b => .bl b
  | _, _, .int i => .int i
  | _, _, .str x => .str x
  | _, _, .tup q r => .tup q (Reps.more hp r)
  | _, _, .lst n q r => .lst (fun z => z.elim n fun e => rd_nn q (e ▸ hp)) q (Reps.more hp r)
theorem Reps.more {p : Addr} (hp : H p = none) : ∀ {d : List PyData} {v : List V}, Reps K X H d v → Reps K (fun a => X a ∨ a = p) H d v
  | _, _, .nil => .nil
  | _, _, .cons r t => .cons (Rep.more hp r) (Reps.more hp t)
end
mutual
theorem Rep.dp : ∀ {d : PyData} {v : V}, Rep K X H d v → Dp K H v d
  | _, _, .non => .non
  | _, _, .bl b => .bl b
  | _, _, .int i => .int i
  | _, _, .str x => .str x
  | _, _, .tup q r => .tup (.inl (.inl q)) (Reps.dp r)
  | _, _, .lst n q r => .lst (.inl q) (Reps.dp r)
theorem Reps.dp : ∀ {d : List PyData} {v : List V}, Reps K X H d v → DpAll K H v d
  | _, _, .nil => .nil
  | _, _, .cons r t => .cons (Rep.dp r) (Reps.dp t)
end
theorem Reps.length : ∀ {ds : List PyData} {vs : List V}, Reps K X H ds vs → vs.length = ds.length
  | _, _, .nil => rfl
  | _, _, .cons _ t => congrArg (· + 1) (Reps.length t)
theorem Reps.get : ∀ {ds : List PyData} {vs : List V} {i : Nat} {d : PyData}, Reps K X H ds vs → ds[i]? = some d → ∃ v, vs[i]? = some v ∧ Rep K X H d v
  | _, _, _, _, .nil, e => by simp at e
  | _, _, 0, _, .cons r _, e => by simp at e; subst e; exact ⟨_, rfl, r⟩
  | _, _, i + 1, d, .cons _ t, e => by
    obtain ⟨v, h1, h2⟩ := Reps.get (i := i) t (by simpa using e)
    exact ⟨v, by simpa using h1, h2⟩
theorem Reps.get' : ∀ {ds : List PyData} {vs : List V} {i : Nat} {v : V}, Reps K X H ds vs → vs[i]? = some v → ∃ d, ds[i]? = some d ∧ Rep K X H d v
  | _, _, _, _, .nil, e => by simp at e
  | _, _, 0, _, .cons r _, e => by simp at e; subst e; exact ⟨_, rfl, r⟩
  | _, _, i + 1, d, .cons _ t, e => by
    obtain ⟨v, h1, h2⟩ := Reps.get' (i := i) t (by simpa using e)
    exact ⟨v, by simpa using h1, h2⟩
theorem Reps.append : ∀ {d1 d2 : List PyData} {v1 v2 : List V}, Reps K X H d1 v1 → Reps K X H d2 v2 → Reps K X H (d1 ++ d2) (v1 ++ v2)
  | _, _, _, _, .nil, s => s
  | _, _, _, _, .cons r t, s => .cons r (Reps.append t s)
theorem Reps.take : ∀ {d1 : List PyData} {v1 : List V} (n : Nat), Reps K X H d1 v1 → Reps K X H (d1.take n) (v1.take n)
  | _, _, 0, _ => .nil
  | _, _, _ + 1, .nil => .nil
  | _, _, n + 1, .cons r t => .cons r (Reps.take n t)
theorem Reps.drop : ∀ {d1 : List PyData} {v1 : List V} (n : Nat), Reps K X H d1 v1 → Reps K X H (d1.drop n) (v1.drop n)
  | _, _, 0, h => h
  | _, _, _ + 1, .nil => .nil
  | _, _, n + 1, .cons _ t => Reps.drop n t
theorem Reps.set {d : PyData} {v : V} (q : Rep K X H d v) : ∀ {d1 : List PyData} {v1 : List V} (n : Nat), Reps K X H d1 v1 → Reps K X H (d1.set n d) (v1.set n v)
  | _, _, _, .nil => .nil
  | _, _, 0, .cons _ t => .cons q t
  | _, _, n + 1, .cons r t => .cons r (Reps.set q n t)
theorem Reps.reverse {ds : List PyData} {vs : List V} (h : Reps K X H ds vs) : Reps K X H ds.reverse vs.reverse := by
  induction ds generalizing vs with
  | nil => cases h; exact .nil
  | cons d ds ih => cases h with | cons r t => rw [List.reverse_cons, List.reverse_cons]; exact (ih t).append (.cons r .nil)
theorem Reps.ints : ∀ {ns : List Int}, Reps K X H (ns.map PyData.int) (ns.map V.int)
  | [] => .nil
  | n :: ns => .cons (.int n) Reps.ints
theorem Reps.toInts : ∀ {ns : List Int} {vs : List V}, Reps K X H (ns.map PyData.int) vs → vs = ns.map V.int
  | [], _, .nil => rfl
  | n :: ns, _, .cons (.int _) t => by rw [List.map_cons, Reps.toInts t]
theorem Reps.toBools : ∀ {ns : List Bool} {vs : List V}, Reps K X H (ns.map PyData.bool) vs → vs = ns.map V.bl
  | [], _, .nil => rfl
  | n :: ns, _, .cons (.bl _) t => by rw [List.map_cons, Reps.toBools t]
end

/-! ### Lean data as Python data -/
class Py (α : Type) where
  enc : α → PyData
open Py (enc)
instance : Py Int := ⟨.int⟩
instance : Py Bool := ⟨.bool⟩
instance : Py Unit := ⟨fun _ => .none⟩
instance : Py Str := ⟨.str⟩
structure T1 (α : Type) where
  a : α
  deriving DecidableEq
structure T2 (α β : Type) where
  a : α
  b : β
  deriving DecidableEq
structure T3 (α β γ : Type) where
  a : α
  b : β
  c : γ
  deriving DecidableEq
structure T4 (α β γ δ : Type) where
  a : α
  b : β
  c : γ
  d : δ
  deriving DecidableEq
structure T5 (α β γ δ ε : Type) where
  a : α
  b : β
  c : γ
  d : δ
  e : ε
  deriving DecidableEq
section
variable {α β γ δ ε : Type}
instance [Py α] : Py (T1 α) := ⟨fun x => .tuple [enc x.a]⟩
instance [Py α] [Py β] : Py (T2 α β) := ⟨fun x => .tuple [enc x.a, enc x.b]⟩
instance [Py α] [Py β] [Py γ] : Py (T3 α β γ) := ⟨fun x => .tuple [enc x.a, enc x.b, enc x.c]⟩
instance [Py α] [Py β] [Py γ] [Py δ] : Py (T4 α β γ δ) := ⟨fun x => .tuple [enc x.a, enc x.b, enc x.c, enc x.d]⟩
instance [Py α] [Py β] [Py γ] [Py δ] [Py ε] : Py (T5 α β γ δ ε) := ⟨fun x => .tuple [enc x.a, enc x.b, enc x.c, enc x.d, enc x.e]⟩
instance [Py α] : Py (List α) := ⟨fun xs => .list (xs.map enc)⟩
instance [Py α] : Py (Option α) := ⟨fun x => match x with | none => .none | some y => enc y⟩
end

/-- the script -/
def SqX (K : PySem.W.Frag) (X : Addr → Prop) (H : Hp) (ns : List Int) (v : V) : Prop := ∃ a, v = .ref a ∧ ((¬ X a ∧ Rd H a (.lst (ns.map V.int))) ∨ ∀ H', SqL K H' a (ns.map V.int))
section
variable {K : PySem.W.Frag} {X Y : Addr → Prop} {H H' : Hp} {ns : List Int} {v : V}
theorem SqX.keep (k : Keep X H H') (h : SqX K X H ns v) : SqX K X H' ns v := by
  obtain ⟨a, e, h⟩ := h
  exact ⟨a, e, h.imp (fun z => ⟨z.1, k.rd z.1 z.2⟩) id⟩
theorem SqX.anti (g : ∀ a, Y a → X a) (h : SqX K X H ns v) : SqX K Y H ns v := by
  obtain ⟨a, e, h⟩ := h
  exact ⟨a, e, h.imp (fun z => ⟨fun y => z.1 (g _ y), z.2⟩) id⟩
theorem SqX.more {p : Addr} (hp : H p = none) (h : SqX K X H ns v) : SqX K (fun a => X a ∨ a = p) H ns v := by
  obtain ⟨a, e, h⟩ := h
  exact ⟨a, e, h.imp (fun z => ⟨fun y => y.elim z.1 fun e => rd_nn z.2 (e ▸ hp), z.2⟩) id⟩
theorem SqX.sq (h : SqX K X H ns v) : ∃ a, v = .ref a ∧ SqL K H a (ns.map V.int) := by
  obtain ⟨a, e, h⟩ := h
  exact ⟨a, e, h.elim (fun z => .inl z.2) fun z => z H⟩
theorem SqX.of {a : Addr} (h : SqL K H a (ns.map V.int)) : SqX K (fun _ => False) H ns (.ref a) := ⟨a, rfl, h.elim (fun z => .inl ⟨id, z⟩) fun z => .inr fun _ => .inr z⟩
end

/-! ### the state of a def's body -/
/-- an object that the body may write -/
inductive MO where
  | lst (ds : List PyData)
  | lstZ (Z : Addr → Prop) (ds : List PyData)
  | any
  | dct (es : List (List L2.Key × PyData))
  | ex (R : Addr → (Addr → Prop) → Hp → Prop)
/-- an object of a list -/
abbrev ml {α : Type} [Py α] (xs : List α) : MO := .lst (xs.map enc)
/-- a slot: nothing known, data, an object that may be written; tmp: such an object in no slot -/
inductive Sl where
  | unk
  | scr (ns : List Int)
  | ref (a : Addr)
  | imm (d : PyData)
  | fix (Z : Addr → Prop) (d : PyData)
  | fixN (Z : Addr → Prop) (d : PyData)
  | lax (i j : Int)
  | mu (p : Addr) (o : MO)
  | tmp (p : Addr) (o : MO)
def Sl.ad : Sl → Option Addr
  | .mu p _ => some p
  | .tmp p _ => some p
  | _ => none
def muts (Γ : List Sl) : List Addr := Γ.filterMap Sl.ad
/-- a set of addresses that a new list is not in -/
def Frz (H : Hp) (b : Addr) : Prop := ∃ o u, H b = some (.frz o u)
abbrev NewX (X Z : Addr → Prop) (H : Hp) : Addr → Prop := fun b => X b ∨ ¬ Z b ∨ Frz H b
mutual
theorem Rep.keepF {K : PySem.W.Frag} {X Z : Addr → Prop} {H H' : Hp} (k : Keep X H H') : ∀ {d : PyData} {v : V}, Rep K (NewX X Z H) H d v → Rep K (NewX X Z H') H' d v
  | _, _, .non => .non
  | _, _, .bl b => .bl b
  | _, _, .int i => .int i
  | _, _, .str x => .str x
  | _, _, .tup h r => .tup (k.2.1 _ _ h) (Reps.keepF k r)
  | _, _, .lst n h r => by
    rcases h with h | ⟨o, h⟩
    · have h' := k.1 _ _ h fun z => n (.inl z)
      exact .lst (fun z => z.elim (fun z => n (.inl z)) fun z => z.elim (fun z => n (.inr (.inl z))) fun ⟨o, u, z⟩ => by rw [h'] at z; cases z) (.inl h') (Reps.keepF k r)
    · exact (n (.inr (.inr ⟨_, _, h⟩))).elim
theorem Reps.keepF {K : PySem.W.Frag} {X Z : Addr → Prop} {H H' : Hp} (k : Keep X H H') : ∀ {d : List PyData} {v : List V}, Reps K (NewX X Z H) H d v → Reps K (NewX X Z H') H' d v
  | _, _, .nil => .nil
  | _, _, .cons r t => .cons (Rep.keepF k r) (Reps.keepF k t)
end
/-- the entries of a dict, in order -/
inductive DReps (K : PySem.W.Frag) (X : Addr → Prop) (H : Hp) : List (List L2.Key × PyData) → List (List L2.Key × V) → Prop
  | nil : DReps K X H [] []
  | cons {k : List L2.Key} {d : PyData} {v : V} {es : List (List L2.Key × PyData)} {kvs : List (List L2.Key × V)} : Rep K X H d v → DReps K X H es kvs → DReps K X H ((k, d) :: es) ((k, v) :: kvs)
theorem DReps.keep {K : PySem.W.Frag} {X : Addr → Prop} {H H' : Hp} (k : Keep X H H') : ∀ {es : List (List L2.Key × PyData)} {kvs : List (List L2.Key × V)}, DReps K X H es kvs → DReps K X H' es kvs
  | _, _, .nil => .nil
  | _, _, .cons r t => .cons (r.keep k) (DReps.keep k t)
theorem DReps.anti {K : PySem.W.Frag} {X Y : Addr → Prop} {H : Hp} (h : ∀ a, Y a → X a) : ∀ {es : List (List L2.Key × PyData)} {kvs : List (List L2.Key × V)}, DReps K X H es kvs → DReps K Y H es kvs
  | _, _, .nil => .nil
  | _, _, .cons r t => .cons (r.anti h) (DReps.anti h t)
theorem DReps.more {K : PySem.W.Frag} {X : Addr → Prop} {H : Hp} {p : Addr} (h : H p = none) : ∀ {es : List (List L2.Key × PyData)} {kvs : List (List L2.Key × V)}, DReps K X H es kvs → DReps K (fun a => X a ∨ a = p) H es kvs
  | _, _, .nil => .nil
  | _, _, .cons r t => .cons (r.more h) (DReps.more h t)
/-- what any other description of an object must keep -/
structure RX (R : Addr → (Addr → Prop) → Hp → Prop) : Prop where
  keep : ∀ {p : Addr} {X : Addr → Prop} {H H' : Hp}, Keep X H H' → H' p = H p → R p X H → R p X H'
  anti : ∀ {p : Addr} {X Y : Addr → Prop} {H : Hp}, (∀ a, Y a → X a) → R p X H → R p Y H
  more : ∀ {p q : Addr} {X : Addr → Prop} {H : Hp}, H q = none → R p X H → R p (fun a => X a ∨ a = q) H
  nn : ∀ {p : Addr} {X : Addr → Prop} {H : Hp}, R p X H → H p ≠ none
  ntup : ∀ {p : Addr} {X : Addr → Prop} {H : Hp}, R p X H → (∀ vs, H p ≠ some (.tup vs)) ∧ (∀ u w, H p ≠ some (.frz u w))
/-- the object at p is o -/
def MRep (K : PySem.W.Frag) (X : Addr → Prop) (H : Hp) (p : Addr) : MO → Prop
  | .lst ds => ∃ vs, H p = some (.lst vs) ∧ Reps K X H ds vs
  | .lstZ Z ds => ∃ vs, H p = some (.lst vs) ∧ Reps K (NewX X Z H) H ds vs
  | .any => ∃ vs, H p = some (.lst vs)
  | .dct es => ∃ kvs, H p = some (.dT kvs) ∧ DReps K X H es kvs
  | .ex R => RX R ∧ R p X H
def SlOk (K : PySem.W.Frag) (X : Addr → Prop) (H : Hp) (v : Option (Option V)) : Sl → Prop
  | .unk => True
  | .scr ns => ∃ u, v = some (some u) ∧ SqX K X H ns u
  | .ref a => v = some (some (.ref a))
  | .imm d => ∃ u, v = some (some u) ∧ Rep K X H d u
  | .fix Z d => ∃ u, v = some (some u) ∧ Rep K (fun b => X b ∨ ¬ Z b) H d u
  | .fixN Z d => ∃ u, v = some (some u) ∧ Rep K (NewX X Z H) H d u
  | .lax i j => ∃ a, v = some (some (.ref a)) ∧ SqT K H a [.int i, .int j]
  | .mu p o => v = some (some (.ref p)) ∧ MRep K X H p o
  | .tmp p o => MRep K X H p o
/-- the known ones: the written part, what may be written at the entry, the heap there, whose objects the body may change -/
structure Cn where
  K : PySem.W.Frag
  X0 : Addr → Prop
  H0 : Hp
  P0 : List Addr
  n : Nat
structure Lo (C : Cn) (X : Addr → Prop) (H : Hp) (σ : L2.St) (Γ : List Sl) : Prop where
  len : σ.length = C.n
  at_ : ∀ (i : Nat) (s : Sl), Γ[i]? = some s → SlOk C.K X H σ[i]? s
  nd : (muts Γ).Nodup
  mx : ∀ p ∈ muts Γ, X p
  m0 : ∀ a, C.X0 a → X a
  xd : ∀ a, X a → H a ≠ none
  base : ∀ a o, C.H0 a = some o → a ∉ C.P0 → H a = some o
  dom : ∀ a, C.H0 a ≠ none → H a ≠ none
  own : ∀ p ∈ muts Γ, p ∈ C.P0 ∨ C.H0 p = none
  tf : ∀ a ∈ C.P0, (∀ vs, C.H0 a ≠ some (.tup vs)) ∧ (∀ o u, C.H0 a ≠ some (.frz o u))

theorem MRep.keep {K : PySem.W.Frag} {X : Addr → Prop} {H H' : Hp} {p : Addr} (k : Keep X H H') (e : H' p = H p) : ∀ {o : MO}, MRep K X H p o → MRep K X H' p o
  | .lst _, ⟨vs, h, r⟩ => ⟨vs, e.trans h, r.keep k⟩
  | .lstZ _ _, ⟨vs, h, r⟩ => ⟨vs, e.trans h, r.keepF k⟩
  | .any, ⟨vs, h⟩ => ⟨vs, e.trans h⟩
  | .dct _, ⟨vs, h, r⟩ => ⟨vs, e.trans h, r.keep k⟩
  | .ex _, ⟨x, r⟩ => ⟨x, x.keep k e r⟩
theorem MRep.anti {K : PySem.W.Frag} {X Y : Addr → Prop} {H : Hp} {p : Addr} (h : ∀ a, Y a → X a) : ∀ {o : MO}, MRep K X H p o → MRep K Y H p o
  | .lst _, ⟨vs, q, r⟩ => ⟨vs, q, r.anti h⟩
  | .lstZ _ _, ⟨vs, q, r⟩ => ⟨vs, q, r.anti fun a z => z.imp (h a) id⟩
  | .any, h => h
  | .dct _, ⟨vs, q, r⟩ => ⟨vs, q, r.anti h⟩
  | .ex _, ⟨x, r⟩ => ⟨x, x.anti h r⟩
theorem MRep.more {K : PySem.W.Frag} {X : Addr → Prop} {H : Hp} {p q : Addr} (h : H q = none) : ∀ {o : MO}, MRep K X H p o → MRep K (fun a => X a ∨ a = q) H p o
  | .lst _, ⟨vs, e, r⟩ => ⟨vs, e, r.more h⟩
  | .lstZ _ _, ⟨vs, e, r⟩ => ⟨vs, e, (r.more h).anti fun a z => z.elim (fun z => z.elim (fun z => .inl (.inl z)) .inr) fun z => .inl (.inr z)⟩
  | .any, h => h
  | .dct _, ⟨vs, e, r⟩ => ⟨vs, e, r.more h⟩
  | .ex _, ⟨x, r⟩ => ⟨x, x.more h r⟩
theorem MRep.nn {K : PySem.W.Frag} {X : Addr → Prop} {H : Hp} {p : Addr} : ∀ {o : MO}, MRep K X H p o → H p ≠ none
  | .lst _, ⟨vs, e, r⟩ => by rw [e]; exact fun z => nomatch z
  | .lstZ _ _, ⟨vs, e, r⟩ => by rw [e]; exact fun z => nomatch z
  | .any, ⟨vs, e⟩ => by rw [e]; exact fun z => nomatch z
  | .dct _, ⟨vs, e, r⟩ => by rw [e]; exact fun z => nomatch z
  | .ex _, ⟨x, r⟩ => x.nn r
theorem MRep.ntup {K : PySem.W.Frag} {X : Addr → Prop} {H : Hp} {p : Addr} : ∀ {o : MO}, MRep K X H p o → (∀ vs, H p ≠ some (.tup vs)) ∧ (∀ u w, H p ≠ some (.frz u w))
  | .lst _, ⟨vs, e, r⟩ => by
    rw [e]
    constructor
    · intro _ z; cases z
    · intro _ _ z; cases z
  | .lstZ _ _, ⟨vs, e, r⟩ => by
    rw [e]
    constructor
    · intro _ z; cases z
    · intro _ _ z; cases z
  | .any, ⟨vs, e⟩ => by
    rw [e]
    constructor
    · intro _ z; cases z
    · intro _ _ z; cases z
  | .ex _, ⟨x, r⟩ => x.ntup r
  | .dct _, ⟨vs, e, r⟩ => by
    rw [e]
    constructor
    · intro _ z; cases z
    · intro _ _ z; cases z

theorem mem_muts {Γ : List Sl} {p : Addr} : p ∈ muts Γ ↔ ∃ (i : Nat) (s : Sl), Γ[i]? = some s ∧ s.ad = some p := by
  unfold muts
  rw [List.mem_filterMap]
  constructor
  · rintro ⟨s, hs, e⟩
    obtain ⟨i, hi⟩ := List.getElem?_of_mem hs
    exact ⟨i, s, hi, e⟩
  · rintro ⟨i, s, hi, e⟩
    exact ⟨s, List.mem_of_getElem? hi, e⟩

section
variable {C : Cn} {X : Addr → Prop} {H H' : Hp} {σ : L2.St} {Γ : List Sl}
theorem SlOk.mrep {K : PySem.W.Frag} {v : Option (Option V)} {s : Sl} {p : Addr} (h : SlOk K X H v s) (e : s.ad = some p) : ∃ o, MRep K X H p o := by
  cases s with
  | unk => cases e
  | scr ns => cases e
  | ref a => cases e
  | imm d => cases e
  | fix Z d => cases e
  | fixN Z d => cases e
  | lax i j => cases e
  | mu q o => cases e; exact ⟨o, h.2⟩
  | tmp q o => cases e; exact ⟨o, h⟩
theorem SlOk.keep {K : PySem.W.Frag} {v : Option (Option V)} (k : Keep X H H') : ∀ {s : Sl}, (∀ p, s.ad = some p → H' p = H p) → SlOk K X H v s → SlOk K X H' v s
  | .unk, _, _ => trivial
  | .scr _, _, ⟨u, e, r⟩ => ⟨u, e, r.keep k⟩
  | .ref _, _, e => e
  | .imm _, _, ⟨u, e, r⟩ => ⟨u, e, r.keep k⟩
  | .fix _ _, _, ⟨u, e, r⟩ => ⟨u, e, r.keep (k.mono fun _ => .inl)⟩
  | .fixN _ _, _, ⟨u, e, r⟩ => ⟨u, e, r.keepF k⟩
  | .lax _ _, _, ⟨u, e, r⟩ => ⟨u, e, k.sqT r⟩
  | .mu p _, g, ⟨e, r⟩ => ⟨e, r.keep k (g p rfl)⟩
  | .tmp p _, g, r => MRep.keep k (g p rfl) r
theorem SlOk.anti {K : PySem.W.Frag} {Y : Addr → Prop} {v : Option (Option V)} (h : ∀ a, Y a → X a) : ∀ {s : Sl}, SlOk K X H v s → SlOk K Y H v s
  | .unk, _ => trivial
  | .scr _, ⟨u, e, r⟩ => ⟨u, e, r.anti h⟩
  | .ref _, e => e
  | .imm _, ⟨u, e, r⟩ => ⟨u, e, r.anti h⟩
  | .fix _ _, ⟨u, e, r⟩ => ⟨u, e, r.anti fun a z => z.imp (h a) id⟩
  | .fixN _ _, ⟨u, e, r⟩ => ⟨u, e, r.anti fun a z => z.imp (h a) id⟩
  | .lax _ _, h => h
  | .mu p _, ⟨e, r⟩ => ⟨e, r.anti h⟩
  | .tmp p _, r => MRep.anti h r
theorem SlOk.more {K : PySem.W.Frag} {v : Option (Option V)} {q : Addr} (h : H q = none) : ∀ {s : Sl}, SlOk K X H v s → SlOk K (fun a => X a ∨ a = q) H v s
  | .unk, _ => trivial
  | .scr _, ⟨u, e, r⟩ => ⟨u, e, r.more h⟩
  | .ref _, e => e
  | .imm _, ⟨u, e, r⟩ => ⟨u, e, r.more h⟩
  | .fix _ _, ⟨u, e, r⟩ => ⟨u, e, (r.more h).anti fun a z => z.elim (fun z => z.elim (fun z => .inl (.inl z)) .inr) fun z => .inl (.inr z)⟩
  | .fixN _ _, ⟨u, e, r⟩ => ⟨u, e, (r.more h).anti fun a z => z.elim (fun z => z.elim (fun z => .inl (.inl z)) .inr) fun z => .inl (.inr z)⟩
  | .lax _ _, h => h
  | .mu p _, ⟨e, r⟩ => ⟨e, r.more h⟩
  | .tmp p _, r => MRep.more h r
theorem Lo.mem (L : Lo C X H σ Γ) {p : Addr} (h : p ∈ muts Γ) : ∃ o, MRep C.K X H p o := by
  obtain ⟨i, s, hi, e⟩ := mem_muts.mp h
  exact (L.at_ i s hi).mrep e
theorem Lo.same (L : Lo C X H σ Γ) (s : Same H H') : Lo C X H' σ Γ := by
  have hd : ∀ a, H a ≠ none → H' a = H a := fun a h => by
    cases e : H a with
    | none => exact (h e).elim
    | some o => exact s a o e
  refine ⟨L.len, fun i t hi => (L.at_ i t hi).keep (.same s) fun p e => hd p ?_, L.nd, L.mx, L.m0, fun a h => ?_, fun a o e n => s _ _ (L.base a o e n), fun a h => ?_, L.own, L.tf⟩
  · obtain ⟨o, r⟩ := (L.at_ i t hi).mrep e
    exact r.nn
  · rw [hd a (L.xd a h)]; exact L.xd a h
  · rw [hd a (L.dom a h)]; exact L.dom a h
theorem nodup_setS {s0 : Sl} (e0 : s0.ad = none) : ∀ {Γ : List Sl} {i : Nat}, (muts Γ).Nodup → (muts (Γ.set i s0)).Nodup
  | [], _, h => h
  | s :: Γ, 0, h => by
    refine List.Sublist.nodup ?_ h
    show (List.filterMap Sl.ad (s0 :: Γ)).Sublist (List.filterMap Sl.ad (s :: Γ))
    rw [List.filterMap_cons, e0]
    show (List.filterMap Sl.ad Γ).Sublist _
    rw [List.filterMap_cons]
    cases s.ad with
    | none => exact List.Sublist.refl _
    | some p => exact List.sublist_cons_self _ _
  | s :: Γ, i + 1, h => by
    have h' : (List.filterMap Sl.ad (s :: Γ)).Nodup := h
    show (List.filterMap Sl.ad (s :: Γ.set i s0)).Nodup
    rw [List.filterMap_cons] at h' ⊢
    cases e : s.ad with
    | none =>
      rw [e] at h'
      exact nodup_setS e0 (i := i) h'
    | some p =>
      rw [e] at h'
      obtain ⟨n1, n2⟩ := List.nodup_cons.mp h'
      refine List.nodup_cons.mpr ⟨fun hp => n1 ?_, nodup_setS e0 (i := i) n2⟩
      obtain ⟨t, ht, et⟩ := List.mem_filterMap.mp hp
      rcases List.mem_or_eq_of_mem_set ht with q | q
      · exact List.mem_filterMap.mpr ⟨t, q, et⟩
      · subst q; rw [e0] at et; cases et
theorem nodup_set {Γ : List Sl} {i : Nat} {d : PyData} (h : (muts Γ).Nodup) : (muts (Γ.set i (.imm d))).Nodup := nodup_setS rfl h
theorem muts_setS {s0 : Sl} (e0 : s0.ad = none) {Γ : List Sl} {i : Nat} {p : Addr} (hp : p ∈ muts (Γ.set i s0)) : p ∈ muts Γ := by
  obtain ⟨j, s, hj, e⟩ := mem_muts.mp hp
  by_cases z : j = i
  · subst z
    by_cases hi : j < Γ.length
    · rw [List.getElem?_set_self hi] at hj
      cases hj; rw [e0] at e; cases e
    · rw [List.getElem?_eq_none_iff.mpr (by rw [List.length_set]; omega)] at hj
      cases hj
  · rw [List.getElem?_set_ne (Ne.symm z)] at hj
    exact mem_muts.mpr ⟨j, s, hj, e⟩
theorem muts_set_imm {Γ : List Sl} {i : Nat} {d : PyData} {p : Addr} (hp : p ∈ muts (Γ.set i (.imm d))) : p ∈ muts Γ := by
  obtain ⟨j, s, hj, e⟩ := mem_muts.mp hp
  by_cases z : j = i
  · subst z
    by_cases hi : j < Γ.length
    · rw [List.getElem?_set_self hi] at hj
      cases hj; cases e
    · rw [List.getElem?_eq_none_iff.mpr (by rw [List.length_set]; omega)] at hj
      cases hj
  · rw [List.getElem?_set_ne (Ne.symm z)] at hj
    exact mem_muts.mpr ⟨j, s, hj, e⟩
/-- a value is stored -/
theorem Lo.set (L : Lo C X H σ Γ) {i : Nat} {v : V} {d : PyData} (r : Rep C.K X H d v) (hi : i < C.n) : Lo C X H (σ.set i (some v)) (Γ.set i (.imm d)) := by
  refine ⟨by rw [List.length_set]; exact L.len, fun j s hj => ?_, nodup_set L.nd, fun p hp => L.mx p (muts_set_imm hp), L.m0, L.xd, L.base, L.dom, fun p hp => L.own p (muts_set_imm hp), L.tf⟩
  by_cases z : j = i
  · subst z
    have hlt : j < Γ.length := by
      have h2 := (List.getElem?_eq_some_iff.mp hj).1
      rw [List.length_set] at h2; exact h2
    rw [List.getElem?_set_self hlt] at hj
    cases hj
    exact ⟨v, List.getElem?_set_self (by rw [L.len]; exact hi), r⟩
  · rw [List.getElem?_set_ne (Ne.symm z)] at hj
    rw [List.getElem?_set_ne (Ne.symm z)]
    exact L.at_ j s hj
end

section
variable {C : Cn} {X : Addr → Prop} {H H' : Hp} {σ : L2.St} {Γ Γ' : List Sl}
/-- a value that is no data is stored, or none -/
theorem Lo.setS (L : Lo C X H σ Γ) {i : Nat} {v : Option V} {s : Sl} (e : s.ad = none) (r : SlOk C.K X H (some v) s) (hi : i < C.n) : Lo C X H (σ.set i v) (Γ.set i s) := by
  refine ⟨by rw [List.length_set]; exact L.len, fun j t hj => ?_, nodup_setS e L.nd, fun p hp => L.mx p (muts_setS e hp), L.m0, L.xd, L.base, L.dom, fun p hp => L.own p (muts_setS e hp), L.tf⟩
  by_cases z : j = i
  · subst z
    have hlt : j < Γ.length := by
      have h2 := (List.getElem?_eq_some_iff.mp hj).1
      rw [List.length_set] at h2; exact h2
    rw [List.getElem?_set_self hlt] at hj
    cases hj
    rw [List.getElem?_set_self (by rw [L.len]; exact hi)]
    exact r
  · rw [List.getElem?_set_ne (Ne.symm z)] at hj
    rw [List.getElem?_set_ne (Ne.symm z)]
    exact L.at_ j t hj
end
/-- a weaker description: slots forgotten, the last ones dropped -/
def Wk : List Sl → List Sl → Prop
  | _, [] => True
  | [], s' :: Γ' => s' = .unk ∧ Wk [] Γ'
  | s :: Γ, s' :: Γ' => (s' = s ∨ s' = .unk) ∧ Wk Γ Γ'
theorem Wk.e {Γ : List Sl} : Wk Γ [] := by cases Γ <;> exact trivial
theorem Wk.k {s : Sl} {Γ Γ' : List Sl} (h : Wk Γ Γ') : Wk (s :: Γ) (s :: Γ') := ⟨.inl rfl, h⟩
theorem Wk.d {s : Sl} {Γ Γ' : List Sl} (h : Wk Γ Γ') : Wk (s :: Γ) (.unk :: Γ') := ⟨.inr rfl, h⟩
theorem Wk.get : ∀ {Γ Γ' : List Sl}, Wk Γ Γ' → ∀ {i : Nat} {s : Sl}, Γ'[i]? = some s → s = .unk ∨ Γ[i]? = some s
  | _, [], _, _, _, e => by simp at e
  | [], s' :: Γ', ⟨h, t⟩, 0, s, e => by simp at e; subst e; exact .inl h
  | [], s' :: Γ', ⟨h, t⟩, i + 1, s, e => by
    rcases Wk.get t (i := i) (s := s) (by simpa using e) with z | z
    · exact .inl z
    · simp at z
  | s0 :: Γ, s' :: Γ', ⟨h, t⟩, 0, s, e => by
    simp at e; subst e
    rcases h with h | h
    · subst h; exact .inr rfl
    · exact .inl h
  | s0 :: Γ, s' :: Γ', ⟨h, t⟩, i + 1, s, e => by
    rcases Wk.get t (i := i) (s := s) (by simpa using e) with z | z
    · exact .inl z
    · exact .inr (by simpa using z)
theorem Wk.sub : ∀ {Γ Γ' : List Sl}, Wk Γ Γ' → (muts Γ').Sublist (muts Γ)
  | _, [], _ => List.nil_sublist _
  | [], s' :: Γ', ⟨h, t⟩ => by
    subst h
    exact Wk.sub (Γ := []) (Γ' := Γ') t
  | s0 :: Γ, s' :: Γ', ⟨h, t⟩ => by
    have ih := Wk.sub t
    unfold muts at ih ⊢
    rw [List.filterMap_cons, List.filterMap_cons]
    rcases h with h | h
    · subst h
      cases s'.ad with
      | none => exact ih
      | some p => exact ih.cons_cons _
    · subst h
      show (List.filterMap Sl.ad Γ').Sublist _
      cases s0.ad with
      | none => exact ih
      | some p => exact ih.cons _

/-- what a def tells: data, or a new object of the caller's own -/
inductive Rs where
  | imm (d : PyData)
  | immN (Z : Addr → Prop) (d : PyData)
  | new (o : MO)
  | raw (R : V → Hp → Prop)
def RRep (K : PySem.W.Frag) (X : Addr → Prop) (H H' : Hp) : Rs → V → Prop
  | .imm d, v => Rep K X H' d v
  | .immN Z d, v => Rep K (NewX X Z H') H' d v
  | .new o, v => ∃ p, v = .ref p ∧ H p = none ∧ MRep K (fun a => X a ∨ a = p) H' p o
  | .raw R, v => R v H'
structure Fin (K : PySem.W.Frag) (X : Addr → Prop) (H : Hp) (P0 : List Addr) (ps : List (Addr × MO)) (rs : Rs) (v : V) (H' : Hp) : Prop where
  base : ∀ a o, H a = some o → a ∉ P0 → H' a = some o
  dom : ∀ a, H a ≠ none → H' a ≠ none
  mu : ∀ q ∈ ps, MRep K X H' q.1 q.2
  res : RRep K X H H' rs v
def As (K : PySem.W.Frag) (X : Addr → Prop) (H : Hp) : List Sl → List V → Prop
  | [], vs => vs = []
  | s :: Γ, vs => ∃ v r, vs = v :: r ∧ SlOk K X H (some (some v)) s ∧ As K X H Γ r
theorem As.nil {K : PySem.W.Frag} {X : Addr → Prop} {H : Hp} : As K X H [] [] := rfl
theorem As.im {K : PySem.W.Frag} {X : Addr → Prop} {H : Hp} {d : PyData} {v : V} {Γ : List Sl} {vs : List V} (r : Rep K X H d v) (t : As K X H Γ vs) : As K X H (.imm d :: Γ) (v :: vs) := ⟨v, vs, rfl, ⟨v, rfl, r⟩, t⟩
theorem As.m {K : PySem.W.Frag} {X : Addr → Prop} {H : Hp} {p : Addr} {o : MO} {Γ : List Sl} {vs : List V} (r : MRep K X H p o) (t : As K X H Γ vs) : As K X H (.mu p o :: Γ) (.ref p :: vs) := ⟨_, vs, rfl, ⟨rfl, r⟩, t⟩
theorem As.s {K : PySem.W.Frag} {X : Addr → Prop} {H : Hp} {ns : List Int} {v : V} {Γ : List Sl} {vs : List V} (r : SqX K X H ns v) (t : As K X H Γ vs) : As K X H (.scr ns :: Γ) (v :: vs) := ⟨v, vs, rfl, ⟨v, rfl, r⟩, t⟩
/-- what a def asks of its arguments -/
structure Cond (K : PySem.W.Frag) (X : Addr → Prop) (H : Hp) (Γ : List Sl) (vs : List V) : Prop where
  as : As K X H Γ vs
  nd : (muts Γ).Nodup
  mx : ∀ p ∈ muts Γ, X p
  xd : ∀ a, X a → H a ≠ none
theorem As.len {K : PySem.W.Frag} {X : Addr → Prop} {H : Hp} : ∀ {Γ : List Sl} {vs : List V}, As K X H Γ vs → vs.length = Γ.length
  | [], _, h => by subst h; rfl
  | s :: Γ, _, ⟨v, r, e, _, t⟩ => by subst e; exact congrArg (· + 1) (As.len t)
theorem As.get {K : PySem.W.Frag} {X : Addr → Prop} {H : Hp} : ∀ {Γ : List Sl} {vs : List V}, As K X H Γ vs → ∀ {i : Nat} {s : Sl}, Γ[i]? = some s → ∃ v, vs[i]? = some v ∧ SlOk K X H (some (some v)) s
  | [], _, h, _, _, e => by simp at e
  | s :: Γ, _, ⟨v, r, e, h, t⟩, 0, s', e' => by subst e; simp at e'; subst e'; exact ⟨v, rfl, h⟩
  | s :: Γ, _, ⟨v, r, e, h, t⟩, i + 1, s', e' => by
    subst e
    obtain ⟨u, h1, h2⟩ := As.get t (i := i) (s := s') (by simpa using e')
    exact ⟨u, by simpa using h1, h2⟩
theorem Cond.len {K : PySem.W.Frag} {X : Addr → Prop} {H : Hp} {Γ : List Sl} {vs : List V} (c : Cond K X H Γ vs) : vs.length = Γ.length := c.as.len
theorem muts_unk : ∀ {Γ : List Sl} (n : Nat), muts (Γ ++ List.replicate n .unk) = muts Γ := fun {Γ} n => by
  unfold muts
  rw [List.filterMap_append]
  have : ∀ n, List.filterMap Sl.ad (List.replicate n Sl.unk) = [] := fun n => by
    induction n with
    | zero => rfl
    | succ n ih => rw [List.replicate_succ, List.filterMap_cons]; exact ih
  rw [this, List.append_nil]
theorem Cond.start {K : PySem.W.Frag} {X : Addr → Prop} {H : Hp} {Γ : List Sl} {vs : List V} (c : Cond K X H Γ vs) (N : List Str) (hn : Γ.length ≤ N.length) :
    Lo ⟨K, X, H, muts Γ, N.length⟩ X H (L2.start N vs) (Γ ++ List.replicate (N.length - Γ.length) .unk) := by
  refine ⟨?_, fun i s hi => ?_, by rw [muts_unk]; exact c.nd, fun p hp => c.mx p (by rw [muts_unk] at hp; exact hp), fun _ h => h, c.xd, fun _ _ h _ => h, fun _ h => h, fun p hp => .inl (by rw [muts_unk] at hp; exact hp), fun a ha => ?_⟩
  · show (vs.map some ++ List.replicate (N.length - vs.length) none).length = N.length
    rw [List.length_append, List.length_map, List.length_replicate, c.len]
    omega
  · by_cases h : i < Γ.length
    · rw [List.getElem?_append_left h] at hi
      obtain ⟨v, h1, h2⟩ := c.as.get hi
      have h3 : (L2.start N vs)[i]? = some (some v) := by
        show (vs.map some ++ List.replicate (N.length - vs.length) none)[i]? = _
        rw [List.getElem?_append_left (by rw [List.length_map, c.len]; exact h), List.getElem?_map, h1]
        rfl
      rw [h3]; exact h2
    · rw [List.getElem?_append_right (by omega)] at hi
      have := List.mem_of_getElem? hi
      rw [List.mem_replicate] at this
      rw [this.2]; trivial
  · obtain ⟨i, s, hi, e⟩ := mem_muts.mp (show a ∈ muts Γ from ha)
    obtain ⟨v, _, h2⟩ := c.as.get hi
    obtain ⟨o, r⟩ := h2.mrep e
    exact r.ntup

section
variable {C : Cn} {X : Addr → Prop} {H H' : Hp} {σ : L2.St} {Γ Γ' : List Sl}
theorem Lo.weak (L : Lo C X H σ Γ) (w : Wk Γ Γ') : Lo C X H σ Γ' := by
  refine ⟨L.len, fun i s hi => ?_, w.sub.nodup L.nd, fun p hp => L.mx p (w.sub.mem hp), L.m0, L.xd, L.base, L.dom, fun p hp => L.own p (w.sub.mem hp), L.tf⟩
  rcases w.get hi with z | z
  · subst z; trivial
  · exact L.at_ i s z
/-- an enclosing view is entered and left -/
abbrev Cn.at_ (C : Cn) (X : Addr → Prop) (H : Hp) (Γ : List Sl) : Cn := ⟨C.K, X, H, muts Γ, C.n⟩
theorem Lo.enter (L : Lo C X H σ Γ) : Lo (C.at_ X H Γ) X H σ Γ :=
  ⟨L.len, L.at_, L.nd, L.mx, fun _ h => h, L.xd, fun _ _ h _ => h, fun _ h => h, fun _ hp => .inl hp, fun a ha => by
    obtain ⟨o, r⟩ := L.mem (p := a) ha
    exact r.ntup⟩
theorem Lo.nown (L : Lo C X H σ Γ) {a : Addr} {o : HO} (h : C.H0 a = some o) (n : a ∉ C.P0) : a ∉ muts Γ := fun hp => by
  rcases L.own a hp with z | z
  · exact n z
  · rw [z] at h; cases h
theorem Lo.leave {X' : Addr → Prop} {σ' : L2.St} (L : Lo C X H σ Γ) (M : Lo (C.at_ X H Γ) X' H' σ' Γ') (hs : muts Γ' = muts Γ) : Lo C X H' σ' Γ' := by
  have sub : ∀ a, X a → X' a := M.m0
  refine ⟨M.len, fun i s hi => (M.at_ i s hi).anti sub, M.nd, fun p hp => L.mx p (hs ▸ hp), L.m0, fun a h => M.xd a (sub a h), fun a o e n => M.base a o (L.base a o e n) (L.nown e n), fun a h => M.dom a (L.dom a h), fun p hp => L.own p (hs ▸ hp), L.tf⟩
theorem Lo.keep {X' : Addr → Prop} {σ' : L2.St} (L : Lo C X H σ Γ) (M : Lo (C.at_ X H Γ) X' H' σ' Γ') : Keep X H H' := by
  refine ⟨fun a o e n => M.base a o e fun h => n (L.mx a h), fun a vs e => M.base a _ e fun h => ?_, fun a o u e => M.base a _ e fun h => ?_⟩
  · obtain ⟨o, r⟩ := L.mem (p := a) h
    exact r.ntup.1 _ e
  · obtain ⟨o', r⟩ := L.mem (p := a) h
    exact r.ntup.2 _ _ e
theorem Fin.leave {ps : List (Addr × MO)} {rs : Rs} {v : V} (L : Lo C X H σ Γ) (F : Fin C.K X H (muts Γ) ps rs v H') : Fin C.K C.X0 C.H0 C.P0 ps rs v H' := by
  refine ⟨fun a o e n => F.base a o (L.base a o e n) (L.nown e n), fun a h => F.dom a (L.dom a h), fun q hq => (F.mu q hq).anti L.m0, ?_⟩
  cases rs with
  | imm d => exact Rep.anti L.m0 F.res
  | immN Z d => exact Rep.anti (fun a z => z.imp (L.m0 a) id) F.res
  | raw R => exact F.res
  | new o =>
    obtain ⟨p, e, h, r⟩ := F.res
    refine ⟨p, e, ?_, r.anti fun a h => h.elim (fun z => .inl (L.m0 a z)) .inr⟩
    cases e : C.H0 p with
    | none => rfl
    | some o => exact (L.dom p (by rw [e]; exact fun z => nomatch z) h).elim
/-- the end of a def: data is told -/
theorem Lo.fin {ps : List (Addr × MO)} {d : PyData} {v : V} (L : Lo C X H σ Γ) (hp : ∀ q ∈ ps, MRep C.K X H q.1 q.2) (r : Rep C.K X H d v) : Fin C.K C.X0 C.H0 C.P0 ps (.imm d) v H :=
  ⟨L.base, L.dom, fun q hq => (hp q hq).anti L.m0, Rep.anti L.m0 r⟩
theorem Lo.finZ {ps : List (Addr × MO)} {Z : Addr → Prop} {d : PyData} {v : V} (L : Lo C X H σ Γ) (hp : ∀ q ∈ ps, MRep C.K X H q.1 q.2) (r : Rep C.K (NewX X Z H) H d v) : Fin C.K C.X0 C.H0 C.P0 ps (.immN Z d) v H :=
  ⟨L.base, L.dom, fun q hq => (hp q hq).anti L.m0, Rep.anti (fun a z => z.imp (L.m0 a) id) r⟩
theorem Lo.finR {ps : List (Addr × MO)} {R : V → Hp → Prop} {v : V} (L : Lo C X H σ Γ) (hp : ∀ q ∈ ps, MRep C.K X H q.1 q.2) (r : R v H) : Fin C.K C.X0 C.H0 C.P0 ps (.raw R) v H :=
  ⟨L.base, L.dom, fun q hq => (hp q hq).anti L.m0, r⟩
/-- .. an object that the body has made -/
theorem Lo.finN {ps : List (Addr × MO)} {o : MO} {p : Addr} (L : Lo C X H σ Γ) (hp : ∀ q ∈ ps, MRep C.K X H q.1 q.2) (hn : C.H0 p = none) (hx : X p) (r : MRep C.K X H p o) : Fin C.K C.X0 C.H0 C.P0 ps (.new o) (.ref p) H :=
  ⟨L.base, L.dom, fun q hq => (hp q hq).anti L.m0, p, rfl, hn, r.anti fun a h => h.elim (L.m0 a) fun e => e ▸ hx⟩
theorem Lo.mrep (L : Lo C X H σ Γ) {i : Nat} {p : Addr} {o : MO} (e : Γ[i]? = some (.mu p o)) : MRep C.K X H p o := (L.at_ i _ e).2

/-- behind a call that wrote nothing of ours -/
theorem Lo.after0 {rs : Rs} {v : V} {ps : List (Addr × MO)} (L : Lo C X H σ Γ) (F : Fin C.K X H [] ps rs v H') : Lo C X H' σ Γ ∧ ∀ d u, Rep C.K X H d u → Rep C.K X H' d u := by
  have s : Same H H' := fun a o e => F.base a o e (by simp)
  exact ⟨L.same s, fun _ _ r => r.keep (.same s)⟩
theorem Lo.cond (L : Lo C X H σ Γ) {Γa : List Sl} {vs : List V} (as : As C.K X H Γa vs) (nd : (muts Γa).Nodup) (sub : ∀ p ∈ muts Γa, p ∈ muts Γ) : Cond C.K X H Γa vs := ⟨as, nd, fun p h => L.mx p (sub p h), L.xd⟩
theorem Lo.get (L : Lo C X H σ Γ) {i : Nat} {d : PyData} (e : Γ[i]? = some (.imm d)) : ∃ u, σ[i]? = some (some u) ∧ Rep C.K X H d u := L.at_ i _ e

theorem ad_unique {Γ : List Sl} (nd : (muts Γ).Nodup) : ∀ {i j : Nat} {s t : Sl} {p : Addr}, Γ[i]? = some s → Γ[j]? = some t → s.ad = some p → t.ad = some p → i = j := by
  induction Γ with
  | nil => intro i j s t p h; simp at h
  | cons s0 Γ ih =>
    intro i j s t p hi hj es et
    have nd' : (List.filterMap Sl.ad (s0 :: Γ)).Nodup := nd
    have tl : (muts Γ).Nodup := by
      rw [List.filterMap_cons] at nd'
      cases e : s0.ad with
      | none => rw [e] at nd'; exact nd'
      | some q => rw [e] at nd'; exact (List.nodup_cons.mp nd').2
    have no : ∀ (k : Nat) (r : Sl), s0.ad = some p → Γ[k]? = some r → r.ad = some p → False := fun k r e0 hk er => by
      rw [List.filterMap_cons, e0] at nd'
      exact (List.nodup_cons.mp nd').1 (List.mem_filterMap.mpr ⟨r, List.mem_of_getElem? hk, er⟩)
    cases i with
    | zero =>
      cases j with
      | zero => rfl
      | succ j =>
        simp at hi hj; subst hi
        exact (no j t es hj et).elim
    | succ i =>
      cases j with
      | zero =>
        simp at hi hj; subst hj
        exact (no i s et hi es).elim
      | succ j =>
        simp at hi hj
        rw [ih tl hi hj es et]
/-- another object at the same place -/
def Sl.to (o : MO) : Sl → Sl
  | .mu p _ => .mu p o
  | .tmp p _ => .tmp p o
  | s => s
theorem muts_to {o : MO} : ∀ {Γ : List Sl} {i : Nat} {s : Sl}, Γ[i]? = some s → muts (Γ.set i (s.to o)) = muts Γ
  | [], _, _, h => by simp at h
  | s0 :: Γ, 0, s, h => by
    simp at h; subst h
    show List.filterMap Sl.ad (s0.to o :: Γ) = List.filterMap Sl.ad (s0 :: Γ)
    rw [List.filterMap_cons, List.filterMap_cons]
    have : (s0.to o).ad = s0.ad := by cases s0 <;> rfl
    rw [this]
  | s0 :: Γ, i + 1, s, h => by
    have ih := muts_to (o := o) (Γ := Γ) (i := i) (s := s) (by simpa using h)
    show List.filterMap Sl.ad (s0 :: Γ.set i (s.to o)) = List.filterMap Sl.ad (s0 :: Γ)
    rw [List.filterMap_cons, List.filterMap_cons]
    have ih' : List.filterMap Sl.ad (Γ.set i (s.to o)) = List.filterMap Sl.ad Γ := ih
    rw [ih']
/-- the object at p is written (or turned by a call): all else keeps -/
theorem Lo.wrote (L : Lo C X H σ Γ) {i : Nat} {p : Addr} {s : Sl} {o : MO} (e : Γ[i]? = some s) (es : s.ad = some p) (hk : ∀ a u, H a = some u → a ≠ p → H' a = some u) (hd : ∀ a, H a ≠ none → H' a ≠ none) (r : MRep C.K X H' p o) :
    Lo C X H' σ (Γ.set i (s.to o)) ∧ ∀ d u, Rep C.K X H d u → Rep C.K X H' d u := by
  have hpm : p ∈ muts Γ := mem_muts.mpr ⟨i, s, e, es⟩
  have hpx : X p := L.mx p hpm
  obtain ⟨o0, r0⟩ := L.mem hpm
  have kp : Keep X H H' := ⟨fun a u h n => hk a u h fun z => n (z ▸ hpx), fun a vs h => hk a _ h fun z => r0.ntup.1 _ (z ▸ h), fun a u w h => hk a _ h fun z => r0.ntup.2 _ _ (z ▸ h)⟩
  have hil : i < Γ.length := (List.getElem?_eq_some_iff.mp e).1
  refine ⟨⟨L.len, fun j t hj => ?_, by rw [muts_to e]; exact L.nd, fun q hq => L.mx q (by rw [muts_to e] at hq; exact hq), L.m0, fun a h => hd a (L.xd a h), fun a u h n => ?_, fun a h => hd a (L.dom a h), fun q hq => L.own q (by rw [muts_to e] at hq; exact hq), L.tf⟩, fun _ _ q => q.keep kp⟩
  · by_cases z : j = i
    · subst z
      rw [List.getElem?_set_self hil] at hj
      have := L.at_ j s e
      cases hj
      cases s with
      | unk => cases es
      | scr ns => cases es
      | ref a => cases es
      | imm d => cases es
      | fix Z d => cases es
      | fixN Z d => cases es
      | lax _ _ => cases es
      | mu q o1 => cases es; exact ⟨this.1, r⟩
      | tmp q o1 => cases es; exact r
    · rw [List.getElem?_set_ne (Ne.symm z)] at hj
      refine (L.at_ j t hj).keep kp fun q eq => ?_
      have ne : q ≠ p := fun y => z (ad_unique L.nd hj e (by rw [eq, y]) es)
      obtain ⟨o1, r1⟩ := L.mem (mem_muts.mpr ⟨j, t, hj, eq⟩)
      cases hq : H q with
      | none => exact (r1.nn hq).elim
      | some u => exact hk q u hq ne
  · have h1 := L.base a u h n
    exact hk a u h1 fun z => by
      subst z
      exact L.nown h n hpm
/-- behind a call that wrote one object -/
theorem Lo.after1 {rs : Rs} {v : V} {p : Addr} {o : MO} {s : Sl} (L : Lo C X H σ Γ) (F : Fin C.K X H [p] [(p, o)] rs v H') {i : Nat} (e : Γ[i]? = some s) (es : s.ad = some p) :
    Lo C X H' σ (Γ.set i (s.to o)) ∧ ∀ d u, Rep C.K X H d u → Rep C.K X H' d u :=
  L.wrote e es (fun a u h n => F.base a u h (by simpa using n)) F.dom (F.mu (p, o) (by simp))
/-- a new object is laid: forbidden from now on -/
theorem Lo.lay (L : Lo C X H σ Γ) {p : Addr} {o : MO} {H1 : Hp} (hn : H p = none) (s : Same H H1) (r : MRep C.K (fun a => X a ∨ a = p) H1 p o) :
    Lo C (fun a => X a ∨ a = p) H1 σ (Γ ++ [.tmp p o]) ∧ (∀ d u, Rep C.K X H d u → Rep C.K (fun a => X a ∨ a = p) H1 d u) ∧ C.H0 p = none ∧ ¬ C.X0 p := by
  have h0 : C.H0 p = none := by
    cases e : C.H0 p with
    | none => rfl
    | some o => exact (L.dom p (by rw [e]; exact fun z => nomatch z) hn).elim
  have hd : ∀ a, H a ≠ none → H1 a = H a := fun a h => by
    cases e : H a with
    | none => exact (h e).elim
    | some o => exact s a o e
  have hm : muts (Γ ++ [Sl.tmp p o]) = muts Γ ++ [p] := by unfold muts; rw [List.filterMap_append]; rfl
  have hnm : p ∉ muts Γ := fun h => L.xd p (L.mx p h) hn
  refine ⟨⟨L.len, fun i t hi => ?_, ?_, fun q hq => ?_, fun a h => .inl (L.m0 a h), fun a h => ?_, fun a u h n => s a u (L.base a u h n), fun a h => ?_, fun q hq => ?_, L.tf⟩, fun _ _ q => (q.more hn).keep (.same s), h0, fun z => L.xd p (L.m0 p z) hn⟩
  · by_cases hlt : i < Γ.length
    · rw [List.getElem?_append_left hlt] at hi
      refine ((L.at_ i t hi).more hn).keep (.same s) fun q e => hd q ?_
      obtain ⟨o', r'⟩ := (L.at_ i t hi).mrep e
      exact r'.nn
    · rw [List.getElem?_append_right (by omega)] at hi
      have ht := List.mem_of_getElem? hi
      rw [List.mem_singleton] at ht
      subst ht
      exact r
  · rw [hm]
    exact List.nodup_append.mpr ⟨L.nd, by simp, fun a ha b hb => by
      rw [List.mem_singleton] at hb
      subst hb
      intro z
      exact hnm (z ▸ ha)⟩
  · rw [hm, List.mem_append, List.mem_singleton] at hq
    exact hq.elim (fun z => .inl (L.mx q z)) .inr
  · rcases h with h | h
    · rw [hd a (L.xd a h)]; exact L.xd a h
    · subst h; exact r.nn
  · rw [hd a (L.dom a h)]; exact L.dom a h
  · rw [hm, List.mem_append, List.mem_singleton] at hq
    exact hq.elim (L.own q) fun z => .inr (z ▸ h0)
/-- the last object is given a name -/
theorem Lo.name {p : Addr} {o : MO} (L : Lo C X H σ (Γ ++ [.tmp p o])) {i : Nat} (hi : i < C.n) (hl : i < Γ.length) : Lo C X H (σ.set i (some (.ref p))) (Γ.set i (.mu p o)) := by
  have hm : muts (Γ ++ [Sl.tmp p o]) = muts Γ ++ [p] := by unfold muts; rw [List.filterMap_append]; rfl
  have nd := L.nd
  rw [hm] at nd
  obtain ⟨nd1, _, nd2⟩ := List.nodup_append.mp nd
  have hnp : p ∉ muts Γ := fun h => nd2 p h p (by simp) rfl
  have sub : ∀ q, q ∈ muts (Γ.set i (.mu p o)) → q ∈ muts (Γ ++ [Sl.tmp p o]) := fun q hq => by
    rw [hm, List.mem_append, List.mem_singleton]
    obtain ⟨j, s, hj, e⟩ := mem_muts.mp hq
    by_cases z : j = i
    · subst z
      rw [List.getElem?_set_self hl] at hj
      cases hj; cases e; exact .inr rfl
    · rw [List.getElem?_set_ne (Ne.symm z)] at hj
      exact .inl (mem_muts.mpr ⟨j, s, hj, e⟩)
  have ndp : ∀ {Γ : List Sl} {i : Nat}, (muts Γ).Nodup → p ∉ muts Γ → (muts (Γ.set i (.mu p o))).Nodup := by
    intro Γ
    induction Γ with
    | nil => intro i h _; exact h
    | cons s0 Γ ih =>
      intro i h hn
      have h' : (List.filterMap Sl.ad (s0 :: Γ)).Nodup := h
      have hn' : p ∉ List.filterMap Sl.ad (s0 :: Γ) := hn
      have hg : p ∉ muts Γ := fun z => hn' (by rw [List.filterMap_cons]; cases s0.ad with | none => exact z | some q => exact List.mem_cons_of_mem _ z)
      have hgn : (muts Γ).Nodup := by
        rw [List.filterMap_cons] at h'
        cases e : s0.ad with
        | none => rw [e] at h'; exact h'
        | some q => rw [e] at h'; exact (List.nodup_cons.mp h').2
      cases i with
      | zero => exact List.nodup_cons.mpr ⟨hg, hgn⟩
      | succ i =>
        have ih' := ih (i := i) hgn hg
        show (List.filterMap Sl.ad (s0 :: Γ.set i (.mu p o))).Nodup
        rw [List.filterMap_cons] at h' hn' ⊢
        cases e : s0.ad with
        | none => exact ih'
        | some q =>
          rw [e] at h' hn'
          refine List.nodup_cons.mpr ⟨fun z => ?_, ih'⟩
          obtain ⟨t, ht, et⟩ := List.mem_filterMap.mp (show q ∈ List.filterMap Sl.ad (Γ.set i (.mu p o)) from z)
          rcases List.mem_or_eq_of_mem_set ht with y | y
          · exact (List.nodup_cons.mp h').1 (List.mem_filterMap.mpr ⟨t, y, et⟩)
          · subst y
            cases et
            exact hn' List.mem_cons_self
  refine ⟨by rw [List.length_set]; exact L.len, fun j t hj => ?_, ndp nd1 hnp, fun q hq => L.mx q (sub q hq), L.m0, L.xd, L.base, L.dom, fun q hq => L.own q (sub q hq), L.tf⟩
  by_cases z : j = i
  · subst z
    rw [List.getElem?_set_self hl] at hj
    cases hj
    refine ⟨List.getElem?_set_self (by rw [L.len]; exact hi), ?_⟩
    exact L.at_ Γ.length (.tmp p o) (by rw [List.getElem?_append_right (Nat.le_refl _)]; simp)
  · rw [List.getElem?_set_ne (Ne.symm z)] at hj
    rw [List.getElem?_set_ne (Ne.symm z)]
    refine L.at_ j t ?_
    rw [List.getElem?_append_left (List.getElem?_eq_some_iff.mp hj).1]
    exact hj
/-- an object that is written no more is data -/
theorem Lo.freeze {p : Addr} {ds : List PyData} (L : Lo C X H σ Γ) {i : Nat} (e : Γ[i]? = some (.mu p (.lst ds))) (hx : ¬ C.X0 p) : Lo C (fun a => X a ∧ a ≠ p) H σ (Γ.set i (.imm (.list ds))) := by
  have hil : i < Γ.length := (List.getElem?_eq_some_iff.mp e).1
  refine ⟨L.len, fun j t hj => ?_, nodup_set L.nd, fun q hq => ⟨L.mx q (muts_set_imm hq), fun z => ?_⟩, fun a h => ⟨L.m0 a h, fun z => hx (z ▸ h)⟩, fun a h => L.xd a h.1, L.base, L.dom, fun q hq => L.own q (muts_set_imm hq), L.tf⟩
  · by_cases z : j = i
    · subst z
      rw [List.getElem?_set_self hil] at hj
      cases hj
      obtain ⟨h1, vs, h2, h3⟩ := L.at_ j _ e
      exact ⟨.ref p, h1, .lst (fun y => y.2 rfl) (.inl h2) (h3.anti fun a h => h.1)⟩
    · rw [List.getElem?_set_ne (Ne.symm z)] at hj
      exact (L.at_ j t hj).anti fun a h => h.1
  · subst z
    obtain ⟨j, s, hj, es⟩ := mem_muts.mp hq
    by_cases y : j = i
    · subst y
      rw [List.getElem?_set_self hil] at hj
      cases hj; cases es
    · rw [List.getElem?_set_ne (Ne.symm y)] at hj
      exact y (ad_unique L.nd hj e es rfl)
theorem RRep.imm {K : PySem.W.Frag} {X : Addr → Prop} {H H' : Hp} {ds : List PyData} {v : V} (r : RRep K X H H' (.new (.lst ds)) v) (xd : ∀ a, X a → H a ≠ none) : Rep K X H' (.list ds) v := by
  obtain ⟨p, e, hn, vs, h2, h3⟩ := r
  subst e
  exact .lst (fun z => xd p z hn) (.inl h2) (h3.anti fun _ z => .inl z)
end
open Py (enc)

/-! ### what may fail -/
/-- .. in the middle of a term -/
theorem obE {α β : Type} {m : Option α} {k : α → Option β} {r : β} {P : Prop} (h : m.bind k = some r) (f : ∀ x, m = some x → k x = some r → P) : P := by
  obtain ⟨x, a, b⟩ := Option.bind_eq_some_iff.mp h
  exact f x a b
theorem ob {α β : Type} {m : Option α} {k : α → Option β} {r : β} (h : m.bind k = some r) : ∃ x, m = some x ∧ k x = some r := Option.bind_eq_some_iff.mp h
/-- a product, a quotient, a rest, where they are told -/
def mulG (a b : Int) : Option Int := if a.natAbs.log2 + b.natAbs.log2 < 1000000 then some (a * b) else none
def divG (a b : Int) : Option Int := if b ≠ 0 ∧ b.natAbs.log2 < 9000 then some (a.fdiv b) else none
def modG (a b : Int) : Option Int := if b ≠ 0 then some (a.fmod b) else none
def lenOk (n : Nat) : Option Unit := if n ≤ 16777216 then some () else none
def guard (b : Bool) : Option Unit := if b = true then some () else none
def iabs (i : Int) : Int := if i < 0 then -i else i
def b2 (b : Bool) : Int := if b = true then 1 else 0
def ix {α : Type} (xs : List α) (i : Int) : Option α := atI xs i
theorem line_eq : sizeLine = 16777216 := sizeLine_eq

section
variable {Xc : Cx}
def cMulG (i j : Int) : Prop := i.natAbs.log2 + j.natAbs.log2 < 1000000
def cDivG (i j : Int) : Prop := j ≠ 0 ∧ j.natAbs.log2 < 9000
theorem op_divG : OpR Xc (binaryOp .FloorDiv) (rI cDivG fun i j => .int (i.fdiv j)) := opI fun i j _ _ _ _ _ hc q => floordiv_int hc.1 q (.inl (PyProof.noPylong_of_log2 hc.2))
end


/-- continuations by name, so that goals stay as they are -/
def KB (Q : Bool → Hp → Prop) : VK := fun x H => ∃ k, x = .bl k ∧ Q k H
def KNot (Q : Bool → Hp → Prop) : Bool → Hp → Prop := fun c H => Q (!c) H
def KAnd (u : TT) (σ : L2.St) (Q : Bool → Hp → Prop) : Bool → Hp → Prop := fun c H => if c = true then u σ H Q else Q false H
def KOr (u : TT) (σ : L2.St) (Q : Bool → Hp → Prop) : Bool → Hp → Prop := fun c H => if c = true then Q true H else u σ H Q
def KNotV (Q : VK) : Bool → Hp → Prop := fun c H => Q (.bl (!c)) H
def KAndV (u : TE) (σ : L2.St) (Q : VK) : Bool → Hp → Prop := fun c H => if c = true then u σ H Q else Q (.bl false) H
def KOrV (u : TE) (σ : L2.St) (Q : VK) : Bool → Hp → Prop := fun c H => if c = true then Q (.bl true) H else u σ H Q
def KIf (t u : TS) (D : Ends) (σ : L2.St) : Bool → Hp → Prop := fun c H => if c = true then t D σ H else u D σ H
def KIfE (t u : TE) (σ : L2.St) (Q : VK) : Bool → Hp → Prop := fun c H => if c = true then t σ H Q else u σ H Q
def KTup (Q : VK) : List V → Hp → Prop := fun xs H => xs.length ≤ sizeLine ∧ ∀ p, H p = none → Q (.ref p) (upd H p (.tup xs))
def KLst (Q : VK) : List V → Hp → Prop := fun xs H => xs.length ≤ sizeLine ∧ ∀ p, H p = none → Q (.ref p) (upd H p (.lst xs))
def KPar (i j : Nat) (σ : L2.St) (N : L2.St → Hp → Prop) : List V → Hp → Prop := fun vs H => ∃ v w, vs = [v, w] ∧ N ((σ.set i (some v)).set j (some w)) H

section
variable {C : Cn} {X : Addr → Prop} {H : Hp} {σ : L2.St} {Γ Γ' : List Sl} {Q : VK} {α β γ δ ε ρ : Type}
/-! ### expressions, from the left -/
theorem x_op {r : R2} {ta tb : TE} (h : ta σ H fun x H1 => tb σ H1 fun y H2 => r x y H2 Q) : tOp r ta tb σ H Q := h
theorem x_un {r : V → Hp → VK → Prop} {ta : TE} (h : ta σ H fun x H1 => r x H1 Q) : tUn r ta σ H Q := h
theorem x_c {v : V} (h : Q v H) : tC v σ H Q := h
theorem x_cons {ta : TE} {tr : TA} {Q : List V → Hp → Prop} (h : ta σ H fun x H1 => tr σ H1 fun xs H2 => Q (x :: xs) H2) : tCons ta tr σ H Q := h
theorem x_nil {Q : List V → Hp → Prop} (h : Q [] H) : tNil σ H Q := h
/-- a name of the def: data, an object that may be written, the script -/
theorem x_vd {i : Nat} {d : PyData} (L : Lo C X H σ Γ) (e : Γ[i]? = some (.imm d)) (h : ∀ v, Rep C.K X H d v → Q v H) : tVar i σ H Q := by
  obtain ⟨u, h1, h2⟩ := L.get e
  exact ⟨u, h1, h u h2⟩
theorem x_vm {i : Nat} {p : Addr} {o : MO} (L : Lo C X H σ Γ) (e : Γ[i]? = some (.mu p o)) (h : Q (.ref p) H) : tVar i σ H Q := ⟨_, (L.at_ i _ e).1, h⟩
theorem x_vscr {i : Nat} {ns : List Int} (L : Lo C X H σ Γ) (e : Γ[i]? = some (.scr ns)) (h : ∀ v, SqX C.K X H ns v → Q v H) : tVar i σ H Q := by
  obtain ⟨u, h1, h2⟩ := L.at_ i _ e
  exact ⟨u, h1, h u h2⟩
theorem repI {K : PySem.W.Frag} {x : Int} {u : V} (h : Rep K X H (PyData.int x) u) : u = (V.int x) := by cases h; rfl
theorem x_vI {i : Nat} {x : Int} (L : Lo C X H σ Γ) (e : Γ[i]? = some (.imm (PyData.int x))) (h : Q (V.int x) H) : tVar i σ H Q :=
  x_vd L e fun v r => by rw [repI (x := x) r]; exact h
theorem repB {K : PySem.W.Frag} {x : Bool} {u : V} (h : Rep K X H (PyData.bool x) u) : u = (V.bl x) := by cases h; rfl
theorem x_vB {i : Nat} {x : Bool} (L : Lo C X H σ Γ) (e : Γ[i]? = some (.imm (PyData.bool x))) (h : Q (V.bl x) H) : tVar i σ H Q :=
  x_vd L e fun v r => by rw [repB (x := x) r]; exact h
theorem repS {K : PySem.W.Frag} {x : Str} {u : V} (h : Rep K X H (PyData.str x) u) : u = (V.str x) := by cases h; rfl
theorem x_vS {i : Nat} {x : Str} (L : Lo C X H σ Γ) (e : Γ[i]? = some (.imm (PyData.str x))) (h : Q (V.str x) H) : tVar i σ H Q :=
  x_vd L e fun v r => by rw [repS (x := x) r]; exact h
theorem repN {K : PySem.W.Frag} {x : Unit} {u : V} (h : Rep K X H PyData.none u) : u = V.non := by cases h; rfl
theorem x_vN {i : Nat} {x : Unit} (L : Lo C X H σ Γ) (e : Γ[i]? = some (.imm PyData.none)) (h : Q V.non H) : tVar i σ H Q :=
  x_vd L e fun v r => by rw [repN (x := x) r]; exact h
/-! ### whole numbers -/
theorem x_r0 {g : Int → Int → V} {a b : Int} (h : Q (g a b) H) : rI0 g (.int a) (.int b) H Q := ⟨a, b, rfl, rfl, h⟩
theorem x_mulL {a b : Int} (hc : -(2 ^ 64) < a ∧ a < 2 ^ 64) (h : Q (.int (a * b)) H) : rI CMul (fun i j => .int (i * j)) (.int a) (.int b) H Q := ⟨a, b, rfl, rfl, .inl hc, h⟩
theorem x_mulR {a b : Int} (hc : -(2 ^ 64) < b ∧ b < 2 ^ 64) (h : Q (.int (a * b)) H) : rI CMul (fun i j => .int (i * j)) (.int a) (.int b) H Q := ⟨a, b, rfl, rfl, .inr hc, h⟩
theorem x_mulc {a b n : Int} (hc : a.natAbs.log2 + b.natAbs.log2 < 1000000) (e : a * b = n) (h : Q (.int n) H) : rI CMulW (fun i j => .int (i * j)) (.int a) (.int b) H Q := by subst e; exact ⟨a, b, rfl, rfl, hc, h⟩
theorem room65 {k : Nat} {A : Around} (r : Room k A) : A.units + 65 < cLine := by have := r.un; omega
theorem x_divc {a b : Int} (hc : CDiv a b) (h : Q (.int (a / b)) H) : rI CDiv (fun i j => .int (i / j)) (.int a) (.int b) H Q := ⟨a, b, rfl, rfl, hc, h⟩
theorem x_divW {a b : Int} (hc : CDivW a b) (h : Q (.int (a / b)) H) : rI CDivW (fun i j => .int (i / j)) (.int a) (.int b) H Q := ⟨a, b, rfl, rfl, hc, h⟩
theorem x_modc {a b : Int} (hc : 0 < b) (h : Q (.int (a % b)) H) : rI (fun _ j => 0 < j) (fun i j => .int (i % j)) (.int a) (.int b) H Q := ⟨a, b, rfl, rfl, hc, h⟩
theorem x_powc {a b n : Int} (hc : CPow a b) (e : a ^ b.toNat = n) (h : Q (.int n) H) : rI CPow (fun i j => .int (i ^ j.toNat)) (.int a) (.int b) H Q := by subst e; exact ⟨a, b, rfl, rfl, hc, h⟩
theorem x_mul {a b : Int} {k : Int → Option ρ} {r : ρ} (hm : (mulG a b).bind k = some r) (h : ∀ z, mulG a b = some z → k z = some r → Q (.int z) H) : rI CMulW (fun i j => .int (i * j)) (.int a) (.int b) H Q := by
  obtain ⟨z, hz, hk⟩ := ob hm
  have hz' := hz
  unfold mulG at hz'
  split at hz'
  · rename_i hc
    have e : a * b = z := Option.some.inj hz'
    subst e
    exact ⟨a, b, rfl, rfl, hc, h _ hz hk⟩
  · cases hz'
theorem x_div {a b : Int} {k : Int → Option ρ} {r : ρ} (hm : (divG a b).bind k = some r) (h : ∀ z, divG a b = some z → k z = some r → Q (.int z) H) : rI cDivG (fun i j => .int (i.fdiv j)) (.int a) (.int b) H Q := by
  obtain ⟨z, hz, hk⟩ := ob hm
  have hz' := hz
  unfold divG at hz'
  split at hz'
  · rename_i hc
    have e : a.fdiv b = z := Option.some.inj hz'
    subst e
    exact ⟨a, b, rfl, rfl, hc, h _ hz hk⟩
  · cases hz'
theorem x_mod {a b : Int} {k : Int → Option ρ} {r : ρ} (hm : (modG a b).bind k = some r) (h : ∀ z, modG a b = some z → k z = some r → Q (.int z) H) : rI (fun _ j => j ≠ 0) (fun i j => .int (i.fmod j)) (.int a) (.int b) H Q := by
  obtain ⟨z, hz, hk⟩ := ob hm
  have hz' := hz
  unfold modG at hz'
  split at hz'
  · rename_i hc
    have e : a.fmod b = z := Option.some.inj hz'
    subst e
    exact ⟨a, b, rfl, rfl, hc, h _ hz hk⟩
  · cases hz'
theorem x_u {g : Int → V} {a : Int} (h : Q (g a) H) : rU g (.int a) H Q := ⟨a, rfl, h⟩
theorem x_eqi {a b : Int} (h : Q (.bl (decide (a = b))) H) : rEq (.int a) (.int b) H Q := by
  refine ⟨rfl, ?_⟩
  have e : decide (V.int a = V.int b) = decide (a = b) := by by_cases z : a = b <;> simp [z]
  rw [e]; exact h
theorem x_nei {a b : Int} (h : Q (.bl (!decide (a = b))) H) : rNe (.int a) (.int b) H Q := by
  refine ⟨rfl, ?_⟩
  have e : decide (V.int a = V.int b) = decide (a = b) := by by_cases z : a = b <;> simp [z]
  rw [e]; exact h
theorem x_eqb {a b : Bool} (h : Q (.bl (decide (a = b))) H) : rEq (.bl a) (.bl b) H Q := by
  refine ⟨rfl, ?_⟩
  have e : decide (V.bl a = V.bl b) = decide (a = b) := by by_cases z : a = b <;> simp [z]
  rw [e]; exact h
theorem x_neb {a b : Bool} (h : Q (.bl (!decide (a = b))) H) : rNe (.bl a) (.bl b) H Q := by
  refine ⟨rfl, ?_⟩
  have e : decide (V.bl a = V.bl b) = decide (a = b) := by by_cases z : a = b <;> simp [z]
  rw [e]; exact h
theorem x_eqs {a b : Str} (h : Q (.bl (decide (a = b))) H) : rEq (.str a) (.str b) H Q := by
  refine ⟨rfl, ?_⟩
  have e : decide (V.str a = V.str b) = decide (a = b) := by by_cases z : a = b <;> simp [z]
  rw [e]; exact h
theorem x_nes {a b : Str} (h : Q (.bl (!decide (a = b))) H) : rNe (.str a) (.str b) H Q := by
  refine ⟨rfl, ?_⟩
  have e : decide (V.str a = V.str b) = decide (a = b) := by by_cases z : a = b <;> simp [z]
  rw [e]; exact h
/-- an item of a tuple -/
theorem rep_tupS {K : PySem.W.Frag} {ds : List PyData} {v : V} (r : Rep K X H (.tuple ds) v) : ∃ a vs, v = .ref a ∧ H a = some (.tup vs) ∧ Reps K X H ds vs := by
  cases r with | tup h q => exact ⟨_, _, rfl, h, q⟩
theorem rep_tup {K : PySem.W.Frag} {ds : List PyData} {v : V} (r : Rep K X H (.tuple ds) v) : ∃ a vs, v = .ref a ∧ SqT K H a vs ∧ Reps K X H ds vs := by
  cases r with | tup h q => exact ⟨_, _, rfl, .inl (.inl h), q⟩
theorem rep_lst {K : PySem.W.Frag} {ds : List PyData} {v : V} (r : Rep K X H (.list ds) v) : ∃ a vs, v = .ref a ∧ ¬ X a ∧ Rd H a (.lst vs) ∧ Reps K X H ds vs := by
  cases r with | lst n h q => exact ⟨_, _, rfl, n, h, q⟩
theorem atI_reps {K : PySem.W.Frag} {ds : List PyData} {vs : List V} {i : Int} {d : PyData} (q : Reps K X H ds vs) (e : atI ds i = some d) : ∃ u, atI vs i = some u ∧ Rep K X H d u := by
  unfold atI at e ⊢
  rw [q.length]
  cases h : ixN ds.length i with
  | none => rw [h] at e; cases e
  | some j => rw [h] at e; exact q.get e
theorem x_ixT {ds : List PyData} {d : PyData} {i : Int} {v : V} (r : Rep C.K X H (.tuple ds) v) (e : atI ds i = some d) (h : ∀ u, Rep C.K X H d u → Q u H) : rIxT C.K v (.int i) H Q := by
  obtain ⟨a, vs, rfl, hs, q⟩ := rep_tup r
  obtain ⟨u, h1, h2⟩ := atI_reps q e
  exact ⟨a, vs, i, u, rfl, rfl, hs, h1, h u h2⟩
theorem x_ixTI {ds : List PyData} {x : Int} {i : Int} {v : V} (r : Rep C.K X H (.tuple ds) v) (e : atI ds i = some (PyData.int x)) (h : Q (V.int x) H) : rIxT C.K v (.int i) H Q :=
  x_ixT r e fun u q => by rw [repI (x := x) q]; exact h
theorem x_ixTB {ds : List PyData} {x : Bool} {i : Int} {v : V} (r : Rep C.K X H (.tuple ds) v) (e : atI ds i = some (PyData.bool x)) (h : Q (V.bl x) H) : rIxT C.K v (.int i) H Q :=
  x_ixT r e fun u q => by rw [repB (x := x) q]; exact h
theorem x_ixTS {ds : List PyData} {x : Str} {i : Int} {v : V} (r : Rep C.K X H (.tuple ds) v) (e : atI ds i = some (PyData.str x)) (h : Q (V.str x) H) : rIxT C.K v (.int i) H Q :=
  x_ixT r e fun u q => by rw [repS (x := x) q]; exact h
theorem x_ixTN {ds : List PyData} {x : Unit} {i : Int} {v : V} (r : Rep C.K X H (.tuple ds) v) (e : atI ds i = some PyData.none) (h : Q V.non H) : rIxT C.K v (.int i) H Q :=
  x_ixT r e fun u q => by rw [repN (x := x) q]; exact h
theorem atI_map {f : α → β} {xs : List α} {i : Int} : atI (xs.map f) i = (atI xs i).map f := by
  unfold atI
  rw [List.length_map]
  cases ixN xs.length i with
  | none => rfl
  | some j => exact List.getElem?_map ..
/-- an item of a list -/
theorem x_ixL [Py α] {xs : List α} {i : Int} {v : V} {k : α → Option ρ} {r : ρ} (hm : (ix xs i).bind k = some r) (q : Rep C.K X H (enc xs) v) (h : ∀ x u, ix xs i = some x → k x = some r → Rep C.K X H (enc x) u → Q u H) : rIxL C.K v (.int i) H Q := by
  obtain ⟨x, hx, hk⟩ := ob hm
  obtain ⟨a, vs, rfl, _, hs, q⟩ := rep_lst (ds := xs.map enc) q
  have e : atI (xs.map enc) i = some (enc x) := by rw [atI_map]; unfold ix at hx; rw [hx]; rfl
  obtain ⟨u, h1, h2⟩ := atI_reps q e
  exact ⟨a, vs, i, u, rfl, rfl, .inl hs, h1, h x u hx hk h2⟩
theorem x_ixLI {xs : List Int} {i : Int} {v : V} {k : Int → Option ρ} {r : ρ} (hm : (ix xs i).bind k = some r) (q : Rep C.K X H (enc xs) v) (h : ∀ x, ix xs i = some x → k x = some r → Q (V.int x) H) : rIxL C.K v (.int i) H Q :=
  x_ixL hm q fun x u h1 h2 r => by rw [repI (x := x) r]; exact h x h1 h2
theorem x_ixLB {xs : List Bool} {i : Int} {v : V} {k : Bool → Option ρ} {r : ρ} (hm : (ix xs i).bind k = some r) (q : Rep C.K X H (enc xs) v) (h : ∀ x, ix xs i = some x → k x = some r → Q (V.bl x) H) : rIxL C.K v (.int i) H Q :=
  x_ixL hm q fun x u h1 h2 r => by rw [repB (x := x) r]; exact h x h1 h2
theorem x_ixLS {xs : List Str} {i : Int} {v : V} {k : Str → Option ρ} {r : ρ} (hm : (ix xs i).bind k = some r) (q : Rep C.K X H (enc xs) v) (h : ∀ x, ix xs i = some x → k x = some r → Q (V.str x) H) : rIxL C.K v (.int i) H Q :=
  x_ixL hm q fun x u h1 h2 r => by rw [repS (x := x) r]; exact h x h1 h2
theorem x_ixLN {xs : List Unit} {i : Int} {v : V} {k : Unit → Option ρ} {r : ρ} (hm : (ix xs i).bind k = some r) (q : Rep C.K X H (enc xs) v) (h : ∀ x, ix xs i = some x → k x = some r → Q V.non H) : rIxL C.K v (.int i) H Q :=
  x_ixL hm q fun x u h1 h2 r => by rw [repN (x := x) r]; exact h x h1 h2
/-- .. of a list that may be written -/
theorem x_ixM [Py α] {xs : List α} {i : Int} {j : Nat} {p : Addr} {k : α → Option ρ} {r : ρ} (L : Lo C X H σ Γ) (g : Γ[j]? = some (.mu p (ml xs))) (hm : (ix xs i).bind k = some r) (h : ∀ x u, ix xs i = some x → k x = some r → Rep C.K X H (enc x) u → Q u H) : rIxL C.K (.ref p) (.int i) H Q := by
  obtain ⟨x, hx, hk⟩ := ob hm
  obtain ⟨vs, hs, q⟩ := L.mrep g
  have e : atI (xs.map enc) i = some (enc x) := by rw [atI_map]; unfold ix at hx; rw [hx]; rfl
  obtain ⟨u, h1, h2⟩ := atI_reps q e
  exact ⟨p, vs, i, u, rfl, rfl, .inl (.inl hs), h1, h x u hx hk h2⟩
theorem x_ixMI {xs : List Int} {i : Int} {j : Nat} {p : Addr} {k : Int → Option ρ} {r : ρ} (L : Lo C X H σ Γ) (g : Γ[j]? = some (.mu p (ml xs))) (hm : (ix xs i).bind k = some r) (h : ∀ x, ix xs i = some x → k x = some r → Q (V.int x) H) : rIxL C.K (.ref p) (.int i) H Q :=
  x_ixM L g hm fun x u h1 h2 r => by rw [repI (x := x) r]; exact h x h1 h2
theorem x_ixMB {xs : List Bool} {i : Int} {j : Nat} {p : Addr} {k : Bool → Option ρ} {r : ρ} (L : Lo C X H σ Γ) (g : Γ[j]? = some (.mu p (ml xs))) (hm : (ix xs i).bind k = some r) (h : ∀ x, ix xs i = some x → k x = some r → Q (V.bl x) H) : rIxL C.K (.ref p) (.int i) H Q :=
  x_ixM L g hm fun x u h1 h2 r => by rw [repB (x := x) r]; exact h x h1 h2
theorem x_ixMS {xs : List Str} {i : Int} {j : Nat} {p : Addr} {k : Str → Option ρ} {r : ρ} (L : Lo C X H σ Γ) (g : Γ[j]? = some (.mu p (ml xs))) (hm : (ix xs i).bind k = some r) (h : ∀ x, ix xs i = some x → k x = some r → Q (V.str x) H) : rIxL C.K (.ref p) (.int i) H Q :=
  x_ixM L g hm fun x u h1 h2 r => by rw [repS (x := x) r]; exact h x h1 h2
theorem x_ixMN {xs : List Unit} {i : Int} {j : Nat} {p : Addr} {k : Unit → Option ρ} {r : ρ} (L : Lo C X H σ Γ) (g : Γ[j]? = some (.mu p (ml xs))) (hm : (ix xs i).bind k = some r) (h : ∀ x, ix xs i = some x → k x = some r → Q V.non H) : rIxL C.K (.ref p) (.int i) H Q :=
  x_ixM L g hm fun x u h1 h2 r => by rw [repN (x := x) r]; exact h x h1 h2
/-- .. of the script -/
theorem x_ixS {ns : List Int} {i : Int} {v : V} {k : Int → Option ρ} {r : ρ} (hm : (ix ns i).bind k = some r) (q : SqX C.K X H ns v) (h : ∀ x, ix ns i = some x → k x = some r → Q (.int x) H) : rIxL C.K v (.int i) H Q := by
  obtain ⟨x, hx, hk⟩ := ob hm
  obtain ⟨a, rfl, hs⟩ := q.sq
  have e : atI (ns.map V.int) i = some (.int x) := by rw [atI_map]; unfold ix at hx; rw [hx]; rfl
  exact ⟨a, _, i, _, rfl, rfl, hs, e, h x hx hk⟩
/-! ### displays -/
theorem x_tup {t : TA} (h : t σ H (KTup Q)) : tTup t σ H Q := h
theorem x_lst {t : TA} (h : t σ H (KLst Q)) : tLst t σ H Q := h
theorem same_upd {p : Addr} {o : HO} (h : H p = none) : Same H (upd H p o) := fun b u e => by rw [upd_ne (ne_of_none e h)]; exact e
theorem x_mkT {ds : List PyData} {vs : List V} (L : Lo C X H σ Γ) (q : Reps C.K X H ds vs) (hl : vs.length ≤ 16777216) (h : ∀ v H1, Lo C X H1 σ Γ → (∀ d u, Rep C.K X H d u → Rep C.K X H1 d u) → Rep C.K X H1 (.tuple ds) v → Q v H1) : KTup Q vs H := by
  refine ⟨by rw [line_eq]; exact hl, fun p hp => ?_⟩
  have s : Same H (upd H p (.tup vs)) := same_upd hp
  exact h _ _ (L.same s) (fun _ _ r => r.keep (.same s)) (.tup upd_same (q.keep (.same s)))
/-- a new list, told as data -/
theorem x_mkL {ds : List PyData} {vs : List V} (L : Lo C X H σ Γ) (q : Reps C.K X H ds vs) (hl : vs.length ≤ 16777216) (h : ∀ v H1, Lo C X H1 σ Γ → (∀ d u, Rep C.K X H d u → Rep C.K X H1 d u) → Rep C.K X H1 (.list ds) v → Q v H1) : KLst Q vs H := by
  refine ⟨by rw [line_eq]; exact hl, fun p hp => ?_⟩
  have s : Same H (upd H p (.lst vs)) := same_upd hp
  have r : RRep C.K X H (upd H p (.lst vs)) (.new (.lst ds)) (.ref p) := ⟨p, rfl, hp, vs, upd_same, (q.more hp).keep (.same s)⟩
  exact h _ _ (L.same s) (fun _ _ r => r.keep (.same s)) (r.imm L.xd)
/-- a new list of the body's own -/
theorem x_mkN {ds : List PyData} {vs : List V} (L : Lo C X H σ Γ) (q : Reps C.K X H ds vs) (hl : vs.length ≤ 16777216) (h : ∀ p X' H1, C.H0 p = none → ¬ C.X0 p → Lo C X' H1 σ (Γ ++ [.tmp p (.lst ds)]) → (∀ d u, Rep C.K X H d u → Rep C.K X' H1 d u) → Q (.ref p) H1) : KLst Q vs H := by
  refine ⟨by rw [line_eq]; exact hl, fun p hp => ?_⟩
  have s : Same H (upd H p (.lst vs)) := same_upd hp
  obtain ⟨L1, le, h0, hx⟩ := L.lay (o := .lst ds) hp s ⟨vs, upd_same, (q.more hp).keep (.same s)⟩
  exact h p _ _ h0 hx L1 le
/-- behind a call that tells a new object -/
theorem Lo.afterN {v : V} {o : MO} {ps : List (Addr × MO)} {P0 : List Addr} {H' : Hp} (L : Lo C X H σ Γ) (F : Fin C.K X H P0 ps (.new o) v H') (L' : Lo C X H' σ Γ') (kp : Keep X H H') (sub : ∀ p ∈ P0, p ∈ muts Γ) (hm : muts Γ' = muts Γ)
    (hat : ∀ (i : Nat) (s : Sl), Γ'[i]? = some s → (s.ad = none ∧ Γ[i]? = some s) ∨ (∃ p, s.ad = some p ∧ ∀ (q : Addr), H q = none → SlOk C.K (fun a => X a ∨ a = q) H' σ[i]? s)) :
    ∃ p, v = .ref p ∧ C.H0 p = none ∧ ¬ C.X0 p ∧ Lo C (fun a => X a ∨ a = p) H' σ (Γ' ++ [.tmp p o]) ∧ ∀ d u, Rep C.K X H d u → Rep C.K (fun a => X a ∨ a = p) H' d u := by
  obtain ⟨p, e, hn, r⟩ := F.res
  subst e
  have h0 : C.H0 p = none := by
    cases e : C.H0 p with
    | none => rfl
    | some o => exact (L.dom p (by rw [e]; exact fun z => nomatch z) hn).elim
  have kp' : Keep (fun a => X a ∨ a = p) H H' := kp.mono fun a h => .inl h
  have hm2 : muts (Γ' ++ [Sl.tmp p o]) = muts Γ' ++ [p] := by unfold muts; rw [List.filterMap_append]; rfl
  have hnm : p ∉ muts Γ' := fun h => L.xd p (L.mx p (hm ▸ h)) hn
  refine ⟨p, rfl, h0, fun z => L.xd p (L.m0 p z) hn, ⟨L.len, fun i t hi => ?_, ?_, fun q hq => ?_, fun a h => .inl (L.m0 a h), fun a h => ?_, L'.base, L'.dom, fun q hq => ?_, L.tf⟩, fun _ _ q => (q.more hn).keep kp'⟩
  · by_cases hlt : i < Γ'.length
    · rw [List.getElem?_append_left hlt] at hi
      rcases hat i t hi with ⟨h1, h2⟩ | ⟨q, h1, h2⟩
      · exact ((L.at_ i t h2).more hn).keep kp' fun q e => by rw [h1] at e; cases e
      · exact h2 p hn
    · rw [List.getElem?_append_right (by omega)] at hi
      have ht := List.mem_of_getElem? hi
      rw [List.mem_singleton] at ht
      subst ht
      exact r
  · rw [hm2]
    exact List.nodup_append.mpr ⟨L'.nd, by simp, fun a ha b hb => by
      rw [List.mem_singleton] at hb
      subst hb
      intro z
      exact hnm (z ▸ ha)⟩
  · rw [hm2, List.mem_append, List.mem_singleton] at hq
    exact hq.elim (fun z => .inl (L'.mx q z)) .inr
  · rcases h with h | h
    · exact L'.xd a h
    · subst h; exact r.nn
  · rw [hm2, List.mem_append, List.mem_singleton] at hq
    exact hq.elim (L'.own q) fun z => .inr (z ▸ h0)
theorem Lo.after0N {v : V} {o : MO} {ps : List (Addr × MO)} {H' : Hp} (L : Lo C X H σ Γ) (F : Fin C.K X H [] ps (.new o) v H') :
    ∃ p, v = .ref p ∧ C.H0 p = none ∧ ¬ C.X0 p ∧ ∃ X', Lo C X' H' σ (Γ ++ [.tmp p o]) ∧ ∀ d u, Rep C.K X H d u → Rep C.K X' H' d u := by
  have s : Same H H' := fun a o e => F.base a o e (by simp)
  have L' := (L.after0 F).1
  obtain ⟨p, a, b, c, d, e⟩ := L.afterN F L' (.same s) (by simp) rfl fun i t hi => by
    cases e : t.ad with
    | none => exact .inl ⟨rfl, hi⟩
    | some p =>
      refine .inr ⟨p, rfl, fun q hq => ((L.at_ i t hi).more hq).keep (.same s) fun p' e' => ?_⟩
      obtain ⟨o', r'⟩ := (L.at_ i t hi).mrep e'
      cases h : H p' with
      | none => exact (r'.nn h).elim
      | some u => exact s _ _ h
  exact ⟨p, a, b, c, _, d, e⟩
/-! ### tests -/
theorem x_test {t : TE} {Q : Bool → Hp → Prop} (h : t σ H (KB Q)) : tTest t σ H Q := h
theorem x_tB {t : TE} {Q : Bool → Hp → Prop} (h : t σ H (KB Q)) : tB t σ H Q := h
theorem x_kb {b : Bool} {Q : Bool → Hp → Prop} (h : Q b H) : KB Q (.bl b) H := ⟨b, rfl, h⟩
theorem x_not {t : TT} {Q : Bool → Hp → Prop} (h : t σ H (KNot Q)) : tNot t σ H Q := h
theorem x_kn {b : Bool} {Q : Bool → Hp → Prop} (h : Q (!b) H) : KNot Q b H := h
theorem x_notV {t : TE} (h : t σ H (KB (KNotV Q))) : tNotV t σ H Q := h
theorem x_knV {b : Bool} (h : Q (.bl (!b)) H) : KNotV Q b H := h
theorem x_and {t u : TT} {Q : Bool → Hp → Prop} (h : t σ H (KAnd u σ Q)) : tAnd t u σ H Q := h
theorem x_or {t u : TT} {Q : Bool → Hp → Prop} (h : t σ H (KOr u σ Q)) : tOr t u σ H Q := h
theorem x_andV {t u : TE} (h : t σ H (KB (KAndV u σ Q))) : tAndV t u σ H Q := h
theorem x_orV {t u : TE} (h : t σ H (KB (KOrV u σ Q))) : tOrV t u σ H Q := h
theorem x_ifE {t : TT} {ta tb : TE} (h : t σ H (KIfE ta tb σ Q)) : tIf t ta tb σ H Q := h
/-- a second part that can't fail and changes nothing -/
theorem x_andP {A B : Bool} {u : TT} {Q : Bool → Hp → Prop} (hu : ∀ Q' : Bool → Hp → Prop, Q' B H → u σ H Q') (h : Q (A && B) H) : KAnd u σ Q A H := by
  cases A with
  | true => exact hu Q h
  | false => exact h
theorem x_orP {A B : Bool} {u : TT} {Q : Bool → Hp → Prop} (hu : ∀ Q' : Bool → Hp → Prop, Q' B H → u σ H Q') (h : Q (A || B) H) : KOr u σ Q A H := by
  cases A with
  | false => exact hu Q h
  | true => exact h
theorem x_andVP {A B : Bool} {u : TE} (hu : ∀ Q' : VK, Q' (.bl B) H → u σ H Q') (h : Q (.bl (A && B)) H) : KAndV u σ Q A H := by
  cases A with
  | true => exact hu Q h
  | false => exact h
theorem x_orVP {A B : Bool} {u : TE} (hu : ∀ Q' : VK, Q' (.bl B) H → u σ H Q') (h : Q (.bl (A || B)) H) : KOrV u σ Q A H := by
  cases A with
  | false => exact hu Q h
  | true => exact h
/-- .. that may: it runs only then -/
theorem x_andB {A : Bool} {m : Option Bool} {k : Bool → Option ρ} {r : ρ} {u : TT} {Q : Bool → Hp → Prop} (L : Lo C X H σ Γ) (hm : (if A = true then m else some false).bind k = some r)
    (hu : ∀ b, m = some b → ∀ Q' : Bool → Hp → Prop, (∀ H2, Lo C X H2 σ Γ → Q' b H2) → u σ H Q') (h : ∀ b H2, k b = some r → Lo C X H2 σ Γ → Q b H2) : KAnd u σ Q A H := by
  cases A with
  | true =>
    obtain ⟨b, e, hk⟩ := ob hm
    exact hu b e Q fun H2 l => h b H2 hk l
  | false => exact h false H hm L
theorem x_orB {A : Bool} {m : Option Bool} {k : Bool → Option ρ} {r : ρ} {u : TT} {Q : Bool → Hp → Prop} (L : Lo C X H σ Γ) (hm : (if A = true then some true else m).bind k = some r)
    (hu : ∀ b, m = some b → ∀ Q' : Bool → Hp → Prop, (∀ H2, Lo C X H2 σ Γ → Q' b H2) → u σ H Q') (h : ∀ b H2, k b = some r → Lo C X H2 σ Γ → Q b H2) : KOr u σ Q A H := by
  cases A with
  | false =>
    obtain ⟨b, e, hk⟩ := ob hm
    exact hu b e Q fun H2 l => h b H2 hk l
  | true => exact h true H hm L
theorem x_andVB {A : Bool} {m : Option Bool} {k : Bool → Option ρ} {r : ρ} {u : TE} (L : Lo C X H σ Γ) (hm : (if A = true then m else some false).bind k = some r)
    (hu : ∀ b, m = some b → ∀ Q' : VK, (∀ H2, Lo C X H2 σ Γ → Q' (.bl b) H2) → u σ H Q') (h : ∀ b H2, k b = some r → Lo C X H2 σ Γ → Q (.bl b) H2) : KAndV u σ Q A H := by
  cases A with
  | true =>
    obtain ⟨b, e, hk⟩ := ob hm
    exact hu b e Q fun H2 l => h b H2 hk l
  | false => exact h false H hm L
theorem x_orVB {A : Bool} {m : Option Bool} {k : Bool → Option ρ} {r : ρ} {u : TE} (L : Lo C X H σ Γ) (hm : (if A = true then some true else m).bind k = some r)
    (hu : ∀ b, m = some b → ∀ Q' : VK, (∀ H2, Lo C X H2 σ Γ → Q' (.bl b) H2) → u σ H Q') (h : ∀ b H2, k b = some r → Lo C X H2 σ Γ → Q (.bl b) H2) : KOrV u σ Q A H := by
  cases A with
  | false =>
    obtain ⟨b, e, hk⟩ := ob hm
    exact hu b e Q fun H2 l => h b H2 hk l
  | true => exact h true H hm L
theorem x_lfT {B b : Bool} {Q' : Bool → Hp → Prop} (hm : some B = some b) (hQ : ∀ H2, Lo C X H2 σ Γ → Q' b H2) (L : Lo C X H σ Γ) : Q' B H := by cases hm; exact hQ _ L
theorem x_lfV {B b : Bool} {Q' : VK} (hm : some B = some b) (hQ : ∀ H2, Lo C X H2 σ Γ → Q' (.bl b) H2) (L : Lo C X H σ Γ) : Q' (.bl B) H := by cases hm; exact hQ _ L
/-! ### statements -/
section
variable {nx bk ct : L2.St → Hp → Prop} {rt : VK}
theorem x_seq {t u : TS} (h : t ⟨u ⟨nx, rt, bk, ct⟩, rt, bk, ct⟩ σ H) : tSeq t u ⟨nx, rt, bk, ct⟩ σ H := h
theorem x_next (h : nx σ H) : tNext ⟨nx, rt, bk, ct⟩ σ H := h
theorem x_cont (h : ct σ H) : tCont ⟨nx, rt, bk, ct⟩ σ H := h
theorem x_break (h : bk σ H) : tBreak ⟨nx, rt, bk, ct⟩ σ H := h
theorem x_asg {te : TE} {g : TG} (h : te σ H fun x H1 => g x σ H1 nx) : tAsg te g ⟨nx, rt, bk, ct⟩ σ H := h
theorem x_ret {te : TE} (h : te σ H rt) : tRet te ⟨nx, rt, bk, ct⟩ σ H := h
theorem x_retN (h : rt .non H) : tRetN ⟨nx, rt, bk, ct⟩ σ H := h
theorem x_drop {te : TE} (h : te σ H fun _ H1 => nx σ H1) : tDrop te ⟨nx, rt, bk, ct⟩ σ H := h
end
theorem x_ifS {c : TT} {t u : TS} {D : Ends} (h : c σ H (KIf t u D σ)) : tIfS c t u D σ H := h
/-- a branch ends the body: the rest stands in the other one -/
theorem x_if {t u : TS} {D : Ends} {c : Bool} {mA mB : Option ρ} {r : ρ} (hm : (if c = true then mA else mB) = some r) (hA : mA = some r → t D σ H) (hB : mB = some r → u D σ H) : KIf t u D σ c H := by
  cases c with
  | true => exact hA hm
  | false => exact hB hm
theorem x_ifX {t u : TE} {c : Bool} {mA mB : Option ρ} {r : ρ} (hm : (if c = true then mA else mB) = some r) (hA : mA = some r → t σ H Q) (hB : mB = some r → u σ H Q) : KIfE t u σ Q c H := by
  cases c with
  | true => exact hA hm
  | false => exact hB hm
theorem x_set {d : PyData} {i : Nat} {v : V} {N : L2.St → Hp → Prop} (L : Lo C X H σ Γ) (r : Rep C.K X H d v) (hi : i < C.n) (e : Γ.set i (.imm d) = Γ') (h : ∀ σ', Lo C X H σ' Γ' → N σ' H) : gName i v σ H N := by
  subst e
  exact h _ (L.set r hi)
/-- a new object gets a name -/
theorem x_setN {p : Addr} {o : MO} {i : Nat} {N : L2.St → Hp → Prop} (L : Lo C X H σ (Γ ++ [.tmp p o])) (hi : i < C.n) (hl : i < Γ.length) (e : Γ.set i (.mu p o) = Γ') (h : ∀ σ', Lo C X H σ' Γ' → N σ' H) : gName i (.ref p) σ H N := by
  subst e
  exact h _ (L.name hi hl)
/-- two names at once -/
theorem x_par {i j : Nat} {ta : TA} {nx bk ct : L2.St → Hp → Prop} {rt : VK} (h : ta σ H (KPar i j σ nx)) : tPar i j ta ⟨nx, rt, bk, ct⟩ σ H := h
theorem x_par2 {x y : PyData} {i j : Nat} {v w : V} {N : L2.St → Hp → Prop} (L : Lo C X H σ Γ) (r : Rep C.K X H x v) (q : Rep C.K X H y w) (hi : i < C.n) (hj : j < C.n) (e : (Γ.set i (.imm x)).set j (.imm y) = Γ') (h : ∀ σ', Lo C X H σ' Γ' → N σ' H) :
    KPar i j σ N [v, w] H := by
  subst e
  exact ⟨v, w, rfl, h _ ((L.set r hi).set q hj)⟩
def KPar3 (i j l : Nat) (σ : L2.St) (N : L2.St → Hp → Prop) : List V → Hp → Prop := fun vs H => ∃ u v w, vs = [u, v, w] ∧ N (((σ.set i (some u)).set j (some v)).set l (some w)) H
theorem x_par3 {i j l : Nat} {ta : TA} {nx bk ct : L2.St → Hp → Prop} {rt : VK} (h : ta σ H (KPar3 i j l σ nx)) : tPar3 i j l ta ⟨nx, rt, bk, ct⟩ σ H := h
theorem x_par3r {x y z : PyData} {i j l : Nat} {u v w : V} {N : L2.St → Hp → Prop} (L : Lo C X H σ Γ) (r : Rep C.K X H x u) (q : Rep C.K X H y v) (t : Rep C.K X H z w) (hi : i < C.n) (hj : j < C.n) (hl : l < C.n) (e : ((Γ.set i (.imm x)).set j (.imm y)).set l (.imm z) = Γ') (h : ∀ σ', Lo C X H σ' Γ' → N σ' H) :
    KPar3 i j l σ N [u, v, w] H := by
  subst e
  exact ⟨u, v, w, rfl, h _ (((L.set r hi).set q hj).set t hl)⟩
/-- a tuple is parted to names -/
theorem x_gTup {ds : List PyData} {v : V} {n : Nat} {t : TGs} {N : L2.St → Hp → Prop} (r : Rep C.K X H (.tuple ds) v) (hl : ds.length = n) (h : ∀ vs, Reps C.K X H ds vs → t vs σ H N) : gTup C.K n t v σ H N := by
  obtain ⟨a, vs, rfl, hs, q⟩ := rep_tup r
  exact ⟨a, vs, rfl, hs, q.length.trans hl, h vs q⟩
theorem x_gCons {d : PyData} {ds : List PyData} {vs : List V} {t : TG} {u : TGs} {N : L2.St → Hp → Prop} (q : Reps C.K X H (d :: ds) vs) (h : ∀ v r, Rep C.K X H d v → Reps C.K X H ds r → t v σ H fun σ' H' => u r σ' H' N) : gCons t u vs σ H N := by
  cases q with | cons r t => exact ⟨_, _, rfl, h _ _ r t⟩
theorem x_gNil {vs : List V} {N : L2.St → Hp → Prop} (q : Reps C.K X H [] vs) (h : N σ H) : gNil vs σ H N := by
  cases q; exact ⟨rfl, h⟩
/-- an item of a list is written -/
theorem x_gSub {to ti : TE} {t : TSet} {v : V} {N : L2.St → Hp → Prop} (h : to σ H fun o H1 => ti σ H1 fun i H2 => t o i v H2 (N σ)) : gSub to ti t v σ H N := h
def setI (xs : List α) (i : Int) (x : α) : Option (List α) := (ixN xs.length i).map fun j => xs.set j x
theorem x_setI [Py α] {xs : List α} {x : α} {i : Int} {j : Nat} {p : Addr} {v : V} {N : Hp → Prop} {k : List α → Option ρ} {r : ρ} (L : Lo C X H σ Γ) (g : Γ[j]? = some (.mu p (ml xs))) (hm : (setI xs i x).bind k = some r) (q : Rep C.K X H (enc x) v)
    (h : ∀ ys H1, setI xs i x = some ys → k ys = some r → Lo C X H1 σ (Γ.set j (.mu p (ml ys))) → N H1) : rSetL (.ref p) (.int i) v H N := by
  obtain ⟨ys, e, hk⟩ := ob hm
  have e' := e
  unfold setI at e'
  obtain ⟨vs, hs, rs⟩ := L.mrep g
  have hl : vs.length = xs.length := by rw [rs.length, List.length_map]
  cases hj : ixN xs.length i with
  | none => rw [hj] at e'; cases e'
  | some m =>
    rw [hj] at e'
    have e2 : xs.set m x = ys := Option.some.inj e'
    refine ⟨p, vs, i, m, rfl, rfl, hs, by rw [hl]; exact hj, ?_⟩
    have hX : X p := L.mx p (mem_muts.mpr ⟨j, _, g, rfl⟩)
    have kp : Keep X H (upd H p (.lst (vs.set m v))) := ⟨fun a u h n => by rw [upd_ne (fun z => n (by rw [z]; exact hX))]; exact h, fun a us h => by rw [upd_ne (fun z => by rw [z, hs] at h; cases h)]; exact h, fun a u w h => by rw [upd_ne (fun z => by rw [z, hs] at h; cases h)]; exact h⟩
    have := L.wrote (H' := upd H p (.lst (vs.set m v))) (o := ml ys) g rfl (fun a u h n => by rw [upd_ne n]; exact h) (fun a h => by
      by_cases z : a = p
      · rw [z, upd_same]; exact fun y => nomatch y
      · rw [upd_ne z]; exact h) ⟨_, upd_same, by rw [← e2, List.map_set]; exact (rs.set q m).keep kp⟩
    exact h ys _ e hk this.1
end
open Py (enc)

/-- how a loop's turn ends: the next one, out of the loop, out of the def -/
inductive Lp (τ ρ : Type) where
  | nxt (s : τ)
  | brk (s : τ)
  | ret (r : ρ)
def loopL {α τ ρ : Type} (f : α → τ → Option (Lp τ ρ)) : List α → τ → Option (Lp τ ρ)
  | [], s => some (.nxt s)
  | x :: xs, s => (f x s).bind fun o => match o with
    | .nxt s' => loopL f xs s'
    | .brk s' => some (.brk s')
    | .ret r => some (.ret r)
/-- a loop that is left by its end alone -/
def foldO {α τ : Type} (f : α → τ → Option τ) : List α → τ → Option τ
  | [], s => some s
  | x :: xs, s => (f x s).bind fun s' => foldO f xs s'
def loopW {τ ρ : Type} (f : τ → Option (Lp τ ρ)) : Nat → τ → Option (Lp τ ρ)
  | 0, _ => none
  | n + 1, s => (f s).bind fun o => match o with
    | .nxt s' => loopW f n s'
    | .brk s' => some (.brk s')
    | .ret r => some (.ret r)
/-- a while without a break or a return -/
def whileO {τ : Type} (c : τ → Bool) (f : τ → Option τ) : Nat → τ → Option τ
  | 0, _ => none
  | n + 1, s => if c s = true then (f s).bind fun s' => whileO c f n s' else some s
def rangeL (lo : Int) (n : Nat) : List Int := (List.range n).map fun (k : Nat) => lo + (k : Int)

/-- what a loop told -/
def Lp.out {τ ρ ρ' : Type} (o : Lp τ ρ) (j : ρ → Option ρ') (k : τ → Option ρ') : Option ρ' := match o with
  | .nxt s => k s
  | .brk s => k s
  | .ret r => j r
/-- the rest of a loop, of a comprehension, by name -/
def KForL (K : PySem.W.Frag) (g : TG) (tb : TS) (D : Ends) (σ : L2.St) (v : V) (H : Hp) : Prop := ∃ a, v = V.ref a ∧ (∃ xs, SqL K H a xs) ∧ ∃ W : Nat → Nat → L2.St → Hp → Prop, (∃ m, W 0 m σ H) ∧ ∀ i m σ H, W i m σ H →
      ((Itl K a).stop i H ∧ D.nx σ H) ∨ ((Itl K a).go i H ∧ ∃ N : L2.St → Hp → Prop, (∀ σ' H', N σ' H' → ∃ m', m' < m ∧ W (i + 1) m' σ' H') ∧ ∀ x H', (Itl K a).yld i H x H' → g x σ H' fun σ2 H2 => tb { D with nx := N, ct := N, bk := D.nx } σ2 H2)
def KForT (K : PySem.W.Frag) (g : TG) (tb : TS) (D : Ends) (σ : L2.St) (v : V) (H : Hp) : Prop := ∃ a, v = V.ref a ∧ (∃ xs, SqT K H a xs) ∧ ∃ W : Nat → Nat → L2.St → Hp → Prop, (∃ m, W 0 m σ H) ∧ ∀ i m σ H, W i m σ H →
      ((Itt K a).stop i H ∧ D.nx σ H) ∨ ((Itt K a).go i H ∧ ∃ N : L2.St → Hp → Prop, (∀ σ' H', N σ' H' → ∃ m', m' < m ∧ W (i + 1) m' σ' H') ∧ ∀ x H', (Itt K a).yld i H x H' → g x σ H' fun σ2 H2 => tb { D with nx := N, ct := N, bk := D.nx } σ2 H2)
def KForR (lo : Int) (n : Nat) (g : TG) (tb : TS) (D : Ends) (σ : L2.St) (H : Hp) : Prop := ∃ W : Nat → Nat → L2.St → Hp → Prop, (∃ m, W 0 m σ H) ∧ ∀ i m σ H, W i m σ H →
      ((Itr lo n).stop i H ∧ D.nx σ H) ∨ ((Itr lo n).go i H ∧ ∃ N : L2.St → Hp → Prop, (∀ σ' H', N σ' H' → ∃ m', m' < m ∧ W (i + 1) m' σ' H') ∧ ∀ x H', (Itr lo n).yld i H x H' → g x σ H' fun σ2 H2 => tb { D with nx := N, ct := N, bk := D.nx } σ2 H2)
def KWh (tb : TS) (D : Ends) (σ : L2.St) : Bool → Hp → Prop := fun b H => if b = true then tb D σ H else D.bk σ H
def KRng1 (R : Int → Nat → Hp → Prop) : List V → Hp → Prop := fun vs H => ∃ j : Int, vs = [.int j] ∧ -(2 ^ 62) ≤ j ∧ j < 2 ^ 62 ∧ R 0 j.toNat H
def KRng2 (R : Int → Nat → Hp → Prop) : List V → Hp → Prop := fun vs H => ∃ i j : Int, vs = [.int i, .int j] ∧ (-(2 ^ 62) ≤ i ∧ i < 2 ^ 62 ∧ -(2 ^ 62) ≤ j ∧ j < 2 ^ 62) ∧ R i (j - i).toNat H
theorem x_whIf {tb : TS} {nx bk ct : L2.St → Hp → Prop} {rt : VK} {σ : L2.St} {H : Hp} {ρ : Type} {c : Bool} {mA mB : Option ρ} {r : ρ} (hm : (if c = true then mA else mB) = some r) (hA : mA = some r → tb ⟨nx, rt, bk, ct⟩ σ H) (hB : mB = some r → bk σ H) : KWh tb ⟨nx, rt, bk, ct⟩ σ c H := by
  cases c with
  | true => exact hA hm
  | false => exact hB hm
section
variable {C : Cn} {X : Addr → Prop} {H : Hp} {σ : L2.St} {Γ Γ' : List Sl} {Q : VK} {α β τ ρ : Type}
theorem loop_drop {f : α → τ → Option (Lp τ ρ)} {xs : List α} {i : Nat} {x : α} {s : τ} {o : Lp τ ρ} (hx : xs[i]? = some x) (h : loopL f (xs.drop i) s = some o) :
    ∃ o1, f x s = some o1 ∧ (∀ s', o1 = .nxt s' → loopL f (xs.drop (i + 1)) s' = some o) ∧ (∀ s', o1 = .brk s' → o = .brk s') ∧ (∀ r, o1 = .ret r → o = .ret r) := by
  obtain ⟨hl, hx⟩ := List.getElem?_eq_some_iff.mp hx
  rw [List.drop_eq_getElem_cons hl, hx] at h
  obtain ⟨o1, h1, h2⟩ := ob h
  refine ⟨o1, h1, fun s' e => ?_, fun s' e => ?_, fun r e => ?_⟩
  · subst e; exact h2
  · subst e; exact (Option.some.inj h2).symm
  · subst e; exact (Option.some.inj h2).symm
/-- what a loop's body shows of one turn -/
def Body (C : Cn) (X : Addr → Prop) (G : τ → List Sl) (ps : ρ → List (Addr × MO)) (rs : ρ → Rs) (d : PyData) (s : τ) (o : Option (Lp τ ρ)) (g : TG) (tb : TS) : Prop :=
  ∀ (H : Hp) (σ : L2.St) (u : V) (nx : L2.St → Hp → Prop) (rt : VK) (bk ct : L2.St → Hp → Prop) (o1 : Lp τ ρ), o = some o1 → Lo ⟨C.K, X, H, muts (G s), C.n⟩ X H σ (G s) → (∀ a, C.H0 a ≠ none → H a ≠ none) → Rep C.K X H d u →
    (∀ s', o1 = .nxt s' → ∀ X' σ' H', Lo ⟨C.K, X, H, muts (G s), C.n⟩ X' H' σ' (G s') → nx σ' H') →
    (∀ s', o1 = .nxt s' → ∀ X' σ' H', Lo ⟨C.K, X, H, muts (G s), C.n⟩ X' H' σ' (G s') → ct σ' H') →
    (∀ s', o1 = .brk s' → ∀ X' σ' H', Lo ⟨C.K, X, H, muts (G s), C.n⟩ X' H' σ' (G s') → bk σ' H') →
    (∀ r, o1 = .ret r → ∀ v H', Fin C.K X H (muts (G s)) (ps r) (rs r) v H' → rt v H') → g u σ H fun σ2 H2 => tb ⟨nx, rt, bk, ct⟩ σ2 H2
theorem x_for [Py α] {xs : List α} {f : α → τ → Option (Lp τ ρ)} {G : τ → List Sl} {ps : ρ → List (Addr × MO)} {rs : ρ → Rs} {s0 : τ} {o : Lp τ ρ} {v : V} {g : TG} {tb : TS} {nx bk ct : L2.St → Hp → Prop} {rt : VK}
    (L : Lo C X H σ (G s0)) (hG : ∀ s s', muts (G s) = muts (G s')) (r : Rep C.K X H (enc xs) v) (hm : loopL f xs s0 = some o)
    (body : ∀ x s, Body C X G ps rs (enc x) s (f x s) g tb)
    (done : ∀ s, o = .nxt s → ∀ σ' H', Lo C X H' σ' (G s) → nx σ' H') (brk : ∀ s, o = .brk s → ∀ σ' H', Lo C X H' σ' (G s) → nx σ' H')
    (ret : ∀ q, o = .ret q → ∀ v H', Fin C.K C.X0 C.H0 C.P0 (ps q) (rs q) v H' → rt v H') :
    KForL C.K g tb ⟨nx, rt, bk, ct⟩ σ v H := by
  obtain ⟨a, vs, rfl, hna, hrd, hrs⟩ := rep_lst (ds := xs.map enc) r
  refine ⟨a, rfl, ⟨vs, .inl hrd⟩, for_list (K := C.K) (a := a) (xs := vs) (fun i σ' H' => ∃ s, Lo C X H' σ' (G s) ∧ Rep C.K X H' (enc xs) (.ref a) ∧ Rd H' a (.lst vs) ∧ loopL f (xs.drop i) s = some o)
    ⟨s0, L, r, hrd, hm⟩ (fun i σ' H' _ ⟨s, _, _, h, _⟩ => .inl h) ?_ ?_⟩
  · rintro i y σ' H' hy ⟨s, L', r', hd', hm'⟩
    obtain ⟨a', vs', e', _, hrd', hrs'⟩ := rep_lst (ds := xs.map enc) r'
    cases e'
    have ev : vs' = vs := by
      rcases hd' with h1 | ⟨_, h1⟩ <;> rcases hrd' with h2 | ⟨_, h2⟩ <;> rw [h1] at h2 <;> cases h2 <;> rfl
    subst ev
    obtain ⟨d, hd, rd⟩ := hrs'.get' hy
    rw [List.getElem?_map] at hd
    cases hx : xs[i]? with
    | none => rw [hx] at hd; cases hd
    | some x =>
      rw [hx] at hd
      cases hd
      obtain ⟨o1, h1, h2, h3, h4⟩ := loop_drop hx hm'
      refine body x s H' σ' y _ _ _ _ o1 h1 L'.enter L'.dom rd ?_ ?_ ?_ ?_
      · intro s' e X' σ'' H'' L''
        have k := L'.keep L''
        exact ⟨s', L'.leave L'' (hG _ _), r'.keep k, k.rd hna hrd', h2 s' e⟩
      · intro s' e X' σ'' H'' L''
        have k := L'.keep L''
        exact ⟨s', L'.leave L'' (hG _ _), r'.keep k, k.rd hna hrd', h2 s' e⟩
      · intro s' e X' σ'' H'' L''
        exact brk s' (h3 s' e) _ _ (L'.leave L'' (hG _ _))
      · intro q e v' H'' F
        exact ret q (h4 q e) v' H'' (F.leave L')
  · rintro σ' H' ⟨s, L', _, _, hm'⟩
    rw [hrs.length, List.length_map, List.drop_length] at hm'
    exact done s (Option.some.inj hm').symm _ _ L'
/-- .. over a tuple of such items -/
theorem x_forT [Py α] {xs : List α} {f : α → τ → Option (Lp τ ρ)} {G : τ → List Sl} {ps : ρ → List (Addr × MO)} {rs : ρ → Rs} {s0 : τ} {o : Lp τ ρ} {v : V} {g : TG} {tb : TS} {nx bk ct : L2.St → Hp → Prop} {rt : VK}
    (L : Lo C X H σ (G s0)) (hG : ∀ s s', muts (G s) = muts (G s')) (r : Rep C.K X H (.tuple (xs.map enc)) v) (hm : loopL f xs s0 = some o)
    (body : ∀ x s, Body C X G ps rs (enc x) s (f x s) g tb)
    (done : ∀ s, o = .nxt s → ∀ σ' H', Lo C X H' σ' (G s) → nx σ' H') (brk : ∀ s, o = .brk s → ∀ σ' H', Lo C X H' σ' (G s) → nx σ' H')
    (ret : ∀ q, o = .ret q → ∀ v H', Fin C.K C.X0 C.H0 C.P0 (ps q) (rs q) v H' → rt v H') :
    KForT C.K g tb ⟨nx, rt, bk, ct⟩ σ v H := by
  obtain ⟨a, vs, rfl, hrd, hrs⟩ := rep_tup r
  refine ⟨a, rfl, ⟨vs, hrd⟩, for_tup (K := C.K) (a := a) (xs := vs) (fun i σ' H' => ∃ s, Lo C X H' σ' (G s) ∧ SqT C.K H' a vs ∧ Reps C.K X H' (xs.map enc) vs ∧ loopL f (xs.drop i) s = some o)
    ⟨s0, L, hrd, hrs, hm⟩ (fun i σ' H' _ ⟨s, _, h, _⟩ => h) ?_ ?_⟩
  · rintro i y σ' H' hy ⟨s, L', hrd', hrs', hm'⟩
    obtain ⟨d, hd, rd⟩ := hrs'.get' hy
    rw [List.getElem?_map] at hd
    cases hx : xs[i]? with
    | none => rw [hx] at hd; cases hd
    | some x =>
      rw [hx] at hd
      cases hd
      obtain ⟨o1, h1, h2, h3, h4⟩ := loop_drop hx hm'
      refine body x s H' σ' y _ _ _ _ o1 h1 L'.enter L'.dom rd ?_ ?_ ?_ ?_
      · intro s' e X' σ'' H'' L''
        have k := L'.keep L''
        exact ⟨s', L'.leave L'' (hG _ _), k.sqT hrd', hrs'.keep k, h2 s' e⟩
      · intro s' e X' σ'' H'' L''
        have k := L'.keep L''
        exact ⟨s', L'.leave L'' (hG _ _), k.sqT hrd', hrs'.keep k, h2 s' e⟩
      · intro s' e X' σ'' H'' L''
        exact brk s' (h3 s' e) _ _ (L'.leave L'' (hG _ _))
      · intro q e v' H'' F
        exact ret q (h4 q e) v' H'' (F.leave L')
  · rintro σ' H' ⟨s, L', _, _, hm'⟩
    rw [hrs.length, List.length_map, List.drop_length] at hm'
    exact done s (Option.some.inj hm').symm _ _ L'
theorem rangeL_get {lo : Int} {n i : Nat} (h : i < n) : (rangeL lo n)[i]? = some (lo + (i : Int)) := by
  unfold rangeL
  rw [List.getElem?_map, List.getElem?_range h]
  rfl
/-- .. over a range -/
theorem x_forR {f : Int → τ → Option (Lp τ ρ)} {G : τ → List Sl} {ps : ρ → List (Addr × MO)} {rs : ρ → Rs} {s0 : τ} {o : Lp τ ρ} {lo : Int} {n : Nat} {g : TG} {tb : TS} {nx bk ct : L2.St → Hp → Prop} {rt : VK}
    (L : Lo C X H σ (G s0)) (hG : ∀ s s', muts (G s) = muts (G s')) (hm : loopL f (rangeL lo n) s0 = some o)
    (body : ∀ x s, Body C X G ps rs (enc x) s (f x s) g tb)
    (done : ∀ s, o = .nxt s → ∀ σ' H', Lo C X H' σ' (G s) → nx σ' H') (brk : ∀ s, o = .brk s → ∀ σ' H', Lo C X H' σ' (G s) → nx σ' H')
    (ret : ∀ q, o = .ret q → ∀ v H', Fin C.K C.X0 C.H0 C.P0 (ps q) (rs q) v H' → rt v H') :
    KForR lo n g tb ⟨nx, rt, bk, ct⟩ σ H := by
  refine for_range (fun i σ' H' => ∃ s, Lo C X H' σ' (G s) ∧ loopL f ((rangeL lo n).drop i) s = some o) ⟨s0, L, hm⟩ ?_ ?_
  · rintro i σ' H' hi ⟨s, L', hm'⟩
    obtain ⟨o1, h1, h2, h3, h4⟩ := loop_drop (rangeL_get hi) hm'
    refine body (lo + (i : Int)) s H' σ' _ _ _ _ _ o1 h1 L'.enter L'.dom (.int _) ?_ ?_ ?_ ?_
    · intro s' e X' σ'' H'' L''
      exact ⟨s', L'.leave L'' (hG _ _), h2 s' e⟩
    · intro s' e X' σ'' H'' L''
      exact ⟨s', L'.leave L'' (hG _ _), h2 s' e⟩
    · intro s' e X' σ'' H'' L''
      exact brk s' (h3 s' e) _ _ (L'.leave L'' (hG _ _))
    · intro q e v' H'' F
      exact ret q (h4 q e) v' H'' (F.leave L')
  · rintro σ' H' ⟨s, L', hm'⟩
    have hl : (rangeL lo n).length = n := by unfold rangeL; rw [List.length_map, List.length_range]
    have : (rangeL lo n).drop n = [] := List.drop_eq_nil_of_le (by omega)
    rw [this] at hm'
    exact done s (Option.some.inj hm').symm _ _ L'
/-- .. over the script -/
theorem x_forS {xs : List Int} {f : Int → τ → Option (Lp τ ρ)} {G : τ → List Sl} {ps : ρ → List (Addr × MO)} {rs : ρ → Rs} {s0 : τ} {o : Lp τ ρ} {v : V} {g : TG} {tb : TS} {nx bk ct : L2.St → Hp → Prop} {rt : VK}
    (L : Lo C X H σ (G s0)) (hG : ∀ s s', muts (G s) = muts (G s')) (r : SqX C.K X H xs v) (hm : loopL f xs s0 = some o)
    (body : ∀ x s, Body C X G ps rs (enc x) s (f x s) g tb)
    (done : ∀ s, o = .nxt s → ∀ σ' H', Lo C X H' σ' (G s) → nx σ' H') (brk : ∀ s, o = .brk s → ∀ σ' H', Lo C X H' σ' (G s) → nx σ' H')
    (ret : ∀ q, o = .ret q → ∀ v H', Fin C.K C.X0 C.H0 C.P0 (ps q) (rs q) v H' → rt v H') :
    KForL C.K g tb ⟨nx, rt, bk, ct⟩ σ v H := by
  obtain ⟨a, rfl, hs⟩ := r.sq
  refine ⟨a, rfl, ⟨_, hs⟩, for_list (K := C.K) (a := a) (xs := xs.map V.int) (fun i σ' H' => ∃ s, Lo C X H' σ' (G s) ∧ SqX C.K X H' xs (.ref a) ∧ loopL f (xs.drop i) s = some o)
    ⟨s0, L, r, hm⟩ (fun i σ' H' _ ⟨s, _, h, _⟩ => by obtain ⟨a', e, h⟩ := h.sq; cases e; exact h) ?_ ?_⟩
  · rintro i y σ' H' hy ⟨s, L', r', hm'⟩
    rw [List.getElem?_map] at hy
    cases hx : xs[i]? with
    | none => rw [hx] at hy; cases hy
    | some x =>
      rw [hx] at hy
      cases hy
      obtain ⟨o1, h1, h2, h3, h4⟩ := loop_drop hx hm'
      refine body x s H' σ' _ _ _ _ _ o1 h1 L'.enter L'.dom (.int _) ?_ ?_ ?_ ?_
      · intro s' e X' σ'' H'' L''
        exact ⟨s', L'.leave L'' (hG _ _), r'.keep (L'.keep L''), h2 s' e⟩
      · intro s' e X' σ'' H'' L''
        exact ⟨s', L'.leave L'' (hG _ _), r'.keep (L'.keep L''), h2 s' e⟩
      · intro s' e X' σ'' H'' L''
        exact brk s' (h3 s' e) _ _ (L'.leave L'' (hG _ _))
      · intro q e v' H'' F
        exact ret q (h4 q e) v' H'' (F.leave L')
  · rintro σ' H' ⟨s, L', _, hm'⟩
    rw [List.length_map, List.drop_length] at hm'
    exact done s (Option.some.inj hm').symm _ _ L'
/-- a while: f runs the test, too, and tells brk where it is not so -/
theorem x_while {f : τ → Option (Lp τ ρ)} {G : τ → List Sl} {ps : ρ → List (Addr × MO)} {rs : ρ → Rs} {s0 : τ} {o : Lp τ ρ} {n : Nat} {c : TT} {tb : TS} {nx bk ct : L2.St → Hp → Prop} {rt : VK}
    (L : Lo C X H σ (G s0)) (hG : ∀ s s', muts (G s) = muts (G s')) (hm : loopW f n s0 = some o)
    (body : ∀ s, ∀ (H : Hp) (σ : L2.St) (nx : L2.St → Hp → Prop) (rt : VK) (bk ct : L2.St → Hp → Prop) (o1 : Lp τ ρ), f s = some o1 → Lo ⟨C.K, X, H, muts (G s), C.n⟩ X H σ (G s) → (∀ a, C.H0 a ≠ none → H a ≠ none) →
      (∀ s', o1 = .nxt s' → ∀ X' σ' H', Lo ⟨C.K, X, H, muts (G s), C.n⟩ X' H' σ' (G s') → nx σ' H') →
      (∀ s', o1 = .nxt s' → ∀ X' σ' H', Lo ⟨C.K, X, H, muts (G s), C.n⟩ X' H' σ' (G s') → ct σ' H') →
      (∀ s', o1 = .brk s' → ∀ X' σ' H', Lo ⟨C.K, X, H, muts (G s), C.n⟩ X' H' σ' (G s') → bk σ' H') →
      (∀ r, o1 = .ret r → ∀ v H', Fin C.K X H (muts (G s)) (ps r) (rs r) v H' → rt v H') →
      ∀ Qc : Bool → Hp → Prop, (∀ b H1, KWh tb ⟨nx, rt, bk, ct⟩ σ b H1 → Qc b H1) → c σ H Qc)
    (done : ∀ s, o = .brk s → ∀ σ' H', Lo C X H' σ' (G s) → nx σ' H')
    (ret : ∀ q, o = .ret q → ∀ v H', Fin C.K C.X0 C.H0 C.P0 (ps q) (rs q) v H' → rt v H') : tWhile c tb ⟨nx, rt, bk, ct⟩ σ H := by
  refine ⟨fun m σ' H' => ∃ s, Lo C X H' σ' (G s) ∧ loopW f m s = some o, ⟨n, s0, L, hm⟩, ?_⟩
  rintro m σ' H' ⟨s, L', hm'⟩
  cases m with
  | zero => cases hm'
  | succ m =>
    obtain ⟨o1, h1, h2⟩ := ob hm'
    refine body s H' σ' (fun σ' H' => ∃ s, Lo C X H' σ' (G s) ∧ loopW f m s = some o) rt nx (fun σ' H' => ∃ s, Lo C X H' σ' (G s) ∧ loopW f m s = some o) o1 h1 L'.enter L'.dom ?_ ?_ ?_ ?_ _ ?_
    · intro s' e X' σ'' H'' L''
      subst e
      exact ⟨s', L'.leave L'' (hG _ _), h2⟩
    · intro s' e X' σ'' H'' L''
      subst e
      exact ⟨s', L'.leave L'' (hG _ _), h2⟩
    · intro s' e X' σ'' H'' L''
      subst e
      exact done s' (Option.some.inj h2).symm _ _ (L'.leave L'' (hG _ _))
    · intro q e v' H'' F
      subst e
      exact ret q (Option.some.inj h2).symm v' H'' (F.leave L')
    · intro b H1 q
      cases b with
      | true => exact ⟨fun σ' H' => ∃ s, Lo C X H' σ' (G s) ∧ loopW f m s = some o, fun σ1 H1 ⟨s1, L1, h⟩ => ⟨m, Nat.lt_succ_self _, s1, L1, h⟩, q⟩
      | false => exact q


/-! ### loops, with what stands behind them -/
def BodyO (C : Cn) (X : Addr → Prop) (G : τ → List Sl) (d : PyData) (s : τ) (o : Option τ) (g : TG) (tb : TS) : Prop :=
  ∀ (H : Hp) (σ : L2.St) (u : V) (nx : L2.St → Hp → Prop) (rt : VK) (bk ct : L2.St → Hp → Prop) (s1 : τ), o = some s1 → Lo ⟨C.K, X, H, muts (G s), C.n⟩ X H σ (G s) → (∀ a, C.H0 a ≠ none → H a ≠ none) → Rep C.K X H d u →
    (∀ X' σ' H', Lo ⟨C.K, X, H, muts (G s), C.n⟩ X' H' σ' (G s1) → nx σ' H') →
    (∀ X' σ' H', Lo ⟨C.K, X, H, muts (G s), C.n⟩ X' H' σ' (G s1) → ct σ' H') → g u σ H fun σ2 H2 => tb ⟨nx, rt, bk, ct⟩ σ2 H2
theorem foldO_loop {f : α → τ → Option τ} : ∀ {xs : List α} {s s' : τ}, foldO f xs s = some s' → loopL (ρ := Empty) (fun x s => (f x s).bind fun s => some (.nxt s)) xs s = some (.nxt s')
  | [], s, s', h => by cases h; rfl
  | x :: xs, s, s', h => by
    obtain ⟨t, h1, h2⟩ := ob h
    show ((f x s).bind fun s => some (Lp.nxt (ρ := Empty) s)).bind _ = _
    rw [h1]
    exact foldO_loop h2
theorem BodyO.body {G : τ → List Sl} {d : PyData} {s : τ} {o : Option τ} {g : TG} {tb : TS} (b : BodyO C X G d s o g tb) : Body (ρ := Empty) C X G (fun _ => []) (fun _ => .imm .none) d s (o.bind fun s => some (.nxt s)) g tb := by
  intro H σ u nx rt bk ct o1 hm L hd r hN hC hB hR
  obtain ⟨s1, h1, h2⟩ := ob hm
  cases h2
  exact b H σ u nx rt bk ct s1 h1 L hd r (hN s1 rfl) (hC s1 rfl)
theorem x_foL [Py α] {xs : List α} {f : α → τ → Option τ} {G : τ → List Sl} {s0 : τ} {v : V} {g : TG} {tb : TS} {nx bk ct : L2.St → Hp → Prop} {rt : VK} {k : τ → Option ρ} {res : ρ}
    (L : Lo C X H σ (G s0)) (hG : ∀ s s', muts (G s) = muts (G s')) (r : Rep C.K X H (enc xs) v) (hm : (foldO f xs s0).bind k = some res)
    (body : ∀ x s, BodyO C X G (enc x) s (f x s) g tb) (done : ∀ s σ' H', k s = some res → Lo C X H' σ' (G s) → nx σ' H') : KForL C.K g tb ⟨nx, rt, bk, ct⟩ σ v H := by
  obtain ⟨s1, h1, h2⟩ := ob hm
  exact x_for (ρ := Empty) (o := .nxt s1) (ps := fun _ => []) (rs := fun _ => .imm .none) L hG r (foldO_loop h1) (fun x s => (body x s).body) (fun s e σ' H' L' => by cases e; exact done _ _ _ h2 L') (fun s e => nomatch e) (fun q => nomatch q)
theorem x_flL [Py α] {xs : List α} {f : α → τ → Option (Lp τ ρ)} {G : τ → List Sl} {ps : ρ → List (Addr × MO)} {rs : ρ → Rs} {s0 : τ} {v : V} {g : TG} {tb : TS} {nx bk ct : L2.St → Hp → Prop} {rt : VK} {k : τ → Option β} {j : ρ → Option β} {res : β}
    (L : Lo C X H σ (G s0)) (hG : ∀ s s', muts (G s) = muts (G s')) (r : Rep C.K X H (enc xs) v) (hm : (loopL f xs s0).bind (fun o => o.out j k) = some res)
    (body : ∀ x s, Body C X G ps rs (enc x) s (f x s) g tb) (done : ∀ s σ' H', k s = some res → Lo C X H' σ' (G s) → nx σ' H')
    (ret : ∀ q v H', j q = some res → Fin C.K C.X0 C.H0 C.P0 (ps q) (rs q) v H' → rt v H') : KForL C.K g tb ⟨nx, rt, bk, ct⟩ σ v H := by
  obtain ⟨o, h1, h2⟩ := ob hm
  exact x_for L hG r h1 body (fun s e σ' H' L' => done _ _ _ (by rw [e] at h2; exact h2) L') (fun s e σ' H' L' => done _ _ _ (by rw [e] at h2; exact h2) L') (fun q e v H' F => ret _ _ _ (by rw [e] at h2; exact h2) F)
theorem x_foT [Py α] {xs : List α} {f : α → τ → Option τ} {G : τ → List Sl} {s0 : τ} {v : V} {g : TG} {tb : TS} {nx bk ct : L2.St → Hp → Prop} {rt : VK} {k : τ → Option ρ} {res : ρ}
    (L : Lo C X H σ (G s0)) (hG : ∀ s s', muts (G s) = muts (G s')) (r : Rep C.K X H (.tuple (xs.map enc)) v) (hm : (foldO f xs s0).bind k = some res)
    (body : ∀ x s, BodyO C X G (enc x) s (f x s) g tb) (done : ∀ s σ' H', k s = some res → Lo C X H' σ' (G s) → nx σ' H') : KForT C.K g tb ⟨nx, rt, bk, ct⟩ σ v H := by
  obtain ⟨s1, h1, h2⟩ := ob hm
  exact x_forT (ρ := Empty) (o := .nxt s1) (ps := fun _ => []) (rs := fun _ => .imm .none) L hG r (foldO_loop h1) (fun x s => (body x s).body) (fun s e σ' H' L' => by cases e; exact done _ _ _ h2 L') (fun s e => nomatch e) (fun q => nomatch q)
theorem x_flT [Py α] {xs : List α} {f : α → τ → Option (Lp τ ρ)} {G : τ → List Sl} {ps : ρ → List (Addr × MO)} {rs : ρ → Rs} {s0 : τ} {v : V} {g : TG} {tb : TS} {nx bk ct : L2.St → Hp → Prop} {rt : VK} {k : τ → Option β} {j : ρ → Option β} {res : β}
    (L : Lo C X H σ (G s0)) (hG : ∀ s s', muts (G s) = muts (G s')) (r : Rep C.K X H (.tuple (xs.map enc)) v) (hm : (loopL f xs s0).bind (fun o => o.out j k) = some res)
    (body : ∀ x s, Body C X G ps rs (enc x) s (f x s) g tb) (done : ∀ s σ' H', k s = some res → Lo C X H' σ' (G s) → nx σ' H')
    (ret : ∀ q v H', j q = some res → Fin C.K C.X0 C.H0 C.P0 (ps q) (rs q) v H' → rt v H') : KForT C.K g tb ⟨nx, rt, bk, ct⟩ σ v H := by
  obtain ⟨o, h1, h2⟩ := ob hm
  exact x_forT L hG r h1 body (fun s e σ' H' L' => done _ _ _ (by rw [e] at h2; exact h2) L') (fun s e σ' H' L' => done _ _ _ (by rw [e] at h2; exact h2) L') (fun q e v H' F => ret _ _ _ (by rw [e] at h2; exact h2) F)
theorem x_foS {xs : List Int} {f : Int → τ → Option τ} {G : τ → List Sl} {s0 : τ} {v : V} {g : TG} {tb : TS} {nx bk ct : L2.St → Hp → Prop} {rt : VK} {k : τ → Option ρ} {res : ρ}
    (L : Lo C X H σ (G s0)) (hG : ∀ s s', muts (G s) = muts (G s')) (r : SqX C.K X H xs v) (hm : (foldO f xs s0).bind k = some res)
    (body : ∀ x s, BodyO C X G (enc x) s (f x s) g tb) (done : ∀ s σ' H', k s = some res → Lo C X H' σ' (G s) → nx σ' H') : KForL C.K g tb ⟨nx, rt, bk, ct⟩ σ v H := by
  obtain ⟨s1, h1, h2⟩ := ob hm
  exact x_forS (ρ := Empty) (o := .nxt s1) (ps := fun _ => []) (rs := fun _ => .imm .none) L hG r (foldO_loop h1) (fun x s => (body x s).body) (fun s e σ' H' L' => by cases e; exact done _ _ _ h2 L') (fun s e => nomatch e) (fun q => nomatch q)
theorem x_flS {xs : List Int} {f : Int → τ → Option (Lp τ ρ)} {G : τ → List Sl} {ps : ρ → List (Addr × MO)} {rs : ρ → Rs} {s0 : τ} {v : V} {g : TG} {tb : TS} {nx bk ct : L2.St → Hp → Prop} {rt : VK} {k : τ → Option β} {j : ρ → Option β} {res : β}
    (L : Lo C X H σ (G s0)) (hG : ∀ s s', muts (G s) = muts (G s')) (r : SqX C.K X H xs v) (hm : (loopL f xs s0).bind (fun o => o.out j k) = some res)
    (body : ∀ x s, Body C X G ps rs (enc x) s (f x s) g tb) (done : ∀ s σ' H', k s = some res → Lo C X H' σ' (G s) → nx σ' H')
    (ret : ∀ q v H', j q = some res → Fin C.K C.X0 C.H0 C.P0 (ps q) (rs q) v H' → rt v H') : KForL C.K g tb ⟨nx, rt, bk, ct⟩ σ v H := by
  obtain ⟨o, h1, h2⟩ := ob hm
  exact x_forS L hG r h1 body (fun s e σ' H' L' => done _ _ _ (by rw [e] at h2; exact h2) L') (fun s e σ' H' L' => done _ _ _ (by rw [e] at h2; exact h2) L') (fun q e v H' F => ret _ _ _ (by rw [e] at h2; exact h2) F)
theorem x_foR {f : Int → τ → Option τ} {G : τ → List Sl} {s0 : τ} {lo : Int} {n : Nat} {g : TG} {tb : TS} {nx bk ct : L2.St → Hp → Prop} {rt : VK} {k : τ → Option ρ} {res : ρ}
    (L : Lo C X H σ (G s0)) (hG : ∀ s s', muts (G s) = muts (G s')) (hm : (foldO f (rangeL lo n) s0).bind k = some res)
    (body : ∀ x s, BodyO C X G (enc x) s (f x s) g tb) (done : ∀ s σ' H', k s = some res → Lo C X H' σ' (G s) → nx σ' H') : KForR lo n g tb ⟨nx, rt, bk, ct⟩ σ H := by
  obtain ⟨s1, h1, h2⟩ := ob hm
  exact x_forR (ρ := Empty) (o := .nxt s1) (ps := fun _ => []) (rs := fun _ => .imm .none) L hG (foldO_loop h1) (fun x s => (body x s).body) (fun s e σ' H' L' => by cases e; exact done _ _ _ h2 L') (fun s e => nomatch e) (fun q => nomatch q)
theorem x_flR {f : Int → τ → Option (Lp τ ρ)} {G : τ → List Sl} {ps : ρ → List (Addr × MO)} {rs : ρ → Rs} {s0 : τ} {lo : Int} {n : Nat} {g : TG} {tb : TS} {nx bk ct : L2.St → Hp → Prop} {rt : VK} {k : τ → Option β} {j : ρ → Option β} {res : β}
    (L : Lo C X H σ (G s0)) (hG : ∀ s s', muts (G s) = muts (G s')) (hm : (loopL f (rangeL lo n) s0).bind (fun o => o.out j k) = some res)
    (body : ∀ x s, Body C X G ps rs (enc x) s (f x s) g tb) (done : ∀ s σ' H', k s = some res → Lo C X H' σ' (G s) → nx σ' H')
    (ret : ∀ q v H', j q = some res → Fin C.K C.X0 C.H0 C.P0 (ps q) (rs q) v H' → rt v H') : KForR lo n g tb ⟨nx, rt, bk, ct⟩ σ H := by
  obtain ⟨o, h1, h2⟩ := ob hm
  exact x_forR L hG h1 body (fun s e σ' H' L' => done _ _ _ (by rw [e] at h2; exact h2) L') (fun s e σ' H' L' => done _ _ _ (by rw [e] at h2; exact h2) L') (fun q e v H' F => ret _ _ _ (by rw [e] at h2; exact h2) F)
def BodyW (C : Cn) (X : Addr → Prop) (G : τ → List Sl) (ps : ρ → List (Addr × MO)) (rs : ρ → Rs) (s : τ) (o : Option (Lp τ ρ)) (c : TT) (tb : TS) : Prop :=
  ∀ (H : Hp) (σ : L2.St) (nx : L2.St → Hp → Prop) (rt : VK) (bk ct : L2.St → Hp → Prop) (o1 : Lp τ ρ), o = some o1 → Lo ⟨C.K, X, H, muts (G s), C.n⟩ X H σ (G s) → (∀ a, C.H0 a ≠ none → H a ≠ none) →
    (∀ s', o1 = .nxt s' → ∀ X' σ' H', Lo ⟨C.K, X, H, muts (G s), C.n⟩ X' H' σ' (G s') → nx σ' H') →
    (∀ s', o1 = .nxt s' → ∀ X' σ' H', Lo ⟨C.K, X, H, muts (G s), C.n⟩ X' H' σ' (G s') → ct σ' H') →
    (∀ s', o1 = .brk s' → ∀ X' σ' H', Lo ⟨C.K, X, H, muts (G s), C.n⟩ X' H' σ' (G s') → bk σ' H') →
    (∀ r, o1 = .ret r → ∀ v H', Fin C.K X H (muts (G s)) (ps r) (rs r) v H' → rt v H') →
    ∀ Qc : Bool → Hp → Prop, (∀ b H1, KWh tb ⟨nx, rt, bk, ct⟩ σ b H1 → Qc b H1) → c σ H Qc
theorem x_wh {f : τ → Option (Lp τ ρ)} {G : τ → List Sl} {ps : ρ → List (Addr × MO)} {rs : ρ → Rs} {s0 : τ} {n : Nat} {c : TT} {tb : TS} {nx bk ct : L2.St → Hp → Prop} {rt : VK} {k : τ → Option β} {j : ρ → Option β} {res : β}
    (L : Lo C X H σ (G s0)) (hG : ∀ s s', muts (G s) = muts (G s')) (hm : (loopW f n s0).bind (fun o => o.out j k) = some res)
    (body : ∀ s, BodyW C X G ps rs s (f s) c tb) (done : ∀ s σ' H', k s = some res → Lo C X H' σ' (G s) → nx σ' H')
    (ret : ∀ q v H', j q = some res → Fin C.K C.X0 C.H0 C.P0 (ps q) (rs q) v H' → rt v H') : tWhile c tb ⟨nx, rt, bk, ct⟩ σ H := by
  obtain ⟨o, h1, h2⟩ := ob hm
  refine x_while L hG h1 body (fun s e σ' H' L' => done _ _ _ (by rw [e] at h2; exact h2) L') (fun q e v H' F => ret _ _ _ (by rw [e] at h2; exact h2) F)
/-- the heads of loops -/
theorem x_tforL {te : TE} {g : TG} {tb : TS} {D : Ends} {K : PySem.W.Frag} (h : te σ H (KForL K g tb D σ)) : tFor (iList K te) g tb D σ H := h
theorem x_tforT {te : TE} {g : TG} {tb : TS} {D : Ends} {K : PySem.W.Frag} (h : te σ H (KForT K g tb D σ)) : tFor (iTup K te) g tb D σ H := h
theorem x_tforR1 {ta : TA} {g : TG} {tb : TS} {D : Ends} (h : ta σ H (KRng1 fun lo n H => KForR lo n g tb D σ H)) : tFor (iRng1 ta) g tb D σ H := h
theorem x_tforR2 {ta : TA} {g : TG} {tb : TS} {D : Ends} (h : ta σ H (KRng2 fun lo n H => KForR lo n g tb D σ H)) : tFor (iRng2 ta) g tb D σ H := h
def rngOk (j : Int) : Option Unit := if -(2 ^ 62) ≤ j ∧ j < 2 ^ 62 then some () else none
theorem rng_ok {j : Int} {k : Unit → Option ρ} {r : ρ} (hm : (rngOk j).bind k = some r) : (-(2 ^ 62) ≤ j ∧ j < 2 ^ 62) ∧ k () = some r := by
  obtain ⟨_, e, hk⟩ := ob hm
  unfold rngOk at e
  split at e
  · exact ⟨by assumption, hk⟩
  · cases e
theorem x_r1 {j : Int} {k : Unit → Option ρ} {r : ρ} {R : Int → Nat → Hp → Prop} (hm : (rngOk j).bind k = some r) (h : k () = some r → R 0 j.toNat H) : KRng1 R [.int j] H := by
  obtain ⟨⟨a, b⟩, hk⟩ := rng_ok hm
  exact ⟨j, rfl, a, b, h hk⟩
theorem x_r1c {j : Int} {n : Nat} {R : Int → Nat → Hp → Prop} (hj : (-(2 ^ 62) ≤ j ∧ j < 2 ^ 62) ∧ j.toNat = n) (h : R 0 n H) : KRng1 R [.int j] H := ⟨j, rfl, hj.1.1, hj.1.2, by rw [hj.2]; exact h⟩
theorem x_r2 {i j : Int} {k : Unit → Option ρ} {r : ρ} {R : Int → Nat → Hp → Prop} (hm : ((rngOk i).bind fun _ => rngOk j).bind k = some r) (h : k () = some r → R i (j - i).toNat H) : KRng2 R [.int i, .int j] H := by
  obtain ⟨u, e, hk⟩ := ob hm
  obtain ⟨⟨a, b⟩, e2⟩ := rng_ok e
  obtain ⟨⟨c, d⟩, _⟩ := rng_ok (k := fun _ => some ()) (r := ()) (by rw [e2]; rfl)
  exact ⟨i, j, rfl, ⟨a, b, c, d⟩, h hk⟩
/-! ### comprehensions -/
def compL {α β τ : Type} (f : α → τ → Option (Option β × τ)) : List α → τ → Option (List β × τ)
  | [], s => some ([], s)
  | x :: xs, s => (f x s).bind fun r => (compL f xs r.2).bind fun q => some ((match r.1 with | some y => y :: q.1 | none => q.1), q.2)
def mapO {α β : Type} (f : α → Option β) : List α → Option (List β)
  | [] => some []
  | x :: xs => (f x).bind fun y => (mapO f xs).bind fun ys => some (y :: ys)
def filO {α β : Type} (f : α → Option (Option β)) : List α → Option (List β)
  | [] => some []
  | x :: xs => (f x).bind fun y => (filO f xs).bind fun ys => some (match y with | some z => z :: ys | none => ys)
def mapS {α β τ : Type} (f : α → τ → Option (β × τ)) : List α → τ → Option (List β × τ)
  | [], s => some ([], s)
  | x :: xs, s => (f x s).bind fun r => (mapS f xs r.2).bind fun q => some (r.1 :: q.1, q.2)
theorem mapO_comp {f : α → Option β} : ∀ {xs : List α} {ys : List β}, mapO f xs = some ys → compL (τ := Unit) (fun x s => (f x).bind fun y => some (some y, s)) xs () = some (ys, ())
  | [], ys, h => by cases h; rfl
  | x :: xs, ys, h => by
    obtain ⟨y, h1, h⟩ := ob h
    obtain ⟨zs, h2, h⟩ := ob h
    cases h
    show ((f x).bind fun y => some (some y, ())).bind _ = _
    rw [h1]
    show (compL (τ := Unit) (fun x s => (f x).bind fun y => some (some y, s)) xs ()).bind _ = _
    rw [mapO_comp h2]
    rfl
theorem filO_comp {f : α → Option (Option β)} : ∀ {xs : List α} {ys : List β}, filO f xs = some ys → compL (τ := Unit) (fun x s => (f x).bind fun y => some (y, s)) xs () = some (ys, ())
  | [], ys, h => by cases h; rfl
  | x :: xs, ys, h => by
    obtain ⟨y, h1, h⟩ := ob h
    obtain ⟨zs, h2, h⟩ := ob h
    cases h
    show ((f x).bind fun y => some (y, ())).bind _ = _
    rw [h1]
    show (compL (τ := Unit) (fun x s => (f x).bind fun y => some (y, s)) xs ()).bind _ = _
    rw [filO_comp h2]
    cases y <;> rfl
theorem mapS_comp {f : α → τ → Option (β × τ)} : ∀ {xs : List α} {s : τ} {q : List β × τ}, mapS f xs s = some q → compL (fun x s => (f x s).bind fun y => some (some y.1, y.2)) xs s = some q
  | [], s, q, h => by cases h; rfl
  | x :: xs, s, q, h => by
    obtain ⟨y, h1, h⟩ := ob h
    obtain ⟨zs, h2, h⟩ := ob h
    cases h
    show ((f x s).bind fun y => some (some y.1, y.2)).bind _ = _
    rw [h1]
    show (compL (fun x s => (f x s).bind fun y => some (some y.1, y.2)) xs y.2).bind _ = _
    rw [mapS_comp h2]
    rfl
/-- what is known behind a block of its own names -/
def Bk : List Sl → List Sl → List Sl → Prop
  | [], _, [] => True
  | s :: Γ, s2 :: Γ2, s' :: Γ' => ((s' = s ∧ s.ad = none) ∨ (∃ p o o', s = .mu p o ∧ s2 = .mu p o' ∧ s' = .mu p o') ∨ (∃ p o o', s = .tmp p o ∧ s2 = .tmp p o' ∧ s' = .tmp p o')) ∧ Bk Γ Γ2 Γ'
  | _, _, _ => False
theorem Bk.e {Γ2 : List Sl} : Bk [] Γ2 [] := trivial
theorem Bk.i {s s2 : Sl} {Γ Γ2 Γ' : List Sl} (e : s.ad = none) (h : Bk Γ Γ2 Γ') : Bk (s :: Γ) (s2 :: Γ2) (s :: Γ') := ⟨.inl ⟨rfl, e⟩, h⟩
theorem Bk.m {p : Addr} {o o' : MO} {Γ Γ2 Γ' : List Sl} (h : Bk Γ Γ2 Γ') : Bk (.mu p o :: Γ) (.mu p o' :: Γ2) (.mu p o' :: Γ') := ⟨.inr (.inl ⟨p, o, o', rfl, rfl, rfl⟩), h⟩
theorem Bk.t {p : Addr} {o o' : MO} {Γ Γ2 Γ' : List Sl} (h : Bk Γ Γ2 Γ') : Bk (.tmp p o :: Γ) (.tmp p o' :: Γ2) (.tmp p o' :: Γ') := ⟨.inr (.inr ⟨p, o, o', rfl, rfl, rfl⟩), h⟩
theorem Bk.get : ∀ {Γ Γ2 Γ' : List Sl}, Bk Γ Γ2 Γ' → ∀ {i : Nat} {s' : Sl}, Γ'[i]? = some s' → (Γ[i]? = some s' ∧ s'.ad = none) ∨ (∃ p o o', Γ[i]? = some (.mu p o) ∧ Γ2[i]? = some (.mu p o') ∧ s' = .mu p o') ∨ (∃ p o o', Γ[i]? = some (.tmp p o) ∧ Γ2[i]? = some (.tmp p o') ∧ s' = .tmp p o')
  | [], _, [], _, _, _, e => by simp at e
  | [], _, _ :: _, h, _, _, _ => h.elim
  | s :: Γ, [], Γ', h, _, _, _ => by cases Γ' <;> exact h.elim
  | s :: Γ, s2 :: Γ2, [], h, _, _, _ => h.elim
  | s :: Γ, s2 :: Γ2, s0 :: Γ', ⟨h, t⟩, 0, s', e => by
    simp at e; subst e
    rcases h with ⟨h, h2⟩ | ⟨p, o, o', h1, h2, h3⟩ | ⟨p, o, o', h1, h2, h3⟩
    · subst h; exact .inl ⟨rfl, h2⟩
    · subst h1 h2 h3; exact .inr (.inl ⟨p, o, o', rfl, rfl, rfl⟩)
    · subst h1 h2 h3; exact .inr (.inr ⟨p, o, o', rfl, rfl, rfl⟩)
  | s :: Γ, s2 :: Γ2, s0 :: Γ', ⟨h, t⟩, i + 1, s', e => by
    have := Bk.get t (i := i) (s' := s') (by simpa using e)
    simpa using this
theorem Bk.muts : ∀ {Γ Γ2 Γ' : List Sl}, Bk Γ Γ2 Γ' → muts Γ' = muts Γ
  | [], _, [], _ => rfl
  | [], _, _ :: _, h => h.elim
  | s :: Γ, [], Γ', h => by cases Γ' <;> exact h.elim
  | s :: Γ, s2 :: Γ2, [], h => h.elim
  | s :: Γ, s2 :: Γ2, s0 :: Γ', ⟨h, t⟩ => by
    have ih := Bk.muts t
    unfold Sc.muts at ih ⊢
    rw [List.filterMap_cons, List.filterMap_cons, ih]
    have : s0.ad = s.ad := by
      rcases h with ⟨h, h2⟩ | ⟨p, o, o', h1, h2, h3⟩ | ⟨p, o, o', h1, h2, h3⟩
      · rw [h]
      · rw [h1, h3]; rfl
      · rw [h1, h3]; rfl
    rw [this]
theorem Lo.back {X' : Addr → Prop} {H' : Hp} {σ2 : L2.St} {Γ2 : List Sl} (L : Lo C X H σ Γ) (M : Lo (C.at_ X H Γ) X' H' σ2 Γ2) (b : Bk Γ Γ2 Γ') : Lo C X H' σ Γ' := by
  have sub : ∀ a, X a → X' a := M.m0
  have hm := b.muts
  refine ⟨L.len, fun i s hi => ?_, by rw [hm]; exact L.nd, fun p hp => L.mx p (hm ▸ hp), L.m0, fun a h => M.xd a (sub a h), fun a o e n => M.base a o (L.base a o e n) (L.nown e n), fun a h => M.dom a (L.dom a h), fun p hp => L.own p (hm ▸ hp), L.tf⟩
  rcases b.get hi with ⟨h1, h2⟩ | ⟨p, o, o', h1, h2, h3⟩ | ⟨p, o, o', h1, h2, h3⟩
  · exact (L.at_ i s h1).keep (L.keep M) fun p e => by rw [h2] at e; cases e
  · subst h3
    exact ⟨(L.at_ i _ h1).1, (M.at_ i _ h2).2.anti sub⟩
  · subst h3
    exact MRep.anti sub (M.at_ i _ h2)
theorem Lo.xanti {Y : Addr → Prop} (L : Lo C X H σ Γ) (h : ∀ a, Y a → X a) (hm : ∀ p ∈ muts Γ, Y p) (h0 : ∀ a, C.X0 a → Y a) : Lo C Y H σ Γ :=
  ⟨L.len, fun i s hi => (L.at_ i s hi).anti h, L.nd, hm, h0, fun a z => L.xd a (h a z), L.base, L.dom, L.own, L.tf⟩
/-- the object at p, of no slot, is written -/
theorem Lo.wroteX {p : Addr} {o o' : HO} (L : Lo C X H σ Γ) (hX : X p) (hn : p ∉ muts Γ) (h : H p = some o) (h0 : C.H0 p = none) (nt : ∀ vs, o ≠ .tup vs) (nf : ∀ u w, o ≠ .frz u w) :
    Lo C X (upd H p o') σ Γ ∧ Keep X H (upd H p o') := by
  have kp : Keep X H (upd H p o') := ⟨fun a u e n => by rw [upd_ne (fun z => n (by rw [z]; exact hX))]; exact e, fun a vs e => by rw [upd_ne (fun z => by rw [z, h] at e; exact nt vs (Option.some.inj e))]; exact e, fun a u w e => by rw [upd_ne (fun z => by rw [z, h] at e; exact nf u w (Option.some.inj e))]; exact e⟩
  have hd : ∀ a, H a ≠ none → upd H p o' a ≠ none := fun a e => by
    by_cases z : a = p
    · rw [z, upd_same]; exact fun y => nomatch y
    · rw [upd_ne z]; exact e
  refine ⟨⟨L.len, fun i s hi => (L.at_ i s hi).keep kp fun q e => upd_ne fun z => hn ?_, L.nd, L.mx, L.m0, fun a z => hd a (L.xd a z), fun a u e n => ?_, fun a e => hd a (L.dom a e), L.own, L.tf⟩, kp⟩
  · subst z; exact mem_muts.mpr ⟨i, s, hi, e⟩
  · rw [upd_ne fun z => by rw [z, h0] at e; cases e]
    exact L.base a u e n
theorem comp_drop {f : α → τ → Option (Option β × τ)} {xs : List α} {i : Nat} {x : α} {s : τ} {q : List β × τ} (hx : xs[i]? = some x) (h : compL f (xs.drop i) s = some q) :
    ∃ r q', f x s = some r ∧ compL f (xs.drop (i + 1)) r.2 = some q' ∧ q = ((match r.1 with | some y => y :: q'.1 | none => q'.1), q'.2) := by
  obtain ⟨hl, hx⟩ := List.getElem?_eq_some_iff.mp hx
  rw [List.drop_eq_getElem_cons hl, hx] at h
  obtain ⟨r, h1, h2⟩ := ob h
  obtain ⟨q', h3, h4⟩ := ob h2
  exact ⟨r, q', h1, h3, (Option.some.inj h4).symm⟩
/-- the rest of a comprehension, by name -/
def KLcL (K : PySem.W.Frag) (g : TG) (tt : TT) (te : TE) (ws : List Nat) (σ : L2.St) (Q : VK) (v : V) (H : Hp) : Prop := ∃ a, v = V.ref a ∧ (∃ xs, SqL K H a xs) ∧ ∀ D, H D = none → ∃ W : Nat → Nat → Hp → Prop, (∃ m, W 0 m (upd H D (.lst []))) ∧ ∀ i m H, W i m H →
      ((Itl K a).stop i H ∧ Q (.ref D) H) ∨ ((Itl K a).go i H ∧ ∃ Nx : Hp → Prop, (∀ H', Nx H' → ∃ m', m' < m ∧ W (i + 1) m' H') ∧ ∀ x H', (Itl K a).yld i H x H' → g x (wipe σ ws) H' fun σ2 H2 => wipe σ2 ws = wipe σ ws ∧ tt σ2 H2 fun b H3 =>
        if b = true then te σ2 H3 fun y H4 => ∃ acc, H4 D = some (.lst acc) ∧ acc.length < sizeLine ∧ Nx (upd H4 D (.lst (acc ++ [y]))) else Nx H3)
def KLcT (K : PySem.W.Frag) (g : TG) (tt : TT) (te : TE) (ws : List Nat) (σ : L2.St) (Q : VK) (v : V) (H : Hp) : Prop := ∃ a, v = V.ref a ∧ (∃ xs, SqT K H a xs) ∧ ∀ D, H D = none → ∃ W : Nat → Nat → Hp → Prop, (∃ m, W 0 m (upd H D (.lst []))) ∧ ∀ i m H, W i m H →
      ((Itt K a).stop i H ∧ Q (.ref D) H) ∨ ((Itt K a).go i H ∧ ∃ Nx : Hp → Prop, (∀ H', Nx H' → ∃ m', m' < m ∧ W (i + 1) m' H') ∧ ∀ x H', (Itt K a).yld i H x H' → g x (wipe σ ws) H' fun σ2 H2 => wipe σ2 ws = wipe σ ws ∧ tt σ2 H2 fun b H3 =>
        if b = true then te σ2 H3 fun y H4 => ∃ acc, H4 D = some (.lst acc) ∧ acc.length < sizeLine ∧ Nx (upd H4 D (.lst (acc ++ [y]))) else Nx H3)
def KLcR (lo : Int) (n : Nat) (g : TG) (tt : TT) (te : TE) (ws : List Nat) (σ : L2.St) (Q : VK) (H : Hp) : Prop := ∀ D, H D = none → ∃ W : Nat → Nat → Hp → Prop, (∃ m, W 0 m (upd H D (.lst []))) ∧ ∀ i m H, W i m H →
      ((Itr lo n).stop i H ∧ Q (.ref D) H) ∨ ((Itr lo n).go i H ∧ ∃ Nx : Hp → Prop, (∀ H', Nx H' → ∃ m', m' < m ∧ W (i + 1) m' H') ∧ ∀ x H', (Itr lo n).yld i H x H' → g x (wipe σ ws) H' fun σ2 H2 => wipe σ2 ws = wipe σ ws ∧ tt σ2 H2 fun b H3 =>
        if b = true then te σ2 H3 fun y H4 => ∃ acc, H4 D = some (.lst acc) ∧ acc.length < sizeLine ∧ Nx (upd H4 D (.lst (acc ++ [y]))) else Nx H3)
theorem x_lcl {K : PySem.W.Frag} {tl te : TE} {g : TG} {tt : TT} {ws : List Nat} (h : tl σ H (KLcL K g tt te ws σ Q)) : tLc (iList K tl) g tt te ws σ H Q := h
theorem x_lct {K : PySem.W.Frag} {tl te : TE} {g : TG} {tt : TT} {ws : List Nat} (h : tl σ H (KLcT K g tt te ws σ Q)) : tLc (iTup K tl) g tt te ws σ H Q := h
theorem x_lcr1 {ta : TA} {te : TE} {g : TG} {tt : TT} {ws : List Nat} (h : ta σ H (KRng1 fun lo n H => KLcR lo n g tt te ws σ Q H)) : tLc (iRng1 ta) g tt te ws σ H Q := h
theorem x_lcr2 {ta : TA} {te : TE} {g : TG} {tt : TT} {ws : List Nat} (h : ta σ H (KRng2 fun lo n H => KLcR lo n g tt te ws σ Q H)) : tLc (iRng2 ta) g tt te ws σ H Q := h
/-- what a comprehension's block shows of one turn -/
def BodyC [Py β] (C : Cn) (X : Addr → Prop) (G : τ → List Sl) (d : PyData) (s : τ) (o : Option (Option β × τ)) (g : TG) (tt : TT) (te : TE) (vs : List Nat) : Prop :=
  ∀ (X : Addr → Prop) (H : Hp) (σ : L2.St) (u : V) (r : Option β × τ) (Qn : Hp → Prop) (Qy : VK), o = some r → Lo ⟨C.K, X, H, muts (G s), C.n⟩ X H σ (G s) → Rep C.K X H d u →
    (r.1 = none → ∀ H', Lo ⟨C.K, X, H, muts (G s), C.n⟩ X H' σ (G r.2) → Qn H') →
    (∀ y, r.1 = some y → ∀ v H', Lo ⟨C.K, X, H, muts (G s), C.n⟩ X H' σ (G r.2) → Rep C.K X H' (enc y) v → Qy v H') →
    g u (wipe σ vs) H fun σ2 H2 => wipe σ2 vs = wipe σ vs ∧ tt σ2 H2 fun b H3 => if b = true then te σ2 H3 Qy else Qn H3
theorem x_lcL0 [Py α] [Py β] {xs : List α} {f : α → τ → Option (Option β × τ)} {G : τ → List Sl} {s0 : τ} {q : List β × τ} {v : V} {g : TG} {tt : TT} {te : TE} {ws : List Nat}
    (L : Lo C X H σ (G s0)) (hG : ∀ s s', muts (G s) = muts (G s')) (r : Rep C.K X H (enc xs) v) (hm : compL f xs s0 = some q) (hl : xs.length ≤ 16777216)
    (body : ∀ x s, BodyC C X G (enc x) s (f x s) g tt te ws)
    (done : ∀ D H', H D = none → C.H0 D = none → ¬ C.X0 D → Lo C (fun a => X a ∨ a = D) H' σ (G q.2) → Keep X H H' → MRep C.K (fun a => X a ∨ a = D) H' D (ml q.1) → Q (.ref D) H') :
    KLcL C.K g tt te ws σ Q v H := by
  obtain ⟨a, us, rfl, hna, hrd, hrs⟩ := rep_lst (ds := xs.map enc) r
  refine ⟨a, rfl, ⟨us, .inl hrd⟩, fun D hD => ?_⟩
  have h0 : C.H0 D = none := by
    cases e : C.H0 D with
    | none => rfl
    | some o => exact (L.dom D (by rw [e]; exact fun z => nomatch z) hD).elim
  have hDm : ∀ s, D ∉ muts (G s) := fun s h => L.xd D (L.mx D (hG s s0 ▸ h)) hD
  have sm : Same H (upd H D (.lst [])) := same_upd hD
  have lay := L.lay (p := D) (o := .lst []) hD sm ⟨[], upd_same, .nil⟩
  have L1 : Lo C (fun a => X a ∨ a = D) (upd H D (.lst [])) σ (G s0) := by
    refine ⟨L.len, fun i s hi => ?_, L.nd, fun p hp => .inl (L.mx p hp), fun a h => .inl (L.m0 a h), lay.1.xd, lay.1.base, lay.1.dom, L.own, L.tf⟩
    refine lay.1.at_ i s ?_
    rw [List.getElem?_append_left (List.getElem?_eq_some_iff.mp hi).1]
    exact hi
  have hna' : ¬ (X a ∨ a = D) := fun h => h.elim hna fun e => by
    subst e
    exact rd_nn hrd hD
  refine lc_list (K := C.K) (a := a) (xs := us) (fun i H' => ∃ s ys acc q', Lo C (fun a => X a ∨ a = D) H' σ (G s) ∧ Reps C.K (fun a => X a ∨ a = D) H' (xs.map enc) us ∧ Rd H' a (.lst us) ∧ H' D = some (.lst acc) ∧ Reps C.K (fun a => X a ∨ a = D) H' (ys.map enc) acc ∧
      compL f (xs.drop i) s = some q' ∧ q = (ys ++ q'.1, q'.2) ∧ ys.length ≤ i ∧ Keep X H H' ∧ (∀ a, H a ≠ none → H' a ≠ none))
    ⟨s0, [], [], q, L1, (hrs.more hD).keep (.same sm), Keep.rd (.same sm) hna hrd, upd_same, .nil, hm, rfl, Nat.le_refl _, .same sm, fun a h => ?_⟩ (fun i H' _ ⟨s, ys, acc, q', _, _, h, _⟩ => .inl h) ?_ ?_
  · by_cases z : a = D
    · rw [z, upd_same]; exact fun y => nomatch y
    · rw [upd_ne z]; exact h
  · rintro i y H' hy ⟨s, ys, acc, q', L', hr', hd', hacc, hys, hq', eq, hyl, hk, hdm⟩
    obtain ⟨d, hd, rd⟩ := hr'.get' hy
    rw [List.getElem?_map] at hd
    cases hx : xs[i]? with
    | none => rw [hx] at hd; cases hd
    | some x =>
      rw [hx] at hd
      cases hd
      have hil : i < xs.length := (List.getElem?_eq_some_iff.mp hx).1
      obtain ⟨r1, q1, h1, h2, h3⟩ := comp_drop hx hq'
      refine body x s _ H' σ y r1 _ _ h1 L'.enter rd ?_ ?_
      · intro e H'' M
        have k := L'.keep M
        have kd : H'' D = some (.lst acc) := M.base D _ hacc (hDm s)
        refine ⟨r1.2, ys, acc, q1, L'.leave M (hG _ _), hr'.keep k, k.rd hna' hd', kd, hys.keep k, h2, ?_, Nat.le_succ_of_le hyl, ?_, fun a h => M.dom a (hdm a h)⟩
        · rw [eq, h3, e]
        · refine ⟨fun b o hb n => ?_, fun b vs hb => k.2.1 b vs (hk.2.1 b vs hb), fun b o u hb => k.2.2 b o u (hk.2.2 b o u hb)⟩
          have hbD : b ≠ D := fun z => by rw [z, hD] at hb; cases hb
          exact k.1 b o (hk.1 b o hb n) fun z => z.elim n hbD
      · intro yv e v H'' M rv
        have k := L'.keep M
        have kd : H'' D = some (.lst acc) := M.base D _ hacc (hDm s)
        have L2 := L'.leave M (hG _ _)
        obtain ⟨L3, k3⟩ := L2.wroteX (p := D) (o' := .lst (acc ++ [v])) (.inr rfl) (hDm _) kd h0 (fun _ z => nomatch z) (fun _ _ z => nomatch z)
        have k4 := k.trans k3
        have hal : acc.length = ys.length := by rw [hys.length, List.length_map]
        refine ⟨acc, kd, by rw [line_eq]; omega, r1.2, ys ++ [yv], acc ++ [v], q1, L3, hr'.keep k4, k4.rd hna' hd', upd_same, ?_, h2, ?_, ?_, ?_, ?_⟩
        · rw [List.map_append]
          exact (hys.keep k4).append (.cons (rv.keep k3) .nil)
        · rw [eq, h3, e]
          show (ys ++ yv :: q1.1, q1.2) = (ys ++ [yv] ++ q1.1, q1.2)
          rw [List.append_assoc]; rfl
        · rw [List.length_append]; exact Nat.succ_le_succ hyl
        · refine ⟨fun b o hb n => ?_, fun b vs hb => k4.2.1 b vs (hk.2.1 b vs hb), fun b o u hb => k4.2.2 b o u (hk.2.2 b o u hb)⟩
          have hbD : b ≠ D := fun z => by rw [z, hD] at hb; cases hb
          exact k4.1 b o (hk.1 b o hb n) fun z => z.elim n hbD
        · intro a h
          by_cases z : a = D
          · rw [z, upd_same]; exact fun y => nomatch y
          · rw [upd_ne z]; exact M.dom a (hdm a h)
  · rintro H' ⟨s, ys, acc, q', L', _, _, hacc, hys, hq', eq, _, hk, hdm⟩
    rw [hrs.length, List.length_map, List.drop_length] at hq'
    cases hq'
    rw [List.append_nil] at eq
    subst eq
    exact done D H' hD h0 (fun z => L.xd D (L.m0 D z) hD) L' hk ⟨acc, hacc, hys⟩
theorem x_lcT0 [Py α] [Py β] {xs : List α} {f : α → τ → Option (Option β × τ)} {G : τ → List Sl} {s0 : τ} {q : List β × τ} {v : V} {g : TG} {tt : TT} {te : TE} {ws : List Nat}
    (L : Lo C X H σ (G s0)) (hG : ∀ s s', muts (G s) = muts (G s')) (r : Rep C.K X H (.tuple (xs.map enc)) v) (hm : compL f xs s0 = some q) (hl : xs.length ≤ 16777216)
    (body : ∀ x s, BodyC C X G (enc x) s (f x s) g tt te ws)
    (done : ∀ D H', H D = none → C.H0 D = none → ¬ C.X0 D → Lo C (fun a => X a ∨ a = D) H' σ (G q.2) → Keep X H H' → MRep C.K (fun a => X a ∨ a = D) H' D (ml q.1) → Q (.ref D) H') :
    KLcT C.K g tt te ws σ Q v H := by
  obtain ⟨a, us, rfl, hrd, hrs⟩ := rep_tup r
  refine ⟨a, rfl, ⟨us, hrd⟩, fun D hD => ?_⟩
  have h0 : C.H0 D = none := by
    cases e : C.H0 D with
    | none => rfl
    | some o => exact (L.dom D (by rw [e]; exact fun z => nomatch z) hD).elim
  have hDm : ∀ s, D ∉ muts (G s) := fun s h => L.xd D (L.mx D (hG s s0 ▸ h)) hD
  have sm : Same H (upd H D (.lst [])) := same_upd hD
  have lay := L.lay (p := D) (o := .lst []) hD sm ⟨[], upd_same, .nil⟩
  have L1 : Lo C (fun a => X a ∨ a = D) (upd H D (.lst [])) σ (G s0) := by
    refine ⟨L.len, fun i s hi => ?_, L.nd, fun p hp => .inl (L.mx p hp), fun a h => .inl (L.m0 a h), lay.1.xd, lay.1.base, lay.1.dom, L.own, L.tf⟩
    refine lay.1.at_ i s ?_
    rw [List.getElem?_append_left (List.getElem?_eq_some_iff.mp hi).1]
    exact hi
  refine lc_tup (K := C.K) (a := a) (xs := us) (fun i H' => ∃ s ys acc q', Lo C (fun a => X a ∨ a = D) H' σ (G s) ∧ Reps C.K (fun a => X a ∨ a = D) H' (xs.map enc) us ∧ SqT C.K H' a us ∧ H' D = some (.lst acc) ∧ Reps C.K (fun a => X a ∨ a = D) H' (ys.map enc) acc ∧
      compL f (xs.drop i) s = some q' ∧ q = (ys ++ q'.1, q'.2) ∧ ys.length ≤ i ∧ Keep X H H' ∧ (∀ a, H a ≠ none → H' a ≠ none))
    ⟨s0, [], [], q, L1, (hrs.more hD).keep (.same sm), Keep.sqT (X := fun a => X a ∨ a = D) (.same sm) hrd, upd_same, .nil, hm, rfl, Nat.le_refl _, .same sm, fun a h => ?_⟩ (fun i H' _ ⟨s, ys, acc, q', _, _, h, _⟩ => h) ?_ ?_
  · by_cases z : a = D
    · rw [z, upd_same]; exact fun y => nomatch y
    · rw [upd_ne z]; exact h
  · rintro i y H' hy ⟨s, ys, acc, q', L', hr', hd', hacc, hys, hq', eq, hyl, hk, hdm⟩
    obtain ⟨d, hd, rd⟩ := hr'.get' hy
    rw [List.getElem?_map] at hd
    cases hx : xs[i]? with
    | none => rw [hx] at hd; cases hd
    | some x =>
      rw [hx] at hd
      cases hd
      have hil : i < xs.length := (List.getElem?_eq_some_iff.mp hx).1
      obtain ⟨r1, q1, h1, h2, h3⟩ := comp_drop hx hq'
      refine body x s _ H' σ y r1 _ _ h1 L'.enter rd ?_ ?_
      · intro e H'' M
        have k := L'.keep M
        have kd : H'' D = some (.lst acc) := M.base D _ hacc (hDm s)
        refine ⟨r1.2, ys, acc, q1, L'.leave M (hG _ _), hr'.keep k, k.sqT hd', kd, hys.keep k, h2, ?_, Nat.le_succ_of_le hyl, ?_, fun a h => M.dom a (hdm a h)⟩
        · rw [eq, h3, e]
        · refine ⟨fun b o hb n => ?_, fun b vs hb => k.2.1 b vs (hk.2.1 b vs hb), fun b o u hb => k.2.2 b o u (hk.2.2 b o u hb)⟩
          have hbD : b ≠ D := fun z => by rw [z, hD] at hb; cases hb
          exact k.1 b o (hk.1 b o hb n) fun z => z.elim n hbD
      · intro yv e v H'' M rv
        have k := L'.keep M
        have kd : H'' D = some (.lst acc) := M.base D _ hacc (hDm s)
        have L2 := L'.leave M (hG _ _)
        obtain ⟨L3, k3⟩ := L2.wroteX (p := D) (o' := .lst (acc ++ [v])) (.inr rfl) (hDm _) kd h0 (fun _ z => nomatch z) (fun _ _ z => nomatch z)
        have k4 := k.trans k3
        have hal : acc.length = ys.length := by rw [hys.length, List.length_map]
        refine ⟨acc, kd, by rw [line_eq]; omega, r1.2, ys ++ [yv], acc ++ [v], q1, L3, hr'.keep k4, k4.sqT hd', upd_same, ?_, h2, ?_, ?_, ?_, ?_⟩
        · rw [List.map_append]
          exact (hys.keep k4).append (.cons (rv.keep k3) .nil)
        · rw [eq, h3, e]
          show (ys ++ yv :: q1.1, q1.2) = (ys ++ [yv] ++ q1.1, q1.2)
          rw [List.append_assoc]; rfl
        · rw [List.length_append]; exact Nat.succ_le_succ hyl
        · refine ⟨fun b o hb n => ?_, fun b vs hb => k4.2.1 b vs (hk.2.1 b vs hb), fun b o u hb => k4.2.2 b o u (hk.2.2 b o u hb)⟩
          have hbD : b ≠ D := fun z => by rw [z, hD] at hb; cases hb
          exact k4.1 b o (hk.1 b o hb n) fun z => z.elim n hbD
        · intro a h
          by_cases z : a = D
          · rw [z, upd_same]; exact fun y => nomatch y
          · rw [upd_ne z]; exact M.dom a (hdm a h)
  · rintro H' ⟨s, ys, acc, q', L', _, _, hacc, hys, hq', eq, _, hk, hdm⟩
    rw [hrs.length, List.length_map, List.drop_length] at hq'
    cases hq'
    rw [List.append_nil] at eq
    subst eq
    exact done D H' hD h0 (fun z => L.xd D (L.m0 D z) hD) L' hk ⟨acc, hacc, hys⟩
theorem x_lcR0 [Py β] {lo : Int} {n : Nat} {f : Int → τ → Option (Option β × τ)} {G : τ → List Sl} {s0 : τ} {q : List β × τ} {g : TG} {tt : TT} {te : TE} {ws : List Nat}
    (L : Lo C X H σ (G s0)) (hG : ∀ s s', muts (G s) = muts (G s')) (hm : compL f (rangeL lo n) s0 = some q) (hl : n ≤ 16777216)
    (body : ∀ x s, BodyC C X G (enc x) s (f x s) g tt te ws)
    (done : ∀ D H', H D = none → C.H0 D = none → ¬ C.X0 D → Lo C (fun a => X a ∨ a = D) H' σ (G q.2) → Keep X H H' → MRep C.K (fun a => X a ∨ a = D) H' D (ml q.1) → Q (.ref D) H') :
    KLcR lo n g tt te ws σ Q H := by
  intro D hD
  have h0 : C.H0 D = none := by
    cases e : C.H0 D with
    | none => rfl
    | some o => exact (L.dom D (by rw [e]; exact fun z => nomatch z) hD).elim
  have hDm : ∀ s, D ∉ muts (G s) := fun s h => L.xd D (L.mx D (hG s s0 ▸ h)) hD
  have sm : Same H (upd H D (.lst [])) := same_upd hD
  have lay := L.lay (p := D) (o := .lst []) hD sm ⟨[], upd_same, .nil⟩
  have L1 : Lo C (fun a => X a ∨ a = D) (upd H D (.lst [])) σ (G s0) := by
    refine ⟨L.len, fun i s hi => ?_, L.nd, fun p hp => .inl (L.mx p hp), fun a h => .inl (L.m0 a h), lay.1.xd, lay.1.base, lay.1.dom, L.own, L.tf⟩
    refine lay.1.at_ i s ?_
    rw [List.getElem?_append_left (List.getElem?_eq_some_iff.mp hi).1]
    exact hi
  refine lc_range (lo := lo) (n := n) (fun i H' => ∃ s ys acc q', Lo C (fun a => X a ∨ a = D) H' σ (G s) ∧ H' D = some (.lst acc) ∧ Reps C.K (fun a => X a ∨ a = D) H' (ys.map enc) acc ∧
      compL f ((rangeL lo n).drop i) s = some q' ∧ q = (ys ++ q'.1, q'.2) ∧ ys.length ≤ i ∧ Keep X H H')
    ⟨s0, [], [], q, L1, upd_same, .nil, hm, rfl, Nat.le_refl _, .same sm⟩ ?_ ?_
  · rintro i H' hi ⟨s, ys, acc, q', L', hacc, hys, hq', eq, hyl, hk⟩
    obtain ⟨r1, q1, h1, h2, h3⟩ := comp_drop (rangeL_get hi) hq'
    refine body (lo + (i : Int)) s _ H' σ _ r1 _ _ h1 L'.enter (.int _) ?_ ?_
    · intro e H'' M
      have k := L'.keep M
      have kd : H'' D = some (.lst acc) := M.base D _ hacc (hDm s)
      refine ⟨r1.2, ys, acc, q1, L'.leave M (hG _ _), kd, hys.keep k, h2, ?_, Nat.le_succ_of_le hyl, ?_⟩
      · rw [eq, h3, e]
      · refine ⟨fun b o hb n => ?_, fun b vs hb => k.2.1 b vs (hk.2.1 b vs hb), fun b o u hb => k.2.2 b o u (hk.2.2 b o u hb)⟩
        have hbD : b ≠ D := fun z => by rw [z, hD] at hb; cases hb
        exact k.1 b o (hk.1 b o hb n) fun z => z.elim n hbD
    · intro yv e v H'' M rv
      have k := L'.keep M
      have kd : H'' D = some (.lst acc) := M.base D _ hacc (hDm s)
      have L2 := L'.leave M (hG _ _)
      obtain ⟨L3, k3⟩ := L2.wroteX (p := D) (o' := .lst (acc ++ [v])) (.inr rfl) (hDm _) kd h0 (fun _ z => nomatch z) (fun _ _ z => nomatch z)
      have k4 := k.trans k3
      have hal : acc.length = ys.length := by rw [hys.length, List.length_map]
      refine ⟨acc, kd, by rw [line_eq]; omega, r1.2, ys ++ [yv], acc ++ [v], q1, L3, upd_same, ?_, h2, ?_, ?_, ?_⟩
      · rw [List.map_append]
        exact (hys.keep k4).append (.cons (rv.keep k3) .nil)
      · rw [eq, h3, e]
        show (ys ++ yv :: q1.1, q1.2) = (ys ++ [yv] ++ q1.1, q1.2)
        rw [List.append_assoc]; rfl
      · rw [List.length_append]; exact Nat.succ_le_succ hyl
      · refine ⟨fun b o hb n => ?_, fun b vs hb => k4.2.1 b vs (hk.2.1 b vs hb), fun b o u hb => k4.2.2 b o u (hk.2.2 b o u hb)⟩
        have hbD : b ≠ D := fun z => by rw [z, hD] at hb; cases hb
        exact k4.1 b o (hk.1 b o hb n) fun z => z.elim n hbD
  · rintro H' ⟨s, ys, acc, q', L', hacc, hys, hq', eq, _, hk⟩
    have hl : (rangeL lo n).length = n := by unfold rangeL; rw [List.length_map, List.length_range]
    have : (rangeL lo n).drop n = [] := List.drop_eq_nil_of_le (by omega)
    rw [this] at hq'
    cases hq'
    rw [List.append_nil] at eq
    subst eq
    exact done D H' hD h0 (fun z => L.xd D (L.m0 D z) hD) L' hk ⟨acc, hacc, hys⟩
theorem Lo.addT {D : Addr} {o : MO} {H' : Hp} (L : Lo C X H σ Γ) (hD : H D = none) (h0 : C.H0 D = none) (M : Lo C (fun a => X a ∨ a = D) H' σ Γ') (hm : muts Γ' = muts Γ) (r : MRep C.K (fun a => X a ∨ a = D) H' D o) : Lo C (fun a => X a ∨ a = D) H' σ (Γ' ++ [.tmp D o]) := by
  have hm2 : muts (Γ' ++ [Sl.tmp D o]) = muts Γ' ++ [D] := by unfold muts; rw [List.filterMap_append]; rfl
  have hnm : D ∉ muts Γ' := fun h => L.xd D (L.mx D (hm ▸ h)) hD
  refine ⟨M.len, fun i t hi => ?_, ?_, fun q hq => ?_, M.m0, M.xd, M.base, M.dom, fun q hq => ?_, M.tf⟩
  · by_cases hlt : i < Γ'.length
    · rw [List.getElem?_append_left hlt] at hi
      exact M.at_ i t hi
    · rw [List.getElem?_append_right (by omega)] at hi
      have ht := List.mem_of_getElem? hi
      rw [List.mem_singleton] at ht
      subst ht
      exact r
  · rw [hm2]
    exact List.nodup_append.mpr ⟨M.nd, by simp, fun a ha b hb => by
      rw [List.mem_singleton] at hb
      subst hb
      intro z
      exact hnm (z ▸ ha)⟩
  · rw [hm2, List.mem_append, List.mem_singleton] at hq
    exact hq.elim (M.mx q) .inr
  · rw [hm2, List.mem_append, List.mem_singleton] at hq
    exact hq.elim (M.own q) fun z => .inr (z ▸ h0)
/-- a comprehension's new list, as data -/
theorem lc_data [Py β] {D : Addr} {ys : List β} {H' : Hp} (L : Lo C X H σ Γ) (hD : H D = none) (M : Lo C (fun a => X a ∨ a = D) H' σ Γ') (hm : muts Γ' = muts Γ) (k : Keep X H H') (r : MRep C.K (fun a => X a ∨ a = D) H' D (ml ys))
    (h : Lo C X H' σ Γ' → (∀ d u, Rep C.K X H d u → Rep C.K X H' d u) → Rep C.K X H' (enc ys) (.ref D) → Q (.ref D) H') : Q (.ref D) H' := by
  obtain ⟨vs, h1, h2⟩ := r
  exact h (M.xanti (fun _ h => .inl h) (fun p hp => L.mx p (hm ▸ hp)) L.m0) (fun _ _ q => q.keep k) (.lst (fun z => L.xd D z hD) (.inl h1) (h2.anti fun _ z => .inl z))
/-- .. as the body's own -/
theorem lc_own [Py β] {D : Addr} {ys : List β} {H' : Hp} (L : Lo C X H σ Γ) (hD : H D = none) (h0 : C.H0 D = none) (M : Lo C (fun a => X a ∨ a = D) H' σ Γ') (hm : muts Γ' = muts Γ) (k : Keep X H H') (r : MRep C.K (fun a => X a ∨ a = D) H' D (ml ys))
    (h : Lo C (fun a => X a ∨ a = D) H' σ (Γ' ++ [.tmp D (ml ys)]) → (∀ d u, Rep C.K X H d u → Rep C.K (fun a => X a ∨ a = D) H' d u) → Q (.ref D) H') : Q (.ref D) H' :=
  h (L.addT hD h0 M hm r) fun _ _ q => (q.more hD).keep (k.mono fun _ z => .inl z)
theorem x_lcL [Py α] [Py β] {xs : List α} {f : α → τ → Option (Option β × τ)} {v : V} {G : τ → List Sl} {s0 : τ} {q : List β × τ} {g : TG} {tt : TT} {te : TE} {ws : List Nat} (L : Lo C X H σ (G s0)) (hG : ∀ s s', muts (G s) = muts (G s')) (r : Rep C.K X H (enc xs) v) (hm : compL f xs s0 = some q) (hl : xs.length ≤ 16777216)
    (body : ∀ x s, BodyC C X G (enc x) s (f x s) g tt te ws) (h : ∀ D H', Lo C X H' σ (G q.2) → (∀ d u, Rep C.K X H d u → Rep C.K X H' d u) → Rep C.K X H' (enc q.1) (.ref D) → Q (.ref D) H') : KLcL C.K g tt te ws σ Q v H :=
  x_lcL0 L hG r hm hl body (fun D H' hD h0 hx M k m => lc_data L hD M (hG _ _) k m (h D H'))
theorem x_lcLN [Py α] [Py β] {xs : List α} {f : α → τ → Option (Option β × τ)} {v : V} {G : τ → List Sl} {s0 : τ} {q : List β × τ} {g : TG} {tt : TT} {te : TE} {ws : List Nat} (L : Lo C X H σ (G s0)) (hG : ∀ s s', muts (G s) = muts (G s')) (r : Rep C.K X H (enc xs) v) (hm : compL f xs s0 = some q) (hl : xs.length ≤ 16777216)
    (body : ∀ x s, BodyC C X G (enc x) s (f x s) g tt te ws) (h : ∀ D X' H', C.H0 D = none → ¬ C.X0 D → Lo C X' H' σ (G q.2 ++ [.tmp D (ml q.1)]) → (∀ d u, Rep C.K X H d u → Rep C.K X' H' d u) → Q (.ref D) H') : KLcL C.K g tt te ws σ Q v H :=
  x_lcL0 L hG r hm hl body (fun D H' hD h0 hx M k m => lc_own L hD h0 M (hG _ _) k m (h D _ H' h0 hx))
theorem x_lcT [Py α] [Py β] {xs : List α} {f : α → τ → Option (Option β × τ)} {v : V} {G : τ → List Sl} {s0 : τ} {q : List β × τ} {g : TG} {tt : TT} {te : TE} {ws : List Nat} (L : Lo C X H σ (G s0)) (hG : ∀ s s', muts (G s) = muts (G s')) (r : Rep C.K X H (.tuple (xs.map enc)) v) (hm : compL f xs s0 = some q) (hl : xs.length ≤ 16777216)
    (body : ∀ x s, BodyC C X G (enc x) s (f x s) g tt te ws) (h : ∀ D H', Lo C X H' σ (G q.2) → (∀ d u, Rep C.K X H d u → Rep C.K X H' d u) → Rep C.K X H' (enc q.1) (.ref D) → Q (.ref D) H') : KLcT C.K g tt te ws σ Q v H :=
  x_lcT0 L hG r hm hl body (fun D H' hD h0 hx M k m => lc_data L hD M (hG _ _) k m (h D H'))
theorem x_lcTN [Py α] [Py β] {xs : List α} {f : α → τ → Option (Option β × τ)} {v : V} {G : τ → List Sl} {s0 : τ} {q : List β × τ} {g : TG} {tt : TT} {te : TE} {ws : List Nat} (L : Lo C X H σ (G s0)) (hG : ∀ s s', muts (G s) = muts (G s')) (r : Rep C.K X H (.tuple (xs.map enc)) v) (hm : compL f xs s0 = some q) (hl : xs.length ≤ 16777216)
    (body : ∀ x s, BodyC C X G (enc x) s (f x s) g tt te ws) (h : ∀ D X' H', C.H0 D = none → ¬ C.X0 D → Lo C X' H' σ (G q.2 ++ [.tmp D (ml q.1)]) → (∀ d u, Rep C.K X H d u → Rep C.K X' H' d u) → Q (.ref D) H') : KLcT C.K g tt te ws σ Q v H :=
  x_lcT0 L hG r hm hl body (fun D H' hD h0 hx M k m => lc_own L hD h0 M (hG _ _) k m (h D _ H' h0 hx))
theorem x_lcR [Py β] {lo : Int} {n : Nat} {f : Int → τ → Option (Option β × τ)} {G : τ → List Sl} {s0 : τ} {q : List β × τ} {g : TG} {tt : TT} {te : TE} {ws : List Nat} (L : Lo C X H σ (G s0)) (hG : ∀ s s', muts (G s) = muts (G s')) (hm : compL f (rangeL lo n) s0 = some q) (hl : n ≤ 16777216)
    (body : ∀ x s, BodyC C X G (enc x) s (f x s) g tt te ws) (h : ∀ D H', Lo C X H' σ (G q.2) → (∀ d u, Rep C.K X H d u → Rep C.K X H' d u) → Rep C.K X H' (enc q.1) (.ref D) → Q (.ref D) H') : KLcR lo n g tt te ws σ Q H :=
  x_lcR0 L hG hm hl body (fun D H' hD h0 hx M k m => lc_data L hD M (hG _ _) k m (h D H'))
theorem x_lcRN [Py β] {lo : Int} {n : Nat} {f : Int → τ → Option (Option β × τ)} {G : τ → List Sl} {s0 : τ} {q : List β × τ} {g : TG} {tt : TT} {te : TE} {ws : List Nat} (L : Lo C X H σ (G s0)) (hG : ∀ s s', muts (G s) = muts (G s')) (hm : compL f (rangeL lo n) s0 = some q) (hl : n ≤ 16777216)
    (body : ∀ x s, BodyC C X G (enc x) s (f x s) g tt te ws) (h : ∀ D X' H', C.H0 D = none → ¬ C.X0 D → Lo C X' H' σ (G q.2 ++ [.tmp D (ml q.1)]) → (∀ d u, Rep C.K X H d u → Rep C.K X' H' d u) → Q (.ref D) H') : KLcR lo n g tt te ws σ Q H :=
  x_lcR0 L hG hm hl body (fun D H' hD h0 hx M k m => lc_own L hD h0 M (hG _ _) k m (h D _ H' h0 hx))
/-- one turn of a comprehension -/
def KCt (te : TE) (σ : L2.St) (Qy : VK) (Qn : Hp → Prop) : Bool → Hp → Prop := fun b H => if b = true then te σ H Qy else Qn H
theorem Lo.cset {i : Nat} {u : V} {d : PyData} (L : Lo C X H σ Γ) (r : Rep C.K X H d u) (hi : i < C.n) {σ0 : L2.St} (e : ∀ j, j ≠ i → σ0[j]? = σ[j]?) (el : σ0.length = σ.length) : Lo C X H (σ0.set i (some u)) (Γ.set i (.imm d)) := by
  have e2 : σ0.set i (some u) = σ.set i (some u) := by
    apply List.ext_getElem?
    intro j
    by_cases z : j = i
    · subst z; rw [List.getElem?_set, List.getElem?_set, el, if_pos rfl, if_pos rfl]
    · rw [List.getElem?_set_ne (Ne.symm z), List.getElem?_set_ne (Ne.symm z), e j z]
  rw [e2]; exact L.set r hi
theorem x_cName {i : Nat} {u : V} {d : PyData} {tt : TT} {te : TE} {Qy : VK} {Qn : Hp → Prop} (L : Lo C X H σ Γ) (r : Rep C.K X H d u) (hi : i < C.n) (e : Γ.set i (.imm d) = Γ') (h : ∀ σ2, Lo C X H σ2 Γ' → tt σ2 H (KCt te σ2 Qy Qn)) :
    gName i u (wipe σ [i]) H fun σ2 H2 => wipe σ2 [i] = wipe σ [i] ∧ tt σ2 H2 fun b H3 => if b = true then te σ2 H3 Qy else Qn H3 := by
  subst e
  refine ⟨?_, h _ (L.cset r hi (fun j z => ?_) ?_)⟩
  · show ((σ.set i none).set i (some u)).set i none = σ.set i none
    rw [List.set_set, List.set_set]
  · exact List.getElem?_set_ne (Ne.symm z)
  · exact List.length_set
theorem x_cTup {i j : Nat} {u : V} {d1 d2 : PyData} {tt : TT} {te : TE} {Qy : VK} {Qn : Hp → Prop} (L : Lo C X H σ Γ) (r : Rep C.K X H (.tuple [d1, d2]) u) (hi : i < C.n) (hj : j < C.n) (ne : i ≠ j) (e : (Γ.set i (.imm d1)).set j (.imm d2) = Γ') (h : ∀ σ2, Lo C X H σ2 Γ' → tt σ2 H (KCt te σ2 Qy Qn)) :
    gTup C.K 2 (gCons (gName i) (gCons (gName j) gNil)) u (wipe σ [i, j]) H fun σ2 H2 => wipe σ2 [i, j] = wipe σ [i, j] ∧ tt σ2 H2 fun b H3 => if b = true then te σ2 H3 Qy else Qn H3 := by
  subst e
  obtain ⟨a, vs, rfl, hs, q⟩ := rep_tup r
  cases q with
  | @cons _ _ v1 _ r1 q => cases q with
    | @cons _ _ v2 _ r2 q => cases q with
      | nil =>
        refine ⟨a, _, rfl, hs, rfl, v1, [v2], rfl, v2, [], rfl, rfl, ?_⟩
        have e3 : (((σ.set j none).set i none).set i (some v1)).set j (some v2) = (σ.set i (some v1)).set j (some v2) := by
          rw [List.set_set, List.set_comm none (some v1) ne.symm, List.set_set]
        refine ⟨?_, ?_⟩
        · show (((((σ.set j none).set i none).set i (some v1)).set j (some v2)).set j none).set i none = (σ.set j none).set i none
          rw [e3, List.set_set, List.set_comm _ _ ne.symm, List.set_set, List.set_comm _ _ ne]
        · have q := h _ ((L.set r1 hi).set r2 hj)
          rw [← e3] at q
          exact q
theorem x_yes {te : TE} {Qy : VK} {Qn : Hp → Prop} (h : te σ H Qy) : tYes σ H (KCt te σ Qy Qn) := h
theorem x_ct {te : TE} {Qy : VK} {Qn : Hp → Prop} {c : Bool} {mA mB : Option ρ} {r : ρ} (hm : (if c = true then mA else mB) = some r) (hA : mA = some r → te σ H Qy) (hB : mB = some r → Qn H) : KCt te σ Qy Qn c H := by
  cases c with
  | true => exact hA hm
  | false => exact hB hm
theorem x_cy [Py β] {X' : Addr → Prop} {σ2 : L2.St} {H' : Hp} {K : PySem.W.Frag} {n : Nat} {G : τ → List Sl} {s s' : τ} {Γ2 : List Sl} {y : β} {r : Option β × τ} {v : V} {Qy : VK} (er : r = (some y, s')) (hy : ∀ y, r.1 = some y → ∀ v H', Lo ⟨K, X, H, muts (G s), n⟩ X H' σ (G r.2) → Rep K X H' (enc y) v → Qy v H')
    (L : Lo ⟨K, X, H, muts (G s), n⟩ X H σ (G s)) (M : Lo ⟨K, X, H, muts (G s), n⟩ X' H' σ2 Γ2) (b : Bk (G s) Γ2 (G s')) (q : Rep K X' H' (enc y) v) : Qy v H' := by
  subst er
  exact hy y rfl v H' (L.back M b) (Rep.anti M.m0 q)
theorem x_cn [Py β] {X' : Addr → Prop} {σ2 : L2.St} {H' : Hp} {K : PySem.W.Frag} {n : Nat} {G : τ → List Sl} {s s' : τ} {Γ2 : List Sl} {r : Option β × τ} {Qn : Hp → Prop} (er : r = (none, s')) (hn : r.1 = none → ∀ H', Lo ⟨K, X, H, muts (G s), n⟩ X H' σ (G r.2) → Qn H')
    (L : Lo ⟨K, X, H, muts (G s), n⟩ X H σ (G s)) (M : Lo ⟨K, X, H, muts (G s), n⟩ X' H' σ2 Γ2) (b : Bk (G s) Γ2 (G s')) : Qn H' := by
  subst er
  exact hn rfl H' (L.back M b)
end
open Py (enc)

/-! ### equality of data -/
class PyE (α : Type) [Py α] [DecidableEq α] where
  d : Nat
  eqv : ∀ x y : α, PyData.eqv (enc x) (enc y) = decide (x = y)
  lay : ∀ x : α, PyData.canLay0 (enc x) = true
  dep : ∀ x : α, PyData.depth (enc x) ≤ d
instance : PyE Int := ⟨0, fun x y => by
  show PyData.eqv (.int x) (.int y) = _
  unfold PyData.eqv
  by_cases z : x = y <;> simp [z], fun _ => rfl, fun _ => Nat.le_refl _⟩
instance : PyE Bool := ⟨0, fun x y => by cases x <;> cases y <;> rfl, fun _ => rfl, fun _ => Nat.le_refl _⟩
section
variable {α β γ δ ε : Type} [Py α] [DecidableEq α] [Py β] [DecidableEq β] [Py γ] [DecidableEq γ] [Py δ] [DecidableEq δ] [Py ε] [DecidableEq ε]
theorem eqvAll_nil : PyData.eqvAll [] [] = true := by unfold PyData.eqvAll; rfl
theorem eqvAll_cons {x y : PyData} {xs ys : List PyData} : PyData.eqvAll (x :: xs) (y :: ys) = (PyData.eqv x y && PyData.eqvAll xs ys) := by rw [PyData.eqvAll]
theorem eqv_tup {xs ys : List PyData} : PyData.eqv (.tuple xs) (.tuple ys) = PyData.eqvAll xs ys := by rw [PyData.eqv]
theorem eqv_lst {xs ys : List PyData} : PyData.eqv (.list xs) (.list ys) = PyData.eqvAll xs ys := by rw [PyData.eqv]
theorem layAll_nil : PyData.canLayAll0 [] = true := by unfold PyData.canLayAll0; rfl
theorem layAll_cons {x : PyData} {xs : List PyData} : PyData.canLayAll0 (x :: xs) = (PyData.canLay0 x && PyData.canLayAll0 xs) := by rw [PyData.canLayAll0]
theorem lay_tup {xs : List PyData} : PyData.canLay0 (.tuple xs) = PyData.canLayAll0 xs := by rw [PyData.canLay0]
theorem lay_lst {xs : List PyData} : PyData.canLay0 (.list xs) = PyData.canLayAll0 xs := by rw [PyData.canLay0]
theorem depAll_nil : PyData.depthAll [] = 0 := by unfold PyData.depthAll; rfl
theorem depAll_cons {x : PyData} {xs : List PyData} : PyData.depthAll (x :: xs) = max (PyData.depth x) (PyData.depthAll xs) := by rw [PyData.depthAll]
theorem dep_tup {xs : List PyData} : PyData.depth (.tuple xs) = PyData.depthAll xs + 1 := by rw [PyData.depth]
theorem dep_lst {xs : List PyData} : PyData.depth (.list xs) = PyData.depthAll xs + 1 := by rw [PyData.depth]
instance [PyE α] [PyE β] : PyE (T2 α β) where
  d := max (PyE.d α) (PyE.d β) + 1
  eqv := fun ⟨a, b⟩ ⟨a', b'⟩ => by
    show PyData.eqv (.tuple [enc a, enc b]) (.tuple [enc a', enc b']) = _
    rw [eqv_tup, eqvAll_cons, eqvAll_cons, eqvAll_nil, PyE.eqv, PyE.eqv]
    by_cases h1 : a = a' <;> by_cases h2 : b = b' <;> simp [h1, h2]
  lay := fun ⟨a, b⟩ => by
    show PyData.canLay0 (.tuple [enc a, enc b]) = true
    rw [lay_tup, layAll_cons, layAll_cons, layAll_nil, PyE.lay, PyE.lay]; rfl
  dep := fun ⟨a, b⟩ => by
    show PyData.depth (.tuple [enc a, enc b]) ≤ _
    rw [dep_tup, depAll_cons, depAll_cons, depAll_nil]
    have := PyE.dep a
    have := PyE.dep b
    omega
instance [PyE α] [PyE β] [PyE γ] : PyE (T3 α β γ) where
  d := max (PyE.d α) (max (PyE.d β) (PyE.d γ)) + 1
  eqv := fun ⟨a, b, c⟩ ⟨a', b', c'⟩ => by
    show PyData.eqv (.tuple [enc a, enc b, enc c]) (.tuple [enc a', enc b', enc c']) = _
    rw [eqv_tup, eqvAll_cons, eqvAll_cons, eqvAll_cons, eqvAll_nil, PyE.eqv, PyE.eqv, PyE.eqv]
    by_cases h1 : a = a' <;> by_cases h2 : b = b' <;> by_cases h3 : c = c' <;> simp [h1, h2, h3]
  lay := fun ⟨a, b, c⟩ => by
    show PyData.canLay0 (.tuple [enc a, enc b, enc c]) = true
    rw [lay_tup, layAll_cons, layAll_cons, layAll_cons, layAll_nil, PyE.lay, PyE.lay, PyE.lay]; rfl
  dep := fun ⟨a, b, c⟩ => by
    show PyData.depth (.tuple [enc a, enc b, enc c]) ≤ _
    rw [dep_tup, depAll_cons, depAll_cons, depAll_cons, depAll_nil]
    have := PyE.dep a
    have := PyE.dep b
    have := PyE.dep c
    omega
instance [PyE α] [PyE β] [PyE γ] [PyE δ] : PyE (T4 α β γ δ) where
  d := max (PyE.d α) (max (PyE.d β) (max (PyE.d γ) (PyE.d δ))) + 1
  eqv := fun ⟨a, b, c, d⟩ ⟨a', b', c', d'⟩ => by
    show PyData.eqv (.tuple [enc a, enc b, enc c, enc d]) (.tuple [enc a', enc b', enc c', enc d']) = _
    rw [eqv_tup, eqvAll_cons, eqvAll_cons, eqvAll_cons, eqvAll_cons, eqvAll_nil, PyE.eqv, PyE.eqv, PyE.eqv, PyE.eqv]
    by_cases h1 : a = a' <;> by_cases h2 : b = b' <;> by_cases h3 : c = c' <;> by_cases h4 : d = d' <;> simp [h1, h2, h3, h4]
  lay := fun ⟨a, b, c, d⟩ => by
    show PyData.canLay0 (.tuple [enc a, enc b, enc c, enc d]) = true
    rw [lay_tup, layAll_cons, layAll_cons, layAll_cons, layAll_cons, layAll_nil, PyE.lay, PyE.lay, PyE.lay, PyE.lay]; rfl
  dep := fun ⟨a, b, c, d⟩ => by
    show PyData.depth (.tuple [enc a, enc b, enc c, enc d]) ≤ _
    rw [dep_tup, depAll_cons, depAll_cons, depAll_cons, depAll_cons, depAll_nil]
    have := PyE.dep a
    have := PyE.dep b
    have := PyE.dep c
    have := PyE.dep d
    omega
instance [PyE α] : PyE (List α) where
  d := PyE.d α + 1
  eqv := fun xs ys => by
    show PyData.eqv (.list (xs.map enc)) (.list (ys.map enc)) = _
    rw [eqv_lst]
    induction xs generalizing ys with
    | nil => cases ys with
      | nil => rw [List.map_nil, eqvAll_nil]; rfl
      | cons y ys => rw [List.map_nil, List.map_cons, PyData.eqvAll]; rfl
    | cons x xs ih => cases ys with
      | nil => rw [List.map_nil, List.map_cons, PyData.eqvAll]; rfl
      | cons y ys =>
        rw [List.map_cons, List.map_cons, eqvAll_cons, ih, PyE.eqv]
        by_cases h1 : x = y <;> by_cases h2 : xs = ys <;> simp [h1, h2]
  lay := fun xs => by
    show PyData.canLay0 (.list (xs.map enc)) = true
    rw [lay_lst]
    induction xs with
    | nil => rw [List.map_nil, layAll_nil]
    | cons x xs ih => rw [List.map_cons, layAll_cons, PyE.lay, ih]; rfl
  dep := fun xs => by
    show PyData.depth (.list (xs.map enc)) ≤ _
    rw [dep_lst]
    refine Nat.succ_le_succ ?_
    induction xs with
    | nil => rw [List.map_nil, depAll_nil]; exact Nat.zero_le _
    | cons x xs ih =>
      rw [List.map_cons, depAll_cons]
      have := PyE.dep x
      omega
theorem shaped_of [PyE α] (h : PyE.d α ≤ 64) (x : α) : SeqAt.shaped (enc x) = true := by
  unfold SeqAt.shaped
  have := PyE.dep x
  rw [PyE.lay, Bool.true_and]
  exact decide_eq_true (by omega)
end

section
variable {C : Cn} {X : Addr → Prop} {H : Hp} {σ : L2.St} {Γ Γ' : List Sl} {Q : VK} {α β γ δ ε ρ : Type}
/-! ### what a value stands for, in any shape -/
theorem Lo.dpM [Py α] {xs : List α} {i : Nat} {p : Addr} (L : Lo C X H σ Γ) (g : Γ[i]? = some (.mu p (ml xs))) : Dp C.K H (.ref p) (enc xs) := by
  obtain ⟨vs, hs, q⟩ := L.mrep g
  exact .lst (.inl (.inl hs)) (Reps.dp q)
theorem x_eqd [Py α] [DecidableEq α] [PyE α] {x y : α} {u v : V} (r : Dp C.K H u (enc x)) (q : Dp C.K H v (enc y)) (h64 : PyE.d α ≤ 64) (h : Q (.bl (decide (x = y))) H) : rEqD C.K u v H Q :=
  ⟨_, _, r, q, shaped_of h64 x, shaped_of h64 y, by rw [PyE.eqv]; exact h⟩
theorem x_ned [Py α] [DecidableEq α] [PyE α] {x y : α} {u v : V} (r : Dp C.K H u (enc x)) (q : Dp C.K H v (enc y)) (h64 : PyE.d α ≤ 64) (h : Q (.bl (!decide (x = y))) H) : rNeD C.K u v H Q :=
  ⟨_, _, r, q, shaped_of h64 x, shaped_of h64 y, by rw [PyE.eqv]; exact h⟩
/-- x in xs -/
def memB {α : Type} [DecidableEq α] (x : α) (xs : List α) : Bool := xs.any fun z => decide (z = x)
theorem any_eqv [Py α] [DecidableEq α] [PyE α] {x : α} {xs : List α} : ((xs.map enc).any fun z => PyData.eqv z (enc x)) = memB x xs := by
  unfold memB
  rw [List.any_map]
  congr 1
  funext z
  exact PyE.eqv z x
theorem x_ind [Py α] [DecidableEq α] [PyE α] {x : α} {ys : List α} {u v : V} (r : Dp C.K H u (enc x)) (q : Dp C.K H v (enc ys)) (h64 : PyE.d (List α) ≤ 64) (h : Q (.bl (memB x ys)) H) : rInD C.K u v H Q :=
  ⟨_, _, r, q, shaped_of (Nat.le_trans (Nat.le_succ _) h64) x, shaped_of h64 ys, by rw [any_eqv]; exact h⟩
theorem x_nind [Py α] [DecidableEq α] [PyE α] {x : α} {ys : List α} {u v : V} (r : Dp C.K H u (enc x)) (q : Dp C.K H v (enc ys)) (h64 : PyE.d (List α) ≤ 64) (h : Q (.bl (!memB x ys)) H) : rNotInD C.K u v H Q :=
  ⟨_, _, r, q, shaped_of (Nat.le_trans (Nat.le_succ _) h64) x, shaped_of h64 ys, by rw [any_eqv]; exact h⟩
/-! ### None -/
class NN (α : Type) [Py α] : Prop where
  ne : ∀ x : α, enc x ≠ PyData.none
instance : NN Int := ⟨fun _ z => nomatch z⟩
instance : NN Bool := ⟨fun _ z => nomatch z⟩
instance : NN Str := ⟨fun _ z => nomatch z⟩
instance {α : Type} [Py α] : NN (List α) := ⟨fun _ z => nomatch z⟩
instance {α : Type} [Py α] : NN (T1 α) := ⟨fun _ z => nomatch z⟩
instance {α β : Type} [Py α] [Py β] : NN (T2 α β) := ⟨fun _ z => nomatch z⟩
instance {α β γ : Type} [Py α] [Py β] [Py γ] : NN (T3 α β γ) := ⟨fun _ z => nomatch z⟩
instance {α β γ δ : Type} [Py α] [Py β] [Py γ] [Py δ] : NN (T4 α β γ δ) := ⟨fun _ z => nomatch z⟩
theorem rep_non {K : PySem.W.Frag} {d : PyData} {v : V} (r : Rep K X H d v) (ne : d ≠ .none) : v ≠ .non := by
  cases r <;> intro z <;> first | exact ne rfl | cases z
def rIsNX : R2 := fun x y H Q => y = .non ∧ Q (.bl (decide (x = .non))) H
def rNotNX : R2 := fun x y H Q => y = .non ∧ Q (.bl (!decide (x = .non))) H
theorem op_isNX {Xc : Cx} : OpR Xc (compareOp .Is) rIsNX := op_isN
theorem op_notNX {Xc : Cx} : OpR Xc (compareOp .IsNot) rNotNX := op_notN
theorem dec_none [Py α] [NN α] {K : PySem.W.Frag} {o : Option α} {v : V} (r : Rep K X H (enc o) v) : decide (v = V.non) = o.isNone := by
  cases o with
  | none => cases (show Rep K X H PyData.none v from r); rfl
  | some x => simp [rep_non (show Rep K X H (enc x) v from r) (NN.ne x)]
theorem x_isNO [Py α] [NN α] {o : Option α} {v : V} (r : Rep C.K X H (enc o) v) (h : Q (.bl o.isNone) H) : rIsNX v .non H Q := ⟨rfl, by rw [dec_none r]; exact h⟩
theorem x_notNO [Py α] [NN α] {o : Option α} {v : V} (r : Rep C.K X H (enc o) v) (h : Q (.bl (!o.isNone)) H) : rNotNX v .non H Q := ⟨rfl, by rw [dec_none r]; exact h⟩
theorem x_isNS {v : V} {b : Bool} (e : decide (v = V.non) = b) (h : Q (.bl b) H) : rIsNX v .non H Q := ⟨rfl, by rw [e]; exact h⟩
theorem x_notNS {v : V} {b : Bool} (e : decide (v = V.non) = b) (h : Q (.bl (!b)) H) : rNotNX v .non H Q := ⟨rfl, by rw [e]; exact h⟩
theorem x_isND [Py α] [NN α] {x : α} {v : V} (r : Rep C.K X H (enc x) v) (h : Q (.bl false) H) : rIsNX v .non H Q := ⟨rfl, by rw [show decide (v = V.non) = false from by simp [rep_non r (NN.ne x)]]; exact h⟩
theorem x_notND [Py α] [NN α] {x : α} {v : V} (r : Rep C.K X H (enc x) v) (h : Q (.bl (!false)) H) : rNotNX v .non H Q := ⟨rfl, by rw [show decide (v = V.non) = false from by simp [rep_non r (NN.ne x)]]; exact h⟩
/-- a value that is not None -/
theorem Lo.someS [Py α] {o : Option α} {x : α} {i : Nat} (L : Lo C X H σ Γ) (g : Γ[i]? = some (.imm (enc o))) (e : o = some x) (eΓ : Γ.set i (.imm (enc x)) = Γ') : Lo C X H σ Γ' := by
  subst eΓ
  have hil : i < Γ.length := (List.getElem?_eq_some_iff.mp g).1
  have : Γ.set i (.imm (enc x)) = Γ := by
    apply List.ext_getElem?
    intro j
    by_cases z : j = i
    · subst z; rw [List.getElem?_set_self hil, g, e]; rfl
    · rw [List.getElem?_set_ne (Ne.symm z)]
  rw [this]; exact L
instance [Py α] [NN α] [DecidableEq α] [PyE α] : PyE (Option α) where
  d := PyE.d α
  eqv := fun x y => by
    have hn : ∀ z : α, PyData.eqv .none (enc z) = false ∧ PyData.eqv (enc z) .none = false := fun z => by
      have := NN.ne z
      constructor
      · cases h : enc z <;> first | exact (this h).elim | (unfold PyData.eqv; rfl)
      · cases h : enc z <;> first | exact (this h).elim | (unfold PyData.eqv; rfl)
    cases x with
    | none => cases y with
      | none => show PyData.eqv .none .none = _; unfold PyData.eqv; rfl
      | some y => show PyData.eqv .none (enc y) = _; rw [(hn y).1]; rfl
    | some x => cases y with
      | none => show PyData.eqv (enc x) .none = _; rw [(hn x).2]; rfl
      | some y => show PyData.eqv (enc x) (enc y) = _; rw [PyE.eqv]; by_cases z : x = y <;> simp [z]
  lay := fun x => by
    cases x with
    | none => rfl
    | some x => exact PyE.lay x
  dep := fun x => by
    cases x with
    | none => exact Nat.zero_le _
    | some x => exact PyE.dep x
/-! ### built-ins -/
theorem x_cb {r : List V → Hp → VK → Prop} {t : TA} (h : t σ H fun vs H1 => r vs H1 Q) : tCB r t σ H Q := h
theorem x_call {sp : Sp} {E : XK} {t : TA} (h : t σ H fun vs H1 => sp (vs ++ []) H1 Q E) : tCall sp [] E t σ H Q := h
def rLenX (K : PySem.W.Frag) : List V → Hp → VK → Prop := fun xs H Q => ∃ p ys, xs = [.ref p] ∧ (SqL K H p ys ∨ SqT K H p ys) ∧ Q (.int ys.length) H
theorem call_lenX {Xc : Cx} : CallR Xc (.builtin "len") (rLenX Xc.K) := call_len_seq
def rAbsX : List V → Hp → VK → Prop := fun xs H Q => ∃ i, xs = [.int i] ∧ Q (.int (if i < 0 then -i else i)) H
theorem call_absX {Xc : Cx} : CallR Xc (.builtin "abs") rAbsX := call_abs
def rIntX : List V → Hp → VK → Prop := fun xs H Q => (∃ i, xs = [.int i] ∧ Q (.int i) H) ∨ ∃ k, xs = [.bl k] ∧ Q (.int (if k then 1 else 0)) H
theorem call_intX {Xc : Cx} : CallR Xc (.type "int") rIntX := call_int1
def rMaxX : List V → Hp → VK → Prop := fun xs H Q => ∃ i j, xs = [.int i, .int j] ∧ Q (.int (if j > i then j else i)) H
theorem call_maxX {Xc : Cx} (hc : Xc.calm = true) : CallR Xc (.builtin "max") rMaxX := call_max2 hc
def rMinX : List V → Hp → VK → Prop := fun xs H Q => ∃ i j, xs = [.int i, .int j] ∧ Q (.int (if j < i then j else i)) H
theorem call_minX {Xc : Cx} (hc : Xc.calm = true) : CallR Xc (.builtin "min") rMinX := call_min2 hc
def rListX (K : PySem.W.Frag) : List V → Hp → VK → Prop := fun xs H Q => ∃ p ys, xs = [.ref p] ∧ (SqL K H p ys ∨ SqT K H p ys) ∧ ∀ l, H l = none → Q (.ref l) (upd H l (.lst ys))
theorem call_listX {Xc : Cx} : CallR Xc (.type "list") (rListX Xc.K) := call_list_of
theorem x_lenL [Py α] {xs : List α} {v : V} (r : Rep C.K X H (enc xs) v) (h : Q (.int (xs.length : Int)) H) : rLenX C.K [v] H Q := by
  obtain ⟨a, vs, rfl, _, hs, q⟩ := rep_lst (ds := xs.map enc) r
  refine ⟨a, vs, rfl, .inl (.inl hs), ?_⟩
  rw [q.length, List.length_map]; exact h
theorem x_lenS {ns : List Int} {v : V} (r : SqX C.K X H ns v) (h : Q (.int (ns.length : Int)) H) : rLenX C.K [v] H Q := by
  obtain ⟨a, rfl, hs⟩ := r.sq
  refine ⟨a, _, rfl, .inl hs, ?_⟩
  rw [List.length_map]; exact h
theorem x_lenM [Py α] {xs : List α} {j : Nat} {p : Addr} (L : Lo C X H σ Γ) (g : Γ[j]? = some (.mu p (ml xs))) (h : Q (.int (xs.length : Int)) H) : rLenX C.K [.ref p] H Q := by
  obtain ⟨vs, hs, q⟩ := L.mrep g
  refine ⟨p, vs, rfl, .inl (.inl (.inl hs)), ?_⟩
  rw [q.length, List.length_map]; exact h
theorem x_lenT {ds : List PyData} {n : Int} {v : V} (r : Rep C.K X H (.tuple ds) v) (e : (ds.length : Int) = n) (h : Q (.int n) H) : rLenX C.K [v] H Q := by
  obtain ⟨a, vs, rfl, hs, q⟩ := rep_tup r
  refine ⟨a, vs, rfl, .inr hs, ?_⟩
  rw [q.length, e]; exact h
/-- a value's type -/
def tyName : PyData → String
  | .none => "NoneType"
  | .bool _ => "bool"
  | .int _ => "int"
  | .str _ => "str"
  | .list _ => "list"
  | .tuple _ => "tuple"
  | .dict _ => "dict"
theorem Rep.ty {d : PyData} {v : V} (r : Rep C.K X H d v) : TyX C.K H v (.type (tyName d)) := by
  cases r with
  | non => exact .base .non
  | bl b => exact .base (.bl b)
  | int i => exact .base (.int i)
  | str x => exact .base (.str x)
  | tup h q =>
    exact .base (.tup h)
  | lst n h q =>
    rcases h with h | ⟨o, h⟩
    · exact .base (.lst h)
    · exact .base (.frz h)
theorem x_isi {d : PyData} {v : V} {T : String} {b : Bool} (r : Rep C.K X H d v) (e : kitB (tyName d) T = some b) (h : Q (.bl b) H) : rIsi C.K [v, .ty T] H Q :=
  ⟨v, .ty T, _, .type T, b, rfl, .ty T, r.ty, kit_ty e, h⟩
theorem x_isiI {K : PySem.W.Frag} {x : Int} {T : String} {b : Bool} (e : kitB (tyName (PyData.int x)) T = some b) (h : Q (.bl b) H) : rIsi K [(V.int x), .ty T] H Q :=
  x_isi (C := ⟨K, fun _ => False, H, [], 0⟩) (X := fun _ => False) (d := (PyData.int x)) (.int _) e h
theorem x_isiB {K : PySem.W.Frag} {x : Bool} {T : String} {b : Bool} (e : kitB (tyName (PyData.bool x)) T = some b) (h : Q (.bl b) H) : rIsi K [(V.bl x), .ty T] H Q :=
  x_isi (C := ⟨K, fun _ => False, H, [], 0⟩) (X := fun _ => False) (d := (PyData.bool x)) (.bl _) e h
theorem x_isiS {K : PySem.W.Frag} {x : Str} {T : String} {b : Bool} (e : kitB (tyName (PyData.str x)) T = some b) (h : Q (.bl b) H) : rIsi K [(V.str x), .ty T] H Q :=
  x_isi (C := ⟨K, fun _ => False, H, [], 0⟩) (X := fun _ => False) (d := (PyData.str x)) (.str _) e h
theorem x_isiN {K : PySem.W.Frag} {x : Unit} {T : String} {b : Bool} (e : kitB (tyName PyData.none) T = some b) (h : Q (.bl b) H) : rIsi K [V.non, .ty T] H Q :=
  x_isi (C := ⟨K, fun _ => False, H, [], 0⟩) (X := fun _ => False) (d := PyData.none) .non e h
theorem x_isiM {i : Nat} {p : Addr} {ds : List PyData} {T : String} {b : Bool} (L : Lo C X H σ Γ) (g : Γ[i]? = some (.mu p (.lst ds))) (e : kitB "list" T = some b) (h : Q (.bl b) H) : rIsi C.K [.ref p, .ty T] H Q := by
  obtain ⟨vs, hs, q⟩ := L.mrep g
  exact ⟨.ref p, .ty T, _, .type T, b, rfl, .ty T, .base (.lst hs), kit_ty e, h⟩
theorem x_abs {a : Int} (h : Q (.int (iabs a)) H) : rAbsX [V.int a] H Q := ⟨a, rfl, h⟩
theorem x_intb {b : Bool} (h : Q (.int (b2 b)) H) : rIntX [V.bl b] H Q := .inr ⟨b, rfl, h⟩
theorem x_inti {a : Int} (h : Q (.int a) H) : rIntX [V.int a] H Q := .inl ⟨a, rfl, h⟩
def imax (a b : Int) : Int := if b > a then b else a
def imin (a b : Int) : Int := if b < a then b else a
theorem x_max {a b : Int} (h : Q (.int (imax a b)) H) : rMaxX [V.int a, V.int b] H Q := ⟨a, b, rfl, h⟩
theorem x_min {a b : Int} (h : Q (.int (imin a b)) H) : rMinX [V.int a, V.int b] H Q := ⟨a, b, rfl, h⟩
theorem x_all {bs : List Bool} {v : V} (r : Rep C.K X H (enc bs) v) (h : Q (.bl (bs.all id)) H) : rAll C.K [v] H Q := by
  obtain ⟨a, vs, rfl, _, hs, q⟩ := rep_lst (ds := bs.map enc) r
  have e := Reps.toBools q
  subst e
  exact ⟨a, bs, rfl, .inl hs, h⟩
theorem x_sum {ns : List Int} {v : V} (r : Rep C.K X H (enc ns) v) (h : Q (.int ns.sum) H) : rSum C.K [v] H Q := by
  obtain ⟨a, vs, rfl, _, hs, q⟩ := rep_lst (ds := ns.map enc) r
  have e := Reps.toInts q
  subst e
  exact ⟨a, ns, rfl, .inl hs, h⟩
theorem x_any {bs : List Bool} {v : V} (r : Rep C.K X H (enc bs) v) (h : Q (.bl (bs.any id)) H) : rAny C.K [v] H Q := by
  obtain ⟨a, vs, rfl, _, hs, q⟩ := rep_lst (ds := bs.map enc) r
  have e := Reps.toBools q
  subst e
  exact ⟨a, bs, rfl, .inl hs, h⟩
/-! ### slices, sums of lists -/
def slice {α : Type} (xs : List α) (lo hi : Option Int) : List α := (xs.drop (HT.sIx xs.length 0 lo)).take (HT.sIx xs.length xs.length hi - HT.sIx xs.length 0 lo)
def KPart (Q : Option Int → Hp → Prop) : VK := fun x H => ∃ i, x = .int i ∧ Q (some i) H
theorem x_sl {r : V → Option Int → Option Int → Hp → VK → Prop} {te : TE} {tl th : TO} (h : te σ H fun x H1 => tl σ H1 fun l H2 => th σ H2 fun u H3 => r x l u H3 Q) : tSl r te tl th σ H Q := h
theorem x_noP {Q : Option Int → Hp → Prop} (h : Q none H) : tNoPart σ H Q := h
theorem x_part {t : TE} {Q : Option Int → Hp → Prop} (h : t σ H (KPart Q)) : tPart t σ H Q := h
theorem x_partK {i : Int} {Q : Option Int → Hp → Prop} (h : Q (some i) H) : KPart Q (.int i) H := ⟨i, rfl, h⟩
theorem reps_slice {K : PySem.W.Frag} [Py α] {xs : List α} {vs : List V} {lo hi : Option Int} (q : Reps K X H (xs.map enc) vs) : Reps K X H ((slice xs lo hi).map enc) (cutV vs lo hi) := by
  have e : vs.length = xs.length := by rw [q.length, List.length_map]
  unfold slice cutV
  rw [e, List.map_take, List.map_drop]
  exact (q.drop _).take _
/-- a new list, told as data or as the body's own -/
theorem x_new {ds : List PyData} {vs : List V} (L : Lo C X H σ Γ) (q : Reps C.K X H ds vs) (h : ∀ v H1, Lo C X H1 σ Γ → (∀ d u, Rep C.K X H d u → Rep C.K X H1 d u) → Rep C.K X H1 (.list ds) v → Q v H1) : ∀ p, H p = none → Q (.ref p) (upd H p (.lst vs)) := fun p hp => by
  have s : Same H (upd H p (.lst vs)) := same_upd hp
  have r : RRep C.K X H (upd H p (.lst vs)) (.new (.lst ds)) (.ref p) := ⟨p, rfl, hp, vs, upd_same, (q.more hp).keep (.same s)⟩
  exact h _ _ (L.same s) (fun _ _ r => r.keep (.same s)) (r.imm L.xd)
theorem x_newN {ds : List PyData} {vs : List V} (L : Lo C X H σ Γ) (q : Reps C.K X H ds vs) (h : ∀ p X' H1, C.H0 p = none → ¬ C.X0 p → Lo C X' H1 σ (Γ ++ [.tmp p (.lst ds)]) → (∀ d u, Rep C.K X H d u → Rep C.K X' H1 d u) → Q (.ref p) H1) : ∀ p, H p = none → Q (.ref p) (upd H p (.lst vs)) := fun p hp => by
  have s : Same H (upd H p (.lst vs)) := same_upd hp
  obtain ⟨L1, le, h0, hx⟩ := L.lay (o := .lst ds) hp s ⟨vs, upd_same, (q.more hp).keep (.same s)⟩
  exact h p _ _ h0 hx L1 le
theorem x_slL [Py α] {xs : List α} {v : V} {lo hi : Option Int} (L : Lo C X H σ Γ) (r : Rep C.K X H (enc xs) v) (h : ∀ v H1, Lo C X H1 σ Γ → (∀ d u, Rep C.K X H d u → Rep C.K X H1 d u) → Rep C.K X H1 (enc (slice xs lo hi)) v → Q v H1) : rSlL C.K v lo hi H Q := by
  obtain ⟨a, vs, rfl, _, hs, q⟩ := rep_lst (ds := xs.map enc) r
  exact ⟨a, vs, rfl, .inl hs, x_new L (reps_slice q) h⟩
theorem x_slN [Py α] {xs : List α} {v : V} {lo hi : Option Int} (L : Lo C X H σ Γ) (r : Rep C.K X H (enc xs) v) (h : ∀ p X' H1, C.H0 p = none → ¬ C.X0 p → Lo C X' H1 σ (Γ ++ [.tmp p (ml (slice xs lo hi))]) → (∀ d u, Rep C.K X H d u → Rep C.K X' H1 d u) → Q (.ref p) H1) : rSlL C.K v lo hi H Q := by
  obtain ⟨a, vs, rfl, _, hs, q⟩ := rep_lst (ds := xs.map enc) r
  exact ⟨a, vs, rfl, .inl hs, x_newN L (reps_slice q) h⟩
theorem x_slM [Py α] {xs : List α} {i : Nat} {p : Addr} {lo hi : Option Int} (L : Lo C X H σ Γ) (g : Γ[i]? = some (.mu p (ml xs))) (h : ∀ v H1, Lo C X H1 σ Γ → (∀ d u, Rep C.K X H d u → Rep C.K X H1 d u) → Rep C.K X H1 (enc (slice xs lo hi)) v → Q v H1) : rSlL C.K (.ref p) lo hi H Q := by
  obtain ⟨vs, hs, q⟩ := L.mrep g
  exact ⟨p, vs, rfl, .inl (.inl hs), x_new L (reps_slice q) h⟩
theorem x_slMN [Py α] {xs : List α} {i : Nat} {p : Addr} {lo hi : Option Int} (L : Lo C X H σ Γ) (g : Γ[i]? = some (.mu p (ml xs))) (h : ∀ p X' H1, C.H0 p = none → ¬ C.X0 p → Lo C X' H1 σ (Γ ++ [.tmp p (ml (slice xs lo hi))]) → (∀ d u, Rep C.K X H d u → Rep C.K X' H1 d u) → Q (.ref p) H1) : rSlL C.K (.ref p) lo hi H Q := by
  obtain ⟨vs, hs, q⟩ := L.mrep g
  exact ⟨p, vs, rfl, .inl (.inl hs), x_newN L (reps_slice q) h⟩
theorem x_slS {ns : List Int} {v : V} {lo hi : Option Int} (L : Lo C X H σ Γ) (r : SqX C.K X H ns v) (h : ∀ v H1, Lo C X H1 σ Γ → (∀ d u, Rep C.K X H d u → Rep C.K X H1 d u) → Rep C.K X H1 (enc (slice ns lo hi)) v → Q v H1) : rSlL C.K v lo hi H Q := by
  obtain ⟨a, rfl, hs⟩ := r.sq
  refine ⟨a, _, rfl, hs, x_new L (reps_slice (xs := ns) ?_) h⟩
  exact Reps.ints
/-- a part of a tuple -/
theorem x_slT {ds es : List PyData} {v : V} {lo hi : Option Int} (n : Nat) (L : Lo C X H σ Γ) (r : Rep C.K X H (.tuple ds) v) (hn : ds.length = n) (e : (ds.drop (HT.sIx ds.length 0 lo)).take (HT.sIx ds.length ds.length hi - HT.sIx ds.length 0 lo) = es) (ne : ¬ (HT.sIx n 0 lo = 0 ∧ HT.sIx n n hi = n))
    (h : ∀ v H1, Lo C X H1 σ Γ → (∀ d u, Rep C.K X H d u → Rep C.K X H1 d u) → Rep C.K X H1 (.tuple es) v → Q v H1) : rSlT C.K v lo hi H Q := by
  obtain ⟨a, vs, rfl, hs, q⟩ := rep_tup r
  have e2 : vs.length = ds.length := q.length
  refine ⟨a, vs, rfl, hs, by rw [e2, hn]; exact ne, fun p hp => ?_⟩
  have s : Same H (upd H p (.tup (cutV vs lo hi))) := same_upd hp
  have q2 : Reps C.K X H es (cutV vs lo hi) := by
    rw [← e]
    unfold cutV
    rw [e2]
    exact (q.drop _).take _
  exact h _ _ (L.same s) (fun _ _ r => r.keep (.same s)) (.tup upd_same (q2.keep (.same s)))
/-- xs[::-1] -/
def KRev (K : PySem.W.Frag) (Q : VK) : VK := fun x H => ∃ a xs, x = .ref a ∧ SqL K H a xs ∧ ∀ p, H p = none → Q (.ref p) (upd H p (.lst xs.reverse))
theorem x_revL {K : PySem.W.Frag} {te : TE} (h : te σ H (KRev K Q)) : tRevL K te σ H Q := h
theorem x_revv [Py α] {xs : List α} {v : V} (L : Lo C X H σ Γ) (r : Rep C.K X H (enc xs) v) (h : ∀ v H1, Lo C X H1 σ Γ → (∀ d u, Rep C.K X H d u → Rep C.K X H1 d u) → Rep C.K X H1 (enc xs.reverse) v → Q v H1) : KRev C.K Q v H := by
  obtain ⟨a, vs, rfl, _, hs, q⟩ := rep_lst (ds := xs.map enc) r
  exact ⟨a, vs, rfl, .inl hs, x_new (ds := xs.reverse.map enc) L (by rw [List.map_reverse]; exact q.reverse) h⟩
theorem x_revN [Py α] {xs : List α} {v : V} (L : Lo C X H σ Γ) (r : Rep C.K X H (enc xs) v) (h : ∀ p X' H1, C.H0 p = none → ¬ C.X0 p → Lo C X' H1 σ (Γ ++ [.tmp p (ml xs.reverse)]) → (∀ d u, Rep C.K X H d u → Rep C.K X' H1 d u) → Q (.ref p) H1) : KRev C.K Q v H := by
  obtain ⟨a, vs, rfl, _, hs, q⟩ := rep_lst (ds := xs.map enc) r
  exact ⟨a, vs, rfl, .inl hs, x_newN (ds := xs.reverse.map enc) L (by rw [List.map_reverse]; exact q.reverse) h⟩
/-- list(xs) -/
theorem x_listL [Py α] {xs : List α} {v : V} (L : Lo C X H σ Γ) (r : Rep C.K X H (enc xs) v) (h : ∀ v H1, Lo C X H1 σ Γ → (∀ d u, Rep C.K X H d u → Rep C.K X H1 d u) → Rep C.K X H1 (enc xs) v → Q v H1) : rListX C.K [v] H Q := by
  obtain ⟨a, vs, rfl, _, hs, q⟩ := rep_lst (ds := xs.map enc) r
  exact ⟨a, vs, rfl, .inl (.inl hs), x_new L q h⟩
theorem x_listN [Py α] {xs : List α} {v : V} (L : Lo C X H σ Γ) (r : Rep C.K X H (enc xs) v) (h : ∀ p X' H1, C.H0 p = none → ¬ C.X0 p → Lo C X' H1 σ (Γ ++ [.tmp p (ml xs)]) → (∀ d u, Rep C.K X H d u → Rep C.K X' H1 d u) → Q (.ref p) H1) : rListX C.K [v] H Q := by
  obtain ⟨a, vs, rfl, _, hs, q⟩ := rep_lst (ds := xs.map enc) r
  exact ⟨a, vs, rfl, .inl (.inl hs), x_newN L q h⟩
theorem x_listM [Py α] {xs : List α} {i : Nat} {p : Addr} (L : Lo C X H σ Γ) (g : Γ[i]? = some (.mu p (ml xs))) (h : ∀ v H1, Lo C X H1 σ Γ → (∀ d u, Rep C.K X H d u → Rep C.K X H1 d u) → Rep C.K X H1 (enc xs) v → Q v H1) : rListX C.K [.ref p] H Q := by
  obtain ⟨vs, hs, q⟩ := L.mrep g
  exact ⟨p, vs, rfl, .inl (.inl (.inl hs)), x_new L q h⟩
def rCatR : R2 := fun x y H Q => ∃ l b xs zs, x = .ref l ∧ y = .ref b ∧ Rd H l (.lst xs) ∧ Rd H b (.lst zs) ∧ xs.length + zs.length ≤ sizeLine ∧ ∀ p, H p = none → Q (.ref p) (upd H p (.lst (xs ++ zs)))
theorem op_catR {Xc : Cx} : OpR Xc (binaryOp .Add) rCatR := by
  intro pins s σ H x y v u Q I rx ry h
  obtain ⟨l, b, xs, zs, rfl, rfl, hH, hB, hz, q⟩ := h
  cases rx
  cases ry
  obtain ⟨z, its, n, r, e⟩ := hH.ok I.hok
  obtain ⟨z2, its2, n2, r2, e2⟩ := hB.ok I.hok
  have hl := r.length
  have hl2 := r2.length
  refine PySem.P.add_list e e2 ?_ (by rw [List.size_toArray, List.size_toArray]; omega)
  have ea : its.toArray ++ its2.toArray = (its ++ its2).toArray := by simp
  rw [ea]
  exact ⟨.ref _, _, I.lnew (t' := s.toks) (r.append r2) (by rw [List.length_append]; omega), rfl, q _ I.fresh⟩
theorem len_ok {n : Nat} {k : Unit → Option ρ} {r : ρ} (hm : (lenOk n).bind k = some r) : n ≤ 16777216 ∧ k () = some r := by
  obtain ⟨_, e, hk⟩ := ob hm
  unfold lenOk at e
  split at e
  · exact ⟨by assumption, hk⟩
  · cases e
theorem lenOk_le {n : Nat} {u : Unit} (h : lenOk n = some u) : n ≤ 16777216 := by
  unfold lenOk at h
  split at h
  · assumption
  · cases h
theorem x_cat [Py α] {xs ys : List α} {u v : V} {k : Unit → Option ρ} {r : ρ} (L : Lo C X H σ Γ) (hm : (lenOk (xs.length + ys.length)).bind k = some r) (p : Rep C.K X H (enc xs) u) (q : Rep C.K X H (enc ys) v)
    (h : ∀ v H1, k () = some r → Lo C X H1 σ Γ → (∀ d u, Rep C.K X H d u → Rep C.K X H1 d u) → Rep C.K X H1 (enc (xs ++ ys)) v → Q v H1) : rCatR u v H Q := by
  obtain ⟨hl, hk⟩ := len_ok hm
  obtain ⟨a, vs, rfl, _, hs, q1⟩ := rep_lst (ds := xs.map enc) p
  obtain ⟨b, ws, rfl, _, ht, q2⟩ := rep_lst (ds := ys.map enc) q
  have q3 : Reps C.K X H ((xs ++ ys).map enc) (vs ++ ws) := by rw [List.map_append]; exact q1.append q2
  exact ⟨a, b, vs, ws, rfl, rfl, hs, ht, by rw [line_eq, q1.length, q2.length, List.length_map, List.length_map]; exact hl, x_new L q3 fun v H1 => h v H1 hk⟩
theorem x_catN [Py α] {xs ys : List α} {u v : V} {k : Unit → Option ρ} {r : ρ} (L : Lo C X H σ Γ) (hm : (lenOk (xs.length + ys.length)).bind k = some r) (p : Rep C.K X H (enc xs) u) (q : Rep C.K X H (enc ys) v)
    (h : ∀ p X' H1, k () = some r → C.H0 p = none → ¬ C.X0 p → Lo C X' H1 σ (Γ ++ [.tmp p (ml (xs ++ ys))]) → (∀ d u, Rep C.K X H d u → Rep C.K X' H1 d u) → Q (.ref p) H1) : rCatR u v H Q := by
  obtain ⟨hl, hk⟩ := len_ok hm
  obtain ⟨a, vs, rfl, _, hs, q1⟩ := rep_lst (ds := xs.map enc) p
  obtain ⟨b, ws, rfl, _, ht, q2⟩ := rep_lst (ds := ys.map enc) q
  have q3 : Reps C.K X H ((xs ++ ys).map enc) (vs ++ ws) := by rw [List.map_append]; exact q1.append q2
  exact ⟨a, b, vs, ws, rfl, rfl, hs, ht, by rw [line_eq, q1.length, q2.length, List.length_map, List.length_map]; exact hl, x_newN L q3 fun p X' H1 => h p X' H1 hk⟩
/-! ### methods of lists -/
theorem x_bm {T : String} {r : V → List V → Hp → VK → Prop} {to : TE} {t : TA} (h : to σ H fun x H1 => tyV C.K T x H1 ∧ t σ H1 fun xs H2 => r x xs H2 Q) : tBM C.K T r to t σ H Q := h
theorem x_bm0 {T : String} {r : V → List V → Hp → VK → Prop} {to : TE} (h : to σ H fun x H1 => tyV C.K T x H1 ∧ r x [] H1 Q) : tBM0 C.K T r to σ H Q := h
theorem x_tyM {i : Nat} {p : Addr} {ds : List PyData} {P : Prop} (L : Lo C X H σ Γ) (g : Γ[i]? = some (.mu p (.lst ds))) (h : P) : tyV C.K "list" (.ref p) H ∧ P := by
  obtain ⟨vs, hs, _⟩ := L.mrep g
  exact ⟨.inl ⟨rfl, vs, .inl (.inl hs)⟩, h⟩
/-- the list in a slot is written -/
theorem Lo.write (L : Lo C X H σ Γ) {i : Nat} {p : Addr} {ds es : List PyData} {vs ws : List V} (g : Γ[i]? = some (.mu p (.lst ds))) (hs : H p = some (.lst vs)) (q : Reps C.K X H es ws) :
    Lo C X (upd H p (.lst ws)) σ (Γ.set i (.mu p (.lst es))) ∧ (∀ d u, Rep C.K X H d u → Rep C.K X (upd H p (.lst ws)) d u) := by
  have hX : X p := L.mx p (mem_muts.mpr ⟨i, _, g, rfl⟩)
  have kp : Keep X H (upd H p (.lst ws)) := ⟨fun a u h n => by rw [upd_ne (fun z => n (by rw [z]; exact hX))]; exact h, fun a us h => by rw [upd_ne (fun z => by rw [z, hs] at h; cases h)]; exact h, fun a u w h => by rw [upd_ne (fun z => by rw [z, hs] at h; cases h)]; exact h⟩
  exact L.wrote (H' := upd H p (.lst ws)) (o := .lst es) g rfl (fun a u h n => by rw [upd_ne n]; exact h) (fun a h => by
      by_cases z : a = p
      · rw [z, upd_same]; exact fun y => nomatch y
      · rw [upd_ne z]; exact h) ⟨ws, upd_same, q.keep kp⟩
theorem x_append [Py α] {xs : List α} {x : α} {v : V} {i : Nat} {p : Addr} {k : Unit → Option ρ} {r : ρ} (L : Lo C X H σ Γ) (g : Γ[i]? = some (.mu p (ml xs))) (hm : (lenOk (xs.length + 1)).bind k = some r) (q : Rep C.K X H (enc x) v) (e : Γ.set i (.mu p (ml (xs ++ [x]))) = Γ')
    (h : ∀ H1, k () = some r → Lo C X H1 σ Γ' → (∀ d u, Rep C.K X H d u → Rep C.K X H1 d u) → Q .non H1) : rAppend (.ref p) [v] H Q := by
  subst e
  obtain ⟨hl, hk⟩ := len_ok hm
  obtain ⟨vs, hs, rs⟩ := L.mrep g
  have hlen : vs.length = xs.length := by rw [rs.length, List.length_map]
  obtain ⟨L1, le⟩ := L.write (es := (xs ++ [x]).map enc) (ws := vs ++ [v]) g hs (by rw [List.map_append]; exact rs.append (.cons q .nil))
  exact ⟨p, vs, v, rfl, rfl, hs, by rw [line_eq]; omega, h _ hk L1 le⟩
def rExtendR : V → List V → Hp → VK → Prop := fun x vs H Q => ∃ l b xs zs, x = .ref l ∧ vs = [.ref b] ∧ H l = some (.lst xs) ∧ Rd H b (.lst zs) ∧ xs.length + zs.length ≤ sizeLine ∧ Q .non (upd H l (.lst (xs ++ zs)))
theorem mt_extendR {Xc : Cx} : MtM Xc "list.extend" rExtendR := by
  intro pins s σ H x vs v us Q I rx rv h
  obtain ⟨l, b, xs, zs, rfl, rfl, hH, hB, hz, q⟩ := h
  cases rx
  obtain ⟨u, rfl, ru⟩ := rv.one
  cases ru
  obtain ⟨z, its, n, r, hl, e⟩ := I.lstM hH
  obtain ⟨z2, its2, n2, r2, e2⟩ := hB.ok I.hok
  have hl2 := r2.length
  have hsz : its.toArray.size + its2.toArray.size ≤ sizeLine := by rw [List.size_toArray, List.size_toArray]; omega
  have hlong : ¬ (!its.toArray.isEmpty && Builtin.List.listTooLong (its.toArray.size + its2.toArray.size)) = true := by
    rw [notLongL hsz, Bool.and_false]
    exact Bool.false_ne_true
  refine call_meets F.slot_list_extend ⟨_, e, rfl⟩ F.entry_list_extend (F.args_list_extend_2 _ _)
    (AutoSeq1.list_extend_list_list_0 l its.toArray n b its2.toArray n2 hlong (by rw [List.size_toArray]; omega) (by omega)) ⟨e, e2, ?_⟩
  refine ⟨.non, _, I.lset (its' := its ++ its2) hH e (by simp) (r.append r2) ?_, rfl, q⟩
  rw [List.length_append]
  omega
theorem x_extend [Py α] {xs ys : List α} {v : V} {i : Nat} {p : Addr} {k : Unit → Option ρ} {r : ρ} (L : Lo C X H σ Γ) (g : Γ[i]? = some (.mu p (ml xs))) (hm : (lenOk (xs.length + ys.length)).bind k = some r) (q : Rep C.K X H (enc ys) v) (e : Γ.set i (.mu p (ml (xs ++ ys))) = Γ')
    (h : ∀ H1, k () = some r → Lo C X H1 σ Γ' → (∀ d u, Rep C.K X H d u → Rep C.K X H1 d u) → Q .non H1) : rExtendR (.ref p) [v] H Q := by
  subst e
  obtain ⟨hl, hk⟩ := len_ok hm
  obtain ⟨vs, hs, rs⟩ := L.mrep g
  obtain ⟨b, ws, rfl, _, ht, q2⟩ := rep_lst (ds := ys.map enc) q
  obtain ⟨L1, le⟩ := L.write (es := (xs ++ ys).map enc) (ws := vs ++ ws) g hs (by rw [List.map_append]; exact rs.append q2)
  exact ⟨p, b, vs, ws, rfl, rfl, hs, ht, by rw [line_eq, rs.length, q2.length, List.length_map, List.length_map]; exact hl, h _ hk L1 le⟩
/-! ### what a call asks, and what stands behind it -/
theorem nd0 {Γa : List Sl} (e : muts Γa = []) : (muts Γa).Nodup := by rw [e]; exact List.nodup_nil
theorem nd1 {Γa : List Sl} {p : Addr} (e : muts Γa = [p]) : (muts Γa).Nodup := by rw [e]; simp
theorem Lo.cond0 (L : Lo C X H σ Γ) {Γa : List Sl} {vs : List V} (as : As C.K X H Γa vs) (e : muts Γa = []) : Cond C.K X H Γa vs := L.cond as (nd0 e) (by rw [e]; intro _ h; cases h)
theorem Lo.cond1 (L : Lo C X H σ Γ) {Γa : List Sl} {vs : List V} {i : Nat} {s : Sl} {p : Addr} (as : As C.K X H Γa vs) (e : muts Γa = [p]) (g : Γ[i]? = some s) (es : s.ad = some p) : Cond C.K X H Γa vs := L.cond as (nd1 e) (by
  rw [e]; intro q h
  rw [List.mem_singleton] at h
  subst h
  exact mem_muts.mpr ⟨i, s, g, es⟩)
theorem hp0 {K : PySem.W.Frag} : ∀ q ∈ ([] : List (Addr × MO)), MRep K X H q.1 q.2 := fun _ h => nomatch h
theorem hp1 {K : PySem.W.Frag} {p : Addr} {o : MO} (h : MRep K X H p o) : ∀ q ∈ [(p, o)], MRep K X H q.1 q.2 := fun q hq => by
  rw [List.mem_singleton] at hq
  subst hq
  exact h
theorem Lo.tmp (L : Lo C X H σ Γ) {i : Nat} {p : Addr} {o : MO} (e : Γ[i]? = some (.tmp p o)) : MRep C.K X H p o := L.at_ i _ e
/-- behind a call -/
theorem k0 {v : V} {H' : Hp} {rs : Rs} {ps : List (Addr × MO)} {G : Prop} (L : Lo C X H σ Γ) (F : Fin C.K X H [] ps rs v H') (h : Lo C X H' σ Γ → (∀ d u, Rep C.K X H d u → Rep C.K X H' d u) → G) : G := h (L.after0 F).1 (L.after0 F).2
theorem k0d {v : V} {H' : Hp} {d : PyData} {ps : List (Addr × MO)} {G : Prop} (L : Lo C X H σ Γ) (F : Fin C.K X H [] ps (.imm d) v H') (h : Lo C X H' σ Γ → (∀ d u, Rep C.K X H d u → Rep C.K X H' d u) → Rep C.K X H' d v → G) : G := h (L.after0 F).1 (L.after0 F).2 F.res
/-- .. that tells a new list, as data -/
theorem k0i {v : V} {H' : Hp} {ds : List PyData} {ps : List (Addr × MO)} {G : Prop} (L : Lo C X H σ Γ) (F : Fin C.K X H [] ps (.new (.lst ds)) v H') (h : Lo C X H' σ Γ → (∀ d u, Rep C.K X H d u → Rep C.K X H' d u) → Rep C.K X H' (.list ds) v → G) : G := h (L.after0 F).1 (L.after0 F).2 (RRep.imm F.res L.xd)
/-- .. as the body's own -/
theorem k0N {p : Addr} {H' : Hp} {o : MO} {ps : List (Addr × MO)} {P : Prop} (L : Lo C X H σ Γ) (F : Fin C.K X H [] ps (.new o) (.ref p) H') (h : ∀ X', C.H0 p = none → ¬ C.X0 p → Lo C X' H' σ (Γ ++ [.tmp p o]) → (∀ d u, Rep C.K X H d u → Rep C.K X' H' d u) → P) : P := by
  obtain ⟨p', e, a, b, X', c, d⟩ := L.after0N F
  cases e
  exact h X' a b c d
/-- .. that wrote the object of one slot -/
theorem k1 {v : V} {H' : Hp} {rs : Rs} {p : Addr} {o : MO} {s : Sl} {G : Prop} (L : Lo C X H σ Γ) (F : Fin C.K X H [p] [(p, o)] rs v H') {i : Nat} (e : Γ[i]? = some s) (es : s.ad = some p) (eΓ : Γ.set i (s.to o) = Γ') (h : Lo C X H' σ Γ' → (∀ d u, Rep C.K X H d u → Rep C.K X H' d u) → G) : G := by
  subst eΓ
  exact h (L.after1 F e es).1 (L.after1 F e es).2
theorem k1d {v : V} {H' : Hp} {d : PyData} {p : Addr} {o : MO} {s : Sl} {G : Prop} (L : Lo C X H σ Γ) (F : Fin C.K X H [p] [(p, o)] (.imm d) v H') {i : Nat} (e : Γ[i]? = some s) (es : s.ad = some p) (eΓ : Γ.set i (s.to o) = Γ') (h : Lo C X H' σ Γ' → (∀ d u, Rep C.K X H d u → Rep C.K X H' d u) → Rep C.K X H' d v → G) : G := by
  subst eΓ
  exact h (L.after1 F e es).1 (L.after1 F e es).2 F.res
theorem k1i {v : V} {H' : Hp} {ds : List PyData} {p : Addr} {o : MO} {s : Sl} {G : Prop} (L : Lo C X H σ Γ) (F : Fin C.K X H [p] [(p, o)] (.new (.lst ds)) v H') {i : Nat} (e : Γ[i]? = some s) (es : s.ad = some p) (eΓ : Γ.set i (s.to o) = Γ') (h : Lo C X H' σ Γ' → (∀ d u, Rep C.K X H d u → Rep C.K X H' d u) → Rep C.K X H' (.list ds) v → G) : G := by
  subst eΓ
  exact h (L.after1 F e es).1 (L.after1 F e es).2 (RRep.imm F.res L.xd)
/-- .. and tells a new one, the body's own -/
theorem ints_any {K : PySem.W.Frag} {X Y : Addr → Prop} : ∀ {xs : List Int} {vs : List V}, Reps K X H (xs.map enc) vs → Reps K Y H (xs.map enc) vs
  | [], _, .nil => .nil
  | _ :: _, _, .cons (.int i) t => .cons (.int i) (ints_any t)
theorem k1N {q : Addr} {H' : Hp} {o' : MO} {p : Addr} {xs : List Int} {s : Sl} {P : Prop} (L : Lo C X H σ Γ) (F : Fin C.K X H [p] [(p, ml xs)] (.new o') (.ref q) H') {i : Nat} (e : Γ[i]? = some s) (es : s.ad = some p) (eΓ : Γ.set i (s.to (ml xs)) = Γ') (h : ∀ X', C.H0 q = none → ¬ C.X0 q → Lo C X' H' σ (Γ' ++ [.tmp q o']) → (∀ d u, Rep C.K X H d u → Rep C.K X' H' d u) → P) : P := by
  subst eΓ
  have hpm : p ∈ muts Γ := mem_muts.mpr ⟨i, s, e, es⟩
  have hpx : X p := L.mx p hpm
  obtain ⟨o0, r0⟩ := L.mem hpm
  have kp : Keep X H H' := ⟨fun a u h n => F.base a u h fun z => n (by rw [List.mem_singleton] at z; exact z ▸ hpx), fun a vs h => F.base a _ h fun z => by rw [List.mem_singleton] at z; exact r0.ntup.1 _ (z ▸ h), fun a u w h => F.base a _ h fun z => by rw [List.mem_singleton] at z; exact r0.ntup.2 _ _ (z ▸ h)⟩
  have L' := (L.after1 F e es).1
  have hil : i < Γ.length := (List.getElem?_eq_some_iff.mp e).1
  obtain ⟨q', e', a, b, c, d⟩ := L.afterN F L' kp (by intro q hq; rw [List.mem_singleton] at hq; exact hq ▸ hpm) (muts_to e) fun j t hj => by
    have hs := L'.at_ j t hj
    by_cases z : j = i
    · subst z
      rw [List.getElem?_set_self hil] at hj
      cases hj
      have hp' : (s.to (ml xs)).ad = some p := by
        cases s with
        | unk => cases es
        | scr ns => cases es
        | ref a => cases es
        | imm d => cases es
        | fix _ _ => cases es
        | fixN _ _ => cases es
        | lax _ _ => cases es
        | mu p' o1 => exact es
        | tmp p' o1 => exact es
      refine .inr ⟨p, hp', fun q hq => ?_⟩
      obtain ⟨vs, h1, h2⟩ := F.mu (p, ml xs) (by simp)
      have this : MRep C.K (fun a => X a ∨ a = q) H' p (ml xs) := ⟨vs, h1, ints_any h2⟩
      cases s with
      | unk => cases es
      | scr ns => cases es
      | ref a => cases es
      | imm d => cases es
      | fix _ _ => cases es
      | fixN _ _ => cases es
      | lax _ _ => cases es
      | mu p' o1 => cases es; exact ⟨hs.1, this⟩
      | tmp p' o1 => cases es; exact this
    · rw [List.getElem?_set_ne (Ne.symm z)] at hj
      cases ea : t.ad with
      | none => exact .inl ⟨rfl, hj⟩
      | some p' =>
        refine .inr ⟨p', rfl, fun q hq => ((L.at_ j t hj).more hq).keep (kp.mono fun a h => .inl h) fun p'' e'' => ?_⟩
        rw [ea] at e''; cases e''
        obtain ⟨o', r'⟩ := (L.at_ j t hj).mrep ea
        have ne : p' ≠ p := fun y => z (ad_unique L.nd hj e (by rw [ea, y]) es)
        cases h : H p' with
        | none => exact (r'.nn h).elim
        | some u => exact F.base p' u h (by simpa using ne)
  cases e'
  exact h _ a b c d
/-- an object of the body's own is told -/
theorem Lo.finM {ps : List (Addr × MO)} {o : MO} {p : Addr} {i : Nat} (L : Lo C X H σ Γ) (hp : ∀ q ∈ ps, MRep C.K X H q.1 q.2) (e : Γ[i]? = some (.mu p o)) (hn : C.H0 p = none) : Fin C.K C.X0 C.H0 C.P0 ps (.new o) (.ref p) H :=
  L.finN hp hn (L.mx p (mem_muts.mpr ⟨i, _, e, rfl⟩)) (L.mrep e)
theorem Lo.finT {ps : List (Addr × MO)} {o : MO} {p : Addr} {i : Nat} (L : Lo C X H σ Γ) (hp : ∀ q ∈ ps, MRep C.K X H q.1 q.2) (e : Γ[i]? = some (.tmp p o)) (hn : C.H0 p = none) : Fin C.K C.X0 C.H0 C.P0 ps (.new o) (.ref p) H :=
  L.finN hp hn (L.mx p (mem_muts.mpr ⟨i, _, e, rfl⟩)) (L.tmp e)
/-! ### the ends of bodies, turns, branches -/
theorem x_fin {K : PySem.W.Frag} {H0 : Hp} {P0 : List Addr} {ps : ρ → List (Addr × MO)} {rs : ρ → Rs} {e r : ρ} {v : V} (hm : some e = some r) (kont : ∀ v H', Fin K X H0 P0 (ps r) (rs r) v H' → Q v H') (F : Fin K X H0 P0 (ps e) (rs e) v H) : Q v H := by
  cases hm; exact kont v H F
theorem x_finP {K : PySem.W.Frag} {H0 : Hp} {P0 : List Addr} {ps : ρ → List (Addr × MO)} {o : ρ → MO} {e r : ρ} {p : Addr} (hm : some e = some r) (kont : ∀ p H', Fin K X H0 P0 (ps r) (.new (o r)) (.ref p) H' → Q (.ref p) H') (F : Fin K X H0 P0 (ps e) (.new (o e)) (.ref p) H) : Q (.ref p) H := by
  cases hm; exact kont p H F
theorem x_finRP {K : PySem.W.Frag} {H0 : Hp} {P0 : List Addr} {ps : ρ → List (Addr × MO)} {o : ρ → MO} {e r : ρ} {v : V} (hm : some e = some r) (kont : ∀ p H', Fin K X H0 P0 (ps r) (.new (o r)) (.ref p) H' → Q (.ref p) H') (F : Fin K X H0 P0 (ps e) (.new (o e)) v H) : Q v H := by
  cases hm
  obtain ⟨p, rfl, _⟩ := F.res
  exact kont p H F
theorem x_finI {K : PySem.W.Frag} {H0 : Hp} {P0 : List Addr} {ps : ρ → List (Addr × MO)} {sc : ρ → Int} {r : ρ} (e : ρ) (hm : some e = some r) (kont : ∀ H', (fun x => Fin K X H0 P0 (ps r) (.imm (PyData.int x)) (V.int x) H') (sc r) → (fun x => Q (V.int x) H') (sc r)) (F : (fun x => Fin K X H0 P0 (ps e) (.imm (PyData.int x)) (V.int x) H) (sc e)) : (fun x => Q (V.int x) H) (sc e) := by
  cases hm; exact kont H F
theorem x_finRI {K : PySem.W.Frag} {H0 : Hp} {P0 : List Addr} {ps : ρ → List (Addr × MO)} {sc : ρ → Int} {e r : ρ} {v : V} (hm : some e = some r) (kont : ∀ H', (fun x => Fin K X H0 P0 (ps r) (.imm (PyData.int x)) (V.int x) H') (sc r) → (fun x => Q (V.int x) H') (sc r)) (F : Fin K X H0 P0 (ps e) (.imm ((fun x => (PyData.int x)) (sc e))) v H) : Q v H := by
  cases hm
  have q := repI (x := sc e) F.res
  subst q
  exact kont H F
theorem x_finB {K : PySem.W.Frag} {H0 : Hp} {P0 : List Addr} {ps : ρ → List (Addr × MO)} {sc : ρ → Bool} {r : ρ} (e : ρ) (hm : some e = some r) (kont : ∀ H', (fun x => Fin K X H0 P0 (ps r) (.imm (PyData.bool x)) (V.bl x) H') (sc r) → (fun x => Q (V.bl x) H') (sc r)) (F : (fun x => Fin K X H0 P0 (ps e) (.imm (PyData.bool x)) (V.bl x) H) (sc e)) : (fun x => Q (V.bl x) H) (sc e) := by
  cases hm; exact kont H F
theorem x_finRB {K : PySem.W.Frag} {H0 : Hp} {P0 : List Addr} {ps : ρ → List (Addr × MO)} {sc : ρ → Bool} {e r : ρ} {v : V} (hm : some e = some r) (kont : ∀ H', (fun x => Fin K X H0 P0 (ps r) (.imm (PyData.bool x)) (V.bl x) H') (sc r) → (fun x => Q (V.bl x) H') (sc r)) (F : Fin K X H0 P0 (ps e) (.imm ((fun x => (PyData.bool x)) (sc e))) v H) : Q v H := by
  cases hm
  have q := repB (x := sc e) F.res
  subst q
  exact kont H F
theorem x_finS {K : PySem.W.Frag} {H0 : Hp} {P0 : List Addr} {ps : ρ → List (Addr × MO)} {sc : ρ → Str} {r : ρ} (e : ρ) (hm : some e = some r) (kont : ∀ H', (fun x => Fin K X H0 P0 (ps r) (.imm (PyData.str x)) (V.str x) H') (sc r) → (fun x => Q (V.str x) H') (sc r)) (F : (fun x => Fin K X H0 P0 (ps e) (.imm (PyData.str x)) (V.str x) H) (sc e)) : (fun x => Q (V.str x) H) (sc e) := by
  cases hm; exact kont H F
theorem x_finRS {K : PySem.W.Frag} {H0 : Hp} {P0 : List Addr} {ps : ρ → List (Addr × MO)} {sc : ρ → Str} {e r : ρ} {v : V} (hm : some e = some r) (kont : ∀ H', (fun x => Fin K X H0 P0 (ps r) (.imm (PyData.str x)) (V.str x) H') (sc r) → (fun x => Q (V.str x) H') (sc r)) (F : Fin K X H0 P0 (ps e) (.imm ((fun x => (PyData.str x)) (sc e))) v H) : Q v H := by
  cases hm
  have q := repS (x := sc e) F.res
  subst q
  exact kont H F
theorem x_finN {K : PySem.W.Frag} {H0 : Hp} {P0 : List Addr} {ps : ρ → List (Addr × MO)} {sc : ρ → Unit} {r : ρ} (e : ρ) (hm : some e = some r) (kont : ∀ H', (fun x => Fin K X H0 P0 (ps r) (.imm PyData.none) V.non H') (sc r) → (fun x => Q V.non H') (sc r)) (F : (fun x => Fin K X H0 P0 (ps e) (.imm PyData.none) V.non H) (sc e)) : (fun x => Q V.non H) (sc e) := by
  cases hm; exact kont H F
theorem x_finRN {K : PySem.W.Frag} {H0 : Hp} {P0 : List Addr} {ps : ρ → List (Addr × MO)} {sc : ρ → Unit} {e r : ρ} {v : V} (hm : some e = some r) (kont : ∀ H', (fun x => Fin K X H0 P0 (ps r) (.imm PyData.none) V.non H') (sc r) → (fun x => Q V.non H') (sc r)) (F : Fin K X H0 P0 (ps e) (.imm ((fun x => PyData.none) (sc e))) v H) : Q v H := by
  cases hm
  have q := repN (x := sc e) F.res
  subst q
  exact kont H F
theorem x_leaf {τ : Type} {C' : Cn} {G : τ → List Sl} {e s : τ} {N : L2.St → Hp → Prop} (hm : some e = some s) (hN : ∀ X' σ' H', Lo C' X' H' σ' (G s) → N σ' H') (L : Lo C' X H σ (G e)) : N σ H := by
  cases hm; exact hN _ _ _ L
theorem x_leafN {τ : Type} {C' : Cn} {G : τ → List Sl} {e : τ} {o : Lp τ ρ} {N : L2.St → Hp → Prop} (hm : some (.nxt e) = some o) (hN : ∀ s, o = .nxt s → ∀ X' σ' H', Lo C' X' H' σ' (G s) → N σ' H') (L : Lo C' X H σ (G e)) : N σ H :=
  hN e (Option.some.inj hm).symm _ _ _ L
theorem x_leafB {τ : Type} {C' : Cn} {G : τ → List Sl} {e : τ} {o : Lp τ ρ} {N : L2.St → Hp → Prop} (hm : some (.brk e) = some o) (hN : ∀ s, o = .brk s → ∀ X' σ' H', Lo C' X' H' σ' (G s) → N σ' H') (L : Lo C' X H σ (G e)) : N σ H :=
  hN e (Option.some.inj hm).symm _ _ _ L
theorem x_leafR {τ : Type} {K : PySem.W.Frag} {H0 : Hp} {P0 : List Addr} {ps : ρ → List (Addr × MO)} {rs : ρ → Rs} {e : ρ} {o : Lp τ ρ} {v : V} {N : VK} (hm : some (.ret e) = some o) (hR : ∀ r, o = .ret r → ∀ v H', Fin K X H0 P0 (ps r) (rs r) v H' → N v H') (F : Fin K X H0 P0 (ps e) (rs e) v H) : N v H :=
  hR e (Option.some.inj hm).symm _ _ F
/-- branches that come together again -/
theorem x_join {τ : Type} {c : Bool} {mA mB : Option τ} {k : τ → Option ρ} {r : ρ} {G : τ → List Sl} {t u : TS} {nx bk ct : L2.St → Hp → Prop} {rt : VK} (L : Lo C X H σ Γ) (hm : (if c = true then mA else mB).bind k = some r)
    (hA : ∀ b, mA = some b → ∀ N : L2.St → Hp → Prop, (∀ X' σ' H', Lo C X' H' σ' (G b) → N σ' H') → t ⟨N, rt, bk, ct⟩ σ H)
    (hB : ∀ b, mB = some b → ∀ N : L2.St → Hp → Prop, (∀ X' σ' H', Lo C X' H' σ' (G b) → N σ' H') → u ⟨N, rt, bk, ct⟩ σ H)
    (h : ∀ b X' σ' H', k b = some r → Lo C X' H' σ' (G b) → nx σ' H') : KIf t u ⟨nx, rt, bk, ct⟩ σ c H := by
  cases c with
  | true =>
    obtain ⟨b, e, hk⟩ := ob hm
    exact hA b e nx fun X' σ' H' L => h b X' σ' H' hk L
  | false =>
    obtain ⟨b, e, hk⟩ := ob hm
    exact hB b e nx fun X' σ' H' L => h b X' σ' H' hk L
/-- a value is given a name of its own -/
theorem x_bset {d : α → PyData} {x0 : α} {i : Nat} {v : V} {k : α → Option ρ} {r : ρ} {N : L2.St → Hp → Prop} {Γf : α → List Sl} (hm : (some x0).bind k = some r) (L : Lo C X H σ Γ) (q : Rep C.K X H (d x0) v) (hi : i < C.n) (e : ∀ x, Γ.set i (.imm (d x)) = Γf x) (h : ∀ x σ', k x = some r → Lo C X H σ' (Γf x) → N σ' H) : gName i v σ H N :=
  h x0 _ hm (by rw [← e]; exact L.set q hi)
end
open Py (enc)
/-! ### defs that raise -/
theorem fn_or {P : Program} {w : World} {K : PySem.W.Frag} {mg : Str → Option Value} {base : Heap} {k : Nat} {f : Addr} {fd : FuncData} {ps : List Str} {sp1 sp2 : Sp} (F1 : FnOk P w K mg base (L2.CX P w) k f fd ps sp1) (F2 : FnOk P w K mg base CX0 k f fd ps sp2) :
    FnOk P w K mg base (L2.CX P w) k f fd ps (fun vs H Q E => sp1 vs H Q E ∨ sp2 vs H Q E) := by
  refine ⟨fun vs H Q E h => h.elim (F1.len vs H Q E) (F2.len vs H Q E), fun A outer s H args us vs Q E hr he hb hv hs => ?_⟩
  rcases hs with h | h
  · exact F1.run A outer s H args us vs Q E hr he hb hv h
  · refine codeAny_mono (F2.run A outer s H args us vs Q E hr he hb hv h) fun r s' q => ?_
    cases r with
    | ok r => cases r <;> first | exact q | exact (show False from q).elim
    | error e => exact (show False from q).elim
theorem Lo.same0 {C : Cn} {X : Addr → Prop} {H : Hp} {σ : L2.St} {Γ : List Sl} (L : Lo C X H σ Γ) (e : C.P0 = []) : Same C.H0 H := fun a o h => L.base a o h (by rw [e]; exact fun z => nomatch z)
section
variable {C : Cn} {X : Addr → Prop} {H : Hp} {σ : L2.St} {Γ Γ' : List Sl} {Q : VK} {α β ρ : Type}
theorem x_callS {sp : Sp} {E : L2.St → XK} {t : TA} (h : t σ H fun vs H1 => sp vs H1 Q (E σ)) : tCallS sp E t σ H Q := h
theorem x_either {S1 S2 : Prop} {A B : Option ρ} {m : Option Unit} {r : ρ} (hm : (if m.isSome = true then A else B) = some r) (h1 : m = some () → A = some r → S1) (h2 : B = some r → S2) : S1 ∨ S2 := by
  cases m with
  | some u => exact .inl (h1 rfl hm)
  | none => exact .inr (h2 hm)
theorem x_catch {K : PySem.W.Frag} {c : Value} {D : Addr} {i : Nat} {ts : Addr → Value → Option Addr → TS} {Wout : WX} {nx bk ct : L2.St → Hp → Prop} {rt : VK} (he : PySem.W.exmOne K (.ref D) c = some true)
    (h : ∀ a, H a = none → ts a (.ref D) none ⟨fun σ' H' => nx (σ'.set i none) H', rt, fun σ' H' => bk (σ'.set i none) H', fun σ' H' => ct (σ'.set i none) H'⟩ (σ.set i (some (.ref a))) H) : wAs K c i ts Wout ⟨nx, rt, bk, ct⟩ (.ref D) none σ H :=
  ⟨true, he, fun _ => h, fun z => nomatch z⟩
theorem x_catch0 {K : PySem.W.Frag} {c : Value} {D : Addr} {ts : Addr → Value → Option Addr → TS} {Wout : WX} {Ds : Ends} (he : PySem.W.exmOne K (.ref D) c = some true)
    (h : ∀ a, H a = none → ts a (.ref D) none Ds σ H) : wOnly K c ts Wout Ds (.ref D) none σ H :=
  ⟨true, he, fun _ => h, fun z => nomatch z⟩
theorem x_vr {i : Nat} {a : Addr} (L : Lo C X H σ Γ) (e : Γ[i]? = some (.ref a)) (h : Q (.ref a) H) : tVar i σ H Q := ⟨_, L.at_ i _ e, h⟩
/-- isinstance of the error that is handled -/
def rIsG (K : PySem.W.Frag) (cls : Value) (d : Option Addr) (a : Addr) : List V → Hp → VK → Prop := fun xs H Q => ∃ (D : Addr) (c : V) (cv : Value) (b : Bool), cls = .ref D ∧ d = none ∧ ExcC K D ∧ xs = [.ref a, c] ∧ (∀ u, RelV c u → u = cv) ∧ PySem.W.kitOne K (.ref D) cv = some b ∧ Q (.bl b) H
theorem call_isG {Xc : Cx} {a : Addr} {oe : Obj} {pn : List (Addr × Obj)} {cls : Value} {d : Option Addr} (hz : Zc cls d oe) (hf : ∃ vs, oe.data = .fields vs) : CallR (Xc.suite a ((a, oe) :: pn)) (.builtin "isinstance") (rIsG Xc.K cls d a) := by
  intro pins s σ H xs us Q I r h
  obtain ⟨D, c, cv, b, rfl, rfl, E, rfl, hc, k, q⟩ := h
  exact call_isE E hz hf pins s σ H _ us Q I r ⟨c, cv, b, rfl, hc, k, q⟩
def rIsGT (K : PySem.W.Frag) (cls : Value) (d : Option Addr) (a : Addr) : List V → Hp → VK → Prop := fun xs H Q => ∃ (D tp : Addr) (cs : List V) (ws : List Value) (b : Bool), cls = .ref D ∧ d = none ∧ ExcC K D ∧ xs = [.ref a, .ref tp] ∧ H tp = some (.tup cs) ∧ Paired ClsV cs ws ∧ PySem.W.kitAny K (.ref D) ws = some b ∧ Q (.bl b) H
theorem call_isGT {Xc : Cx} {a : Addr} {oe : Obj} {pn : List (Addr × Obj)} {cls : Value} {d : Option Addr} (hz : Zc cls d oe) (hf : ∃ vs, oe.data = .fields vs) : CallR (Xc.suite a ((a, oe) :: pn)) (.builtin "isinstance") (rIsGT Xc.K cls d a) := by
  intro pins s σ H xs us Q I r h
  obtain ⟨D, tp, cs, ws, b, rfl, rfl, Ex, rfl, hT, k, e, q⟩ := h
  cases r with
  | cons rx rr =>
    cases rr with
    | cons rt rr =>
      cases rr
      cases rx
      rename_i u2
      cases (show u2 = Value.ref tp from rt)
      obtain ⟨hget, _⟩ := I.pin (a, oe) (List.mem_append.mpr (.inl List.mem_cons_self))
      obtain ⟨vs, hv⟩ := hf
      have J : PySem.W.InstAt s.heap a oe D none := by
        obtain ⟨oc, od, oda, osl⟩ := oe
        obtain ⟨h1, h2⟩ := hz
        dsimp only at h1 h2 hv
        subst h1 h2 hv
        exact ⟨hget, rfl, rfl, trivial⟩
      obtain ⟨_, its, rv, o, h1, h2, n, h3⟩ := (show ObjOk _ _ H s.heap tp (.tup cs) from I.hok tp _ hT)
      have e3 := ClsV.all k rv
      subst e3
      obtain ⟨oc, od, dt, sl⟩ := o
      simp only at h2 h3
      subst h2 h3
      exact PySem.W.kia_tup (PySem.W.handS_kitx_exc Ex.hg Ex.hk Ex.hs Ex.hd Ex.ha Ex.hn Ex.ht Ex.hm) I.kIn J h1 e (fun z => nomatch z) fun tk => ⟨.bl b, H, I.kept (t' := tk) fun _ _ z => z, rfl, q⟩
theorem x_isG {K : PySem.W.Frag} {D a C2 : Addr} {b : Bool} (E : ExcC K D) (k : PySem.W.kitOne K (.ref D) (.ref C2) = some b) (h : Q (.bl b) H) : rIsG K (.ref D) none a [.ref a, .ref C2] H Q :=
  ⟨D, _, _, b, rfl, rfl, E, rfl, fun _ r => r, k, h⟩
theorem x_isGB {K : PySem.W.Frag} {D a : Addr} {T : String} {b : Bool} (E : ExcC K D) (k : PySem.W.kitOne K (.ref D) (.type T) = some b) (h : Q (.bl b) H) : rIsG K (.ref D) none a [.ref a, .ty T] H Q :=
  ⟨D, _, _, b, rfl, rfl, E, rfl, fun _ r => r, k, h⟩
theorem x_isGT {K : PySem.W.Frag} {D a tp : Addr} {cs : List V} {ws : List Value} {b : Bool} (E : ExcC K D) (hT : H tp = some (.tup cs)) (p : Paired ClsV cs ws) (k : PySem.W.kitAny K (.ref D) ws = some b) (h : Q (.bl b) H) : rIsGT K (.ref D) none a [.ref a, .ref tp] H Q :=
  ⟨D, tp, cs, ws, b, rfl, rfl, E, rfl, hT, p, k, h⟩
theorem kit_self {K : PySem.W.Frag} {D : Addr} : PySem.W.kitOne K (.ref D) (.ref D) = some true := by
  unfold PySem.W.kitOne
  rw [if_pos (beq_iff_eq.mpr rfl)]
theorem kit_ref {K : PySem.W.Frag} {D E : Addr} {b : Bool} (hne : (Value.ref D == Value.ref E) = false) (hd : PySem.W.hasDictIn K E = true) (ht : PySem.W.typeIn K (.ref E) = some (.type "type")) (hs : PySem.W.subIn K (.ref D) (.ref E) = some b) : PySem.W.kitOne K (.ref D) (.ref E) = some b := by
  obtain ⟨cd, hc, _⟩ := PySem.W.any_some hd
  have e2 : ((PySem.W.clsIn K E).isSome && PySem.W.typeIn K (.ref E) == some (.type "type")) = true := by rw [hc, ht] <;> rfl
  unfold PySem.W.kitOne
  rw [if_neg (by rw [hne]; exact Bool.false_ne_true)]
  show (if ((PySem.W.clsIn K E).isSome && PySem.W.typeIn K (.ref E) == some (.type "type")) = true then PySem.W.subIn K (.ref D) (.ref E) else none) = some b
  rw [if_pos e2]; exact hs
theorem kit_typ {K : PySem.W.Frag} {D : Addr} {T : String} {b : Bool} (hk : PySem.W.kitMeta T = true) (hs : PySem.W.subIn K (.ref D) (.type T) = some b) : PySem.W.kitOne K (.ref D) (.type T) = some b := by
  unfold PySem.W.kitOne
  rw [if_neg (by intro z; cases (beq_iff_eq.mp z))]
  show (if PySem.W.kitMeta T = true then PySem.W.subIn K (.ref D) (.type T) else none) = some b
  rw [if_pos hk]; exact hs
/-- a tuple of classes -/
theorem x_mkC {vs : List V} (L : Lo C X H σ Γ) (hl : vs.length ≤ 16777216) (h : ∀ p H1, Lo C X H1 σ Γ → H1 p = some (.tup vs) → Q (.ref p) H1) : KTup Q vs H := by
  refine ⟨by rw [line_eq]; exact hl, fun p hp => ?_⟩
  exact h p _ (L.same (same_upd hp)) upd_same
end
open Py (enc)
/-! ### tuples of ints: sets, order -/
class IT (α : Type) [Py α] where
  nums : α → List Int
  enc_eq : ∀ x, enc x = .tuple ((nums x).map .int)
  inj : ∀ x y, nums x = nums y → x = y
instance : IT (T2 Int Int) := ⟨fun x => [x.a, x.b], fun _ => rfl, fun x y h => by cases x; cases y; simp_all⟩
instance : IT (T3 Int Int Int) := ⟨fun x => [x.a, x.b, x.c], fun _ => rfl, fun x y h => by cases x; cases y; simp_all⟩
section
variable {K : PySem.W.Frag} {X : Addr → Prop} {H : Hp} {α : Type}
theorem rep_it [Py α] [IT α] {x : α} {v : V} (r : Rep K X H (enc x) v) : ∃ a, v = .ref a ∧ SqT K H a ((IT.nums x).map V.int) := by
  rw [IT.enc_eq] at r
  obtain ⟨a, vs, rfl, hs, q⟩ := rep_tup r
  rw [Reps.toInts q] at hs
  exact ⟨a, rfl, hs⟩
theorem reps_it [Py α] [IT α] : ∀ {xs : List α} {vs : List V}, Reps K X H (xs.map enc) vs → ∃ ks : List (Addr × List Int), vs = ks.map (fun p => V.ref p.1) ∧ ks.map (·.2) = xs.map IT.nums ∧ ∀ p ∈ ks, SqT K H p.1 (p.2.map V.int)
  | [], _, .nil => ⟨[], rfl, rfl, fun _ h => nomatch h⟩
  | x :: xs, _, .cons r t => by
    obtain ⟨a, rfl, hs⟩ := rep_it r
    obtain ⟨ks, rfl, h2, h3⟩ := reps_it t
    refine ⟨(a, IT.nums x) :: ks, rfl, by rw [List.map_cons, List.map_cons, h2], fun p hp => ?_⟩
    rcases List.mem_cons.mp hp with e | hp
    · subst e; exact hs
    · exact h3 p hp
end
/-- the distinct ones -/
def dset {α : Type} [DecidableEq α] : List α → List α
  | [] => []
  | x :: xs => if x ∈ dset xs then dset xs else x :: dset xs
theorem mem_dset {α : Type} [DecidableEq α] {x : α} : ∀ {xs : List α}, x ∈ dset xs ↔ x ∈ xs
  | [] => Iff.rfl
  | y :: xs => by
    unfold dset
    by_cases h : y ∈ dset xs
    · rw [if_pos h, List.mem_cons, mem_dset]
      exact ⟨.inr, fun z => z.elim (fun e => e ▸ mem_dset.mp h) id⟩
    · rw [if_neg h, List.mem_cons, List.mem_cons, mem_dset]
theorem nodup_dset {α : Type} [DecidableEq α] : ∀ {xs : List α}, (dset xs).Nodup
  | [] => List.nodup_nil
  | y :: xs => by
    unfold dset
    by_cases h : y ∈ dset xs
    · rw [if_pos h]; exact nodup_dset
    · rw [if_neg h]; exact List.nodup_cons.mpr ⟨h, nodup_dset⟩
theorem nodup_le {α : Type} [DecidableEq α] : ∀ {l m : List α}, l.Nodup → (∀ x ∈ l, x ∈ m) → l.length ≤ m.length
  | [], _, _, _ => Nat.zero_le _
  | x :: l, m, h, s => by
    obtain ⟨h1, h2⟩ := List.nodup_cons.mp h
    have hx := s x List.mem_cons_self
    have := nodup_le (l := l) (m := m.erase x) h2 fun y hy => (List.mem_erase_of_ne (fun e => by subst e; exact h1 hy)).mpr (s y (List.mem_cons_of_mem _ hy))
    rw [List.length_erase_of_mem hx] at this
    have hp := List.length_pos_of_mem hx
    rw [List.length_cons]; omega
theorem dset_map {α β : Type} [DecidableEq α] [DecidableEq β] {f : α → β} (hf : ∀ x y, f x = f y → x = y) : ∀ {xs : List α}, (dset (xs.map f)).length = (dset xs).length
  | [] => rfl
  | y :: xs => by
    rw [List.map_cons]
    unfold dset
    have e : f y ∈ dset (xs.map f) ↔ y ∈ dset xs := by
      rw [mem_dset, mem_dset, List.mem_map]
      exact ⟨fun ⟨z, h1, h2⟩ => hf _ _ h2 ▸ h1, fun h => ⟨y, h, rfl⟩⟩
    by_cases h : y ∈ dset xs
    · rw [if_pos h, if_pos (e.mpr h), dset_map hf]
    · rw [if_neg h, if_neg (fun z => h (e.mp z)), List.length_cons, List.length_cons, dset_map hf]
section
variable {X : Cx}
def tLenSetT (K : PySem.W.Frag) (ta : TE) : TE := fun σ H Q => ta σ H fun x H1 => ∃ (l : Addr) (ks : List (Addr × List Int)), x = V.ref l ∧ SqL K H1 l (ks.map fun p => V.ref p.1) ∧ (∀ p ∈ ks, SqT K H1 p.1 (p.2.map V.int)) ∧ ks.length < 64 ∧ Q (.int (dset (ks.map (·.2))).length) H1
theorem pe_lenSetT {a : Expr} {ta : TE} {p p2 q pos : Pos} (hc : X.calm = true) (hu : X.A.units + 64 < cLine) (hg : Gl X "len") (hm : X.mg "len" = none) (hg2 : Gl X "set") (hm2 : X.mg "set" = none) (ha : PE X a ta)
    (na : starEach [a] X.env = (false, eval a X.env) :: starEach [] X.env := by rfl) : PE X (.Call (.Name "len" p) [.Call (.Name "set" p2) [a] [] q] [] pos) (tLenSetT X.K ta) := by
  refine ⟨fun pins s σ H Q I h => ?_⟩
  refine Call_ (ld_blt I hg hm PySem.boot_len ?_)
  refine PyProof.Rows.callWith_builtin1 (PyProof.Rows.args_cons ?_ rfl) rfl rfl
  refine Call_ (ld_blt I hg2 hm2 PyProof.Rows.boot_set ?_)
  refine PyProof.Rows.callWith_type1 (PyProof.Rows.args_cons (thn (ha.run pins s σ H _ I h) fun v s1 ⟨x, H1, I1, r1, q1⟩ => PyProof.Rows.args_nil ?_) na) na rfl
  obtain ⟨l, ks, rfl, hq, hk, hf, q1⟩ := q1
  cases r1
  obtain ⟨its, rv, pl, hz⟩ := I1.list hq
  refine call_set_tups (P := X.prog) (w := X.w) ks (I1.ok.hd hc) pl.isList (by simpa using refs_of_vals rv) (fun p hp => I1.isT (hk p hp)) hf (by omega) fun h' tk L es ep t R g k => ?_
  refine PyProof.Rows.args_nil ?_
  obtain ⟨o, ho, hex, hd⟩ := R.ob
  have e1 : es.size = L.length := by
    have := congrArg List.length R.rows
    rw [Array.length_toList] at this
    rw [this]
    unfold rowsOf
    first | rw [List.length_map] | simp
  have hn : L.length = (dset (ks.map (·.2))).length := by
    refine Nat.le_antisymm ?_ ?_
    · have := nodup_le (m := dset (ks.map (·.2))) R.nd fun x hx => by
        obtain ⟨p, hp, e⟩ := List.mem_map.mp hx
        subst e
        exact mem_dset.mpr (List.mem_map.mpr ⟨p, List.mem_of_mem_take (g.sub p hp), rfl⟩)
      rwa [List.length_map] at this
    · have := nodup_le (m := L.map (·.2)) (nodup_dset (xs := ks.map (·.2))) fun x hx => by
        obtain ⟨p, hp, e⟩ := List.mem_map.mp (mem_dset.mp hx)
        subst e
        exact g.all p (by rw [List.take_length]; exact hp)
      rwa [List.length_map] at this
  have I2 : Inv X pins σ H1 { s1 with heap := h', toks := tk } := I1.kept fun b o e => k b o e
  have hf := R.few
  refine call_len_set ho hex hd (SetTR.fits (s := { s1 with heap := h', toks := tk }) R) (by rw [e1] <;> omega) ⟨.int (dset (ks.map (·.2))).length, H1, I2.tok _, ⟨_, by rw [e1, hn]⟩, q1⟩
end
def fewOk (n : Nat) : Option Unit := if n < 64 then some () else none
section
variable {C : Cn} {X : Addr → Prop} {H : Hp} {σ : L2.St} {Γ Γ' : List Sl} {Q : VK} {α β ρ : Type}
def KSet (K : PySem.W.Frag) (Q : VK) : VK := fun x H1 => ∃ (l : Addr) (ks : List (Addr × List Int)), x = V.ref l ∧ SqL K H1 l (ks.map fun p => V.ref p.1) ∧ (∀ p ∈ ks, SqT K H1 p.1 (p.2.map V.int)) ∧ ks.length < 64 ∧ Q (.int (dset (ks.map (·.2))).length) H1
theorem x_lenSet {K : PySem.W.Frag} {ta : TE} (h : ta σ H (KSet K Q)) : tLenSetT K ta σ H Q := h
theorem x_kset [Py α] [IT α] [DecidableEq α] {xs : List α} {v : V} {k : Unit → Option ρ} {r : ρ} (hm : (fewOk xs.length).bind k = some r) (q : Rep C.K X H (enc xs) v) (h : k () = some r → Q (.int (dset xs).length) H) : KSet C.K Q v H := by
  obtain ⟨_, e, hk⟩ := ob hm
  have h64 : xs.length < 64 := by
    unfold fewOk at e
    split at e
    · assumption
    · cases e
  obtain ⟨a, vs, rfl, _, hs, q⟩ := rep_lst (ds := xs.map enc) q
  obtain ⟨ks, rfl, h2, h3⟩ := reps_it q
  have hl : ks.length = xs.length := by
    have := congrArg List.length h2
    rwa [List.length_map, List.length_map] at this
  refine ⟨a, ks, rfl, .inl hs, h3, by rw [hl]; exact h64, ?_⟩
  rw [h2, dset_map IT.inj]
  exact h hk
/-! order of pairs -/
def ltP (p q : T2 Int Int) : Bool := decide (p.a < q.a) || (decide (p.a = q.a) && decide (p.b < q.b))
def leP (p q : T2 Int Int) : Bool := decide (p.a < q.a) || (decide (p.a = q.a) && decide (p.b ≤ q.b))
def maxP (p q : T2 Int Int) : T2 Int Int := if ltP p q = true then q else p
def minP (p q : T2 Int Int) : T2 Int Int := if ltP q p = true then q else p
theorem lexAt_le {a b c d : Int} : Ob.lexAt (fun j => decide ([a, b].getD j 0 = [c, d].getD j 0)) (fun j => decide ([a, b].getD j 0 ≤ [c, d].getD j 0)) (decide (([a, b] : List Int).length ≤ ([c, d] : List Int).length)) 0 (min ([a, b] : List Int).length ([c, d] : List Int).length) = leP ⟨a, b⟩ ⟨c, d⟩ := by
  show Ob.lexAt _ _ _ 0 2 = _
  rw [Ob.lexAt_succ, Ob.lexAt_succ, Ob.lexAt_zero]
  unfold leP
  simp only [List.getD_eq_getElem?_getD, List.getElem?_cons_zero, List.getElem?_cons_succ, Option.getD_some, decide_eq_true_eq, List.length_cons, List.length_nil]
  rcases Int.lt_trichotomy a c with z | z | z
  · have z1 : ¬ a = c := by omega
    have z2 : a ≤ c := by omega
    simp [z, z1, z2]
  · subst z
    by_cases y : b = d
    · subst y; simp
    · simp [y]
  · have z1 : ¬ a = c := by omega
    have z2 : ¬ a ≤ c := by omega
    have z3 : ¬ a < c := by omega
    simp [z1, z2, z3]
def rLeP (K : PySem.W.Frag) : R2 := rLeT K
theorem op_leP {Xc : Cx} (hu : Xc.A.units < cLine) : OpR Xc (compareOp .LtE) (rLeP Xc.K) := op_leT hu
theorem x_leP {p q : T2 Int Int} {u v : V} (r : Rep C.K X H (enc p) u) (s : Rep C.K X H (enc q) v) (h : Q (.bl (leP p q)) H) : rLeP C.K u v H Q := by
  obtain ⟨a, rfl, ha⟩ := rep_it r
  obtain ⟨b, rfl, hb⟩ := rep_it s
  refine ⟨a, b, [p.a, p.b], [q.a, q.b], rfl, rfl, ha, hb, ?_⟩
  rw [lexAt_le]
  exact h
end
/-! max, min of two pairs -/
section
variable {prog : Program} {w : World} {A : Around} {E : Value → Shared → Prop} {s : Shared}
open PySem.W in
theorem call_max_twoH {a b : Value} {Q : Value → Shared → Prop} (hh : A.handled = none) (bt : Nat → Nat → Bool)
    (hc : CmpIn prog w A.in1 .Gt s.heap (fun i v => #[a, b][i]? = some v) bt)
    (h : ∀ h' tk, (∀ c o, s.heap.get? c = some o → h'.get? c = some o) → Q (if bt 1 0 = true then b else a) { s with heap := h', toks := tk }) :
    wpAny (model prog w) A (call (.builtin "max") [a, b]) Q E s := by
  have hname : (toString "max" ++ toString ".loop" : String) = "max.loop" := by decide
  refine call_function_tree F.kind_max F.plain_max F.entry_max (F.args_max2 _ _) ?_
  show wpAny _ A.in1 (Builtin.Builtins.bindParams "max" ["key", "default"] 0 ⟨[], []⟩ >>= _) _ _ s
  refine wpAny_bind (wpAny_of_eq (show Builtin.Builtins.bindParams "max" ["key", "default"] 0 ⟨[], []⟩ = pure [none, none] from rfl) ?_)
  show wpAny _ A.in1 (newTuple [a, b] >>= _) _ _ s
  refine wpAny_bind (wpAny_newObj_type ?_)
  have hT : (s.heap.push { cls := .type "tuple", data := .seq #[a, b] }).IsTuple s.heap.objs.size #[a, b] := ⟨_, Heap.get?_push_size _ rfl, rfl, 0, rfl⟩
  refine wpAny_bind (iter_tupleW (s := { s with heap := s.heap.push { cls := .type "tuple", data := .seq #[a, b] } }) (by exact hh) hT fun s₂ e W st hfp hwr hold => ?_)
  refine wpAny_bind (wpAny_newObj_type ?_)
  have hSf : s₂.heap.objs.size ∉ _ := fun hm => Nat.lt_irrefl _ (hfp _ hm)
  rw [hname]
  have k0 : ∀ c o, s.heap.get? c = some o → s₂.heap.get? c = some o := fun c o e => hold c o (Heap.get?_push_of_some _ e)
  refine wpAny_pure ⟨plainId_quiet F.plain_max_loop _, codeAny_max_loop_firstH W s.heap (fun c o e => hwr c o (Heap.get?_push_of_some _ e)) bt hc s₂.heap.objs.size hSf (fresh_in k0) [] (show 0 < 2 by decide) (fun c o e => Heap.get?_push_of_some _ (k0 c o e)) (W.frame _ _ _ _ st (Nat.le_refl _) fun c _ o e => Heap.get?_push_of_some _ e) (Heap.get?_push_size _ rfl) fun v s' hP hm => ?_⟩
  have m := Moved.drop_new (tk := s₂.toks) hm (Nat.le_refl _)
  obtain ⟨h', tk, e', hk'⟩ := moved_old e rfl m
  subst e'
  have hv : v = if bt 1 0 = true then b else a := by
    have hP' : #[a, b][argBest bt 1]? = some v := hP
    have e1 : argBest bt 1 = if bt 1 0 = true then 1 else 0 := rfl
    rw [e1] at hP'
    by_cases z : bt 1 0 = true
    · rw [if_pos z] at hP' ⊢; simpa using hP'.symm
    · rw [if_neg z] at hP' ⊢; simpa using hP'.symm
  rw [hv]
  exact h h' tk fun c o e => hk' c o (Heap.get?_push_of_some _ e)
open PySem.W in
theorem call_min_twoH {a b : Value} {Q : Value → Shared → Prop} (hh : A.handled = none) (bt : Nat → Nat → Bool)
    (hc : CmpIn prog w A.in1 .Lt s.heap (fun i v => #[a, b][i]? = some v) bt)
    (h : ∀ h' tk, (∀ c o, s.heap.get? c = some o → h'.get? c = some o) → Q (if bt 1 0 = true then b else a) { s with heap := h', toks := tk }) :
    wpAny (model prog w) A (call (.builtin "min") [a, b]) Q E s := by
  have hname : (toString "min" ++ toString ".loop" : String) = "min.loop" := by decide
  refine call_function_tree F.kind_min F.plain_min F.entry_min (F.args_min2 _ _) ?_
  show wpAny _ A.in1 (Builtin.Builtins.bindParams "min" ["key", "default"] 0 ⟨[], []⟩ >>= _) _ _ s
  refine wpAny_bind (wpAny_of_eq (show Builtin.Builtins.bindParams "min" ["key", "default"] 0 ⟨[], []⟩ = pure [none, none] from rfl) ?_)
  show wpAny _ A.in1 (newTuple [a, b] >>= _) _ _ s
  refine wpAny_bind (wpAny_newObj_type ?_)
  have hT : (s.heap.push { cls := .type "tuple", data := .seq #[a, b] }).IsTuple s.heap.objs.size #[a, b] := ⟨_, Heap.get?_push_size _ rfl, rfl, 0, rfl⟩
  refine wpAny_bind (iter_tupleW (s := { s with heap := s.heap.push { cls := .type "tuple", data := .seq #[a, b] } }) (by exact hh) hT fun s₂ e W st hfp hwr hold => ?_)
  refine wpAny_bind (wpAny_newObj_type ?_)
  have hSf : s₂.heap.objs.size ∉ _ := fun hm => Nat.lt_irrefl _ (hfp _ hm)
  rw [hname]
  have k0 : ∀ c o, s.heap.get? c = some o → s₂.heap.get? c = some o := fun c o e => hold c o (Heap.get?_push_of_some _ e)
  refine wpAny_pure ⟨plainId_quiet F.plain_min_loop _, codeAny_min_loop_firstH W s.heap (fun c o e => hwr c o (Heap.get?_push_of_some _ e)) bt hc s₂.heap.objs.size hSf (fresh_in k0) [] (show 0 < 2 by decide) (fun c o e => Heap.get?_push_of_some _ (k0 c o e)) (W.frame _ _ _ _ st (Nat.le_refl _) fun c _ o e => Heap.get?_push_of_some _ e) (Heap.get?_push_size _ rfl) fun v s' hP hm => ?_⟩
  have m := Moved.drop_new (tk := s₂.toks) hm (Nat.le_refl _)
  obtain ⟨h', tk, e', hk'⟩ := moved_old e rfl m
  subst e'
  have hv : v = if bt 1 0 = true then b else a := by
    have hP' : #[a, b][argBest bt 1]? = some v := hP
    have e1 : argBest bt 1 = if bt 1 0 = true then 1 else 0 := rfl
    rw [e1] at hP'
    by_cases z : bt 1 0 = true
    · rw [if_pos z] at hP' ⊢; simpa using hP'.symm
    · rw [if_neg z] at hP' ⊢; simpa using hP'.symm
  rw [hv]
  exact h h' tk fun c o e => hk' c o (Heap.get?_push_of_some _ e)
end
theorem lexAt_lt {a b c d : Int} : Ob.lexAt (fun j => decide ([a, b].getD j 0 = [c, d].getD j 0)) (fun j => decide ([a, b].getD j 0 < [c, d].getD j 0)) (decide (2 < 2)) 0 (min 2 2) = ltP ⟨a, b⟩ ⟨c, d⟩ := by
  show Ob.lexAt _ _ _ 0 2 = _
  rw [Ob.lexAt_succ, Ob.lexAt_succ, Ob.lexAt_zero]
  unfold ltP
  simp only [List.getD_eq_getElem?_getD, List.getElem?_cons_zero, List.getElem?_cons_succ, Option.getD_some, decide_eq_true_eq]
  rcases Int.lt_trichotomy a c with z | z | z
  · have z1 : ¬ a = c := by omega
    simp [z, z1]
  · subst z
    by_cases y : b = d
    · subst y; simp
    · simp [y]
  · have z1 : ¬ a = c := by omega
    have z3 : ¬ a < c := by omega
    simp [z1, z3]
theorem lexAt_gt {a b c d : Int} : Ob.lexAt (fun j => decide ([a, b].getD j 0 = [c, d].getD j 0)) (fun j => decide ([c, d].getD j 0 < [a, b].getD j 0)) (decide (2 < 2)) 0 (min 2 2) = ltP ⟨c, d⟩ ⟨a, b⟩ := by
  show Ob.lexAt _ _ _ 0 2 = _
  rw [Ob.lexAt_succ, Ob.lexAt_succ, Ob.lexAt_zero]
  unfold ltP
  simp only [List.getD_eq_getElem?_getD, List.getElem?_cons_zero, List.getElem?_cons_succ, Option.getD_some, decide_eq_true_eq]
  rcases Int.lt_trichotomy c a with z | z | z
  · have z1 : ¬ a = c := by omega
    have z2 : ¬ c = a := by omega
    simp [z, z1]
  · subst z
    by_cases y : b = d
    · subst y; simp
    · have : ¬ d = b := fun e => y e.symm
      simp [y]
  · have z1 : ¬ a = c := by omega
    have z2 : ¬ c = a := by omega
    have z3 : ¬ c < a := by omega
    simp [z1, z2, z3]
section
variable {Xc : Cx}
open PySem.W in
theorem cmp_pair {A : Around} {s : Shared} {l1 l2 : Addr} {i1 i2 : List Value} {p q : T2 Int Int} (hu : A.units < cLine) (h1 : s.heap.IsTuple l1 i1.toArray) (h2 : s.heap.IsTuple l2 i2.toArray) (n1 : IntsAre i1 [p.a, p.b]) (n2 : IntsAre i2 [q.a, q.b]) :
    Ob.RcOp .Lt A s (.ref l1) (.ref l2) (ltP p q) ∧ Ob.RcOp .Gt A s (.ref l1) (.ref l2) (ltP q p) := by
  have at1 : ∀ j (h1 : j < i1.toArray.size), ∃ t, i1.toArray[j] = .int ([p.a, p.b].getD j 0) t := fun j h1 => PyProof.Rows.IntsAre.int_at n1 _ _ (by simp at h1; simp [h1])
  have at2 : ∀ j (h1 : j < i2.toArray.size), ∃ t, i2.toArray[j] = .int ([q.a, q.b].getD j 0) t := fun j h1 => PyProof.Rows.IntsAre.int_at n2 _ _ (by simp at h1; simp [h1])
  have e1 : i1.toArray.size = 2 := by rw [List.size_toArray]; exact n1.length
  have e2 : i2.toArray.size = 2 := by rw [List.size_toArray]; exact n2.length
  have he : ∀ j (h1 : j < i1.toArray.size) (h2 : j < i2.toArray.size), SeqAt.EqAt A.in1 s i1.toArray[j] i2.toArray[j] (decide ([p.a, p.b].getD j 0 = [q.a, q.b].getD j 0)) := fun j h1 h2 => by
    obtain ⟨t, et⟩ := at1 j h1
    obtain ⟨t', et'⟩ := at2 j h2
    rw [et, et']
    have z : ([p.a, p.b].getD j 0 == [q.a, q.b].getD j 0) = decide ([p.a, p.b].getD j 0 = [q.a, q.b].getD j 0) := by
      by_cases y : [p.a, p.b].getD j 0 = [q.a, q.b].getD j 0
      · rw [decide_eq_true y]; exact beq_iff_eq.mpr y
      · rw [decide_eq_false y]; exact beq_eq_false_iff_ne.mpr y
    rw [← z]
    exact SeqAt.EqAt.int_int _ _ _ _
  have R1 := Ob.RcOp.tuples_lt (r := fun j => decide ([p.a, p.b].getD j 0 < [q.a, q.b].getD j 0)) h1 h2 hu he fun j h1 h2 _ => by
    obtain ⟨t, et⟩ := at1 j h1
    obtain ⟨t', et'⟩ := at2 j h2
    rw [et, et']
    exact Ob.RcOp.lt_int _ _ _ _
  have R2 := Ob.RcOp.tuples_gt (r := fun j => decide ([q.a, q.b].getD j 0 < [p.a, p.b].getD j 0)) h1 h2 hu he fun j h1 h2 _ => by
    obtain ⟨t, et⟩ := at1 j h1
    obtain ⟨t', et'⟩ := at2 j h2
    rw [et, et']
    exact Ob.RcOp.gt_int _ _ _ _
  rw [e1, e2] at R1 R2
  rw [lexAt_lt] at R1
  rw [show decide (2 > 2) = decide (2 < 2) from rfl, lexAt_gt] at R2
  exact ⟨R1, R2⟩
def rMaxP (K : PySem.W.Frag) : List V → Hp → VK → Prop := fun xs H Q => ∃ (a b : Addr) (p q : T2 Int Int), xs = [.ref a, .ref b] ∧ SqT K H a [.int p.a, .int p.b] ∧ SqT K H b [.int q.a, .int q.b] ∧ Q (if ltP p q = true then .ref b else .ref a) H
open PySem.W in
theorem call_maxP (hu : Xc.A.units + 64 < cLine) (hc : Xc.calm = true) : CallR Xc (.builtin "max") (rMaxP Xc.K) := by
  intro pins s σ H xs us Q I r h
  obtain ⟨a, b, p, q, rfl, ha, hb, k⟩ := h
  obtain ⟨u, w', rfl, e1, e2⟩ := vals2 r
  cases (show u = Value.ref a from e1)
  cases (show w' = Value.ref b from e2)
  obtain ⟨i1, r1, t1, _⟩ := I.tuple ha
  obtain ⟨i2, r2, t2, _⟩ := I.tuple hb
  have n1 : IntsAre i1 [p.a, p.b] := Vals.ints (ns := [p.a, p.b]) r1
  have n2 : IntsAre i2 [q.a, q.b] := Vals.ints (ns := [q.a, q.b]) r2
  have up : ∀ {s' : Shared} {l : Addr} {its : Array Value}, (∀ c o, s.heap.get? c = some o → s'.heap.get? c = some o) → s.heap.IsTuple l its → s'.heap.IsTuple l its := fun hk ⟨o, ho, hc, n, hd⟩ => ⟨o, hk _ _ ho, hc, n, hd⟩
  have hu1 : (Xc.A.in1).units < cLine := by show Xc.A.units + 1 < cLine; omega
  refine call_max_twoH (I.ok.hd hc) (fun i j => if i = j then false else if i = 1 then ltP p q else ltP q p) (fun i j vi vj s' Q E hk hi hj hq => ?_) fun h' tk k' => ⟨_, H, I.kept k', ?_, k⟩
  · have at2 : ∀ {i v}, #[Value.ref a, Value.ref b][i]? = some v → (i = 0 ∧ v = .ref a) ∨ (i = 1 ∧ v = .ref b) := fun {i v} h => by
      match i with
      | 0 => exact .inl ⟨rfl, by simpa using h.symm⟩
      | 1 => exact .inr ⟨rfl, by simpa using h.symm⟩
      | n + 2 => simp at h
    have self : ∀ (x : T2 Int Int), ltP x x = false := fun x => by simp [ltP]
    rcases at2 hi with ⟨rfl, rfl⟩ | ⟨rfl, rfl⟩ <;> rcases at2 hj with ⟨rfl, rfl⟩ | ⟨rfl, rfl⟩
    · have := (cmp_pair (s := s') hu1 (up hk t1) (up hk t1) n1 n1).2
      rw [self] at this
      exact this Xc.prog Xc.w E Q hq
    · exact (cmp_pair (s := s') hu1 (up hk t1) (up hk t2) n1 n2).2 Xc.prog Xc.w E Q hq
    · exact (cmp_pair (s := s') hu1 (up hk t2) (up hk t1) n2 n1).2 Xc.prog Xc.w E Q hq
    · have := (cmp_pair (s := s') hu1 (up hk t2) (up hk t2) n2 n2).2
      rw [self] at this
      exact this Xc.prog Xc.w E Q hq
  · show RelV _ (if ltP p q = true then Value.ref b else Value.ref a)
    split <;> rfl
theorem x_maxP {C : Cn} {X : Addr → Prop} {H : Hp} {Q : VK} {p q : T2 Int Int} {u v : V} (r : Rep C.K X H (enc p) u) (t : Rep C.K X H (enc q) v) (h : ∀ w, Rep C.K X H (enc (maxP p q)) w → Q w H) : rMaxP C.K [u, v] H Q := by
  obtain ⟨a, ea, ha⟩ := rep_it r
  obtain ⟨b, eb, hb⟩ := rep_it t
  subst ea eb
  refine ⟨a, b, p, q, rfl, ha, hb, h _ ?_⟩
  unfold maxP
  by_cases z : ltP p q = true
  · rw [if_pos z, if_pos z]; exact t
  · rw [if_neg z, if_neg z]; exact r
def rMinP (K : PySem.W.Frag) : List V → Hp → VK → Prop := fun xs H Q => ∃ (a b : Addr) (p q : T2 Int Int), xs = [.ref a, .ref b] ∧ SqT K H a [.int p.a, .int p.b] ∧ SqT K H b [.int q.a, .int q.b] ∧ Q (if ltP q p = true then .ref b else .ref a) H
open PySem.W in
theorem call_minP (hu : Xc.A.units + 64 < cLine) (hc : Xc.calm = true) : CallR Xc (.builtin "min") (rMinP Xc.K) := by
  intro pins s σ H xs us Q I r h
  obtain ⟨a, b, p, q, rfl, ha, hb, k⟩ := h
  obtain ⟨u, w', rfl, e1, e2⟩ := vals2 r
  cases (show u = Value.ref a from e1)
  cases (show w' = Value.ref b from e2)
  obtain ⟨i1, r1, t1, _⟩ := I.tuple ha
  obtain ⟨i2, r2, t2, _⟩ := I.tuple hb
  have n1 : IntsAre i1 [p.a, p.b] := Vals.ints (ns := [p.a, p.b]) r1
  have n2 : IntsAre i2 [q.a, q.b] := Vals.ints (ns := [q.a, q.b]) r2
  have up : ∀ {s' : Shared} {l : Addr} {its : Array Value}, (∀ c o, s.heap.get? c = some o → s'.heap.get? c = some o) → s.heap.IsTuple l its → s'.heap.IsTuple l its := fun hk ⟨o, ho, hc, n, hd⟩ => ⟨o, hk _ _ ho, hc, n, hd⟩
  have hu1 : (Xc.A.in1).units < cLine := by show Xc.A.units + 1 < cLine; omega
  refine call_min_twoH (I.ok.hd hc) (fun i j => if i = j then false else if i = 1 then ltP q p else ltP p q) (fun i j vi vj s' Q E hk hi hj hq => ?_) fun h' tk k' => ⟨_, H, I.kept k', ?_, k⟩
  · have at2 : ∀ {i v}, #[Value.ref a, Value.ref b][i]? = some v → (i = 0 ∧ v = .ref a) ∨ (i = 1 ∧ v = .ref b) := fun {i v} h => by
      match i with
      | 0 => exact .inl ⟨rfl, by simpa using h.symm⟩
      | 1 => exact .inr ⟨rfl, by simpa using h.symm⟩
      | n + 2 => simp at h
    have self : ∀ (x : T2 Int Int), ltP x x = false := fun x => by simp [ltP]
    rcases at2 hi with ⟨rfl, rfl⟩ | ⟨rfl, rfl⟩ <;> rcases at2 hj with ⟨rfl, rfl⟩ | ⟨rfl, rfl⟩
    · have := (cmp_pair (s := s') hu1 (up hk t1) (up hk t1) n1 n1).1
      rw [self] at this
      exact this Xc.prog Xc.w E Q hq
    · exact (cmp_pair (s := s') hu1 (up hk t1) (up hk t2) n1 n2).1 Xc.prog Xc.w E Q hq
    · exact (cmp_pair (s := s') hu1 (up hk t2) (up hk t1) n2 n1).1 Xc.prog Xc.w E Q hq
    · have := (cmp_pair (s := s') hu1 (up hk t2) (up hk t2) n2 n2).1
      rw [self] at this
      exact this Xc.prog Xc.w E Q hq
  · show RelV _ (if ltP q p = true then Value.ref b else Value.ref a)
    split <;> rfl
theorem x_minP {C : Cn} {X : Addr → Prop} {H : Hp} {Q : VK} {p q : T2 Int Int} {u v : V} (r : Rep C.K X H (enc p) u) (t : Rep C.K X H (enc q) v) (h : ∀ w, Rep C.K X H (enc (minP p q)) w → Q w H) : rMinP C.K [u, v] H Q := by
  obtain ⟨a, ea, ha⟩ := rep_it r
  obtain ⟨b, eb, hb⟩ := rep_it t
  subst ea eb
  refine ⟨a, b, p, q, rfl, ha, hb, h _ ?_⟩
  unfold minP
  by_cases z : ltP q p = true
  · rw [if_pos z, if_pos z]; exact t
  · rw [if_neg z, if_neg z]; exact r
/-! ### is of bools -/
def rIsBX : R2 := fun x y H Q => ∃ a b : Bool, x = .bl a ∧ y = .bl b ∧ Q (.bl (decide (a = b))) H
def rNotBX : R2 := fun x y H Q => ∃ a b : Bool, x = .bl a ∧ y = .bl b ∧ Q (.bl (!decide (a = b))) H
theorem op_isBX : OpR Xc (compareOp .Is) rIsBX := op_isBl
theorem op_notBX : OpR Xc (compareOp .IsNot) rNotBX := op_notBl
theorem x_isBX {H : Hp} {Q : VK} {a b : Bool} (h : Q (.bl (decide (a = b))) H) : rIsBX (.bl a) (.bl b) H Q := ⟨a, b, rfl, rfl, h⟩
theorem x_notBX {H : Hp} {Q : VK} {a b : Bool} (h : Q (.bl (!decide (a = b))) H) : rNotBX (.bl a) (.bl b) H Q := ⟨a, b, rfl, rfl, h⟩
end
theorem pi_listK {K : PySem.W.Frag} {X : Cx} {tg l : Expr} {tl : TE} (hK : X.K = K) (hl : PE X l tl) : PI X tg l (iList K tl) := by subst hK; exact pi_list hl
theorem pi_tupK {K : PySem.W.Frag} {X : Cx} {tg l : Expr} {tl : TE} (hK : X.K = K) (hl : PE X l tl) : PI X tg l (iTup K tl) := by subst hK; exact pi_tup hl
theorem lookup_relabel_fc {env : Env} : ∀ {names : List (Str × NameKind)} {x : Str}, names.lookup x = some .cell ∨ names.lookup x = some .free →
    (names.map fun (n, k) => if (k == NameKind.free && env.scope.kind == .function && env.kindOf n == some .cell) then (n, NameKind.cell) else (n, k)).lookup x = some .cell ∨ (names.map fun (n, k) => if (k == NameKind.free && env.scope.kind == .function && env.kindOf n == some .cell) then (n, NameKind.cell) else (n, k)).lookup x = some .free
  | [], _, h => by simp at h
  | (n, k) :: r, x, h => by
    have ih := @lookup_relabel_fc env r x
    show List.lookup x ((if (k == NameKind.free && env.scope.kind == .function && env.kindOf n == some .cell) = true then (n, NameKind.cell) else (n, k)) :: _) = _ ∨ List.lookup x ((if (k == NameKind.free && env.scope.kind == .function && env.kindOf n == some .cell) = true then (n, NameKind.cell) else (n, k)) :: _) = _
    cases hx : x == n with
    | true =>
      simp only [List.lookup_cons, hx] at h
      by_cases hc : (k == NameKind.free && env.scope.kind == .function && env.kindOf n == some .cell) = true
      · rw [if_pos hc]; left; simp [List.lookup_cons, hx]
      · rw [if_neg hc]; simp only [List.lookup_cons, hx]; exact h
    | false =>
      simp only [List.lookup_cons, hx] at h
      by_cases hc : (k == NameKind.free && env.scope.kind == .function && env.kindOf n == some .cell) = true
      · rw [if_pos hc]; simp only [List.lookup_cons, hx]; exact ih h
      · rw [if_neg hc]; simp only [List.lookup_cons, hx]; exact ih h
theorem blkOk_in {N : List Str} {scope0 scope : Scope} {own : List (Str × Nat)} {cl : List (Str × Addr)} {C : Addr} {env : Env} (h : blkC N scope0 scope own = true) : BlkOk N (compEnvC scope0 cl C env).scope scope own := by
  have b := blkOk_by h
  exact ⟨b.kind, b.uniq, b.ix, fun y hy e => lookup_relabel_fc (b.free y hy e), b.own⟩
/-! ### chains of two comparisons -/
section
variable {C : Cn} {X : Addr → Prop} {H : Hp} {σ : L2.St} {Γ Γ' : List Sl} {Q : VK} {α β ρ : Type}
def KCh (tc : TE) (r' : R2) (σ : L2.St) (y : V) (Q : VK) : VK := fun z H3 => ∃ k, z = .bl k ∧ (if k = true then tc σ H3 fun w' H4 => r' y w' H4 Q else Q (.bl false) H3)
theorem x_chain {r r' : R2} {ta tb tc : TE} (h : ta σ H fun x H1 => tb σ H1 fun y H2 => r x y H2 (KCh tc r' σ y Q)) : tChain r r' ta tb tc σ H Q := h
theorem x_chP {A B : Bool} {tc : TE} {r' : R2} {y : V} (hu : ∀ Q' : VK, Q' (.bl B) H → tc σ H fun w H4 => r' y w H4 Q') (h : Q (.bl (A && B)) H) : KCh tc r' σ y Q (.bl A) H := by
  refine ⟨A, rfl, ?_⟩
  cases A with
  | true => exact hu Q h
  | false => exact h
/-! ### xs.reverse() -/
theorem x_reverse [Py α] {xs : List α} {i : Nat} {p : Addr} (L : Lo C X H σ Γ) (g : Γ[i]? = some (.mu p (ml xs))) (e : Γ.set i (.mu p (ml xs.reverse)) = Γ')
    (h : ∀ H1, Lo C X H1 σ Γ' → (∀ d u, Rep C.K X H d u → Rep C.K X H1 d u) → Q .non H1) : rReverse (.ref p) [] H Q := by
  subst e
  obtain ⟨vs, hs, rs⟩ := L.mrep g
  obtain ⟨L1, le⟩ := L.write (es := xs.reverse.map enc) (ws := vs.reverse) g hs (by rw [List.map_reverse]; exact rs.reverse)
  exact ⟨p, vs, rfl, rfl, hs, h _ L1 le⟩
/-! ### a list of the body's own is lent to a call that keeps nothing of it -/
abbrev X0 : Addr → Prop := fun _ => False
theorem Rep.x0 {K : PySem.W.Frag} {d : PyData} {v : V} (r : Rep K X H d v) : Rep K X0 H d v := r.anti fun _ h => h.elim
theorem SqX.x0 {K : PySem.W.Frag} {ns : List Int} {v : V} (r : SqX K X H ns v) : SqX K X0 H ns v := r.anti fun _ h => h.elim
theorem Lo.lend (L : Lo C X H σ Γ) {i : Nat} {p : Addr} {ds : List PyData} (e : Γ[i]? = some (.mu p (.lst ds))) : Rep C.K X0 H (.list ds) (.ref p) := by
  obtain ⟨vs, h1, h2⟩ := L.mrep e
  exact .lst (fun h => h) (.inl h1) (h2.anti fun _ h => h.elim)
theorem Lo.condL (L : Lo C X H σ Γ) {Γa : List Sl} {vs : List V} (as : As C.K X0 H Γa vs) (e : muts Γa = []) : Cond C.K X0 H Γa vs := ⟨as, nd0 e, (by rw [e]; intro _ h; cases h), fun _ h => h.elim⟩
/-- data without a list in it -/
class Flat (α : Type) [Py α] : Prop where
  up : ∀ {K : PySem.W.Frag} {X Y : Addr → Prop} {H : Hp} {x : α} {v : V}, Rep K X H (enc x) v → Rep K Y H (enc x) v
instance : Flat Int := ⟨fun r => by cases r; exact .int _⟩
instance : Flat Bool := ⟨fun r => by cases r; exact .bl _⟩
instance : Flat Str := ⟨fun r => by cases r; exact .str _⟩
instance {α β : Type} [Py α] [Py β] [Flat α] [Flat β] : Flat (T2 α β) := ⟨fun r => by
  cases r with | tup h q =>
    cases q with | cons a q => cases q with | cons b q => cases q; exact .tup h (.cons (Flat.up a) (.cons (Flat.up b) .nil))⟩
instance {α β γ : Type} [Py α] [Py β] [Py γ] [Flat α] [Flat β] [Flat γ] : Flat (T3 α β γ) := ⟨fun r => by
  cases r with | tup h q =>
    cases q with | cons a q => cases q with | cons b q => cases q with | cons c q => cases q; exact .tup h (.cons (Flat.up a) (.cons (Flat.up b) (.cons (Flat.up c) .nil)))⟩
theorem k0L {v : V} {H' : Hp} {rs : Rs} {ps : List (Addr × MO)} {G : Prop} (L : Lo C X H σ Γ) (F : Fin C.K X0 H [] ps rs v H') (h : Lo C X H' σ Γ → (∀ d u, Rep C.K X H d u → Rep C.K X H' d u) → G) : G := by
  have s : Same H H' := fun a o e => F.base a o e (by simp)
  exact h (L.same s) fun _ _ r => r.keep (.same s)
theorem k0Ld [Py α] [Flat α] {v : V} {H' : Hp} {x : α} {ps : List (Addr × MO)} {G : Prop} (L : Lo C X H σ Γ) (F : Fin C.K X0 H [] ps (.imm (enc x)) v H') (h : Lo C X H' σ Γ → (∀ d u, Rep C.K X H d u → Rep C.K X H' d u) → Rep C.K X H' (enc x) v → G) : G := by
  have s : Same H H' := fun a o e => F.base a o e (by simp)
  exact h (L.same s) (fun _ _ r => r.keep (.same s)) (Flat.up (show Rep C.K X0 H' (enc x) v from F.res))
end
/-! ### for x in [p, q, ..]: x.clear(), of lists of the body's own; a list parted -/
section
variable {C : Cn} {X : Addr → Prop} {H : Hp} {σ : L2.St} {Γ Γ' : List Sl} {Q : VK} {α : Type}
theorem x_clear {i : Nat} {p : Addr} {ds : List PyData} (L : Lo C X H σ Γ) (g : Γ[i]? = some (.mu p (.lst ds))) (e : Γ.set i (.mu p (.lst [])) = Γ')
    (h : ∀ H1, Lo C X H1 σ Γ' → (∀ d u, Rep C.K X H d u → Rep C.K X H1 d u) → Q .non H1) : rClear (.ref p) [] H Q := by
  subst e
  obtain ⟨vs, hs, rs⟩ := L.mrep g
  obtain ⟨L1, le⟩ := L.write (es := []) (ws := []) g hs .nil
  exact ⟨p, vs, rfl, rfl, hs, h _ L1 le⟩
theorem x_clr1 {i j : Nat} {p : Addr} {ds : List PyData} {N bk ct : L2.St → Hp → Prop} {rt : VK} (L : Lo C X H σ Γ) (hj : j < C.n) (g : Γ[i]? = some (.mu p (.lst ds))) (gj : Γ[j]? = some .unk) (e : Γ.set i (.mu p (.lst [])) = Γ')
    (h : ∀ σ' H', Lo C X H' σ' Γ' → N σ' H') : gName j (.ref p) σ H fun σ2 H2 => tDrop (tBM0 C.K "list" rClear (tVar j)) ⟨N, rt, bk, ct⟩ σ2 H2 := by
  have L1 : Lo C X H (σ.set j (some (.ref p))) Γ := by
    have := L.setS (i := j) (v := some (.ref p)) (s := .unk) rfl trivial hj
    rwa [show Γ.set j .unk = Γ from List.ext_getElem? fun k => by
      rw [List.getElem?_set]
      split
      · next z =>
        subst z
        have := (List.getElem?_eq_some_iff.mp gj).1
        rw [if_pos this, gj]
      · rfl] at this
  show tDrop (tBM0 C.K "list" rClear (tVar j)) ⟨N, rt, bk, ct⟩ (σ.set j (some (.ref p))) H
  refine x_drop (x_bm0 ?_)
  refine ⟨.ref p, ?_, ?_⟩
  · have hl : j < σ.length := by rw [L.len]; exact hj
    rw [List.getElem?_set_self hl]
  · exact x_tyM L1 g (x_clear L1 g e fun H1 L2 _ => h _ _ L2)
theorem x_refs {ps : List Addr} {G : Nat → List Sl} {g : TG} {tb : TS} {nx bk ct : L2.St → Hp → Prop} {rt : VK} (L : Lo C X H σ (G 0)) (hl : ps.length ≤ 16777216) (hG : ∀ k, k < ps.length → muts (G (k + 1)) = muts (G k))
    (body : ∀ k p, ps[k]? = some p → ∀ (H : Hp) (σ : L2.St) (N : L2.St → Hp → Prop), Lo ⟨C.K, X, H, muts (G k), C.n⟩ X H σ (G k) → (∀ X' σ' H', Lo ⟨C.K, X, H, muts (G k), C.n⟩ X' H' σ' (G (k + 1)) → N σ' H') → g (.ref p) σ H fun σ2 H2 => tb ⟨N, rt, nx, N⟩ σ2 H2)
    (done : ∀ σ' H', Lo C X H' σ' (G ps.length) → nx σ' H') : KLst (KForL C.K g tb ⟨nx, rt, bk, ct⟩ σ) (ps.map V.ref) H := by
  refine ⟨by rw [line_eq, List.length_map]; exact hl, fun a ha => ?_⟩
  have s : Same H (upd H a (.lst (ps.map V.ref))) := same_upd ha
  have na : ¬ X a := fun h => L.xd a h ha
  refine ⟨a, rfl, ⟨_, .inl (.inl upd_same)⟩, for_list (K := C.K) (a := a) (xs := ps.map V.ref) (fun i σ' H' => i ≤ ps.length ∧ Lo C X H' σ' (G i) ∧ Rd H' a (.lst (ps.map V.ref))) ⟨Nat.zero_le _, L.same s, .inl upd_same⟩ (fun i σ' H' _ h => .inl h.2.2) ?_ ?_⟩
  · rintro i y σ' H' hy ⟨hi, L', rd⟩
    rw [List.getElem?_map] at hy
    cases hp : ps[i]? with
    | none => rw [hp] at hy; cases hy
    | some p =>
      rw [hp] at hy
      cases hy
      have hk := (List.getElem?_eq_some_iff.mp hp).1
      refine body i p hp H' σ' _ L'.enter fun X' σ'' H'' L'' => ?_
      exact ⟨hk, L'.leave L'' (hG i hk), (L'.keep L'').rd na rd⟩
  · rintro σ' H' ⟨_, L', _⟩
    rw [List.length_map] at L'
    exact done _ _ L'
def un2 {α : Type} : List α → Option (T2 α α)
  | [a, b] => some ⟨a, b⟩
  | _ => none
def un3 {α : Type} : List α → Option (T3 α α α)
  | [a, b, c] => some ⟨a, b, c⟩
  | _ => none
def un4 {α : Type} : List α → Option (T4 α α α α)
  | [a, b, c, d] => some ⟨a, b, c, d⟩
  | _ => none
theorem un2_eq {xs : List α} {q : T2 α α} (h : un2 xs = some q) : xs = [q.a, q.b] := by
  unfold un2 at h
  split at h
  · cases h; rfl
  · cases h
theorem un3_eq {xs : List α} {q : T3 α α α} (h : un3 xs = some q) : xs = [q.a, q.b, q.c] := by
  unfold un3 at h
  split at h
  · cases h; rfl
  · cases h
theorem un4_eq {xs : List α} {q : T4 α α α α} (h : un4 xs = some q) : xs = [q.a, q.b, q.c, q.d] := by
  unfold un4 at h
  split at h
  · cases h; rfl
  · cases h
theorem x_gLst [Py α] {xs ys : List α} {v : V} {n : Nat} {t : TGs} {N : L2.St → Hp → Prop} (r : Rep C.K X H (enc xs) v) (e : xs = ys) (hl : ys.length = n) (h : ∀ vs, Reps C.K X H (ys.map enc) vs → t vs σ H N) : gLst C.K n t v σ H N := by
  subst e
  obtain ⟨a, vs, e, _, rd, q⟩ := rep_lst (ds := xs.map enc) r
  exact ⟨a, vs, e, .inl rd, by rw [q.length, List.length_map]; exact hl, h vs q⟩
end
theorem b2_small (c : Bool) : -(2 ^ 64) < b2 c ∧ b2 c < 2 ^ 64 := by cases c <;> decide
/-! ### data of new lists alone: told lists may be cleared -/
section
variable {C : Cn} {X : Addr → Prop} {H : Hp} {σ : L2.St} {Γ Γ' : List Sl} {Q : VK} {α β τ : Type}
theorem Lo.resl {s s' : Sl} (L : Lo C X H σ Γ) {i : Nat} (g : Γ[i]? = some s) (e : s'.ad = s.ad) (h : ∀ v, SlOk C.K X H v s → SlOk C.K X H v s') : Lo C X H σ (Γ.set i s') := by
  have hil : i < Γ.length := (List.getElem?_eq_some_iff.mp g).1
  have hm : muts (Γ.set i s') = muts Γ := by
    clear L h
    induction Γ generalizing i with
    | nil => simp at hil
    | cons t Γ ih => cases i with
      | zero =>
        simp at g; subst g
        show List.filterMap _ _ = List.filterMap _ _
        rw [List.set_cons_zero, List.filterMap_cons, List.filterMap_cons, e]
      | succ i =>
        have := ih (i := i) (by simpa using g) (by simpa using hil)
        unfold muts at this ⊢
        rw [List.set_cons_succ, List.filterMap_cons, List.filterMap_cons, this]
  refine ⟨L.len, fun j t hj => ?_, by rw [hm]; exact L.nd, fun p hp => L.mx p (hm ▸ hp), L.m0, L.xd, L.base, L.dom, fun p hp => L.own p (hm ▸ hp), L.tf⟩
  by_cases z : j = i
  · subst z
    rw [List.getElem?_set_self hil] at hj
    cases hj
    exact h _ (L.at_ j s g)
  · rw [List.getElem?_set_ne (Ne.symm z)] at hj
    exact L.at_ j t hj
mutual
theorem Rep.old {K : PySem.W.Frag} {Z : Addr → Prop} (hz : ∀ a, ¬ Z a → H a = none) : ∀ {d : PyData} {v : V}, Rep K X H d v → Rep K (fun b => X b ∨ ¬ Z b) H d v
  | _, _, .non => .non
  | _, _, .bl b => .bl b
  | _, _, .int i => .int i
  | _, _, .str x => .str x
  | _, _, .tup q r => .tup q (Reps.old hz r)
  | _, _, .lst n q r => .lst (fun z => z.elim n fun y => rd_nn q (hz _ y)) q (Reps.old hz r)
theorem Reps.old {K : PySem.W.Frag} {Z : Addr → Prop} (hz : ∀ a, ¬ Z a → H a = none) : ∀ {d : List PyData} {v : List V}, Reps K X H d v → Reps K (fun b => X b ∨ ¬ Z b) H d v
  | _, _, .nil => .nil
  | _, _, .cons r t => .cons (Rep.old hz r) (Reps.old hz t)
end
/-- the lists of now and those still to come -/
theorem Lo.mark (L : Lo C X H σ Γ) : ∃ Z : Addr → Prop, (∀ a, Z a ↔ H a = none) ∧ ∀ a, Z a → C.H0 a = none := by
  refine ⟨fun a => H a = none, fun _ => Iff.rfl, fun a h => ?_⟩
  cases e : C.H0 a with
  | none => rfl
  | some o => exact (L.dom a (by rw [e]; exact fun z => nomatch z) h).elim
theorem Lo.fix {Z : Addr → Prop} (L : Lo C X H σ Γ) (hz : ∀ a, Z a ↔ H a = none) {i : Nat} {d : PyData} (g : Γ[i]? = some (.imm d)) : Lo C X H σ (Γ.set i (.fix (fun b => ¬ Z b) d)) :=
  L.resl g rfl fun v ⟨u, e, r⟩ => ⟨u, e, r.old fun a y => (hz a).mp (Classical.not_not.mp y)⟩
theorem Lo.unfix {Z : Addr → Prop} (L : Lo C X H σ Γ) {i : Nat} {d : PyData} (g : Γ[i]? = some (.fix Z d)) : Lo C X H σ (Γ.set i (.imm d)) :=
  L.resl g rfl fun v ⟨u, e, r⟩ => ⟨u, e, r.anti fun _ => .inl⟩
theorem Lo.unZ {Z : Addr → Prop} {p : Addr} {ds : List PyData} (L : Lo C X H σ Γ) {i : Nat} (g : Γ[i]? = some (.mu p (.lstZ Z ds))) : Lo C X H σ (Γ.set i (.mu p (.lst ds))) :=
  L.resl g rfl fun v ⟨e, vs, h, r⟩ => ⟨e, vs, h, r.anti fun _ => .inl⟩
theorem x_vfx {i : Nat} {d : PyData} {Z : Addr → Prop} (L : Lo C X H σ Γ) (e : Γ[i]? = some (.fix Z d)) (h : ∀ v, Rep C.K X H d v → Q v H) : tVar i σ H Q := by
  obtain ⟨u, e1, r⟩ := L.at_ i _ e
  exact ⟨u, e1, h u (r.anti fun _ => .inl)⟩
/-- a slot that does not mind when a new list is written -/
def OldS (Z : Addr → Prop) : Sl → Prop
  | .unk => True
  | .ref _ => True
  | .scr _ => False
  | .imm d => ∀ (K : PySem.W.Frag) (X : Addr → Prop) (H : Hp) (u : V), Rep K X H d u → Rep K (fun _ => True) H d u
  | .fix Z' _ => ∀ a, Z' a → ¬ Z a
  | .mu _ (.lst ds) => ∀ (K : PySem.W.Frag) (X : Addr → Prop) (H : Hp) (us : List V), Reps K X H ds us → Reps K (fun _ => True) H ds us
  | .mu _ .any => True
  | _ => False
theorem OldS.dat [Py α] [Flat α] {Z : Addr → Prop} {x : α} : OldS Z (.imm (enc x)) := fun _ _ _ _ r => Flat.up r
theorem OldS.I {Z : Addr → Prop} {x : Int} : OldS Z (.imm (.int x)) := OldS.dat (x := x)
theorem OldS.B {Z : Addr → Prop} {x : Bool} : OldS Z (.imm (.bool x)) := OldS.dat (x := x)
theorem OldS.S {Z : Addr → Prop} {x : Str} : OldS Z (.imm (.str x)) := OldS.dat (x := x)
theorem Reps.flat [Py α] [Flat α] {K : PySem.W.Frag} {Y : Addr → Prop} : ∀ {xs : List α} {us : List V}, Reps K X H (xs.map enc) us → Reps K Y H (xs.map enc) us
  | [], _, .nil => .nil
  | _ :: _, _, .cons r t => .cons (Flat.up r) (Reps.flat t)
theorem OldS.lst [Py α] [Flat α] {Z : Addr → Prop} {p : Addr} {xs : List α} : OldS Z (.mu p (.lst (xs.map enc))) := fun _ _ _ _ r => r.flat
theorem keepAll {b : Addr} {us : List V} {o : HO} (h : H b = some (.lst us)) : Keep (fun a => a = b) H (upd H b o) :=
  ⟨fun a u e n => by rw [upd_ne n]; exact e, fun a vs e => by rw [upd_ne (fun z => by rw [z, h] at e; cases e)]; exact e, fun a u w e => by rw [upd_ne (fun z => by rw [z, h] at e; cases e)]; exact e⟩
theorem Lo.clrZ {Z : Addr → Prop} {b : Addr} {us : List V} (L : Lo C X H σ Γ) (h0 : C.H0 b = none) (nb : ¬ X b) (zb : Z b) (h : H b = some (.lst us)) (old : ∀ s ∈ Γ, OldS Z s) : Lo C X (upd H b (.lst [])) σ Γ := by
  have k := keepAll (o := .lst []) h
  have hd : ∀ a, H a ≠ none → upd H b (.lst []) a ≠ none := fun a e => by
    by_cases z : a = b
    · rw [z, upd_same]; exact fun y => nomatch y
    · rw [upd_ne z]; exact e
  refine ⟨L.len, fun i s hi => ?_, L.nd, L.mx, L.m0, fun a z => hd a (L.xd a z), fun a u e n => ?_, fun a e => hd a (L.dom a e), L.own, L.tf⟩
  · have hs := L.at_ i s hi
    have ho := old s (List.mem_of_getElem? hi)
    have hx : ∀ p, s.ad = some p → p ≠ b := fun p e z => nb (z ▸ L.mx p (mem_muts.mpr ⟨i, s, hi, e⟩))
    cases s with
    | unk => trivial
    | ref a => exact hs
    | scr ns => exact ho.elim
    | imm d =>
      obtain ⟨u, e, r⟩ := hs
      exact ⟨u, e, ((ho _ _ _ _ r).keep (k.mono fun _ _ => trivial)).anti fun _ _ => trivial⟩
    | fixN Z' d => exact ho.elim
    | lax i j => exact ho.elim
    | fix Z' d =>
      obtain ⟨u, e, r⟩ := hs
      exact ⟨u, e, r.keep (k.mono fun a z => .inr fun y => ho a y (z ▸ zb))⟩
    | mu p o =>
      obtain ⟨e, r⟩ := hs
      refine ⟨e, ?_⟩
      have hp : upd H b (.lst []) p = H p := upd_ne (hx p rfl)
      cases o with
      | lst ds =>
        obtain ⟨vs, hv, r⟩ := r
        exact ⟨vs, hp.trans hv, ((ho _ _ _ _ r).keep (k.mono fun _ _ => trivial)).anti fun _ _ => trivial⟩
      | lstZ _ _ => exact ho.elim
      | dct _ => exact ho.elim
      | ex _ => exact ho.elim
      | any =>
        obtain ⟨vs, hv⟩ := r
        exact ⟨vs, hp.trans hv⟩
    | tmp p o => exact ho.elim
  · rw [upd_ne fun z => by rw [z, h0] at e; cases e]
    exact L.base a u e n
theorem atI_zero {x : α} {xs : List α} : atI (x :: xs) 0 = some x := by
  unfold atI ixN
  simp
/-- for x in xs: x[0].clear(), of a told list of new ones -/
theorem x_dclrs [Py α] [Py β] {γ : Type} [Py γ] {zs : List (T3 (List α) β γ)} {Z : Addr → Prop} {i j : Nat} {p : Addr} {nx bk ct : L2.St → Hp → Prop} {rt : VK} (L : Lo C X H σ Γ) (hZ : ∀ a, Z a → C.H0 a = none) (hj : j < C.n)
    (g : Γ[i]? = some (.mu p (.lstZ Z (zs.map enc)))) (gj : Γ[j]? = some .unk) (old : ∀ s ∈ Γ.set i (.mu p .any), OldS Z s) (e : Γ.set i (.mu p .any) = Γ') (done : ∀ σ' H', Lo C X H' σ' Γ' → nx σ' H') :
    KForL C.K (gName j) (tDrop (tBM0 C.K "list" rClear (tOp (rIxT C.K) (tVar j) (tC (.int 0))))) ⟨nx, rt, bk, ct⟩ σ (.ref p) H := by
  subst e
  have hil : i < Γ.length := (List.getElem?_eq_some_iff.mp g).1
  have ne : i ≠ j := fun z => by subst z; rw [g] at gj; cases gj
  obtain ⟨_, vs, hv, rv⟩ := L.at_ i _ g
  have Xp : X p := L.mx p (mem_muts.mpr ⟨i, _, g, rfl⟩)
  have L1 : Lo C X H σ (Γ.set i (.mu p .any)) := L.resl g rfl fun v ⟨e, vs, h, _⟩ => ⟨e, vs, h⟩
  have gj1 : (Γ.set i (Sl.mu p .any))[j]? = some .unk := by rw [List.getElem?_set_ne ne]; exact gj
  have pieces : ∀ (zs : List (T3 (List α) β γ)) (vs : List V), Reps C.K (NewX X Z H) H (zs.map enc) vs → ∀ y ∈ vs, ∃ a b rest us, y = .ref a ∧ SqT C.K H a (.ref b :: rest) ∧ ¬ X b ∧ Z b ∧ H b = some (.lst us) := by
    intro zs
    induction zs with
    | nil => intro vs r y hy; cases r; cases hy
    | cons z zs ih =>
      intro vs r y hy
      cases r with
      | cons r t =>
        rcases List.mem_cons.mp hy with e | hy
        · subst e
          obtain ⟨a, ws, rfl, hs, q⟩ := rep_tup (ds := [enc z.a, enc z.b, enc z.c]) r
          cases q with
          | cons q1 q2 =>
            obtain ⟨b, us, rfl, nb, rd, _⟩ := rep_lst (ds := z.a.map enc) q1
            refine ⟨a, b, _, us, rfl, hs, fun h => nb (.inl h), Classical.not_not.mp fun h => nb (.inr (.inl h)), ?_⟩
            rcases rd with rd | ⟨o, rd⟩
            · exact rd
            · exact (nb (.inr (.inr ⟨_, _, rd⟩))).elim
        · exact ih _ t y hy
  refine ⟨p, rfl, ⟨vs, .inl (.inl hv)⟩, for_list (K := C.K) (a := p) (xs := vs) (fun k σ' H' => Lo C X H' σ' (Γ.set i (.mu p .any)) ∧ H' p = some (.lst vs) ∧ ∀ y ∈ vs, ∃ a b rest us, y = .ref a ∧ SqT C.K H' a (.ref b :: rest) ∧ ¬ X b ∧ Z b ∧ H' b = some (.lst us))
    ⟨L1, hv, pieces zs vs rv⟩ (fun k σ' H' _ h => .inl (.inl h.2.1)) ?_ fun σ' H' h => done _ _ h.1⟩
  rintro k y σ' H' hy ⟨L', hp, hpc⟩
  obtain ⟨a, b, rest, us, rfl, hs, nb, zb, rd⟩ := hpc y (List.mem_of_getElem? hy)
  have L2 : Lo C X H' (σ'.set j (some (.ref a))) (Γ.set i (.mu p .any)) := by
    have := L'.setS (i := j) (v := some (.ref a)) (s := .unk) rfl trivial hj
    rwa [show (Γ.set i (Sl.mu p .any)).set j .unk = Γ.set i (Sl.mu p .any) from List.ext_getElem? fun k => by
      rw [List.getElem?_set]
      split
      · next z =>
        subst z
        have := (List.getElem?_eq_some_iff.mp gj1).1
        rw [if_pos this, gj1]
      · rfl] at this
  have hl : j < σ'.length := by rw [L'.len]; exact hj
  refine x_drop (x_bm0 ?_)
  refine ⟨.ref a, by rw [List.getElem?_set_self hl], ?_⟩
  refine ⟨a, .ref b :: rest, 0, .ref b, rfl, rfl, hs, atI_zero, ?_⟩
  refine ⟨.inl ⟨rfl, us, .inl (.inl rd)⟩, ?_⟩
  refine ⟨b, us, rfl, rfl, rd, ?_⟩
  have kk := keepAll (o := .lst []) rd
  refine ⟨L2.clrZ (hZ b zb) nb zb rd old, ?_, fun y hy => ?_⟩
  · rw [upd_ne (show p ≠ b from fun z => nb (z ▸ Xp))]; exact hp
  · obtain ⟨a2, b2, rest2, us2, e2, hs2, nb2, zb2, rd2⟩ := hpc y hy
    by_cases z : b2 = b
    · exact ⟨a2, b2, rest2, [], e2, kk.sqT hs2, nb2, zb2, by rw [z, upd_same]⟩
    · exact ⟨a2, b2, rest2, us2, e2, kk.sqT hs2, nb2, zb2, by rw [upd_ne z]; exact rd2⟩
end
/-! ### a comprehension that tells new lists alone -/
section
variable {C : Cn} {X : Addr → Prop} {H H' : Hp} {σ : L2.St} {Γ Γ' : List Sl} {Q : VK} {α β τ ρ : Type}
def BodyCZ [Py β] (Z : Addr → Prop) (C : Cn) (X : Addr → Prop) (G : τ → List Sl) (d : PyData) (s : τ) (o : Option (Option β × τ)) (g : TG) (tt : TT) (te : TE) (vs : List Nat) : Prop :=
  ∀ (X : Addr → Prop) (H : Hp) (σ : L2.St) (u : V) (r : Option β × τ) (Qn : Hp → Prop) (Qy : VK), o = some r → Lo ⟨C.K, X, H, muts (G s), C.n⟩ X H σ (G s) → Rep C.K X H d u → (∀ a, ¬ Z a → H a ≠ none) →
    (r.1 = none → ∀ H', Lo ⟨C.K, X, H, muts (G s), C.n⟩ X H' σ (G r.2) → Qn H') →
    (∀ y, r.1 = some y → ∀ v H', Lo ⟨C.K, X, H, muts (G s), C.n⟩ X H' σ (G r.2) → Rep C.K (NewX X Z H') H' (enc y) v → Qy v H') →
    g u (wipe σ vs) H fun σ2 H2 => wipe σ2 vs = wipe σ vs ∧ tt σ2 H2 fun b H3 => if b = true then te σ2 H3 Qy else Qn H3
theorem x_lcL0Z {Z : Addr → Prop} [Py α] [Py β] {xs : List α} {f : α → τ → Option (Option β × τ)} {G : τ → List Sl} {s0 : τ} {q : List β × τ} {v : V} {g : TG} {tt : TT} {te : TE} {ws : List Nat}
    (L : Lo C X H σ (G s0)) (hG : ∀ s s', muts (G s) = muts (G s')) (r : Rep C.K X H (enc xs) v) (hm : compL f xs s0 = some q) (hl : xs.length ≤ 16777216)
    (hz : ∀ a, ¬ Z a → H a ≠ none) (body : ∀ x s, BodyCZ Z C X G (enc x) s (f x s) g tt te ws)
    (done : ∀ D H', H D = none → C.H0 D = none → ¬ C.X0 D → Lo C (fun a => X a ∨ a = D) H' σ (G q.2) → Keep X H H' → MRep C.K (fun a => X a ∨ a = D) H' D (.lstZ Z (q.1.map enc)) → Q (.ref D) H') :
    KLcL C.K g tt te ws σ Q v H := by
  obtain ⟨a, us, rfl, hna, hrd, hrs⟩ := rep_lst (ds := xs.map enc) r
  refine ⟨a, rfl, ⟨us, .inl hrd⟩, fun D hD => ?_⟩
  have h0 : C.H0 D = none := by
    cases e : C.H0 D with
    | none => rfl
    | some o => exact (L.dom D (by rw [e]; exact fun z => nomatch z) hD).elim
  have hDm : ∀ s, D ∉ muts (G s) := fun s h => L.xd D (L.mx D (hG s s0 ▸ h)) hD
  have sm : Same H (upd H D (.lst [])) := same_upd hD
  have lay := L.lay (p := D) (o := .lst []) hD sm ⟨[], upd_same, .nil⟩
  have L1 : Lo C (fun a => X a ∨ a = D) (upd H D (.lst [])) σ (G s0) := by
    refine ⟨L.len, fun i s hi => ?_, L.nd, fun p hp => .inl (L.mx p hp), fun a h => .inl (L.m0 a h), lay.1.xd, lay.1.base, lay.1.dom, L.own, L.tf⟩
    refine lay.1.at_ i s ?_
    rw [List.getElem?_append_left (List.getElem?_eq_some_iff.mp hi).1]
    exact hi
  have hna' : ¬ (X a ∨ a = D) := fun h => h.elim hna fun e => by
    subst e
    exact rd_nn hrd hD
  refine lc_list (K := C.K) (a := a) (xs := us) (fun i H' => ∃ s ys acc q', Lo C (fun a => X a ∨ a = D) H' σ (G s) ∧ Reps C.K (fun a => X a ∨ a = D) H' (xs.map enc) us ∧ Rd H' a (.lst us) ∧ H' D = some (.lst acc) ∧ Reps C.K (NewX (fun a => X a ∨ a = D) Z H') H' (ys.map enc) acc ∧
      compL f (xs.drop i) s = some q' ∧ q = (ys ++ q'.1, q'.2) ∧ ys.length ≤ i ∧ Keep X H H' ∧ (∀ a, H a ≠ none → H' a ≠ none))
    ⟨s0, [], [], q, L1, (hrs.more hD).keep (.same sm), Keep.rd (.same sm) hna hrd, upd_same, .nil, hm, rfl, Nat.le_refl _, .same sm, fun a h => ?_⟩ (fun i H' _ ⟨s, ys, acc, q', _, _, h, _⟩ => .inl h) ?_ ?_
  · by_cases z : a = D
    · rw [z, upd_same]; exact fun y => nomatch y
    · rw [upd_ne z]; exact h
  · rintro i y H' hy ⟨s, ys, acc, q', L', hr', hd', hacc, hys, hq', eq, hyl, hk, hdm⟩
    obtain ⟨d, hd, rd⟩ := hr'.get' hy
    rw [List.getElem?_map] at hd
    cases hx : xs[i]? with
    | none => rw [hx] at hd; cases hd
    | some x =>
      rw [hx] at hd
      cases hd
      have hil : i < xs.length := (List.getElem?_eq_some_iff.mp hx).1
      obtain ⟨r1, q1, h1, h2, h3⟩ := comp_drop hx hq'
      refine body x s _ H' σ y r1 _ _ h1 L'.enter rd (fun a z => hdm a (hz a z)) ?_ ?_
      · intro e H'' M
        have k := L'.keep M
        have kd : H'' D = some (.lst acc) := M.base D _ hacc (hDm s)
        refine ⟨r1.2, ys, acc, q1, L'.leave M (hG _ _), hr'.keep k, k.rd hna' hd', kd, hys.keepF k, h2, ?_, Nat.le_succ_of_le hyl, ?_, fun a h => M.dom a (hdm a h)⟩
        · rw [eq, h3, e]
        · refine ⟨fun b o hb n => ?_, fun b vs hb => k.2.1 b vs (hk.2.1 b vs hb), fun b o u hb => k.2.2 b o u (hk.2.2 b o u hb)⟩
          have hbD : b ≠ D := fun z => by rw [z, hD] at hb; cases hb
          exact k.1 b o (hk.1 b o hb n) fun z => z.elim n hbD
      · intro yv e v H'' M rv
        have k := L'.keep M
        have kd : H'' D = some (.lst acc) := M.base D _ hacc (hDm s)
        have L2 := L'.leave M (hG _ _)
        obtain ⟨L3, k3⟩ := L2.wroteX (p := D) (o' := .lst (acc ++ [v])) (.inr rfl) (hDm _) kd h0 (fun _ z => nomatch z) (fun _ _ z => nomatch z)
        have k4 := k.trans k3
        have hal : acc.length = ys.length := by rw [hys.length, List.length_map]
        refine ⟨acc, kd, by rw [line_eq]; omega, r1.2, ys ++ [yv], acc ++ [v], q1, L3, hr'.keep k4, k4.rd hna' hd', upd_same, ?_, h2, ?_, ?_, ?_, ?_⟩
        · rw [List.map_append]
          exact (hys.keepF k4).append (.cons (rv.keepF k3) .nil)
        · rw [eq, h3, e]
          show (ys ++ yv :: q1.1, q1.2) = (ys ++ [yv] ++ q1.1, q1.2)
          rw [List.append_assoc]; rfl
        · rw [List.length_append]; exact Nat.succ_le_succ hyl
        · refine ⟨fun b o hb n => ?_, fun b vs hb => k4.2.1 b vs (hk.2.1 b vs hb), fun b o u hb => k4.2.2 b o u (hk.2.2 b o u hb)⟩
          have hbD : b ≠ D := fun z => by rw [z, hD] at hb; cases hb
          exact k4.1 b o (hk.1 b o hb n) fun z => z.elim n hbD
        · intro a h
          by_cases z : a = D
          · rw [z, upd_same]; exact fun y => nomatch y
          · rw [upd_ne z]; exact M.dom a (hdm a h)
  · rintro H' ⟨s, ys, acc, q', L', _, _, hacc, hys, hq', eq, _, hk, hdm⟩
    rw [hrs.length, List.length_map, List.drop_length] at hq'
    cases hq'
    rw [List.append_nil] at eq
    subst eq
    exact done D H' hD h0 (fun z => L.xd D (L.m0 D z) hD) L' hk ⟨acc, hacc, hys⟩

theorem x_lcLZ [Py α] [Py β] {Z : Addr → Prop} {xs : List α} {f : α → τ → Option (Option β × τ)} {v : V} {G : τ → List Sl} {s0 : τ} {q : List β × τ} {g : TG} {tt : TT} {te : TE} {ws : List Nat} (hz : ∀ a, ¬ Z a → H a ≠ none) (L : Lo C X H σ (G s0)) (hG : ∀ s s', muts (G s) = muts (G s')) (r : Rep C.K X H (enc xs) v) (hm : compL f xs s0 = some q) (hl : xs.length ≤ 16777216)
    (body : ∀ x s, BodyCZ Z C X G (enc x) s (f x s) g tt te ws) (h : ∀ D H', Lo C X H' σ (G q.2) → (∀ d u, Rep C.K X H d u → Rep C.K X H' d u) → Rep C.K (NewX X Z H') H' (enc q.1) (.ref D) → Q (.ref D) H') : KLcL C.K g tt te ws σ Q v H :=
  x_lcL0Z L hG r hm hl hz body (fun D H' hD h0 hx M k m => by
    obtain ⟨vs, h1, h2⟩ := m
    exact h D H' (M.xanti (fun _ h => .inl h) (fun p hp => L.mx p (hG q.2 s0 ▸ hp)) L.m0) (fun _ _ q => q.keep k)
      (.lst (fun z => z.elim (fun z => L.xd D z hD) fun z => z.elim (fun z => hz D z hD) fun ⟨_, _, z⟩ => by rw [h1] at z; cases z) (.inl h1) (h2.anti fun _ z => z.imp .inl id)))
theorem x_lcLNZ [Py α] [Py β] {Z : Addr → Prop} {xs : List α} {f : α → τ → Option (Option β × τ)} {v : V} {G : τ → List Sl} {s0 : τ} {q : List β × τ} {g : TG} {tt : TT} {te : TE} {ws : List Nat} (hz : ∀ a, ¬ Z a → H a ≠ none) (L : Lo C X H σ (G s0)) (hG : ∀ s s', muts (G s) = muts (G s')) (r : Rep C.K X H (enc xs) v) (hm : compL f xs s0 = some q) (hl : xs.length ≤ 16777216)
    (body : ∀ x s, BodyCZ Z C X G (enc x) s (f x s) g tt te ws) (h : ∀ D X' H', C.H0 D = none → ¬ C.X0 D → Lo C X' H' σ (G q.2 ++ [.tmp D (.lstZ Z (q.1.map enc))]) → (∀ d u, Rep C.K X H d u → Rep C.K X' H' d u) → Q (.ref D) H') : KLcL C.K g tt te ws σ Q v H :=
  x_lcL0Z L hG r hm hl hz body (fun D H' hD h0 hx M k m => h D _ H' h0 hx (L.addT hD h0 M (hG _ _) m) fun _ _ q => (q.more hD).keep (k.mono fun _ z => .inl z))
theorem x_cyZ [Py β] {Z X' : Addr → Prop} {σ2 : L2.St} {H' : Hp} {K : PySem.W.Frag} {n : Nat} {G : τ → List Sl} {s s' : τ} {Γ2 : List Sl} {y : β} {r : Option β × τ} {v : V} {Qy : VK} (er : r = (some y, s')) (hy : ∀ y, r.1 = some y → ∀ v H', Lo ⟨K, X, H, muts (G s), n⟩ X H' σ (G r.2) → Rep K (NewX X Z H') H' (enc y) v → Qy v H')
    (L : Lo ⟨K, X, H, muts (G s), n⟩ X H σ (G s)) (M : Lo ⟨K, X, H, muts (G s), n⟩ X' H' σ2 Γ2) (b : Bk (G s) Γ2 (G s')) (q : Rep K (NewX X' Z H') H' (enc y) v) : Qy v H' := by
  subst er
  exact hy y rfl v H' (L.back M b) (q.anti fun a z => z.imp (M.m0 a) id)
theorem x_mkTZ {Y : Hp → Addr → Prop} {ds : List PyData} {vs : List V} (L : Lo C X H σ Γ) (q : Reps C.K (Y H) H ds vs) (hk : ∀ H1, Same H H1 → Reps C.K (Y H) H ds vs → Reps C.K (Y H1) H1 ds vs) (hl : vs.length ≤ 16777216) (h : ∀ v H1, Lo C X H1 σ Γ → (∀ d u, Rep C.K X H d u → Rep C.K X H1 d u) → Rep C.K (Y H1) H1 (.tuple ds) v → Q v H1) : KTup Q vs H := by
  refine ⟨by rw [line_eq]; exact hl, fun p hp => ?_⟩
  have s : Same H (upd H p (.tup vs)) := same_upd hp
  exact h _ _ (L.same s) (fun _ _ r => r.keep (.same s)) (.tup upd_same (hk _ s q))
theorem x_mkTN {Z : Addr → Prop} {ds : List PyData} {vs : List V} (L : Lo C X H σ Γ) (q : Reps C.K (NewX X Z H) H ds vs) (hl : vs.length ≤ 16777216) (h : ∀ v H1, Lo C X H1 σ Γ → (∀ d u, Rep C.K X H d u → Rep C.K X H1 d u) → Rep C.K (NewX X Z H1) H1 (.tuple ds) v → Q v H1) : KTup Q vs H :=
  x_mkTZ (Y := NewX X Z) L q (fun _ s r => r.keepF (.same s)) hl h
theorem x_cTup3 {i j l : Nat} {u : V} {d1 d2 d3 : PyData} {tt : TT} {te : TE} {Qy : VK} {Qn : Hp → Prop} (L : Lo C X H σ Γ) (r : Rep C.K X H (.tuple [d1, d2, d3]) u) (hi : i < C.n) (hj : j < C.n) (hl : l < C.n) (n1 : i ≠ j) (n2 : i ≠ l) (n3 : j ≠ l) (e : ((Γ.set i (.imm d1)).set j (.imm d2)).set l (.imm d3) = Γ') (h : ∀ σ2, Lo C X H σ2 Γ' → tt σ2 H (KCt te σ2 Qy Qn)) :
    gTup C.K 3 (gCons (gName i) (gCons (gName j) (gCons (gName l) gNil))) u (wipe σ [i, j, l]) H fun σ2 H2 => wipe σ2 [i, j, l] = wipe σ [i, j, l] ∧ tt σ2 H2 fun b H3 => if b = true then te σ2 H3 Qy else Qn H3 := by
  subst e
  obtain ⟨a, vs, rfl, hs, q⟩ := rep_tup r
  cases q with
  | @cons _ _ v1 _ r1 q => cases q with
    | @cons _ _ v2 _ r2 q => cases q with
      | @cons _ _ v3 _ r3 q => cases q with
        | nil =>
          refine ⟨a, _, rfl, hs, rfl, v1, [v2, v3], rfl, v2, [v3], rfl, v3, [], rfl, rfl, ?_⟩
          have w : ∀ (τ : L2.St), wipe τ [i, j, l] = ((τ.set l none).set j none).set i none := fun _ => rfl
          have e3 : (((wipe σ [i, j, l]).set i (some v1)).set j (some v2)).set l (some v3) = ((σ.set i (some v1)).set j (some v2)).set l (some v3) := by
            rw [w]
            apply List.ext_getElem?
            intro k
            simp only [List.getElem?_set, List.length_set]
            repeat' split
            all_goals first | rfl | omega
          refine ⟨?_, ?_⟩
          · rw [e3, w, w]
            apply List.ext_getElem?
            intro k
            simp only [List.getElem?_set, List.length_set]
            repeat' split
            all_goals first | rfl | omega
          · have q := h _ (((L.set r1 hi).set r2 hj).set r3 hl)
            rw [← e3] at q
            exact q
theorem k0NZ {Z : Addr → Prop} {p : Addr} {H' : Hp} {ds : List PyData} {ps : List (Addr × MO)} {P : Prop} (hz : ∀ a, Z a ↔ H a = none) (L : Lo C X H σ Γ) (F : Fin C.K X H [] ps (.new (.lstZ (fun a => H a = none) ds)) (.ref p) H') (h : ∀ X', C.H0 p = none → ¬ C.X0 p → Lo C X' H' σ (Γ ++ [.tmp p (.lstZ Z ds)]) → (∀ d u, Rep C.K X H d u → Rep C.K X' H' d u) → P) : P := by
  have e : Z = fun a => H a = none := funext fun a => propext (hz a)
  subst e
  exact k0N L F h
theorem k0iZ {v : V} {H' : Hp} {ds : List PyData} {ps : List (Addr × MO)} {G : Prop} {Z : Addr → Prop} (L : Lo C X H σ Γ) (F : Fin C.K X H [] ps (.new (.lstZ Z ds)) v H') (h : Lo C X H' σ Γ → (∀ d u, Rep C.K X H d u → Rep C.K X H' d u) → Rep C.K X H' (.list ds) v → G) : G :=
  k0i L ⟨F.base, F.dom, F.mu, (by
    obtain ⟨p, e, hp, vs, h1, h2⟩ := F.res
    exact ⟨p, e, hp, vs, h1, h2.anti fun _ => .inl⟩ : RRep C.K X H H' (.new (.lst ds)) v)⟩ h
/-- a list of the body's own is lent to a call that tells new lists alone -/
theorem k0LZ {v : V} {H' : Hp} {ds : List PyData} {ps : List (Addr × MO)} {G : Prop} (L : Lo C X H σ Γ) (F : Fin C.K X0 H [] ps (.new (.lstZ (fun a => H a = none) ds)) v H') (h : Lo C X H' σ Γ → (∀ d u, Rep C.K X H d u → Rep C.K X H' d u) → Rep C.K X H' (.list ds) v → G) : G := by
  have s : Same H H' := fun a o e => F.base a o e (by simp)
  obtain ⟨p, rfl, hp, vs, h1, h2⟩ := F.res
  refine h (L.same s) (fun _ _ r => r.keep (.same s)) (.lst (fun z => L.xd p z hp) (.inl h1) (h2.anti fun a z => .inr (.inl (L.xd a z))))
end

/-! ### xs[::h], h a sign -/
def tStep (K : PySem.W.Frag) (te ts : TE) : TE := fun σ H Q => te σ H fun x H1 => tPart ts σ H1 fun o H2 => ∃ a xs i, x = .ref a ∧ o = some i ∧ SqL K H2 a xs ∧ (i = 1 ∨ i = -1) ∧ ∀ p, H2 p = none → Q (.ref p) (upd H2 p (.lst (if i = 1 then xs else xs.reverse)))
theorem pe_step {X : Cx} {e f : Expr} {te ts : TE} {p3 pos : Pos} (he : PE X e te) (hf : PE X f ts) : PE X (.Subscript e (.Slice none none (some f) p3) pos) (tStep X.K te ts) := by
  refine ⟨fun pins s σ H Q I h => ?_⟩
  refine Subscript_ (thn (he.run pins s σ H _ I h) fun v s1 ⟨x, H1, I1, r1, q1⟩ => ?_)
  refine wpAny_Slice (thn (po_none.run pins s1 σ H1 (fun o H2 => o = none ∧ H2 = H1) I1 ⟨rfl, rfl⟩) fun vl s2 ⟨l, H2, I2, pl, el, e2⟩ => ?_)
  subst el e2
  refine thn (po_none.run pins s2 σ H2 (fun o H3 => o = none ∧ H3 = H2) I2 ⟨rfl, rfl⟩) fun vu s3 ⟨u, H3, I3, pu, eu, e3⟩ => ?_
  subst eu e3
  refine thn ((po_some hf).run pins s3 σ H3 (fun o H4 => ∃ a xs i, x = .ref a ∧ o = some i ∧ SqL X.K H4 a xs ∧ (i = 1 ∨ i = -1) ∧ ∀ p, H4 p = none → Q (.ref p) (upd H4 p (.lst (if i = 1 then xs else xs.reverse)))) I3 q1) fun vs s4 ⟨o, H4, I4, ps, a, xs, i, ex, eo, hx, hi, q⟩ => ?_
  subst ex eo
  cases r1
  have I5 : Inv X pins σ H4 { s4 with heap := s4.heap.push { cls := .type "slice", data := .fields #[vl, vu, vs] } } := I4.kept (t' := s4.toks) fun b ob q => Heap.get?_push_of_some _ q
  obtain ⟨its, r, ht, hz⟩ := I5.list hx
  have hlen := r.length
  show wpAny (model X.prog X.w) X.A (subscriptTail e (.Slice none none (some f) p3) (.ref a) (.ref s4.heap.objs.size)) (EP X pins σ Q) X.xe { s4 with heap := s4.heap.push { cls := .type "slice", data := .fields #[vl, vu, vs] } }
  refine tail_any (ops := [.ref a, .ref s4.heap.objs.size]) ht.isList.typeIs (PySem.slot_list_getitem.lookup) ?_ (by with_unfolding_all rfl)
  refine wpAny_getItem_list_slice ht.isList (Heap.IsSliceOf.new _ vl vu vs) pl pu ps (by rcases hi with e | e <;> subst e <;> decide) ?_ (by rw [List.size_toArray]; omega)
  rcases hi with e | e
  · subst e
    rw [show slicePick its.toArray none none (some 1) = its.toArray from slicePick_all its.toArray]
    rw [if_pos rfl] at q
    refine ⟨.ref _, _, I5.laid (t' := s4.toks) (o := .lst xs) (fun b ob q => Heap.get?_push_of_some _ q) (Nat.le_refl _) ?_, rfl, q _ (I5.hok.fresh (Nat.le_refl _))⟩
    exact ⟨hz, _, 0, r, Heap.get?_push_size _ rfl⟩
  · subst e
    rw [PySem.W.krv_pick]
    rw [if_neg (by decide)] at q
    refine ⟨.ref _, _, I5.laid (t' := s4.toks) (o := .lst xs.reverse) (fun b ob q => Heap.get?_push_of_some _ q) (Nat.le_refl _) ?_, rfl, q _ (I5.hok.fresh (Nat.le_refl _))⟩
    exact ⟨by rw [List.length_reverse]; exact hz, _, 0, r.reverse, Heap.get?_push_size _ rfl⟩
/-- .. of data: a new list -/
def stepG {α : Type} (xs : List α) (i : Int) : Option (List α) := if i = 1 then some xs else if i = -1 then some xs.reverse else none
section
variable {C : Cn} {X : Addr → Prop} {H : Hp} {σ : L2.St} {Γ Γ' : List Sl} {Q : VK} {α ρ : Type}
theorem x_step {te ts : TE} (h : te σ H fun x H1 => ts σ H1 fun y H2 => ∃ i, y = .int i ∧ (∃ a xs j, x = .ref a ∧ some i = some j ∧ SqL C.K H2 a xs ∧ (j = 1 ∨ j = -1) ∧ ∀ p, H2 p = none → Q (.ref p) (upd H2 p (.lst (if j = 1 then xs else xs.reverse))))) : tStep C.K te ts σ H Q := h
theorem x_stepL [Py α] {xs : List α} {i : Int} {v : V} {k : List α → Option ρ} {res : ρ} (L : Lo C X H σ Γ) (hm : (stepG xs i).bind k = some res) (r : Rep C.K X H (enc xs) v)
    (h : ∀ ys w H1, k ys = some res → Lo C X H1 σ Γ → (∀ d u, Rep C.K X H d u → Rep C.K X H1 d u) → Rep C.K X H1 (enc ys) w → Q w H1) :
    ∃ i', V.int i = .int i' ∧ (∃ a xs j, v = .ref a ∧ some i' = some j ∧ SqL C.K H a xs ∧ (j = 1 ∨ j = -1) ∧ ∀ p, H p = none → Q (.ref p) (upd H p (.lst (if j = 1 then xs else xs.reverse)))) := by
  obtain ⟨ys, hy, hk⟩ := ob hm
  obtain ⟨a, us, rfl, na, rd, q⟩ := rep_lst (ds := xs.map enc) r
  have hi : i = 1 ∨ i = -1 := by
    unfold stepG at hy
    split at hy
    · exact .inl (by assumption)
    · split at hy
      · exact .inr (by assumption)
      · cases hy
  refine ⟨i, rfl, a, us, i, rfl, rfl, .inl rd, hi, fun p hp => ?_⟩
  have fin : ∀ (zs : List α) (ws : List V), Reps C.K X H (zs.map enc) ws → ys = zs → Q (.ref p) (upd H p (.lst ws)) := fun zs ws rz e => by
    subst e
    have s : Same H (upd H p (.lst ws)) := same_upd hp
    have rr : RRep C.K X H (upd H p (.lst ws)) (.new (.lst (ys.map enc))) (.ref p) := ⟨p, rfl, hp, ws, upd_same, (rz.more hp).keep (.same s)⟩
    exact h ys _ _ hk (L.same s) (fun _ _ r => r.keep (.same s)) (rr.imm L.xd)
  rcases hi with e | e
  · subst e
    rw [if_pos rfl]
    refine fin xs us q ?_
    unfold stepG at hy
    rw [if_pos rfl] at hy
    exact (Option.some.inj hy).symm
  · subst e
    rw [if_neg (by decide)]
    refine fin xs.reverse us.reverse (by rw [List.map_reverse]; exact q.reverse) ?_
    unfold stepG at hy
    rw [if_neg (by decide), if_pos rfl] at hy
    exact (Option.some.inj hy).symm
/-- a list of which nothing is known any more -/
theorem x_tyA {i : Nat} {p : Addr} {P : Prop} (L : Lo C X H σ Γ) (g : Γ[i]? = some (.mu p .any)) (h : P) : tyV C.K "list" (.ref p) H ∧ P := by
  obtain ⟨vs, hs⟩ := L.mrep g
  exact ⟨.inl ⟨rfl, vs, .inl (.inl hs)⟩, h⟩
theorem x_clearA {i : Nat} {p : Addr} (L : Lo C X H σ Γ) (g : Γ[i]? = some (.mu p .any)) (e : Γ.set i (.mu p (.lst [])) = Γ')
    (h : ∀ H1, Lo C X H1 σ Γ' → (∀ d u, Rep C.K X H d u → Rep C.K X H1 d u) → Q .non H1) : rClear (.ref p) [] H Q := by
  subst e
  obtain ⟨vs, hs⟩ := L.mrep g
  have hX : X p := L.mx p (mem_muts.mpr ⟨i, _, g, rfl⟩)
  have kp : Keep X H (upd H p (.lst [])) := ⟨fun a u h n => by rw [upd_ne (fun z => n (by rw [z]; exact hX))]; exact h, fun a us h => by rw [upd_ne (fun z => by rw [z, hs] at h; cases h)]; exact h, fun a u w h => by rw [upd_ne (fun z => by rw [z, hs] at h; cases h)]; exact h⟩
  obtain ⟨L1, le⟩ := L.wrote (H' := upd H p (.lst [])) (o := .lst []) g rfl (fun a u h n => by rw [upd_ne n]; exact h) (fun a h => by
      by_cases z : a = p
      · rw [z, upd_same]; exact fun y => nomatch y
      · rw [upd_ne z]; exact h) ⟨[], upd_same, .nil⟩
  exact ⟨p, vs, rfl, rfl, hs, h _ L1 le⟩
end
/-! ### a told tuple of new lists -/
section
variable {C : Cn} {X : Addr → Prop} {H : Hp} {σ : L2.St} {Γ Γ' : List Sl} {Q : VK} {α β τ : Type}
theorem Lo.unfixN {Z : Addr → Prop} (L : Lo C X H σ Γ) {i : Nat} {d : PyData} (g : Γ[i]? = some (.fixN Z d)) : Lo C X H σ (Γ.set i (.imm d)) :=
  L.resl g rfl fun v ⟨u, e, r⟩ => ⟨u, e, r.anti fun _ => .inl⟩
theorem x_vfn {i : Nat} {d : PyData} {Z : Addr → Prop} (L : Lo C X H σ Γ) (e : Γ[i]? = some (.fixN Z d)) (h : ∀ v, Rep C.K X H d v → Q v H) : tVar i σ H Q := by
  obtain ⟨u, e1, r⟩ := L.at_ i _ e
  exact ⟨u, e1, h u (r.anti fun _ => .inl)⟩
theorem x_setZ {Z : Addr → Prop} {d : PyData} {i : Nat} {v : V} {N : L2.St → Hp → Prop} (L : Lo C X H σ Γ) (r : Rep C.K (NewX X Z H) H d v) (hi : i < C.n) (e : Γ.set i (.fixN Z d) = Γ') (h : ∀ σ', Lo C X H σ' Γ' → N σ' H) : gName i v σ H N := by
  subst e
  exact h _ (L.setS (i := i) (v := some v) (s := .fixN Z d) rfl ⟨v, rfl, r⟩ hi)
theorem x_mkTS {ds : List PyData} {vs : List V} (L : Lo C X H σ Γ) (q : Reps C.K X H ds vs) (hl : vs.length ≤ 16777216) (h : ∀ v H1, Same H H1 → Lo C X H1 σ Γ → (∀ d u, Rep C.K X H d u → Rep C.K X H1 d u) → Rep C.K X H1 (.tuple ds) v → Q v H1) : KTup Q vs H := by
  refine ⟨by rw [line_eq]; exact hl, fun p hp => ?_⟩
  have s : Same H (upd H p (.tup vs)) := same_upd hp
  exact h _ _ s (L.same s) (fun _ _ r => r.keep (.same s)) (.tup upd_same (q.keep (.same s)))
theorem x_listZ [Py α] [Flat α] {Z : Addr → Prop} {xs : List α} {v : V} (hz : ∀ a, ¬ Z a → H a ≠ none) (L : Lo C X H σ Γ) (r : Rep C.K X H (enc xs) v) (h : ∀ v H1, Lo C X H1 σ Γ → (∀ d u, Rep C.K X H d u → Rep C.K X H1 d u) → Rep C.K (NewX X Z H1) H1 (enc xs) v → Q v H1) : rListX C.K [v] H Q := by
  obtain ⟨a, vs, rfl, _, hs, q⟩ := rep_lst (ds := xs.map enc) r
  refine ⟨a, vs, rfl, .inl (.inl hs), fun p hp => ?_⟩
  have s : Same H (upd H p (.lst vs)) := same_upd hp
  refine h _ _ (L.same s) (fun _ _ r => r.keep (.same s)) (.lst (fun z => z.elim (fun z => L.xd p z hp) fun z => z.elim (fun z => hz p z hp) fun ⟨_, _, z⟩ => by rw [upd_same] at z; cases z) (.inl upd_same) ?_)
  exact (q.keep (.same s)).flat
theorem k0dN {v : V} {H' : Hp} {d : PyData} {ps : List (Addr × MO)} {P : Prop} {Z : Addr → Prop} (hz : ∀ a, Z a ↔ H a = none) (L : Lo C X H σ Γ) (F : Fin C.K X H [] ps (.immN (fun a => H a = none) d) v H') (h : Lo C X H' σ Γ → (∀ d u, Rep C.K X H d u → Rep C.K X H' d u) → Rep C.K (NewX X Z H') H' d v → P) : P := by
  have e : Z = fun a => H a = none := funext fun a => propext (hz a)
  subst e
  have s : Same H H' := fun a o e => F.base a o e (by simp)
  exact h (L.same s) (fun _ _ r => r.keep (.same s)) F.res
/-- x[0].clear() -/
theorem x_dclr1 [Py α] [Py β] {γ : Type} [Py γ] {z : T3 (List α) β γ} {Z : Addr → Prop} {i : Nat} {nx bk ct : L2.St → Hp → Prop} {rt : VK} (L : Lo C X H σ Γ) (hZ : ∀ a, Z a → C.H0 a = none)
    (g : Γ[i]? = some (.fixN Z (enc z))) (old : ∀ s ∈ Γ.set i .unk, OldS Z s) (e : Γ.set i .unk = Γ') (done : ∀ H', Lo C X H' σ Γ' → nx σ H') :
    tDrop (tBM0 C.K "list" rClear (tOp (rIxT C.K) (tVar i) (tC (.int 0)))) ⟨nx, rt, bk, ct⟩ σ H := by
  subst e
  have L1 : Lo C X H σ (Γ.set i .unk) := L.resl g rfl fun _ _ => trivial
  obtain ⟨u, eu, r⟩ := L.at_ i _ g
  obtain ⟨a, ws, rfl, hs, q⟩ := rep_tup (ds := [enc z.a, enc z.b, enc z.c]) r
  cases q with
  | cons q1 q2 =>
    obtain ⟨b, us, rfl, nb, rd, _⟩ := rep_lst (ds := z.a.map enc) q1
    have rd' : H b = some (.lst us) := by
      rcases rd with rd | ⟨o, rd⟩
      · exact rd
      · exact (nb (.inr (.inr ⟨_, _, rd⟩))).elim
    have zb : Z b := Classical.not_not.mp fun h => nb (.inr (.inl h))
    refine x_drop (x_bm0 ?_)
    refine ⟨.ref a, eu, ?_⟩
    refine ⟨a, .ref b :: _, 0, .ref b, rfl, rfl, hs, atI_zero, ?_⟩
    refine ⟨.inl ⟨rfl, us, .inl (.inl rd')⟩, ?_⟩
    exact ⟨b, us, rfl, rfl, rd', done _ (L1.clrZ (hZ b zb) (fun h => nb (.inl h)) zb rd' old)⟩
end
/-! ### texts -/
structure Ch where
  c : Nat
  deriving DecidableEq
def chS (x : Ch) : Str := ⟨#[x.c]⟩
instance : Py Ch := ⟨fun x => .str (chS x)⟩
def chs (x : Str) : List Ch := x.cps.toList.map Ch.mk
def strI (i : Int) : Option Str := if i.natAbs.log2 < 1920 then some (Str.ofString (toString i)) else none
def intT (a : Str) : Option Int := if a.length ≤ 640 then PySem.intText? a else none
def ixS (z : Str) (i : Int) : Option Str := (lenOk z.length).bind fun _ => (atI z.cps.toList i).map fun c => (⟨#[c]⟩ : Str)
def partS (a b : Str) : T3 Str Str Str := ⟨(Txt.partition a b).1, (Txt.partition a b).2.1, (Txt.partition a b).2.2⟩
def inS (x : Ch) (z : Str) : Bool := decide (x.c ∈ z.cps.toList)
def rAddS : R2 := fun x y H Q => ∃ i j, x = .str i ∧ y = .str j ∧ i.length + j.length ≤ sizeLine ∧ Q (.str (i ++ j)) H
theorem op_addSX {Xc : Cx} : OpR Xc (binaryOp .Add) rAddS := op_add_str
def rStrI : List V → Hp → VK → Prop := fun xs H Q => ∃ i : Int, xs = [.int i] ∧ i.natAbs.log2 < 1920 ∧ Q (.str (toString i)) H
theorem call_strX {Xc : Cx} : CallR Xc (.type "str") rStrI := call_str_int
def rIntT : List V → Hp → VK → Prop := fun xs H Q => ∃ a n, xs = [.str a] ∧ PySem.intText? a = some n ∧ a.length ≤ 640 ∧ Q (.int n) H
theorem call_intT {Xc : Cx} : CallR Xc (.type "int") rIntT := call_int_str
def rLenStr (K : PySem.W.Frag) : List V → Hp → VK → Prop := fun xs H Q => ∃ x n, xs = [x] ∧ LenV K x H n ∧ Q (.int n) H
theorem call_lenStr {Xc : Cx} : CallR Xc (.builtin "len") (rLenStr Xc.K) := call_len
def rPart : V → List V → Hp → VK → Prop := fun x xs H Q => ∃ a b, x = .str a ∧ xs = [.str b] ∧ (b.length == 0) = false ∧ a.length ≤ sizeLine ∧
    ∀ p, H p = none → Q (.ref p) (upd H p (.tup [.str (Txt.partition a b).1, .str (Txt.partition a b).2.1, .str (Txt.partition a b).2.2]))
def rSplit : V → List V → Hp → VK → Prop := fun x xs H Q => ∃ a b, x = .str a ∧ xs = [.str b] ∧ (b.length == 0) = false ∧ a.length + 2 ≤ sizeLine ∧ rNewStrs (Txt.split a b) H Q
theorem mt_splitX {Xc : Cx} : MtR Xc "str.split" rSplit := mt_split
def rJoin (K : PySem.W.Frag) : V → List V → Hp → VK → Prop := fun x xs H Q => ∃ a p, ∃ ys : List Str, x = .str a ∧ xs = [.ref p] ∧ (SqL K H p (ys.map V.str) ∨ SqT K H p (ys.map V.str)) ∧
    (ys.map (·.length)).sum + ys.length * a.length ≤ 16777216 ∧ Q (.str (Txt.join a ys)) H
theorem mt_joinX {Xc : Cx} : MtR Xc "str.join" (rJoin Xc.K) := mt_join
theorem mt_part {Xc : Cx} : MtR Xc "str.partition" rPart := mt_partition
def rStarts : V → List V → Hp → VK → Prop := fun x xs H Q => ∃ a b, x = .str a ∧ xs = [.str b] ∧ Q (.bl (Txt.startswith a b)) H
theorem mt_starts {Xc : Cx} : MtR Xc "str.startswith" rStarts := mt_startswith
def KForY (g : TG) (tb : TS) (D : Ends) (σ : L2.St) (v : V) (H : Hp) : Prop := ∃ x, v = V.str x ∧ ∃ W : Nat → Nat → L2.St → Hp → Prop, (∃ m, W 0 m σ H) ∧ ∀ i m σ H, W i m σ H →
      ((Its x).stop i H ∧ D.nx σ H) ∨ ((Its x).go i H ∧ ∃ N : L2.St → Hp → Prop, (∀ σ' H', N σ' H' → ∃ m', m' < m ∧ W (i + 1) m' σ' H') ∧ ∀ x' H', (Its x).yld i H x' H' → g x' σ H' fun σ2 H2 => tb { D with nx := N, ct := N, bk := D.nx } σ2 H2)
section
variable {C : Cn} {X : Addr → Prop} {H : Hp} {σ : L2.St} {Γ Γ' : List Sl} {Q : VK} {α β τ ρ : Type}
theorem x_strI {i : Int} {k : Str → Option ρ} {r : ρ} (hm : (strI i).bind k = some r) (h : ∀ z, k z = some r → Q (.str z) H) : rStrI [V.int i] H Q := by
  obtain ⟨z, hz, hk⟩ := ob hm
  unfold strI at hz
  split at hz
  · cases hz; exact ⟨i, rfl, by assumption, h _ hk⟩
  · cases hz
theorem x_intT {a : Str} {k : Int → Option ρ} {r : ρ} (hm : (intT a).bind k = some r) (h : ∀ z, k z = some r → Q (.int z) H) : rIntT [V.str a] H Q := by
  obtain ⟨z, hz, hk⟩ := ob hm
  unfold intT at hz
  split at hz
  · exact ⟨a, z, rfl, hz, by assumption, h _ hk⟩
  · cases hz
theorem x_addS {a b : Str} {k : Unit → Option ρ} {r : ρ} (hm : (lenOk (a.length + b.length)).bind k = some r) (h : k () = some r → Q (.str (a ++ b)) H) : rAddS (.str a) (.str b) H Q := by
  obtain ⟨_, hz, hk⟩ := ob hm
  exact ⟨a, b, rfl, rfl, by rw [line_eq]; exact lenOk_le hz, h hk⟩
theorem x_ixStr {z : Str} {i : Int} {k : Str → Option ρ} {r : ρ} (hm : (ixS z i).bind k = some r) (h : ∀ y, k y = some r → Q (.str y) H) : rIxS (.str z) (.int i) H Q := by
  obtain ⟨y, hy, hk⟩ := ob hm
  obtain ⟨_, hl, hy⟩ := ob hy
  cases e : atI z.cps.toList i with
  | none => rw [e] at hy; cases hy
  | some c =>
    rw [e] at hy
    cases hy
    exact ⟨z, i, c, rfl, rfl, by rw [line_eq]; exact lenOk_le hl, e, h _ hk⟩
theorem x_slStr {z : Str} {lo hi : Option Int} {k : Unit → Option ρ} {r : ρ} (hm : (lenOk z.length).bind k = some r) (h : k () = some r → Q (.str (cutS z lo hi)) H) : rSlS (.str z) lo hi H Q := by
  obtain ⟨_, hz, hk⟩ := ob hm
  exact ⟨z, rfl, by rw [line_eq]; exact lenOk_le hz, h hk⟩
theorem x_lenStr {K : PySem.W.Frag} {z : Str} {k : Unit → Option ρ} {r : ρ} (hm : (lenOk z.length).bind k = some r) (h : k () = some r → Q (.int (z.length : Int)) H) : rLenStr K [V.str z] H Q := by
  obtain ⟨_, hz, hk⟩ := ob hm
  exact ⟨_, z.length, rfl, ⟨by rw [line_eq]; exact lenOk_le hz, rfl⟩, h hk⟩
theorem x_m1 {r : V → List V → Hp → VK → Prop} {to te : TE} (h : to σ H fun x H1 => (∃ a, x = .str a) ∧ te σ H1 fun y H2 => r x [y] H2 Q) : tM1 r to te σ H Q := h
theorem x_isS {a : Str} {P : Prop} (h : P) : (∃ b, V.str a = .str b) ∧ P := ⟨⟨a, rfl⟩, h⟩
theorem x_partition {a b : Str} {k : Unit → Option ρ} {r : ρ} (L : Lo C X H σ Γ) (hm : (lenOk a.length).bind k = some r) (hb : (b.length == 0) = false)
    (h : ∀ v H1, k () = some r → Lo C X H1 σ Γ → (∀ d u, Rep C.K X H d u → Rep C.K X H1 d u) → Rep C.K X H1 (enc (partS a b)) v → Q v H1) :
    rPart (.str a) [.str b] H Q := by
  obtain ⟨_, hz, hk⟩ := ob hm
  refine ⟨a, b, rfl, rfl, hb, by rw [line_eq]; exact lenOk_le hz, fun p hp => ?_⟩
  have s : Same H (upd H p (.tup [.str (Txt.partition a b).1, .str (Txt.partition a b).2.1, .str (Txt.partition a b).2.2])) := same_upd hp
  exact h _ _ hk (L.same s) (fun _ _ r => r.keep (.same s)) (.tup upd_same (.cons (.str _) (.cons (.str _) (.cons (.str _) .nil))))
theorem reps_strs {K : PySem.W.Frag} {X : Addr → Prop} {H : Hp} : ∀ ys : List Str, Reps K X H (ys.map enc) (ys.map V.str)
  | [] => .nil
  | y :: ys => .cons (.str y) (reps_strs ys)
theorem x_split {a b : Str} {k : Unit → Option ρ} {r : ρ} (L : Lo C X H σ Γ) (hm : (lenOk (a.length + 2)).bind k = some r) (hb : (b.length == 0) = false)
    (h : ∀ v H1, k () = some r → Lo C X H1 σ Γ → (∀ d u, Rep C.K X H d u → Rep C.K X H1 d u) → Rep C.K X H1 (enc (Txt.split a b)) v → Q v H1) :
    rSplit (.str a) [.str b] H Q := by
  obtain ⟨_, hz, hk⟩ := ob hm
  refine ⟨a, b, rfl, rfl, hb, by rw [line_eq]; exact lenOk_le hz, fun p hp => ?_⟩
  have s : Same H (upd H p (.lst ((Txt.split a b).map V.str))) := same_upd hp
  exact h _ _ hk (L.same s) (fun _ _ r => r.keep (.same s)) (.lst (fun x => L.xd p x hp) (.inl upd_same) (reps_strs _))
theorem dps_strs {K : PySem.W.Frag} {H : Hp} : ∀ {ys : List Str} {vs : List V}, DpAll K H vs (ys.map enc) → vs = ys.map V.str
  | [], _, .nil => rfl
  | y :: ys, _, .cons h t => by
    cases h with
    | str => rw [dps_strs t]; rfl
def joinN (a : Str) (ys : List Str) : Nat := (ys.map (·.length)).sum + ys.length * a.length
theorem x_joinT {K : PySem.W.Frag} {a : Str} {ys : List Str} {v : V} {k : Unit → Option ρ} {r : ρ} (hm : (lenOk (joinN a ys)).bind k = some r) (q : Dp K H v (enc ys)) (h : k () = some r → Q (.str (Txt.join a ys)) H) :
    rJoin K (.str a) [v] H Q := by
  obtain ⟨_, hz, hk⟩ := ob hm
  have q : Dp K H v (.list (ys.map enc)) := q
  cases q with
  | lst s t => exact ⟨a, _, ys, rfl, rfl, .inl (dps_strs t ▸ s), lenOk_le hz, h hk⟩
theorem x_starts {a b : Str} (h : Q (.bl (Txt.startswith a b)) H) : rStarts (.str a) [.str b] H Q := ⟨a, b, rfl, rfl, h⟩
theorem x_inS {x : Ch} {z : Str} (h : Q (.bl (inS x z)) H) : rInS (.str (chS x)) (.str z) H Q := ⟨x.c, z, rfl, rfl, h⟩
theorem x_ninS {x : Ch} {z : Str} (h : Q (.bl (!inS x z)) H) : rNotInS (.str (chS x)) (.str z) H Q := ⟨x.c, z, rfl, rfl, h⟩
theorem x_tforY {te : TE} {g : TG} {tb : TS} {D : Ends} (h : te σ H (KForY g tb D σ)) : tFor (iStr te) g tb D σ H := h
theorem for_chs {x : Str} {g : TG} {tb : TS} {D : Ends} {σ : L2.St} {H : Hp} (Pv : Nat → L2.St → Hp → Prop) (h0 : Pv 0 σ H)
    (hs : ∀ i c σ H, x.cps[i]? = some c → Pv i σ H → g (.str ⟨#[c]⟩) σ H fun σ2 H2 => tb { D with nx := Pv (i + 1), ct := Pv (i + 1), bk := D.nx } σ2 H2) (hd : ∀ σ H, Pv x.cps.size σ H → D.nx σ H) :
    ∃ W : Nat → Nat → L2.St → Hp → Prop, (∃ m, W 0 m σ H) ∧ ∀ i m σ H, W i m σ H →
      ((Its x).stop i H ∧ D.nx σ H) ∨ ((Its x).go i H ∧ ∃ N : L2.St → Hp → Prop, (∀ σ' H', N σ' H' → ∃ m', m' < m ∧ W (i + 1) m' σ' H') ∧ ∀ x' H', (Its x).yld i H x' H' → g x' σ H' fun σ2 H2 => tb { D with nx := N, ct := N, bk := D.nx } σ2 H2) := by
  refine ⟨fun i m σ H => m = x.cps.size - i ∧ i ≤ x.cps.size ∧ Pv i σ H, ⟨x.cps.size, by simp, Nat.zero_le _, h0⟩, ?_⟩
  rintro i m σ H ⟨rfl, hi, p⟩
  by_cases hlt : i < x.cps.size
  · refine .inr ⟨hlt, Pv (i + 1), fun σ' H' p' => ⟨x.cps.size - (i + 1), by omega, rfl, hlt, p'⟩, ?_⟩
    rintro v H' ⟨rfl, c, hc, rfl⟩
    exact hs i c σ _ hc p
  · have : i = x.cps.size := by omega
    subst this
    exact .inl ⟨Nat.le_refl _, hd σ H p⟩
theorem x_forY {x : Str} {f : Ch → τ → Option (Lp τ ρ)} {G : τ → List Sl} {ps : ρ → List (Addr × MO)} {rs : ρ → Rs} {s0 : τ} {o : Lp τ ρ} {g : TG} {tb : TS} {nx bk ct : L2.St → Hp → Prop} {rt : VK}
    (L : Lo C X H σ (G s0)) (hG : ∀ s s', muts (G s) = muts (G s')) (hm : loopL f (chs x) s0 = some o)
    (body : ∀ x s, Body C X G ps rs (enc x) s (f x s) g tb)
    (done : ∀ s, o = .nxt s → ∀ σ' H', Lo C X H' σ' (G s) → nx σ' H') (brk : ∀ s, o = .brk s → ∀ σ' H', Lo C X H' σ' (G s) → nx σ' H')
    (ret : ∀ q, o = .ret q → ∀ v H', Fin C.K C.X0 C.H0 C.P0 (ps q) (rs q) v H' → rt v H') :
    KForY g tb ⟨nx, rt, bk, ct⟩ σ (.str x) H := by
  have hlen : (chs x).length = x.cps.size := by unfold chs; rw [List.length_map, Array.length_toList]
  refine ⟨x, rfl, for_chs (fun i σ' H' => ∃ s, Lo C X H' σ' (G s) ∧ loopL f ((chs x).drop i) s = some o) ⟨s0, L, hm⟩ ?_ ?_⟩
  · rintro i c σ' H' hc ⟨s, L', hm'⟩
    have hx : (chs x)[i]? = some ⟨c⟩ := by unfold chs; rw [List.getElem?_map, Array.getElem?_toList, hc]; rfl
    obtain ⟨o1, h1, h2, h3, h4⟩ := loop_drop hx hm'
    refine body ⟨c⟩ s H' σ' _ _ _ _ _ o1 h1 L'.enter L'.dom (.str _) ?_ ?_ ?_ ?_
    · intro s' e X' σ'' H'' L''
      exact ⟨s', L'.leave L'' (hG _ _), h2 s' e⟩
    · intro s' e X' σ'' H'' L''
      exact ⟨s', L'.leave L'' (hG _ _), h2 s' e⟩
    · intro s' e X' σ'' H'' L''
      exact brk s' (h3 s' e) _ _ (L'.leave L'' (hG _ _))
    · intro q e v' H'' F
      exact ret q (h4 q e) v' H'' (F.leave L')
  · rintro σ' H' ⟨s, L', hm'⟩
    have : (chs x).drop x.cps.size = [] := List.drop_eq_nil_of_le (by omega)
    rw [this] at hm'
    exact done s (Option.some.inj hm').symm _ _ L'
theorem x_foY {x : Str} {f : Ch → τ → Option τ} {G : τ → List Sl} {s0 : τ} {g : TG} {tb : TS} {nx bk ct : L2.St → Hp → Prop} {rt : VK} {k : τ → Option ρ} {res : ρ}
    (L : Lo C X H σ (G s0)) (hG : ∀ s s', muts (G s) = muts (G s')) (hm : (foldO f (chs x) s0).bind k = some res)
    (body : ∀ x s, BodyO C X G (enc x) s (f x s) g tb) (done : ∀ s σ' H', k s = some res → Lo C X H' σ' (G s) → nx σ' H') : KForY g tb ⟨nx, rt, bk, ct⟩ σ (.str x) H := by
  obtain ⟨s1, h1, h2⟩ := ob hm
  exact x_forY (ρ := Empty) (o := .nxt s1) (ps := fun _ => []) (rs := fun _ => .imm .none) L hG (foldO_loop h1) (fun x s => (body x s).body) (fun s e σ' H' L' => by cases e; exact done _ _ _ h2 L') (fun s e => nomatch e) (fun q => nomatch q)
end
/-! ### dicts with pairs of ints as keys -/
def kq (k : T2 Int Int) : List L2.Key := [.inl k.a, .inl k.b]
theorem kq_inj {k l : T2 Int Int} (h : kq k = kq l) : k = l := by
  obtain ⟨a, b⟩ := k
  obtain ⟨c, d⟩ := l
  unfold kq at h
  simp at h
  rw [h.1, h.2]
abbrev md {β : Type} [Py β] (kvs : List (T2 Int Int × β)) : MO := .dct (kvs.map fun e => (kq e.1, enc e.2))
def dgetM {β : Type} (kvs : List (T2 Int Int × β)) (k : T2 Int Int) : Option β := (kvs.find? fun kv => decide (kv.1 = k)).map (·.2)
def dputM {β : Type} (kvs : List (T2 Int Int × β)) (k : T2 Int Int) (v : β) : List (T2 Int Int × β) :=
  if (kvs.any fun kv => decide (kv.1 = k)) = true then kvs.map (fun kv => if kv.1 = k then (kv.1, v) else kv) else kvs ++ [(k, v)]
def lt2P (x y : T2 Int Int) : Bool := SrtO.lexB (x.a, x.b) (y.a, y.b)
def sortP (xs : List (T2 Int Int)) : List (T2 Int Int) := xs.mergeSort fun x y => !lt2P y x
section
variable {C : Cn} {X : Addr → Prop} {H : Hp} {σ : L2.St} {Γ Γ' : List Sl} {Q : VK} {α β ρ : Type}
theorem dreps_get [Py β] {K : PySem.W.Frag} {k : T2 Int Int} : ∀ {kvs : List (T2 Int Int × β)} {ws : List (List L2.Key × V)}, DReps K X H (kvs.map fun e => (kq e.1, enc e.2)) ws →
    (∃ b v, dgetM kvs k = some b ∧ valV ws (kq k) = some v ∧ Rep K X H (enc b) v) ∨ (dgetM kvs k = none ∧ valV ws (kq k) = none)
  | [], _, .nil => .inr ⟨rfl, rfl⟩
  | (l, c) :: kvs, _, .cons (v := v) (kvs := ws) r t => by
    by_cases z : l = k
    · subst z
      exact .inl ⟨c, v, by simp [dgetM], valV_pos rfl, r⟩
    · have h1 : dgetM ((l, c) :: kvs) k = dgetM kvs k := by simp [dgetM, List.find?_cons, z]
      have h2 : valV ((kq l, v) :: ws) (kq k) = valV ws (kq k) := valV_neg fun e => z (kq_inj e)
      rw [h1, h2]
      exact dreps_get t
theorem dreps_any [Py β] {K : PySem.W.Frag} {k : T2 Int Int} : ∀ {kvs : List (T2 Int Int × β)} {ws : List (List L2.Key × V)}, DReps K X H (kvs.map fun e => (kq e.1, enc e.2)) ws → (ws.any fun kv => decide (kv.1 = kq k)) = (kvs.any fun kv => decide (kv.1 = k))
  | [], _, .nil => rfl
  | (l, c) :: kvs, _, .cons (v := v) (kvs := ws) r t => by
    rw [List.any_cons, List.any_cons, dreps_any t]
    congr 1
    by_cases z : l = k
    · subst z; simp
    · rw [decide_eq_false (show ¬ (kq l, v).1 = kq k from fun e => z (kq_inj e)), decide_eq_false z]
theorem dreps_map [Py β] {K : PySem.W.Frag} {k : T2 Int Int} {b : β} {v : V} (rv : Rep K X H (enc b) v) : ∀ {kvs : List (T2 Int Int × β)} {ws : List (List L2.Key × V)}, DReps K X H (kvs.map fun e => (kq e.1, enc e.2)) ws →
    DReps K X H ((kvs.map (fun kv => if kv.1 = k then (kv.1, b) else kv)).map fun e => (kq e.1, enc e.2)) (ws.map fun kv => if kv.1 = kq k then (kv.1, v) else kv)
  | [], _, .nil => .nil
  | (l, c) :: kvs, _, .cons (v := u) (kvs := ws) r t => by
    rw [List.map_cons, List.map_cons, List.map_cons]
    by_cases z : l = k
    · subst z
      rw [if_pos rfl, if_pos rfl]
      exact .cons rv (dreps_map rv t)
    · rw [if_neg z, if_neg (show ¬ (kq l, u).1 = kq k from fun e => z (kq_inj e))]
      exact .cons r (dreps_map rv t)
theorem dreps_snoc {K : PySem.W.Frag} {k : List L2.Key} {d : PyData} {v : V} (rv : Rep K X H d v) : ∀ {es : List (List L2.Key × PyData)} {ws : List (List L2.Key × V)}, DReps K X H es ws → DReps K X H (es ++ [(k, d)]) (ws ++ [(k, v)])
  | _, _, .nil => .cons rv .nil
  | _, _, .cons r t => .cons r (dreps_snoc rv t)
theorem dreps_put [Py β] {K : PySem.W.Frag} {k : T2 Int Int} {b : β} {v : V} {kvs : List (T2 Int Int × β)} {ws : List (List L2.Key × V)} (h : DReps K X H (kvs.map fun e => (kq e.1, enc e.2)) ws) (rv : Rep K X H (enc b) v) :
    DReps K X H ((dputM kvs k b).map fun e => (kq e.1, enc e.2)) (putK ws (kq k) v) := by
  unfold dputM putK
  rw [dreps_any h]
  by_cases z : (kvs.any fun kv => decide (kv.1 = k)) = true
  · rw [if_pos z, if_pos z]; exact dreps_map rv h
  · rw [if_neg z, if_neg z, List.map_append]; exact dreps_snoc rv h
theorem dreps_len [Py β] {K : PySem.W.Frag} : ∀ {kvs : List (T2 Int Int × β)} {ws : List (List L2.Key × V)}, DReps K X H (kvs.map fun e => (kq e.1, enc e.2)) ws → ws.length = kvs.length
  | [], _, .nil => rfl
  | _ :: _, _, .cons _ t => congrArg (· + 1) (dreps_len t)
theorem key_rep {K : PySem.W.Frag} {k : T2 Int Int} {y : V} (r : Rep K X H (enc k) y) : ∃ b, y = .ref b ∧ H b = some (.tup ((kq k).map kV)) := by
  obtain ⟨a, vs, rfl, h, q⟩ := rep_tupS (ds := [.int k.a, .int k.b]) r
  cases q with
  | cons q1 q => cases q with
    | cons q2 q => cases q; cases q1; cases q2; exact ⟨a, rfl, h⟩
theorem x_dnew [Py β] (L : Lo C X H σ Γ) (h : ∀ p X' H1, C.H0 p = none → ¬ C.X0 p → Lo C X' H1 σ (Γ ++ [.tmp p (md ([] : List (T2 Int Int × β)))]) → (∀ d u, Rep C.K X H d u → Rep C.K X' H1 d u) → Q (.ref p) H1) : tDNewT σ H Q := fun p hp => by
  have s : Same H (upd H p (.dT [])) := same_upd hp
  obtain ⟨L1, le, h0, hx⟩ := L.lay (o := .dct []) hp s ⟨[], upd_same, .nil⟩
  exact h p _ _ h0 hx L1 le
theorem room1 {k : Nat} {A : Around} (r : Room k A) : A.units + 1 < cLine := by have := r.un; omega
def KDg (x : V) (Q : VK) : VK := fun y H2 => ∃ a v, x = .ref a ∧ DGet H2 a y (some v) ∧ Q v H2
def KG2 (a : Addr) (y : V) (Q : VK) : VK := fun z H3 => ∃ o, DGet H3 a y o ∧ Q (o.getD z) H3
theorem x_dg {td ty : TE} (h : td σ H fun x H1 => ty σ H1 (KDg x Q)) : tDGet td ty σ H Q := h
theorem x_dgetv [Py β] {kvs : List (T2 Int Int × β)} {k : T2 Int Int} {i : Nat} {p : Addr} {y : V} {kk : β → Option ρ} {r : ρ} (L : Lo C X H σ Γ) (g : Γ[i]? = some (.mu p (md kvs))) (hm : (dgetM kvs k).bind kk = some r) (ry : Rep C.K X H (enc k) y)
    (h : ∀ b v, kk b = some r → Rep C.K X H (enc b) v → Q v H) : KDg (.ref p) Q y H := by
  obtain ⟨b, hb, hk⟩ := ob hm
  obtain ⟨ws, hw, rw_⟩ := L.mrep g
  obtain ⟨c, rfl, hc⟩ := key_rep ry
  rcases dreps_get (k := k) rw_ with ⟨b', v, e1, e2, rv⟩ | ⟨e1, _⟩
  · rw [hb] at e1; cases e1
    exact ⟨p, v, rfl, by rw [← e2]; exact DGet.t hw hc, h b v hk rv⟩
  · rw [hb] at e1; cases e1
theorem x_dgetvI {kvs : List (T2 Int Int × Int)} {k : T2 Int Int} {i : Nat} {p : Addr} {y : V} {kk : Int → Option ρ} {r : ρ} (L : Lo C X H σ Γ) (g : Γ[i]? = some (.mu p (md kvs))) (hm : (dgetM kvs k).bind kk = some r) (ry : Rep C.K X H (enc k) y)
    (h : ∀ b, kk b = some r → Q (.int b) H) : KDg (.ref p) Q y H :=
  x_dgetv L g hm ry fun b v hk rv => by
    cases (show Rep C.K X H (.int b) v from rv)
    exact h b hk
theorem x_dg2 {td ty tx : TE} (h : td σ H fun x H1 => ∃ a, x = .ref a ∧ IsD H1 a ∧ ty σ H1 fun y H2 => tx σ H2 (KG2 a y Q)) : tDGet2 td ty tx σ H Q := h
theorem x_isD {i : Nat} {p : Addr} {es : List (List L2.Key × PyData)} {P : Addr → Prop} (L : Lo C X H σ Γ) (g : Γ[i]? = some (.mu p (.dct es))) (h : P p) : ∃ a, V.ref p = .ref a ∧ IsD H a ∧ P a := by
  obtain ⟨ws, hw, _⟩ := L.mrep g
  exact ⟨p, rfl, .inr ⟨ws, .inl hw⟩, h⟩
theorem x_dget2I {kvs : List (T2 Int Int × Int)} {k : T2 Int Int} {d : Int} {i : Nat} {p : Addr} {y : V} (L : Lo C X H σ Γ) (g : Γ[i]? = some (.mu p (md kvs))) (ry : Rep C.K X H (enc k) y)
    (h : Q (.int ((dgetM kvs k).getD d)) H) : KG2 p y Q (.int d) H := by
  obtain ⟨ws, hw, rw_⟩ := L.mrep g
  obtain ⟨c, rfl, hc⟩ := key_rep ry
  rcases dreps_get (k := k) rw_ with ⟨b, v, e1, e2, rv⟩ | ⟨e1, e2⟩
  · rw [e1] at h
    cases (show Rep C.K X H (.int b) v from rv)
    exact ⟨_, DGet.t hw hc, by rw [e2]; exact h⟩
  · rw [e1] at h
    exact ⟨_, DGet.t hw hc, by rw [e2]; exact h⟩
def Lax (K : PySem.W.Frag) (q : T2 Int Int) (v : V) (H : Hp) : Prop := ∃ a, v = .ref a ∧ SqT K H a [.int q.a, .int q.b]
theorem Rep.lax {K : PySem.W.Frag} {q : T2 Int Int} {v : V} (r : Rep K X H (enc q) v) : Lax K q v H := by
  obtain ⟨a, vs, rfl, h, w⟩ := rep_tup (ds := [.int q.a, .int q.b]) r
  cases w with
  | cons q1 w => cases w with
    | cons q2 w => cases w; cases q1; cases q2; exact ⟨a, rfl, h⟩
theorem x_dget2L {kvs : List (T2 Int Int × T2 Int Int)} {k d : T2 Int Int} {i : Nat} {p : Addr} {y z : V} (L : Lo C X H σ Γ) (g : Γ[i]? = some (.mu p (md kvs))) (ry : Rep C.K X H (enc k) y) (rz : Lax C.K d z H)
    (h : ∀ v, Lax C.K ((dgetM kvs k).getD d) v H → Q v H) : KG2 p y Q z H := by
  obtain ⟨ws, hw, rw_⟩ := L.mrep g
  obtain ⟨c, rfl, hc⟩ := key_rep ry
  rcases dreps_get (k := k) rw_ with ⟨b, v, e1, e2, rv⟩ | ⟨e1, e2⟩
  · rw [e1] at h
    exact ⟨_, DGet.t hw hc, by rw [e2]; exact h v rv.lax⟩
  · rw [e1] at h
    exact ⟨_, DGet.t hw hc, by rw [e2]; exact h z rz⟩
/-- a pair of ints of a caller, also a constant -/
theorem As.lx {K : PySem.W.Frag} {q : T2 Int Int} {v : V} {Γ : List Sl} {vs : List V} (r : Lax K q v H) (t : As K X H Γ vs) : As K X H (.lax q.a q.b :: Γ) (v :: vs) := by
  obtain ⟨a, rfl, h⟩ := r
  exact ⟨_, vs, rfl, ⟨a, rfl, h⟩, t⟩
theorem x_vlx {i : Nat} {x y : Int} (L : Lo C X H σ Γ) (e : Γ[i]? = some (.lax x y)) (h : ∀ v, Lax C.K ⟨x, y⟩ v H → Q v H) : tVar i σ H Q := by
  obtain ⟨a, e1, r⟩ := L.at_ i _ e
  exact ⟨.ref a, e1, h _ ⟨a, rfl, r⟩⟩
theorem x_ixLx {q : T2 Int Int} {v : V} {i : Int} {n : Int} (r : Lax C.K q v H) (e : atI [q.a, q.b] i = some n) (h : Q (.int n) H) : rIxT C.K v (.int i) H Q := by
  obtain ⟨a, rfl, hs⟩ := r
  exact ⟨a, _, i, .int n, rfl, rfl, hs, by rw [show ([V.int q.a, V.int q.b] : List V) = [q.a, q.b].map V.int from rfl, atI_map, e]; rfl, h⟩
theorem x_dputS {td ty tv : TE} {nx bk ct : L2.St → Hp → Prop} {rt : VK} (h : tv σ H fun v H1 => td σ H1 fun x H2 => ty σ H2 fun y H3 => ∃ a H4, x = .ref a ∧ DPut H3 a y v H4 ∧ nx σ H4) : sDPut td ty tv ⟨nx, rt, bk, ct⟩ σ H := h
theorem x_dput [Py β] {kvs : List (T2 Int Int × β)} {k : T2 Int Int} {b : β} {i : Nat} {p : Addr} {y v : V} {kk : Unit → Option ρ} {r : ρ} {P : Hp → Prop} (L : Lo C X H σ Γ) (g : Γ[i]? = some (.mu p (md kvs))) (hm : (lenOk (kvs.length + 1)).bind kk = some r) (ry : Rep C.K X H (enc k) y) (rv : Rep C.K X H (enc b) v)
    (e : Γ.set i (.mu p (md (dputM kvs k b))) = Γ') (h : ∀ H1, kk () = some r → Lo C X H1 σ Γ' → (∀ d u, Rep C.K X H d u → Rep C.K X H1 d u) → P H1) : ∃ a H4, V.ref p = .ref a ∧ DPut H a y v H4 ∧ P H4 := by
  subst e
  obtain ⟨_, hl, hk⟩ := ob hm
  obtain ⟨ws, hw, rw_⟩ := L.mrep g
  obtain ⟨c, rfl, hc⟩ := key_rep ry
  have hX : X p := L.mx p (mem_muts.mpr ⟨i, _, g, rfl⟩)
  have kp : ∀ o, Keep X H (upd H p o) := fun o => ⟨fun a u h n => by rw [upd_ne (fun z => n (by rw [z]; exact hX))]; exact h, fun a us h => by rw [upd_ne (fun z => by rw [z, hw] at h; cases h)]; exact h, fun a u w h => by rw [upd_ne (fun z => by rw [z, hw] at h; cases h)]; exact h⟩
  obtain ⟨L1, le⟩ := L.wrote (H' := upd H p (.dT (putK ws (kq k) v))) (o := md (dputM kvs k b)) g rfl (fun a u h n => by rw [upd_ne n]; exact h) (fun a h => by
      by_cases z : a = p
      · rw [z, upd_same]; exact fun y => nomatch y
      · rw [upd_ne z]; exact h) ⟨_, upd_same, (dreps_put rw_ rv).keep (kp _)⟩
  exact ⟨p, _, rfl, DPut.t hw hc (by rw [dreps_len rw_, line_eq]; have := lenOk_le hl; omega), h _ hk L1 le⟩
end
end Sc
namespace ScD
open PySem PySem.W PySem.Calls PyProof.Rows PyProof.V PySem.Spec
section
variable {prog : Program} {w : World} {A : Around} {E : Value → Shared → Prop} {s : Shared} {T : String} {r d : Addr} {n : Nat} {P : Nat → Value → Prop} {OK : Heap → Prop}
theorem collectK {R : List Value → Shared → Prop} (K : KdlSrc prog w T r d n P OK) (hh : A.handled = none) (hok : OK s.heap) (hn : n ≤ sizeLine)
    (h : ∀ (h' : Heap) (tk : Nat) (acc : Array Value), (∀ b o, s.heap.get? b = some o → h'.get? b = some o) → s.heap.objs.size < h'.objs.size → ItemsOf P acc n → R acc.toList { s with heap := h', toks := tk }) :
    wpAny (model prog w) A (collect (.ref r)) R E s := by
  have hlt := K.there _ hok
  unfold collect
  refine wpAny_bind (wpAny_runValue (codeAny_builtin entry_proto_collect' ?_))
  rw [Around.under_plainId PySem.F.plain_proto_collect _]
  show wpAny _ A.in1 (newList [] >>= fun l => again (.builtin "list.__iadd__" ⟨[l, .ref r], []⟩)) _ _ s
  refine wpAny_bind (wpAny_newObj_type ?_)
  refine wpAny_pure ⟨plainId_quiet PySem.F.plain_list_iadd _, codeAny_builtin entry_list_iadd' ?_⟩
  rw [Around.under_plainId PySem.F.plain_list_iadd _]
  have hS₁ : (s.heap.push { cls := .type "list", data := .seq ([] : List Value).toArray }).get? s.heap.objs.size = some { cls := .type "list", data := .seq #[] } := Heap.get?_push_size _ rfl
  show wpAny _ A.in1 (Builtin.List.listExtendWith (.ref s.heap.objs.size) (.ref r) (.ref s.heap.objs.size)) _ _ _
  have key := kdl_extend (A := A) (s := { s with heap := s.heap.push { cls := .type "list", data := .seq ([] : List Value).toArray } })
    (R := fun (q : Result) (s' : Shared) => ∃ (h' : Heap) (tk : Nat) (acc' : Array Value) (c' : Nat), q = .ok (.ret (.ref s.heap.objs.size)) ∧ s' = { s with heap := h', toks := tk } ∧
      (∀ b o, s.heap.get? b = some o → h'.get? b = some o) ∧ h'.get? s.heap.objs.size = some { cls := .type "list", dict := none, data := .seq acc' c', slots := #[] } ∧ ItemsOf P acc' n)
    K hh (K.keep _ _ hok fun b _ o e => Heap.get?_push_of_some _ e) s.heap.objs.size (Nat.ne_of_gt hlt.1) (Nat.ne_of_gt hlt.2) (.ref s.heap.objs.size) 0 hS₁
    (fun h' tk acc' c' hk hS' hacc => ⟨h', tk, acc', c', rfl, rfl, fun b o e => hk b o (Nat.ne_of_lt (Heap.lt_size e)) (Heap.get?_push_of_some _ e), hS', hacc⟩) hn
  refine wpAny_mono key (fun fin s' x => ?_) fun e s' x => ?_
  · cases fin with
    | done f =>
      obtain ⟨h', tk, acc', c', e, rfl, hk, hS', hacc⟩ := x
      cases e
      show wpAny _ A (load s.heap.objs.size >>= _) _ _ _
      refine wpAny_bind (wpAny_load hS' ?_)
      refine wpAny_pure ?_
      show R acc'.toList _
      exact h h' tk acc' hk (Heap.lt_size hS') hacc
    | again c₁ =>
      refine ⟨x.1, codeAny_mono x.2 fun q s₂ y => ?_⟩
      obtain ⟨h', tk, acc', c', rfl, rfl, hk, hS', hacc⟩ := y
      show wpAny _ A (load s.heap.objs.size >>= _) _ _ _
      refine wpAny_bind (wpAny_load hS' ?_)
      refine wpAny_pure ?_
      show R acc'.toList _
      exact h h' tk acc' hk (Heap.lt_size hS') hacc
  · obtain ⟨_, _, _, _, e', _⟩ := x
    cases e'
open SrtO in
theorem sortedK {vs : List Value} {k : Value → Int × Int} {Q : Value → Shared → Prop} (K : KdlSrc prog w T r d n P OK) (hh : A.handled = none) (hok : OK s.heap) (hn : n ≤ sizeLine)
    (hv : ∀ acc : Array Value, ItemsOf P acc n → acc.toList = vs) (hl : vs.length = n) (hp : ∀ v ∈ vs, Srt.IsPair s.heap v (k v).1 (k v).2)
    (h : ∀ (h' : Heap) (tk : Nat) (d' : Addr) (out : List Value), Srtd (fun v u => lexB (k v) (k u)) out → Stb (fun v u => lexB (k v) (k u)) out vs → (∀ b o, s.heap.get? b = some o → h'.get? b = some o) → s.heap.objs.size ≤ d' → (∃ n, h'.get? d' = some (seqObj "list" out.toArray n)) → Q (.ref d') { s with heap := h', toks := tk }) :
    wpAny (model prog w) A (call (.builtin "sorted") [.ref r]) Q E s := by
  refine Calls.call_function_entry kind_sorted plain_sorted entry_sorted (args_sorted1 _) ?_
  unfold Builtin.«sorted»
  refine wpAny_bind (m := checkCount "sorted" 1 1 _) (wpAny_pure ?_)
  refine wpAny_bind (collectK (A := A.in1) K hh hok hn fun h' tk acc hk hlt hacc => ?_)
  rw [hv acc hacc]
  refine wpAny_bind (wpAny_newList ?_ (by rw [hl]; exact hn))
  have hoL : (h'.push (seqObj "list" vs.toArray 0)).get? h'.objs.size = some (seqObj "list" vs.toArray 0) := Heap.get?_push_size _ rfl
  have kk : ∀ b o, s.heap.get? b = some o → b ≠ h'.objs.size ∧ (h'.push (seqObj "list" vs.toArray 0)).get? b = some o := fun b o e => ⟨Nat.ne_of_lt (Nat.lt_trans (Heap.lt_size e) hlt), Heap.get?_push_of_some _ (hk b o e)⟩
  show wpAny _ _ _ _ _ { s with heap := h'.push (seqObj "list" vs.toArray 0), toks := tk }
  refine wpAny_bind (wpAny_holding (wpAny_call_entry slot_list_sort ⟨_, hoL, rfl⟩ entry_list_sort (list_sort_ord (swo_lex k) hoL (by rw [hl]; exact hn) (fun h2 => ?_) fun out hs hb => ⟨_, rfl, ?_⟩) (args_list_sort _)))
  · refine pairs_sortableO (by omega) (fun v hm => (hp v hm).keeps fun b o e _ => (kk b o e).2) fun o e => ?_
    have e' : some o = some (seqObj "list" vs.toArray 0) := e.symm.trans hoL
    cases e'
    intro c
    exact absurd (Value.type.inj c) (by decide)
  · refine wpAny_pure ⟨_, rfl, h _ _ _ out hs hb (fun b o e => ?_) (Nat.le_of_lt hlt) ?_⟩
    · have hb : b < h'.objs.size := Nat.lt_trans (Heap.lt_size e) hlt
      rw [sortedHeap_old (Nat.ne_of_lt hb) (by rw [size_push']; exact Nat.lt_succ_of_lt hb)]
      exact Heap.get?_push_of_some _ (hk b o e)
    · exact sortedHeap_at hoL
end
end ScD
namespace Sc
open PySem PySem.Spec PyProof.Rows L2
open Py (enc)
def rSortedDT : List V → Hp → VK → Prop := fun vs H Q => ∃ (d : Addr) (kvs : List (List L2.Key × V)) (k : V → Int × Int), vs = [V.ref d] ∧ H d = some (.dT kvs) ∧
  (∀ bs, IsKeys H kvs bs → ∀ b ∈ bs, H b = some (.tup [.int (k (.ref b)).1, .int (k (.ref b)).2])) ∧
  ∀ (bs : List Addr) (ys : List V) p, IsKeys H kvs bs → SrtO.Srtd (L2.ltP k) ys → SrtO.Stb (L2.ltP k) ys (bs.map V.ref) → H p = none → Q (.ref p) (upd H p (.lst ys))
theorem cr_sortedDT {X : Cx} (hc : X.calm = true) : CallR X (.builtin "sorted") rSortedDT := by
  intro pins s σ H vs us Q I r h
  obtain ⟨d, kvs, k, rfl, hd, hk, q⟩ := h
  obtain ⟨u, rfl, rx⟩ := r.one
  cases rx
  obtain ⟨z, hs, ks, pr, o, es, ep, ho, hx, hdt, he, hn⟩ := (show ObjOk X.prog X.w H s.heap d (.dT kvs) from I.hok _ _ hd)
  have l1 : es.size = ks.length := size_of_entries he
  have l2 : kvs.length = ks.length := Paired.length pr
  have ik := isKeys_of pr
  have hkk := hk _ ik
  refine ScD.sortedK (vs := (ks.map fun x => x.2.1).map Value.ref) (k := fun u => k (backV u)) (kdl_raw hs hx hdt) (I.ok.hd hc) ho (by omega) (fun acc' it => ?_) (by rw [List.length_map, List.length_map]; exact l1.symm) (fun v hv => ?_) fun h' tk d' out h1 h2 kp hd' hn' => ?_
  · have ea : acc'.toList = ks.map fun x => Value.ref x.2.1 := by
      have hl : acc'.toList.length = ks.length := by rw [Array.length_toList, it.1]; exact l1
      apply List.ext_getElem?
      intro j
      rw [List.getElem?_map]
      cases hj : acc'.toList[j]? with
      | none =>
        have h1 := List.getElem?_eq_none_iff.mp hj
        rw [List.getElem?_eq_none (by omega)]
        all_goals rfl
      | some v =>
        obtain ⟨en, hen, hv⟩ := it.2 j v (by rw [← Array.getElem?_toList]; exact hj)
        have qe := entry_at he j
        rw [hen] at qe
        cases hb : ks[j]? with
        | none =>
          rw [hb] at qe
          exact nomatch (show some en = none from qe)
        | some b =>
          rw [hb] at qe
          have e2 : en = entryOfKey (tupleKind (mixKind X.prog X.w)) b := Option.some.inj qe
          rw [hv, e2]
          all_goals rfl
    rw [ea, List.map_map]; all_goals rfl
  · obtain ⟨b, hb, rfl⟩ := List.mem_map.mp hv
    obtain ⟨_, its2, r2, o, ho, hc, n, hd⟩ := I.hok _ _ (hkk b hb)
    obtain ⟨u1, u2, rfl, ri, rj⟩ := vals2 r2
    obtain ⟨t1, rfl⟩ := ri
    obtain ⟨t2, rfl⟩ := rj
    exact ⟨b, o, t1, t2, n, rfl, ho, hc, hd⟩
  · have h3 : ∀ u ∈ out, ∃ a, u = Value.ref a := fun u hu => by
      have := h2.perm.mem_iff.mp hu
      obtain ⟨b, _, rfl⟩ := List.mem_map.mp this
      exact ⟨b, rfl⟩
    obtain ⟨n, hn'⟩ := hn'
    have hb : SrtO.Stb (L2.ltP k) (out.map backV) ((ks.map fun x => x.2.1).map V.ref) := by
      have := SrtO.Stb.map (L2.ltP_swo k) backV h2
      rw [List.map_map] at this
      exact this
    refine ⟨.ref d', upd H d' (.lst (out.map backV)), I.laid (t' := tk) kp hd' ⟨?_, out, n, vals_back h3, hn'⟩, rfl, q _ _ d' ik (SrtO.srtd_map h1) hb (I.hok.fresh hd')⟩
    rw [hb.len, List.length_map, List.length_map]
    omega
section
variable {C : Cn} {X : Addr → Prop} {H : Hp} {σ : L2.St} {Γ Γ' : List Sl} {Q : VK} {α β ρ : Type}
theorem lt2P_swo : SrtO.Swo lt2P := by
  refine ⟨fun x y h => ?_, fun x y z h1 h2 => ?_⟩
  · have a := SrtO.lexB_iff.mp h
    refine SrtO.lexB_no.mpr ?_
    simp only at a ⊢
    omega
  · have a := SrtO.lexB_no.mp h1
    have b := SrtO.lexB_no.mp h2
    refine SrtO.lexB_no.mpr ?_
    simp only at a b ⊢
    omega
theorem lt2P_eq {x y : T2 Int Int} (h : SrtO.eqv lt2P x y = true) : x = y := by
  obtain ⟨h1, h2⟩ := SrtO.eqv_iff.mp h
  have a := SrtO.lexB_no.mp h1
  have b := SrtO.lexB_no.mp h2
  obtain ⟨p, q⟩ := x
  obtain ⟨r, s⟩ := y
  simp only at a b
  have : p = r := by omega
  have : q = s := by omega
  subst_vars; rfl
theorem filt_rep {x : T2 Int Int} (l : List (T2 Int Int)) : l.filter (SrtO.eqv lt2P x) = List.replicate (l.filter (SrtO.eqv lt2P x)).length x :=
  List.eq_replicate_of_mem fun y hy => (lt2P_eq (List.mem_filter.mp hy).2).symm
theorem stb_perm {l m : List (T2 Int Int)} (h : l.Perm m) : SrtO.Stb lt2P l m := ⟨h, fun x => by
  rw [filt_rep l, filt_rep m, (h.filter _).length_eq]⟩
theorem sortP_perm (xs : List (T2 Int Int)) : (sortP xs).Perm xs := List.mergeSort_perm _ _
theorem sortP_srtd (xs : List (T2 Int Int)) : SrtO.Srtd lt2P (sortP xs) := by
  have := List.pairwise_mergeSort (le := fun x y => !lt2P y x) (fun x y z h1 h2 => by
    simp only [Bool.not_eq_true'] at *
    exact lt2P_swo.tr x y z h1 h2) (fun x y => by
    cases e : lt2P y x with
    | false => rfl
    | true => rw [lt2P_swo.asym y x e]; rfl) xs
  exact this.imp fun h => by simpa using h
def kOf (H : Hp) : V → Int × Int
  | .ref b => match H b with
    | some (.tup [.int i, .int j]) => (i, j)
    | _ => (0, 0)
  | _ => (0, 0)
theorem kOf_at {b : Addr} {q : T2 Int Int} (h : H b = some (.tup ((kq q).map kV))) : kOf H (.ref b) = (q.a, q.b) := by
  have h' : H b = some (.tup [.int q.a, .int q.b]) := h
  unfold kOf
  simp only [h']
theorem keys_of [Py β] {K : PySem.W.Frag} : ∀ {kvs : List (T2 Int Int × β)} {ws : List (List L2.Key × V)} {bs : List Addr}, DReps K X H (kvs.map fun e => (kq e.1, enc e.2)) ws → IsKeys H ws bs →
    (∀ b ∈ bs, H b = some (.tup [.int (kOf H (.ref b)).1, .int (kOf H (.ref b)).2])) ∧ bs.map (fun b => (⟨(kOf H (.ref b)).1, (kOf H (.ref b)).2⟩ : T2 Int Int)) = kvs.map (·.1)
  | [], _, _, .nil, .nil => ⟨(fun _ h => nomatch h), rfl⟩
  | (q, c) :: kvs, _, _, .cons r t, .cons (l₂ := bs) (b := b) hb u => by
    obtain ⟨h1, h2⟩ := keys_of t u
    have e := kOf_at hb
    refine ⟨fun x hx => ?_, ?_⟩
    · rcases List.mem_cons.mp hx with z | hx
      · subst z; rw [e]; exact hb
      · exact h1 x hx
    · rw [List.map_cons, List.map_cons, h2, e]
theorem reps_keys {K : PySem.W.Frag} : ∀ {ys : List V}, (∀ y ∈ ys, ∃ b, y = .ref b ∧ H b = some (.tup [.int (kOf H y).1, .int (kOf H y).2])) → Reps K X H ((ys.map fun y => (⟨(kOf H y).1, (kOf H y).2⟩ : T2 Int Int)).map enc) ys
  | [], _ => .nil
  | y :: ys, h => by
    obtain ⟨b, e, hb⟩ := h y List.mem_cons_self
    refine .cons ?_ (reps_keys fun z hz => h z (List.mem_cons_of_mem _ hz))
    rw [e] at hb ⊢
    exact .tup hb (.cons (.int _) (.cons (.int _) .nil))
theorem x_sortedD [Py β] {kvs : List (T2 Int Int × β)} {i : Nat} {p : Addr} (L : Lo C X H σ Γ) (g : Γ[i]? = some (.mu p (md kvs))) (h : ∀ v H1, Lo C X H1 σ Γ → (∀ d u, Rep C.K X H d u → Rep C.K X H1 d u) → Rep C.K X H1 (enc (sortP (kvs.map (·.1)))) v → Q v H1) : rSortedDT [.ref p] H Q := by
  obtain ⟨ws, hw, rw_⟩ := L.mrep g
  refine ⟨p, ws, kOf H, rfl, hw, fun bs ib b hb => (keys_of rw_ ib).1 b hb, fun bs ys q ib hs hb hq => ?_⟩
  obtain ⟨k1, k2⟩ := keys_of rw_ ib
  have es : ys.map (fun y => (⟨(kOf H y).1, (kOf H y).2⟩ : T2 Int Int)) = sortP (kvs.map (·.1)) := by
    refine SrtO.stb_uniq lt2P_swo (SrtO.srtd_map (lt := lt2P) (f := fun y => (⟨(kOf H y).1, (kOf H y).2⟩ : T2 Int Int)) hs) (sortP_srtd _) (stb_perm ?_)
    refine ((hb.perm.map _).trans ?_).trans (sortP_perm _).symm
    rw [List.map_map, ← k2]
    exact List.Perm.refl _
  have s : Same H (upd H q (.lst ys)) := same_upd hq
  have rp : Reps C.K X H ((sortP (kvs.map (·.1))).map enc) ys := by
    rw [← es]
    refine reps_keys fun y hy => ?_
    obtain ⟨b, hb', rfl⟩ := List.mem_map.mp (hb.perm.mem_iff.mp hy)
    exact ⟨b, rfl, k1 b hb'⟩
  have rr : RRep C.K X H (upd H q (.lst ys)) (.new (.lst ((sortP (kvs.map (·.1))).map enc))) (.ref q) := ⟨q, rfl, hq, ys, upd_same, (rp.more hq).keep (.same s)⟩
  exact h _ _ (L.same s) (fun _ _ r => r.keep (.same s)) (rr.imm L.xd)
end
/-! ### name -= e; range downwards; an item of a tuple at a place that is reckoned; a list of the body's own walked over -/
section
variable {C : Cn} {X : Addr → Prop} {H : Hp} {σ : L2.St} {Γ Γ' : List Sl} {Q : VK} {α β τ ρ : Type}
theorem x_aug {i : Nat} {te : TE} {f : Int → Int → Int} {x : Int} {nx bk ct : L2.St → Hp → Prop} {rt : VK} (L : Lo C X H σ Γ) (e : Γ[i]? = some (.imm (.int x))) (h : te σ H fun y H1 => ipI f (.int x) y H1 fun z H2 => nx (σ.set i (some z)) H2) : tAug i te (ipI f) ⟨nx, rt, bk, ct⟩ σ H := by
  obtain ⟨u, e1, r⟩ := L.at_ i _ e
  cases r
  exact ⟨_, e1, h⟩
theorem x_augI {f : Int → Int → Int} {x y : Int} {Q : V → Hp → Prop} (h : Q (.int (f x y)) H) : ipI f (.int x) (.int y) H Q := ⟨x, y, rfl, rfl, h⟩
theorem x_augS {i : Nat} {z : Int} {nx : L2.St → Hp → Prop} (L : Lo C X H σ Γ) (hi : i < C.n) (e : Γ.set i (.imm (.int z)) = Γ') (h : ∀ σ', Lo C X H σ' Γ' → nx σ' H) : nx (σ.set i (some (.int z))) H := by
  subst e
  exact h _ (L.set (.int z) hi)
theorem x_ixTv [Py α] {xs : List α} {i : Int} {v : V} {k : α → Option ρ} {r : ρ} (q : Rep C.K X H (.tuple (xs.map enc)) v) (hm : (ix xs i).bind k = some r) (h : ∀ x u, k x = some r → Rep C.K X H (enc x) u → Q u H) : rIxT C.K v (.int i) H Q := by
  obtain ⟨x, hx, hk⟩ := ob hm
  refine x_ixT q ?_ fun u ru => h x u hk ru
  rw [atI_map]
  unfold ix at hx
  rw [hx]; rfl
end
structure T6 (α β γ δ ε ζ : Type) where
  a : α
  b : β
  c : γ
  d : δ
  e : ε
  f : ζ
  deriving DecidableEq
instance {α β γ δ ε ζ : Type} [Py α] [Py β] [Py γ] [Py δ] [Py ε] [Py ζ] : Py (T6 α β γ δ ε ζ) := ⟨fun x => .tuple [enc x.a, enc x.b, enc x.c, enc x.d, enc x.e, enc x.f]⟩
def downL (lo : Int) (n : Nat) : List Int := (List.range n).map fun (k : Nat) => lo + (k : Int) * -1
def KForC (lo c : Int) (n : Nat) (g : TG) (tb : TS) (D : Ends) (σ : L2.St) (H : Hp) : Prop := ∃ W : Nat → Nat → L2.St → Hp → Prop, (∃ m, W 0 m σ H) ∧ ∀ i m σ H, W i m σ H →
      ((Itc lo c n).stop i H ∧ D.nx σ H) ∨ ((Itc lo c n).go i H ∧ ∃ N : L2.St → Hp → Prop, (∀ σ' H', N σ' H' → ∃ m', m' < m ∧ W (i + 1) m' σ' H') ∧ ∀ x' H', (Itc lo c n).yld i H x' H' → g x' σ H' fun σ2 H2 => tb { D with nx := N, ct := N, bk := D.nx } σ2 H2)
def KRng3 (R : Int → Int → Nat → Hp → Prop) : List V → Hp → Prop := fun vs H => ∃ (i j c : Int) (n : Nat), vs = [.int i, .int j, .int c] ∧ RgC i j c n ∧ R i c n H
section
variable {C : Cn} {X : Addr → Prop} {H : Hp} {σ : L2.St} {Γ Γ' : List Sl} {Q : VK} {α β τ ρ : Type}
theorem x_tforR3 {ta : TA} {g : TG} {tb : TS} {D : Ends} (h : ta σ H (KRng3 fun lo c n H => KForC lo c n g tb D σ H)) : tFor (iRng3 ta) g tb D σ H := h
theorem x_r3 {a b : Int} {R : Int → Int → Nat → Hp → Prop} {k : Unit → Option ρ} {r : ρ} (hm : ((rngOk a).bind fun _ => rngOk b).bind k = some r) (h : k () = some r → R a (-1) (a - b).toNat H) : KRng3 R [.int a, .int b, .int (-1)] H := by
  obtain ⟨_, h0, hk⟩ := ob hm
  obtain ⟨_, h1, h2⟩ := ob h0
  have a1 : -(2 ^ 62) ≤ a ∧ a < 2 ^ 62 := by
    unfold rngOk at h1
    split at h1
    · omega
    · cases h1
  have a2 : -(2 ^ 62) ≤ b ∧ b < 2 ^ 62 := by
    unfold rngOk at h2
    split at h2
    · omega
    · cases h2
  exact ⟨a, b, -1, _, rfl, RgC.neg a1.1 a1.2 a2.1 a2.2, h hk⟩
theorem x_forD {f : Int → τ → Option (Lp τ ρ)} {G : τ → List Sl} {ps : ρ → List (Addr × MO)} {rs : ρ → Rs} {s0 : τ} {o : Lp τ ρ} {lo : Int} {n : Nat} {g : TG} {tb : TS} {nx bk ct : L2.St → Hp → Prop} {rt : VK}
    (L : Lo C X H σ (G s0)) (hG : ∀ s s', muts (G s) = muts (G s')) (hm : loopL f (downL lo n) s0 = some o)
    (body : ∀ x s, Body C X G ps rs (enc x) s (f x s) g tb)
    (done : ∀ s, o = .nxt s → ∀ σ' H', Lo C X H' σ' (G s) → nx σ' H') (brk : ∀ s, o = .brk s → ∀ σ' H', Lo C X H' σ' (G s) → nx σ' H')
    (ret : ∀ q, o = .ret q → ∀ v H', Fin C.K C.X0 C.H0 C.P0 (ps q) (rs q) v H' → rt v H') :
    KForC lo (-1) n g tb ⟨nx, rt, bk, ct⟩ σ H := by
  have hlen : (downL lo n).length = n := by unfold downL; rw [List.length_map, List.length_range]
  refine ⟨fun i m σ' H' => m = n - i ∧ i ≤ n ∧ ∃ s, Lo C X H' σ' (G s) ∧ loopL f ((downL lo n).drop i) s = some o, ⟨n, by simp, Nat.zero_le _, s0, L, hm⟩, ?_⟩
  rintro i m σ' H' ⟨rfl, hi, s, L', hm'⟩
  by_cases hlt : i < n
  · refine .inr ⟨hlt, fun σ'' H'' => i + 1 ≤ n ∧ ∃ s, Lo C X H'' σ'' (G s) ∧ loopL f ((downL lo n).drop (i + 1)) s = some o, fun σ'' H'' p' => ⟨n - (i + 1), by omega, rfl, p'⟩, ?_⟩
    rintro v H2 ⟨rfl, rfl⟩
    have hx : (downL lo n)[i]? = some (lo + (i : Int) * -1) := by
      unfold downL
      rw [List.getElem?_map, List.getElem?_range hlt]; rfl
    obtain ⟨o1, h1, h2, h3, h4⟩ := loop_drop hx hm'
    refine body _ s _ σ' _ _ _ _ _ o1 h1 L'.enter L'.dom (.int _) ?_ ?_ ?_ ?_
    · intro s' e X' σ'' H'' L''
      exact ⟨hlt, s', L'.leave L'' (hG _ _), h2 s' e⟩
    · intro s' e X' σ'' H'' L''
      exact ⟨hlt, s', L'.leave L'' (hG _ _), h2 s' e⟩
    · intro s' e X' σ'' H'' L''
      exact brk s' (h3 s' e) _ _ (L'.leave L'' (hG _ _))
    · intro q e v' H'' F
      exact ret q (h4 q e) v' H'' (F.leave L')
  · have : i = n := by omega
    subst this
    rw [List.drop_eq_nil_of_le (by omega)] at hm'
    exact .inl ⟨Nat.le_refl _, done s (Option.some.inj hm').symm _ _ L'⟩
theorem x_foD {f : Int → τ → Option τ} {G : τ → List Sl} {s0 : τ} {lo : Int} {n : Nat} {g : TG} {tb : TS} {nx bk ct : L2.St → Hp → Prop} {rt : VK} {k : τ → Option ρ} {res : ρ}
    (L : Lo C X H σ (G s0)) (hG : ∀ s s', muts (G s) = muts (G s')) (hm : (foldO f (downL lo n) s0).bind k = some res)
    (body : ∀ x s, BodyO C X G (enc x) s (f x s) g tb) (done : ∀ s σ' H', k s = some res → Lo C X H' σ' (G s) → nx σ' H') : KForC lo (-1) n g tb ⟨nx, rt, bk, ct⟩ σ H := by
  obtain ⟨s1, h1, h2⟩ := ob hm
  exact x_forD (ρ := Empty) (o := .nxt s1) (ps := fun _ => []) (rs := fun _ => .imm .none) L hG (foldO_loop h1) (fun x s => (body x s).body) (fun s e σ' H' L' => by cases e; exact done _ _ _ h2 L') (fun s e => nomatch e) (fun q => nomatch q)
/-! a list of the body's own is walked over, and stays -/
theorem muts_set {s s' : Sl} {p : Addr} (e1 : s.ad = none) (e2 : s'.ad = some p) : ∀ {Γ : List Sl} {i : Nat}, Γ[i]? = some s → (muts (Γ.set i s')).Perm (p :: muts Γ)
  | [], _, h => by simp at h
  | t :: Γ, 0, h => by
    simp at h; subst h
    show (List.filterMap _ _).Perm (p :: List.filterMap _ _)
    rw [List.set_cons_zero, List.filterMap_cons, List.filterMap_cons, e1, e2]
  | t :: Γ, i + 1, h => by
    have ih := muts_set e1 e2 (Γ := Γ) (i := i) (by simpa using h)
    unfold muts at ih ⊢
    rw [List.set_cons_succ, List.filterMap_cons, List.filterMap_cons]
    cases t.ad with
    | none => exact ih
    | some q => exact (ih.cons q).trans (List.Perm.swap p q _)
theorem set_back {i : Nat} {s s' : Sl} {Γ : List Sl} (h : Γ[i]? = some s) : (Γ.set i s').set i s = Γ := by
  rw [List.set_set]
  exact List.ext_getElem? fun k => by
    rw [List.getElem?_set]
    split
    · next z =>
      subst z
      rw [if_pos (List.getElem?_eq_some_iff.mp h).1, h]
    · rfl
theorem Lo.unmu {i : Nat} {p : Addr} {o : MO} (L : Lo C X H σ Γ) (g : Γ[i]? = some (.mu p o)) : Lo C X H σ (Γ.set i (.ref p)) ∧ p ∉ muts (Γ.set i (.ref p)) := by
  have hil := (List.getElem?_eq_some_iff.mp g).1
  have hp := muts_set (s := .ref p) (s' := .mu p o) (p := p) rfl rfl (Γ := Γ.set i (.ref p)) (i := i) (by rw [List.getElem?_set_self hil])
  rw [set_back g] at hp
  have nd := hp.nodup_iff.mp L.nd
  obtain ⟨n1, n2⟩ := List.nodup_cons.mp nd
  refine ⟨⟨L.len, fun j t hj => ?_, n2, fun q hq => L.mx q (hp.mem_iff.mpr (List.mem_cons_of_mem _ hq)), L.m0, L.xd, L.base, L.dom, fun q hq => L.own q (hp.mem_iff.mpr (List.mem_cons_of_mem _ hq)), L.tf⟩, n1⟩
  by_cases z : j = i
  · subst z
    rw [List.getElem?_set_self hil] at hj
    cases hj
    exact (L.at_ j _ g).1
  · rw [List.getElem?_set_ne (Ne.symm z)] at hj
    exact L.at_ j t hj
theorem Lo.remu {i : Nat} {p : Addr} {o : MO} (L : Lo C X H σ Γ) (g : Γ[i]? = some (.ref p)) (n : p ∉ muts Γ) (hx : X p) (ho : p ∈ C.P0 ∨ C.H0 p = none) (r : MRep C.K X H p o) : Lo C X H σ (Γ.set i (.mu p o)) := by
  have hil := (List.getElem?_eq_some_iff.mp g).1
  have hp := muts_set (s := .ref p) (s' := .mu p o) (p := p) rfl rfl g
  refine ⟨L.len, fun j t hj => ?_, hp.nodup_iff.mpr (List.nodup_cons.mpr ⟨n, L.nd⟩), fun q hq => ?_, L.m0, L.xd, L.base, L.dom, fun q hq => ?_, L.tf⟩
  · by_cases z : j = i
    · subst z
      rw [List.getElem?_set_self hil] at hj
      cases hj
      exact ⟨L.at_ j _ g, r⟩
    · rw [List.getElem?_set_ne (Ne.symm z)] at hj
      exact L.at_ j t hj
  · rcases List.mem_cons.mp (hp.mem_iff.mp hq) with z | z
    · rw [z]; exact hx
    · exact L.mx q z
  · rcases List.mem_cons.mp (hp.mem_iff.mp hq) with z | z
    · rw [z]; exact ho
    · exact L.own q z
theorem x_forM [Py α] {xs : List α} {f : α → τ → Option (Lp τ ρ)} {G : τ → List Sl} {ps : ρ → List (Addr × MO)} {rs : ρ → Rs} {s0 : τ} {o : Lp τ ρ} {i : Nat} {p : Addr} {g : TG} {tb : TS} {nx bk ct : L2.St → Hp → Prop} {rt : VK}
    (L : Lo C X H σ Γ) (g0 : Γ[i]? = some (.mu p (ml xs))) (e0 : Γ.set i (.ref p) = G s0) (hG : ∀ s s', muts (G s) = muts (G s')) (gG : ∀ s, (G s)[i]? = some (.ref p)) (hm : loopL f xs s0 = some o)
    (body : ∀ x s, Body C X G ps rs (enc x) s (f x s) g tb)
    (done : ∀ s, o = .nxt s → ∀ σ' H', Lo C X H' σ' ((G s).set i (.mu p (ml xs))) → nx σ' H') (brk : ∀ s, o = .brk s → ∀ σ' H', Lo C X H' σ' ((G s).set i (.mu p (ml xs))) → nx σ' H')
    (ret : ∀ q, o = .ret q → ∀ v H', Fin C.K C.X0 C.H0 C.P0 (ps q) (rs q) v H' → rt v H') :
    KForL C.K g tb ⟨nx, rt, bk, ct⟩ σ (.ref p) H := by
  obtain ⟨L1, np⟩ := L.unmu g0
  rw [e0] at L1 np
  obtain ⟨vs, hv, hr⟩ := L.mrep g0
  have hx : X p := L.mx p (mem_muts.mpr ⟨i, _, g0, rfl⟩)
  have ho := L.own p (mem_muts.mpr ⟨i, _, g0, rfl⟩)
  have back : ∀ s σ' H', Lo C X H' σ' (G s) → H' p = some (.lst vs) → Reps C.K X H' (xs.map enc) vs → Lo C X H' σ' ((G s).set i (.mu p (ml xs))) := fun s σ' H' M h1 h2 => M.remu (gG s) (by rw [hG s s0]; exact np) hx ho ⟨vs, h1, h2⟩
  refine ⟨p, rfl, ⟨vs, .inl (.inl hv)⟩, for_list (K := C.K) (a := p) (xs := vs) (fun i σ' H' => ∃ s, Lo C X H' σ' (G s) ∧ Reps C.K X H' (xs.map enc) vs ∧ H' p = some (.lst vs) ∧ loopL f (xs.drop i) s = some o)
    ⟨s0, L1, hr, hv, hm⟩ (fun i σ' H' _ ⟨s, _, _, h, _⟩ => .inl (.inl h)) ?_ ?_⟩
  · rintro j y σ' H' hy ⟨s, L', r', hd', hm'⟩
    obtain ⟨d, hd, rd⟩ := r'.get' hy
    rw [List.getElem?_map] at hd
    cases hx : xs[j]? with
    | none => rw [hx] at hd; cases hd
    | some x =>
      rw [hx] at hd
      cases hd
      obtain ⟨o1, h1, h2, h3, h4⟩ := loop_drop hx hm'
      have st : ∀ {X' : Addr → Prop} {σ'' : L2.St} {H'' : Hp} {s' : τ}, Lo (C.at_ X H' (G s)) X' H'' σ'' (G s') → H'' p = some (.lst vs) := fun M => M.base p _ hd' (by show p ∉ muts (G s); rw [hG s s0]; exact np)
      refine body x s H' σ' y _ _ _ _ o1 h1 L'.enter L'.dom rd ?_ ?_ ?_ ?_
      · intro s' e X' σ'' H'' L''
        exact ⟨s', L'.leave L'' (hG _ _), r'.keep (L'.keep L''), st L'', h2 s' e⟩
      · intro s' e X' σ'' H'' L''
        exact ⟨s', L'.leave L'' (hG _ _), r'.keep (L'.keep L''), st L'', h2 s' e⟩
      · intro s' e X' σ'' H'' L''
        exact brk s' (h3 s' e) _ _ (back _ _ _ (L'.leave L'' (hG _ _)) (st L'') (r'.keep (L'.keep L'')))
      · intro q e v' H'' F
        exact ret q (h4 q e) v' H'' (F.leave L')
  · rintro σ' H' ⟨s, L', r', hd', hm'⟩
    rw [r'.length, List.length_map, List.drop_length] at hm'
    exact done s (Option.some.inj hm').symm _ _ (back _ _ _ L' hd' r')
theorem x_flM [Py α] {xs : List α} {f : α → τ → Option (Lp τ ρ)} {G : τ → List Sl} {ps : ρ → List (Addr × MO)} {rs : ρ → Rs} {s0 : τ} {i : Nat} {p : Addr} {g : TG} {tb : TS} {nx bk ct : L2.St → Hp → Prop} {rt : VK} {k : τ → Option β} {j : ρ → Option β} {res : β}
    (L : Lo C X H σ Γ) (g0 : Γ[i]? = some (.mu p (ml xs))) (e0 : Γ.set i (.ref p) = G s0) (hG : ∀ s s', muts (G s) = muts (G s')) (gG : ∀ s, (G s)[i]? = some (.ref p)) (hm : (loopL f xs s0).bind (fun o => o.out j k) = some res)
    (body : ∀ x s, Body C X G ps rs (enc x) s (f x s) g tb) (done : ∀ s σ' H', k s = some res → Lo C X H' σ' ((G s).set i (.mu p (ml xs))) → nx σ' H')
    (ret : ∀ q v H', j q = some res → Fin C.K C.X0 C.H0 C.P0 (ps q) (rs q) v H' → rt v H') : KForL C.K g tb ⟨nx, rt, bk, ct⟩ σ (.ref p) H := by
  obtain ⟨o, h1, h2⟩ := ob hm
  exact x_forM L g0 e0 hG gG h1 body (fun s e σ' H' L' => done _ _ _ (by rw [e] at h2; exact h2) L') (fun s e σ' H' L' => done _ _ _ (by rw [e] at h2; exact h2) L') (fun q e v H' F => ret _ _ _ (by rw [e] at h2; exact h2) F)
end
theorem Lax.dp {K : PySem.W.Frag} {q : T2 Int Int} {v : V} {H : Hp} (r : Lax K q v H) : Dp K H v (enc q) := by
  obtain ⟨a, rfl, h⟩ := r
  exact .tup h (.cons (.int _) (.cons (.int _) .nil))
/-! ### and, or: the second half may write -/
section
variable {C : Cn} {X : Addr → Prop} {H : Hp} {σ : L2.St} {Γ Γ' : List Sl} {Q : VK} {τ ρ : Type}
theorem x_andVG {A : Bool} {m : Option (Bool × τ)} {k : Bool × τ → Option ρ} {r : ρ} {u : TE} {G : τ → List Sl} {s0 : τ} (L : Lo C X H σ (G s0)) (hm : (if A = true then m else some (false, s0)).bind k = some r)
    (hu : ∀ b, m = some b → ∀ Q' : VK, (∀ X2 H2, Lo C X2 H2 σ (G b.2) → Q' (.bl b.1) H2) → u σ H Q') (h : ∀ b X2 H2, k b = some r → Lo C X2 H2 σ (G b.2) → Q (.bl b.1) H2) : KAndV u σ Q A H := by
  cases A with
  | true =>
    obtain ⟨b, e, hk⟩ := ob hm
    exact hu b e Q fun X2 H2 l => h b X2 H2 hk l
  | false => exact h (false, s0) X H hm L
theorem x_orVG {A : Bool} {m : Option (Bool × τ)} {k : Bool × τ → Option ρ} {r : ρ} {u : TE} {G : τ → List Sl} {s0 : τ} (L : Lo C X H σ (G s0)) (hm : (if A = true then some (true, s0) else m).bind k = some r)
    (hu : ∀ b, m = some b → ∀ Q' : VK, (∀ X2 H2, Lo C X2 H2 σ (G b.2) → Q' (.bl b.1) H2) → u σ H Q') (h : ∀ b X2 H2, k b = some r → Lo C X2 H2 σ (G b.2) → Q (.bl b.1) H2) : KOrV u σ Q A H := by
  cases A with
  | false =>
    obtain ⟨b, e, hk⟩ := ob hm
    exact hu b e Q fun X2 H2 l => h b X2 H2 hk l
  | true => exact h (true, s0) X H hm L
theorem x_andG {A : Bool} {m : Option (Bool × τ)} {k : Bool × τ → Option ρ} {r : ρ} {u : TT} {Q : Bool → Hp → Prop} {G : τ → List Sl} {s0 : τ} (L : Lo C X H σ (G s0)) (hm : (if A = true then m else some (false, s0)).bind k = some r)
    (hu : ∀ b, m = some b → ∀ Q' : Bool → Hp → Prop, (∀ X2 H2, Lo C X2 H2 σ (G b.2) → Q' b.1 H2) → u σ H Q') (h : ∀ b X2 H2, k b = some r → Lo C X2 H2 σ (G b.2) → Q b.1 H2) : KAnd u σ Q A H := by
  cases A with
  | true =>
    obtain ⟨b, e, hk⟩ := ob hm
    exact hu b e Q fun X2 H2 l => h b X2 H2 hk l
  | false => exact h (false, s0) X H hm L
theorem x_orG {A : Bool} {m : Option (Bool × τ)} {k : Bool × τ → Option ρ} {r : ρ} {u : TT} {Q : Bool → Hp → Prop} {G : τ → List Sl} {s0 : τ} (L : Lo C X H σ (G s0)) (hm : (if A = true then some (true, s0) else m).bind k = some r)
    (hu : ∀ b, m = some b → ∀ Q' : Bool → Hp → Prop, (∀ X2 H2, Lo C X2 H2 σ (G b.2) → Q' b.1 H2) → u σ H Q') (h : ∀ b X2 H2, k b = some r → Lo C X2 H2 σ (G b.2) → Q b.1 H2) : KOr u σ Q A H := by
  cases A with
  | false =>
    obtain ⟨b, e, hk⟩ := ob hm
    exact hu b e Q fun X2 H2 l => h b X2 H2 hk l
  | true => exact h (true, s0) X H hm L
theorem x_lfTG {G : τ → List Sl} {B : Bool} {e : τ} {b : Bool × τ} {Q' : Bool → Hp → Prop} (hm : some (B, e) = some b) (hQ : ∀ X2 H2, Lo C X2 H2 σ (G b.2) → Q' b.1 H2) (L : Lo C X H σ (G e)) : Q' B H := by cases hm; exact hQ _ _ L
theorem x_lfVG {G : τ → List Sl} {B : Bool} {e : τ} {b : Bool × τ} {Q' : VK} (hm : some (B, e) = some b) (hQ : ∀ X2 H2, Lo C X2 H2 σ (G b.2) → Q' (.bl b.1) H2) (L : Lo C X H σ (G e)) : Q' (.bl B) H := by cases hm; exact hQ _ _ L
end
/-! ### dict(a list of pairs), keys tuples -/
def mergeT (kvs : List (List L2.Key × V)) (ps : List (List L2.Key × V)) : List (List L2.Key × V) := ps.foldl (fun a p => putK a p.1 p.2) kvs
def rDictPT (K : PySem.W.Frag) : List V → Hp → VK → Prop := fun xs H Q => ∃ (a : Addr) (ps : List Addr) (kvs : List (List L2.Key × Addr × V)), xs = [.ref a] ∧ SqL K H a (ps.map V.ref) ∧ Paired (fun p (kv : List L2.Key × Addr × V) => SqT K H p [V.ref kv.2.1, kv.2.2] ∧ H kv.2.1 = some (.tup (kv.1.map kV))) ps kvs ∧
    ∀ p, H p = none → Q (.ref p) (upd H p (.dT (mergeT [] (kvs.map fun kv => (kv.1, kv.2.2)))))
section
variable {X : Cx}
theorem pairsT_of {pins : List (Addr × Obj)} {σ : L2.St} {H : Hp} {s : Shared} (I : Inv X pins σ H s) : ∀ {ps : List Addr} {kvs : List (List L2.Key × Addr × V)}, Paired (fun p (kv : List L2.Key × Addr × V) => SqT X.K H p [V.ref kv.2.1, kv.2.2] ∧ H kv.2.1 = some (.tup (kv.1.map kV))) ps kvs →
    ∃ xs : List (List L2.Key × Addr × Value), KT H (kvs.map fun kv => (kv.1, kv.2.2)) xs ∧ xs.length = ps.length ∧ ∀ (j : Nat) (q : List L2.Key × Addr × Value), xs[j]? = some q → ∃ b, ps[j]? = some b ∧ IsTup s.heap b #[Value.ref q.2.1, q.2.2]
  | _, _, .nil => ⟨[], .nil, rfl, fun j q e => by simp at e⟩
  | _, _, .cons (a := p) (b := kv) h t => by
    obtain ⟨xs, r, hl, hp⟩ := pairsT_of I t
    obtain ⟨its, rv, ht, _⟩ := I.tuple h.1
    obtain ⟨u, y, ei, ru, ry⟩ := vals2 rv
    subst ei
    obtain rfl : u = Value.ref kv.2.1 := ru
    refine ⟨(kv.1, kv.2.1, y) :: xs, .cons ⟨rfl, h.2, ry⟩ r, by rw [List.length_cons, List.length_cons, hl], fun j q e => ?_⟩
    cases j with
    | zero =>
      have e' : (kv.1, kv.2.1, y) = q := Option.some.inj e
      subst e'
      exact ⟨p, rfl, ht⟩
    | succ j =>
      obtain ⟨b, e1, e2⟩ := hp j q (by simpa using e)
      exact ⟨b, by simpa using e1, e2⟩
theorem KT_merge {H : Hp} : ∀ {ps : List (List L2.Key × V)} {xs : List (List L2.Key × Addr × Value)} {kvs : List (List L2.Key × V)} {ys : List (List L2.Key × Addr × Value)}, KT H ps xs → KT H kvs ys → KT H (mergeT kvs ps) (storedAllH ys xs)
  | _, _, _, _, .nil, r => r
  | _, _, _, _, .cons (a := p) (b := x) h t, r => by
    show KT H (mergeT (putK _ p.1 p.2) _) (storedAllH (storedH _ x.1 x.2.1 x.2.2) _)
    refine KT_merge t ?_
    rw [← h.1]
    exact r.put p.1 h.2.1 h.2.2
theorem KT_all {P : Program} {w : World} {H : Hp} {h : Heap} (ok : HOk P w H h) : ∀ {l : List (List L2.Key × V)} {m : List (List L2.Key × Addr × Value)}, KT H l m → ∀ x ∈ m, (tupleKind (mixKind P w)).is h x.1 x.2.1
  | _, _, .nil, x, hx => nomatch hx
  | _, _, .cons (b := q) hq t, x, hx => by
    rcases List.mem_cons.mp hx with e | hx
    · subst e
      exact key_of ok (by rw [← hq.1]; exact hq.2.1)
    · exact KT_all ok t x hx
theorem mergeT_len : ∀ (ps kvs : List (List L2.Key × V)), (mergeT kvs ps).length ≤ kvs.length + ps.length
  | [], kvs => Nat.le_refl _
  | p :: ps, kvs => by
    have h1 := mergeT_len ps (putK kvs p.1 p.2)
    have h2 : (putK kvs p.1 p.2).length ≤ kvs.length + 1 := by
      unfold putK
      split
      · rw [List.length_map]; omega
      · simp
    show (mergeT (putK kvs p.1 p.2) ps).length ≤ _
    rw [List.length_cons]; omega
theorem cr_dictPT (hcalm : X.calm = true) (hu : X.A.units + 64 < cLine) : CallR X (.type "dict") (rDictPT X.K) := by
  intro pins s σ H xs us Q I r q
  obtain ⟨a, ps, kvs, ex, hq, hp, q⟩ := q
  subst ex
  obtain ⟨u, eu, rx⟩ := vals1 r
  subst eu
  cases rx
  obtain ⟨its, rv, pl, hz⟩ := I.list hq
  have ei := refs_at rv
  subst ei
  rw [List.length_map] at hz
  obtain ⟨ks, rel, hl, hpr⟩ := pairsT_of I hp
  obtain ⟨prs, hprd⟩ : ∃ prs : List (Value × Value), prs = ks.map fun k => (Value.ref k.2.1, k.2.2) := ⟨_, rfl⟩
  have hpl : prs.length = ks.length := by simp [hprd]
  have hprs : ∀ (j : Nat) (k v : Value), prs[j]? = some (k, v) → ∃ q : List L2.Key × Addr × Value, ks[j]? = some q ∧ k = Value.ref q.2.1 ∧ v = q.2.2 := fun j k v e => by
    rw [hprd, List.getElem?_map] at e
    obtain ⟨q, e1, e2⟩ := Option.map_eq_some_iff.mp e
    cases e2
    exact ⟨q, e1, rfl, rfl⟩
  have stay := (tupleKind_stays (prog := X.prog) (w := X.w) (knd := mixKind X.prog X.w))
  refine call_dict_pairsH (knd := tupleKind (mixKind X.prog X.w)) (ps := ks) (PairArg.list a (ps.map Value.ref).toArray (fun j => ps.getD j 0) prs) (I.ok.hd hcalm) ?hu ⟨pl, ?ok⟩ ⟨by rw [hpl], fun i key v e => ?hv⟩ ?st ?sz fun h' tk hd' hk => ?_
  case hu => show X.A.units + 1 + 1 < cLine; omega
  case ok =>
    refine ⟨by simp [hpl, hl], fun j k v e => ?_⟩
    obtain ⟨q', e1, e2, e3⟩ := hprs j k v e
    obtain ⟨b, e4, e5⟩ := hpr j q' e1
    subst e2; subst e3
    refine ⟨by simp [e4], .inl ?_⟩
    show s.heap.IsTuple (ps.getD j 0) _
    rw [List.getD_eq_getElem?_getD, e4]
    exact e5
  case hv =>
    obtain ⟨q', e1, e2, e3⟩ := hprs i key v e
    exact ⟨q'.1, q'.2.1, by rw [e1, e3], e2⟩
  case st =>
    intro h1 hk x hx
    exact stay.stays (fun b o vs n e _ => hk b o (Nat.ne_of_lt (Heap.lt_size e)) (fun z => nomatch z) e) (KT_all I.hok rel x hx)
  case sz => rw [hpl, hl]; exact hz
  have hm : (s.heap.objs.size == sysModules) = false := beq_eq_false_iff_ne.mpr (Nat.ne_of_gt I.big)
  have hlen : (mergeT [] (kvs.map fun kv => (kv.1, kv.2.2))).length ≤ sizeLine := by
    refine Nat.le_trans (mergeT_len _ _) ?_
    have : (kvs.map fun kv => (kv.1, kv.2.2)).length = ks.length := Paired.length rel
    rw [List.length_nil, Nat.zero_add, this, hl]
    exact hz
  obtain ⟨o, es, ep, d1, d2, d3, d4, _, d5⟩ := hd'
  exact ⟨.ref s.heap.objs.size, upd H s.heap.objs.size (.dT (mergeT [] (kvs.map fun kv => (kv.1, kv.2.2)))), I.laid (t' := tk) (fun b o e => hk b o (fun z => nomatch z) e) (Nat.le_refl _) (show ObjOk X.prog X.w _ _ _ (.dT _) from ⟨hlen, hm, storedAllH [] ks, KT_merge (rel.keeps fun b ys e => by rw [upd_ne fun z => by rw [z, I.hok.fresh (Nat.le_refl _)] at e; cases e]; exact e) .nil, o, es, ep, d1, d2, d3, d4, d5⟩), rfl, q _ (I.hok.fresh (Nat.le_refl _))⟩
end
def dictM {β : Type} (ps : List (T2 (T2 Int Int) β)) : List (T2 Int Int × β) := ps.foldl (fun kvs p => dputM kvs p.a p.b) []
section
variable {C : Cn} {X : Addr → Prop} {H : Hp} {σ : L2.St} {Γ Γ' : List Sl} {Q : VK} {α β τ ρ : Type}
theorem dreps_merge [Py β] {K : PySem.W.Frag} : ∀ {ps : List (T2 (T2 Int Int) β)} {kvs : List (T2 Int Int × β)} {ws us : List (List L2.Key × V)}, DReps K X H (kvs.map fun e => (kq e.1, enc e.2)) ws → DReps K X H (ps.map fun p => (kq p.a, enc p.b)) us →
    DReps K X H ((ps.foldl (fun kvs p => dputM kvs p.a p.b) kvs).map fun e => (kq e.1, enc e.2)) (mergeT ws us)
  | [], _, _, _, r, .nil => r
  | p :: ps, _, _, _, r, .cons (v := v) h t => by
    show DReps K X H ((ps.foldl (fun kvs p => dputM kvs p.a p.b) (dputM _ p.a p.b)).map _) (mergeT (putK _ (kq p.a) v) _)
    exact dreps_merge (dreps_put r h) t
theorem pairs_rep [Py β] {K : PySem.W.Frag} : ∀ {ps : List (T2 (T2 Int Int) β)} {vs : List V}, Reps K X H (ps.map enc) vs →
    ∃ (as : List Addr) (kvs : List (List L2.Key × Addr × V)), vs = as.map V.ref ∧ Paired (fun p (kv : List L2.Key × Addr × V) => SqT K H p [V.ref kv.2.1, kv.2.2] ∧ H kv.2.1 = some (.tup (kv.1.map kV))) as kvs ∧ DReps K X H (ps.map fun p => (kq p.a, enc p.b)) (kvs.map fun kv => (kv.1, kv.2.2))
  | [], _, .nil => ⟨[], [], rfl, .nil, .nil⟩
  | p :: ps, _, .cons r t => by
    obtain ⟨as, kvs, e, h1, h2⟩ := pairs_rep t
    obtain ⟨a, us, rfl, h, q⟩ := rep_tupS (ds := [enc p.a, enc p.b]) r
    cases q with
    | cons q1 q => cases q with
      | cons q2 q =>
        cases q
        obtain ⟨b, rfl, hb⟩ := key_rep q1
        exact ⟨a :: as, (kq p.a, b, _) :: kvs, by rw [e]; rfl, .cons ⟨.inl (.inl h), hb⟩ h1, .cons q2 h2⟩
theorem x_dictP [Py β] {ps : List (T2 (T2 Int Int) β)} {v : V} (L : Lo C X H σ Γ) (r : Rep C.K X H (enc ps) v) (h : ∀ p X' H1, C.H0 p = none → ¬ C.X0 p → Lo C X' H1 σ (Γ ++ [.tmp p (md (dictM ps))]) → (∀ d u, Rep C.K X H d u → Rep C.K X' H1 d u) → Q (.ref p) H1) : rDictPT C.K [v] H Q := by
  obtain ⟨a, vs, rfl, _, hs, q⟩ := rep_lst (ds := ps.map enc) r
  obtain ⟨as, kvs, e, h1, h2⟩ := pairs_rep q
  refine ⟨a, as, kvs, rfl, .inl (by rw [← e]; exact hs), h1, fun p hp => ?_⟩
  have s : Same H (upd H p (.dT (mergeT [] (kvs.map fun kv => (kv.1, kv.2.2))))) := same_upd hp
  obtain ⟨L1, le, h0, hx⟩ := L.lay (o := md (dictM ps)) hp s ⟨_, upd_same, ((dreps_merge (kvs := []) .nil h2).more hp).keep (.same s)⟩
  exact h p _ _ h0 hx L1 le
def rListDT : List V → Hp → VK → Prop := fun xs H Q => ∃ d kvs, xs = [V.ref d] ∧ Rd H d (.dT kvs) ∧ ∀ p bs, H p = none → IsKeys H kvs bs → Q (.ref p) (upd H p (.lst (bs.map V.ref)))
theorem call_listDT {Xc : Cx} (hc : Xc.calm = true) : CallR Xc (.type "list") rListDT := call_list_dT hc
theorem x_listD [Py β] {kvs : List (T2 Int Int × β)} {i : Nat} {p : Addr} (L : Lo C X H σ Γ) (g : Γ[i]? = some (.mu p (md kvs))) (h : ∀ v H1, Lo C X H1 σ Γ → (∀ d u, Rep C.K X H d u → Rep C.K X H1 d u) → Rep C.K X H1 (enc (kvs.map (·.1))) v → Q v H1) : rListDT [.ref p] H Q := by
  obtain ⟨ws, hw, rw_⟩ := L.mrep g
  refine ⟨p, ws, rfl, .inl hw, fun q bs hq ib => ?_⟩
  obtain ⟨k1, k2⟩ := keys_of rw_ ib
  have s : Same H (upd H q (.lst (bs.map V.ref))) := same_upd hq
  have rp : Reps C.K X H ((kvs.map (·.1)).map enc) (bs.map V.ref) := by
    have := reps_keys (K := C.K) (X := X) (H := H) (ys := bs.map V.ref) fun y hy => by
      obtain ⟨b, hb', rfl⟩ := List.mem_map.mp hy
      exact ⟨b, rfl, k1 b hb'⟩
    rw [List.map_map (l := bs)] at this
    rw [← k2]
    exact this
  have rr : RRep C.K X H (upd H q (.lst (bs.map V.ref))) (.new (.lst ((kvs.map (·.1)).map enc))) (.ref q) := ⟨q, rfl, hq, _, upd_same, (rp.more hq).keep (.same s)⟩
  exact h _ _ (L.same s) (fun _ _ r => r.keep (.same s)) (rr.imm L.xd)
theorem keys_rep {K : PySem.W.Frag} : ∀ {xs : List (T2 Int Int)} {vs : List V}, Reps K X H (xs.map enc) vs → (∀ y ∈ vs, ∃ b, y = .ref b ∧ H b = some (.tup [.int (kOf H y).1, .int (kOf H y).2])) ∧ vs.map (fun y => (⟨(kOf H y).1, (kOf H y).2⟩ : T2 Int Int)) = xs
  | [], _, .nil => ⟨fun _ h => (nomatch h), rfl⟩
  | x :: xs, _, .cons r t => by
    obtain ⟨h1, h2⟩ := keys_rep t
    obtain ⟨b, rfl, hb⟩ := key_rep r
    have e := kOf_at (q := x) hb
    refine ⟨fun y hy => ?_, ?_⟩
    · rcases List.mem_cons.mp hy with z | hy
      · subst z; exact ⟨b, rfl, by rw [e]; exact hb⟩
      · exact h1 y hy
    · rw [List.map_cons, h2, e]
theorem x_sortedL {xs : List (T2 Int Int)} {v : V} (L : Lo C X H σ Γ) (r : Rep C.K X H (enc xs) v) (h : ∀ v H1, Lo C X H1 σ Γ → (∀ d u, Rep C.K X H d u → Rep C.K X H1 d u) → Rep C.K X H1 (enc (sortP xs)) v → Q v H1) : rSortedPO C.K [v] H Q := by
  obtain ⟨a, vs, rfl, _, hs, q⟩ := rep_lst (ds := xs.map enc) r
  obtain ⟨k1, k2⟩ := keys_rep q
  refine ⟨a, vs, kOf H, rfl, .inl hs, fun x hx => ?_, fun ys q hs hb hq => ?_⟩
  · obtain ⟨b, e, hb⟩ := k1 x hx
    exact ⟨b, e, hb⟩
  have es : ys.map (fun y => (⟨(kOf H y).1, (kOf H y).2⟩ : T2 Int Int)) = sortP xs := by
    refine SrtO.stb_uniq lt2P_swo (SrtO.srtd_map (lt := lt2P) (f := fun y => (⟨(kOf H y).1, (kOf H y).2⟩ : T2 Int Int)) hs) (sortP_srtd _) (stb_perm ?_)
    refine ((hb.perm.map _).trans ?_).trans (sortP_perm _).symm
    rw [k2]
  have s : Same H (upd H q (.lst ys)) := same_upd hq
  have rp : Reps C.K X H ((sortP xs).map enc) ys := by
    rw [← es]
    exact reps_keys fun y hy => k1 y (hb.perm.mem_iff.mp hy)
  have rr : RRep C.K X H (upd H q (.lst ys)) (.new (.lst ((sortP xs).map enc))) (.ref q) := ⟨q, rfl, hq, ys, upd_same, (rp.more hq).keep (.same s)⟩
  exact h _ _ (L.same s) (fun _ _ r => r.keep (.same s)) (rr.imm L.xd)
end
/-! ### what forbids tells -/
inductive Fb where
  | non
  | area (p q : T2 Int Int)
  | mark (d p q : T2 Int Int)
  deriving DecidableEq
instance : Py Fb := ⟨fun x => match x with
  | .non => .none
  | .area p q => .tuple [.str "area", enc p, enc q]
  | .mark d p q => .tuple [.str "mark", enc d, enc p, enc q]⟩
instance : PyE Fb where
  d := PyE.d (T2 Int Int) + 1
  eqv := fun x y => by
    cases x <;> cases y
    case non.non => rfl
    case area.area p q p' q' =>
      show PyData.eqv (.tuple [.str "area", enc p, enc q]) (.tuple [.str "area", enc p', enc q']) = _
      rw [eqv_tup, eqvAll_cons, eqvAll_cons, eqvAll_cons, eqvAll_nil, PyE.eqv, PyE.eqv]
      by_cases h1 : p = p' <;> by_cases h2 : q = q' <;> simp [h1, h2, PyData.eqv]
    case mark.mark d p q d' p' q' =>
      show PyData.eqv (.tuple [.str "mark", enc d, enc p, enc q]) (.tuple [.str "mark", enc d', enc p', enc q']) = _
      rw [eqv_tup, eqvAll_cons, eqvAll_cons, eqvAll_cons, eqvAll_cons, eqvAll_nil, PyE.eqv, PyE.eqv, PyE.eqv]
      by_cases h0 : d = d' <;> by_cases h1 : p = p' <;> by_cases h2 : q = q' <;> simp [h0, h1, h2, PyData.eqv]
    case area.mark p q d' p' q' =>
      show PyData.eqv (.tuple [.str "area", enc p, enc q]) (.tuple [.str "mark", enc d', enc p', enc q']) = _
      rw [eqv_tup, eqvAll_cons]
      unfold PyData.eqv
      rw [show ((Str.ofString "area" == Str.ofString "mark") = false) from by decide +kernel]; rfl
    case mark.area p q d' p' q' =>
      show PyData.eqv (.tuple [.str "mark", enc p, enc q, enc d']) (.tuple [.str "area", enc p', enc q']) = _
      rw [eqv_tup, eqvAll_cons]
      unfold PyData.eqv
      rw [show ((Str.ofString "mark" == Str.ofString "area") = false) from by decide +kernel]; rfl
    all_goals (first | (show PyData.eqv .none (.tuple _) = _; unfold PyData.eqv; simp) | (show PyData.eqv (.tuple _) .none = _; unfold PyData.eqv; simp))
  lay := fun x => by
    cases x
    · rfl
    · rename_i p q
      show PyData.canLay0 (.tuple [.str "area", enc p, enc q]) = true
      rw [lay_tup, layAll_cons, layAll_cons, layAll_cons, layAll_nil, PyE.lay, PyE.lay, show PyData.canLay0 (.str "area") = true by decide +kernel]; rfl
    · rename_i d p q
      show PyData.canLay0 (.tuple [.str "mark", enc d, enc p, enc q]) = true
      rw [lay_tup, layAll_cons, layAll_cons, layAll_cons, layAll_cons, layAll_nil, PyE.lay, PyE.lay, PyE.lay, show PyData.canLay0 (.str "mark") = true by decide +kernel]; rfl
  dep := fun x => by
    cases x
    · exact Nat.zero_le _
    · rename_i p q
      show PyData.depth (.tuple [.str "area", enc p, enc q]) ≤ _
      rw [dep_tup, depAll_cons, depAll_cons, depAll_cons, depAll_nil]
      have := PyE.dep p
      have := PyE.dep q
      have : PyData.depth (.str "area") = 0 := rfl
      omega
    · rename_i d p q
      show PyData.depth (.tuple [.str "mark", enc d, enc p, enc q]) ≤ _
      rw [dep_tup, depAll_cons, depAll_cons, depAll_cons, depAll_cons, depAll_nil]
      have := PyE.dep p
      have := PyE.dep q
      have := PyE.dep d
      have : PyData.depth (.str "mark") = 0 := rfl
      omega
def FbR (K : PySem.W.Frag) (f : Fb) (v : V) (H : Hp) : Prop := match f with
  | .non => v = .non
  | .area p q => ∃ a b c, v = .ref a ∧ H a = some (.tup [.str "area", b, c]) ∧ Lax K p b H ∧ Lax K q c H
  | .mark d p q => ∃ a x b c, v = .ref a ∧ H a = some (.tup [.str "mark", x, b, c]) ∧ Lax K d x H ∧ Lax K p b H ∧ Lax K q c H
theorem Lax.same {K : PySem.W.Frag} {q : T2 Int Int} {v : V} {H H' : Hp} (s : Same H H') (r : Lax K q v H) : Lax K q v H' := by
  obtain ⟨a, e, h⟩ := r
  refine ⟨a, e, ?_⟩
  rcases h with (h | ⟨o, h⟩) | h
  · exact .inl (.inl (s _ _ h))
  · exact .inl (.inr ⟨o, s _ _ h⟩)
  · exact .inr h
theorem FbR.same {K : PySem.W.Frag} {f : Fb} {v : V} {H H' : Hp} (s : Same H H') (r : FbR K f v H) : FbR K f v H' := by
  cases f with
  | non => exact r
  | area p q =>
    obtain ⟨a, b, c, e, h, l1, l2⟩ := r
    exact ⟨a, b, c, e, s _ _ h, l1.same s, l2.same s⟩
  | mark d p q =>
    obtain ⟨a, x, b, c, e, h, l0, l1, l2⟩ := r
    exact ⟨a, x, b, c, e, s _ _ h, l0.same s, l1.same s, l2.same s⟩
theorem FbR.dp {K : PySem.W.Frag} {f : Fb} {v : V} {H : Hp} (r : FbR K f v H) : Dp K H v (enc f) := by
  cases f with
  | non =>
    obtain rfl : v = .non := r
    exact .non
  | area p q =>
    obtain ⟨a, b, c, rfl, h, l1, l2⟩ := r
    exact .tup (.inl (.inl h)) (.cons (.str _) (.cons l1.dp (.cons l2.dp .nil)))
  | mark d p q =>
    obtain ⟨a, x, b, c, rfl, h, l0, l1, l2⟩ := r
    exact .tup (.inl (.inl h)) (.cons (.str _) (.cons l0.dp (.cons l1.dp (.cons l2.dp .nil))))
theorem FbR.mkA {K : PySem.W.Frag} {p q : T2 Int Int} {a : Addr} {b c : V} {H : Hp} (h : H a = some (.tup [.str "area", b, c])) (l1 : Lax K p b H) (l2 : Lax K q c H) : FbR K (.area p q) (.ref a) H := ⟨a, b, c, rfl, h, l1, l2⟩
theorem FbR.mkM {K : PySem.W.Frag} {d p q : T2 Int Int} {a : Addr} {x b c : V} {H : Hp} (h : H a = some (.tup [.str "mark", x, b, c])) (l0 : Lax K d x H) (l1 : Lax K p b H) (l2 : Lax K q c H) : FbR K (.mark d p q) (.ref a) H := ⟨a, x, b, c, rfl, h, l0, l1, l2⟩
section
variable {C : Cn} {X : Addr → Prop} {H : Hp} {σ : L2.St} {Γ Γ' : List Sl} {Q : VK}
theorem x_mkTR {vs : List V} (L : Lo C X H σ Γ) (hl : vs.length ≤ 16777216) (h : ∀ p H1, Same H H1 → Lo C X H1 σ Γ → H1 p = some (.tup vs) → Q (.ref p) H1) : KTup Q vs H := by
  refine ⟨by rw [line_eq]; exact hl, fun p hp => ?_⟩
  have s : Same H (upd H p (.tup vs)) := same_upd hp
  exact h p _ s (L.same s) upd_same
theorem k0R {v : V} {H' : Hp} {R : V → Hp → Prop} {ps : List (Addr × MO)} {G : Prop} (L : Lo C X H σ Γ) (F : Fin C.K X H [] ps (.raw R) v H') (h : Lo C X H' σ Γ → (∀ d u, Rep C.K X H d u → Rep C.K X H' d u) → R v H' → G) : G := h (L.after0 F).1 (L.after0 F).2 F.res
end
section
variable {H : Hp} {Q : VK} {α : Type}
theorem x_eqdK {K : PySem.W.Frag} [Py α] [DecidableEq α] [PyE α] {x y : α} {u v : V} (r : Dp K H u (enc x)) (q : Dp K H v (enc y)) (h64 : PyE.d α ≤ 64) (h : Q (.bl (decide (x = y))) H) : rEqD K u v H Q :=
  x_eqd (C := ⟨K, fun _ => False, H, [], 0⟩) r q h64 h
theorem x_nedK {K : PySem.W.Frag} [Py α] [DecidableEq α] [PyE α] {x y : α} {u v : V} (r : Dp K H u (enc x)) (q : Dp K H v (enc y)) (h64 : PyE.d α ≤ 64) (h : Q (.bl (!decide (x = y))) H) : rNeD K u v H Q :=
  x_ned (C := ⟨K, fun _ => False, H, [], 0⟩) r q h64 h
end
/-! ### for .. in zip(xs, ys); xs.insert(i, x); range by two -/
def zipO {α β : Type} (xs : List α) (ys : List β) : Option (List (T2 α β)) := if xs.length = ys.length then some (List.zipWith T2.mk xs ys) else none
def insO {α : Type} (xs : List α) (i : Int) (y : α) : Option (List α) := if 0 ≤ i ∧ i < 2 ^ 62 ∧ xs.length + 1 ≤ 16777216 then some (xs.take i.toNat ++ [y] ++ xs.drop i.toNat) else none
def twoL (lo : Int) (n : Nat) : List Int := (List.range n).map fun (k : Nat) => lo + (k : Int) * 2
def KForZ (K : PySem.W.Frag) (g : TG) (tb : TS) (D : Ends) (σ : L2.St) : List V → Hp → Prop := fun vs H => ∃ a b xs ys, vs = [.ref a, .ref b] ∧ SqL K H a xs ∧ SqL K H b ys ∧ ∃ W : Nat → Nat → L2.St → Hp → Prop, (∃ m, W 0 m σ H) ∧ ∀ i m σ H, W i m σ H →
      ((Itz K a b).stop i H ∧ D.nx σ H) ∨ ((Itz K a b).go i H ∧ ∃ N : L2.St → Hp → Prop, (∀ σ' H', N σ' H' → ∃ m', m' < m ∧ W (i + 1) m' σ' H') ∧ ∀ v H', (Itz K a b).yld i H v H' → g v σ H' fun σ2 H2 => tb { D with nx := N, ct := N, bk := D.nx } σ2 H2)
section
variable {C : Cn} {X : Addr → Prop} {H : Hp} {σ : L2.St} {Γ Γ' : List Sl} {Q : VK} {α β τ ρ : Type}
theorem x_tforZ {ta : TA} {g : TG} {tb : TS} {D : Ends} {K : PySem.W.Frag} (h : ta σ H (KForZ K g tb D σ)) : tFor (iZip K ta) g tb D σ H := h
def KLcZ (K : PySem.W.Frag) (g : TG) (tt : TT) (te : TE) (ws : List Nat) (σ : L2.St) (Q : VK) : List V → Hp → Prop := fun vs H => ∃ a b xs ys, vs = [.ref a, .ref b] ∧ SqL K H a xs ∧ SqL K H b ys ∧ ∀ D, H D = none → ∃ W : Nat → Nat → Hp → Prop, (∃ m, W 0 m (upd H D (.lst []))) ∧ ∀ i m H, W i m H →
      ((Itz K a b).stop i H ∧ Q (.ref D) H) ∨ ((Itz K a b).go i H ∧ ∃ Nx : Hp → Prop, (∀ H', Nx H' → ∃ m', m' < m ∧ W (i + 1) m' H') ∧ ∀ x H', (Itz K a b).yld i H x H' → g x (wipe σ ws) H' fun σ2 H2 => wipe σ2 ws = wipe σ ws ∧ tt σ2 H2 fun b H3 =>
        if b = true then te σ2 H3 fun y H4 => ∃ acc, H4 D = some (.lst acc) ∧ acc.length < sizeLine ∧ Nx (upd H4 D (.lst (acc ++ [y]))) else Nx H3)
theorem x_lcz {K : PySem.W.Frag} {ta : TA} {te : TE} {g : TG} {tt : TT} {ws : List Nat} (h : ta σ H (KLcZ K g tt te ws σ Q)) : tLc (iZip K ta) g tt te ws σ H Q := h
theorem x_lcZ {γ : Type} [Py α] [Py β] [Py γ] {xs : List α} {ys : List β} {zs : List (T2 α β)} {f : T2 α β → τ → Option (Option γ × τ)} {G : τ → List Sl} {s0 : τ} {q : List γ × τ} {u v : V} {g : TG} {tt : TT} {te : TE} {ws : List Nat}
    (hz : zipO xs ys = some zs) (L : Lo C X H σ (G s0)) (hG : ∀ s s', muts (G s) = muts (G s')) (r : Rep C.K X H (enc xs) u) (r2 : Rep C.K X H (enc ys) v) (hm : compL f zs s0 = some q) (hl : zs.length ≤ 16777216)
    (body : ∀ x s, BodyC C X G (enc x) s (f x s) g tt te ws)
    (h : ∀ D H', Lo C X H' σ (G q.2) → (∀ d u, Rep C.K X H d u → Rep C.K X H' d u) → Rep C.K X H' (enc q.1) (.ref D) → Q (.ref D) H') : KLcZ C.K g tt te ws σ Q [u, v] H := by
  obtain ⟨a, us, rfl, hna, hrd, hrs⟩ := rep_lst (ds := xs.map enc) r
  obtain ⟨b, us2, rfl, hnb, hrb, hrt⟩ := rep_lst (ds := ys.map enc) r2
  have hll : xs.length = ys.length := by
    unfold zipO at hz
    split at hz
    · assumption
    · cases hz
  have hz2 : zs = List.zipWith T2.mk xs ys := by
    unfold zipO at hz
    rw [if_pos hll] at hz
    exact (Option.some.inj hz).symm
  subst hz2
  have e1 : us.length = xs.length := by rw [hrs.length, List.length_map]
  have e2 : us2.length = ys.length := by rw [hrt.length, List.length_map]
  have hlz : (List.zipWith T2.mk xs ys).length = xs.length := by rw [List.length_zipWith, hll]; exact Nat.min_self _
  refine ⟨a, b, us, us2, rfl, .inl hrd, .inl hrb, fun D hD => ?_⟩
  have h0 : C.H0 D = none := by
    cases e : C.H0 D with
    | none => rfl
    | some o => exact (L.dom D (by rw [e]; exact fun z => nomatch z) hD).elim
  have hDm : ∀ s, D ∉ muts (G s) := fun s h => L.xd D (L.mx D (hG s s0 ▸ h)) hD
  have sm : Same H (upd H D (.lst [])) := same_upd hD
  have lay := L.lay (p := D) (o := .lst []) hD sm ⟨[], upd_same, .nil⟩
  have L1 : Lo C (fun a => X a ∨ a = D) (upd H D (.lst [])) σ (G s0) := by
    refine ⟨L.len, fun i s hi => ?_, L.nd, fun p hp => .inl (L.mx p hp), fun a h => .inl (L.m0 a h), lay.1.xd, lay.1.base, lay.1.dom, L.own, L.tf⟩
    refine lay.1.at_ i s ?_
    rw [List.getElem?_append_left (List.getElem?_eq_some_iff.mp hi).1]
    exact hi
  have fresh : ∀ {c : Addr} {ws : List V}, ¬ X c → Rd H c (.lst ws) → ¬ (X c ∨ c = D) := fun hn hr h => h.elim hn fun e => by
    subst e
    exact rd_nn hr hD
  have hna' := fresh hna hrd
  have hnb' := fresh hnb hrb
  refine lc_it (walk_zip (K := C.K) (a := a) (b := b) (xs := us) (ys := us2) (n := us.length) (by omega)) (fun i H' => ∃ s zs' acc q', Lo C (fun a => X a ∨ a = D) H' σ (G s) ∧ Reps C.K (fun a => X a ∨ a = D) H' (xs.map enc) us ∧ Reps C.K (fun a => X a ∨ a = D) H' (ys.map enc) us2 ∧ Rd H' a (.lst us) ∧ Rd H' b (.lst us2) ∧ H' D = some (.lst acc) ∧ Reps C.K (fun a => X a ∨ a = D) H' (zs'.map enc) acc ∧
      compL f ((List.zipWith T2.mk xs ys).drop i) s = some q' ∧ q = (zs' ++ q'.1, q'.2) ∧ zs'.length ≤ i ∧ Keep X H H' ∧ (∀ a, H a ≠ none → H' a ≠ none))
    ⟨s0, [], [], q, L1, (hrs.more hD).keep (.same sm), (hrt.more hD).keep (.same sm), Keep.rd (.same sm) hna hrd, Keep.rd (.same sm) hnb hrb, upd_same, .nil, hm, rfl, Nat.le_refl _, .same sm, fun a h => ?_⟩ (fun i H' _ ⟨s, zs', acc, q', _, _, _, h, h', _⟩ => ⟨.inl h, .inl h'⟩) ?_ ?_
  · by_cases z : a = D
    · rw [z, upd_same]; exact fun y => nomatch y
    · rw [upd_ne z]; exact h
  · rintro i w H' Hn hi ⟨s, zs', acc, q', L', hr', ht', hd', hd2', hacc, hys, hq', eq, hyl, hk, hdm⟩ ⟨T, y, y2, rfl, hT, rfl, hy, hw⟩
    obtain ⟨d, hd, rd⟩ := hr'.get' hy
    obtain ⟨d2, hd2, rd2⟩ := ht'.get' hw
    rw [List.getElem?_map] at hd hd2
    cases hx : xs[i]? with
    | none => rw [hx] at hd; cases hd
    | some x =>
    cases hx' : ys[i]? with
    | none => rw [hx'] at hd2; cases hd2
    | some x' =>
      rw [hx] at hd
      rw [hx'] at hd2
      cases hd
      cases hd2
      have hzi : (List.zipWith T2.mk xs ys)[i]? = some (T2.mk x x') := by rw [List.getElem?_zipWith, hx, hx']
      have hil : i < xs.length := (List.getElem?_eq_some_iff.mp hx).1
      have TD : T ≠ D := fun z => by rw [z, hacc] at hT; cases hT
      have sT : Same H' (upd H' T (.tup [y, y2])) := same_upd hT
      have LT := L'.same sT
      have rT : Rep C.K (fun a => X a ∨ a = D) (upd H' T (.tup [y, y2])) (enc (T2.mk x x')) (.ref T) := .tup upd_same (.cons (rd.keep (.same sT)) (.cons (rd2.keep (.same sT)) .nil))
      have rT1 := hr'.keep (.same sT)
      have rT2 := ht'.keep (.same sT)
      have kd : ∀ {c : Addr} {ws : List V}, Rd H' c (.lst ws) → Rd (upd H' T (.tup [y, y2])) c (.lst ws) := fun h => h.elim (fun h => .inl (sT _ _ h)) fun ⟨o, h⟩ => .inr ⟨o, sT _ _ h⟩
      have haccT := sT _ _ hacc
      have hysT := hys.keep (.same sT)
      have kT : Keep X H (upd H' T (.tup [y, y2])) := hk.trans (.same sT)
      have dT : ∀ a, H a ≠ none → (upd H' T (.tup [y, y2])) a ≠ none := fun a h e => by
        have := hdm a h
        cases e2 : H' a with
        | none => exact this e2
        | some o => rw [sT _ _ e2] at e; cases e
      obtain ⟨r1, q1, h1, h2, h3⟩ := comp_drop hzi hq'
      refine body (T2.mk x x') s _ _ σ _ r1 _ _ h1 LT.enter rT ?_ ?_
      · intro e H'' M
        have k := LT.keep M
        have kd2 : H'' D = some (.lst acc) := M.base D _ haccT (hDm s)
        refine ⟨r1.2, zs', acc, q1, LT.leave M (hG _ _), rT1.keep k, rT2.keep k, k.rd hna' (kd hd'), k.rd hnb' (kd hd2'), kd2, hysT.keep k, h2, ?_, Nat.le_succ_of_le hyl, ?_, fun a h => M.dom a (dT a h)⟩
        · rw [eq, h3, e]
        · refine ⟨fun b o hb n => ?_, fun b vs hb => k.2.1 b vs (kT.2.1 b vs hb), fun b o u hb => k.2.2 b o u (kT.2.2 b o u hb)⟩
          have hbD : b ≠ D := fun z => by rw [z, hD] at hb; cases hb
          exact k.1 b o (kT.1 b o hb n) fun z => z.elim n hbD
      · intro yv e v H'' M rv
        have k := LT.keep M
        have kd2 : H'' D = some (.lst acc) := M.base D _ haccT (hDm s)
        have L2 := LT.leave M (hG _ _)
        obtain ⟨L3, k3⟩ := L2.wroteX (p := D) (o' := .lst (acc ++ [v])) (.inr rfl) (hDm _) kd2 h0 (fun _ z => nomatch z) (fun _ _ z => nomatch z)
        have k4 := k.trans k3
        have hal : acc.length = zs'.length := by rw [hys.length, List.length_map]
        refine ⟨acc, kd2, by rw [line_eq]; omega, r1.2, zs' ++ [yv], acc ++ [v], q1, L3, rT1.keep k4, rT2.keep k4, k4.rd hna' (kd hd'), k4.rd hnb' (kd hd2'), upd_same, ?_, h2, ?_, ?_, ?_, ?_⟩
        · rw [List.map_append]
          exact (hysT.keep k4).append (.cons (rv.keep k3) .nil)
        · rw [eq, h3, e]
          show (zs' ++ yv :: q1.1, q1.2) = (zs' ++ [yv] ++ q1.1, q1.2)
          rw [List.append_assoc]; rfl
        · rw [List.length_append]; exact Nat.succ_le_succ hyl
        · refine ⟨fun b o hb n => ?_, fun b vs hb => k4.2.1 b vs (kT.2.1 b vs hb), fun b o u hb => k4.2.2 b o u (kT.2.2 b o u hb)⟩
          have hbD : b ≠ D := fun z => by rw [z, hD] at hb; cases hb
          exact k4.1 b o (kT.1 b o hb n) fun z => z.elim n hbD
        · intro a h
          by_cases z : a = D
          · rw [z, upd_same]; exact fun y => nomatch y
          · rw [upd_ne z]; exact M.dom a (dT a h)
  · rintro H' ⟨s, zs', acc, q', L', _, _, _, _, hacc, hys, hq', eq, _, hk, hdm⟩
    rw [List.drop_eq_nil_of_le (by omega)] at hq'
    cases hq'
    rw [List.append_nil] at eq
    subst eq
    exact lc_data L hD L' (hG _ _) hk ⟨acc, hacc, hys⟩ (h D H')
theorem x_flZ [Py α] [Py β] {xs : List α} {ys : List β} {f : T2 α β → τ → Option (Lp τ ρ)} {G : τ → List Sl} {ps : ρ → List (Addr × MO)} {rs : ρ → Rs} {s0 : τ} {u v : V} {g : TG} {tb : TS} {nx bk ct : L2.St → Hp → Prop} {rt : VK} {zs : List (T2 α β)} {δ : Type} {k : τ → Option δ} {j : ρ → Option δ} {res : δ}
    (hz : zipO xs ys = some zs) (L : Lo C X H σ (G s0)) (hG : ∀ s s', muts (G s) = muts (G s')) (r : Rep C.K X H (enc xs) u) (q : Rep C.K X H (enc ys) v) (hm : (loopL f zs s0).bind (fun o => o.out j k) = some res)
    (body : ∀ x s, Body C X G ps rs (enc x) s (f x s) g tb) (done : ∀ s σ' H', k s = some res → Lo C X H' σ' (G s) → nx σ' H')
    (ret : ∀ q v H', j q = some res → Fin C.K C.X0 C.H0 C.P0 (ps q) (rs q) v H' → rt v H') : KForZ C.K g tb ⟨nx, rt, bk, ct⟩ σ [u, v] H := by
  obtain ⟨o, h1, h2⟩ := ob hm
  obtain ⟨a, vs, rfl, hna, hrd, hrs⟩ := rep_lst (ds := xs.map enc) r
  obtain ⟨b, us, rfl, hnb, hrb, hrt⟩ := rep_lst (ds := ys.map enc) q
  have hl : xs.length = ys.length := by
    unfold zipO at hz
    split at hz
    · assumption
    · cases hz
  have hz2 : zs = List.zipWith T2.mk xs ys := by
    unfold zipO at hz
    rw [if_pos hl] at hz
    exact (Option.some.inj hz).symm
  subst hz2
  have e1 : vs.length = xs.length := by rw [hrs.length, List.length_map]
  have e2 : us.length = ys.length := by rw [hrt.length, List.length_map]
  have hlz : (List.zipWith T2.mk xs ys).length = xs.length := by rw [List.length_zipWith, hl]; exact Nat.min_self _
  refine ⟨a, b, vs, us, rfl, .inl hrd, .inl hrb, RZ.for_zipL (K := C.K) (a := a) (b := b) (xs := vs) (ys := us) (by omega) (fun i σ' H' => ∃ s, Lo C X H' σ' (G s) ∧ Reps C.K X H' (xs.map enc) vs ∧ Reps C.K X H' (ys.map enc) us ∧ Rd H' a (.lst vs) ∧ Rd H' b (.lst us) ∧ loopL f ((List.zipWith T2.mk xs ys).drop i) s = some o)
    ⟨s0, L, hrs, hrt, hrd, hrb, h1⟩ (fun i σ' H' ⟨s, _, _, _, h, h', _⟩ => ⟨.inl h, .inl h'⟩) ?_ ?_⟩
  · rintro i y w T σ' H' hy hw ⟨s, L', r', q', hd, hd', hm''⟩ hT
    obtain ⟨d, hd1, rd⟩ := r'.get' hy
    obtain ⟨d', hd2, rd'⟩ := q'.get' hw
    rw [List.getElem?_map] at hd1 hd2
    cases hx : xs[i]? with
    | none => rw [hx] at hd1; cases hd1
    | some x =>
    cases hx' : ys[i]? with
    | none => rw [hx'] at hd2; cases hd2
    | some x' =>
      rw [hx] at hd1
      rw [hx'] at hd2
      cases hd1
      cases hd2
      have hzi : (List.zipWith T2.mk xs ys)[i]? = some (T2.mk x x') := by rw [List.getElem?_zipWith, hx, hx']
      obtain ⟨o1, g1, g2, g3, g4⟩ := loop_drop hzi hm''
      have sT : Same H' (upd H' T (.tup [y, w])) := same_upd hT
      have LT := L'.same sT
      have rT : Rep C.K X (upd H' T (.tup [y, w])) (enc (T2.mk x x')) (.ref T) := .tup upd_same (.cons (rd.keep (.same sT)) (.cons (rd'.keep (.same sT)) .nil))
      have rT1 := r'.keep (.same sT)
      have rT2 := q'.keep (.same sT)
      have kd : ∀ {c : Addr} {ws : List V}, Rd H' c (.lst ws) → Rd (upd H' T (.tup [y, w])) c (.lst ws) := fun h => h.elim (fun h => .inl (sT _ _ h)) fun ⟨o, h⟩ => .inr ⟨o, sT _ _ h⟩
      refine body (T2.mk x x') s _ σ' _ _ _ _ _ o1 g1 LT.enter LT.dom rT ?_ ?_ ?_ ?_
      · intro s' e X' σ'' H'' L''
        have k := LT.keep L''
        exact ⟨s', LT.leave L'' (hG _ _), rT1.keep k, rT2.keep k, k.rd hna (kd hd), k.rd hnb (kd hd'), g2 s' e⟩
      · intro s' e X' σ'' H'' L''
        have k := LT.keep L''
        exact ⟨s', LT.leave L'' (hG _ _), rT1.keep k, rT2.keep k, k.rd hna (kd hd), k.rd hnb (kd hd'), g2 s' e⟩
      · intro s' e X' σ'' H'' L''
        exact done _ _ _ (by rw [g3 s' e] at h2; exact h2) (LT.leave L'' (hG _ _))
      · intro q e v' H'' F
        exact ret q v' H'' (by rw [g4 q e] at h2; exact h2) (F.leave LT)
  · rintro σ' H' ⟨s, L', _, _, _, _, hm''⟩
    rw [List.drop_eq_nil_of_le (by omega)] at hm''
    have e : o = .nxt s := (Option.some.inj hm'').symm
    exact done _ _ _ (by rw [e] at h2; exact h2) L'
theorem x_foZ [Py α] [Py β] {xs : List α} {ys : List β} {f : T2 α β → τ → Option τ} {G : τ → List Sl} {s0 : τ} {u v : V} {g : TG} {tb : TS} {nx bk ct : L2.St → Hp → Prop} {rt : VK} {zs : List (T2 α β)} {k : τ → Option ρ} {res : ρ}
    (hz : zipO xs ys = some zs) (L : Lo C X H σ (G s0)) (hG : ∀ s s', muts (G s) = muts (G s')) (r : Rep C.K X H (enc xs) u) (q : Rep C.K X H (enc ys) v) (hm : (foldO f zs s0).bind k = some res)
    (body : ∀ x s, BodyO C X G (enc x) s (f x s) g tb) (done : ∀ s σ' H', k s = some res → Lo C X H' σ' (G s) → nx σ' H') : KForZ C.K g tb ⟨nx, rt, bk, ct⟩ σ [u, v] H := by
  obtain ⟨s1, h1, h2⟩ := ob hm
  obtain ⟨a, vs, rfl, hna, hrd, hrs⟩ := rep_lst (ds := xs.map enc) r
  obtain ⟨b, us, rfl, hnb, hrb, hrt⟩ := rep_lst (ds := ys.map enc) q
  have hl : xs.length = ys.length := by
    unfold zipO at hz
    split at hz
    · assumption
    · cases hz
  have hz2 : zs = List.zipWith T2.mk xs ys := by
    unfold zipO at hz
    rw [if_pos hl] at hz
    exact (Option.some.inj hz).symm
  subst hz2
  have e1 : vs.length = xs.length := by rw [hrs.length, List.length_map]
  have e2 : us.length = ys.length := by rw [hrt.length, List.length_map]
  have hlz : (List.zipWith T2.mk xs ys).length = xs.length := by rw [List.length_zipWith, hl]; exact Nat.min_self _
  have hm' := foldO_loop h1
  refine ⟨a, b, vs, us, rfl, .inl hrd, .inl hrb, RZ.for_zipL (K := C.K) (a := a) (b := b) (xs := vs) (ys := us) (by omega) (fun i σ' H' => ∃ s, Lo C X H' σ' (G s) ∧ Reps C.K X H' (xs.map enc) vs ∧ Reps C.K X H' (ys.map enc) us ∧ Rd H' a (.lst vs) ∧ Rd H' b (.lst us) ∧ loopL (ρ := Empty) (fun x s => (f x s).bind fun s' => some (.nxt s')) ((List.zipWith T2.mk xs ys).drop i) s = some (.nxt s1))
    ⟨s0, L, hrs, hrt, hrd, hrb, hm'⟩ (fun i σ' H' ⟨s, _, _, _, h, h', _⟩ => ⟨.inl h, .inl h'⟩) ?_ ?_⟩
  · rintro i y w T σ' H' hy hw ⟨s, L', r', q', hd, hd', hm''⟩ hT
    obtain ⟨d, hd1, rd⟩ := r'.get' hy
    obtain ⟨d', hd2, rd'⟩ := q'.get' hw
    rw [List.getElem?_map] at hd1 hd2
    cases hx : xs[i]? with
    | none => rw [hx] at hd1; cases hd1
    | some x =>
    cases hx' : ys[i]? with
    | none => rw [hx'] at hd2; cases hd2
    | some x' =>
      rw [hx] at hd1
      rw [hx'] at hd2
      cases hd1
      cases hd2
      have hzi : (List.zipWith T2.mk xs ys)[i]? = some (T2.mk x x') := by rw [List.getElem?_zipWith, hx, hx']
      obtain ⟨o1, g1, g2, g3, g4⟩ := loop_drop hzi hm''
      have sT : Same H' (upd H' T (.tup [y, w])) := same_upd hT
      have LT := L'.same sT
      have rT : Rep C.K X (upd H' T (.tup [y, w])) (enc (T2.mk x x')) (.ref T) := .tup upd_same (.cons (rd.keep (.same sT)) (.cons (rd'.keep (.same sT)) .nil))
      have rT1 := r'.keep (.same sT)
      have rT2 := q'.keep (.same sT)
      have kd : ∀ {c : Addr} {ws : List V}, Rd H' c (.lst ws) → Rd (upd H' T (.tup [y, w])) c (.lst ws) := fun h => h.elim (fun h => .inl (sT _ _ h)) fun ⟨o, h⟩ => .inr ⟨o, sT _ _ h⟩
      refine (body (T2.mk x x') s).body _ σ' _ _ _ _ _ o1 g1 LT.enter LT.dom rT ?_ ?_ ?_ ?_
      · intro s' e X' σ'' H'' L''
        have k := LT.keep L''
        exact ⟨s', LT.leave L'' (hG _ _), rT1.keep k, rT2.keep k, k.rd hna (kd hd), k.rd hnb (kd hd'), g2 s' e⟩
      · intro s' e X' σ'' H'' L''
        have k := LT.keep L''
        exact ⟨s', LT.leave L'' (hG _ _), rT1.keep k, rT2.keep k, k.rd hna (kd hd), k.rd hnb (kd hd'), g2 s' e⟩
      · intro s' e
        have := g3 s' e
        cases this
      · intro q e
        exact q.elim
  · rintro σ' H' ⟨s, L', _, _, _, _, hm''⟩
    rw [List.drop_eq_nil_of_le (by omega)] at hm''
    have e : s = s1 := by
      have : (some (Lp.nxt s) : Option (Lp τ Empty)) = some (.nxt s1) := hm''
      cases this; rfl
    subst e
    exact done _ _ _ h2 L'
def rInsert : V → List V → Hp → VK → Prop := fun x vs H Q => ∃ (l : Addr) (xs : List V) (i : Int) (y : V), x = .ref l ∧ vs = [.int i, y] ∧ H l = some (.lst xs) ∧ xs.length < sizeLine ∧ 0 ≤ i ∧ i < 2 ^ 63 ∧ Q .non (upd H l (.lst (xs.take i.toNat ++ [y] ++ xs.drop i.toNat)))
theorem mt_insertX {Xc : Cx} : MtR Xc "list.insert" rInsert := mt_insert
theorem x_insert [Py α] {G' : List α → List Sl} {xs : List α} {x : α} {n : Int} {v : V} {i : Nat} {p : Addr} {k : List α → Option ρ} {r : ρ} (L : Lo C X H σ Γ) (g : Γ[i]? = some (.mu p (ml xs))) (hm : (insO xs n x).bind k = some r) (q : Rep C.K X H (enc x) v) (e : ∀ ys, Γ.set i (.mu p (ml ys)) = G' ys)
    (h : ∀ ys H1, k ys = some r → Lo C X H1 σ (G' ys) → (∀ d u, Rep C.K X H d u → Rep C.K X H1 d u) → Q .non H1) : rInsert (.ref p) [.int n, v] H Q := by
  obtain ⟨zs, h1, hk⟩ := ob hm
  unfold insO at h1
  split at h1
  next hc =>
    cases h1
    obtain ⟨vs, hs, rs⟩ := L.mrep g
    have hlen : vs.length = xs.length := by rw [rs.length, List.length_map]
    obtain ⟨L1, le⟩ := L.write (es := (xs.take n.toNat ++ [x] ++ xs.drop n.toNat).map enc) (ws := vs.take n.toNat ++ [v] ++ vs.drop n.toNat) g hs (by
      rw [List.map_append, List.map_append, List.map_take, List.map_drop]
      exact ((rs.take n.toNat).append (.cons q .nil)).append (rs.drop n.toNat))
    rw [e] at L1
    exact ⟨p, vs, n, v, rfl, rfl, hs, by rw [line_eq]; omega, hc.1, by omega, h _ _ hk L1 le⟩
  · cases h1
theorem x_r3two {a b : Int} {R : Int → Int → Nat → Hp → Prop} {k : Unit → Option ρ} {r : ρ} (hm : ((rngOk a).bind fun _ => rngOk b).bind k = some r) (h : k () = some r → R a 2 ((b - a + 1) / 2).toNat H) : KRng3 R [.int a, .int b, .int 2] H := by
  obtain ⟨_, h0, hk⟩ := ob hm
  obtain ⟨_, h1, h2⟩ := ob h0
  have a1 : -(2 ^ 62) ≤ a ∧ a < 2 ^ 62 := by
    unfold rngOk at h1
    split at h1
    · omega
    · cases h1
  have a2 : -(2 ^ 62) ≤ b ∧ b < 2 ^ 62 := by
    unfold rngOk at h2
    split at h2
    · omega
    · cases h2
  have rs : Builtin.Range.rangeSize a b 2 = (((b - a + 1) / 2).toNat : Int) := by
    unfold Builtin.Range.rangeSize
    simp only [show ((2 : Int) > 0) by decide, if_true]
    split <;> omega
  refine ⟨a, b, 2, _, rfl, ⟨by decide, by decide, ?_, rs⟩, h hk⟩
  unfold Builtin.Range.small
  rw [rs]
  simp only [Builtin.Range.rangeFitsLong, Bool.and_eq_true, Bool.or_eq_true, decide_eq_true_eq, beq_iff_eq, show ((2 : Int) > 0) by decide, if_true]
  omega
theorem x_foTwo {f : Int → τ → Option τ} {G : τ → List Sl} {s0 : τ} {lo : Int} {n : Nat} {g : TG} {tb : TS} {nx bk ct : L2.St → Hp → Prop} {rt : VK} {k : τ → Option ρ} {res : ρ}
    (L : Lo C X H σ (G s0)) (hG : ∀ s s', muts (G s) = muts (G s')) (hm : (foldO f (twoL lo n) s0).bind k = some res)
    (body : ∀ x s, BodyO C X G (enc x) s (f x s) g tb) (done : ∀ s σ' H', k s = some res → Lo C X H' σ' (G s) → nx σ' H') : KForC lo 2 n g tb ⟨nx, rt, bk, ct⟩ σ H := by
  obtain ⟨s1, h1, h2⟩ := ob hm
  have hm1 := foldO_loop h1
  have hlen : (twoL lo n).length = n := by unfold twoL; rw [List.length_map, List.length_range]
  refine ⟨fun i m σ' H' => m = n - i ∧ i ≤ n ∧ ∃ s, Lo C X H' σ' (G s) ∧ loopL (ρ := Empty) (fun x s => (f x s).bind fun s' => some (.nxt s')) ((twoL lo n).drop i) s = some (.nxt s1), ⟨n, by simp, Nat.zero_le _, s0, L, hm1⟩, ?_⟩
  rintro i m σ' H' ⟨rfl, hi, s, L', hm'⟩
  by_cases hlt : i < n
  · refine .inr ⟨hlt, fun σ'' H'' => i + 1 ≤ n ∧ ∃ s, Lo C X H'' σ'' (G s) ∧ loopL (ρ := Empty) (fun x s => (f x s).bind fun s' => some (.nxt s')) ((twoL lo n).drop (i + 1)) s = some (.nxt s1), fun σ'' H'' p' => ⟨n - (i + 1), by omega, rfl, p'⟩, ?_⟩
    rintro v H2 ⟨rfl, rfl⟩
    have hx : (twoL lo n)[i]? = some (lo + (i : Int) * 2) := by
      unfold twoL
      rw [List.getElem?_map, List.getElem?_range hlt]; rfl
    obtain ⟨o1, g1, g2, g3, g4⟩ := loop_drop hx hm'
    refine (body _ s).body _ σ' _ _ _ _ _ o1 g1 L'.enter L'.dom (.int _) ?_ ?_ ?_ ?_
    · intro s' e X' σ'' H'' L''
      exact ⟨hlt, s', L'.leave L'' (hG _ _), g2 s' e⟩
    · intro s' e X' σ'' H'' L''
      exact ⟨hlt, s', L'.leave L'' (hG _ _), g2 s' e⟩
    · intro s' e
      have := g3 s' e
      cases this
    · intro q e
      exact q.elim
  · have : i = n := by omega
    subst this
    rw [List.drop_eq_nil_of_le (by omega)] at hm'
    have e : s = s1 := by
      have : (some (Lp.nxt s) : Option (Lp τ Empty)) = some (.nxt s1) := hm'
      cases this; rfl
    subst e
    exact .inl ⟨Nat.le_refl _, done _ _ _ h2 L'⟩
/-- a < b < c, c's reckoning does something -/
theorem x_chB {A : Bool} {m : Option Bool} {k : Bool → Option ρ} {r : ρ} {tc : TE} {r' : R2} {y : V} (L : Lo C X H σ Γ) (hm : (if A = true then m else some false).bind k = some r)
    (hu : ∀ b, m = some b → ∀ Q' : VK, (∀ H2, Lo C X H2 σ Γ → Q' (.bl b) H2) → tc σ H fun w H4 => r' y w H4 Q') (h : ∀ b H2, k b = some r → Lo C X H2 σ Γ → Q (.bl b) H2) : KCh tc r' σ y Q (.bl A) H := by
  refine ⟨A, rfl, ?_⟩
  cases A with
  | true =>
    obtain ⟨b, e, hk⟩ := ob hm
    exact hu b e Q fun H2 l => h b H2 hk l
  | false => exact h false H hm L
end
section
variable {C : Cn} {X : Addr → Prop} {H : Hp} {σ : L2.St} {Γ Γ' : List Sl} {Q : VK} {α β τ ρ : Type}
theorem x_catT {ds es fs : List PyData} {u v : V} (L : Lo C X H σ Γ) (r : Rep C.K X H (.tuple ds) u) (q : Rep C.K X H (.tuple es) v) (hl : ds.length + es.length ≤ 16777216) (h1 : ds ≠ []) (h2 : es ≠ []) (e : ds ++ es = fs)
    (h : ∀ w H1, Lo C X H1 σ Γ → (∀ d u, Rep C.K X H d u → Rep C.K X H1 d u) → Rep C.K X H1 (.tuple fs) w → Q w H1) : rCatT C.K u v H Q := by
  subst e
  obtain ⟨a, vs, rfl, hv, rv⟩ := rep_tupS r
  obtain ⟨b, us, rfl, hu, ru⟩ := rep_tupS q
  have l1 := rv.length
  have l2 := ru.length
  have n1 : vs ≠ [] := fun z => h1 (by subst z; exact List.eq_nil_of_length_eq_zero (by rw [← l1]; rfl))
  have n2 : us ≠ [] := fun z => h2 (by subst z; exact List.eq_nil_of_length_eq_zero (by rw [← l2]; rfl))
  refine ⟨a, b, vs, us, rfl, rfl, .inl (.inl hv), .inl (.inl hu), n1, by rw [line_eq]; omega, fun z => absurd z n2, fun _ p hp => ?_⟩
  have s : Same H (upd H p (.tup (vs ++ us))) := same_upd hp
  exact h _ _ (L.same s) (fun _ _ r => r.keep (.same s)) (.tup upd_same ((rv.append ru).keep (.same s)))
end
open Py (enc)
/-! ### dicts whose keys are tuples of tuples -/
mutual
inductive KIs (H : Hp) : NestedKey → V → Prop
  | num (i : Int) : KIs H (.num i) (.int i)
  | tup {a : Addr} {ks : List NestedKey} {vs : List V} : H a = some (.tup vs) → KAll H ks vs → KIs H (.tup ks) (.ref a)
inductive KAll (H : Hp) : List NestedKey → List V → Prop
  | nil : KAll H [] []
  | cons {k : NestedKey} {v : V} {ks : List NestedKey} {vs : List V} : KIs H k v → KAll H ks vs → KAll H (k :: ks) (v :: vs)
end
mutual
theorem KIs.real {P : Program} {w : World} {H : Hp} {h : Heap} (ok : HOk P w H h) : ∀ {k : NestedKey} {v : V} {u : Value}, KIs H k v → RelV v u → NestedIs h k u
  | _, _, _, .num i, r => by obtain ⟨t, rfl⟩ := r; exact .int i t
  | _, _, _, .tup (a := a) e al, r => by
    cases r
    obtain ⟨_, its, rv, o, ho, hc, n, hd⟩ := ok a _ e
    exact .tup ho hc hd (by simpa using KAll.real ok al rv)
theorem KAll.real {P : Program} {w : World} {H : Hp} {h : Heap} (ok : HOk P w H h) : ∀ {ks : List NestedKey} {vs : List V} {us : List Value}, KAll H ks vs → Vals vs us → NestedAll h ks us
  | _, _, _, .nil, .nil => .nil
  | _, _, _, .cons a b, .cons r t => .cons (KIs.real ok a r) (KAll.real ok b t)
end
abbrev NXs : Type := List (NestedKey × Addr × Value)
def NR (P : Program) (w : World) (a : Addr) (xs : NXs) (h : Heap) : Prop := (a == sysModules) = false ∧ xs.length ≤ sizeLine ∧ ∃ o es ep, h.get? a = some o ∧ o.ExactDict ∧ o.data = .dict es ep ∧ es.toList = xs.map (entryOfKey (nestedKind P w))
def NdO (P : Program) (w : World) (a : Addr) (xs : NXs) : HO := .ext (NR P w a xs)
theorem nd_new {P : Program} {w : World} {H : Hp} {h : Heap} {a : Addr} {xs : NXs} (r : NR P w a xs h) : ObjOk P w H h a (NdO P w a xs) := by
  obtain ⟨z, l, o, es, ep, ho, q⟩ := id r
  exact ⟨r, ⟨o, ho⟩, fun h1 h2 ⟨z, l, o, es, ep, ho, q⟩ k => ⟨z, l, o, es, ep, k o ho, q⟩⟩
def NKeys (H : Hp) (xs : NXs) : Prop := (∀ x ∈ xs, KIs H x.1 (.ref x.2.1) ∧ x.1.depth ≤ 8) ∧ (xs.map (·.1)).Nodup
def RdN (P : Program) (w : World) (H : Hp) (a : Addr) (xs : NXs) : Prop := H a = some (NdO P w a xs) ∨ ∃ o, H a = some (.frz o (NdO P w a xs))
theorem nd_of {P : Program} {w : World} {H : Hp} {h : Heap} {a : Addr} {xs : NXs} (ok : HOk P w H h) (e : RdN P w H a xs) (k : NKeys H xs) : (a == sysModules) = false ∧ xs.length ≤ sizeLine ∧ h.DictOfH (nestedKind P w) a xs := by
  have r : NR P w a xs h := by
    rcases e with e | ⟨o, e⟩
    · exact (ok a _ e).1
    · exact (ok a _ e).2.1
  obtain ⟨z, l, o, es, ep, ho, hx, hd, he⟩ := r
  exact ⟨z, l, o, es, ep, ho, hx, hd, he, fun x hx' => ⟨KIs.real ok (k.1 x hx').1 rfl, (k.1 x hx').2⟩, k.2⟩
theorem nr_of {P : Program} {w : World} {h : Heap} {a : Addr} {xs : NXs} (z : (a == sysModules) = false) (l : xs.length ≤ sizeLine) (d : h.DictOfH (nestedKind P w) a xs) : NR P w a xs h := by
  obtain ⟨o, es, ep, ho, hx, hd, he, _⟩ := d
  exact ⟨z, l, o, es, ep, ho, hx, hd, he⟩
theorem nd_key {P : Program} {w : World} {H : Hp} {h : Heap} {k : NestedKey} {b : Addr} (ok : HOk P w H h) (q : KIs H k (.ref b)) (d : k.depth ≤ 8) : (nestedKind P w).is h k b := ⟨KIs.real ok q rfl, d⟩
/-- {} -/
def tNNew (P : Program) (w : World) : TE := fun _ H Q => ∀ p, H p = none → Q (.ref p) (upd H p (NdO P w p []))
/-- what a key tells -/
def NGet (P : Program) (w : World) (H : Hp) (a : Addr) (y : V) (o : Option V) : Prop := ∃ xs k b, RdN P w H a xs ∧ NKeys H xs ∧ y = .ref b ∧ KIs H k (.ref b) ∧ k.depth ≤ 8 ∧ RelO o ((atKey xs k).map (·.2))
def IsN (P : Program) (w : World) (H : Hp) (a : Addr) : Prop := ∃ xs, RdN P w H a xs ∧ NKeys H xs
def tNGet (P : Program) (w : World) (td ty : TE) : TE := fun σ H Q => td σ H fun x H1 => ty σ H1 fun y H2 => ∃ a v, x = .ref a ∧ NGet P w H2 a y (some v) ∧ Q v H2
def tNGet2 (P : Program) (w : World) (td ty tx : TE) : TE := fun σ H Q => td σ H fun x H1 => ∃ a, x = .ref a ∧ IsN P w H1 a ∧ ty σ H1 fun y H2 => tx σ H2 fun z H3 => ∃ o, NGet P w H3 a y o ∧ Q (o.getD z) H3
def sNPut (P : Program) (w : World) (td ty tv : TE) : TS := fun D σ H => tv σ H fun v H1 => td σ H1 fun x H2 => ty σ H2 fun y H3 => ∃ a xs k b, x = .ref a ∧ H3 a = some (NdO P w a xs) ∧ NKeys H3 xs ∧ y = .ref b ∧ KIs H3 k (.ref b) ∧ k.depth ≤ 8 ∧ xs.length < sizeLine ∧ ∀ r : Value, RelV v r → D.nx σ (upd H3 a (NdO P w a (storedH xs k b r)))
section
variable {X : Cx} {o i e f value : Expr} {pos pos' apos cpos : Pos} {td ty tx tv : TE}
theorem pe_nnew : PE X (.Dict [] [] pos) (tNNew X.prog X.w) := ⟨fun pins s σ H Q I h =>
  wpAny_Dict_empty ⟨.ref s.heap.objs.size, _, I.laid (a := s.heap.objs.size) (o := NdO X.prog X.w s.heap.objs.size []) (t' := s.toks) (fun _ _ q => Heap.get?_push_of_some _ q) (Nat.le_refl _)
    (nd_new ⟨beq_eq_false_iff_ne.mpr (Ne.symm (Nat.ne_of_lt I.big)), Nat.zero_le _, _, #[], 0, Heap.get?_push_size _ rfl, ⟨rfl, rfl, rfl⟩, rfl, rfl⟩), rfl, h _ (I.hok.fresh (Nat.le_refl _))⟩⟩
theorem nroom {A : Around} (hu : A.units + 65 < cLine) {P : Program} {w : World} : (nestedKind P w).room A.in1 := by
  show A.units + 1 + 8 < cLine
  omega
theorem ndict_typeIs {pins : List (Addr × Obj)} {σ : L2.St} {H : Hp} {s : Shared} {a : Addr} (I : Inv X pins σ H s) (d : IsN X.prog X.w H a) :
    s.TypeIs (.ref a) "dict" ∧ (∀ b, Value.ref a = .ref b → ∃ ob, s.heap.get? b = some ob ∧ ob.dict = none) := by
  obtain ⟨xs, e, k⟩ := d
  obtain ⟨z, l, dd⟩ := nd_of I.hok e k
  refine ⟨dd.typeIs, fun b q => ?_⟩
  cases q
  obtain ⟨ob, _, _, h1, h2, _⟩ := dd
  exact ⟨ob, h1, h2.2.1⟩
theorem NGet.is {P : Program} {w : World} {H : Hp} {a : Addr} {y : V} {o : Option V} (g : NGet P w H a y o) : IsN P w H a := by
  obtain ⟨xs, _, _, e, k, _⟩ := g
  exact ⟨xs, e, k⟩
theorem pe_nget (hu : X.A.units + 65 < cLine) (ho : PE X o td) (hi : PE X i ty) (hs : NoSl i) : PE X (.Subscript o i pos) (tNGet X.prog X.w td ty) := by
  refine ⟨fun pins s σ H Q I h => ?_⟩
  refine subD_of PySem.F.slot_dict_getitem.lookup hs (thn (ho.run pins s σ H _ I h) fun u s1 ⟨x, H1, I1, rx, q1⟩ => thn (hi.run pins s1 σ H1 _ I1 q1) fun iv s2 ⟨y, H2, I2, ry, a, v, ex, g, q2⟩ => ?_)
  subst ex
  obtain rfl : u = Value.ref a := rx
  refine ⟨(ndict_typeIs I2 g.is).1, ?_⟩
  obtain ⟨xs, k, b, e, nk, ey, kb, kd, l⟩ := g
  subst ey
  cases (show iv = Value.ref b from ry)
  obtain ⟨z, _, dd⟩ := nd_of I2.hok e nk
  obtain ⟨w', hw, rw'⟩ := RelO.some_of (v := v) (o := (atKey xs k).map (·.2)) l
  obtain ⟨p, hp, hp2⟩ := Option.map_eq_some_iff.mp hw
  refine wpAny_getItem_heap (nroom hu) (nd_key I2.hok kb kd) dd hp ?_
  rw [hp2]
  exact ⟨v, H2, I2.tok _, rw', q2⟩
theorem pe_ngetK {P : Program} {w : World} (hp : X.prog = P) (hw : X.w = w) (hu : X.A.units + 65 < cLine) (ho : PE X o td) (hi : PE X i ty) (hs : NoSl i) : PE X (.Subscript o i pos) (tNGet P w td ty) := by
  subst hp hw
  exact pe_nget hu ho hi hs
theorem pe_nget2 (hu : X.A.units + 65 < cLine) (ho : PE X o td) (he : PE X e ty) (hf : PE X f tx) (m : M2 X o "get" apos e f cpos) : PE X (.Call (.Attribute o "get" apos) [e, f] [] cpos) (tNGet2 X.prog X.w td ty tx) := by
  refine ⟨fun pins s σ H Q I h => ?_⟩
  refine wpAny_Call_method m.base m.few m.line PySem.F.plainAttrs_dict PySem.F.slot_dict_get PySem.F.type_dict_get (thn (ho.run pins s σ H _ I h) fun u s1 ⟨x, H1, I1, rx, a, ex, d, q1⟩ => ?_)
  subst ex
  obtain rfl : u = Value.ref a := rx
  obtain ⟨t1, t2⟩ := ndict_typeIs I1 d
  refine ⟨t1, t2, ?_⟩
  rw [m.trees]
  refine Calls.callWith_builtin rfl (Calls.evalArgs_plain (Calls.spliced_cons (thn (he.run pins s1 σ H1 _ I1 q1) fun iv s2 ⟨y, H2, I2, ry, q2⟩ =>
    Calls.spliced_cons (thn (hf.run pins s2 σ H2 _ I2 q2) fun fv s3 ⟨z, H3, I3, rz, ov, g, q3⟩ => Calls.spliced_nil ?_))))
  obtain ⟨xs, k, b, e', nk, ey, kb, kd, l⟩ := g
  subst ey
  cases (show iv = Value.ref b from ry)
  obtain ⟨zs, _, dd⟩ := nd_of I3.hok e' nk
  refine call_meetsIn PySem.F.slot_dict_get dd.typeIs PySem.F.entry_dict_get (PySem.F.args_dict_get_3 _ _ _) (meetsH_dict_get_default (nestedKind X.prog X.w) a b zs fv) ⟨nroom hu, k, xs, nd_key I3.hok kb kd, dd, ?_⟩
  exact ⟨_, H3, I3.tok _, l.getD rz, q3⟩
theorem ps_nput (hu : X.A.units + 65 < cLine) (ho : PE X o td) (hi : PE X i ty) (hv : PE X value tv) (hs : swapsWith value (some (.Subscript o i pos')) pos.line X.env = pure false) :
    PS X (.Assign [.Subscript o i pos'] value pos) (sNPut X.prog X.w td ty tv) := by
  refine ⟨fun pins s σ H D I h => ?_⟩
  refine wpAny_Assign_Subscript (thn (hv.run pins s σ H _ I h) fun r s1 ⟨v, H1, I1, rv, q1⟩ => thn (ho.run pins s1 σ H1 _ I1 q1) fun u s2 ⟨x, H2, I2, rx, q2⟩ => thn (hi.run pins s2 σ H2 _ I2 q2) fun iv s3 ⟨y, H3, I3, ry, a, xs, k, b, ex, ha, nk, ey, kb, kd, hl, q3⟩ => ?_) hs
  subst ex
  subst ey
  obtain rfl : u = Value.ref a := rx
  cases (show iv = Value.ref b from ry)
  obtain ⟨z, l, dd⟩ := nd_of I3.hok (.inl ha) nk
  refine wpAny_setItem_heap (hsz := l) (nroom hu) (nd_key I3.hok kb kd) dd fun h' dd' hs' => ?_
  have he : ∃ q, h'.get? a = some q := by
    obtain ⟨q, _, _, hq, _⟩ := id dd'
    exact ⟨q, hq⟩
  have hl' : (storedH xs k b r).length ≤ sizeLine := by
    unfold storedH
    split
    · rw [List.length_map]; exact l
    · rw [List.length_append]; simp; omega
  exact ⟨σ, _, d_write I3 (by rw [ha]; exact True.intro) hs' he (nd_new (nr_of z hl' dd')), q3 r rv⟩
end

/-! ### .. as the layer sees them -/
mutual
def nkD : PyData → NestedKey
  | .int i => .num i
  | .tuple ds => .tup (nkDs ds)
  | _ => .none
def nkDs : List PyData → List NestedKey
  | [] => []
  | d :: ds => nkD d :: nkDs ds
end
mutual
def FlatK : PyData → Prop
  | .int _ => True
  | .tuple ds => FlatKs ds
  | _ => False
def FlatKs : List PyData → Prop
  | [] => True
  | d :: ds => FlatK d ∧ FlatKs ds
end
mutual
theorem Rep.kis {K : PySem.W.Frag} {X : Addr → Prop} {H : Hp} : ∀ {d : PyData} {v : V}, FlatK d → Rep K X H d v → KIs H (nkD d) v
  | _, _, _, .int i => by rw [nkD]; exact .num i
  | _, _, f, .tup h r => by rw [nkD]; rw [FlatK] at f; exact .tup h (Reps.kis f r)
  | .none, _, f, _ => by simp [FlatK] at f
  | .bool _, _, f, _ => by simp [FlatK] at f
  | .str _, _, f, _ => by simp [FlatK] at f
  | .list _, _, f, _ => by simp [FlatK] at f
theorem Reps.kis {K : PySem.W.Frag} {X : Addr → Prop} {H : Hp} : ∀ {ds : List PyData} {vs : List V}, FlatKs ds → Reps K X H ds vs → KAll H (nkDs ds) vs
  | _, _, _, .nil => by rw [nkDs]; exact .nil
  | _, _, f, .cons r t => by rw [nkDs]; rw [FlatKs] at f; exact .cons (Rep.kis f.1 r) (Reps.kis f.2 t)
end
mutual
theorem nkD_inj : ∀ {d e : PyData}, FlatK d → FlatK e → nkD d = nkD e → d = e
  | .int i, .int j, _, _, h => by simp [nkD] at h; rw [h]
  | .tuple ds, .tuple es, f, g, h => by
    rw [FlatK] at f g
    rw [nkD, nkD] at h
    injection h with h
    rw [nkDs_inj f g h]
  | .int i, .tuple es, _, _, h => by simp [nkD] at h
  | .tuple ds, .int j, _, _, h => by simp [nkD] at h
  | .int i, .none, _, g, _ => by simp [FlatK] at g
  | .int i, .bool _, _, g, _ => by simp [FlatK] at g
  | .int i, .str _, _, g, _ => by simp [FlatK] at g
  | .int i, .list _, _, g, _ => by simp [FlatK] at g
  | .int i, .dict _, _, g, _ => by simp [FlatK] at g
  | .tuple _, .none, _, g, _ => by simp [FlatK] at g
  | .tuple _, .bool _, _, g, _ => by simp [FlatK] at g
  | .tuple _, .str _, _, g, _ => by simp [FlatK] at g
  | .tuple _, .list _, _, g, _ => by simp [FlatK] at g
  | .tuple _, .dict _, _, g, _ => by simp [FlatK] at g
  | .none, _, f, _, _ => by simp [FlatK] at f
  | .bool _, _, f, _, _ => by simp [FlatK] at f
  | .str _, _, f, _, _ => by simp [FlatK] at f
  | .list _, _, f, _, _ => by simp [FlatK] at f
  | .dict _, _, f, _, _ => by simp [FlatK] at f
theorem nkDs_inj : ∀ {ds es : List PyData}, FlatKs ds → FlatKs es → nkDs ds = nkDs es → ds = es
  | [], [], _, _, _ => rfl
  | d :: ds, e :: es, f, g, h => by
    rw [FlatKs] at f g
    rw [nkDs, nkDs] at h
    injection h with h1 h2
    rw [nkD_inj f.1 g.1 h1, nkDs_inj f.2 g.2 h2]
  | [], e :: es, _, _, h => by simp [nkDs] at h
  | d :: ds, [], _, _, h => by simp [nkDs] at h
end
class Nk (α : Type) [Py α] where
  flat : ∀ k : α, FlatK (enc k)
  dep : ∀ k : α, (nkD (enc k)).depth ≤ 8
  inj : ∀ k l : α, enc k = enc l → k = l
  tup : ∀ k : α, ∃ ds, enc k = PyData.tuple ds

instance : Nk (T2 (T3 Int (T2 Int Int) (T2 Int Int)) (T3 Int Int Int)) where
  flat := fun k => by simp [enc, FlatK, FlatKs]
  dep := fun k => by simp [enc, nkD, nkDs, NestedKey.depth, NestedKey.depthAll]
  inj := fun k l h => by
    obtain ⟨⟨a, ⟨b, c⟩, ⟨d, e⟩⟩, ⟨f, g, i⟩⟩ := k
    obtain ⟨⟨a', ⟨b', c'⟩, ⟨d', e'⟩⟩, ⟨f', g', i'⟩⟩ := l
    simp [enc] at h
    simp [h]
  tup := fun k => ⟨_, rfl⟩
instance : Nk (T2 (T3 Int Int Int) (T3 Int Int Int)) where
  flat := fun k => by simp [enc, FlatK, FlatKs]
  dep := fun k => by simp [enc, nkD, nkDs, NestedKey.depth, NestedKey.depthAll]
  inj := fun k l h => by
    obtain ⟨⟨a, b, c⟩, ⟨f, g, i⟩⟩ := k
    obtain ⟨⟨a', b', c'⟩, ⟨f', g', i'⟩⟩ := l
    simp [enc] at h
    simp [h]
  tup := fun k => ⟨_, rfl⟩
inductive NEnt (K : PySem.W.Frag) (X : Addr → Prop) (H : Hp) : List (PyData × Int) → NXs → Prop
  | nil : NEnt K X H [] []
  | cons {d : PyData} {i : Int} {t : Tok} {b : Addr} {es : List (PyData × Int)} {xs : NXs} : Rep K X H d (.ref b) → FlatK d → (nkD d).depth ≤ 8 → NEnt K X H es xs → NEnt K X H ((d, i) :: es) ((nkD d, b, .int i t) :: xs)
section
variable {K : PySem.W.Frag} {X Y : Addr → Prop} {H H' : Hp}
theorem NEnt.keep (k : Keep X H H') : ∀ {es : List (PyData × Int)} {xs : NXs}, NEnt K X H es xs → NEnt K X H' es xs
  | _, _, .nil => .nil
  | _, _, .cons r f d t => .cons (r.keep k) f d (t.keep k)
theorem NEnt.anti (h : ∀ a, Y a → X a) : ∀ {es : List (PyData × Int)} {xs : NXs}, NEnt K X H es xs → NEnt K Y H es xs
  | _, _, .nil => .nil
  | _, _, .cons r f d t => .cons (r.anti h) f d (t.anti h)
theorem NEnt.more {p : Addr} (h : H p = none) : ∀ {es : List (PyData × Int)} {xs : NXs}, NEnt K X H es xs → NEnt K (fun a => X a ∨ a = p) H es xs
  | _, _, .nil => .nil
  | _, _, .cons r f d t => .cons (r.more h) f d (t.more h)
theorem NEnt.len : ∀ {es : List (PyData × Int)} {xs : NXs}, NEnt K X H es xs → xs.length = es.length
  | _, _, .nil => rfl
  | _, _, .cons _ _ _ t => congrArg (· + 1) t.len
theorem NEnt.flat : ∀ {es : List (PyData × Int)} {xs : NXs}, NEnt K X H es xs → ∀ e ∈ es, FlatK e.1
  | _, _, .nil, _, h => nomatch h
  | _, _, .cons _ f _ t, e, h => by
    rcases List.mem_cons.mp h with z | z
    · rw [z]; exact f
    · exact t.flat e z
theorem NEnt.keys : ∀ {es : List (PyData × Int)} {xs : NXs}, NEnt K X H es xs → (es.map (·.1)).Nodup → NKeys H xs
  | _, _, .nil, _ => ⟨fun _ h => (nomatch h), List.nodup_nil⟩
  | _, _, .cons (d := d) r f dp t, n => by
    rw [List.map_cons, List.nodup_cons] at n
    obtain ⟨k1, k2⟩ := t.keys n.2
    refine ⟨fun x hx => ?_, ?_⟩
    · rcases List.mem_cons.mp hx with z | z
      · rw [z]; exact ⟨Rep.kis f r, dp⟩
      · exact k1 x z
    · rw [List.map_cons, List.nodup_cons]
      refine ⟨fun hm => ?_, k2⟩
      have : ∀ {es : List (PyData × Int)} {xs : NXs}, NEnt K X H es xs → nkD d ∈ xs.map (·.1) → d ∈ es.map (·.1) := by
        intro es xs t
        induction t with
        | nil => intro h; exact (nomatch h)
        | cons r' f' dp' t' ih =>
          intro h
          rw [List.map_cons] at h ⊢
          rcases List.mem_cons.mp h with z | z
          · rw [nkD_inj f f' z]; exact List.mem_cons_self
          · exact List.mem_cons_of_mem _ (ih z)
      exact n.1 (this t hm)
end
def ngetM {κ β : Type} [DecidableEq κ] (kvs : List (κ × β)) (k : κ) : Option β := (kvs.find? fun kv => decide (kv.1 = k)).map (·.2)
def nputM {κ β : Type} [DecidableEq κ] (kvs : List (κ × β)) (k : κ) (v : β) : List (κ × β) :=
  if (kvs.any fun kv => decide (kv.1 = k)) = true then kvs.map (fun kv => if kv.1 = k then (kv.1, v) else kv) else kvs ++ [(k, v)]
def NdR (K : PySem.W.Frag) (P : Program) (w : World) (es : List (PyData × Int)) : Addr → (Addr → Prop) → Hp → Prop := fun p X H => (es.map (·.1)).Nodup ∧ ∃ xs, H p = some (NdO P w p xs) ∧ NEnt K X H es xs
theorem ndR_rx (K : PySem.W.Frag) (P : Program) (w : World) (es : List (PyData × Int)) : RX (NdR K P w es) where
  keep := fun k e ⟨n, xs, h, t⟩ => ⟨n, xs, e.trans h, t.keep k⟩
  anti := fun h ⟨n, xs, e, t⟩ => ⟨n, xs, e, t.anti h⟩
  more := fun h ⟨n, xs, e, t⟩ => ⟨n, xs, e, t.more h⟩
  nn := fun ⟨n, xs, e, t⟩ => by rw [e]; exact fun z => nomatch z
  ntup := fun ⟨n, xs, e, t⟩ => by
    rw [e]
    constructor
    · intro _ z; cases z
    · intro _ _ z; cases z
def nes {κ : Type} [Py κ] (kvs : List (κ × Int)) : List (PyData × Int) := kvs.map fun e => (enc e.1, e.2)
abbrev mn (K : PySem.W.Frag) (P : Program) (w : World) {κ : Type} [Py κ] (kvs : List (κ × Int)) : MO := .ex (NdR K P w (nes kvs))
section
variable {K : PySem.W.Frag} {X : Addr → Prop} {H : Hp} {κ : Type} [Py κ] [DecidableEq κ] [Nk κ]
theorem nes_key (kvs : List (κ × Int)) : (nes kvs).map (·.1) = kvs.map fun e => enc e.1 := by unfold nes; rw [List.map_map]; rfl
theorem nent_get {k : κ} : ∀ {kvs : List (κ × Int)} {xs : NXs}, NEnt K X H (nes kvs) xs → RelO ((ngetM kvs k).map V.int) ((atKey xs (nkD (enc k))).map (·.2))
  | [], _, .nil => trivial
  | (l, i) :: kvs, _, .cons (t := t) (b := b) (xs := xs) r f d q => by
    by_cases z : l = k
    · subst z
      have e1 : ngetM ((l, i) :: kvs) l = some i := by simp [ngetM]
      have e2 : atKey ((nkD (enc l), b, Value.int i t) :: xs) (nkD (enc l)) = some (b, Value.int i t) := by simp [atKey]
      rw [e1, e2]; exact ⟨t, rfl⟩
    · have zn : ¬ nkD (enc l) = nkD (enc k) := fun e => z (Nk.inj _ _ (nkD_inj (Nk.flat l) (Nk.flat k) e))
      have e1 : ngetM ((l, i) :: kvs) k = ngetM kvs k := by simp [ngetM, List.find?_cons, z]
      have e2 : atKey ((nkD (enc l), b, Value.int i t) :: xs) (nkD (enc k)) = atKey xs (nkD (enc k)) := by simp [atKey, List.find?_cons, zn]
      rw [e1, e2]
      exact nent_get q
theorem nent_any {k : κ} : ∀ {kvs : List (κ × Int)} {xs : NXs}, NEnt K X H (nes kvs) xs → (atKey xs (nkD (enc k))).isSome = (kvs.any fun kv => decide (kv.1 = k))
  | [], _, .nil => rfl
  | (l, i) :: kvs, _, .cons (t := t) (b := b) (xs := xs) r f d q => by
    rw [List.any_cons]
    by_cases z : l = k
    · subst z
      simp [atKey]
    · have zn : ¬ nkD (enc l) = nkD (enc k) := fun e => z (Nk.inj _ _ (nkD_inj (Nk.flat l) (Nk.flat k) e))
      have e2 : atKey ((nkD (enc l), b, Value.int i t) :: xs) (nkD (enc k)) = atKey xs (nkD (enc k)) := by simp [atKey, List.find?_cons, zn]
      rw [e2, decide_eq_false z, Bool.false_or]
      exact nent_any q
theorem nent_map {k : κ} {j : Int} {u : Tok} : ∀ {kvs : List (κ × Int)} {xs : NXs}, NEnt K X H (nes kvs) xs → NEnt K X H (nes (kvs.map fun kv => if kv.1 = k then (kv.1, j) else kv)) (xs.map (putAt (nkD (enc k)) (.int j u)))
  | [], _, .nil => .nil
  | (l, i) :: kvs, _, .cons (t := t) (b := b) (xs := xs) r f d q => by
    rw [List.map_cons, List.map_cons]
    by_cases z : l = k
    · subst z
      rw [if_pos rfl]
      have : putAt (nkD (enc l)) (.int j u) (nkD (enc l), b, Value.int i t) = (nkD (enc l), b, Value.int j u) := by simp [putAt]
      rw [this]
      exact .cons r f d (nent_map q)
    · have zn : ¬ nkD (enc l) = nkD (enc k) := fun e => z (Nk.inj _ _ (nkD_inj (Nk.flat l) (Nk.flat k) e))
      rw [if_neg z]
      have : putAt (nkD (enc k)) (.int j u) (nkD (enc l), b, Value.int i t) = (nkD (enc l), b, Value.int i t) := by simp [putAt, zn]
      rw [this]
      exact .cons r f d (nent_map q)
theorem nent_snoc {d : PyData} {i : Int} {t : Tok} {b : Addr} (r : Rep K X H d (.ref b)) (f : FlatK d) (dp : (nkD d).depth ≤ 8) : ∀ {es : List (PyData × Int)} {xs : NXs}, NEnt K X H es xs → NEnt K X H (es ++ [(d, i)]) (xs ++ [(nkD d, b, .int i t)])
  | _, _, .nil => .cons r f dp .nil
  | _, _, .cons r' f' d' q => .cons r' f' d' (nent_snoc r f dp q)
theorem nent_put {k : κ} {j : Int} {u : Tok} {b : Addr} {kvs : List (κ × Int)} {xs : NXs} (r : Rep K X H (enc k) (.ref b)) (q : NEnt K X H (nes kvs) xs) : NEnt K X H (nes (nputM kvs k j)) (storedH xs (nkD (enc k)) b (.int j u)) := by
  unfold nputM storedH
  rw [nent_any q]
  split
  · exact nent_map q
  · unfold nes
    rw [List.map_append]
    exact nent_snoc r (Nk.flat k) (Nk.dep k) q
theorem nput_nodup {k : κ} {j : Int} {kvs : List (κ × Int)} (n : ((nes kvs).map (·.1)).Nodup) : ((nes (nputM kvs k j)).map (·.1)).Nodup := by
  rw [nes_key] at n ⊢
  unfold nputM
  split
  · rw [List.map_map]
    have : ((fun e : κ × Int => enc e.1) ∘ fun kv : κ × Int => if kv.1 = k then (kv.1, j) else kv) = fun e => enc e.1 := by
      funext e
      show enc (if e.1 = k then (e.1, j) else e).1 = enc e.1
      split <;> rfl
    rw [this]; exact n
  · rename_i h
    rw [List.map_append]
    refine List.nodup_append.mpr ⟨n, by simp, fun a ha c hc => ?_⟩
    obtain ⟨e, he, rfl⟩ := List.mem_map.mp ha
    rw [List.mem_singleton.mp hc]
    intro eq
    apply h
    rw [List.any_eq_true]
    exact ⟨e, he, by simpa using Nk.inj _ _ eq⟩
end
section
variable {C : Cn} {X : Addr → Prop} {H : Hp} {σ : L2.St} {Γ Γ' : List Sl} {Q : VK} {ρ κ : Type} [Py κ] [DecidableEq κ] [Nk κ] {P : Program} {w : World}
theorem x_nnew (L : Lo C X H σ Γ) (h : ∀ p X' H1, C.H0 p = none → ¬ C.X0 p → Lo C X' H1 σ (Γ ++ [.tmp p (mn C.K P w ([] : List (κ × Int)))]) → (∀ d u, Rep C.K X H d u → Rep C.K X' H1 d u) → Q (.ref p) H1) : tNNew P w σ H Q := fun p hp => by
  have s : Same H (upd H p (NdO P w p [])) := same_upd hp
  obtain ⟨L1, le, h0, hx⟩ := L.lay (o := mn C.K P w ([] : List (κ × Int))) hp s ⟨ndR_rx _ _ _ _, List.nodup_nil, [], upd_same, .nil⟩
  exact h p _ _ h0 hx L1 le
theorem nkey_rep {K : PySem.W.Frag} {k : κ} {y : V} (r : Rep K X H (enc k) y) : ∃ b, y = .ref b ∧ Rep K X H (enc k) (.ref b) := by
  obtain ⟨ds, e⟩ := Nk.tup k
  have r' := r
  rw [e] at r'
  cases r' with
  | tup h q => exact ⟨_, rfl, r⟩
def KNg (P : Program) (w : World) (x : V) (Q : VK) : VK := fun y H2 => ∃ a v, x = .ref a ∧ NGet P w H2 a y (some v) ∧ Q v H2
def KNG2 (P : Program) (w : World) (a : Addr) (y : V) (Q : VK) : VK := fun z H3 => ∃ o, NGet P w H3 a y o ∧ Q (o.getD z) H3
theorem x_ng {td ty : TE} (h : td σ H fun x H1 => ty σ H1 (KNg P w x Q)) : tNGet P w td ty σ H Q := h
theorem x_ng2 {td ty tx : TE} (h : td σ H fun x H1 => ∃ a, x = .ref a ∧ IsN P w H1 a ∧ ty σ H1 fun y H2 => tx σ H2 (KNG2 P w a y Q)) : tNGet2 P w td ty tx σ H Q := h
theorem x_isN {i : Nat} {p : Addr} {kvs : List (κ × Int)} {R : Addr → Prop} (L : Lo C X H σ Γ) (g : Γ[i]? = some (.mu p (mn C.K P w kvs))) (h : R p) : ∃ a, V.ref p = .ref a ∧ IsN P w H a ∧ R a := by
  obtain ⟨_, n, xs, e, q⟩ := L.mrep g
  exact ⟨p, rfl, ⟨xs, .inl e, q.keys n⟩, h⟩
theorem x_nget2 {kvs : List (κ × Int)} {k : κ} {d : Int} {i : Nat} {p : Addr} {y : V} (L : Lo C X H σ Γ) (g : Γ[i]? = some (.mu p (mn C.K P w kvs))) (ry : Rep C.K X H (enc k) y)
    (h : Q (.int ((ngetM kvs k).getD d)) H) : KNG2 P w p y Q (.int d) H := by
  obtain ⟨_, n, xs, e, q⟩ := L.mrep g
  obtain ⟨b, rfl, rb⟩ := nkey_rep ry
  refine ⟨(ngetM kvs k).map V.int, ⟨xs, _, b, .inl e, q.keys n, rfl, Rep.kis (Nk.flat k) rb, Nk.dep k, nent_get q⟩, ?_⟩
  cases hk : ngetM kvs k with
  | none => rw [hk] at h; exact h
  | some j => rw [hk] at h; exact h
theorem x_nputS {td ty tv : TE} {nx bk ct : L2.St → Hp → Prop} {rt : VK} (h : tv σ H fun v H1 => td σ H1 fun x H2 => ty σ H2 fun y H3 => ∃ a xs k b, x = .ref a ∧ H3 a = some (NdO P w a xs) ∧ NKeys H3 xs ∧ y = .ref b ∧ KIs H3 k (.ref b) ∧ k.depth ≤ 8 ∧ xs.length < sizeLine ∧ ∀ r : Value, RelV v r → nx σ (upd H3 a (NdO P w a (storedH xs k b r)))) : sNPut P w td ty tv ⟨nx, rt, bk, ct⟩ σ H := h
theorem x_nput {kvs : List (κ × Int)} {k : κ} {j : Int} {i : Nat} {p : Addr} {y : V} {kk : Unit → Option ρ} {r : ρ} {R : Hp → Prop} (L : Lo C X H σ Γ) (g : Γ[i]? = some (.mu p (mn C.K P w kvs))) (hm : (lenOk (kvs.length + 1)).bind kk = some r) (ry : Rep C.K X H (enc k) y)
    (e : Γ.set i (.mu p (mn C.K P w (nputM kvs k j))) = Γ') (h : ∀ H1, kk () = some r → Lo C X H1 σ Γ' → (∀ d u, Rep C.K X H d u → Rep C.K X H1 d u) → R H1) :
    ∃ a xs k b, V.ref p = .ref a ∧ H a = some (NdO P w a xs) ∧ NKeys H xs ∧ y = .ref b ∧ KIs H k (.ref b) ∧ k.depth ≤ 8 ∧ xs.length < sizeLine ∧ ∀ r : Value, RelV (.int j) r → R (upd H a (NdO P w a (storedH xs k b r))) := by
  subst e
  obtain ⟨_, hl, hk⟩ := ob hm
  obtain ⟨_, n, xs, hw, q⟩ := L.mrep g
  obtain ⟨b, rfl, rb⟩ := nkey_rep ry
  have hX : X p := L.mx p (mem_muts.mpr ⟨i, _, g, rfl⟩)
  have kp : ∀ o, Keep X H (upd H p o) := fun o => ⟨fun a u h n => by rw [upd_ne (fun z => n (by rw [z]; exact hX))]; exact h, fun a us h => by rw [upd_ne (fun z => by rw [z, hw] at h; cases h)]; exact h, fun a u w h => by rw [upd_ne (fun z => by rw [z, hw] at h; cases h)]; exact h⟩
  refine ⟨p, xs, nkD (enc k), b, rfl, hw, q.keys n, rfl, Rep.kis (Nk.flat k) rb, Nk.dep k, ?_, fun rv hr => ?_⟩
  · have := lenOk_le hl
    have := q.len
    unfold nes at this
    rw [List.length_map] at this
    rw [line_eq]; omega
  · obtain ⟨t, rfl⟩ := hr
    obtain ⟨L1, le⟩ := L.wrote (H' := upd H p (NdO P w p (storedH xs (nkD (enc k)) b (.int j t)))) (o := mn C.K P w (nputM kvs k j)) g rfl (fun a u h n => by rw [upd_ne n]; exact h) (fun a h => by
        by_cases z : a = p
        · rw [z, upd_same]; exact fun y => nomatch y
        · rw [upd_ne z]; exact h) ⟨ndR_rx _ _ _ _, nput_nodup n, _, upd_same, (nent_put rb q).keep (kp _)⟩
    exact h _ hk L1 le
end

/-! ### [d[k] == 0 for k in d] -/
def ItNk (P : Program) (w : World) (d : Addr) (o : Obj) (xs : NXs) : It :=
  ⟨fun i H => H d = some (.frz o (NdO P w d xs)) ∧ i < xs.length, fun i H x H' => H' = H ∧ ∃ e, xs[i]? = some e ∧ x = .ref e.2.1, fun i H => H d = some (.frz o (NdO P w d xs)) ∧ xs.length ≤ i⟩
theorem nd_frz {X : Cx} {pins : List (Addr × Obj)} {σ : L2.St} {H : Hp} {s : Shared} {d : Addr} {o : Obj} {xs : NXs} (I : Inv X pins σ H s) (h : H d = some (.frz o (NdO X.prog X.w d xs))) :
    (d == sysModules) = false ∧ s.heap.get? d = some o ∧ o.ExactDict ∧ ∃ (es : Array DictEntry) (ep : Nat), o.data = .dict es ep ∧ es.size = xs.length ∧ ∀ (i : Nat) e, xs[i]? = some e → ∃ en : DictEntry, es[i]? = some en ∧ en.key = .ref e.2.1 := by
  obtain ⟨hd, ⟨z, l, o', es, ep, ho, hx, hdt, he⟩, _⟩ := I.hok d _ h
  rw [hd] at ho
  cases ho
  refine ⟨z, hd, hx, es, ep, hdt, size_of_entries he, fun i e q => ?_⟩
  have := entry_at he i
  rw [q] at this
  exact ⟨_, this, rfl⟩
theorem turn_nkeys {P : Program} {w : World} {K : PySem.W.Frag} {tg : Expr} {d : Addr} {o : Obj} {xs : NXs} {es : Array DictEntry} {ep : Nat} (it : Addr) (hod : o.data = .dict es ep) : Turn P w K tg (ItNk P w d o xs) [it] it (fun i h => h.IsKeyIter it d i xs.length ep) where
  mem := by simp
  obj := fun i h st b hb => by
    have e : b = it := by simpa using hb
    subst e
    obtain ⟨oi, e, c, dd⟩ := st
    exact ⟨oi, e, fun v z => by rw [dd] at z; cases z⟩
  keep := fun i h h' st k => st.at fun oi e => k it (by simp) oi e
  item := by
    intro X hP hw hK hc i pins s σ H E I hf st hg
    subst hP hw hK
    obtain ⟨hd, hi⟩ := hg
    obtain ⟨f0, f1, f2, f3, f4, f5⟩ := hf it (by simp)
    obtain ⟨hs, hgd, hx, es', ep', hdt, hsz, ent⟩ := nd_frz I hd
    obtain ⟨rfl, rfl⟩ := dict_ep hod hdt
    obtain ⟨e, he⟩ : ∃ e, xs[i]? = some e := ⟨xs[i], List.getElem?_eq_getElem hi⟩
    obtain ⟨en, hen, hkey⟩ := ent i e he
    refine next_key_item st hgd hdt hsz hen fun h' st' sb => ?_
    have I1 : Inv X pins σ H { s with heap := h' } := I.turned (t' := s.toks) (fun b ob hb e => (sb.2 b hb).trans e) f0 f1 f3 f4 f5
    obtain ⟨oi, e', c, dd⟩ := id st'
    exact ⟨en.key, rfl, go_of (s := { s with heap := h' }) e' c dd (by decide) ⟨.ref e.2.1, H, I1, hkey, ⟨rfl, e, he, rfl⟩, st', fun b hb => (hf b hb).1⟩⟩
  done := by
    intro X hP hw hK hc i pins s σ H E I hf st hg
    subst hP hw hK
    obtain ⟨hd, hi⟩ := hg
    obtain ⟨f0, f1, f2, f3, f4, f5⟩ := hf it (by simp)
    obtain ⟨hs, hgd, hx, es', ep', hdt, hsz, ent⟩ := nd_frz I hd
    obtain ⟨rfl, rfl⟩ := dict_ep hod hdt
    exact next_key_end (I.ok.hd hc) st hgd hdt hsz hi fun h' eb => ⟨rfl, I.turned (t' := s.toks) (fun b ob hb e => eb b ob hb e) f0 f1 f3 f4 f5⟩
  self := fun A i s Q E st h => by
    refine wpAny_pyIter_slot st.typeIs PySem.F.slot_dict_keyiterator_iter (wpAny_call_entry PySem.F.slot_dict_keyiterator_iter st.typeIs PySem.F.entry_dict_keyiterator_iter ?_ (PySem.F.args_dict_keyiterator_iter_1 _))
    show wpAny _ _ (ret (.ref it)) _ _ s
    exact wpAny_pure ⟨_, rfl, "dict_keyiterator", _, st.typeIs, PySem.F.slot_dict_keyiterator_next.lookup, h⟩
def iNKeys (P : Program) (w : World) (td : TE) : TI := fun σ H R => td σ H fun x H1 => ∃ d o xs, x = .ref d ∧ H1 d = some (.frz o (NdO P w d xs)) ∧ R (ItNk P w d o xs) H1
theorem pi_nkeys {X : Cx} {tg e : Expr} {td : TE} (he : PE X e td) : PI X tg e (iNKeys X.prog X.w td) := by
  refine ⟨fun pins s σ H R I h => ?_⟩
  refine thn (he.run pins s σ H _ I h) fun u s1 ⟨x, H1, I1, rx, d, o, xs, ex, hd, q⟩ => ?_
  subst ex
  obtain rfl : u = Value.ref d := rx
  obtain ⟨hs, hgd, hx, es, ep, hdt, hsz, ent⟩ := nd_frz I1 hd
  refine iter_keys hs hgd hx hdt (pi_one (tk := s1.toks) I1 _ (turn_nkeys _ hdt) ⟨_, Heap.get?_push_size _ rfl, rfl, ?_⟩ q)
  rw [hsz] <;> rfl
theorem NEnt.at {K : PySem.W.Frag} {X : Addr → Prop} {H : Hp} : ∀ {es : List (PyData × Int)} {xs : NXs} {i : Nat} {e}, NEnt K X H es xs → xs[i]? = some e → ∃ d z t, es[i]? = some (d, z) ∧ e = (nkD d, e.2.1, Value.int z t) ∧ Rep K X H d (.ref e.2.1) ∧ FlatK d ∧ (nkD d).depth ≤ 8
  | _, _, _, _, .nil, h => by simp at h
  | _, _, 0, _, .cons (d := d) (i := z) (t := t) r f dp q, h => by
    have := Option.some.inj h
    subst this
    exact ⟨d, z, t, rfl, rfl, r, f, dp⟩
  | _, _, i + 1, _, .cons r f dp q, h => NEnt.at (i := i) q h
theorem atKey_nd : ∀ {xs : NXs} {i : Nat} {e}, (xs.map (·.1)).Nodup → xs[i]? = some e → atKey xs e.1 = some e.2
  | [], _, _, _, h => by simp at h
  | x :: xs, 0, _, n, h => by
    have := Option.some.inj h
    subst this
    simp [atKey]
  | x :: xs, i + 1, e, n, h => by
    rw [List.map_cons, List.nodup_cons] at n
    have hx : xs[i]? = some e := h
    have ne : ¬ x.1 = e.1 := fun q => n.1 (q ▸ List.mem_map.mpr ⟨e, List.mem_of_getElem? hx, rfl⟩)
    have : atKey (x :: xs) e.1 = atKey xs e.1 := by simp [atKey, List.find?_cons, ne]
    rw [this]
    exact atKey_nd n.2 hx
theorem x_lcNd {C : Cn} {X : Addr → Prop} {H : Hp} {σ : L2.St} {Γ : List Sl} {Q : VK} {κ : Type} [Py κ] [DecidableEq κ] [Nk κ] {P : Program} {w : World} {kvs : List (κ × Int)} {i j : Nat} {p : Addr} {te : TE} (L : Lo C X H σ Γ) (g : Γ[i]? = some (.mu p (mn C.K P w kvs))) (hij : i ≠ j) (hj : j < C.n) (hl : kvs.length ≤ 16777216)
    (body : ∀ (σ2 : L2.St) (H2 : Hp) (y : V) (z : Int) (Qy : VK), σ2[i]? = some (some (.ref p)) → σ2[j]? = some (some y) → NGet P w H2 p y (some (.int z)) → Qy (.bl (decide (z = 0))) H2 → te σ2 H2 Qy)
    (h : ∀ D H', Lo C X H' σ Γ → (∀ d u, Rep C.K X H d u → Rep C.K X H' d u) → Rep C.K X H' (enc (kvs.map fun e => decide (e.2 = 0))) (.ref D) → Q (.ref D) H') :
    tLockE (tLc (iNKeys P w (tVar i)) (gName j) tYes te [j]) σ H Q := by
  obtain ⟨hv, _, n, xs, hw, q⟩ := L.at_ i _ g
  refine ⟨p, NdO P w p xs, hw, True.intro, fun od => ?_⟩
  refine ⟨.ref p, hv, p, od, xs, rfl, upd_same, fun D hD => ?_⟩
  have hDp : D ≠ p := fun e => by rw [e, upd_same] at hD; cases hD
  have hD0 : H D = none := by rw [upd_ne hDp] at hD; exact hD
  have hX : X p := L.mx p (mem_muts.mpr ⟨i, _, g, rfl⟩)
  have kp : ∀ acc, Keep X H (upd (upd H p (.frz od (NdO P w p xs))) D (.lst acc)) := fun acc => by
    have ne : ∀ a u, H a = some u → a ≠ D := fun a u e z => by rw [z, hD0] at e; cases e
    have ne2 : ∀ a u, H a = some u → u ≠ NdO P w p xs → a ≠ p := fun a u e m z => by rw [z, hw] at e; exact m (Option.some.inj e).symm
    refine ⟨fun a u e nx => ?_, fun a us e => ?_, fun a u w' e => ?_⟩
    · have na : a ≠ p := fun z => nx (by rw [z]; exact hX)
      rw [upd_ne (ne _ _ e), upd_ne na]; exact e
    · rw [upd_ne (ne _ _ e), upd_ne (ne2 _ _ e fun z => nomatch z)]; exact e
    · rw [upd_ne (ne _ _ e), upd_ne (ne2 _ _ e fun z => nomatch z)]; exact e
  have ql := q.len
  have nl : (nes kvs).length = kvs.length := by unfold nes; rw [List.length_map]
  let bs : Nat → List V := fun i => (kvs.take i).map fun e => V.bl (decide (e.2 = 0))
  refine ⟨fun i m H' => m = xs.length - i ∧ i ≤ xs.length ∧ H' = upd (upd H p (.frz od (NdO P w p xs))) D (.lst (bs i)), ⟨xs.length, by simp, Nat.zero_le _, rfl⟩, ?_⟩
  rintro i' m H' ⟨rfl, hi, rfl⟩
  have atp : (upd (upd H p (.frz od (NdO P w p xs))) D (.lst (bs i'))) p = some (.frz od (NdO P w p xs)) := by rw [upd_ne (Ne.symm hDp), upd_same]
  by_cases hlt : i' < xs.length
  · refine .inr ⟨⟨atp, hlt⟩, fun H' => H' = upd (upd H p (.frz od (NdO P w p xs))) D (.lst (bs (i' + 1))), fun H' e => ⟨xs.length - (i' + 1), by omega, rfl, hlt, e⟩, ?_⟩
    rintro x H' ⟨rfl, e, he, rfl⟩
    obtain ⟨d, z, t, e1, e2, r, f, dp⟩ := q.at he
    refine ⟨?_, ?_⟩
    · show ((σ.set j none).set j (some (V.ref e.2.1))).set j none = σ.set j none
      rw [List.set_set, List.set_set]
    have qk := (q.keep (kp (bs i'))).keys n
    refine body _ _ (.ref e.2.1) z _ ?_ ?_ ⟨xs, e.1, e.2.1, .inr ⟨od, atp⟩, qk, rfl, ?_, ?_, ?_⟩ ⟨bs i', upd_same, ?_, ?_⟩
    · show ((σ.set j none).set j (some (V.ref e.2.1)))[i]? = _
      rw [List.set_set, List.getElem?_set_ne (Ne.symm hij)]; exact hv
    · show ((σ.set j none).set j (some (V.ref e.2.1)))[j]? = _
      rw [List.set_set, List.getElem?_set_self (by rw [L.len]; exact hj)]
    · have := (qk.1 e (List.mem_of_getElem? he)).1; exact this
    · exact (qk.1 e (List.mem_of_getElem? he)).2
    · rw [atKey_nd qk.2 he, e2]; exact ⟨t, rfl⟩
    · show ((kvs.take i').map _).length < sizeLine
      rw [List.length_map, List.length_take, line_eq]; omega
    · have ek : kvs[i']? = some (kvs[i']'(by omega)) := List.getElem?_eq_getElem (by omega)
      have ez : (kvs[i']'(by omega)).2 = z := by
        unfold nes at e1
        rw [List.getElem?_map, ek] at e1
        have := Option.some.inj e1
        exact congrArg Prod.snd this
      have : bs (i' + 1) = bs i' ++ [V.bl (decide (z = 0))] := by
        show (kvs.take (i' + 1)).map _ = (kvs.take i').map _ ++ _
        rw [List.take_add_one, ek, List.map_append, ← ez]; rfl
      rw [this]
      funext a
      unfold upd
      split <;> rfl
  · have ei : i' = xs.length := by omega
    subst ei
    refine .inl ⟨⟨atp, Nat.le_refl _⟩, atp, ?_⟩
    have ebs : bs xs.length = kvs.map fun e => V.bl (decide (e.2 = 0)) := by
      show (kvs.take _).map _ = _
      rw [List.take_of_length_le (by omega)]
    have eH : upd (upd (upd H p (.frz od (NdO P w p xs))) D (.lst (bs xs.length))) p (NdO P w p xs) = upd H D (.lst (bs xs.length)) := by
      funext a
      by_cases z : a = p
      · rw [z, upd_same, upd_ne (Ne.symm hDp), hw]
      · rw [upd_ne z]
        by_cases z2 : a = D
        · rw [z2, upd_same, upd_same]
        · rw [upd_ne z2, upd_ne z2, upd_ne z]
    rw [eH, ebs]
    have s : Same H (upd H D (.lst (kvs.map fun e => V.bl (decide (e.2 = 0))))) := same_upd hD0
    refine h D _ (L.same s) (fun _ _ r => r.keep (.same s)) ?_
    have hnX : ¬ X D := fun y => L.xd D y hD0
    refine .lst hnX (.inl upd_same) ?_
    rw [List.map_map]
    have : ∀ l : List (κ × Int), Reps C.K X (upd H D (.lst (kvs.map fun e => V.bl (decide (e.2 = 0))))) (l.map ((enc : Bool → PyData) ∘ fun e => decide (e.2 = 0))) (l.map fun e => V.bl (decide (e.2 = 0))) := by
      intro l
      induction l with
      | nil => exact .nil
      | cons e l ih => exact .cons (.bl _) ih
    exact this kvs

theorem x_ndEq {P : Program} {w : World} {i j : Nat} {p : Addr} {σ2 : L2.St} {H2 : Hp} {y : V} {z : Int} {Qy : VK} (h1 : σ2[i]? = some (some (.ref p))) (h2 : σ2[j]? = some (some y)) (hg : NGet P w H2 p y (some (.int z))) (hq : Qy (.bl (decide (z = 0))) H2) : tOp rEq (tNGet P w (tVar i) (tVar j)) (tC (V.int 0)) σ2 H2 Qy := by
  refine ⟨_, h1, _, h2, p, _, rfl, hg, ?_⟩
  exact x_eqi hq

/-! ### for k, x in enumerate(xs) -/
def enumL {α : Type} (xs : List α) : List (T2 Int α) := List.zipWith T2.mk (rangeL 0 xs.length) xs
theorem enumL_at {α : Type} {xs : List α} {i : Nat} {x : α} (h : xs[i]? = some x) : (enumL xs)[i]? = some ⟨(i : Int), x⟩ := by
  have hi := (List.getElem?_eq_some_iff.mp h).1
  unfold enumL rangeL
  rw [List.getElem?_zipWith, List.getElem?_map, List.getElem?_range hi, h]
  show some (T2.mk ((0 : Int) + (i : Int)) x) = _
  rw [Int.zero_add]
theorem enumL_len {α : Type} (xs : List α) : (enumL xs).length = xs.length := by
  unfold enumL rangeL
  rw [List.length_zipWith, List.length_map, List.length_range]; exact Nat.min_self _
def KForE (K : PySem.W.Frag) (g : TG) (tb : TS) (D : Ends) (σ : L2.St) : List V → Hp → Prop := fun vs H => ∃ a xs, vs = [.ref a] ∧ SqL K H a xs ∧ ∃ W : Nat → Nat → L2.St → Hp → Prop, (∃ m, W 0 m σ H) ∧ ∀ i m σ H, W i m σ H →
      ((Ite K a).stop i H ∧ D.nx σ H) ∨ ((Ite K a).go i H ∧ ∃ N : L2.St → Hp → Prop, (∀ σ' H', N σ' H' → ∃ m', m' < m ∧ W (i + 1) m' σ' H') ∧ ∀ v H', (Ite K a).yld i H v H' → g v σ H' fun σ2 H2 => tb { D with nx := N, ct := N, bk := D.nx } σ2 H2)
section
variable {C : Cn} {X : Addr → Prop} {H : Hp} {σ : L2.St} {Γ Γ' : List Sl} {Q : VK} {α τ ρ : Type}
theorem x_tforE {ta : TA} {g : TG} {tb : TS} {D : Ends} {K : PySem.W.Frag} (h : ta σ H (KForE K g tb D σ)) : tFor (iEnum K ta) g tb D σ H := h
theorem x_foE [Py α] {xs : List α} {f : T2 Int α → τ → Option τ} {G : τ → List Sl} {s0 : τ} {u : V} {g : TG} {tb : TS} {nx bk ct : L2.St → Hp → Prop} {rt : VK} {k : τ → Option ρ} {res : ρ}
    (L : Lo C X H σ (G s0)) (hG : ∀ s s', muts (G s) = muts (G s')) (r : Rep C.K X H (enc xs) u) (hm : (foldO f (enumL xs) s0).bind k = some res)
    (body : ∀ x s, BodyO C X G (enc x) s (f x s) g tb) (done : ∀ s σ' H', k s = some res → Lo C X H' σ' (G s) → nx σ' H') : KForE C.K g tb ⟨nx, rt, bk, ct⟩ σ [u] H := by
  obtain ⟨s1, h1, h2⟩ := ob hm
  obtain ⟨a, vs, rfl, hna, hrd, hrs⟩ := rep_lst (ds := xs.map enc) r
  have e1 : vs.length = xs.length := by rw [hrs.length, List.length_map]
  have hm0 := foldO_loop h1
  refine ⟨a, vs, rfl, .inl hrd, fun i m σ' H' => m = xs.length - i ∧ i ≤ xs.length ∧ ∃ s, Lo C X H' σ' (G s) ∧ Reps C.K X H' (xs.map enc) vs ∧ Rd H' a (.lst vs) ∧ loopL (ρ := Empty) (fun x s => (f x s).bind fun s' => some (.nxt s')) ((enumL xs).drop i) s = some (.nxt s1), ⟨xs.length, by simp, Nat.zero_le _, s0, L, hrs, hrd, hm0⟩, ?_⟩
  rintro i m σ' H' ⟨rfl, hi, s, L', r', hd, hm'⟩
  by_cases hlt : i < xs.length
  · refine .inr ⟨⟨vs, vs[i]'(by omega), .inl hd, List.getElem?_eq_getElem (by omega)⟩, fun σ'' H'' => i + 1 ≤ xs.length ∧ ∃ s, Lo C X H'' σ'' (G s) ∧ Reps C.K X H'' (xs.map enc) vs ∧ Rd H'' a (.lst vs) ∧ loopL (ρ := Empty) (fun x s => (f x s).bind fun s' => some (.nxt s')) ((enumL xs).drop (i + 1)) s = some (.nxt s1), fun σ'' H'' p' => ⟨xs.length - (i + 1), by omega, rfl, p'⟩, ?_⟩
    rintro w H2 ⟨T, y, rfl, hT, rfl, hall⟩
    have hy : vs[i]? = some y := hall vs (.inl hd)
    obtain ⟨d, hd1, rd⟩ := r'.get' hy
    rw [List.getElem?_map] at hd1
    cases hx : xs[i]? with
    | none => rw [hx] at hd1; cases hd1
    | some x =>
      rw [hx] at hd1
      cases hd1
      obtain ⟨o1, g1, g2, g3, g4⟩ := loop_drop (enumL_at hx) hm'
      have sT : Same H' (upd H' T (.tup [.int (i : Nat), y])) := same_upd hT
      have LT := L'.same sT
      have rT : Rep C.K X (upd H' T (.tup [.int (i : Nat), y])) (enc (T2.mk (i : Int) x)) (.ref T) := .tup upd_same (.cons (.int _) (.cons (rd.keep (.same sT)) .nil))
      have rT1 := r'.keep (.same sT)
      have kd : ∀ {c : Addr} {ws : List V}, Rd H' c (.lst ws) → Rd (upd H' T (.tup [.int (i : Nat), y])) c (.lst ws) := fun h => h.elim (fun h => .inl (sT _ _ h)) fun ⟨o, h⟩ => .inr ⟨o, sT _ _ h⟩
      refine (body (T2.mk (i : Int) x) s).body _ σ' _ _ _ _ _ o1 g1 LT.enter LT.dom rT ?_ ?_ ?_ ?_
      · intro s' e X' σ'' H'' L''
        have k := LT.keep L''
        exact ⟨hlt, s', LT.leave L'' (hG _ _), rT1.keep k, k.rd hna (kd hd), g2 s' e⟩
      · intro s' e X' σ'' H'' L''
        have k := LT.keep L''
        exact ⟨hlt, s', LT.leave L'' (hG _ _), rT1.keep k, k.rd hna (kd hd), g2 s' e⟩
      · intro s' e
        have := g3 s' e
        cases this
      · intro q e
        exact q.elim
  · have ei : i = xs.length := by omega
    subst ei
    rw [List.drop_eq_nil_of_le (by rw [enumL_len]; omega)] at hm'
    have e : s = s1 := by
      have : (some (Lp.nxt s) : Option (Lp τ Empty)) = some (.nxt s1) := hm'
      cases this; rfl
    subst e
    exact .inl ⟨⟨vs, .inl hd, by omega⟩, done _ _ _ h2 L'⟩
end

/-! ### max(list of ints) -/
theorem x_maxL {C : Cn} {X : Addr → Prop} {H : Hp} {Q : VK} {ρ : Type} {ns : List Int} {v : V} {k : Int → Option ρ} {r : ρ} (hm : (ns.max?).bind k = some r) (rv : Rep C.K X H (enc ns) v) (h : ∀ m, k m = some r → Q (.int m) H) : rMax C.K [v] H Q := by
  obtain ⟨m, e, hk⟩ := ob hm
  obtain ⟨a, us, rfl, hna, hrd, hrs⟩ := rep_lst (ds := ns.map enc) rv
  have e2 : us = ns.map V.int := Reps.toInts hrs
  subst e2
  have hm' := List.max?_eq_some_iff.mp e
  refine ⟨a, ns, rfl, .inl hrd, List.length_pos_of_mem hm'.1, fun m' h1 h2 => ?_⟩
  have : m' = m := by
    have := h2 m hm'.1
    have := hm'.2 m' h1
    omega
  subst this
  exact h m' hk
open Py (enc)
/-! ### sorted of pairs of pairs -/
end Sc
namespace ScQ
open PySem PySem.W PyProof.Rows SrtO
abbrev PP := (Int × Int) × (Int × Int)
def lex2 (p q : PP) : Bool := if p.1 = q.1 then lexB p.2 q.2 else lexB p.1 q.1
theorem lexB_irr (p : Int × Int) : lexB p p = false := lexB_no.mpr (by omega)
theorem lexB_tot {p q : Int × Int} (h : p ≠ q) (h1 : lexB p q = false) : lexB q p = true := by
  have a := lexB_no.mp h1
  refine lexB_iff.mpr ?_
  obtain ⟨p1, p2⟩ := p
  obtain ⟨q1, q2⟩ := q
  simp only at a ⊢
  by_cases e : p1 = q1
  · by_cases e2 : p2 = q2
    · exact (h (by rw [e, e2])).elim
    · omega
  · omega
theorem lex2_swo {α : Type} (k : α → PP) : Swo fun v u => lex2 (k v) (k u) := by
  refine ⟨fun x y h => ?_, fun x y z h1 h2 => ?_⟩
  · unfold lex2 at h ⊢
    by_cases e : (k x).1 = (k y).1
    · rw [if_pos e] at h
      rw [if_pos e.symm]
      have a := lexB_iff.mp h
      exact lexB_no.mpr (by omega)
    · rw [if_neg e] at h
      rw [if_neg (Ne.symm e)]
      have a := lexB_iff.mp h
      exact lexB_no.mpr (by omega)
  · unfold lex2 at h1 h2 ⊢
    by_cases e : (k y).1 = (k x).1
    · rw [if_pos e] at h1
      by_cases e2 : (k z).1 = (k y).1
      · rw [if_pos e2] at h2
        rw [if_pos (e2.trans e)]
        have a := lexB_no.mp h1
        have b := lexB_no.mp h2
        exact lexB_no.mpr (by omega)
      · rw [if_neg e2] at h2
        rw [if_neg (fun z => e2 (z.trans e.symm)), ← e]
        exact h2
    · rw [if_neg e] at h1
      by_cases e2 : (k z).1 = (k y).1
      · rw [if_pos e2] at h2
        rw [if_neg (fun z => e (e2.symm.trans z)), e2]
        exact h1
      · rw [if_neg e2] at h2
        by_cases e3 : (k z).1 = (k x).1
        · exfalso
          rw [e3] at h2
          have := lexB_tot e h1
          rw [h2] at this
          cases this
        · rw [if_neg e3]
          have a := lexB_no.mp h1
          have b := lexB_no.mp h2
          exact lexB_no.mpr (by omega)
theorem lexLt_two {a b c d : Int} : HT.lexLt [a, b] [c, d] = lexB (a, b) (c, d) := by
  rw [HT.lexLt_cons, HT.lexLt_cons, HT.lexLt_nil_nil]
  unfold lexB
  simp only
  by_cases e : a = c
  · rw [if_pos e, if_pos e]
    by_cases e2 : b = d
    · rw [if_pos e2, e2]
      exact (decide_eq_false (Int.lt_irrefl _)).symm
    · rw [if_neg e2]
  · rw [if_neg e, if_neg e]
section
variable {prog : Program} {w : World} {A : Around} {E : Value → Shared → Prop} {s : Shared}
/-- v is a pair of pairs of ints -/
def IsPP (h : Heap) (v : Value) (k : PP) : Prop := ∃ a b c, v = .ref a ∧ IsTup h a #[.ref b, .ref c] ∧ Srt.IsPair h (.ref b) k.1.1 k.1.2 ∧ Srt.IsPair h (.ref c) k.2.1 k.2.2
theorem IsPP.keeps {h h' : Heap} {v : Value} {k : PP} (p : IsPP h v k) (kp : ∀ b o, h.get? b = some o → o.cls = .type "tuple" → h'.get? b = some o) : IsPP h' v k := by
  obtain ⟨a, b, c, e, ⟨o, ho, hc, r⟩, p1, p2⟩ := p
  exact ⟨a, b, c, e, ⟨o, kp _ _ ho hc, hc, r⟩, p1.keeps kp, p2.keeps kp⟩
theorem pair_T {h : Heap} {b : Addr} {x y : Int} (p : Srt.IsPair h (.ref b) x y) : L2.IsT prog w h [x, y] b := by
  obtain ⟨a, o, t, u, n, e, ho, hc, hd⟩ := p
  cases e
  exact ⟨o, _, n, ho, hc, hd, .cons (by simp [L2.TK, intKind, Value.isInt]) (.cons (by simp [intKind, Value.isInt]) .nil)⟩
theorem pair_I {h : Heap} {b : Addr} {x y : Int} (p : Srt.IsPair h (.ref b) x y) : ∃ its, IsTup h b its ∧ IntsAre its.toList [x, y] := by
  obtain ⟨a, o, t, u, n, e, ho, hc, hd⟩ := p
  cases e
  exact ⟨_, ⟨o, ho, hc, n, hd⟩, .cons _ _ (.cons _ _ .nil)⟩
theorem pp_cmp {vs : List Value} {k : Value → PP} (hu : A.units < cLine) (hp : ∀ v ∈ vs, IsPP s.heap v (k v)) : Cmp prog w A s (tuples' false) (fun p => p.1 ∈ vs) (lt2 fun v u => lex2 (k v) (k u)) := by
  intro p q hm hm'
  have h1 := hp _ hm
  have h2 := hp _ hm'
  show wpAny (model prog w) A (keyLt' (tuples' false) p.1 q.1) (fun r s' => s' = s ∧ r = lex2 (k p.1) (k q.1)) (fun _ _ => False) s
  generalize k p.1 = x at h1 ⊢
  generalize k q.1 = y at h2 ⊢
  obtain ⟨a, b, c, e, ⟨o, ho, hc, n, hd⟩, p1, p2⟩ := h1
  obtain ⟨a', b', c', e', ⟨o', ho', hc', n', hd'⟩, q1, q2⟩ := h2
  rw [e, e']
  refine kat_lt ho hd ho' hd' ?_
  show KatLex prog w A false (decide (2 < 2)) _ [(.ref b, .ref b'), (.ref c, .ref c')] 0 s
  refine kat_cons (wpAny_eqBool_tuple hu (pair_T p1) (pair_T q1) ?_)
  refine kat_go (fun e1 => ?_) (fun e1 => ?_)
  · have e1 := of_decide_eq_true e1
    have ex : x.1 = y.1 := Prod.ext (by injection e1) (by injection e1 with _ z; injection z)
    refine kat_yes (kat_cons (wpAny_eqBool_tuple hu (pair_T p2) (pair_T q2) ?_))
    refine kat_go (fun e2 => ?_) (fun e2 => ?_)
    · have e2 := of_decide_eq_true e2
      have ey : x.2 = y.2 := Prod.ext (by injection e2) (by injection e2 with _ z; injection z)
      refine kat_yes (kat_nil ⟨rfl, ?_⟩)
      unfold lex2
      rw [if_pos ex, ey, lexB_irr]
      rfl
    · obtain ⟨i1, t1, r1⟩ := pair_I p2
      obtain ⟨i2, t2, r2⟩ := pair_I q2
      refine kat_no ?_
      show wpAny _ _ (oneLt' false _ _) _ _ _
      refine kat_one _ _ (HT.lt_tupInts t1 t2 r1 r2 hu ⟨rfl, ?_⟩)
      unfold lex2
      rw [if_pos ex, lexLt_two]
  · have e1 := of_decide_eq_false e1
    have ex : x.1 ≠ y.1 := fun z => e1 (by rw [z])
    obtain ⟨i1, t1, r1⟩ := pair_I p1
    obtain ⟨i2, t2, r2⟩ := pair_I q1
    refine kat_no ?_
    show wpAny _ _ (oneLt' false _ _) _ _ _
    refine kat_one _ _ (HT.lt_tupInts t1 t2 r1 r2 hu ⟨rfl, ?_⟩)
    unfold lex2
    rw [if_neg ex, lexLt_two]
theorem firsts_of {h : Heap} : ∀ {vs : List Value}, (∀ v ∈ vs, ∃ k, IsPP h v k) → ∃ fs : List Value, KatTups h vs fs ∧ fs.length = vs.length ∧ ∀ f ∈ fs, ∃ q o, f = Value.ref q ∧ h.get? q = some o ∧ o.cls = .type "tuple"
  | [], _ => ⟨[], KatTups.nil, rfl, fun _ hm => by simp at hm⟩
  | v :: vs, hp => by
    obtain ⟨fs, h1, h2, h3⟩ := firsts_of (vs := vs) fun v' hm => hp v' (List.mem_cons_of_mem _ hm)
    obtain ⟨k, a, b, c, rfl, ⟨o, ho, hc, n, hd⟩, ⟨_, o2, _, _, _, e2, ho2, hc2, _⟩, _⟩ := hp v (List.mem_cons_self ..)
    cases e2
    refine ⟨.ref b :: fs, KatTups.cons ho hc hd rfl h1, by rw [List.length_cons, List.length_cons, h2], fun f hm => ?_⟩
    rcases List.mem_cons.mp hm with rfl | hm
    · exact ⟨b, o2, rfl, ho2, hc2⟩
    · exact h3 f hm
theorem pp_sortable {a : Addr} {vs : List Value} {k : Value → PP} (hu : A.units < cLine) (h0 : 0 < vs.length) (hp : ∀ v ∈ vs, IsPP s.heap v (k v)) (ha : ∀ o, s.heap.get? a = some o → o.cls ≠ .type "tuple") : SortableO prog w A s a vs fun v u => lex2 (k v) (k u) := by
  intro h' keep
  have hp' : ∀ v ∈ vs, IsPP h' v (k v) := fun v hm => (hp v hm).keeps fun b o e c => keep b o (fun z => by subst z; exact ha o e c) e
  obtain ⟨fs, h1, h2, h3⟩ := firsts_of fun v hm => ⟨_, hp' v hm⟩
  refine ⟨tuples' false, fun Q E hq => ?_, pp_cmp (s := { s with heap := h' }) hu hp'⟩
  refine kat_kind (T := .type "tuple") h1 (by omega) (fun f hm => ?_) (by rfl) ?_
  · obtain ⟨q, o, rfl, ho, hc⟩ := h3 f hm
    have z : PySem.W.Looks (model prog w) h' (typeOf (.ref q)) o.cls := (PySem.W.Looks.ld ho).andThen .now
    rw [hc] at z
    exact z
  · have e : (Value.type "tuple" != Value.type "tuple") = false := by first | rfl | decide | simp
    rw [e]
    exact hq
theorem sorted_pp {l : Addr} {vs : List Value} {k : Value → PP} {Q : Value → Shared → Prop} (hu : A.units + 64 < cLine) (hl : s.heap.IsList l vs.toArray) (hz : vs.length ≤ sizeLine) (hp : ∀ v ∈ vs, IsPP s.heap v (k v))
    (h : ∀ (h' : Heap) (d : Addr) (out : List Value), Srtd (fun v u => lex2 (k v) (k u)) out → Stb (fun v u => lex2 (k v) (k u)) out vs → (∀ b o, s.heap.get? b = some o → h'.get? b = some o) → s.heap.objs.size ≤ d → (∃ n, h'.get? d = some (seqObj "list" out.toArray n)) → Q (.ref d) { s with heap := h' }) :
    wpAny (model prog w) A (call (.builtin "sorted") [.ref l]) Q E s := by
  refine sorted_ord (lex2_swo k) hl hz (fun h2 h₁ a ha kk => ?_) fun out hs hb => ?_
  · refine pp_sortable (s := { s with heap := h₁ }) (show A.units + 2 < cLine by omega) (by omega) (fun v hm => (hp v hm).keeps fun b o e _ => (kk b o e).2) fun o e => ?_
    have e' : some o = some (seqObj "list" vs.toArray 0) := e.symm.trans ha
    cases e'
    intro c
    exact absurd (Value.type.inj c) (by decide)
  · exact h _ _ out hs hb (fun b o e => sortedAll_old e) (Nat.le_succ _) (sortedAll_at s.heap vs out.toArray)
end
end ScQ
namespace Sc
open PySem PySem.Spec PyProof.Rows L2
open Py (enc)
abbrev QQ := T2 (T2 Int Int) (T2 Int Int)
def qk (q : QQ) : ScQ.PP := ((q.a.a, q.a.b), (q.b.a, q.b.b))
theorem qk_inj {p q : QQ} (h : qk p = qk q) : p = q := by
  obtain ⟨⟨a, b⟩, ⟨c, d⟩⟩ := p
  obtain ⟨⟨e, f⟩, ⟨g, i⟩⟩ := q
  unfold qk at h
  simp at h
  obtain ⟨⟨h1, h2⟩, h3, h4⟩ := h
  rw [h1, h2, h3, h4]
def rSortedQ (K : PySem.W.Frag) : List V → Hp → VK → Prop := fun vs H Q => ∃ (a : Addr) (xs : List V) (k : V → ScQ.PP), vs = [V.ref a] ∧ SqL K H a xs ∧
  (∀ x ∈ xs, ∃ t u v, x = V.ref t ∧ H t = some (.tup [.ref u, .ref v]) ∧ H u = some (.tup [.int (k x).1.1, .int (k x).1.2]) ∧ H v = some (.tup [.int (k x).2.1, .int (k x).2.2])) ∧
  ∀ ys p, SrtO.Srtd (fun v u => ScQ.lex2 (k v) (k u)) ys → SrtO.Stb (fun v u => ScQ.lex2 (k v) (k u)) ys xs → H p = none → Q (.ref p) (upd H p (.lst ys))
theorem hok_pair {X : Cx} {pins : List (Addr × Obj)} {σ : L2.St} {H : Hp} {s : Shared} {t : Addr} {x y : Int} (I : Inv X pins σ H s) (ht : H t = some (.tup [.int x, .int y])) : Srt.IsPair s.heap (.ref t) x y := by
  obtain ⟨_, its2, r2, o, ho, hc, n, hd⟩ := I.hok _ _ ht
  obtain ⟨u1, u2, rfl, ri, rj⟩ := vals2 r2
  obtain ⟨t1, rfl⟩ := ri
  obtain ⟨t2, rfl⟩ := rj
  exact ⟨t, o, t1, t2, n, rfl, ho, hc, hd⟩
theorem cr_sortedQ {X : Cx} (hu : X.A.units + 64 < cLine) : CallR X (.builtin "sorted") (rSortedQ X.K) := by
  intro pins s σ H vs us Q I r h
  obtain ⟨a, xs, k, rfl, hs, hx, q⟩ := h
  obtain ⟨its, rv, hl, hz⟩ := I.list hs
  obtain ⟨u, rfl, ru⟩ := vals1 r
  obtain rfl : u = Value.ref a := ru
  obtain ⟨e1, e2⟩ := refs_back rv fun x m => by
    obtain ⟨t, _, _, e, _⟩ := hx x m
    exact ⟨t, e⟩
  refine ScQ.sorted_pp (k := fun u => k (backV u)) hu hl.isList (by rw [← rv.length]; exact hz) (fun v hv => ?_) fun h' d out h1 h2 kp hd hn => ?_
  · obtain ⟨t, rfl⟩ := e2 v hv
    have hm : V.ref t ∈ xs := by rw [e1]; exact List.mem_map.mpr ⟨_, hv, rfl⟩
    obtain ⟨t', u, v, e, ht, hu', hv'⟩ := hx _ hm
    cases e
    obtain ⟨_, its2, r2, o, ho, hc, n, hd⟩ := I.hok _ _ ht
    obtain ⟨u1, u2, rfl, ri, rj⟩ := vals2 r2
    obtain rfl : u1 = Value.ref u := ri
    obtain rfl : u2 = Value.ref v := rj
    exact ⟨t, u, v, rfl, ⟨o, ho, hc, n, hd⟩, hok_pair I hu', hok_pair I hv'⟩
  · have h3 : ∀ u ∈ out, ∃ a, u = Value.ref a := fun u hu => e2 u (h2.perm.mem_iff.mp hu)
    obtain ⟨n, hn⟩ := hn
    have hb : SrtO.Stb (fun v u => ScQ.lex2 (k v) (k u)) (out.map backV) xs := by
      rw [e1]
      exact SrtO.Stb.map (ScQ.lex2_swo k) backV h2
    refine ⟨.ref d, upd H d (.lst (out.map backV)), I.laid (t' := s.toks) kp hd ⟨?_, out, n, vals_back h3, hn⟩, rfl, q _ d (SrtO.srtd_map h1) hb (I.hok.fresh hd)⟩
    rw [hb.len]
    exact hz
def ltQ (x y : QQ) : Bool := ScQ.lex2 (qk x) (qk y)
def sortQ (xs : List QQ) : List QQ := xs.mergeSort fun x y => !ltQ y x
theorem ltQ_swo : SrtO.Swo ltQ := ScQ.lex2_swo qk
theorem ltQ_eq {x y : QQ} (h : SrtO.eqv ltQ x y = true) : x = y := by
  obtain ⟨h1, h2⟩ := SrtO.eqv_iff.mp h
  refine qk_inj ?_
  unfold ltQ ScQ.lex2 at h1 h2
  by_cases e : (qk x).1 = (qk y).1
  · rw [if_pos e] at h1
    rw [if_pos e.symm] at h2
    by_cases e2 : (qk x).2 = (qk y).2
    · exact Prod.ext e e2
    · have := ScQ.lexB_tot e2 h1
      rw [h2] at this; cases this
  · rw [if_neg e] at h1
    rw [if_neg (Ne.symm e)] at h2
    have := ScQ.lexB_tot e h1
    rw [h2] at this; cases this
theorem filtQ {x : QQ} (l : List QQ) : l.filter (SrtO.eqv ltQ x) = List.replicate (l.filter (SrtO.eqv ltQ x)).length x :=
  List.eq_replicate_of_mem fun y hy => (ltQ_eq (List.mem_filter.mp hy).2).symm
theorem stb_permQ {l m : List QQ} (h : l.Perm m) : SrtO.Stb ltQ l m := ⟨h, fun x => by
  rw [filtQ l, filtQ m, (h.filter _).length_eq]⟩
theorem sortQ_perm (xs : List QQ) : (sortQ xs).Perm xs := List.mergeSort_perm _ _
theorem sortQ_srtd (xs : List QQ) : SrtO.Srtd ltQ (sortQ xs) := by
  have := List.pairwise_mergeSort (le := fun x y => !ltQ y x) (fun x y z h1 h2 => by
    simp only [Bool.not_eq_true'] at *
    exact ltQ_swo.tr x y z h1 h2) (fun x y => by
    cases e : ltQ y x with
    | false => rfl
    | true => rw [ltQ_swo.asym y x e]; rfl) xs
  exact this.imp fun h => by simpa using h
section
variable {C : Cn} {X : Addr → Prop} {H : Hp} {σ : L2.St} {Γ Γ' : List Sl} {Q : VK} {α β ρ : Type}
def kQ (H : Hp) : V → ScQ.PP
  | .ref b => match H b with
    | some (.tup [u, v]) => (kOf H u, kOf H v)
    | _ => ((0, 0), (0, 0))
  | _ => ((0, 0), (0, 0))
theorem kQ_at {b u v : Addr} {q : QQ} (h : H b = some (.tup [.ref u, .ref v])) (hu : H u = some (.tup ((kq q.a).map kV))) (hv : H v = some (.tup ((kq q.b).map kV))) : kQ H (.ref b) = qk q := by
  unfold kQ
  simp only [h]
  rw [kOf_at hu, kOf_at hv]
  rfl
theorem q_rep {K : PySem.W.Frag} {q : QQ} {y : V} (r : Rep K X H (enc q) y) : ∃ b u v, y = .ref b ∧ H b = some (.tup [.ref u, .ref v]) ∧ H u = some (.tup ((kq q.a).map kV)) ∧ H v = some (.tup ((kq q.b).map kV)) := by
  obtain ⟨a, vs, rfl, h, w⟩ := rep_tupS (ds := [enc q.a, enc q.b]) r
  cases w with
  | cons q1 w => cases w with
    | cons q2 w =>
      cases w
      obtain ⟨u, rfl, hu⟩ := key_rep q1
      obtain ⟨v, rfl, hv⟩ := key_rep q2
      exact ⟨a, u, v, rfl, h, hu, hv⟩
def unQ (k : ScQ.PP) : QQ := ⟨⟨k.1.1, k.1.2⟩, ⟨k.2.1, k.2.2⟩⟩
def PQ (H : Hp) (y : V) : Prop := ∃ b u v, y = .ref b ∧ H b = some (.tup [.ref u, .ref v]) ∧ H u = some (.tup [.int (kQ H y).1.1, .int (kQ H y).1.2]) ∧ H v = some (.tup [.int (kQ H y).2.1, .int (kQ H y).2.2])
theorem qs_rep {K : PySem.W.Frag} : ∀ {xs : List QQ} {vs : List V}, Reps K X H (xs.map enc) vs → (∀ y ∈ vs, PQ H y) ∧ vs.map (fun y => unQ (kQ H y)) = xs
  | [], _, .nil => ⟨fun _ h => (nomatch h), rfl⟩
  | x :: xs, _, .cons r t => by
    obtain ⟨h1, h2⟩ := qs_rep t
    obtain ⟨b, u, v, rfl, hb, hu, hv⟩ := q_rep r
    have e := kQ_at (q := x) hb hu hv
    refine ⟨fun y hy => ?_, ?_⟩
    · rcases List.mem_cons.mp hy with z | hy
      · subst z; exact ⟨b, u, v, rfl, hb, by rw [e]; exact hu, by rw [e]; exact hv⟩
      · exact h1 y hy
    · rw [List.map_cons, h2, e]
      rfl
theorem reps_qs {K : PySem.W.Frag} : ∀ {ys : List V}, (∀ y ∈ ys, PQ H y) → Reps K X H ((ys.map fun y => unQ (kQ H y)).map enc) ys
  | [], _ => .nil
  | y :: ys, h => by
    obtain ⟨b, u, v, e, hb, hu, hv⟩ := h y List.mem_cons_self
    refine .cons ?_ (reps_qs fun z hz => h z (List.mem_cons_of_mem _ hz))
    rw [e] at hu hv ⊢
    exact .tup hb (.cons (.tup hu (.cons (.int _) (.cons (.int _) .nil))) (.cons (.tup hv (.cons (.int _) (.cons (.int _) .nil))) .nil))
theorem unQ_qk (x : V) : qk (unQ (kQ H x)) = kQ H x := rfl
theorem sortedQ_core {xs : List QQ} {a : Addr} {vs : List V} (hs : Rd H a (.lst vs)) (q : Reps C.K X H (xs.map enc) vs) (h : ∀ ys, Reps C.K X H ((sortQ xs).map enc) ys → ∀ p, H p = none → Q (.ref p) (upd H p (.lst ys))) : rSortedQ C.K [.ref a] H Q := by
  obtain ⟨k1, k2⟩ := qs_rep q
  refine ⟨a, vs, kQ H, rfl, .inl hs, fun x hx => k1 x hx, fun ys q hs hb hq => ?_⟩
  have es : ys.map (fun y => unQ (kQ H y)) = sortQ xs := by
    refine SrtO.stb_uniq ltQ_swo (SrtO.srtd_map (lt := ltQ) (f := fun y => unQ (kQ H y)) hs) (sortQ_srtd _) (stb_permQ ?_)
    refine ((hb.perm.map _).trans ?_).trans (sortQ_perm _).symm
    rw [k2]
  refine h ys ?_ q hq
  rw [← es]
  exact reps_qs fun y hy => k1 y (hb.perm.mem_iff.mp hy)
/-- sorted of data, of a list of the body's own: data, a list of the body's own -/
theorem x_sortedQ {xs : List QQ} {v : V} (L : Lo C X H σ Γ) (r : Rep C.K X H (enc xs) v) (h : ∀ v H1, Lo C X H1 σ Γ → (∀ d u, Rep C.K X H d u → Rep C.K X H1 d u) → Rep C.K X H1 (enc (sortQ xs)) v → Q v H1) : rSortedQ C.K [v] H Q := by
  obtain ⟨a, vs, rfl, _, hs, q⟩ := rep_lst (ds := xs.map enc) r
  exact sortedQ_core hs q fun ys rp => x_new L rp h
theorem x_sortedQN {xs : List QQ} {v : V} (L : Lo C X H σ Γ) (r : Rep C.K X H (enc xs) v) (h : ∀ p X' H1, C.H0 p = none → ¬ C.X0 p → Lo C X' H1 σ (Γ ++ [.tmp p (ml (sortQ xs))]) → (∀ d u, Rep C.K X H d u → Rep C.K X' H1 d u) → Q (.ref p) H1) : rSortedQ C.K [v] H Q := by
  obtain ⟨a, vs, rfl, _, hs, q⟩ := rep_lst (ds := xs.map enc) r
  exact sortedQ_core hs q fun ys rp => x_newN L rp h
theorem x_sortedQM {xs : List QQ} {i : Nat} {p : Addr} (L : Lo C X H σ Γ) (g : Γ[i]? = some (.mu p (ml xs))) (h : ∀ v H1, Lo C X H1 σ Γ → (∀ d u, Rep C.K X H d u → Rep C.K X H1 d u) → Rep C.K X H1 (enc (sortQ xs)) v → Q v H1) : rSortedQ C.K [.ref p] H Q := by
  obtain ⟨vs, hv, q⟩ := L.mrep g
  exact sortedQ_core (.inl hv) q fun ys rp => x_new L rp h
theorem x_sortedQMN {xs : List QQ} {i : Nat} {p : Addr} (L : Lo C X H σ Γ) (g : Γ[i]? = some (.mu p (ml xs))) (h : ∀ p X' H1, C.H0 p = none → ¬ C.X0 p → Lo C X' H1 σ (Γ ++ [.tmp p (ml (sortQ xs))]) → (∀ d u, Rep C.K X H d u → Rep C.K X' H1 d u) → Q (.ref p) H1) : rSortedQ C.K [.ref p] H Q := by
  obtain ⟨vs, hv, q⟩ := L.mrep g
  exact sortedQ_core (.inl hv) q fun ys rp => x_newN L rp h
end
end Sc
/-! ### an inner list of a new list of new lists is written -/
namespace Sc
open PySem PySem.Spec PyProof.Rows L2
open Py (enc)
theorem Rd.fn {H : Hp} {a : Addr} {us vs : List V} (h : Rd H a (.lst us)) (k : Rd H a (.lst vs)) : us = vs := by
  rcases h with h | ⟨o, h⟩ <;> rcases k with k | ⟨q, k⟩ <;> rw [h] at k <;> cases k <;> rfl
mutual
theorem Rep.fn {K : PySem.W.Frag} {X Y : Addr → Prop} {H : Hp} : ∀ {d e : PyData} {v : V}, Rep K X H d v → Rep K Y H e v → d = e
  | _, _, _, .non, .non => rfl
  | _, _, _, .bl _, .bl _ => rfl
  | _, _, _, .int _, .int _ => rfl
  | _, _, _, .str _, .str _ => rfl
  | _, _, _, .tup h r, .tup k q => by
    have e := h.symm.trans k
    cases e
    rw [Reps.fn r q]
  | _, _, _, .tup h r, .lst n k q => by
    rcases k with k | ⟨o, k⟩ <;> rw [h] at k <;> cases k
  | _, _, _, .lst n k q, .tup h r => by
    rcases k with k | ⟨o, k⟩ <;> rw [h] at k <;> cases k
  | _, _, _, .lst _ h r, .lst _ k q => by
    have e := Rd.fn h k
    subst e
    rw [Reps.fn r q]
theorem Reps.fn {K : PySem.W.Frag} {X Y : Addr → Prop} {H : Hp} : ∀ {d e : List PyData} {v : List V}, Reps K X H d v → Reps K Y H e v → d = e
  | _, _, _, .nil, .nil => rfl
  | _, _, _, .cons r t, .cons q u => by rw [Rep.fn r q, Reps.fn t u]
end
theorem encs_inj [Py α] [IT α] : ∀ {xs ys : List α}, xs.map enc = ys.map enc → xs = ys
  | [], [], _ => rfl
  | [], _ :: _, h => nomatch h
  | _ :: _, [], h => nomatch h
  | x :: xs, y :: ys, h => by
    injection h with h1 h2
    rw [IT.enc_eq, IT.enc_eq] at h1
    injection h1 with h1
    have inj : ∀ {a b : List Int}, a.map PyData.int = b.map PyData.int → a = b := by
      intro a
      induction a with
      | nil => intro b e; cases b with | nil => rfl | cons _ _ => cases e
      | cons n a ih =>
        intro b e
        cases b with
        | nil => cases e
        | cons m b => injection e with e1 e2; injection e1 with e1; rw [e1, ih e2]
    rw [IT.inj _ _ (inj h1), encs_inj h2]
/-- the item of xs at i, unlike any other one: what is ahead, itself, what is behind -/
def takeO {α : Type} [DecidableEq α] (xs : List α) (i : Int) : Option (T3 (List α) α (List α)) :=
  (ixN xs.length i).bind fun k => xs[k]?.bind fun x => if x ∈ xs.take k ∨ x ∈ xs.drop (k + 1) then none else some ⟨xs.take k, x, xs.drop (k + 1)⟩
theorem takeO_eq {α : Type} [DecidableEq α] {xs : List α} {i : Int} {q : T3 (List α) α (List α)} (h : takeO xs i = some q) : xs = q.a ++ q.b :: q.c ∧ ixN xs.length i = some q.a.length ∧ q.b ∉ q.a ∧ q.b ∉ q.c := by
  unfold takeO at h
  obtain ⟨k, hk, h⟩ := ob h
  obtain ⟨x, hx, h⟩ := ob h
  split at h
  · cases h
  · next n =>
    cases h
    have hlt := (List.getElem?_eq_some_iff.mp hx).1
    refine ⟨?_, ?_, fun z => n (.inl z), fun z => n (.inr z)⟩
    · show xs = xs.take k ++ x :: xs.drop (k + 1)
      have e := List.getElem?_eq_some_iff.mp hx
      obtain ⟨e1, e2⟩ := e
      rw [← e2, ← List.drop_eq_getElem_cons e1, List.take_append_drop]
    · rw [hk, List.length_take, Nat.min_eq_left (Nat.le_of_lt hlt)]
def HoleR (K : PySem.W.Frag) (b : Addr) (d1 d2 : List PyData) : Addr → (Addr → Prop) → Hp → Prop := fun p X H => ∃ v1 v2, H p = some (.lst (v1 ++ .ref b :: v2)) ∧ Reps K X H d1 v1 ∧ Reps K X H d2 v2
theorem HoleR.rx {K : PySem.W.Frag} {b : Addr} {d1 d2 : List PyData} : RX (HoleR K b d1 d2) where
  keep := fun k e ⟨v1, v2, h, r1, r2⟩ => ⟨v1, v2, e.trans h, r1.keep k, r2.keep k⟩
  anti := fun k ⟨v1, v2, h, r1, r2⟩ => ⟨v1, v2, h, r1.anti k, r2.anti k⟩
  more := fun k ⟨v1, v2, h, r1, r2⟩ => ⟨v1, v2, h, r1.more k, r2.more k⟩
  nn := fun ⟨v1, v2, h, _⟩ => by rw [h]; exact fun z => (nomatch z)
  ntup := fun ⟨v1, v2, h, _⟩ => by
    rw [h]
    exact ⟨fun _ z => (nomatch z), fun _ _ z => (nomatch z)⟩
section
variable {C : Cn} {X : Addr → Prop} {H : Hp} {σ : L2.St} {Γ Γ' : List Sl} {Q : VK} {α ρ : Type}
theorem Reps.split {K : PySem.W.Frag} : ∀ {d1 d2 : List PyData} {vs : List V}, Reps K X H (d1 ++ d2) vs → ∃ v1 v2, vs = v1 ++ v2 ∧ Reps K X H d1 v1 ∧ Reps K X H d2 v2
  | [], d2, vs, r => ⟨[], vs, rfl, .nil, r⟩
  | _ :: d1, d2, _, .cons r t => by
    obtain ⟨v1, v2, rfl, r1, r2⟩ := Reps.split (d1 := d1) t
    exact ⟨_ :: v1, v2, rfl, .cons r r1, r2⟩
/-- other lists than the one at b -/
theorem Reps.unlike [Py α] [IT α] [Flat α] {K : PySem.W.Frag} {Y : Addr → Prop} {b : Addr} {x : List α} {us : List V} (hb : H b = some (.lst us)) (rb : Reps K Y H (x.map enc) us) : ∀ {xs : List (List α)} {vs : List V}, x ∉ xs → Reps K Y H (xs.map enc) vs → (∀ a, X a → Y a) → Reps K (fun a => X a ∨ a = b) H (xs.map enc) vs
  | [], _, _, .nil, _ => .nil
  | y :: xs, _, n, .cons r t, hy => by
    refine .cons ?_ (Reps.unlike hb rb (fun z => n (List.mem_cons_of_mem _ z)) t hy)
    obtain ⟨a, ws, rfl, na, rd, q⟩ := rep_lst (ds := y.map enc) r
    refine .lst (fun z => z.elim (fun z => na (hy a z)) fun z => ?_) rd q.flat
    subst z
    have e := Rd.fn rd (.inl hb)
    subst e
    exact n (encs_inj (Reps.fn rb q) ▸ List.mem_cons_self)
theorem muts_set_new {Γ : List Sl} {j : Nat} {b : Addr} {o : MO} (hj : Γ[j]? = some .unk) (nb : b ∉ muts Γ) (nd : (muts Γ).Nodup) : (muts (Γ.set j (.mu b o))).Nodup ∧ ∀ q, q ∈ muts (Γ.set j (.mu b o)) → q = b ∨ q ∈ muts Γ := by
  have hmem : ∀ q, q ∈ muts (Γ.set j (.mu b o)) → q = b ∨ q ∈ muts Γ := fun q hq => by
    obtain ⟨k, s, hk, e⟩ := mem_muts.mp hq
    by_cases z : k = j
    · subst z
      rw [List.getElem?_set_self (List.getElem?_eq_some_iff.mp hj).1] at hk
      cases hk; cases e; exact .inl rfl
    · rw [List.getElem?_set_ne (Ne.symm z)] at hk
      exact .inr (mem_muts.mpr ⟨k, s, hk, e⟩)
  refine ⟨?_, hmem⟩
  clear hmem
  induction Γ generalizing j with
  | nil => cases hj
  | cons s Γ ih =>
    cases j with
    | zero =>
      have e : s = .unk := by simpa using hj
      subst e
      exact List.nodup_cons.mpr ⟨nb, nd⟩
    | succ j =>
      have hj' : Γ[j]? = some .unk := by simpa using hj
      rw [List.set_cons_succ]
      unfold muts at nb nd ⊢
      rw [List.filterMap_cons] at nb nd ⊢
      cases e : s.ad with
      | none =>
        rw [e] at nb nd
        exact ih hj' nb nd
      | some q =>
        rw [e] at nb nd
        obtain ⟨n1, n2⟩ := List.nodup_cons.mp nd
        have ih' := ih hj' (fun z => nb (List.mem_cons_of_mem _ z)) n2
        refine List.nodup_cons.mpr ⟨fun z => ?_, ih'⟩
        obtain ⟨k, s', hk, e'⟩ := mem_muts.mp z
        by_cases y : k = j
        · subst y
          rw [List.getElem?_set_self (List.getElem?_eq_some_iff.mp hj').1] at hk
          cases hk; cases e'
          exact nb List.mem_cons_self
        · rw [List.getElem?_set_ne (Ne.symm y)] at hk
          exact n1 (mem_muts.mpr ⟨k, s', hk, e'⟩)
/-- a new list's address joins what may be written -/
theorem Lo.grow {Z : Addr → Prop} {b : Addr} {us : List V} (L : Lo C X H σ Γ) (h0 : C.H0 b = none) (nb : ¬ X b) (zb : Z b) (h : H b = some (.lst us)) (old : ∀ s ∈ Γ, OldS Z s) : Lo C (fun a => X a ∨ a = b) H σ Γ := by
  refine ⟨L.len, fun i s hi => ?_, L.nd, fun p hp => .inl (L.mx p hp), fun a z => .inl (L.m0 a z), fun a z => z.elim (L.xd a) (fun z => by rw [z, h]; exact fun y => nomatch y), L.base, L.dom, L.own, L.tf⟩
  have hs := L.at_ i s hi
  have ho := old s (List.mem_of_getElem? hi)
  cases s with
  | unk => trivial
  | ref a => exact hs
  | scr ns => exact ho.elim
  | imm d =>
    obtain ⟨u, e, r⟩ := hs
    exact ⟨u, e, (ho _ _ _ _ r).anti fun _ _ => trivial⟩
  | fixN Z' d => exact ho.elim
  | lax i j => exact ho.elim
  | fix Z' d =>
    obtain ⟨u, e, r⟩ := hs
    exact ⟨u, e, r.anti fun a z => z.elim (fun z => z.elim .inl fun z => .inr fun y => ho a y (z ▸ zb)) .inr⟩
  | mu p o =>
    obtain ⟨e, r⟩ := hs
    refine ⟨e, ?_⟩
    cases o with
    | lst ds =>
      obtain ⟨vs, hv, r⟩ := r
      exact ⟨vs, hv, (ho _ _ _ _ r).anti fun _ _ => trivial⟩
    | lstZ _ _ => exact ho.elim
    | dct _ => exact ho.elim
    | ex _ => exact ho.elim
    | any => exact r
  | tmp p o => exact ho.elim
/-- name = xs[i], xs a new list of new lists: the item is the body's own now -/
theorem x_take [Py α] [IT α] [Flat α] [DecidableEq α] {xs : List (List α)} {Z : Addr → Prop} {i j : Nat} {p : Addr} {ix : Int} {k : T3 (List (List α)) (List α) (List (List α)) → Option ρ} {r : ρ} {N : L2.St → Hp → Prop} {G' : Addr → T3 (List (List α)) (List α) (List (List α)) → List Sl} (L : Lo C X H σ Γ) (hZ : ∀ a, Z a → C.H0 a = none) (hj : j < C.n)
    (g : Γ[i]? = some (.mu p (.lstZ Z (xs.map enc)))) (gj : Γ[j]? = some .unk) (old : ∀ s ∈ Γ.set i (.mu p .any), OldS Z s) (hm : (takeO xs ix).bind k = some r)
    (e : ∀ b q, (Γ.set i (.mu p (.ex (HoleR C.K b (q.a.map enc) (q.c.map enc))))).set j (.mu b (ml q.b)) = G' b q)
    (h : ∀ q b X' σ', k q = some r → C.H0 b = none → ¬ C.X0 b → Lo C X' H σ' (G' b q) → N σ' H) : rIxL C.K (.ref p) (.int ix) H fun v H1 => gName j v σ H1 N := by
  obtain ⟨q, hq, hk⟩ := ob hm
  obtain ⟨hx, hix, n1, n2⟩ := takeO_eq hq
  have hil : i < Γ.length := (List.getElem?_eq_some_iff.mp g).1
  have ne : i ≠ j := fun z => by subst z; rw [g] at gj; cases gj
  obtain ⟨hp, vs, hv, rv⟩ := L.at_ i _ g
  rw [hx, List.map_append, List.map_cons] at rv
  obtain ⟨v1, v2', rfl, r1, r2⟩ := rv.split
  cases r2 with
  | @cons _ _ vb v2 rb r2 =>
    obtain ⟨b, us, rfl, nb, rd, qb⟩ := rep_lst (ds := q.b.map enc) rb
    have hb : H b = some (.lst us) := by
      rcases rd with rd | ⟨o, rd⟩
      · exact rd
      · exact (nb (.inr (.inr ⟨_, _, rd⟩))).elim
    have zb : Z b := Classical.not_not.mp fun h => nb (.inr (.inl h))
    have nX : ¬ X b := fun h => nb (.inl h)
    have hl : v1.length = q.a.length := by rw [r1.length, List.length_map]
    have hlen : (v1 ++ V.ref b :: v2).length = xs.length := by
      have := congrArg List.length hx
      rw [List.length_append, List.length_cons] at this ⊢
      rw [r2.length, List.length_map, hl, this]
    refine ⟨p, v1 ++ V.ref b :: v2, ix, .ref b, rfl, rfl, .inl (.inl hv), ?_, ?_⟩
    · show (ixN (v1 ++ V.ref b :: v2).length ix).bind _ = _
      rw [hlen, hix]
      show (v1 ++ V.ref b :: v2)[q.a.length]? = _
      rw [← hl, List.getElem?_append_right (Nat.le_refl _), Nat.sub_self]
      rfl
    have L1 : Lo C X H σ (Γ.set i (.mu p .any)) := L.resl g rfl fun v ⟨e, vs, h, _⟩ => ⟨e, vs, h⟩
    have L2 := L1.grow (hZ b zb) nX zb hb old
    have g2 : (Γ.set i (Sl.mu p .any))[i]? = some (.mu p .any) := List.getElem?_set_self hil
    have L3 : Lo C (fun a => X a ∨ a = b) H σ ((Γ.set i (.mu p .any)).set i (.mu p (.ex (HoleR C.K b (q.a.map enc) (q.c.map enc))))) :=
      L2.resl g2 rfl fun v ⟨e, _⟩ => ⟨e, HoleR.rx, v1, v2, hv, Reps.unlike hb qb n1 r1 fun a z => .inl z, Reps.unlike hb qb n2 r2 fun a z => .inl z⟩
    rw [List.set_set] at L3
    have gj3 : (Γ.set i (Sl.mu p (.ex (HoleR C.K b (q.a.map enc) (q.c.map enc)))))[j]? = some .unk := by rw [List.getElem?_set_ne ne]; exact gj
    have nm : b ∉ muts (Γ.set i (Sl.mu p (.ex (HoleR C.K b (q.a.map enc) (q.c.map enc))))) := fun z => by
      obtain ⟨m, s, hm, e⟩ := mem_muts.mp z
      by_cases y : m = i
      · subst y
        rw [List.getElem?_set_self hil] at hm
        cases hm; cases e
        exact nX (L.mx p (mem_muts.mpr ⟨m, _, g, rfl⟩))
      · rw [List.getElem?_set_ne (Ne.symm y)] at hm
        exact nX (L.mx b (mem_muts.mpr ⟨m, s, hm, e⟩))
    obtain ⟨nd, mem⟩ := muts_set_new (o := ml q.b) gj3 nm L3.nd
    have hjl : j < σ.length := by rw [L.len]; exact hj
    refine h q b (fun a => X a ∨ a = b) (σ.set j (some (.ref b))) hk (hZ b zb) (fun z => nX (L.m0 b z)) ?_
    rw [← e]
    refine ⟨by rw [List.length_set]; exact L.len, fun m s hm => ?_, nd, fun a ha => (mem a ha).elim .inr (L3.mx a), L3.m0, L3.xd, L3.base, L3.dom, fun a ha => (mem a ha).elim (fun z => .inr (z ▸ hZ b zb)) (L3.own a), L3.tf⟩
    by_cases z : m = j
    · subst z
      rw [List.getElem?_set_self (List.getElem?_eq_some_iff.mp gj3).1] at hm
      cases hm
      exact ⟨List.getElem?_set_self hjl, us, hb, qb.flat⟩
    · rw [List.getElem?_set_ne (Ne.symm z)] at hm
      have := L3.at_ m s hm
      rwa [List.getElem?_set_ne (Ne.symm z)]
/-- the item is put back -/
theorem Lo.putBack {p b : Addr} {d1 d2 ds : List PyData} {i j : Nat} (L : Lo C X H σ Γ) (hx : ¬ C.X0 b) (gi : Γ[i]? = some (.mu p (.ex (HoleR C.K b d1 d2)))) (gj : Γ[j]? = some (.mu b (.lst ds))) (e : (Γ.set j .unk).set i (.mu p (.lst (d1 ++ .list ds :: d2))) = Γ') :
    Lo C (fun a => X a ∧ a ≠ b) H σ Γ' := by
  subst e
  have ne : i ≠ j := fun z => by subst z; rw [gi] at gj; cases gj
  have hjl : j < Γ.length := (List.getElem?_eq_some_iff.mp gj).1
  have L1 := L.freeze gj hx
  have hv := (L.at_ j _ gj).1
  obtain ⟨u, e1, r⟩ := L1.at_ j _ (List.getElem?_set_self hjl)
  rw [hv] at e1
  cases e1
  have L2 : Lo C (fun a => X a ∧ a ≠ b) H σ ((Γ.set j (.imm (.list ds))).set j .unk) := L1.resl (List.getElem?_set_self hjl) rfl fun _ _ => trivial
  rw [List.set_set] at L2
  refine L2.resl (i := i) (s := .mu p (.ex (HoleR C.K b d1 d2))) (by rw [List.getElem?_set_ne (Ne.symm ne)]; exact gi) rfl fun v ⟨e, _, v1, v2, h, r1, r2⟩ => ⟨e, _, h, r1.append (.cons r r2)⟩
theorem Lo.putB [Py α] {p b : Addr} {d1 d2 : List (List α)} {ds : List α} {i j : Nat} (L : Lo C X H σ Γ) (hx : ¬ C.X0 b) (gi : Γ[i]? = some (.mu p (.ex (HoleR C.K b (d1.map enc) (d2.map enc))))) (gj : Γ[j]? = some (.mu b (ml ds))) (e : (Γ.set j .unk).set i (.mu p (ml (d1 ++ ds :: d2))) = Γ') :
    Lo C (fun a => X a ∧ a ≠ b) H σ Γ' :=
  L.putBack hx gi gj (by rw [← e, ml, List.map_append, List.map_cons]; rfl)
end
open Py (enc)
section
variable {C : Cn} {X : Addr → Prop} {H : Hp} {σ : L2.St} {Γ Γ' : List Sl} {Q : VK} {α τ ρ : Type}
/-- for k, x in enumerate(xs), with a return or a break -/
theorem x_flE [Py α] {xs : List α} {f : T2 Int α → τ → Option (Lp τ ρ)} {G : τ → List Sl} {ps : ρ → List (Addr × MO)} {rs : ρ → Rs} {s0 : τ} {u : V} {g : TG} {tb : TS} {nx bk ct : L2.St → Hp → Prop} {rt : VK} {δ : Type} {k : τ → Option δ} {j : ρ → Option δ} {res : δ}
    (L : Lo C X H σ (G s0)) (hG : ∀ s s', muts (G s) = muts (G s')) (r : Rep C.K X H (enc xs) u) (hm : (loopL f (enumL xs) s0).bind (fun o => o.out j k) = some res)
    (body : ∀ x s, Body C X G ps rs (enc x) s (f x s) g tb) (done : ∀ s σ' H', k s = some res → Lo C X H' σ' (G s) → nx σ' H')
    (ret : ∀ q v H', j q = some res → Fin C.K C.X0 C.H0 C.P0 (ps q) (rs q) v H' → rt v H') : KForE C.K g tb ⟨nx, rt, bk, ct⟩ σ [u] H := by
  obtain ⟨o, h1, h2⟩ := ob hm
  obtain ⟨a, vs, rfl, hna, hrd, hrs⟩ := rep_lst (ds := xs.map enc) r
  have e1 : vs.length = xs.length := by rw [hrs.length, List.length_map]
  refine ⟨a, vs, rfl, .inl hrd, fun i m σ' H' => m = xs.length - i ∧ i ≤ xs.length ∧ ∃ s, Lo C X H' σ' (G s) ∧ Reps C.K X H' (xs.map enc) vs ∧ Rd H' a (.lst vs) ∧ loopL f ((enumL xs).drop i) s = some o, ⟨xs.length, by simp, Nat.zero_le _, s0, L, hrs, hrd, h1⟩, ?_⟩
  rintro i m σ' H' ⟨rfl, hi, s, L', r', hd, hm'⟩
  by_cases hlt : i < xs.length
  · refine .inr ⟨⟨vs, vs[i]'(by omega), .inl hd, List.getElem?_eq_getElem (by omega)⟩, fun σ'' H'' => i + 1 ≤ xs.length ∧ ∃ s, Lo C X H'' σ'' (G s) ∧ Reps C.K X H'' (xs.map enc) vs ∧ Rd H'' a (.lst vs) ∧ loopL f ((enumL xs).drop (i + 1)) s = some o, fun σ'' H'' p' => ⟨xs.length - (i + 1), by omega, rfl, p'⟩, ?_⟩
    rintro w H2 ⟨T, y, rfl, hT, rfl, hall⟩
    have hy : vs[i]? = some y := hall vs (.inl hd)
    obtain ⟨d, hd1, rd⟩ := r'.get' hy
    rw [List.getElem?_map] at hd1
    cases hx : xs[i]? with
    | none => rw [hx] at hd1; cases hd1
    | some x =>
      rw [hx] at hd1
      cases hd1
      obtain ⟨o1, g1, g2, g3, g4⟩ := loop_drop (enumL_at hx) hm'
      have sT : Same H' (upd H' T (.tup [.int (i : Nat), y])) := same_upd hT
      have LT := L'.same sT
      have rT : Rep C.K X (upd H' T (.tup [.int (i : Nat), y])) (enc (T2.mk (i : Int) x)) (.ref T) := .tup upd_same (.cons (.int _) (.cons (rd.keep (.same sT)) .nil))
      have rT1 := r'.keep (.same sT)
      have kd : ∀ {c : Addr} {ws : List V}, Rd H' c (.lst ws) → Rd (upd H' T (.tup [.int (i : Nat), y])) c (.lst ws) := fun h => h.elim (fun h => .inl (sT _ _ h)) fun ⟨o, h⟩ => .inr ⟨o, sT _ _ h⟩
      refine body (T2.mk (i : Int) x) s _ σ' _ _ _ _ _ o1 g1 LT.enter LT.dom rT ?_ ?_ ?_ ?_
      · intro s' e X' σ'' H'' L''
        have k := LT.keep L''
        exact ⟨hlt, s', LT.leave L'' (hG _ _), rT1.keep k, k.rd hna (kd hd), g2 s' e⟩
      · intro s' e X' σ'' H'' L''
        have k := LT.keep L''
        exact ⟨hlt, s', LT.leave L'' (hG _ _), rT1.keep k, k.rd hna (kd hd), g2 s' e⟩
      · intro s' e X' σ'' H'' L''
        exact done _ _ _ (by rw [g3 s' e] at h2; exact h2) (LT.leave L'' (hG _ _))
      · intro q e v' H'' F
        exact ret q v' H'' (by rw [g4 q e] at h2; exact h2) (F.leave LT)
  · have ei : i = xs.length := by omega
    subst ei
    rw [List.drop_eq_nil_of_le (by rw [enumL_len]; omega)] at hm'
    have e : o = .nxt s := (Option.some.inj hm').symm
    subst e
    exact .inl ⟨⟨vs, .inl hd, by omega⟩, done _ _ _ h2 L'⟩
/-- ns.index(k) -/
def idxO (ns : List Int) (k : Int) : Option Int := if k ∈ ns then some (ns.idxOf k : Nat) else none
theorem x_tyD {ds : List PyData} {v : V} {P : Prop} {Y : Addr → Prop} {H : Hp} (r : Rep C.K Y H (.list ds) v) (h : P) : tyV C.K "list" v H ∧ P := by
  obtain ⟨a, vs, rfl, _, hs, _⟩ := rep_lst r
  exact ⟨.inl ⟨rfl, vs, .inl hs⟩, h⟩
def rIndexX (K : PySem.W.Frag) : V → List V → Hp → VK → Prop := rIndex K
theorem mt_indexX {Xc : Cx} : MtR Xc "list.index" (rIndexX Xc.K) := mt_index
theorem x_index {ns : List Int} {n : Int} {v : V} {k : Int → Option ρ} {r : ρ} (hm : (idxO ns n).bind k = some r) (rv : Rep C.K X H (enc ns) v) (h : ∀ z, k z = some r → Q (.int z) H) : rIndexX C.K v [.int n] H Q := by
  obtain ⟨z, e, hk⟩ := ob hm
  obtain ⟨a, us, rfl, hna, hrd, hrs⟩ := rep_lst (ds := ns.map enc) rv
  have e2 : us = ns.map V.int := Reps.toInts hrs
  subst e2
  unfold idxO at e
  split at e
  · next hmem =>
    cases e
    have hj := List.idxOf_lt_length_iff.mpr hmem
    refine ⟨a, _, .int n, ns.idxOf n, .int n, rfl, rfl, .inl hrd, rfl, ?_, ?_, ?_, ?_, h _ hk⟩
    · rw [List.all_map]; exact List.all_eq_true.mpr fun _ _ => rfl
    · rw [List.getElem?_map, List.getElem?_eq_getElem hj, List.getElem_idxOf hj]; rfl
    · simp [eqV]
    · intro m z hm hz
      rw [List.getElem?_map] at hz
      cases hq : ns[m]? with
      | none => rw [hq] at hz; cases hz
      | some y =>
        rw [hq] at hz
        cases hz
        have hne : y ≠ n := fun e => by
          subst e
          obtain ⟨h1, h2⟩ := List.getElem?_eq_some_iff.mp hq
          have := List.not_of_lt_findIdx (p := (· == y)) (xs := ns) (i := m) hm
          simp [h2] at this
        simp [eqV, hne]
  · cases e
/-! ### told values whose lists are all new -/
theorem Rep.ofN {K : PySem.W.Frag} {X Z : Addr → Prop} {H : Hp} {d : PyData} {v : V} (r : Rep K (NewX X Z H) H d v) : Rep K X H d v := r.anti fun _ => .inl
theorem x_vfz {i : Nat} {d : PyData} {Z : Addr → Prop} (L : Lo C X H σ Γ) (e : Γ[i]? = some (.fixN Z d)) (h : ∀ v, Rep C.K (NewX X Z H) H d v → Q v H) : tVar i σ H Q := by
  obtain ⟨u, e1, r⟩ := L.at_ i _ e
  exact ⟨u, e1, h u r⟩
theorem Lo.freezeZ0 {Z : Addr → Prop} {p : Addr} {ds : List PyData} (L : Lo C X H σ Γ) {i : Nat} (e : Γ[i]? = some (.mu p (.lstZ Z ds))) (hx : ¬ C.X0 p) (hz : ∀ a, ¬ Z a → C.H0 a ≠ none) (h0 : C.H0 p = none) : Lo C (fun a => X a ∧ a ≠ p) H σ (Γ.set i (.fixN Z (.list ds))) := by
  have hil : i < Γ.length := (List.getElem?_eq_some_iff.mp e).1
  refine ⟨L.len, fun j t hj => ?_, nodup_setS rfl L.nd, fun q hq => ⟨L.mx q (muts_setS rfl hq), fun z => ?_⟩, fun a h => ⟨L.m0 a h, fun z => hx (z ▸ h)⟩, fun a h => L.xd a h.1, L.base, L.dom, fun q hq => L.own q (muts_setS rfl hq), L.tf⟩
  · by_cases z : j = i
    · subst z
      rw [List.getElem?_set_self hil] at hj
      cases hj
      obtain ⟨h1, vs, h2, h3⟩ := L.at_ j _ e
      refine ⟨.ref p, h1, .lst (fun y => ?_) (.inl h2) (h3.anti fun a h => h.imp (fun h => h.1) id)⟩
      rcases y with y | y | ⟨o, u, y⟩
      · exact y.2 rfl
      · exact hz p y h0
      · rw [h2] at y; cases y
    · rw [List.getElem?_set_ne (Ne.symm z)] at hj
      exact (L.at_ j t hj).anti fun a h => h.1
  · subst z
    obtain ⟨j, s, hj, es⟩ := mem_muts.mp hq
    by_cases y : j = i
    · subst y
      rw [List.getElem?_set_self hil] at hj
      cases hj; cases es
    · rw [List.getElem?_set_ne (Ne.symm y)] at hj
      exact y (ad_unique L.nd hj e es rfl)
theorem Lo.toZ [Py α] [Flat α] {Z : Addr → Prop} {p : Addr} {xs : List α} (L : Lo C X H σ Γ) {i : Nat} (e : Γ[i]? = some (.mu p (ml xs))) : Lo C X H σ (Γ.set i (.mu p (.lstZ Z (xs.map enc)))) :=
  L.resl e rfl fun v ⟨e, vs, h, r⟩ => ⟨e, vs, h, r.flat⟩
/-- a list of the body's own, of flat items, written no more, as a told value -/
theorem Lo.freezeZ [Py α] [Flat α] {Z : Addr → Prop} {p : Addr} {xs : List α} (L : Lo C X H σ Γ) {i : Nat} (e : Γ[i]? = some (.mu p (ml xs))) (hx : ¬ C.X0 p) (hz : ∀ a, ¬ Z a → C.H0 a ≠ none) (h0 : C.H0 p = none) : Lo C (fun a => X a ∧ a ≠ p) H σ (Γ.set i (.fixN Z (enc xs))) := by
  have L1 := L.toZ (Z := Z) e
  have hil : i < Γ.length := (List.getElem?_eq_some_iff.mp e).1
  have L2 := L1.freezeZ0 (i := i) (List.getElem?_set_self hil) hx hz h0
  rw [List.set_set] at L2
  exact L2
/-- .. behind a call that tells such a value -/
theorem k0dz {v : V} {H' : Hp} {d : PyData} {ps : List (Addr × MO)} {P : Prop} {Z : Addr → Prop} (hz : ∀ a, ¬ Z a → C.H0 a ≠ none) (L : Lo C X H σ Γ) (F : Fin C.K X H [] ps (.immN (fun a => H a = none) d) v H') (h : Lo C X H' σ Γ → (∀ d u, Rep C.K X H d u → Rep C.K X H' d u) → Rep C.K (NewX X Z H') H' d v → P) : P := by
  have s : Same H H' := fun a o e => F.base a o e (by simp)
  exact h (L.same s) (fun _ _ r => r.keep (.same s)) (Rep.anti (fun a z => z.imp id fun z => z.imp (fun z y => L.dom a (hz a z) y) id) F.res)
theorem k0di {v : V} {H' : Hp} {d : PyData} {ps : List (Addr × MO)} {P : Prop} {Z : Addr → Prop} (L : Lo C X H σ Γ) (F : Fin C.K X H [] ps (.immN Z d) v H') (h : Lo C X H' σ Γ → (∀ d u, Rep C.K X H d u → Rep C.K X H' d u) → Rep C.K X H' d v → P) : P := by
  have s : Same H H' := fun a o e => F.base a o e (by simp)
  exact h (L.same s) (fun _ _ r => r.keep (.same s)) (Rep.ofN F.res)
theorem Lo.domZ {Z : Addr → Prop} (L : Lo C X H σ Γ) (hz : ∀ a, ¬ Z a → C.H0 a ≠ none) : ∀ a, ¬ Z a → H a ≠ none := fun a h => L.dom a (hz a h)
/-- what may be None is not -/
theorem Lo.someN [Py α] {Z : Addr → Prop} {o : Option α} {x : α} {i : Nat} (L : Lo C X H σ Γ) (g : Γ[i]? = some (.fixN Z (enc o))) (e : o = some x) (eΓ : Γ.set i (.fixN Z (enc x)) = Γ') : Lo C X H σ Γ' := by
  subst eΓ e
  exact L.resl g rfl fun _ h => h
/-- x.clear(), x a told list -/
theorem x_clrN {ds : List PyData} {v : V} {Z : Addr → Prop} {i : Nat} (L : Lo C X H σ Γ) (hZ : ∀ a, Z a → C.H0 a = none) (r : Rep C.K (NewX X Z H) H (.list ds) v) (g : Γ[i]? = some (.fixN Z (.list ds))) (old : ∀ s ∈ Γ.set i .unk, OldS Z s) (e : Γ.set i .unk = Γ')
    (h : ∀ H', Lo C X H' σ Γ' → Q .non H') : rClear v [] H Q := by
  subst e
  have L1 : Lo C X H σ (Γ.set i .unk) := L.resl g rfl fun _ _ => trivial
  obtain ⟨b, us, rfl, nb, rd, _⟩ := rep_lst r
  have rd' : H b = some (.lst us) := by
    rcases rd with rd | ⟨o, rd⟩
    · exact rd
    · exact (nb (.inr (.inr ⟨_, _, rd⟩))).elim
  have zb : Z b := Classical.not_not.mp fun h => nb (.inr (.inl h))
  exact ⟨b, us, rfl, rfl, rd', h _ (L1.clrZ (hZ b zb) (fun h => nb (.inl h)) zb rd' old)⟩
end
theorem x_bsetZ {C : Cn} {X Z : Addr → Prop} {H : Hp} {σ : L2.St} {Γ : List Sl} {α ρ : Type} {d : α → PyData} {x0 : α} {i : Nat} {v : V} {k : α → Option ρ} {r : ρ} {N : L2.St → Hp → Prop} {Γf : α → List Sl} (hm : (some x0).bind k = some r) (L : Lo C X H σ Γ) (q : Rep C.K (NewX X Z H) H (d x0) v) (hi : i < C.n) (e : ∀ x, Γ.set i (.fixN Z (d x)) = Γf x) (h : ∀ x σ', k x = some r → Lo C X H σ' (Γf x) → N σ' H) : gName i v σ H N :=
  h x0 _ hm (by rw [← e]; exact L.setS (i := i) (v := some v) (s := .fixN Z (d x0)) rfl ⟨v, rfl, q⟩ hi)
def m__law_cell (a__law_script : (List Int)) (a__law_k : Int) : Option Int :=
 if (decide (a__law_k < (a__law_script.length : Int))) = true then
 ((ix a__law_script a__law_k).bind fun x1 =>
 some x1)
 else
 (some 0)
def m__law_bag (a__law_cell_here : Int) : Option (List Int) :=
 some ([(a__law_cell_here * (b2 ((decide (1000000000000000000 ≤ a__law_cell_here))))), (a__law_cell_here % 2147483647)])
def m__law_digit (a__law_bag_here : (List Int)) (a__law_many : Int) : Option (Int × (List Int)) :=
 (ix a__law_bag_here 0).bind fun x1 =>
 if (decide (0 < x1)) = true then
 ((ix a__law_bag_here 0).bind fun x2 =>
 (modG x2 a__law_many).bind fun z1 =>
 (ix a__law_bag_here 0).bind fun x3 =>
 (divG x3 a__law_many).bind fun z2 =>
 (setI a__law_bag_here 0 z2).bind fun y1 =>
 some ((z1, y1)))
 else
 ((ix a__law_bag_here 1).bind fun x4 =>
 (setI a__law_bag_here 1 ((((x4 * 48271) + 11) % 2147483647))).bind fun y2 =>
 (ix y2 1).bind fun x5 =>
 (modG ((((x5 * 16807) % 2147483629) / 8)) a__law_many).bind fun z3 =>
 some ((z3, y2)))
def m__law_point (a__law_a : Int) (a__law_b : Int) (a__law_n : Int) : Option (T3 Int Int Int) :=
 (some ((iabs a__law_a))).bind fun (one_1 : Int) =>
 (foldO (fun (x1 : Int) (s1 : Int) =>
 ((loopW (ρ := Empty) (fun (s3 : (Int × Int)) =>
 (if (decide (0 < s3.2)) = true then
 ((modG s3.1 s3.2).bind fun z1 =>
 some (.nxt ((s3.2, z1))))
 else
 (some (.brk ((s3.1, s3.2)))))) (x1.natAbs + 2) ((s1, x1))).bind fun o => o.out (fun (e : Empty) => e.elim) fun (s4 : (Int × Int)) =>
 some s4.1)) [(iabs a__law_b), a__law_n] one_1).bind fun (s2 : Int) =>
 (divG a__law_a s2).bind fun z2 =>
 (divG a__law_b s2).bind fun z3 =>
 (divG a__law_n s2).bind fun z4 =>
 some ((T3.mk z2 z3 z4))
def m__law_place (a__law_bag_here : (List Int)) (a__law_most : Int) : Option ((T3 Int Int Int) × (List Int)) :=
 (m__law_digit a__law_bag_here 5).bind fun z1 =>
 (ix ([1, 1, 1, 2, 3]) z1.1).bind fun x1 =>
 (mulG a__law_most x1).bind fun z2 =>
 (m__law_digit z1.2 ((z2 + 1))).bind fun z3 =>
 (mulG a__law_most x1).bind fun z4 =>
 (m__law_digit z3.2 ((z4 + 1))).bind fun z5 =>
 (m__law_point z3.1 z5.1 x1).bind fun z6 =>
 some ((z6, z5.2))
def m__law_side (a__law_p : (T3 Int Int Int)) (a__law_q : (T3 Int Int Int)) (a__law_r : (T3 Int Int Int)) : Option Int :=
 (mulG a__law_q.b a__law_r.c).bind fun z1 =>
 (mulG a__law_q.c a__law_r.b).bind fun z2 =>
 (mulG a__law_p.a ((z1 - z2))).bind fun z3 =>
 (mulG a__law_q.a a__law_r.c).bind fun z4 =>
 (mulG a__law_q.c a__law_r.a).bind fun z5 =>
 (mulG a__law_p.b ((z4 - z5))).bind fun z6 =>
 (some ((z3 - z6))).bind fun (found_1 : Int) =>
 (mulG a__law_q.a a__law_r.b).bind fun z7 =>
 (mulG a__law_q.b a__law_r.a).bind fun z8 =>
 (mulG a__law_p.c ((z7 - z8))).bind fun z9 =>
 (some ((found_1 + z9))).bind fun (found_2 : Int) =>
 some (((b2 ((decide (0 < found_2)))) - (b2 ((decide (found_2 < 0))))))
def m__law_three (a__law_bag_here : (List Int)) (a__law_most : Int) : Option ((List (T3 Int Int Int)) × (List Int)) :=
 (mapS (fun (x1 : Int) (s1 : (List Int)) =>
 ((m__law_place s1 a__law_most).bind fun z1 =>
 some (z1.1, z1.2))) (rangeL 0 3) a__law_bag_here).bind fun q1 =>
 (ix q1.1 0).bind fun x2 =>
 (ix q1.1 1).bind fun x3 =>
 (ix q1.1 2).bind fun x4 =>
 (m__law_side x2 x3 x4).bind fun z2 =>
 if (decide (z2 = 0)) = true then
 (some (([(T3.mk 0 0 1), (T3.mk a__law_most 1 1), (T3.mk 1 a__law_most 1)], q1.2)))
 else
 ((stepG q1.1 z2).bind fun ys1 =>
 some ((ys1, q1.2)))
def m__law_is_point (a__law_p : (T3 Int Int Int)) : Option Bool :=
 if ((!true) || (!decide (3 = 3))) = true then
 (some false)
 else
 ((loopL (ρ := Bool) (fun (x1 : Int) (s1 : Unit) =>
 (if ((!true) || false) = true then
 (some (.ret false))
 else
 (some (.nxt (()))))) [a__law_p.a, a__law_p.b, a__law_p.c] (())).bind fun o => o.out (fun r => some r) fun (s2 : Unit) =>
 (if (decide (0 < a__law_p.c)) = true then
 ((m__law_point a__law_p.a a__law_p.b a__law_p.c).bind fun z2 =>
 some ((decide (z2 = a__law_p))))
 else some false).bind fun b1 =>
 some b1)
def m__law_is_convex (a__law_ring : (List (T3 Int Int Int))) : Option Bool :=
 if ((!true) || (decide ((a__law_ring.length : Int) < 3))) = true then
 (some false)
 else
 ((lenOk a__law_ring.length).bind fun _ =>
 (filO (fun (x1 : (T3 Int Int Int)) =>
 ((m__law_is_point x1).bind fun z1 =>
 if (!z1) = true then
 (some (some x1))
 else
 (some none))) a__law_ring).bind fun ys1 =>
 if (decide (0 < (ys1.length : Int))) = true then
 (some false)
 else
 ((rngOk ((a__law_ring.length : Int))).bind fun _ =>
 (loopL (ρ := Bool) (fun (x2 : Int) (s2 : Unit) =>
 ((rngOk ((a__law_ring.length : Int))).bind fun _ =>
 (loopL (ρ := Bool) (fun (x3 : Int) (s4 : Unit) =>
 ((if (!decide (x3 = x2)) = true then
 ((modG ((x2 + 1)) ((a__law_ring.length : Int))).bind fun z3 =>
 some ((!decide (x3 = z3))))
 else some false).bind fun b1 =>
 if b1 = true then
 ((ix a__law_ring x2).bind fun x4 =>
 (modG ((x2 + 1)) ((a__law_ring.length : Int))).bind fun z4 =>
 (ix a__law_ring z4).bind fun x5 =>
 (ix a__law_ring x3).bind fun x6 =>
 (m__law_side x4 x5 x6).bind fun z5 =>
 if (!decide (z5 = 1)) = true then
 (some (.ret false))
 else
 (some (.nxt (()))))
 else
 (some (.nxt (()))))) (rangeL 0 ((a__law_ring.length : Int)).toNat) (())).bind fun o => o.out (fun r => some (.ret r)) fun (s5 : Unit) =>
 some (.nxt (())))) (rangeL 0 ((a__law_ring.length : Int)).toNat) (())).bind fun o => o.out (fun r => some r) fun (s3 : Unit) =>
 some true))
def m__law_bulging (a__law_bag_here : (List Int)) (a__law_most : Int) : Option ((List (T3 Int Int Int)) × (List Int)) :=
 (m__law_three a__law_bag_here a__law_most).bind fun z1 =>
 (m__law_digit z1.2 3).bind fun z2 =>
 (rngOk z2.1).bind fun _ =>
 (foldO (fun (x1 : Int) (s1 : ((List Int) × (List (T3 Int Int Int)))) =>
 ((m__law_place s1.1 a__law_most).bind fun z3 =>
 (rngOk ((s1.2.length : Int))).bind fun _ =>
 (loopL (ρ := Empty) (fun (x2 : Int) (s3 : (List (T3 Int Int Int))) =>
 ((lenOk (((slice s3 none (some x2))).length + ([z3.1]).length)).bind fun _ =>
 (lenOk ((((slice s3 none (some x2)) ++ [z3.1])).length + ((slice s3 (some x2) none)).length)).bind fun _ =>
 (some ((((slice s3 none (some x2)) ++ [z3.1]) ++ (slice s3 (some x2) none)))).bind fun (more_1 : (List (T3 Int Int Int))) =>
 (m__law_is_convex more_1).bind fun z4 =>
 if z4 = true then
 (some (.brk more_1))
 else
 (some (.nxt s3)))) (rangeL 0 ((s1.2.length : Int)).toNat) s1.2).bind fun o => o.out (fun (e : Empty) => e.elim) fun (s4 : (List (T3 Int Int Int))) =>
 some ((z3.2, s4)))) (rangeL 0 z2.1.toNat) ((z2.2, z1.1))).bind fun (s2 : ((List Int) × (List (T3 Int Int Int)))) =>
 some ((s2.2, s2.1))
def m__law_step (a__law_bag_here : (List Int)) (a__law_most : Int) : Option ((T3 Int Int Int) × (List Int)) :=
 (m__law_digit a__law_bag_here 4).bind fun z1 =>
 (ix ([1, 1, 2, 5]) z1.1).bind fun x1 =>
 (m__law_digit z1.2 (((2 * a__law_most) + 1))).bind fun z2 =>
 (m__law_digit z2.2 (((2 * a__law_most) + 1))).bind fun z3 =>
 (m__law_point ((z2.1 - a__law_most)) ((z3.1 - a__law_most)) x1).bind fun z4 =>
 some ((z4, z3.2))
def m__law_slid (a__law_p : (T3 Int Int Int)) (a__law_v : (T3 Int Int Int)) : Option (T3 Int Int Int) :=
 (mulG a__law_p.a a__law_v.c).bind fun z1 =>
 (mulG a__law_v.a a__law_p.c).bind fun z2 =>
 (mulG a__law_p.b a__law_v.c).bind fun z3 =>
 (mulG a__law_v.b a__law_p.c).bind fun z4 =>
 (mulG a__law_p.c a__law_v.c).bind fun z5 =>
 (m__law_point ((z1 + z2)) ((z3 + z4)) z5).bind fun z6 =>
 some z6
def m__law_turned (a__law_p : (T3 Int Int Int)) : Option (T3 Int Int Int) :=
 some ((T3.mk ((-a__law_p.a)) ((-a__law_p.b)) a__law_p.c))
def m__law_second (a__law_ring : (List (T3 Int Int Int))) (a__law_bag_here : (List Int)) : Option ((List (T3 Int Int Int)) × (List Int)) :=
 (m__law_digit a__law_bag_here 6).bind fun z1 =>
 if (decide (z1.1 = 0)) = true then
 (some ((a__law_ring, z1.2)))
 else
 (if (decide (z1.1 = 1)) = true then
 ((m__law_step z1.2 6).bind fun z2 =>
 (lenOk a__law_ring.length).bind fun _ =>
 (mapO (fun (x1 : (T3 Int Int Int)) =>
 ((m__law_slid x1 z2.1).bind fun z3 =>
 some z3)) a__law_ring).bind fun ys1 =>
 some ((ys1, z2.2)))
 else
 (if (decide (z1.1 = 2)) = true then
 ((m__law_digit z1.2 ((a__law_ring.length : Int))).bind fun z4 =>
 (ix a__law_ring z4.1).bind fun x2 =>
 (m__law_digit z4.2 ((a__law_ring.length : Int))).bind fun z5 =>
 (ix a__law_ring z5.1).bind fun x3 =>
 (m__law_turned x3).bind fun z6 =>
 (m__law_slid x2 z6).bind fun z7 =>
 (lenOk a__law_ring.length).bind fun _ =>
 (mapO (fun (x4 : (T3 Int Int Int)) =>
 ((m__law_slid x4 z7).bind fun z8 =>
 some z8)) a__law_ring).bind fun ys2 =>
 some ((ys2, z5.2)))
 else
 ((m__law_bulging z1.2 6).bind fun z9 =>
 some ((z9.1, z9.2)))))
def m_crossed (a_p : (T3 Int Int Int)) (a_q : (T3 Int Int Int)) : Option (T3 Int Int Int) :=
 (mulG a_p.b a_q.c).bind fun z1 =>
 (mulG a_p.c a_q.b).bind fun z2 =>
 (mulG a_p.c a_q.a).bind fun z3 =>
 (mulG a_p.a a_q.c).bind fun z4 =>
 (mulG a_p.a a_q.b).bind fun z5 =>
 (mulG a_p.b a_q.a).bind fun z6 =>
 some ((T3.mk ((z1 - z2)) ((z3 - z4)) ((z5 - z6))))
def m_side (a_p : (T3 Int Int Int)) (a_q : (T3 Int Int Int)) (a_r : (T3 Int Int Int)) : Option Int :=
 (m_crossed a_p a_q).bind fun z1 =>
 (mulG z1.a a_r.a).bind fun z2 =>
 (mulG z1.b a_r.b).bind fun z3 =>
 (mulG z1.c a_r.c).bind fun z4 =>
 (some (((z2 + z3) + z4))).bind fun (number_1 : Int) =>
 if (decide (number_1 = 0)) = true then
 (some 0)
 else
 (if (decide (0 < number_1)) = true then
 (some 1)
 else
 (some ((-1))))
def m_greatest_divisor (a_a : Int) (a_b : Int) : Option Int :=
 (some ((iabs a_a))).bind fun (one_1 : Int) =>
 (some ((iabs a_b))).bind fun (other_1 : Int) =>
 (loopW (ρ := Empty) (fun (s1 : (Int × Int)) =>
 (if (decide (0 < s1.2)) = true then
 ((modG s1.1 s1.2).bind fun z1 =>
 some (.nxt ((s1.2, z1))))
 else
 (some (.brk ((s1.1, s1.2)))))) (other_1.natAbs + 2) ((one_1, other_1))).bind fun o => o.out (fun (e : Empty) => e.elim) fun (s2 : (Int × Int)) =>
 some s2.1
def m_point (a_a : Int) (a_b : Int) (a_n : Int) : Option (T3 Int Int Int) :=
 if (decide (a_n = 0)) = true then
 (none)
 else
 ((m_greatest_divisor a_a a_n).bind fun z1 =>
 (m_greatest_divisor z1 a_b).bind fun z2 =>
 (if (decide (a_n < 0)) = true then
 ((some ((-z2))).bind fun (divisor_1 : Int) =>
 some divisor_1)
 else
 (some z2)).bind fun (s1 : Int) =>
 (divG a_a s1).bind fun z3 =>
 (divG a_b s1).bind fun z4 =>
 (divG a_n s1).bind fun z5 =>
 some ((T3.mk z3 z4 z5)))
def m_meet (a_p : (T3 Int Int Int)) (a_q : (T3 Int Int Int)) (a_r : (T3 Int Int Int)) (a_s : (T3 Int Int Int)) : Option (T3 Int Int Int) :=
 (m_crossed a_p a_q).bind fun z1 =>
 (m_crossed a_r a_s).bind fun z2 =>
 (m_crossed z1 z2).bind fun z3 =>
 if (decide (z3.c = 0)) = true then
 (none)
 else
 ((m_point z3.a z3.b z3.c).bind fun z4 =>
 some z4)
def m_half_of (a_ring : (List (T3 Int Int Int))) (a_p : (T3 Int Int Int)) (a_q : (T3 Int Int Int)) (a_hand : Int) : Option (Option (List (T3 Int Int Int))) :=
 (lenOk a_ring.length).bind fun _ =>
 (mapO (fun (x1 : (T3 Int Int Int)) =>
 ((m_side a_p a_q x1).bind fun z1 =>
 (mulG a_hand z1).bind fun z2 =>
 some z2)) a_ring).bind fun ys1 =>
 (List.max? ys1).bind fun z3 =>
 if (decide (z3 ≤ 0)) = true then
 (some ((none : (Option (List (T3 Int Int Int))))))
 else
 ((foldO (fun (x2 : (T2 Int (T3 Int Int Int))) (s2 : (List (T3 Int Int Int))) =>
 ((ix ys1 ((x2.a - 1))).bind fun x3 =>
 (ix ys1 x2.a).bind fun x4 =>
 (mulG x3 x4).bind fun z4 =>
 (if (decide (z4 < 0)) = true then
 ((ix a_ring ((x2.a - 1))).bind fun x5 =>
 (m_meet x5 x2.b a_p a_q).bind fun z5 =>
 (lenOk (s2.length + 1)).bind fun _ =>
 some ((s2 ++ [z5])))
 else
 (some s2)).bind fun (s4 : (List (T3 Int Int Int))) =>
 (ix ys1 x2.a).bind fun x6 =>
 (if (decide (0 ≤ x6)) = true then
 ((lenOk (s4.length + 1)).bind fun _ =>
 some ((s4 ++ [x2.b])))
 else
 (some s4)).bind fun (s5 : (List (T3 Int Int Int))) =>
 some s5)) (enumL a_ring) (([] : (List (T3 Int Int Int))))).bind fun (s3 : (List (T3 Int Int Int))) =>
 some ((some s3)))
def m_common (a_one : (List (T3 Int Int Int))) (a_other : (List (T3 Int Int Int))) : Option (Option (List (T3 Int Int Int))) :=
 (loopL (ρ := (Option (List (T3 Int Int Int)))) (fun (x1 : (T2 Int (T3 Int Int Int))) (s1 : (List (T3 Int Int Int))) =>
 ((ix a_other ((x1.a - 1))).bind fun x2 =>
 (m_half_of s1 x2 x1.b 1).bind fun z1 =>
 if (z1.isNone) = true then
 (some (.ret ((none : (Option (List (T3 Int Int Int)))))))
 else
 ((z1).bind fun made_1 =>
 some (.nxt made_1)))) (enumL a_other) a_one).bind fun o => o.out (fun r => some r) fun (s2 : (List (T3 Int Int Int))) =>
 some ((some s2))
def m__law_spot (a__law_bag_here : (List Int)) (a__law_most : Int) : Option ((T3 Int Int Int) × (List Int)) :=
 (m__law_digit a__law_bag_here 97).bind fun z1 =>
 (some ((1 + z1.1))).bind fun (n_1 : Int) =>
 (mulG ((a__law_most + 2)) n_1).bind fun z2 =>
 (m__law_digit z1.2 ((z2 + 1))).bind fun z3 =>
 (mulG ((a__law_most + 2)) n_1).bind fun z4 =>
 (m__law_digit z3.2 ((z4 + 1))).bind fun z5 =>
 (m__law_point ((z3.1 - n_1)) ((z5.1 - n_1)) n_1).bind fun z6 =>
 some ((z6, z5.2))
def m__law_mixed (a__law_ring : (List (T3 Int Int Int))) (a__law_bag_here : (List Int)) : Option ((T3 Int Int Int) × (List Int)) :=
 (some ((T3.mk 0 0 1))).bind fun (found_1 : (T3 Int Int Int)) =>
 (foldO (fun (x1 : (T3 Int Int Int)) (s1 : ((List Int) × (T3 Int Int Int) × Int)) =>
 ((m__law_digit s1.1 61).bind fun z1 =>
 (some ((1 + z1.1))).bind fun (weight_1 : Int) =>
 (mulG x1.a weight_1).bind fun z2 =>
 (mulG x1.b weight_1).bind fun z3 =>
 (m__law_point z2 z3 x1.c).bind fun z4 =>
 (m__law_slid s1.2.1 z4).bind fun z5 =>
 (some (s1.2.2 + weight_1)).bind fun (weights_1 : Int) =>
 some ((z1.2, z5, weights_1)))) a__law_ring ((a__law_bag_here, found_1, 0))).bind fun (s2 : ((List Int) × (T3 Int Int Int) × Int)) =>
 (mulG s2.2.1.c s2.2.2).bind fun z6 =>
 (m__law_point s2.2.1.a s2.2.1.b z6).bind fun z7 =>
 some ((z7, s2.1))
def m__law_twice_area (a__law_ring : (List (T3 Int Int Int))) : Option (T3 Int Int Int) :=
 (rngOk ((a__law_ring.length : Int))).bind fun _ =>
 (foldO (fun (x1 : Int) (s1 : (Int × Int)) =>
 ((ix a__law_ring ((x1 - 1))).bind fun x2 =>
 (ix a__law_ring x1).bind fun x3 =>
 (mulG s1.1 x2.c).bind fun z1 =>
 (mulG z1 x3.c).bind fun z2 =>
 (mulG x2.a x3.b).bind fun z3 =>
 (mulG x2.b x3.a).bind fun z4 =>
 (mulG ((z3 - z4)) s1.2).bind fun z5 =>
 (some ((z2 + z5))).bind fun (top_1 : Int) =>
 (mulG s1.2 x2.c).bind fun z6 =>
 (mulG z6 x3.c).bind fun z7 =>
 some ((top_1, z7)))) (rangeL 0 ((a__law_ring.length : Int)).toNat) ((0, 1))).bind fun (s2 : (Int × Int)) =>
 (m__law_point s2.1 0 s2.2).bind fun z8 =>
 some z8
def m__law_within (a__law_ring : (List (T3 Int Int Int))) (a__law_p : (T3 Int Int Int)) : Option Int :=
 (rngOk ((a__law_ring.length : Int))).bind fun _ =>
 (loopL (ρ := Int) (fun (x1 : Int) (s1 : Int) =>
 ((ix a__law_ring ((x1 - 1))).bind fun x2 =>
 (ix a__law_ring x1).bind fun x3 =>
 (m__law_side x2 x3 a__law_p).bind fun z1 =>
 if (decide (z1 < 0)) = true then
 (some (.ret 0))
 else
 ((if (decide (z1 = 0)) = true then
 ((some ((-1))).bind fun (found_1 : Int) =>
 some found_1)
 else
 (some s1)).bind fun (s3 : Int) =>
 some (.nxt s3)))) (rangeL 0 ((a__law_ring.length : Int)).toNat) 1).bind fun o => o.out (fun r => some r) fun (s2 : Int) =>
 some s2
def m_law (a__law_script : (List Int)) : Option Bool :=
 (m__law_cell a__law_script 0).bind fun z1 =>
 (m__law_bag z1).bind fun z2 =>
 (m__law_bulging z2 6).bind fun z3 =>
 (m__law_cell a__law_script 1).bind fun z4 =>
 (m__law_bag z4).bind fun z5 =>
 (m__law_second z3.1 z5).bind fun z6 =>
 (some ([z3.1, z6.1])).bind fun (handed_1 : (List (List (T3 Int Int Int)))) =>
 (ix handed_1 0).bind fun x1 =>
 (ix handed_1 1).bind fun x2 =>
 (m_common x1 x2).bind fun z7 =>
 (ix handed_1 1).bind fun x3 =>
 (ix handed_1 0).bind fun x4 =>
 (m_common x3 x4).bind fun z8 =>
 if ((!decide (handed_1 = [z3.1, z6.1])) || (!decide ((z7.isNone) = (z8.isNone)))) = true then
 (some false)
 else
 ((mapS (fun (x5 : Int) (s1 : (List Int)) =>
 ((m__law_spot s1 6).bind fun z9 =>
 some (z9.1, z9.2))) (rangeL 0 8) z6.2).bind fun q1 =>
 (foldO (fun (x6 : Int) (s2 : ((List Int) × (List (T3 Int Int Int)))) =>
 ((m__law_mixed z3.1 s2.1).bind fun z10 =>
 (m__law_mixed z6.1 z10.2).bind fun z11 =>
 (lenOk (s2.2.length + ([z10.1, z11.1]).length)).bind fun _ =>
 some ((z11.2, (s2.2 ++ [z10.1, z11.1]))))) (rangeL 0 3) ((q1.2, q1.1))).bind fun (s3 : ((List Int) × (List (T3 Int Int Int)))) =>
 if (!z7.isNone) = true then
 ((z7).bind fun found_1 =>
 (m__law_is_convex found_1).bind fun z12 =>
 (if (!z12) = true then some true else
 (z8.bind fun x8 =>
 (m__law_is_convex x8).bind fun z14 =>
 some ((!z14)))).bind fun b1 =>
 if b1 = true then
 (some false)
 else
 ((m__law_twice_area found_1).bind fun z15 =>
 z8.bind fun x9 =>
 (m__law_twice_area x9).bind fun z16 =>
 if (!decide (z15 = z16)) = true then
 (some false)
 else
 ((loopL (ρ := Bool) (fun (x10 : (T3 Int Int Int)) (s5 : Unit) =>
 ((m__law_within z3.1 x10).bind fun z17 =>
 (if (decide (z17 = 0)) = true then some true else
 ((m__law_within z6.1 x10).bind fun z19 =>
 some ((decide (z19 = 0))))).bind fun b2 =>
 if b2 = true then
 (some (.ret false))
 else
 (some (.nxt (()))))) found_1 (())).bind fun o => o.out (fun r => some r) fun (s6 : Unit) =>
 (mapS (fun (x11 : Int) (s8 : (List Int)) =>
 ((m__law_mixed found_1 s8).bind fun z20 =>
 some (z20.1, z20.2))) (rangeL 0 3) s3.1).bind fun q2 =>
 (lenOk (s3.2.length + q2.1.length)).bind fun _ =>
 (loopL (ρ := Bool) (fun (x12 : (T3 Int Int Int)) (s9 : Unit) =>
 ((m__law_within z3.1 x12).bind fun z21 =>
 (m__law_within z6.1 x12).bind fun z22 =>
 (some ([z21, z22])).bind fun (hands_1 : (List Int)) =>
 if (!memB ((-1)) hands_1) = true then
 ((some ((decide (hands_1 = [1, 1])))).bind fun (both_1 : Bool) =>
 (if (!false) = true then
 ((m__law_within found_1 x12).bind fun z24 =>
 some ((decide (z24 = 1))))
 else some false).bind fun b3 =>
 if (!decide (both_1 = b3)) = true then
 (some (.ret false))
 else
 (some (.nxt (()))))
 else
 (some (.nxt (()))))) (s3.2 ++ q2.1) (())).bind fun o => o.out (fun r => some r) fun (s10 : Unit) =>
 if (!false) = true then
 (some ((decide (handed_1 = [z3.1, z6.1]))))
 else
 (some ((decide (handed_1 = [z3.1, z6.1])))))))
 else
 ((loopL (ρ := Bool) (fun (x13 : (T3 Int Int Int)) (s12 : Unit) =>
 ((m__law_within z3.1 x13).bind fun z25 =>
 (m__law_within z6.1 x13).bind fun z26 =>
 (some ([z25, z26])).bind fun (hands_2 : (List Int)) =>
 if (!memB ((-1)) hands_2) = true then
 ((some ((decide (hands_2 = [1, 1])))).bind fun (both_2 : Bool) =>
 (if (!z7.isNone) = true then
 (z7.bind fun x15 =>
 (m__law_within x15 x13).bind fun z28 =>
 some ((decide (z28 = 1))))
 else some false).bind fun b4 =>
 if (!decide (both_2 = b4)) = true then
 (some (.ret false))
 else
 (some (.nxt (()))))
 else
 (some (.nxt (()))))) s3.2 (())).bind fun o => o.out (fun r => some r) fun (s13 : Unit) =>
 if (!z7.isNone) = true then
 ((z7).bind fun found_2 =>
 some ((decide (handed_1 = [z3.1, z6.1]))))
 else
 (some ((decide (handed_1 = [z3.1, z6.1]))))))
/-! ### plain: loops, sizes -/
theorem foldO_inv {α τ : Type} {f : α → τ → Option τ} (I : Nat → τ → Prop) : ∀ {xs : List α} {s : τ} (k : Nat), (∀ j x s, I j s → ∃ s', f x s = some s' ∧ I (j + 1) s') → I k s → ∃ s', foldO f xs s = some s' ∧ I (k + xs.length) s'
  | [], s, k, _, h => ⟨s, rfl, h⟩
  | x :: xs, s, k, hf, h => by
    obtain ⟨s1, e1, h1⟩ := hf k x s h
    obtain ⟨s2, e2, h2⟩ := foldO_inv I (xs := xs) (k + 1) hf h1
    refine ⟨s2, ?_, by rw [List.length_cons, Nat.add_comm xs.length 1, ← Nat.add_assoc]; exact h2⟩
    show (f x s).bind _ = _
    rw [e1]; exact e2
/-- .. without a count -/
theorem foldO_inv' {α τ : Type} {f : α → τ → Option τ} (I : τ → Prop) {xs : List α} {s : τ} (hf : ∀ x s, I s → ∃ s', f x s = some s' ∧ I s') (h : I s) : ∃ s', foldO f xs s = some s' ∧ I s' :=
  foldO_inv (fun _ => I) 0 (fun _ => hf) h
/-- a loop that is never left early -/
theorem loopL_inv {α τ ρ : Type} {f : α → τ → Option (Lp τ ρ)} (I : τ → Prop) : ∀ {xs : List α} {s : τ}, (∀ x s, x ∈ xs → I s → ∃ s', f x s = some (.nxt s') ∧ I s') → I s → ∃ s', loopL f xs s = some (.nxt s') ∧ I s'
  | [], s, _, h => ⟨s, rfl, h⟩
  | x :: xs, s, hf, h => by
    obtain ⟨s1, e1, h1⟩ := hf x s List.mem_cons_self h
    obtain ⟨s2, e2, h2⟩ := loopL_inv I (xs := xs) (fun y s hy => hf y s (List.mem_cons_of_mem _ hy)) h1
    refine ⟨s2, ?_, h2⟩
    show (f x s).bind _ = _
    rw [e1]; exact e2
theorem log2_le {a n : Nat} (h : a < 2 ^ n) : a.log2 ≤ n := by
  by_cases z : a = 0
  · subst z; simp
  · exact Nat.le_of_lt ((Nat.log2_lt z).mpr h)
theorem mulG_ok (n m : Nat) {a b : Int} (ha : a.natAbs < 2 ^ n) (hb : b.natAbs < 2 ^ m) (h : n + m < 1000000) : mulG a b = some (a * b) := by
  unfold mulG
  rw [if_pos (Nat.lt_of_le_of_lt (Nat.add_le_add (log2_le ha) (log2_le hb)) h)]
theorem modG_pos {a b : Int} (h : 0 < b) : modG a b = some (a % b) := by
  unfold modG
  rw [if_pos (by omega), Int.fmod_eq_emod_of_nonneg _ (by omega)]
theorem divG_pos (n : Nat) {a b : Int} (h : 0 < b) (hb : b.natAbs < 2 ^ n) (hn : n < 9000) : divG a b = some (a / b) := by
  unfold divG
  rw [if_pos ⟨by omega, Nat.lt_of_le_of_lt (log2_le hb) hn⟩, Int.fdiv_eq_ediv_of_nonneg _ (by omega)]
theorem lenOk_ok {n : Nat} (h : n ≤ 16777216) : lenOk n = some () := by unfold lenOk; rw [if_pos h]
theorem slice_len {α : Type} (xs : List α) (lo hi : Option Int) : (slice xs lo hi).length ≤ xs.length := by
  unfold slice
  rw [List.length_take, List.length_drop]
  omega
theorem ix_lt {α : Type} {xs : List α} {k : Nat} (h : k < xs.length) : ix xs (k : Int) = some xs[k] := by
  unfold ix atI ixN
  have h1 : ¬ ((k : Int) < 0) := by omega
  simp [h]
theorem iabs_eq (i : Int) : iabs i = (i.natAbs : Int) := by unfold iabs; split <;> omega
theorem loopL_bind {α τ ρ β : Type} {f : α → τ → Option (Lp τ ρ)} {xs : List α} {s : τ} {g : Lp τ ρ → Option β} {v : β} (I : τ → Prop) (hf : ∀ x s, x ∈ xs → I s → ∃ s', f x s = some (.nxt s') ∧ I s') (h0 : I s) (hg : ∀ s', I s' → g (.nxt s') = some v) : (loopL f xs s).bind g = some v := by
  obtain ⟨s1, e, h⟩ := loopL_inv I hf h0
  rw [e]; exact hg s1 h
theorem foldO_bind {α τ β : Type} {f : α → τ → Option τ} {xs : List α} {s : τ} {g : τ → Option β} {v : β} (I : τ → Prop) (hf : ∀ x s, I s → ∃ s', f x s = some s' ∧ I s') (h0 : I s) (hg : ∀ s', I s' → g s' = some v) : (foldO f xs s).bind g = some v := by
  obtain ⟨s1, e, h⟩ := foldO_inv' I hf h0
  rw [e]; exact hg s1 h
/-! ### plain: the bag of this law -/
def Bag (xs : List Int) : Prop := ∃ a b : Int, xs = [a, b] ∧ 0 ≤ a ∧ 0 ≤ b ∧ b < 2147483647
theorem digit_ok {xs : List Int} {many : Int} (h : Bag xs) (hm : 0 < many) (hM : many < 18446744073709551616) : ∃ r ys, m__law_digit xs many = some (r, ys) ∧ Bag ys ∧ 0 ≤ r ∧ r < many := by
  obtain ⟨a, b, rfl, h1, h2, h3⟩ := h
  unfold m__law_digit
  have i0 : ∀ x y : Int, ix [x, y] 0 = some x := fun _ _ => rfl
  have i1 : ∀ x y : Int, ix [x, y] 1 = some y := fun _ _ => rfl
  have s0 : ∀ x y z : Int, setI [x, y] 0 z = some [z, y] := fun _ _ _ => rfl
  have s1 : ∀ x y z : Int, setI [x, y] 1 z = some [x, z] := fun _ _ _ => rfl
  simp only [i0, i1, s0, s1, Option.bind_some]
  by_cases z : 0 < a
  · rw [if_pos (by simpa using z), modG_pos hm, divG_pos 64 hm (by omega) (by decide)]
    exact ⟨_, _, rfl, ⟨_, _, rfl, Int.ediv_nonneg h1 (by omega), h2, h3⟩, Int.emod_nonneg _ (by omega), Int.emod_lt_of_pos _ hm⟩
  · rw [if_neg (by simpa using z)]
    have e1 : 0 ≤ (b * 48271 + 11) % 2147483647 := Int.emod_nonneg _ (by decide)
    have e2 : (b * 48271 + 11) % 2147483647 < 2147483647 := Int.emod_lt_of_pos _ (by decide)
    rw [modG_pos hm]
    exact ⟨_, _, rfl, ⟨_, _, rfl, h1, e1, e2⟩, Int.emod_nonneg _ (by omega), Int.emod_lt_of_pos _ hm⟩
theorem bag_ok (n : Int) : ∃ xs, m__law_bag n = some xs ∧ Bag xs := by
  unfold m__law_bag
  refine ⟨_, rfl, _, _, rfl, ?_, by omega, by omega⟩
  by_cases z : 1000000000000000000 ≤ n
  · rw [decide_eq_true z]; show 0 ≤ n * 1; omega
  · rw [decide_eq_false z]; show 0 ≤ n * 0; omega
theorem gcd_loop {β : Type} : ∀ (n : Nat) (a b : Int), 0 ≤ a → 0 ≤ b → b.natAbs < n →
    loopW (ρ := β) (fun (s : Int × Int) => if (decide (0 < s.2)) = true then ((modG s.1 s.2).bind fun z => some (.nxt (s.2, z))) else (some (.brk (s.1, s.2)))) n (a, b) = some (.brk ((Int.gcd a b : Int), 0))
  | 0, a, b, _, _, h => by omega
  | n + 1, a, b, ha, hb, h => by
    unfold loopW
    by_cases z : 0 < b
    · have h1 := Int.emod_nonneg a (show b ≠ 0 by omega)
      have h2 := Int.emod_lt_of_pos a z
      rw [if_pos (by simpa using z), modG_pos z]
      simp only [Option.bind_some]
      rw [gcd_loop n b (a % b) (by omega) h1 (by omega)]
      congr 4
      rw [Int.gcd_comm, Int.emod_def, Int.gcd_comm]
      rw [show a - b * (a / b) = a + b * (-(a / b)) by rw [Int.mul_neg, Int.sub_eq_add_neg]]
      rw [Int.gcd_add_mul_left_right, Int.gcd_comm]
    · have e : b = 0 := by omega
      subst e
      rw [if_neg (by simp)]
      simp only [Option.bind_some]
      rw [Int.gcd_zero_right]
      congr 3
      omega
theorem gcd_pos {a b : Int} (h : 0 < b) : (0 : Int) < (Int.gcd a b : Int) := by
  have := Int.gcd_pos_of_ne_zero_right (a := a) (b := b) (by omega)
  omega
theorem gcd_le {a b : Int} (h : 0 < b) : (Int.gcd a b : Int) ≤ b := Int.le_of_dvd h (Int.gcd_dvd_right a b)
/-- lowest terms -/
structure Low (t b : Int) (r : T2 Int Int) : Prop where
  pos : 0 < r.b
  le : r.b ≤ b
  abs : r.a.natAbs ≤ t.natAbs
  eq : r.a * b = t * r.b
  one : Int.gcd r.a r.b = 1
theorem low_mk {t b : Int} (h : 0 < b) : Low t b ⟨t / (Int.gcd t b : Int), b / (Int.gcd t b : Int)⟩ := by
  have hg := gcd_pos (a := t) h
  have h1 : (Int.gcd t b : Int) * (t / (Int.gcd t b : Int)) = t := Int.mul_ediv_cancel' (Int.gcd_dvd_left t b)
  have h2 : (Int.gcd t b : Int) * (b / (Int.gcd t b : Int)) = b := Int.mul_ediv_cancel' (Int.gcd_dvd_right t b)
  have hp : 0 < b / (Int.gcd t b : Int) := by
    rcases Int.lt_trichotomy (b / (Int.gcd t b : Int)) 0 with z | z | z
    · have := Int.mul_neg_of_pos_of_neg hg z; omega
    · rw [z, Int.mul_zero] at h2; omega
    · exact z
  refine ⟨hp, Int.ediv_le_self _ (by omega), ?_, ?_, ?_⟩
  · exact Int.natAbs_ediv_le_natAbs _ _
  · show t / _ * b = t * (b / _)
    generalize hG : (Int.gcd t b : Int) = g at *
    generalize hx : t / g = x at *
    generalize hy : b / g = y at *
    rw [← h1, ← h2]
    rw [← Int.mul_assoc, Int.mul_comm x g]
  · show Int.gcd (t / _) (b / _) = 1
    exact Int.gcd_ediv_gcd_ediv_gcd (by omega)
/-! ### plain: sizes -/
theorem pow_le {a n m : Nat} (h : a < 2 ^ n) (hn : n ≤ m) : a < 2 ^ m := Nat.lt_of_lt_of_le h (Nat.pow_le_pow_right (by decide) hn)
theorem sz_mul {a b : Int} {n m : Nat} (ha : a.natAbs < 2 ^ n) (hb : b.natAbs < 2 ^ m) : (a * b).natAbs < 2 ^ (n + m) := by
  rw [Int.natAbs_mul, Nat.pow_add]
  exact Nat.mul_lt_mul'' ha hb
theorem sz_add {a b : Int} {n : Nat} (ha : a.natAbs < 2 ^ n) (hb : b.natAbs < 2 ^ n) : (a + b).natAbs < 2 ^ (n + 1) := by
  rw [Nat.pow_succ]; omega
theorem sz_sub {a b : Int} {n : Nat} (ha : a.natAbs < 2 ^ n) (hb : b.natAbs < 2 ^ n) : (a - b).natAbs < 2 ^ (n + 1) := by
  rw [Nat.pow_succ]; omega
/-! ### plain: points -/
def g3 (a b n : Int) : Nat := Int.gcd (Int.gcd a n : Int) b
theorem g3_pos {a b n : Int} (h : n ≠ 0) : 0 < g3 a b n := by
  unfold g3
  have := Int.gcd_pos_of_ne_zero_right (a := a) (b := n) h
  exact Int.gcd_pos_of_ne_zero_left _ (by omega)
theorem g3_a {a b n : Int} : (g3 a b n : Int) ∣ a := Int.dvd_trans (Int.gcd_dvd_left _ _) (Int.gcd_dvd_left _ _)
theorem g3_n {a b n : Int} : (g3 a b n : Int) ∣ n := Int.dvd_trans (Int.gcd_dvd_left _ _) (Int.gcd_dvd_right _ _)
theorem g3_b {a b n : Int} : (g3 a b n : Int) ∣ b := Int.gcd_dvd_right _ _
theorem g3_le {a b n : Int} (h : 0 < n) : (g3 a b n : Int) ≤ n := Int.le_of_dvd h g3_n
theorem g3_mul (k a b n : Int) : g3 (k * a) (k * b) (k * n) = k.natAbs * g3 a b n := by
  unfold g3
  rw [Int.gcd_mul_left, Int.natCast_mul]
  rcases Int.natAbs_eq k with e | e
  · rw [← e, Int.gcd_mul_left]
  · have : (k.natAbs : Int) = -k := by omega
    rw [this, Int.neg_mul, Int.gcd_comm, Int.gcd_neg, Int.gcd_comm, Int.gcd_mul_left]
theorem g3_dvd {a b n d x : Int} (h : g3 a b n = 1) (ha : d ∣ a * x) (hb : d ∣ b * x) (hn : d ∣ n * x) : d ∣ x := by
  have h1 : g3 (x * a) (x * b) (x * n) = x.natAbs := by rw [g3_mul, h, Nat.mul_one]
  have h2 : d ∣ (g3 (x * a) (x * b) (x * n) : Int) := by
    unfold g3
    exact Int.dvd_coe_gcd (Int.dvd_coe_gcd (by rw [Int.mul_comm]; exact ha) (by rw [Int.mul_comm]; exact hn)) (by rw [Int.mul_comm]; exact hb)
  rw [h1] at h2
  exact Int.dvd_natAbs.mp h2
structure Low3 (a b n : Int) (r : T3 Int Int Int) : Prop where
  pos : 0 < r.c
  le : r.c ≤ n
  sa : r.a.natAbs ≤ a.natAbs
  sb : r.b.natAbs ≤ b.natAbs
  ea : r.a * n = a * r.c
  eb : r.b * n = b * r.c
  one : g3 r.a r.b r.c = 1
structure Pt (n : Nat) (r : T3 Int Int Int) : Prop where
  pos : 0 < r.c
  sa : r.a.natAbs < 2 ^ n
  sb : r.b.natAbs < 2 ^ n
  sc : r.c.natAbs < 2 ^ n
  one : g3 r.a r.b r.c = 1
theorem Pt.mono {n m : Nat} {r : T3 Int Int Int} (h : Pt n r) (hn : n ≤ m) : Pt m r := ⟨h.pos, pow_le h.sa hn, pow_le h.sb hn, pow_le h.sc hn, h.one⟩
theorem Low3.pt {a b n : Int} {r : T3 Int Int Int} {k : Nat} (w : Low3 a b n r) (ha : a.natAbs < 2 ^ k) (hb : b.natAbs < 2 ^ k) (hn : n.natAbs < 2 ^ k) : Pt k r :=
  ⟨w.pos, Nat.lt_of_le_of_lt w.sa ha, Nat.lt_of_le_of_lt w.sb hb, Nat.lt_of_le_of_lt (by have := w.pos; have := w.le; omega) hn, w.one⟩
theorem low3_mk {a b n : Int} (h : 0 < n) : Low3 a b n ⟨a / (g3 a b n : Int), b / (g3 a b n : Int), n / (g3 a b n : Int)⟩ := by
  have hg : (0 : Int) < (g3 a b n : Int) := by have := g3_pos (a := a) (b := b) (n := n) (by omega); omega
  have h1 : (g3 a b n : Int) * (a / (g3 a b n : Int)) = a := Int.mul_ediv_cancel' g3_a
  have h2 : (g3 a b n : Int) * (b / (g3 a b n : Int)) = b := Int.mul_ediv_cancel' g3_b
  have h3 : (g3 a b n : Int) * (n / (g3 a b n : Int)) = n := Int.mul_ediv_cancel' g3_n
  have hp : 0 < n / (g3 a b n : Int) := by
    rcases Int.lt_trichotomy (n / (g3 a b n : Int)) 0 with z | z | z
    · have := Int.mul_neg_of_pos_of_neg hg z; omega
    · rw [z, Int.mul_zero] at h3; omega
    · exact z
  have h4 := g3_mul (g3 a b n : Int) (a / (g3 a b n : Int)) (b / (g3 a b n : Int)) (n / (g3 a b n : Int))
  rw [h1, h2, h3] at h4
  have h5 : g3 (a / (g3 a b n : Int)) (b / (g3 a b n : Int)) (n / (g3 a b n : Int)) = 1 := by
    have e : ((g3 a b n : Nat) : Int).natAbs = g3 a b n := Int.natAbs_natCast _
    rw [e] at h4
    exact Nat.eq_of_mul_eq_mul_left (show 0 < g3 a b n by omega) (by rw [Nat.mul_one]; exact h4.symm)
  refine ⟨hp, Int.ediv_le_self _ (by omega), Int.natAbs_ediv_le_natAbs _ _, Int.natAbs_ediv_le_natAbs _ _, ?_, ?_, h5⟩
  · show a / _ * n = a * (n / _)
    generalize hG : (g3 a b n : Int) = g at *
    generalize hx : a / g = x at *
    generalize hy : n / g = y at *
    rw [← h1, ← h3]; grind
  · show b / _ * n = b * (n / _)
    generalize hG : (g3 a b n : Int) = g at *
    generalize hx : b / g = x at *
    generalize hy : n / g = y at *
    rw [← h2, ← h3]; grind
theorem pt_same {p q : T3 Int Int Int} (h1 : 0 < p.c) (h2 : 0 < q.c) (g1 : g3 p.a p.b p.c = 1) (g2 : g3 q.a q.b q.c = 1) (ea : p.a * q.c = q.a * p.c) (eb : p.b * q.c = q.b * p.c) : p = q := by
  obtain ⟨a, b, c⟩ := p
  obtain ⟨x, y, z⟩ := q
  simp only at *
  have d1 : c ∣ z := g3_dvd g1 ⟨x, by rw [ea, Int.mul_comm]⟩ ⟨y, by rw [eb, Int.mul_comm]⟩ ⟨z, rfl⟩
  have d2 : z ∣ c := g3_dvd g2 ⟨a, by rw [← ea, Int.mul_comm]⟩ ⟨b, by rw [← eb, Int.mul_comm]⟩ ⟨c, rfl⟩
  have l1 := Int.le_of_dvd h2 d1
  have l2 := Int.le_of_dvd h1 d2
  have e : c = z := by omega
  subst e
  have e1 : a = x := Int.eq_of_mul_eq_mul_right (by omega) ea
  have e2 : b = y := Int.eq_of_mul_eq_mul_right (by omega) eb
  rw [e1, e2]
theorem Low3.is' {a b n : Int} {r q : T3 Int Int Int} (w : Low3 a b n r) (hn : 0 < n) (h : 0 < q.c) (g : g3 q.a q.b q.c = 1) (ea : q.a * n = a * q.c) (eb : q.b * n = b * q.c) : r = q := by
  refine pt_same w.pos h w.one g ?_ ?_
  · have h1 := w.ea
    refine Int.eq_of_mul_eq_mul_right (show n ≠ 0 by omega) ?_
    grind
  · have h1 := w.eb
    refine Int.eq_of_mul_eq_mul_right (show n ≠ 0 by omega) ?_
    grind
theorem Low3.is {a b n : Int} {r q : T3 Int Int Int} {k : Nat} (w : Low3 a b n r) (hn : 0 < n) (h : Pt k q) (ea : q.a * n = a * q.c) (eb : q.b * n = b * q.c) : r = q := w.is' hn h.pos h.one ea eb
theorem Low3.both {a b n : Int} {r q : T3 Int Int Int} (w : Low3 a b n r) (v : Low3 a b n q) (hn : 0 < n) : r = q := w.is' hn v.pos v.one v.ea v.eb
/-! ### plain: lists by place -/
theorem foldO_at {α τ : Type} {f : α → τ → Option τ} (I : Nat → τ → Prop) : ∀ {xs : List α} {s : τ} (k : Nat), (∀ j x s, xs[j]? = some x → I (k + j) s → ∃ s', f x s = some s' ∧ I (k + j + 1) s') → I k s → ∃ s', foldO f xs s = some s' ∧ I (k + xs.length) s'
  | [], s, k, _, h => ⟨s, rfl, h⟩
  | x :: xs, s, k, hf, h => by
    obtain ⟨s1, e1, h1⟩ := hf 0 x s rfl h
    obtain ⟨s2, e2, h2⟩ := foldO_at I (xs := xs) (s := s1) (k + 1) (fun j y s hy hi => by
      have := hf (j + 1) y s (by simpa using hy) (by rw [show k + (j + 1) = k + 1 + j by omega]; exact hi)
      rwa [show k + (j + 1) + 1 = k + 1 + j + 1 by omega] at this) (by simpa using h1)
    refine ⟨s2, ?_, by rw [List.length_cons, show k + (xs.length + 1) = k + 1 + xs.length by omega]; exact h2⟩
    show (f x s).bind _ = _
    rw [e1]; exact e2
theorem rangeL_len (lo : Int) (n : Nat) : (rangeL lo n).length = n := by unfold rangeL; rw [List.length_map, List.length_range]
theorem rangeL_at {lo : Int} {n j : Nat} {x : Int} (h : (rangeL lo n)[j]? = some x) : x = lo + (j : Int) ∧ j < n := by
  have hl : j < n := by
    have := (List.getElem?_eq_some_iff.mp h).1
    rwa [rangeL_len] at this
  rw [rangeL_get hl] at h
  exact ⟨(Option.some.inj h).symm, hl⟩
theorem foldO_range {τ : Type} {f : Int → τ → Option τ} {lo : Int} {n : Nat} {s : τ} (I : Nat → τ → Prop) (hf : ∀ j s, j < n → I j s → ∃ s', f (lo + (j : Int)) s = some s' ∧ I (j + 1) s') (h : I 0 s) : ∃ s', foldO f (rangeL lo n) s = some s' ∧ I n s' := by
  obtain ⟨s', e, h'⟩ := foldO_at I (xs := rangeL lo n) (s := s) (f := f) 0 (fun j x s hx hi => by
    obtain ⟨e, hl⟩ := rangeL_at hx
    subst e
    rw [Nat.zero_add] at hi ⊢
    exact hf j s hl hi) h
  rw [Nat.zero_add, rangeL_len] at h'
  exact ⟨s', e, h'⟩
theorem ix_neg {α : Type} {xs : List α} {k : Nat} (h : k < xs.length) : ix xs (-1 - (k : Int)) = some (xs[xs.length - 1 - k]'(by omega)) := by
  unfold ix atI ixN
  rw [if_neg (by omega), if_pos (by omega)]
  simp only [Option.bind_some]
  rw [show (-1 - (k : Int) + (xs.length : Int)).toNat = xs.length - 1 - k by omega]
  exact List.getElem?_eq_getElem _
theorem slice_from {α : Type} {xs : List α} {k : Nat} (h : k ≤ xs.length) : slice xs (some (k : Int)) none = xs.drop k := by
  unfold slice
  rw [HT.sIx_nat, HT.sIx_none, Nat.min_eq_left h]
  exact List.take_of_length_le (by rw [List.length_drop]; omega)
theorem slice_to {α : Type} {xs : List α} {k : Nat} (h : k ≤ xs.length) : slice xs none (some (k : Int)) = xs.take k := by
  unfold slice
  rw [HT.sIx_nat, HT.sIx_none, Nat.min_eq_left h]
  rfl
theorem mapO_all {α β : Type} {f : α → Option β} {g : α → β} : ∀ {xs : List α}, (∀ x ∈ xs, f x = some (g x)) → mapO f xs = some (xs.map g)
  | [], _ => rfl
  | x :: xs, h => by
    show (f x).bind _ = _
    rw [h x List.mem_cons_self]
    simp only [Option.bind_some]
    rw [mapO_all fun y hy => h y (List.mem_cons_of_mem _ hy)]
    rfl
/-! ### plain: closed ways -/
section
variable {α : Type}
def ps (f : α → α → Int) : α → List α → Int
  | _, [] => 0
  | a, x :: xs => f a x + ps f x xs
theorem ps_append (f : α → α → Int) : ∀ (a : α) (xs ys : List α) (b : α), xs.getLast? = some b → ps f a (xs ++ ys) = ps f a xs + ps f b ys
  | a, [], ys, b, h => by cases h
  | a, [x], ys, b, h => by cases h; simp [ps]
  | a, x :: y :: xs, ys, b, h => by
    have := ps_append f x (y :: xs) ys b (by simpa using h)
    show f a x + ps f x (y :: xs ++ ys) = f a x + ps f x (y :: xs) + ps f b ys
    rw [this]; omega
/-- once round -/
def cy (f : α → α → Int) (xs : List α) : Int := match xs.getLast? with
  | some l => ps f l xs
  | none => 0
theorem cy_rot (f : α → α → Int) (xs ys : List α) : cy f (xs ++ ys) = cy f (ys ++ xs) := by
  cases hx : xs.getLast? with
  | none => rw [List.getLast?_eq_none_iff] at hx; subst hx; simp
  | some a =>
    cases hy : ys.getLast? with
    | none => rw [List.getLast?_eq_none_iff] at hy; subst hy; simp
    | some b =>
      have e1 : (xs ++ ys).getLast? = some b := by rw [List.getLast?_append, hy]; rfl
      have e2 : (ys ++ xs).getLast? = some a := by rw [List.getLast?_append, hx]; rfl
      unfold cy
      rw [e1, e2]
      show ps f b (xs ++ ys) = ps f a (ys ++ xs)
      rw [ps_append f b xs ys a hx, ps_append f a ys xs b hy]; omega
theorem ps_one (f : α → α → Int) : ∀ (a : α) (xs : List α) (b c : α), (a :: xs).getLast? = some c → ps f a (xs ++ [b]) = ps f a xs + f c b
  | a, [], b, c, h => by cases h; simp [ps]
  | a, x :: xs, b, c, h => by
    have := ps_one f x xs b c (by simpa using h)
    show f a x + ps f x (xs ++ [b]) = f a x + ps f x xs + f c b
    rw [this]; omega
theorem ps_rev (f : α → α → Int) (hf : ∀ a b, f b a = -f a b) : ∀ (xs : List α) (a b : α), ps f b (xs.reverse ++ [a]) = -ps f a (xs ++ [b])
  | [], a, b => by simp [ps, hf a b]
  | x :: xs, a, b => by
    have ih := ps_rev f hf xs x b
    rw [List.reverse_cons]
    have e : ((b :: (xs.reverse ++ [x])).getLast?) = some x := by simp [List.getLast?_cons]
    rw [ps_one f b (xs.reverse ++ [x]) a x e, ih]
    show -ps f x (xs ++ [b]) + f x a = -(f a x + ps f x (xs ++ [b]))
    rw [hf a x]; omega
theorem cy_rev (f : α → α → Int) (hf : ∀ a b, f b a = -f a b) (xs : List α) : cy f xs.reverse = -cy f xs := by
  cases xs with
  | nil => rfl
  | cons x t =>
    obtain ⟨l, hl⟩ : ∃ l, (x :: t).getLast? = some l := by cases h : (x :: t).getLast? with
      | none => rw [List.getLast?_eq_none_iff] at h; cases h
      | some l => exact ⟨l, rfl⟩
    have e1 : (x :: t).reverse.getLast? = some x := by simp
    unfold cy
    rw [hl, e1]
    show ps f x (x :: t).reverse = -ps f l (x :: t)
    rw [List.reverse_cons, ps_rev f hf t x x, ps_one f x t x l hl]
    show -(ps f x t + f l x) = -(f l x + ps f x t)
    omega
end
abbrev P3 : Type := T3 Int Int Int
def prev (xs : List P3) (j : Nat) : P3 := xs.getD (if j = 0 then xs.length - 1 else j - 1) ⟨0, 0, 0⟩
theorem ix_prev {xs : List P3} {j : Nat} (h : j < xs.length) : ix xs ((j : Int) - 1) = some (prev xs j) := by
  unfold prev
  by_cases z : j = 0
  · subst z
    have := ix_neg (xs := xs) (k := 0) h
    rw [show (-1 : Int) - ((0 : Nat) : Int) = ((0 : Nat) : Int) - 1 by omega] at this
    rw [this, if_pos rfl, List.getD_eq_getElem?_getD, List.getElem?_eq_getElem (by omega)]
    rfl
  · have h2 : j - 1 < xs.length := by omega
    have := ix_lt h2
    rw [show ((j - 1 : Nat) : Int) = (j : Int) - 1 by omega] at this
    rw [this, if_neg z, List.getD_eq_getElem?_getD, List.getElem?_eq_getElem h2]
    rfl
theorem prev_mem {xs : List P3} {j : Nat} (h : j < xs.length) : prev xs j ∈ xs := by
  unfold prev
  rw [List.getD_eq_getElem?_getD]
  have hl : (if j = 0 then xs.length - 1 else j - 1) < xs.length := by split <;> omega
  rw [List.getElem?_eq_getElem hl]
  exact List.getElem_mem hl
/-- the sum so far -/
def St (f : P3 → P3 → Int) (xs : List P3) : Nat → Int
  | 0 => 0
  | k + 1 => St f xs k + f (prev xs k) (xs.getD k ⟨0, 0, 0⟩)
theorem st_ps (f : P3 → P3 → Int) (xs : List P3) : ∀ k, k < xs.length → St f xs k + ps f (prev xs k) (xs.drop k) = ps f (prev xs 0) xs
  | 0, h => by simp [St]
  | k + 1, h => by
    have ih := st_ps f xs k (by omega)
    rw [List.drop_eq_getElem_cons (show k < xs.length by omega)] at ih
    show St f xs k + f (prev xs k) (xs.getD k ⟨0, 0, 0⟩) + ps f (prev xs (k + 1)) (xs.drop (k + 1)) = _
    have e : xs.getD k ⟨0, 0, 0⟩ = xs[k] := by rw [List.getD_eq_getElem?_getD, List.getElem?_eq_getElem (by omega)]; rfl
    have e2 : prev xs (k + 1) = xs[k] := by
      unfold prev
      rw [if_neg (by omega), Nat.add_sub_cancel]; exact e
    rw [e2, e]
    have ih' : St f xs k + (f (prev xs k) xs[k] + ps f xs[k] (xs.drop (k + 1))) = ps f (prev xs 0) xs := ih
    omega
theorem st_cy (f : P3 → P3 → Int) (xs : List P3) (h : 0 < xs.length) : St f xs xs.length = cy f xs := by
  obtain ⟨n, hn⟩ : ∃ n, xs.length = n + 1 := ⟨xs.length - 1, by omega⟩
  have e0 : xs.getLast? = some (prev xs 0) := by
    unfold prev
    rw [List.getLast?_eq_getElem?, if_pos rfl, List.getD_eq_getElem?_getD, List.getElem?_eq_getElem (by omega)]
    rfl
  have := st_ps f xs n (by omega)
  unfold cy
  rw [e0]
  show _ = ps f (prev xs 0) xs
  rw [← this, hn, List.drop_eq_getElem_cons (show n < xs.length by omega), List.drop_eq_nil_of_le (by omega)]
  show St f xs n + f (prev xs n) (xs.getD n ⟨0, 0, 0⟩) = St f xs n + (f (prev xs n) xs[n] + 0)
  rw [List.getD_eq_getElem?_getD, List.getElem?_eq_getElem (by omega)]
  simp
/-- the bottoms of all -/
def PB : List P3 → Int
  | [] => 1
  | p :: xs => p.c * PB xs
theorem pb_append : ∀ (xs ys : List P3), PB (xs ++ ys) = PB xs * PB ys
  | [], ys => by simp [PB]
  | x :: xs, ys => by show x.c * PB (xs ++ ys) = x.c * PB xs * PB ys; rw [pb_append xs ys, Int.mul_assoc]
theorem pb_dvd : ∀ {xs : List P3} {p : P3}, p ∈ xs → p.c ∣ PB xs
  | x :: xs, p, h => by
    rcases List.mem_cons.mp h with e | e
    · subst e; exact Int.dvd_mul_right _ _
    · exact Int.dvd_trans (pb_dvd e) (Int.dvd_mul_left _ _)
theorem pb_pos : ∀ {xs : List P3}, (∀ p ∈ xs, 0 < p.c) → 0 < PB xs
  | [], _ => by decide
  | x :: xs, h => Int.mul_pos (h x List.mem_cons_self) (pb_pos fun p hp => h p (List.mem_cons_of_mem _ hp))
/-- twice the triangle with (0, 0), over P * P -/
def cr (P : Int) (p q : P3) : Int := (p.a * q.b - q.a * p.b) * ((P / p.c) * (P / q.c))
theorem cr_neg (P : Int) (p q : P3) : cr P q p = -cr P p q := by unfold cr; grind
theorem cr_eq {P : Int} {p q : P3} (hp : p.c ∣ P) (hq : q.c ∣ P) : cr P p q * (p.c * q.c) = (p.a * q.b - q.a * p.b) * (P * P) := by
  unfold cr
  have h1 := Int.ediv_mul_cancel hp
  have h2 := Int.ediv_mul_cancel hq
  generalize P / p.c = u at *
  generalize P / q.c = v at *
  grind
/-! ### plain: the sides of a closed way -/
section
variable {α β : Type}
def sdf : α → List α → List (T2 α α)
  | _, [] => []
  | a, x :: xs => ⟨a, x⟩ :: sdf x xs
def sd (xs : List α) : List (T2 α α) := match xs.getLast? with
  | some l => sdf l xs
  | none => []
theorem sdf_len : ∀ (a : α) (xs : List α), (sdf a xs).length = xs.length
  | _, [] => rfl
  | a, x :: xs => by show (sdf x xs).length + 1 = _; rw [sdf_len]; rfl
theorem sd_len (xs : List α) : (sd xs).length = xs.length := by
  unfold sd
  cases h : xs.getLast? with
  | none => rw [List.getLast?_eq_none_iff] at h; subst h; rfl
  | some l => exact sdf_len l xs
theorem sdf_at : ∀ {xs : List α} {a : α} {j : Nat} {q : α}, xs[j]? = some q → (sdf a xs)[j]? = some ⟨(a :: xs)[j]?.getD q, q⟩
  | [], _, _, _, h => by simp at h
  | x :: xs, a, 0, q, h => by simp at h; subst h; rfl
  | x :: xs, a, j + 1, q, h => by
    have := sdf_at (xs := xs) (a := x) (j := j) (q := q) (by simpa using h)
    show (sdf x xs)[j]? = _
    rw [this]
    rfl
/-- side j: the item ahead, item j -/
theorem sd_at {xs : List α} {j : Nat} (h : j < xs.length) : ∃ p q, (sd xs)[j]? = some ⟨p, q⟩ ∧ ix xs ((j : Int) - 1) = some p ∧ ix xs (j : Int) = some q ∧ p ∈ xs ∧ q ∈ xs := by
  obtain ⟨l, hl⟩ : ∃ l, xs.getLast? = some l := by
    cases h2 : xs.getLast? with
    | none => rw [List.getLast?_eq_none_iff] at h2; subst h2; simp at h
    | some l => exact ⟨l, rfl⟩
  have hq : xs[j]? = some xs[j] := List.getElem?_eq_getElem h
  have e := sdf_at (a := l) hq
  have es : sd xs = sdf l xs := by unfold sd; rw [hl]
  rw [es]
  by_cases z : j = 0
  · subst z
    refine ⟨l, xs[0], e, ?_, ix_lt h, List.mem_of_getLast? hl, List.getElem_mem h⟩
    have := ix_neg (xs := xs) (k := 0) h
    rw [show (-1 : Int) - ((0 : Nat) : Int) = ((0 : Nat) : Int) - 1 by omega] at this
    rw [this]
    rw [List.getLast?_eq_getElem?] at hl
    rw [← hl, List.getElem?_eq_getElem (by omega)]
    simp
  · have h2 : j - 1 < xs.length := by omega
    have e1 : (l :: xs)[j]?.getD xs[j] = xs[j - 1] := by
      obtain ⟨i, rfl⟩ : ∃ i, j = i + 1 := ⟨j - 1, by omega⟩
      show xs[i]?.getD _ = _
      rw [List.getElem?_eq_getElem (by omega)]
      rfl
    rw [e1] at e
    refine ⟨xs[j - 1], xs[j], e, ?_, ix_lt h, List.getElem_mem h2, List.getElem_mem h⟩
    have := ix_lt h2
    rw [show ((j - 1 : Nat) : Int) = (j : Int) - 1 by omega] at this
    exact this
theorem sd_mem {xs : List α} {p q : α} (h : ⟨p, q⟩ ∈ sd xs) : p ∈ xs ∧ q ∈ xs := by
  obtain ⟨j, hj⟩ := List.getElem?_of_mem h
  have hl := (List.getElem?_eq_some_iff.mp hj).1
  rw [sd_len] at hl
  obtain ⟨p', q', e, _, _, h1, h2⟩ := sd_at hl
  rw [hj] at e
  cases e
  exact ⟨h1, h2⟩
theorem sdf_map (f : α → β) : ∀ (a : α) (xs : List α), sdf (f a) (xs.map f) = (sdf a xs).map fun s => ⟨f s.a, f s.b⟩
  | _, [] => rfl
  | a, x :: xs => by show _ :: sdf (f x) (xs.map f) = _; rw [sdf_map f x xs]; rfl
theorem sd_map (f : α → β) (xs : List α) : sd (xs.map f) = (sd xs).map fun s => ⟨f s.a, f s.b⟩ := by
  unfold sd
  rw [List.getLast?_map]
  cases xs.getLast? with
  | none => rfl
  | some l => exact sdf_map f l xs
theorem ps_sum (f : α → α → Int) : ∀ (a : α) (xs : List α), ps f a xs = ((sdf a xs).map fun s => f s.a s.b).sum
  | _, [] => rfl
  | a, x :: xs => by show f a x + ps f x xs = _; rw [ps_sum f x xs]; rfl
theorem cy_sum (f : α → α → Int) (xs : List α) : cy f xs = ((sd xs).map fun s => f s.a s.b).sum := by
  unfold cy sd
  cases xs.getLast? with
  | none => rfl
  | some l => exact ps_sum f l xs
theorem cy_map (f : β → β → Int) (h : α → β) (xs : List α) : cy f (xs.map h) = cy (fun a b => f (h a) (h b)) xs := by
  rw [cy_sum, cy_sum, sd_map, List.map_map]
  rfl
theorem ps_tel (φ : α → Int) : ∀ (a : α) (xs : List α) (l : α), (a :: xs).getLast? = some l → ps (fun p q => φ q - φ p) a xs = φ l - φ a
  | a, [], l, h => by cases h; simp [ps]
  | a, x :: xs, l, h => by
    have := ps_tel φ x xs l (by simpa using h)
    show φ x - φ a + ps _ x xs = _
    rw [this]; omega
theorem cy_tel (φ : α → Int) (xs : List α) : cy (fun p q => φ q - φ p) xs = 0 := by
  unfold cy
  cases h : xs.getLast? with
  | none => rfl
  | some l =>
    show ps _ l xs = 0
    rw [ps_tel φ l xs l (by rw [List.getLast?_cons, h]; rfl)]; omega
theorem cy_congr {f g : α → α → Int} {xs : List α} (h : ∀ p ∈ xs, ∀ q ∈ xs, f p q = g p q) : cy f xs = cy g xs := by
  rw [cy_sum, cy_sum]
  congr 1
  refine List.map_congr_left fun s hs => ?_
  obtain ⟨p, q⟩ := s
  exact h p (sd_mem hs).1 q (sd_mem hs).2
theorem cy_add (f g : α → α → Int) (xs : List α) : cy (fun p q => f p q + g p q) xs = cy f xs + cy g xs := by
  rw [cy_sum, cy_sum, cy_sum]
  induction sd xs with
  | nil => rfl
  | cons s l ih => rw [List.map_cons, List.map_cons, List.map_cons, List.sum_cons, List.sum_cons, List.sum_cons, ih]; omega
theorem cy_mul (k : Int) (f : α → α → Int) (xs : List α) : cy (fun p q => k * f p q) xs = k * cy f xs := by
  rw [cy_sum, cy_sum]
  induction sd xs with
  | nil => simp
  | cons s l ih => rw [List.map_cons, List.map_cons, List.sum_cons, List.sum_cons, ih, Int.mul_add]
theorem cy_le {f : α → α → Int} {xs : List α} {B : Nat} (h : ∀ p ∈ xs, ∀ q ∈ xs, (f p q).natAbs ≤ B) : (cy f xs).natAbs ≤ xs.length * B := by
  rw [cy_sum, ← sd_len xs]
  have : ∀ s ∈ sd xs, (f s.a s.b).natAbs ≤ B := fun s hs => h _ (sd_mem hs).1 _ (sd_mem hs).2
  revert this
  induction sd xs with
  | nil => intro _; simp
  | cons s l ih =>
    intro this
    have h1 := this s List.mem_cons_self
    have h2 := ih fun t ht => this t (List.mem_cons_of_mem _ ht)
    rw [List.map_cons, List.sum_cons, List.length_cons, Nat.succ_mul]
    omega
end
/-! ### loops with a state -/
theorem mapS_inv {α β τ : Type} {f : α → τ → Option (β × τ)} (I : τ → Prop) (P : α → β → Prop) : ∀ {xs : List α} {s : τ}, (∀ x s, x ∈ xs → I s → ∃ y s', f x s = some (y, s') ∧ I s' ∧ P x y) → I s → ∃ ys s', mapS f xs s = some (ys, s') ∧ I s' ∧ ys.length = xs.length ∧ ∀ y ∈ ys, ∃ x ∈ xs, P x y
  | [], s, _, h => ⟨[], s, rfl, h, rfl, fun _ h => nomatch h⟩
  | x :: xs, s, hf, h => by
    obtain ⟨y, s1, e1, h1, p1⟩ := hf x s List.mem_cons_self h
    obtain ⟨ys, s2, e2, h2, l2, p2⟩ := mapS_inv I P (xs := xs) (fun x s hx => hf x s (List.mem_cons_of_mem _ hx)) h1
    refine ⟨y :: ys, s2, ?_, h2, by rw [List.length_cons, List.length_cons, l2], fun z hz => ?_⟩
    · show (f x s).bind _ = _
      rw [e1]
      show (mapS f xs s1).bind _ = _
      rw [e2]; rfl
    · rcases List.mem_cons.mp hz with e | hz
      · subst e; exact ⟨x, List.mem_cons_self, p1⟩
      · obtain ⟨w, hw, p⟩ := p2 z hz
        exact ⟨w, List.mem_cons_of_mem _ hw, p⟩
theorem compL_inv {α β τ : Type} {f : α → τ → Option (Option β × τ)} (I : τ → Prop) (P : α → β → Prop) : ∀ {xs : List α} {s : τ}, (∀ x s, x ∈ xs → I s → ∃ y s', f x s = some (y, s') ∧ I s' ∧ ∀ z, y = some z → P x z) → I s → ∃ ys s', compL f xs s = some (ys, s') ∧ I s' ∧ ys.length ≤ xs.length ∧ ∀ y ∈ ys, ∃ x ∈ xs, P x y
  | [], s, _, h => ⟨[], s, rfl, h, Nat.le_refl _, fun _ h => nomatch h⟩
  | x :: xs, s, hf, h => by
    obtain ⟨y, s1, e1, h1, p1⟩ := hf x s List.mem_cons_self h
    obtain ⟨ys, s2, e2, h2, l2, p2⟩ := compL_inv I P (xs := xs) (fun x s hx => hf x s (List.mem_cons_of_mem _ hx)) h1
    have e3 : ∀ y', y' = y → compL f (x :: xs) s = some ((match y' with | some z => z :: ys | none => ys), s2) := by
      intro y' ey
      subst ey
      show (f x s).bind _ = _
      rw [e1]
      show (compL f xs s1).bind _ = _
      rw [e2]; rfl
    have e3 := e3 y rfl
    cases y with
    | none => exact ⟨ys, s2, e3, h2, by rw [List.length_cons]; omega, fun z hz => by
        obtain ⟨w, hw, p⟩ := p2 z hz
        exact ⟨w, List.mem_cons_of_mem _ hw, p⟩⟩
    | some y => exact ⟨y :: ys, s2, e3, h2, by rw [List.length_cons, List.length_cons]; omega, fun z hz => by
        rcases List.mem_cons.mp hz with e | hz
        · subst e; exact ⟨x, List.mem_cons_self, p1 _ rfl⟩
        · obtain ⟨w, hw, p⟩ := p2 z hz
          exact ⟨w, List.mem_cons_of_mem _ hw, p⟩⟩
theorem slice_sub {α : Type} {xs : List α} {lo hi : Option Int} {x : α} (h : x ∈ slice xs lo hi) : x ∈ xs := by
  unfold slice at h
  exact List.mem_of_mem_drop (List.mem_of_mem_take h)
theorem rngOk_ok {n : Int} (h1 : -1000000 ≤ n) (h2 : n ≤ 1000000) : rngOk n = some () := by unfold rngOk; rw [if_pos (by omega)]
theorem rangeL_mem {lo : Int} {n : Nat} {x : Int} (h : x ∈ rangeL lo n) : lo ≤ x ∧ x < lo + (n : Int) := by
  obtain ⟨j, hj⟩ := List.getElem?_of_mem h
  obtain ⟨e, l⟩ := rangeL_at hj
  omega
/-- a loop that tells whether all turns pass -/
theorem loopL_all {α ρ : Type} {f : α → Unit → Option (Lp Unit ρ)} {r : ρ} (P : α → Prop) : ∀ {xs : List α}, (∀ x ∈ xs, (P x ∧ f x () = some (.nxt ())) ∨ (¬ P x ∧ f x () = some (.ret r))) → ((∀ x ∈ xs, P x) ∧ loopL f xs () = some (.nxt ())) ∨ ((∃ x ∈ xs, ¬ P x) ∧ loopL f xs () = some (.ret r))
  | [], _ => .inl ⟨fun _ h => (nomatch h), rfl⟩
  | x :: xs, h => by
    rcases h x List.mem_cons_self with ⟨p, e⟩ | ⟨p, e⟩
    · rcases loopL_all P (xs := xs) fun y hy => h y (List.mem_cons_of_mem _ hy) with ⟨q, e2⟩ | ⟨⟨y, hy, q⟩, e2⟩
      · refine .inl ⟨fun y hy => ?_, ?_⟩
        · rcases List.mem_cons.mp hy with z | hy
          · subst z; exact p
          · exact q y hy
        · show (f x ()).bind _ = _
          rw [e]; exact e2
      · refine .inr ⟨⟨y, List.mem_cons_of_mem _ hy, q⟩, ?_⟩
        show (f x ()).bind _ = _
        rw [e]; exact e2
    · refine .inr ⟨⟨x, List.mem_cons_self, p⟩, ?_⟩
      show (f x ()).bind _ = _
      rw [e]; rfl
/-! ### plain: places in the plane, over one bottom -/
abbrev P2 : Type := T2 Int Int
def cr2 (p q : P2) : Int := p.a * q.b - q.a * p.b
def crs3 (o p q : P2) : Int := (p.a - o.a) * (q.b - o.b) - (p.b - o.b) * (q.a - o.a)
def hd (n : Int) (p : P2) : P3 := ⟨p.a / (g3 p.a p.b n : Int), p.b / (g3 p.a p.b n : Int), n / (g3 p.a p.b n : Int)⟩
theorem hd_low {n : Int} (hn : 0 < n) (p : P2) : Low3 p.a p.b n (hd n p) := low3_mk hn
theorem filO_all {α : Type} {f : α → Option (Option α)} {c : α → Bool} : ∀ {xs : List α}, (∀ x ∈ xs, f x = some (if c x = true then some x else none)) → filO f xs = some (xs.filter c)
  | [], _ => rfl
  | x :: xs, h => by
    show (f x).bind _ = _
    rw [h x List.mem_cons_self, Option.bind_some, filO_all fun y hy => h y (List.mem_cons_of_mem _ hy), Option.bind_some, List.filter_cons]
    cases c x <;> rfl
theorem ix_map {α β : Type} (f : α → β) (xs : List α) (i : Int) : ix (xs.map f) i = (ix xs i).map f := by
  unfold ix atI
  rw [List.length_map]
  cases ixN xs.length i with
  | none => rfl
  | some j => exact List.getElem?_map
/-! ### plain: points over one bottom -/
/-- r is u over P -/
structure Ov (P : Int) (r : P3) (u : P2) : Prop where
  pos : 0 < r.c
  ea : r.a * P = u.a * r.c
  eb : r.b * P = u.b * r.c
  one : g3 r.a r.b r.c = 1
theorem Ov.dvd {P : Int} {r : P3} {u : P2} (h : Ov P r u) : r.c ∣ P := g3_dvd h.one ⟨u.a, by rw [h.ea, Int.mul_comm]⟩ ⟨u.b, by rw [h.eb, Int.mul_comm]⟩ ⟨P, rfl⟩
theorem Ov.a {P : Int} {r : P3} {u : P2} (h : Ov P r u) : r.a * (P / r.c) = u.a := by
  obtain ⟨k, hk⟩ := h.dvd
  have hp := h.pos
  have e : P / r.c = k := by rw [hk, Int.mul_ediv_cancel_left _ (by omega)]
  rw [e]
  refine Int.eq_of_mul_eq_mul_right (show r.c ≠ 0 by omega) ?_
  rw [← h.ea, hk, Int.mul_assoc, Int.mul_comm k]
theorem Ov.b {P : Int} {r : P3} {u : P2} (h : Ov P r u) : r.b * (P / r.c) = u.b := by
  obtain ⟨k, hk⟩ := h.dvd
  have hp := h.pos
  have e : P / r.c = k := by rw [hk, Int.mul_ediv_cancel_left _ (by omega)]
  rw [e]
  refine Int.eq_of_mul_eq_mul_right (show r.c ≠ 0 by omega) ?_
  rw [← h.eb, hk, Int.mul_assoc, Int.mul_comm k]
theorem cr_ov {P : Int} {r s : P3} {u v : P2} (h : Ov P r u) (g : Ov P s v) : cr P r s = cr2 u v := by
  unfold cr cr2
  rw [← h.a, ← h.b, ← g.a, ← g.b]
  grind
theorem hd_ov {n : Int} (hn : 0 < n) (p : P2) : Ov n (hd n p) p := by
  have w := hd_low hn p
  exact ⟨w.pos, w.ea, w.eb, w.one⟩
theorem hd_pt {n : Int} (hn : 0 < n) {p : P2} {k : Nat} (ha : p.a.natAbs < 2 ^ k) (hb : p.b.natAbs < 2 ^ k) (h2 : n.natAbs < 2 ^ k) : Pt k (hd n p) := (hd_low hn p).pt ha hb h2
theorem low3_ov {a b c P A B : Int} {r : P3} (w : Low3 a b c r) (hc : c ≠ 0) (ea : a * P = A * c) (eb : b * P = B * c) : Ov P r ⟨A, B⟩ := by
  refine ⟨w.pos, Int.eq_of_mul_eq_mul_right hc ?_, Int.eq_of_mul_eq_mul_right hc ?_, w.one⟩
  · have := w.ea
    show r.a * P * c = A * r.c * c
    rw [Int.mul_right_comm, this, Int.mul_right_comm, ea]
    rw [Int.mul_right_comm]
  · have := w.eb
    show r.b * P * c = B * r.c * c
    rw [Int.mul_right_comm, this, Int.mul_right_comm, eb]
    rw [Int.mul_right_comm]
def det (p q r : T3 Int Int Int) : Int := (p.b * q.c - p.c * q.b) * r.a + (p.c * q.a - p.a * q.c) * r.b + (p.a * q.b - p.b * q.a) * r.c
def sg (n : Int) : Int := if n = 0 then 0 else if 0 < n then 1 else -1
theorem sg_neg (n : Int) : sg (-n) = -sg n := by unfold sg; (repeat' split) <;> omega
theorem sg_mul {k n : Int} (h : 0 < k) : sg (k * n) = sg n := by
  unfold sg
  rcases Int.lt_trichotomy n 0 with z | z | z
  · have := Int.mul_neg_of_pos_of_neg h z
    (repeat' split) <;> omega
  · subst z; simp
  · have := Int.mul_pos h z
    (repeat' split) <;> omega
theorem ov_k {P : Int} {r : P3} {u : P2} (h : Ov P r u) (hP : 0 < P) : ∃ k : Int, 0 < k ∧ k * r.c = P ∧ k * r.a = u.a ∧ k * r.b = u.b := by
  refine ⟨P / r.c, Int.ediv_pos_of_pos_of_dvd hP (Int.le_of_lt h.pos) h.dvd, Int.ediv_mul_cancel h.dvd, ?_, ?_⟩
  · rw [Int.mul_comm]; exact h.a
  · rw [Int.mul_comm]; exact h.b
theorem det_ov {P : Int} {p q r : P3} {u v w : P2} (hP : 0 < P) (hp : Ov P p u) (hq : Ov P q v) (hr : Ov P r w) : sg (det p q r) = sg (crs3 u v w) := by
  obtain ⟨k, k0, k1, k2, k3⟩ := ov_k hp hP
  obtain ⟨l, l0, l1, l2, l3⟩ := ov_k hq hP
  obtain ⟨m, m0, m1, m2, m3⟩ := ov_k hr hP
  have e : (k * l * m) * det p q r = P * crs3 u v w := by
    unfold det crs3
    have : (k * l * m) * ((p.b * q.c - p.c * q.b) * r.a + (p.c * q.a - p.a * q.c) * r.b + (p.a * q.b - p.b * q.a) * r.c) = ((k * p.b) * (l * q.c) - (k * p.c) * (l * q.b)) * (m * r.a) + ((k * p.c) * (l * q.a) - (k * p.a) * (l * q.c)) * (m * r.b) + ((k * p.a) * (l * q.b) - (k * p.b) * (l * q.a)) * (m * r.c) := by
      clear k1 k2 k3 l1 l2 l3 m1 m2 m3; grind
    rw [this, k1, k2, k3, l1, l2, l3, m1, m2, m3]
    clear this k1 k2 k3 l1 l2 l3 m1 m2 m3; grind
  rw [← sg_mul (n := det p q r) (Int.mul_pos (Int.mul_pos k0 l0) m0), e, sg_mul hP]
theorem divisor_ok (a b : Int) : m_greatest_divisor a b = some (Int.gcd a b : Int) := by
  unfold m_greatest_divisor
  simp only [Option.bind_some, iabs_eq]
  rw [gcd_loop _ _ _ (by omega) (by omega) (by omega)]
  simp only [Option.bind_some, Lp.out]
  congr 2
theorem divG_mul {u s : Int} (n : Nat) (h : s ≠ 0) (hb : s.natAbs < 2 ^ n) (hn : n < 9000) : divG (u * s) s = some u := by
  unfold divG
  rw [if_pos ⟨h, Nat.lt_of_le_of_lt (log2_le hb) hn⟩, Int.mul_fdiv_cancel _ h]
theorem pos_l {v s : Int} (hs : 0 < s) (h : 0 < v * s) : 0 < v := by
  rcases Int.lt_or_le 0 v with z | z
  · exact z
  · have := Int.mul_le_mul_of_nonneg_right z (Int.le_of_lt hs)
    rw [Int.zero_mul] at this; omega
/-! ### plain: points told in lowest terms, rings that bulge outward, areas of small rings -/
theorem ov_same {P : Int} {r s : P3} {u : P2} (hP : 0 < P) (h : Ov P r u) (g : Ov P s u) : r = s := by
  refine pt_same h.pos g.pos h.one g.one ?_ ?_
  · refine Int.eq_of_mul_eq_mul_right (show P ≠ 0 by omega) ?_
    have := h.ea
    have := g.ea
    grind
  · refine Int.eq_of_mul_eq_mul_right (show P ≠ 0 by omega) ?_
    have := h.eb
    have := g.eb
    grind
theorem hd_scale {k n a b : Int} (hk : 0 < k) (hn : 0 < n) : hd (k * n) ⟨k * a, k * b⟩ = hd n ⟨a, b⟩ := by
  have w := hd_low hn ⟨a, b⟩
  refine ov_same (Int.mul_pos hk hn) (hd_ov (Int.mul_pos hk hn) _) ⟨w.pos, ?_, ?_, w.one⟩
  · have := w.ea
    show (hd n ⟨a, b⟩).a * (k * n) = k * a * (hd n ⟨a, b⟩).c
    simp only at this
    grind
  · have := w.eb
    show (hd n ⟨a, b⟩).b * (k * n) = k * b * (hd n ⟨a, b⟩).c
    simp only at this
    grind
theorem g3_flat (a b n : Int) : ((Int.gcd (Int.gcd a b : Int) n : Nat) : Int) = (g3 a b n : Int) := by
  unfold g3
  show ((Nat.gcd (Nat.gcd a.natAbs b.natAbs) n.natAbs : Nat) : Int) = ((Nat.gcd (Nat.gcd a.natAbs n.natAbs) b.natAbs : Nat) : Int)
  rw [Nat.gcd_assoc, Nat.gcd_comm b.natAbs, ← Nat.gcd_assoc]
theorem lawpnt_ok {a b n : Int} (h : 0 < n) (hn : n.natAbs < 2 ^ 8000) : m__law_point a b n = some (hd n ⟨a, b⟩) := by
  unfold m__law_point
  have hg : (0 : Int) < (g3 a b n : Int) := by have := g3_pos (a := a) (b := b) (n := n) (by omega); omega
  have hl := g3_le (a := a) (b := b) h
  have hs : (g3 a b n : Int).natAbs < 2 ^ 8000 := Nat.lt_of_le_of_lt (by omega) hn
  rw [Option.bind_some]
  simp only [foldO]
  rw [gcd_loop _ _ _ (by rw [iabs_eq]; omega) (by rw [iabs_eq]; omega) (by omega)]
  simp only [Option.bind_some, Lp.out]
  rw [gcd_loop _ _ _ (by omega) (by omega) (by omega)]
  simp only [Option.bind_some, Lp.out]
  have e : ((Int.gcd (Int.gcd (iabs a) (iabs b) : Int) n : Nat) : Int) = (g3 a b n : Int) := by
    rw [iabs_eq, iabs_eq]; exact g3_flat a b n
  rw [e, divG_pos 8000 hg hs (by decide), divG_pos 8000 hg hs (by decide), divG_pos 8000 hg hs (by decide)]
  rfl
theorem hd_self {r : P3} (h : g3 r.a r.b r.c = 1) : hd r.c ⟨r.a, r.b⟩ = r := by
  unfold hd
  simp only [h]
  obtain ⟨a, b, c⟩ := r
  simp
theorem ispoint_ok {r : P3} {k : Nat} (h : Pt k r) (hk : k ≤ 3000) : m__law_is_point r = some true := by
  unfold m__law_is_point
  rw [if_neg (by decide)]
  simp only [loopL, Bool.not_true, Bool.or_false, Bool.false_eq_true, if_false, Option.bind_some, Lp.out]
  rw [if_pos (by simpa using h.pos), lawpnt_ok h.pos (pow_le h.sc (by omega)), Option.bind_some, Option.bind_some, hd_self h.one]
  simp
theorem sg_b2 (n : Int) : b2 (decide (0 < n)) - b2 (decide (n < 0)) = sg n := by
  unfold sg
  rcases Int.lt_trichotomy n 0 with z | z | z
  · rw [decide_eq_false (by omega), decide_eq_true z, if_neg (by omega), if_neg (by omega)]; rfl
  · subst z; rfl
  · rw [decide_eq_true z, decide_eq_false (by omega), if_neg (by omega), if_pos z]; rfl
theorem lawside_ok {p q r : P3} {n : Nat} (hp : Pt n p) (hq : Pt n q) (hr : Pt n r) (h : n ≤ 3000) : m__law_side p q r = some (sg (det p q r)) := by
  unfold m__law_side
  rw [mulG_ok _ _ hq.sb hr.sc (by omega), Option.bind_some, mulG_ok _ _ hq.sc hr.sb (by omega), Option.bind_some, mulG_ok _ _ hp.sa (sz_sub (sz_mul hq.sb hr.sc) (sz_mul hq.sc hr.sb)) (by omega), Option.bind_some]
  rw [mulG_ok _ _ hq.sa hr.sc (by omega), Option.bind_some, mulG_ok _ _ hq.sc hr.sa (by omega), Option.bind_some, mulG_ok _ _ hp.sb (sz_sub (sz_mul hq.sa hr.sc) (sz_mul hq.sc hr.sa)) (by omega), Option.bind_some, Option.bind_some]
  rw [mulG_ok _ _ hq.sa hr.sb (by omega), Option.bind_some, mulG_ok _ _ hq.sb hr.sa (by omega), Option.bind_some, mulG_ok _ _ hp.sc (sz_sub (sz_mul hq.sa hr.sb) (sz_mul hq.sb hr.sa)) (by omega), Option.bind_some, Option.bind_some, sg_b2]
  have : p.a * (q.b * r.c - q.c * r.b) - p.b * (q.a * r.c - q.c * r.a) + p.c * (q.a * r.b - q.b * r.a) = det p q r := by unfold det; grind
  rw [this]
/-- a ring over P -/
structure Rv (P : Int) (h : P2 → P3) (us : List P2) : Prop where
  ov : ∀ u ∈ us, Ov P (h u) u
  pt : ∀ u ∈ us, Pt 200 (h u)
theorem convex_ok {P : Int} (hP : 0 < P) {us : List P2} {h : P2 → P3} (v : Rv P h us) (h3 : 3 ≤ us.length) (hl : us.length ≤ 1000)
    (cv : ∀ k l j (a : k < us.length) (b : j < us.length) (c : l < us.length), (l = k + 1 ∨ (k + 1 = us.length ∧ l = 0)) → j ≠ k → j ≠ l → 0 < crs3 us[k] us[l] us[j]) : m__law_is_convex (us.map h) = some true := by
  unfold m__law_is_convex
  simp only [List.length_map]
  rw [if_neg (by simp; omega), lenOk_ok (by omega), Option.bind_some]
  rw [filO_all (c := fun _ => false) fun x hx => by
    obtain ⟨u, hu, e⟩ := List.mem_map.mp hx
    subst e
    rw [ispoint_ok (v.pt u hu) (by decide), Option.bind_some]; rfl]
  rw [Option.bind_some, if_neg (by simp), rngOk_ok (by omega) (by omega), Option.bind_some]
  refine loopL_bind (fun _ => True) ?_ trivial fun _ _ => rfl
  intro x _ hx _
  refine ⟨(), ?_, trivial⟩
  obtain ⟨a1, a2⟩ := rangeL_mem hx
  obtain ⟨k, rfl⟩ : ∃ k : Nat, x = (k : Int) := ⟨x.toNat, by omega⟩
  have hk : k < us.length := by omega
  rw [Option.bind_some]
  refine loopL_bind (fun _ => True) ?_ trivial fun _ _ => rfl
  intro y _ hy _
  refine ⟨(), ?_, trivial⟩
  obtain ⟨b1, b2⟩ := rangeL_mem hy
  obtain ⟨j, rfl⟩ : ∃ j : Nat, y = (j : Int) := ⟨y.toNat, by omega⟩
  have hj : j < us.length := by omega
  have em : ((k : Int) + 1) % (us.length : Int) = (((k + 1) % us.length : Nat) : Int) := by rw [Int.natCast_emod, Int.natCast_add]; rfl
  have hm : (k + 1) % us.length < us.length := Nat.mod_lt _ (by omega)
  rw [modG_pos (by omega : (0 : Int) < (us.length : Int)), Option.bind_some, em]
  by_cases z : j = k
  · rw [if_neg (by simp; omega), Option.bind_some, if_neg (by decide)]
  · rw [if_pos (by simp; omega), Option.bind_some]
    by_cases z2 : j = (k + 1) % us.length
    · rw [if_neg (by rw [Bool.not_eq_true', decide_eq_false_iff_not]; omega)]
    · rw [if_pos (by rw [Bool.not_eq_true', decide_eq_false_iff_not]; omega)]
      have i1 : ix (us.map h) (k : Int) = some (h us[k]) := by rw [ix_map, ix_lt hk]; rfl
      have i2 : ix (us.map h) (((k + 1) % us.length : Nat) : Int) = some (h us[(k + 1) % us.length]) := by rw [ix_map, ix_lt hm]; rfl
      have i3 : ix (us.map h) (j : Int) = some (h us[j]) := by rw [ix_map, ix_lt hj]; rfl
      rw [i1, Option.bind_some, Option.bind_some, i2, Option.bind_some, i3, Option.bind_some]
      have m1 := List.getElem_mem hk
      have m2 := List.getElem_mem hm
      have m3 := List.getElem_mem hj
      rw [lawside_ok (v.pt _ m1) (v.pt _ m2) (v.pt _ m3) (by decide), Option.bind_some, det_ov hP (v.ov _ m1) (v.ov _ m2) (v.ov _ m3)]
      have c := cv k ((k + 1) % us.length) j hk hj hm (by
        by_cases y : k + 1 < us.length
        · exact .inl (Nat.mod_eq_of_lt y)
        · have : k + 1 = us.length := by omega
          exact .inr ⟨this, by rw [this, Nat.mod_self]⟩) z z2
      have : sg (crs3 us[k] us[(k + 1) % us.length] us[j]) = 1 := by unfold sg; rw [if_neg (by omega), if_pos c]
      rw [this, if_neg (by decide)]
theorem rngOk_one {n : Nat} (h : n ≤ 1000) : rngOk (n : Int) = some () := rngOk_ok (by omega) (by omega)
/-! ### plain: rings that bulge outward, over 30 -/
def CvP (us : List P2) : Prop := ∀ k l j (a : k < us.length) (b : j < us.length) (c : l < us.length), (l = k + 1 ∨ (k + 1 = us.length ∧ l = 0)) → j ≠ k → j ≠ l → 0 < crs3 us[k] us[l] us[j]
theorem convex_iff {P : Int} (hP : 0 < P) {us : List P2} {h : P2 → P3} (v : Rv P h us) (h3 : 3 ≤ us.length) (hl : us.length ≤ 1000) : (CvP us ∧ m__law_is_convex (us.map h) = some true) ∨ (¬ CvP us ∧ m__law_is_convex (us.map h) = some false) := by
  by_cases z : CvP us
  · exact .inl ⟨z, convex_ok hP v h3 hl z⟩
  · refine .inr ⟨z, ?_⟩
    unfold m__law_is_convex
    simp only [List.length_map]
    rw [if_neg (by simp; omega), lenOk_ok (by omega), Option.bind_some]
    rw [filO_all (c := fun _ => false) fun x hx => by
      obtain ⟨u, hu, e⟩ := List.mem_map.mp hx
      subst e
      rw [ispoint_ok (v.pt u hu) (by decide), Option.bind_some]; rfl]
    rw [Option.bind_some, if_neg (by simp), rngOk_ok (by omega) (by omega), Option.bind_some]
    rcases loopL_all (f := fun (x2 : Int) (s2 : Unit) =>
       ((some ()).bind fun _ =>
       (loopL (ρ := Bool) (fun (x3 : Int) (s4 : Unit) =>
       ((if (!decide (x3 = x2)) = true then
       ((modG ((x2 + 1)) ((us.length : Int))).bind fun z3 =>
       some ((!decide (x3 = z3))))
       else some false).bind fun b1 =>
       if b1 = true then
       ((ix (us.map h) x2).bind fun x4 =>
       (modG ((x2 + 1)) ((us.length : Int))).bind fun z4 =>
       (ix (us.map h) z4).bind fun x5 =>
       (ix (us.map h) x3).bind fun x6 =>
       (m__law_side x4 x5 x6).bind fun z5 =>
       if (!decide (z5 = 1)) = true then
       (some (.ret false))
       else
       (some (.nxt (()))))
       else
       (some (.nxt (()))))) (rangeL 0 ((us.length : Int)).toNat) (())).bind fun o => o.out (fun r => some (Lp.ret (τ := Unit) r)) fun (s5 : Unit) =>
       some (.nxt (())))) (r := false) (fun x => ∀ l j (a : x.toNat < us.length) (b : j < us.length) (c : l < us.length), (l = x.toNat + 1 ∨ (x.toNat + 1 = us.length ∧ l = 0)) → j ≠ x.toNat → j ≠ l → 0 < crs3 us[x.toNat] us[l] us[j]) (xs := rangeL 0 ((us.length : Int)).toNat) fun x hx => by
      obtain ⟨a1, a2⟩ := rangeL_mem hx
      obtain ⟨k, rfl⟩ : ∃ k : Nat, x = (k : Int) := ⟨x.toNat, by omega⟩
      have hk : k < us.length := by omega
      have em : ((k : Int) + 1) % (us.length : Int) = (((k + 1) % us.length : Nat) : Int) := by rw [Int.natCast_emod, Int.natCast_add]; rfl
      have hm : (k + 1) % us.length < us.length := Nat.mod_lt _ (by omega)
      have hn : (k + 1) % us.length = k + 1 ∨ (k + 1 = us.length ∧ (k + 1) % us.length = 0) := by
        by_cases y : k + 1 < us.length
        · exact .inl (Nat.mod_eq_of_lt y)
        · have : k + 1 = us.length := by omega
          exact .inr ⟨this, by rw [this, Nat.mod_self]⟩
      rw [Option.bind_some]
      rcases loopL_all (f := fun (x3 : Int) (s4 : Unit) =>
         ((if (!decide (x3 = (k : Int))) = true then
         ((modG (((k : Int) + 1)) ((us.length : Int))).bind fun z3 =>
         some ((!decide (x3 = z3))))
         else some false).bind fun b1 =>
         if b1 = true then
         ((ix (us.map h) (k : Int)).bind fun x4 =>
         (modG (((k : Int) + 1)) ((us.length : Int))).bind fun z4 =>
         (ix (us.map h) z4).bind fun x5 =>
         (ix (us.map h) x3).bind fun x6 =>
         (m__law_side x4 x5 x6).bind fun z5 =>
         if (!decide (z5 = 1)) = true then
         (some (Lp.ret (τ := Unit) (ρ := Bool) false))
         else
         (some (.nxt (()))))
         else
         (some (.nxt (()))))) (r := false) (fun y => ∀ (b : y.toNat < us.length), y.toNat ≠ k → y.toNat ≠ (k + 1) % us.length → 0 < crs3 us[k] us[(k + 1) % us.length] us[y.toNat]) (xs := rangeL 0 ((us.length : Int)).toNat) fun y hy => by
        obtain ⟨b1, b2⟩ := rangeL_mem hy
        obtain ⟨j, rfl⟩ : ∃ j : Nat, y = (j : Int) := ⟨y.toNat, by omega⟩
        have hj : j < us.length := by omega
        rw [modG_pos (by omega : (0 : Int) < (us.length : Int)), Option.bind_some, em]
        simp only [Int.toNat_natCast]
        by_cases z : j = k
        · refine .inl ⟨fun _ n => absurd z n, ?_⟩
          rw [if_neg (by simp; omega), Option.bind_some, if_neg (by decide)]
        · rw [if_pos (by simp; omega), Option.bind_some]
          by_cases z2 : j = (k + 1) % us.length
          · refine .inl ⟨fun _ _ n => absurd z2 n, ?_⟩
            rw [if_neg (by rw [Bool.not_eq_true', decide_eq_false_iff_not]; omega)]
          · rw [if_pos (by rw [Bool.not_eq_true', decide_eq_false_iff_not]; omega)]
            have i1 : ix (us.map h) (k : Int) = some (h us[k]) := by rw [ix_map, ix_lt hk]; rfl
            have i2 : ix (us.map h) (((k + 1) % us.length : Nat) : Int) = some (h us[(k + 1) % us.length]) := by rw [ix_map, ix_lt hm]; rfl
            have i3 : ix (us.map h) (j : Int) = some (h us[j]) := by rw [ix_map, ix_lt hj]; rfl
            have m1 := List.getElem_mem hk
            have m2 := List.getElem_mem hm
            have m3 := List.getElem_mem hj
            rw [i1, Option.bind_some, Option.bind_some, i2, Option.bind_some, i3, Option.bind_some, lawside_ok (v.pt _ m1) (v.pt _ m2) (v.pt _ m3) (by decide), Option.bind_some, det_ov hP (v.ov _ m1) (v.ov _ m2) (v.ov _ m3)]
            by_cases c : 0 < crs3 us[k] us[(k + 1) % us.length] us[j]
            · refine .inl ⟨fun _ _ _ => c, ?_⟩
              have : sg (crs3 us[k] us[(k + 1) % us.length] us[j]) = 1 := by unfold sg; rw [if_neg (by omega), if_pos c]
              rw [this, if_neg (by decide)]
            · refine .inr ⟨fun w => c (w hj z z2), ?_⟩
              have : sg (crs3 us[k] us[(k + 1) % us.length] us[j]) ≠ 1 := by unfold sg; (repeat' split) <;> omega
              rw [if_pos (by rw [decide_eq_false this]; rfl)] with ⟨q, e⟩ | ⟨⟨y, hy, q⟩, e⟩
      · refine .inl ⟨fun l j a b c n n1 n2 => ?_, (congrArg (fun o => Option.bind o _) e).trans rfl⟩
        simp only [Int.toNat_natCast] at *
        have el : l = (k + 1) % us.length := by
          rcases n with n | ⟨n, n'⟩
          · rcases hn with m | ⟨m, m'⟩ <;> omega
          · rcases hn with m | ⟨m, m'⟩ <;> omega
        subst el
        have mj : (j : Int) ∈ rangeL 0 us.length := by
          unfold rangeL
          exact List.mem_map.mpr ⟨j, List.mem_range.mpr b, by omega⟩
        have := q (j : Int) mj
        simp only [Int.toNat_natCast] at this
        exact this b n1 n2
      · refine .inr ⟨fun w => q fun b n1 n2 => ?_, (congrArg (fun o => Option.bind o _) e).trans rfl⟩
        simp only [Int.toNat_natCast] at w
        exact w _ _ hk b hm hn n1 n2 with ⟨q, e⟩ | ⟨_, e⟩
    · refine absurd (fun k l j a b c n n1 n2 => ?_) z
      have mk : (k : Int) ∈ rangeL 0 ((us.length : Int)).toNat := by
        unfold rangeL
        exact List.mem_map.mpr ⟨k, List.mem_range.mpr (by omega), by omega⟩
      have := q (k : Int) mk
      simp only [Int.toNat_natCast] at this
      exact this l j a b c n n1 n2
    · exact (congrArg (fun o => Option.bind o _) e).trans rfl
/-! ### plain: drawn sheets, over 30 -/
def h30 (u : P2) : P3 := hd 30 u
def Sz (B : Nat) (u : P2) : Prop := u.a.natAbs ≤ B ∧ u.b.natAbs ≤ B
theorem Sz.mono {B C : Nat} {u : P2} (h : Sz B u) (l : B ≤ C) : Sz C u := ⟨Nat.le_trans h.1 l, Nat.le_trans h.2 l⟩
theorem big_lt {x B : Nat} (h : x ≤ B) (hB : B ≤ 1000000) : x < 2 ^ 200 := Nat.lt_of_le_of_lt (Nat.le_trans h hB) (Nat.lt_of_lt_of_le (show 1000000 < 2 ^ 20 by decide) (Nat.pow_le_pow_right (by decide) (by decide)))
theorem h30_ov (u : P2) : Ov 30 (h30 u) u := hd_ov (by decide) u
theorem h30_pt {B : Nat} (hB : B ≤ 1000000) {u : P2} (h : Sz B u) : Pt 200 (h30 u) := (hd_low (by decide) u).pt (big_lt h.1 hB) (big_lt h.2 hB) (big_lt (B := 30) (by decide) (by decide))
theorem rv30 {B : Nat} (hB : B ≤ 1000000) {us : List P2} (h : ∀ u ∈ us, Sz B u) : Rv 30 h30 us := ⟨fun u _ => h30_ov u, fun u hu => h30_pt hB (h u hu)⟩
theorem place_ok {xs : List Int} (h : Bag xs) : ∃ u ys, m__law_place xs 6 = some (h30 u, ys) ∧ Bag ys ∧ Sz 180 u := by
  unfold m__law_place
  obtain ⟨r1, y1, e1, b1, l1, u1⟩ := digit_ok h (many := 5) (by decide) (by decide)
  obtain ⟨n, k, en, h1, h2, h3⟩ : ∃ n k : Int, ix [1, 1, 1, 2, 3] r1 = some n ∧ 0 < n ∧ 0 < k ∧ k * n = 30 := by
    obtain rfl | rfl | rfl | rfl | rfl : r1 = 0 ∨ r1 = 1 ∨ r1 = 2 ∨ r1 = 3 ∨ r1 = 4 := by omega
    · exact ⟨1, 30, rfl, by decide, by decide, by decide⟩
    · exact ⟨1, 30, rfl, by decide, by decide, by decide⟩
    · exact ⟨1, 30, rfl, by decide, by decide, by decide⟩
    · exact ⟨2, 15, rfl, by decide, by decide, by decide⟩
    · exact ⟨3, 10, rfl, by decide, by decide, by decide⟩
  have hn : n ≤ 30 := by
    have := Int.mul_le_mul_of_nonneg_right (a := 1) (b := k) (c := n) (by omega) (by omega)
    omega
  obtain ⟨r2, y2, e2, b2, l2, u2⟩ := digit_ok b1 (many := 6 * n + 1) (by omega) (by omega)
  obtain ⟨r3, y3, e3, b3, l3, u3⟩ := digit_ok b2 (many := 6 * n + 1) (by omega) (by omega)
  rw [e1, Option.bind_some]
  simp only
  rw [en, Option.bind_some, mulG_ok 10 10 (by decide) (by omega) (by decide), Option.bind_some, e2, Option.bind_some, Option.bind_some]
  simp only
  rw [e3, Option.bind_some]
  simp only
  rw [lawpnt_ok h1 (Nat.lt_of_lt_of_le (show n.natAbs < 2 ^ 5 by omega) (Nat.pow_le_pow_right (by decide) (by decide))), Option.bind_some]
  refine ⟨⟨k * r2, k * r3⟩, y3, ?_, b3, ?_⟩
  · have := hd_scale (k := k) (n := n) (a := r2) (b := r3) h2 h1
    rw [h3] at this
    show some (_, _) = some (hd 30 _, _)
    rw [this]
  · have a1 := Int.mul_le_mul_of_nonneg_left (c := k) (show r2 ≤ 6 * n by omega) (by omega)
    have a2 := Int.mul_le_mul_of_nonneg_left (c := k) (show r3 ≤ 6 * n by omega) (by omega)
    have a3 := Int.mul_nonneg (a := k) (b := r2) (by omega) l2
    have a4 := Int.mul_nonneg (a := k) (b := r3) (by omega) l3
    have e : k * (6 * n) = 180 := by rw [Int.mul_left_comm, h3]; rfl
    rw [e] at a1 a2
    exact ⟨show (k * r2).natAbs ≤ 180 by omega, show (k * r3).natAbs ≤ 180 by omega⟩
theorem step_ok {xs : List Int} (h : Bag xs) {m : Int} (hm : 0 < m) (hM : m ≤ 9) : ∃ u ys, m__law_step xs m = some (h30 u, ys) ∧ Bag ys ∧ Sz 270 u := by
  unfold m__law_step
  obtain ⟨r1, y1, e1, b1, l1, u1⟩ := digit_ok h (many := 4) (by decide) (by decide)
  obtain ⟨n, k, en, h1, h2, h3⟩ : ∃ n k : Int, ix [1, 1, 2, 5] r1 = some n ∧ 0 < n ∧ 0 < k ∧ k * n = 30 := by
    obtain rfl | rfl | rfl | rfl : r1 = 0 ∨ r1 = 1 ∨ r1 = 2 ∨ r1 = 3 := by omega
    · exact ⟨1, 30, rfl, by decide, by decide, by decide⟩
    · exact ⟨1, 30, rfl, by decide, by decide, by decide⟩
    · exact ⟨2, 15, rfl, by decide, by decide, by decide⟩
    · exact ⟨5, 6, rfl, by decide, by decide, by decide⟩
  have hn : n ≤ 30 := by
    have := Int.mul_le_mul_of_nonneg_right (a := 1) (b := k) (c := n) (by omega) (by omega)
    omega
  have hk : k ≤ 30 := by
    have := Int.mul_le_mul_of_nonneg_left (a := 1) (b := n) (c := k) (by omega) (by omega)
    omega
  obtain ⟨r2, y2, e2, b2, l2, u2⟩ := digit_ok b1 (many := 2 * m + 1) (by omega) (by omega)
  obtain ⟨r3, y3, e3, b3, l3, u3⟩ := digit_ok b2 (many := 2 * m + 1) (by omega) (by omega)
  rw [e1, Option.bind_some]
  simp only
  rw [en, Option.bind_some, e2, Option.bind_some]
  simp only
  rw [e3, Option.bind_some]
  simp only
  rw [lawpnt_ok h1 (Nat.lt_of_lt_of_le (show n.natAbs < 2 ^ 5 by omega) (Nat.pow_le_pow_right (by decide) (by decide))), Option.bind_some]
  refine ⟨⟨k * (r2 - m), k * (r3 - m)⟩, y3, ?_, b3, ?_⟩
  · have := hd_scale (k := k) (n := n) (a := r2 - m) (b := r3 - m) h2 h1
    rw [h3] at this
    show some (_, _) = some (hd 30 _, _)
    rw [this]
  · have bd : ∀ x : Int, -9 ≤ x → x ≤ 9 → (k * x).natAbs ≤ 270 := fun x x1 x2 => by
      have a1 := Int.mul_le_mul_of_nonneg_left (c := k) x2 (by omega)
      have a2 := Int.mul_le_mul_of_nonneg_left (c := k) x1 (by omega)
      omega
    exact ⟨bd _ (by omega) (by omega), bd _ (by omega) (by omega)⟩
theorem cvp3 {p q r : P2} (h : 0 < crs3 p q r) : CvP [p, q, r] := by
  have k2 : 0 < crs3 q r p := by unfold crs3 at *; grind
  have k3 : 0 < crs3 r p q := by unfold crs3 at *; grind
  intro k l j a b c n n1 n2
  simp only [List.length_cons, List.length_nil] at a b c n
  rcases k with _ | _ | _ | k
  · obtain rfl : l = 1 := by omega
    rcases j with _ | _ | _ | j
    · exact absurd rfl n1
    · exact absurd rfl n2
    · exact h
    · omega
  · obtain rfl : l = 2 := by omega
    rcases j with _ | _ | _ | j
    · exact k2
    · exact absurd rfl n1
    · exact absurd rfl n2
    · omega
  · obtain rfl : l = 0 := by omega
    rcases j with _ | _ | _ | j
    · exact absurd rfl n2
    · exact k3
    · exact absurd rfl n1
    · omega
  · omega
theorem sg_cases (n : Int) : (n = 0 ∧ sg n = 0) ∨ (0 < n ∧ sg n = 1) ∨ (n < 0 ∧ sg n = -1) := by
  unfold sg
  rcases Int.lt_trichotomy n 0 with z | z | z
  · exact .inr (.inr ⟨z, by rw [if_neg (by omega), if_neg (by omega)]⟩)
  · exact .inl ⟨z, by rw [if_pos z]⟩
  · exact .inr (.inl ⟨z, by rw [if_neg (by omega), if_pos z]⟩)
/-- a ring that bulges outward -/
structure Bg (B n : Nat) (us : List P2) : Prop where
  sz : ∀ u ∈ us, Sz B u
  lo : 3 ≤ us.length
  hi : us.length ≤ n
  cv : CvP us
theorem three_ok {xs : List Int} (h : Bag xs) : ∃ us ys, m__law_three xs 6 = some (us.map h30, ys) ∧ Bag ys ∧ Bg 180 3 us := by
  unfold m__law_three
  obtain ⟨u0, y0, e0, b0, s0⟩ := place_ok h
  obtain ⟨u1, y1, e1, b1, s1⟩ := place_ok b0
  obtain ⟨u2, y2, e2, b2, s2⟩ := place_ok b1
  rw [show mapS (fun (x1 : Int) (s1 : (List Int)) => ((m__law_place s1 6).bind fun z1 => some (z1.1, z1.2))) (rangeL 0 3) xs = some ([h30 u0, h30 u1, h30 u2], y2) by
    rw [show rangeL 0 3 = [0, 1, 2] from rfl]
    simp only [mapS, e0, e1, e2, Option.bind_some]]
  rw [Option.bind_some]
  have i0 : ix [h30 u0, h30 u1, h30 u2] 0 = some (h30 u0) := rfl
  have i1 : ix [h30 u0, h30 u1, h30 u2] 1 = some (h30 u1) := rfl
  have i2 : ix [h30 u0, h30 u1, h30 u2] 2 = some (h30 u2) := rfl
  simp only [i0, i1, i2, Option.bind_some]
  have hp := fun u (s : Sz 180 u) => h30_pt (by decide : 180 ≤ 1000000) s
  rw [lawside_ok (hp _ s0) (hp _ s1) (hp _ s2) (by decide), Option.bind_some, det_ov (by decide : (0 : Int) < 30) (h30_ov u0) (h30_ov u1) (h30_ov u2)]
  have sz3 : ∀ u ∈ [u0, u1, u2], Sz 180 u := fun u hu => by
    simp only [List.mem_cons, List.not_mem_nil, or_false] at hu
    rcases hu with e | e | e <;> subst e <;> assumption
  rcases sg_cases (crs3 u0 u1 u2) with ⟨z, e⟩ | ⟨z, e⟩ | ⟨z, e⟩
  · rw [e, if_pos (by decide)]
    refine ⟨[⟨0, 0⟩, ⟨180, 30⟩, ⟨30, 180⟩], y2, ?_, b2, ⟨fun u hu => ?_, by decide, by decide, cvp3 (by decide)⟩⟩
    · have : [(T3.mk 0 0 1 : P3), T3.mk 6 1 1, T3.mk 1 6 1] = [⟨0, 0⟩, ⟨180, 30⟩, ⟨30, 180⟩].map h30 := by decide
      rw [this]
    · simp only [List.mem_cons, List.not_mem_nil, or_false] at hu
      rcases hu with e | e | e <;> subst e <;> exact ⟨by decide, by decide⟩
  · rw [e, if_neg (by decide)]
    refine ⟨[u0, u1, u2], y2, ?_, b2, ⟨sz3, by simp, by simp, cvp3 z⟩⟩
    unfold stepG
    rw [if_pos rfl]; rfl
  · rw [e, if_neg (by decide)]
    refine ⟨[u2, u1, u0], y2, ?_, b2, ⟨fun u hu => sz3 u (by simp only [List.mem_cons, List.not_mem_nil, or_false] at hu ⊢; rcases hu with e | e | e <;> simp [e]), by simp, by simp, cvp3 (by unfold crs3 at *; grind)⟩⟩
    unfold stepG
    rw [if_neg (by decide), if_pos rfl]; rfl
theorem loopL_brk {α τ ρ : Type} {f : α → τ → Option (Lp τ ρ)} (I J : τ → Prop) : ∀ {xs : List α} {s : τ}, (∀ x s, x ∈ xs → I s → (∃ s', f x s = some (.nxt s') ∧ I s') ∨ ∃ s', f x s = some (.brk s') ∧ J s') → I s → (∃ s', loopL f xs s = some (.nxt s') ∧ I s') ∨ ∃ s', loopL f xs s = some (.brk s') ∧ J s'
  | [], s, _, h => .inl ⟨s, rfl, h⟩
  | x :: xs, s, hf, h => by
    rcases hf x s List.mem_cons_self h with ⟨s', e, i⟩ | ⟨s', e, j⟩
    · rcases loopL_brk I J (xs := xs) (fun y t hy => hf y t (List.mem_cons_of_mem _ hy)) i with ⟨t, e2, i2⟩ | ⟨t, e2, j2⟩
      · refine .inl ⟨t, ?_, i2⟩
        show (f x s).bind _ = _
        rw [e]; exact e2
      · refine .inr ⟨t, ?_, j2⟩
        show (f x s).bind _ = _
        rw [e]; exact e2
    · refine .inr ⟨s', ?_, j⟩
      show (f x s).bind _ = _
      rw [e]; rfl
theorem put_map {us : List P2} {w : P2} {k : Nat} (hk : k ≤ us.length) : slice (us.map h30) none (some (k : Int)) ++ [h30 w] ++ slice (us.map h30) (some (k : Int)) none = (us.take k ++ [w] ++ us.drop k).map h30 := by
  rw [slice_to (by rw [List.length_map]; exact hk), slice_from (by rw [List.length_map]; exact hk)]
  simp
theorem bulging_ok {xs : List Int} (h : Bag xs) : ∃ us ys, m__law_bulging xs 6 = some (us.map h30, ys) ∧ Bag ys ∧ Bg 180 5 us := by
  unfold m__law_bulging
  obtain ⟨us, y1, e1, b1, g1⟩ := three_ok h
  obtain ⟨d, y2, e2, b2, l2, u2⟩ := digit_ok b1 (many := 3) (by decide) (by decide)
  rw [e1, Option.bind_some]
  simp only
  rw [e2, Option.bind_some]
  simp only
  rw [rngOk_ok (by omega) (by omega), Option.bind_some]
  obtain ⟨s, e, i⟩ := foldO_range (lo := 0) (n := d.toNat) (s := ((y2, us.map h30) : (List Int) × (List P3))) (f := fun (x1 : Int) (s1 : ((List Int) × (List (T3 Int Int Int)))) =>
     ((m__law_place s1.1 6).bind fun z3 =>
     (rngOk ((s1.2.length : Int))).bind fun _ =>
     (loopL (ρ := Empty) (fun (x2 : Int) (s3 : (List (T3 Int Int Int))) =>
     ((lenOk (((slice s3 none (some x2))).length + ([z3.1]).length)).bind fun _ =>
     (lenOk ((((slice s3 none (some x2)) ++ [z3.1])).length + ((slice s3 (some x2) none)).length)).bind fun _ =>
     (some ((((slice s3 none (some x2)) ++ [z3.1]) ++ (slice s3 (some x2) none)))).bind fun (more_1 : (List (T3 Int Int Int))) =>
     (m__law_is_convex more_1).bind fun z4 =>
     if z4 = true then
     (some (.brk more_1))
     else
     (some (.nxt s3)))) (rangeL 0 ((s1.2.length : Int)).toNat) s1.2).bind fun o => o.out (fun (e : Empty) => e.elim) fun (s4 : (List (T3 Int Int Int))) =>
     some ((z3.2, s4))))
    (fun j s => Bag s.1 ∧ ∃ us, s.2 = us.map h30 ∧ Bg 180 (3 + j) us) (fun j s hj i => by
      obtain ⟨bs, us, es, g⟩ := i
      obtain ⟨w, y, ew, bw, sw⟩ := place_ok bs
      have g1 := g.lo
      have g2 := g.hi
      rw [ew, Option.bind_some, es]
      simp only [List.length_map]
      rw [rngOk_ok (by omega) (by omega), Option.bind_some]
      have key := loopL_brk (ρ := Empty) (f := fun (x2 : Int) (s3 : (List (T3 Int Int Int))) =>
         ((lenOk (((slice s3 none (some x2))).length + ([h30 w]).length)).bind fun _ =>
         (lenOk ((((slice s3 none (some x2)) ++ [h30 w])).length + ((slice s3 (some x2) none)).length)).bind fun _ =>
         (some ((((slice s3 none (some x2)) ++ [h30 w]) ++ (slice s3 (some x2) none)))).bind fun (more_1 : (List (T3 Int Int Int))) =>
         (m__law_is_convex more_1).bind fun z4 =>
         if z4 = true then
         (some (.brk more_1))
         else
         (some (.nxt s3)))) (fun s => s = us.map h30) (fun s => ∃ us, s = us.map h30 ∧ Bg 180 (3 + (j + 1)) us) (xs := rangeL 0 ((us.length : Int)).toNat) (s := us.map h30) (fun x s hx hs => by
          subst hs
          obtain ⟨a1, a2⟩ := rangeL_mem hx
          obtain ⟨k, rfl⟩ : ∃ k : Nat, x = (k : Int) := ⟨x.toNat, by omega⟩
          have hk : k ≤ us.length := by omega
          have q1 := slice_len (us.map h30) none (some (k : Int))
          have q2 := slice_len (us.map h30) (some (k : Int)) none
          rw [List.length_map] at q1 q2
          rw [lenOk_ok (by simp only [List.length_cons, List.length_nil]; omega), Option.bind_some, lenOk_ok (by rw [List.length_append]; simp only [List.length_cons, List.length_nil]; omega), Option.bind_some, Option.bind_some, put_map hk]
          have ml : (us.take k ++ [w] ++ us.drop k).length = us.length + 1 := by simp; omega
          have ms : ∀ u ∈ us.take k ++ [w] ++ us.drop k, Sz 180 u := fun u hu => by
            rcases List.mem_append.mp hu with hu | hu
            · rcases List.mem_append.mp hu with hu | hu
              · exact g.sz u (List.mem_of_mem_take hu)
              · rw [List.mem_singleton] at hu; subst hu; exact sw
            · exact g.sz u (List.mem_of_mem_drop hu)
          rcases convex_iff (by decide : (0 : Int) < 30) (rv30 (by decide) ms) (by omega) (by omega) with ⟨c, ec⟩ | ⟨c, ec⟩
          · rw [ec, Option.bind_some, if_pos rfl]
            exact .inr ⟨_, rfl, _, rfl, ms, by omega, by omega, c⟩
          · rw [ec, Option.bind_some, if_neg (by decide)]
            exact .inl ⟨_, rfl, rfl⟩) rfl
      rcases key with ⟨s', e, q⟩ | ⟨s', e, us', q, g'⟩
      · exact ⟨_, (congrArg (fun o => Option.bind o _) e).trans rfl, bw, us, q, g.sz, g.lo, by omega, g.cv⟩
      · exact ⟨_, (congrArg (fun o => Option.bind o _) e).trans rfl, bw, us', q, g'⟩) ⟨b2, us, rfl, g1⟩
  obtain ⟨bs, us', es, g⟩ := i
  refine ⟨us', s.1, (congrArg (fun o => Option.bind o _) e).trans ?_, bs, g.sz, g.lo, by have := g.hi; omega, g.cv⟩
  rw [Option.bind_some, es]
/-- a point moved by a step, as told -/
def slP (v r : P3) : P3 := hd (r.c * v.c) ⟨r.a * v.c + v.a * r.c, r.b * v.c + v.b * r.c⟩
theorem lawslid_ok {p v : P3} (hp : Pt 200 p) (hv : Pt 200 v) : m__law_slid p v = some (slP v p) := by
  unfold m__law_slid
  rw [mulG_ok _ _ hp.sa hv.sc (by decide), Option.bind_some, mulG_ok _ _ hv.sa hp.sc (by decide), Option.bind_some, mulG_ok _ _ hp.sb hv.sc (by decide), Option.bind_some, mulG_ok _ _ hv.sb hp.sc (by decide), Option.bind_some, mulG_ok _ _ hp.sc hv.sc (by decide), Option.bind_some,
    lawpnt_ok (Int.mul_pos hp.pos hv.pos) (pow_le (sz_mul hp.sc hv.sc) (by decide))]; rfl
theorem slP_h30 (u w : P2) : slP (h30 w) (h30 u) = h30 ⟨u.a + w.a, u.b + w.b⟩ := by
  have hu := h30_ov u
  have hw := h30_ov w
  have hc := Int.mul_pos hu.pos hw.pos
  refine ov_same (P := 30) (by decide) (low3_ov (hd_low hc _) (by omega) ?_ ?_) (h30_ov _)
  · obtain ⟨_, a, _, _⟩ := hu
    obtain ⟨_, b, _, _⟩ := hw
    show ((h30 u).a * (h30 w).c + (h30 w).a * (h30 u).c) * 30 = (u.a + w.a) * ((h30 u).c * (h30 w).c)
    grind
  · obtain ⟨_, _, a, _⟩ := hu
    obtain ⟨_, _, b, _⟩ := hw
    show ((h30 u).b * (h30 w).c + (h30 w).b * (h30 u).c) * 30 = (u.b + w.b) * ((h30 u).c * (h30 w).c)
    grind
theorem pnt_ok {a b n : Int} (h : 0 < n) (hn : n.natAbs < 2 ^ 8000) : m_point a b n = some (hd n ⟨a, b⟩) := by
  unfold m_point
  have hg : (0 : Int) < (g3 a b n : Int) := by have := g3_pos (a := a) (b := b) (n := n) (by omega); omega
  have hl := g3_le (a := a) (b := b) h
  have hs : (g3 a b n : Int).natAbs < 2 ^ 8000 := Nat.lt_of_le_of_lt (by omega) hn
  rw [if_neg (by simp; omega), divisor_ok]
  simp only [Option.bind_some]
  rw [divisor_ok]
  simp only [Option.bind_some]
  rw [if_neg (by simp; omega)]
  simp only [Option.bind_some]
  have e3 : ((Int.gcd (Int.gcd a n : Int) b : Nat) : Int) = (g3 a b n : Int) := rfl
  rw [e3, divG_pos 8000 hg hs (by decide), divG_pos 8000 hg hs (by decide), divG_pos 8000 hg hs (by decide)]
  rfl
theorem cell_ok (ns : List Int) (k : Nat) : ∃ c, m__law_cell ns (k : Int) = some c := by
  unfold m__law_cell
  by_cases z : k < ns.length
  · rw [if_pos (by simpa using z), ix_lt z]; exact ⟨_, rfl⟩
  · rw [if_neg (by simpa using z)]; exact ⟨_, rfl⟩
theorem point_any {a b n : Int} (h : n ≠ 0) (hn : n.natAbs < 2 ^ 8000) : ∃ r, m_point a b n = some r ∧ 0 < r.c ∧ g3 r.a r.b r.c = 1 ∧ r.a * n = a * r.c ∧ r.b * n = b * r.c ∧ r.a.natAbs ≤ a.natAbs ∧ r.b.natAbs ≤ b.natAbs ∧ r.c.natAbs ≤ n.natAbs := by
  unfold m_point
  have hg : 0 < g3 a b n := g3_pos h
  have hl : g3 a b n ≤ n.natAbs := Nat.le_of_dvd (by omega) (by have := g3_n (a := a) (b := b) (n := n); rwa [← Int.natAbs_dvd_natAbs, Int.natAbs_natCast] at this)
  rw [if_neg (by simpa using h), divisor_ok, Option.bind_some, divisor_ok, Option.bind_some]
  have e3 : ((Int.gcd (Int.gcd a n : Int) b : Nat) : Int) = (g3 a b n : Int) := rfl
  rw [e3]
  have hs : ∃ s : Int, (if decide (n < 0) = true then (some (-(g3 a b n : Int))).bind fun d => some d else some (g3 a b n : Int)) = some s ∧ s.natAbs = g3 a b n ∧ (0 < s ↔ 0 < n) := by
    by_cases z : n < 0
    · rw [if_pos (by simpa using z)]; exact ⟨_, rfl, by omega, by omega⟩
    · rw [if_neg (by simpa using z)]; exact ⟨_, rfl, by omega, by omega⟩
  obtain ⟨s, es, ns, ss⟩ := hs
  have hs0 : s ≠ 0 := by omega
  have dg : s ∣ (g3 a b n : Int) := by rw [← ns]; exact Int.dvd_natAbs.mpr (Int.dvd_refl s)
  obtain ⟨u, hu⟩ := Int.dvd_trans dg (g3_a (a := a) (b := b) (n := n))
  obtain ⟨v, hv⟩ := Int.dvd_trans dg (g3_b (a := a) (b := b) (n := n))
  obtain ⟨w, hw⟩ := Int.dvd_trans dg (g3_n (a := a) (b := b) (n := n))
  have n2 : s.natAbs < 2 ^ 8000 := by rw [ns]; omega
  have one : g3 u v w = 1 := by
    have e := g3_mul s u v w
    rw [← hu, ← hv, ← hw, ns] at e
    exact (Nat.eq_of_mul_eq_mul_left hg (by rw [Nat.mul_one]; exact e)).symm
  have s1 : 1 ≤ s.natAbs := by omega
  have wp : 0 < w := by
    rw [Int.mul_comm] at hw
    rcases Int.lt_trichotomy s 0 with z | z | z
    · have hb : ¬ 0 < n := fun q => by have := ss.mpr q; omega
      exact pos_l (s := -s) (by omega) (by rw [Int.mul_neg]; omega)
    · exact (hs0 z).elim
    · have := ss.mp z
      exact pos_l z (by omega)
  refine ⟨⟨u, v, w⟩, ?_, wp, one, ?_, ?_, ?_, ?_, ?_⟩
  · refine (congrArg (fun o => Option.bind o _) es).trans ?_
    rw [Option.bind_some, show divG a s = some u by rw [hu, Int.mul_comm]; exact divG_mul 8000 hs0 n2 (by decide), Option.bind_some, show divG b s = some v by rw [hv, Int.mul_comm]; exact divG_mul 8000 hs0 n2 (by decide), Option.bind_some, show divG n s = some w by rw [hw, Int.mul_comm]; exact divG_mul 8000 hs0 n2 (by decide)]
    rfl
  · show u * n = a * w
    rw [hu, hw]; grind
  · show v * n = b * w
    rw [hv, hw]; grind
  · show u.natAbs ≤ a.natAbs
    rw [hu, Int.natAbs_mul, Nat.mul_comm]; exact Nat.le_mul_of_pos_right _ s1
  · show v.natAbs ≤ b.natAbs
    rw [hv, Int.natAbs_mul, Nat.mul_comm]; exact Nat.le_mul_of_pos_right _ s1
  · show w.natAbs ≤ n.natAbs
    rw [hw, Int.natAbs_mul, Nat.mul_comm]; exact Nat.le_mul_of_pos_right _ s1
theorem crossed_ok {p q : T3 Int Int Int} {n m : Nat} (hp : Pt n p) (hq : Pt m q) (h : n + m ≤ 7000) : m_crossed p q = some ⟨p.b * q.c - p.c * q.b, p.c * q.a - p.a * q.c, p.a * q.b - p.b * q.a⟩ := by
  unfold m_crossed
  rw [mulG_ok _ _ hp.sb hq.sc (by omega), mulG_ok _ _ hp.sc hq.sb (by omega), mulG_ok _ _ hp.sc hq.sa (by omega), mulG_ok _ _ hp.sa hq.sc (by omega), mulG_ok _ _ hp.sa hq.sb (by omega), mulG_ok _ _ hp.sb hq.sa (by omega)]
  rfl
theorem side_ok {p q r : T3 Int Int Int} {n : Nat} (hp : Pt n p) (hq : Pt n q) (hr : Pt n r) (h : n ≤ 3000) : m_side p q r = some (sg (det p q r)) := by
  unfold m_side
  rw [crossed_ok hp hq (by omega)]
  simp only [Option.bind_some]
  rw [mulG_ok _ _ (sz_sub (sz_mul hp.sb hq.sc) (sz_mul hp.sc hq.sb)) hr.sa (by omega), mulG_ok _ _ (sz_sub (sz_mul hp.sc hq.sa) (sz_mul hp.sa hq.sc)) hr.sb (by omega), mulG_ok _ _ (sz_sub (sz_mul hp.sa hq.sb) (sz_mul hp.sb hq.sa)) hr.sc (by omega)]
  simp only [Option.bind_some]
  show _ = some (sg (det p q r))
  unfold sg det
  (try simp only [decide_eq_true_eq])
  (repeat' split) <;> rfl
/-! ### plain: rings over the rationals, cut by a line -/
abbrev Q2 : Type := T2 Rat Rat
/-- twice the triangle o, p, q -/
def cz (o p q : Q2) : Rat := (p.a - o.a) * (q.b - o.b) - (p.b - o.b) * (q.a - o.a)
/-- a function of the plane that is straight -/
structure Af where
  A : Rat
  B : Rat
  C : Rat
def Af.at (F : Af) (v : Q2) : Rat := F.A * v.a + F.B * v.b + F.C
def Af.neg (F : Af) : Af := ⟨-F.A, -F.B, -F.C⟩
theorem Af.neg_at (F : Af) (v : Q2) : F.neg.at v = -F.at v := by unfold Af.neg Af.at; grind
theorem Af.neg_neg (F : Af) : F.neg.neg = F := by
  obtain ⟨a, b, c⟩ := F
  unfold Af.neg
  simp only [Rat.neg_neg]
/-- the point at part t of the wayq -/
def wayq (p q : Q2) (t : Rat) : Q2 := ⟨p.a + t * (q.a - p.a), p.b + t * (q.b - p.b)⟩
theorem way_at (F : Af) (p q : Q2) (t : Rat) : F.at (wayq p q t) = (1 - t) * F.at p + t * F.at q := by unfold Af.at wayq; grind
theorem way0 (p q : Q2) : wayq p q 0 = p := by
  unfold wayq
  simp only [Rat.zero_mul, Rat.add_zero]
theorem way1 (p q : Q2) : wayq p q 1 = q := by
  have e1 : p.a + (1 : Rat) * (q.a - p.a) = q.a := by grind
  have e2 : p.b + (1 : Rat) * (q.b - p.b) = q.b := by grind
  unfold wayq
  rw [e1, e2]
theorem cz_cyc (p q r : Q2) : cz q r p = cz p q r := by unfold cz; grind
theorem cz_sw (p q r : Q2) : cz q p r = -cz p q r := by unfold cz; grind
theorem cz_self (p q : Q2) : cz p p q = 0 ∧ cz p q q = 0 ∧ cz p q p = 0 := by unfold cz; refine ⟨?_, ?_, ?_⟩ <;> grind
theorem cz_way3 (x y p q : Q2) (t : Rat) : cz x y (wayq p q t) = (1 - t) * cz x y p + t * cz x y q := by unfold cz wayq; grind
theorem cz_way1 (x y p q : Q2) (t : Rat) : cz (wayq p q t) x y = (1 - t) * cz p x y + t * cz q x y := by unfold cz wayq; grind
theorem cz_way2 (x y p q : Q2) (t : Rat) : cz x (wayq p q t) y = (1 - t) * cz x p y + t * cz x q y := by unfold cz wayq; grind
theorem cz_ways (p q v : Q2) (s t : Rat) : cz (wayq p q s) (wayq p q t) v = (t - s) * cz p q v := by unfold cz wayq; grind
/-- two points where F is 0: F is as the triangle over them, but for a factor -/
theorem cz_flat (F : Af) {s z : Q2} (hs : F.at s = 0) (hz : F.at z = 0) (u v : Q2) : cz s z v * F.at u = cz s z u * F.at v := by
  unfold cz
  unfold Af.at at *
  grind
/-- where the side from p to q meets F = 0 -/
def cutP (F : Af) (p q : Q2) : Q2 := wayq p q (F.at p / (F.at p - F.at q))
theorem rat_div_pos {a b : Rat} (ha : 0 < a) (hb : 0 < b) : 0 < a / b := by
  rw [Rat.div_def]
  exact Rat.mul_pos ha (Rat.inv_pos.mpr hb)
theorem cut_t {x y : Rat} (h : x * y < 0) : 0 < x / (x - y) ∧ x / (x - y) < 1 ∧ x - y ≠ 0 := by
  have key : (0 < x ∧ y < 0) ∨ (x < 0 ∧ 0 < y) := by
    have nx : x ≠ 0 := fun e => by rw [e, Rat.zero_mul] at h; exact Rat.lt_irrefl h
    have ny : y ≠ 0 := fun e => by rw [e, Rat.mul_zero] at h; exact Rat.lt_irrefl h
    rcases (Rat.le_total : x ≤ 0 ∨ 0 ≤ x) with h1 | h1
    · rcases (Rat.le_total : y ≤ 0 ∨ 0 ≤ y) with h2 | h2
      · have := Rat.mul_nonneg (show 0 ≤ -x by grind) (show 0 ≤ -y by grind)
        grind
      · right; grind
    · rcases (Rat.le_total : y ≤ 0 ∨ 0 ≤ y) with h2 | h2
      · left; grind
      · have := Rat.mul_nonneg h1 h2
        grind
  rcases key with ⟨h1, h2⟩ | ⟨h1, h2⟩
  · have h3 : 0 < x - y := by grind
    have p1 := rat_div_pos h1 h3
    have p2 := rat_div_pos (show 0 < -y by grind) h3
    refine ⟨p1, ?_, by grind⟩
    have e : x / (x - y) + (-y) / (x - y) = 1 := by grind
    grind
  · have h3 : 0 < y - x := by grind
    have p1 := rat_div_pos (show 0 < -x by grind) h3
    have p2 := rat_div_pos h2 h3
    have e0 : x / (x - y) = (-x) / (y - x) := by grind
    refine ⟨by rw [e0]; exact p1, ?_, by grind⟩
    have e : (-x) / (y - x) + y / (y - x) = 1 := by grind
    grind
theorem cut_ok {F : Af} {p q : Q2} (h : F.at p * F.at q < 0) : F.at (cutP F p q) = 0 ∧ ∃ t, 0 < t ∧ t < 1 ∧ cutP F p q = wayq p q t := by
  obtain ⟨h1, h2, h3⟩ := cut_t h
  refine ⟨?_, _, h1, h2, rfl⟩
  unfold cutP
  rw [way_at]
  grind
theorem cut_neg (F : Af) (p q : Q2) : cutP F.neg p q = cutP F p q := by
  unfold cutP
  rw [Af.neg_at, Af.neg_at]
  congr 1
  by_cases h : F.at p - F.at q = 0
  · have e : -F.at p - -F.at q = 0 := by grind
    rw [h, e, Rat.div_def, Rat.div_def, Rat.inv_zero, Rat.mul_zero, Rat.mul_zero]
  · grind
/-- what of one side is told: the cut, the end -/
def pcs (F : Af) (p q : Q2) : List Q2 := (if F.at p * F.at q < 0 then [cutP F p q] else []) ++ (if 0 ≤ F.at q then [q] else [])
/-- the walk behind a -/
def clw (F : Af) : Q2 → List Q2 → List Q2
  | _, [] => []
  | a, x :: xs => pcs F a x ++ clw F x xs
theorem clw_sdf (F : Af) : ∀ (a : Q2) (xs : List Q2), clw F a xs = (sdf a xs).flatMap fun s => pcs F s.a s.b
  | _, [] => rfl
  | a, x :: xs => by
    show pcs F a x ++ clw F x xs = _
    rw [clw_sdf F x xs]
    show _ = ((⟨a, x⟩ :: sdf x xs : List (T2 Q2 Q2))).flatMap _
    rw [List.flatMap_cons]
def half (F : Af) (rs : List Q2) : List Q2 := (sd rs).flatMap fun s => pcs F s.a s.b
/-- all triangles of three points in their order go round to the left -/
def OrdC (rs : List Q2) : Prop := ∀ x y z, [x, y, z].Sublist rs → 0 < cz x y z
theorem OrdC.sub {rs ss : List Q2} (h : OrdC rs) (s : ss.Sublist rs) : OrdC ss := fun x y z t => h x y z (t.trans s)
/-- v is at the left hand of all sides -/
def InQ (rs : List Q2) (v : Q2) : Prop := ∀ s ∈ sd rs, 0 < cz s.a s.b v
def ClQ (rs : List Q2) (v : Q2) : Prop := ∀ s ∈ sd rs, 0 ≤ cz s.a s.b v
theorem sd_last {α : Type} (xs : List α) (a : α) : sd (xs ++ [a]) = sdf a (xs ++ [a]) := by
  unfold sd
  rw [List.getLast?_append]
  rfl
theorem sdf_append {α : Type} : ∀ (a : α) (xs ys : List α), sdf a (xs ++ ys) = sdf a xs ++ sdf ((a :: xs).getLast (by simp)) ys
  | a, [], ys => rfl
  | a, x :: xs, ys => by
    show ⟨a, x⟩ :: sdf x (xs ++ ys) = ⟨a, x⟩ :: (sdf x xs ++ _)
    rw [sdf_append x xs ys]
    rfl
theorem sd_cons_last {α : Type} {xs : List α} (h : xs ≠ []) : sd xs = sdf (xs.getLast h) xs := by
  unfold sd
  rw [List.getLast?_eq_some_getLast h]
/-- the sides of a ring begun elsewhere -/
theorem sdq_rot {α : Type} (xs ys : List α) : ∃ ss ts, sd (xs ++ ys) = ss ++ ts ∧ sd (ys ++ xs) = ts ++ ss := by
  by_cases hx : xs = []
  · subst hx; exact ⟨[], sd ys, by simp, by simp⟩
  by_cases hy : ys = []
  · subst hy; exact ⟨sd xs, [], by simp, by simp⟩
  refine ⟨sdf (ys.getLast hy) xs, sdf (xs.getLast hx) ys, ?_, ?_⟩
  · rw [sd_cons_last (by simp [hx]), List.getLast_append_right hy, sdf_append]
    congr 2
    rw [List.getLast_cons hx]
  · rw [sd_cons_last (by simp [hy]), List.getLast_append_right hx, sdf_append]
    congr 2
    rw [List.getLast_cons hy]
theorem sd_rot_perm {α : Type} (xs ys : List α) : (sd (xs ++ ys)).Perm (sd (ys ++ xs)) := by
  obtain ⟨s, t, e1, e2⟩ := sdq_rot xs ys
  rw [e1, e2]
  exact List.perm_append_comm
theorem half_rot (F : Af) (xs ys : List Q2) : ∃ us vs, half F (xs ++ ys) = us ++ vs ∧ half F (ys ++ xs) = vs ++ us := by
  obtain ⟨s, t, e1, e2⟩ := sdq_rot xs ys
  refine ⟨s.flatMap fun s => pcs F s.a s.b, t.flatMap fun s => pcs F s.a s.b, ?_, ?_⟩
  · unfold half; rw [e1, List.flatMap_append]
  · unfold half; rw [e2, List.flatMap_append]
theorem InQ.rot {xs ys : List Q2} {v : Q2} (h : InQ (xs ++ ys) v) : InQ (ys ++ xs) v := fun s hs => h s ((sd_rot_perm ys xs).mem_iff.mp hs)
theorem OrdC.rot {xs ys : List Q2} (h : OrdC (xs ++ ys)) : OrdC (ys ++ xs) := by
  intro x y z t
  obtain ⟨l1, l2, e, h1, h2⟩ := List.sublist_append_iff.mp t
  have j : (l2 ++ l1).Sublist (xs ++ ys) := h2.append h1
  match l1, l2, e with
  | [], l2, e => rw [List.nil_append] at e; subst e; exact h x y z (by simpa using j)
  | [a], l2, e =>
    injection e with e1 e2
    subst e1 e2
    rw [← cz_cyc]
    exact h y z x j
  | [a, b], l2, e =>
    injection e with e1 e2
    injection e2 with e2 e3
    subst e1 e2 e3
    rw [cz_cyc, ← cz_cyc]
    have := h z x y j
    rw [cz_cyc, cz_cyc]
    rwa [cz_cyc] at this
  | [a, b, c], l2, e =>
    injection e with e1 e2
    injection e2 with e2 e3
    injection e3 with e3 e4
    subst e1 e2 e3
    have : l2 = [] := e4.symm
    subst this
    exact h x y z (by simpa using j)
  | a :: b :: c :: d :: l, l2, e => simp at e
/-! ### plain: what is left of a ring that bulges outward bulges outward -/
theorem two_flat {α : Type} {g : Nat → List α} {x y : α} : ∀ (n s : Nat), [x, y].Sublist ((List.range' s n).flatMap g) → ∃ a b, s ≤ a ∧ a ≤ b ∧ b < s + n ∧ x ∈ g a ∧ y ∈ g b ∧ (a = b → [x, y].Sublist (g a))
  | 0, s, h => by simp at h
  | n + 1, s, h => by
    rw [List.range'_succ, List.flatMap_cons] at h
    obtain ⟨l1, l2, e, h1, h2⟩ := List.sublist_append_iff.mp h
    match l1, e with
    | [], e =>
      rw [List.nil_append] at e; subst e
      obtain ⟨a, b, q1, q2, q3, q4⟩ := two_flat n (s + 1) h2
      exact ⟨a, b, by omega, q2, by omega, q4⟩
    | [a], e =>
      injection e with e1 e2
      subst e1 e2
      have hy : y ∈ (List.range' (s + 1) n).flatMap g := h2.subset (by simp)
      obtain ⟨b, hb, hg⟩ := List.mem_flatMap.mp hy
      rw [List.mem_range'_1] at hb
      exact ⟨s, b, Nat.le_refl _, by omega, by omega, h1.subset (by simp), hg, fun e => by omega⟩
    | [a, b], e =>
      injection e with e1 e2
      injection e2 with e2 e3
      subst e1 e2
      exact ⟨s, s, Nat.le_refl _, Nat.le_refl _, by omega, h1.subset (by simp), h1.subset (by simp), fun _ => h1⟩
    | a :: b :: c :: l, e => simp at e
theorem trip_flat {α : Type} {g : Nat → List α} {x y z : α} : ∀ (n s : Nat), [x, y, z].Sublist ((List.range' s n).flatMap g) →
    ∃ a b c, s ≤ a ∧ a ≤ b ∧ b ≤ c ∧ c < s + n ∧ x ∈ g a ∧ y ∈ g b ∧ z ∈ g c ∧ (a = b → [x, y].Sublist (g a)) ∧ (b = c → [y, z].Sublist (g b)) ∧ (a = c → [x, y, z].Sublist (g a))
  | 0, s, h => by simp at h
  | n + 1, s, h => by
    rw [List.range'_succ, List.flatMap_cons] at h
    obtain ⟨l1, l2, e, h1, h2⟩ := List.sublist_append_iff.mp h
    match l1, e with
    | [], e =>
      rw [List.nil_append] at e; subst e
      obtain ⟨a, b, c, q1, q2, q3, q4, q5⟩ := trip_flat n (s + 1) h2
      exact ⟨a, b, c, by omega, q2, q3, by omega, q5⟩
    | [a], e =>
      injection e with e1 e2
      subst e1 e2
      obtain ⟨b, c, q1, q2, q3, q4, q5, q6⟩ := two_flat n (s + 1) h2
      exact ⟨s, b, c, Nat.le_refl _, by omega, q2, by omega, h1.subset (by simp), q4, q5, fun e => by omega, fun e => by subst e; exact q6 rfl, fun e => by omega⟩
    | [a, b], e =>
      injection e with e1 e2
      injection e2 with e2 e3
      subst e1 e2 e3
      have hy : z ∈ (List.range' (s + 1) n).flatMap g := h2.subset (by simp)
      obtain ⟨c, hb, hg⟩ := List.mem_flatMap.mp hy
      rw [List.mem_range'_1] at hb
      exact ⟨s, s, c, Nat.le_refl _, Nat.le_refl _, by omega, by omega, h1.subset (by simp), h1.subset (by simp), hg, fun _ => h1, fun e => by omega, fun e => by omega⟩
    | [a, b, c], e =>
      injection e with e1 e2
      injection e2 with e2 e3
      injection e3 with e3 e4
      subst e1 e2 e3
      exact ⟨s, s, s, Nat.le_refl _, Nat.le_refl _, Nat.le_refl _, by omega, h1.subset (by simp), h1.subset (by simp), h1.subset (by simp), fun _ => (List.Sublist.trans (by simp) h1), fun _ => (List.Sublist.trans (by simp) h1), fun _ => h1⟩
    | a :: b :: c :: d :: l, e => simp at e
theorem sdf_idx {α : Type} (d : α) : ∀ (a : α) (xs : List α), sdf a xs = (List.range' 0 xs.length).map fun k => ⟨(a :: xs).getD k d, (a :: xs).getD (k + 1) d⟩
  | _, [] => rfl
  | a, x :: xs => by
    show ⟨a, x⟩ :: sdf x xs = _
    rw [sdf_idx d x xs, List.length_cons, List.range'_succ, List.map_cons]
    congr 1
    rw [show List.range' (0 + 1) xs.length = (List.range' 0 xs.length).map (· + 1) from List.ext_getElem (by simp) fun i h1 h2 => by simp [Nat.add_comm], List.map_map]
    rfl
theorem comb_nn {a b t : Rat} (h0 : 0 < t) (h1 : t < 1) (ha : 0 ≤ a) (hb : 0 ≤ b) : 0 ≤ (1 - t) * a + t * b := by
  have p1 := Rat.mul_nonneg (show 0 ≤ 1 - t by grind) ha
  have p2 := Rat.mul_nonneg (show 0 ≤ t by grind) hb
  grind
theorem comb_pos {a b t : Rat} (h0 : 0 < t) (h1 : t < 1) (ha : 0 ≤ a) (hb : 0 ≤ b) (h : 0 < a ∨ 0 < b) : 0 < (1 - t) * a + t * b := by
  have p1 := Rat.mul_nonneg (show 0 ≤ 1 - t by grind) ha
  have p2 := Rat.mul_nonneg (show 0 ≤ t by grind) hb
  rcases h with h | h
  · have := Rat.mul_pos (show 0 < 1 - t by grind) h
    grind
  · have := Rat.mul_pos h0 h
    grind
theorem tri_nn {p1 p2 q1 q2 w1 w2 : Q2} {s t u : Rat} (s0 : 0 < s) (s1 : s < 1) (t0 : 0 < t) (t1 : t < 1) (u0 : 0 < u) (u1 : u < 1)
    (h : ∀ p ∈ [p1, p2], ∀ q ∈ [q1, q2], ∀ w ∈ [w1, w2], 0 ≤ cz p q w) : 0 ≤ cz (wayq p1 p2 s) (wayq q1 q2 t) (wayq w1 w2 u) := by
  have c : ∀ p ∈ [p1, p2], 0 ≤ cz p (wayq q1 q2 t) (wayq w1 w2 u) := fun p hp => by
    have d : ∀ q ∈ [q1, q2], 0 ≤ cz p q (wayq w1 w2 u) := fun q hq => by
      rw [cz_way3]
      exact comb_nn u0 u1 (h p hp q hq _ (by simp)) (h p hp q hq _ (by simp))
    rw [cz_way2]
    exact comb_nn t0 t1 (d _ (by simp)) (d _ (by simp))
  rw [cz_way1]
  exact comb_nn s0 s1 (c _ (by simp)) (c _ (by simp))
theorem tri_pos {p1 p2 q1 q2 w1 w2 : Q2} {s t u : Rat} (s0 : 0 < s) (s1 : s < 1) (t0 : 0 < t) (t1 : t < 1) (u0 : 0 < u) (u1 : u < 1)
    (h : ∀ p ∈ [p1, p2], ∀ q ∈ [q1, q2], ∀ w ∈ [w1, w2], 0 ≤ cz p q w) (e : ∃ p ∈ [p1, p2], ∃ q ∈ [q1, q2], ∃ w ∈ [w1, w2], 0 < cz p q w) : 0 < cz (wayq p1 p2 s) (wayq q1 q2 t) (wayq w1 w2 u) := by
  obtain ⟨p, hp, q, hq, w, hw, e⟩ := e
  have dn : ∀ p ∈ [p1, p2], ∀ q ∈ [q1, q2], 0 ≤ cz p q (wayq w1 w2 u) := fun p hp q hq => by
    rw [cz_way3]
    exact comb_nn u0 u1 (h p hp q hq _ (by simp)) (h p hp q hq _ (by simp))
  have cn : ∀ p ∈ [p1, p2], 0 ≤ cz p (wayq q1 q2 t) (wayq w1 w2 u) := fun p hp => by
    rw [cz_way2]
    exact comb_nn t0 t1 (dn p hp _ (by simp)) (dn p hp _ (by simp))
  have d : 0 < cz p q (wayq w1 w2 u) := by
    rw [cz_way3]
    refine comb_pos u0 u1 (h p hp q hq _ (by simp)) (h p hp q hq _ (by simp)) ?_
    rcases List.mem_cons.mp hw with z | hw
    · left; rw [← z]; exact e
    · right; rw [← List.mem_singleton.mp hw]; exact e
  have c : 0 < cz p (wayq q1 q2 t) (wayq w1 w2 u) := by
    rw [cz_way2]
    refine comb_pos t0 t1 (dn p hp _ (by simp)) (dn p hp _ (by simp)) ?_
    rcases List.mem_cons.mp hq with z | hq
    · left; rw [← z]; exact d
    · right; rw [← List.mem_singleton.mp hq]; exact d
  rw [cz_way1]
  refine comb_pos s0 s1 (cn _ (by simp)) (cn _ (by simp)) ?_
  rcases List.mem_cons.mp hp with z | hp
  · left; rw [← z]; exact c
  · right; rw [← List.mem_singleton.mp hp]; exact c
theorem way_self (p : Q2) (t : Rat) : wayq p p t = p := by
  unfold wayq
  have e1 : p.a + t * (p.a - p.a) = p.a := by grind
  have e2 : p.b + t * (p.b - p.b) = p.b := by grind
  rw [e1, e2]
/-- a told corner: of side i to j, or corner j -/
structure El (F : Af) (r : Nat → Q2) (i j : Nat) (t : Rat) (e : Q2) : Prop where
  t0 : 0 < t
  t1 : t < 1
  eq : e = wayq (r i) (r j) t
  kind : (i = j ∧ 0 ≤ F.at (r j)) ∨ (i + 1 = j ∧ F.at (r i) * F.at (r j) < 0 ∧ F.at e = 0)
theorem el_of {F : Af} {r : Nat → Q2} {k : Nat} {e : Q2} (h : e ∈ pcs F (r k) (r (k + 1))) : ∃ i t, El F r i (k + 1) t e := by
  unfold pcs at h
  rcases List.mem_append.mp h with h | h
  · split at h
    · next z =>
      rw [List.mem_singleton] at h
      obtain ⟨h1, t, h2, h3, h4⟩ := cut_ok z
      exact ⟨k, t, h2, h3, by rw [h]; exact h4, .inr ⟨rfl, z, by rw [h]; exact h1⟩⟩
    · simp at h
  · split at h
    · next z =>
      rw [List.mem_singleton] at h
      exact ⟨k + 1, 1 / 2, by decide +kernel, by decide +kernel, by rw [way_self]; exact h, .inl ⟨rfl, z⟩⟩
    · simp at h
theorem el_two {F : Af} {r : Nat → Q2} {k : Nat} {x y : Q2} (h : [x, y].Sublist (pcs F (r k) (r (k + 1)))) : (∃ t, El F r k (k + 1) t x) ∧ ∃ t, El F r (k + 1) (k + 1) t y := by
  unfold pcs at h
  by_cases z : F.at (r k) * F.at (r (k + 1)) < 0
  · rw [if_pos z] at h
    by_cases w : 0 ≤ F.at (r (k + 1))
    · rw [if_pos w] at h
      have e := h.eq_of_length (by simp)
      injection e with e1 e2
      injection e2 with e2 e3
      obtain ⟨h1, t, h2, h3, h4⟩ := cut_ok z
      subst e1 e2
      exact ⟨⟨t, h2, h3, h4, .inr ⟨rfl, z, h1⟩⟩, 1 / 2, by decide +kernel, by decide +kernel, by rw [way_self], .inl ⟨rfl, w⟩⟩
    · rw [if_neg w] at h
      have := h.length_le
      simp at this
  · rw [if_neg z] at h
    have := h.length_le
    split at this <;> simp at this
theorem pcs_len (F : Af) (p q : Q2) : (pcs F p q).length ≤ 2 := by
  unfold pcs
  rw [List.length_append]
  split <;> split <;> simp
theorem half_idx (F : Af) {rs : List Q2} (h : rs ≠ []) : half F rs = (List.range' 0 rs.length).flatMap fun k => pcs F ((rs.getLast h :: rs).getD k ⟨0, 0⟩) ((rs.getLast h :: rs).getD (k + 1) ⟨0, 0⟩) := by
  unfold half
  rw [sd_cons_last h, sdf_idx ⟨0, 0⟩, List.flatMap_map]
theorem sub3 {α : Type} {rs : List α} {i j l : Nat} (h1 : i < j) (h2 : j < l) (h3 : l < rs.length) : [rs[i], rs[j], rs[l]].Sublist rs := by
  have e1 : rs = rs.take j ++ rs.drop j := (List.take_append_drop j rs).symm
  have a1 : [rs[i]].Sublist (rs.take j) := by
    rw [List.singleton_sublist]
    rw [List.mem_take_iff_getElem]
    exact ⟨i, by omega, rfl⟩
  have a2 : [rs[j], rs[l]].Sublist (rs.drop j) := by
    rw [List.drop_eq_getElem_cons (by omega)]
    refine List.Sublist.cons_cons _ ?_
    rw [List.singleton_sublist]
    rw [List.mem_drop_iff_getElem]
    exact ⟨l - (j + 1), by omega, by congr 1; omega⟩
  have := a1.append a2
  rw [List.take_append_drop] at this
  exact this
/-- OrdC by places, once round: place 0 is place n -/
theorem ordc_idx {rs : List Q2} (hc : OrdC rs) (h : rs ≠ []) {i j l : Nat} (h1 : i < j) (h2 : j < l) (h3 : l ≤ rs.length) (h4 : ¬ (i = 0 ∧ l = rs.length)) :
    0 < cz ((rs.getLast h :: rs).getD i ⟨0, 0⟩) ((rs.getLast h :: rs).getD j ⟨0, 0⟩) ((rs.getLast h :: rs).getD l ⟨0, 0⟩) := by
  have at1 : ∀ m, (hm : m < rs.length) → (rs.getLast h :: rs).getD (m + 1) ⟨0, 0⟩ = rs[m] := fun m hm => by
    rw [List.getD_cons_succ, List.getD_eq_getElem?_getD, List.getElem?_eq_getElem hm]; rfl
  obtain ⟨j', rfl⟩ : ∃ j', j = j' + 1 := ⟨j - 1, by omega⟩
  obtain ⟨l', rfl⟩ : ∃ l', l = l' + 1 := ⟨l - 1, by omega⟩
  rw [at1 j' (by omega), at1 l' (by omega)]
  by_cases z : i = 0
  · subst z
    rw [List.getD_cons_zero, ← cz_cyc, List.getLast_eq_getElem]
    exact hc _ _ _ (sub3 (by omega) (by omega) (by omega))
  · obtain ⟨i', rfl⟩ : ∃ i', i = i' + 1 := ⟨i - 1, by omega⟩
    rw [at1 i' (by omega)]
    exact hc _ _ _ (sub3 (by omega) (by omega) (by omega))
theorem half_ord (F : Af) {rs : List Q2} (hc : OrdC rs) (h3 : 3 ≤ rs.length) : OrdC (half F rs) := by
  have hne : rs ≠ [] := fun e => by subst e; simp at h3
  intro x y z hs
  rw [half_idx F hne] at hs
  have ps := @ordc_idx rs hc hne
  have r0 : (rs.getLast hne :: rs).getD 0 ⟨0, 0⟩ = (rs.getLast hne :: rs).getD rs.length ⟨0, 0⟩ := by
    obtain ⟨n, hn⟩ : ∃ n, rs.length = n + 1 := ⟨rs.length - 1, by omega⟩
    rw [hn, List.getD_cons_zero, List.getD_cons_succ, List.getD_eq_getElem?_getD, List.getElem?_eq_getElem (by omega), List.getLast_eq_getElem]
    simp only [Option.getD_some]
    congr 1
    omega
  generalize hr : (fun k => (rs.getLast hne :: rs).getD k (⟨0, 0⟩ : Q2)) = r at *
  have hr' : ∀ k, (rs.getLast hne :: rs).getD k (⟨0, 0⟩ : Q2) = r k := fun k => congrFun hr k
  simp only [hr'] at hs ps r0
  generalize hn : rs.length = n at *
  obtain ⟨a, b, c, q1, q2, q3, q4, hx, hy, hz, q5, q6, q7⟩ := trip_flat n 0 hs
  have nn : ∀ i j l, i ≤ j → j ≤ l → l ≤ n → 0 ≤ cz (r i) (r j) (r l) := fun i j l g1 g2 g3 => by
    by_cases e1 : i = j
    · rw [e1, (cz_self _ _).1]; exact Rat.le_refl
    by_cases e2 : j = l
    · rw [e2, (cz_self _ _).2.1]; exact Rat.le_refl
    by_cases e3 : i = 0 ∧ l = n
    · rw [e3.1, e3.2, ← r0, (cz_self _ _).2.2]; exact Rat.le_refl
    exact Rat.le_of_lt (ps (by omega) (by omega) g3 e3)
  have key : ∃ i1 s i2 t i3 u, El F r i1 (a + 1) s x ∧ El F r i2 (b + 1) t y ∧ El F r i3 (c + 1) u z ∧ (a = b → i1 = a ∧ i2 = b + 1) ∧ (b = c → i2 = b ∧ i3 = c + 1) := by
    by_cases e1 : a = b
    · obtain ⟨⟨s, f1⟩, t, f2⟩ := el_two (q5 e1)
      by_cases e2 : b = c
      · have := (q7 (by omega)).length_le
        have := pcs_len F (r a) (r (a + 1))
        simp at *
        omega
      · obtain ⟨i3, u, f3⟩ := el_of hz
        subst e1
        exact ⟨_, s, _, t, i3, u, f1, f2, f3, fun _ => ⟨rfl, rfl⟩, fun e => (e2 e).elim⟩
    · by_cases e2 : b = c
      · obtain ⟨⟨t, f2⟩, u, f3⟩ := el_two (q6 e2)
        obtain ⟨i1, s, f1⟩ := el_of hx
        subst e2
        exact ⟨i1, s, _, t, _, u, f1, f2, f3, fun e => (e1 e).elim, fun _ => ⟨rfl, rfl⟩⟩
      · obtain ⟨i1, s, f1⟩ := el_of hx
        obtain ⟨i2, t, f2⟩ := el_of hy
        obtain ⟨i3, u, f3⟩ := el_of hz
        exact ⟨i1, s, i2, t, i3, u, f1, f2, f3, fun e => (e1 e).elim, fun e => (e2 e).elim⟩
  obtain ⟨i1, s, i2, t, i3, u, f1, f2, f3, g1, g2⟩ := key
  rw [f1.eq, f2.eq, f3.eq]
  have k1 : i1 = a + 1 ∨ i1 = a := by have := f1.kind; omega
  have k2 : i2 = b + 1 ∨ i2 = b := by have := f2.kind; omega
  have k3 : i3 = c + 1 ∨ i3 = c := by have := f3.kind; omega
  -- a cut whose ends both stay is none
  have no1 : ¬ (i2 = b ∧ i1 = a + 1 ∧ a + 1 = b ∧ i3 = c + 1 ∧ c = b) := fun ⟨h1, h2, h3, h4, h5⟩ => by
    have c1 : 0 ≤ F.at (r b) := by
      rcases f1.kind with k | k
      · rw [← h3]; exact k.2
      · omega
    have c2 : 0 ≤ F.at (r (b + 1)) := by
      rcases f3.kind with k | k
      · rw [← h5]; exact k.2
      · omega
    rcases f2.kind with k | k
    · omega
    · have := k.2.1
      rw [h1] at this
      have := Rat.mul_nonneg c1 c2
      grind
  have no2 : ¬ (i1 = 0 ∧ a = 0 ∧ i3 = n ∧ c + 1 = n ∧ i2 = 1 ∧ b = 0) := fun ⟨h1, h2, h3, h4, h5, h6⟩ => by
    have c1 : 0 ≤ F.at (r 0) := by
      rcases f3.kind with k | k
      · rw [r0, ← h4]; exact k.2
      · omega
    have c2 : 0 ≤ F.at (r 1) := by
      rcases f2.kind with k | k
      · have := k.2; rw [h6] at this; exact this
      · omega
    rcases f1.kind with k | k
    · omega
    · have := k.2.1
      rw [h1, h2] at this
      have := Rat.mul_nonneg c1 c2
      grind
  refine tri_pos f1.t0 f1.t1 f2.t0 f2.t1 f3.t0 f3.t1 (fun p hp q hq w hw => ?_) ?_
  · simp only [List.mem_cons, List.not_mem_nil, or_false] at hp hq hw
    rcases hp with rfl | rfl <;> rcases hq with rfl | rfl <;> rcases hw with rfl | rfl <;> exact nn _ _ _ (by omega) (by omega) (by omega)
  · by_cases c0 : ∃ i, (i = i1 ∨ i = a + 1) ∧ ∃ j, (j = i2 ∨ j = b + 1) ∧ ∃ l, (l = i3 ∨ l = c + 1) ∧ i < j ∧ j < l ∧ ¬ (i = 0 ∧ l = n)
    · obtain ⟨i, hi, j, hj, l, hl, d1, d2, d3⟩ := c0
      exact ⟨r i, by rcases hi with rfl | rfl <;> simp, r j, by rcases hj with rfl | rfl <;> simp, r l, by rcases hl with rfl | rfl <;> simp, ps d1 d2 (by omega) d3⟩
    · exfalso
      have w : ∀ i j l, (i = i1 ∨ i = a + 1) → (j = i2 ∨ j = b + 1) → (l = i3 ∨ l = c + 1) → i < j → j < l → (i = 0 ∧ l = n) := fun i j l h1 h2 h3 h4 h5 => Classical.byContradiction fun h6 => c0 ⟨i, h1, j, h2, l, h3, h4, h5, h6⟩
      have w1 := w i1 i2 i3 (.inl rfl) (.inl rfl) (.inl rfl)
      have w2 := w i1 i2 (c + 1) (.inl rfl) (.inl rfl) (.inr rfl)
      have w3 := w i1 (b + 1) i3 (.inl rfl) (.inr rfl) (.inl rfl)
      have w4 := w i1 (b + 1) (c + 1) (.inl rfl) (.inr rfl) (.inr rfl)
      have w5 := w (a + 1) i2 i3 (.inr rfl) (.inl rfl) (.inl rfl)
      have w6 := w (a + 1) i2 (c + 1) (.inr rfl) (.inl rfl) (.inr rfl)
      have w7 := w (a + 1) (b + 1) i3 (.inr rfl) (.inr rfl) (.inl rfl)
      have w8 := w (a + 1) (b + 1) (c + 1) (.inr rfl) (.inr rfl) (.inr rfl)
      clear w c0 hs hx hy hz q5 q6 q7 f1 f2 f3 nn ps hr hr'
      rcases k1 with k1 | k1 <;> rcases k2 with k2 | k2 <;> rcases k3 with k3 | k3 <;> subst k1 <;> subst k2 <;> subst k3 <;> omega
/-! ### plain: the walk round what is left -/
theorem pcs_pp {F : Af} {c x : Q2} (h : 0 ≤ F.at c) (k : 0 ≤ F.at x) : pcs F c x = [x] := by
  have := Rat.mul_nonneg h k
  unfold pcs
  rw [if_neg (by grind), if_pos k]
  rfl
theorem pcs_pn {F : Af} {c x : Q2} (h : 0 < F.at c) (k : F.at x < 0) : F.at c * F.at x < 0 ∧ pcs F c x = [cutP F c x] := by
  have := Rat.mul_pos h (show 0 < -F.at x by grind)
  have l : F.at c * F.at x < 0 := by grind
  refine ⟨l, ?_⟩
  unfold pcs
  rw [if_pos l, if_neg (by grind)]
  rfl
theorem pcs_zn {F : Af} {c x : Q2} (h : F.at c = 0) (k : F.at x < 0) : pcs F c x = [] := by
  unfold pcs
  rw [h, Rat.zero_mul, if_neg (by grind), if_neg (by grind)]
  rfl
theorem pcs_nn {F : Af} {c x : Q2} (h : F.at c < 0) (k : F.at x < 0) : pcs F c x = [] := by
  have := Rat.mul_pos (show 0 < -F.at c by grind) (show 0 < -F.at x by grind)
  unfold pcs
  rw [if_neg (by grind), if_neg (by grind)]
  rfl
theorem pcs_nz {F : Af} {c x : Q2} (h : F.at c < 0) (k : F.at x = 0) : pcs F c x = [x] := by
  unfold pcs
  rw [k, Rat.mul_zero, if_neg (by grind), if_pos (by grind)]
  rfl
theorem pcs_np {F : Af} {c x : Q2} (h : F.at c < 0) (k : 0 < F.at x) : F.at c * F.at x < 0 ∧ pcs F c x = [cutP F c x, x] := by
  have := Rat.mul_pos (show 0 < -F.at c by grind) k
  have l : F.at c * F.at x < 0 := by grind
  refine ⟨l, ?_⟩
  unfold pcs
  rw [if_pos l, if_pos (by grind)]
  rfl
theorem sgn3 (x : Rat) : x < 0 ∨ x = 0 ∨ 0 < x := by grind
/-- a told side lies on a side, or on the line -/
def OnSide (F : Af) (ss : List (T2 Q2 Q2)) (s : T2 Q2 Q2) : Prop :=
  (∃ p q t1 t2, (⟨p, q⟩ : T2 Q2 Q2) ∈ ss ∧ t1 < t2 ∧ 0 ≤ t1 ∧ t2 ≤ 1 ∧ s.a = wayq p q t1 ∧ s.b = wayq p q t2) ∨ (F.at s.a = 0 ∧ F.at s.b = 0)
theorem OnSide.mono {F : Af} {ss ts : List (T2 Q2 Q2)} {s : T2 Q2 Q2} (h : OnSide F ss s) (k : ∀ x ∈ ss, x ∈ ts) : OnSide F ts s :=
  h.imp (fun ⟨p, q, t1, t2, h1, h2⟩ => ⟨p, q, t1, t2, k _ h1, h2⟩) id
mutual
theorem walkA {F : Af} : ∀ (xs : List Q2) (c : Q2), 0 ≤ F.at c → ∀ s ∈ sdf c (clw F c xs), OnSide F (sdf c xs) s
  | [], c, _, s, h => by simp [clw, sdf] at h
  | x :: xs, c, hc, s, h => by
    have tl : ∀ y ∈ sdf x xs, y ∈ sdf c (x :: xs) := fun y hy => List.mem_cons_of_mem _ hy
    have hd : (⟨c, x⟩ : T2 Q2 Q2) ∈ sdf c (x :: xs) := List.mem_cons_self
    unfold clw at h
    rcases sgn3 (F.at x) with k | k | k
    · rcases sgn3 (F.at c) with j | j | j
      · grind
      · rw [pcs_zn j k, List.nil_append] at h
        exact (walkB xs x c k j s h).mono tl
      · obtain ⟨l, e⟩ := pcs_pn j k
        obtain ⟨h0, t, t0, t1, et⟩ := cut_ok l
        rw [e] at h
        rcases List.mem_cons.mp h with h | h
        · subst h
          exact .inl ⟨c, x, 0, t, hd, t0, Rat.le_refl, Rat.le_of_lt t1, (way0 c x).symm, et⟩
        · exact (walkB xs x _ k h0 s h).mono tl
    · rw [pcs_pp hc (by grind)] at h
      rcases List.mem_cons.mp h with h | h
      · subst h
        exact .inl ⟨c, x, 0, 1, hd, by decide +kernel, Rat.le_refl, Rat.le_refl, (way0 c x).symm, (way1 c x).symm⟩
      · exact (walkA xs x (by grind) s h).mono tl
    · rw [pcs_pp hc (by grind)] at h
      rcases List.mem_cons.mp h with h | h
      · subst h
        exact .inl ⟨c, x, 0, 1, hd, by decide +kernel, Rat.le_refl, Rat.le_refl, (way0 c x).symm, (way1 c x).symm⟩
      · exact (walkA xs x (by grind) s h).mono tl
theorem walkB {F : Af} : ∀ (xs : List Q2) (c e : Q2), F.at c < 0 → F.at e = 0 → ∀ s ∈ sdf e (clw F c xs), OnSide F (sdf c xs) s
  | [], c, e, _, _, s, h => by simp [clw, sdf] at h
  | x :: xs, c, e, hc, he, s, h => by
    have tl : ∀ y ∈ sdf x xs, y ∈ sdf c (x :: xs) := fun y hy => List.mem_cons_of_mem _ hy
    have hd : (⟨c, x⟩ : T2 Q2 Q2) ∈ sdf c (x :: xs) := List.mem_cons_self
    unfold clw at h
    rcases sgn3 (F.at x) with k | k | k
    · rw [pcs_nn hc k, List.nil_append] at h
      exact (walkB xs x e k he s h).mono tl
    · rw [pcs_nz hc k] at h
      rcases List.mem_cons.mp h with h | h
      · subst h; exact .inr ⟨he, k⟩
      · exact (walkA xs x (by grind) s h).mono tl
    · obtain ⟨l, e1⟩ := pcs_np hc k
      obtain ⟨h0, t, t0, t1, et⟩ := cut_ok l
      rw [e1] at h
      rcases List.mem_cons.mp h with h | h
      · subst h; exact .inr ⟨he, h0⟩
      · rcases List.mem_cons.mp h with h | h
        · subst h
          exact .inl ⟨c, x, t, 1, hd, t1, Rat.le_of_lt t0, Rat.le_refl, et, (way1 c x).symm⟩
        · exact (walkA xs x (by grind) s h).mono tl
end
theorem clw_last {F : Af} {a : Q2} (ha : 0 ≤ F.at a) : ∀ (xs : List Q2) (c : Q2), ∃ w, clw F c (xs ++ [a]) = w ++ [a]
  | [], c => by
    refine ⟨if F.at c * F.at a < 0 then [cutP F c a] else [], ?_⟩
    show pcs F c a ++ [] = _
    unfold pcs
    rw [List.append_nil, if_pos ha]
  | x :: xs, c => by
    obtain ⟨w, e⟩ := clw_last ha xs x
    refine ⟨pcs F c x ++ w, ?_⟩
    show pcs F c x ++ clw F x (xs ++ [a]) = _
    rw [e, List.append_assoc]
theorem half_at {F : Af} {a : Q2} (ha : 0 ≤ F.at a) (xs : List Q2) : half F (xs ++ [a]) = clw F a (xs ++ [a]) ∧ ∃ w, half F (xs ++ [a]) = w ++ [a] := by
  have e : half F (xs ++ [a]) = clw F a (xs ++ [a]) := by
    unfold half
    rw [sd_last, clw_sdf]
  exact ⟨e, by rw [e]; exact clw_last ha xs a⟩
theorem half_side1 {F : Af} {a : Q2} (ha : 0 ≤ F.at a) (xs : List Q2) : ∀ s ∈ sd (half F (xs ++ [a])), OnSide F (sd (xs ++ [a])) s := by
  obtain ⟨e, w, ew⟩ := half_at ha xs
  intro s hs
  rw [ew, sd_last, ← ew, e] at hs
  rw [sd_last]
  exact walkA _ _ ha s hs
/-- a ring begun behind one of its corners -/
theorem rot_last {α : Type} {rs : List α} {a : α} (h : a ∈ rs) : ∃ xs ys, rs = xs ++ ys ∧ ∃ zs, ys ++ xs = zs ++ [a] := by
  obtain ⟨u, w, rfl⟩ := List.append_of_mem h
  exact ⟨u ++ [a], w, by simp, w ++ u, by simp⟩
theorem half_side {F : Af} {rs : List Q2} (h : ∃ a ∈ rs, 0 ≤ F.at a) : ∀ s ∈ sd (half F rs), OnSide F (sd rs) s := by
  obtain ⟨a, ha, pa⟩ := h
  obtain ⟨xs, ys, rfl, zs, e⟩ := rot_last ha
  obtain ⟨u, v, e1, e2⟩ := half_rot F xs ys
  intro s hs
  have hs' : s ∈ sd (half F (zs ++ [a])) := by
    rw [e1] at hs
    rw [← e, e2]
    exact (sd_rot_perm u v).mem_iff.mp hs
  exact (half_side1 pa zs s hs').mono fun x hx => by
    rw [← e] at hx
    exact (sd_rot_perm ys xs).mem_iff.mp hx
/-! sums over the sides -/
def wpl (F : Af) (f : Q2 → Q2 → Rat) (g : Q2 → Rat) (c x : Q2) : Rat :=
  if 0 ≤ F.at c then (if 0 ≤ F.at x then f c x else if 0 < F.at c then f c (cutP F c x) - g (cutP F c x) else -g c)
  else (if F.at x < 0 then 0 else if F.at x = 0 then g x else g (cutP F c x) + f (cutP F c x) x)
def ssum (f : Q2 → Q2 → Rat) (ss : List (T2 Q2 Q2)) : Rat := (ss.map fun s => f s.a s.b).sum
theorem ssum_nil (f : Q2 → Q2 → Rat) : ssum f [] = 0 := rfl
theorem ssum_cons (f : Q2 → Q2 → Rat) (s : T2 Q2 Q2) (ss : List (T2 Q2 Q2)) : ssum f (s :: ss) = f s.a s.b + ssum f ss := by
  unfold ssum; rw [List.map_cons, List.sum_cons]
theorem ssum_append (f : Q2 → Q2 → Rat) : ∀ (ss ts : List (T2 Q2 Q2)), ssum f (ss ++ ts) = ssum f ss + ssum f ts
  | [], ts => by rw [List.nil_append, ssum_nil, Rat.zero_add]
  | s :: ss, ts => by rw [List.cons_append, ssum_cons, ssum_cons, ssum_append f ss ts, Rat.add_assoc]
theorem ssum_perm {f : Q2 → Q2 → Rat} {ss ts : List (T2 Q2 Q2)} (h : ss.Perm ts) : ssum f ss = ssum f ts := by
  induction h with
  | nil => rfl
  | cons x _ ih => rw [ssum_cons, ssum_cons, ih]
  | swap x y l => rw [ssum_cons, ssum_cons, ssum_cons, ssum_cons]; grind
  | trans _ _ h1 h2 => exact h1.trans h2
theorem wpl_pp {F : Af} {f : Q2 → Q2 → Rat} {g : Q2 → Rat} {c x : Q2} (h : 0 ≤ F.at c) (k : 0 ≤ F.at x) : wpl F f g c x = f c x := by unfold wpl; rw [if_pos h, if_pos k]
theorem wpl_pn {F : Af} {f : Q2 → Q2 → Rat} {g : Q2 → Rat} {c x : Q2} (h : 0 < F.at c) (k : F.at x < 0) : wpl F f g c x = f c (cutP F c x) - g (cutP F c x) := by unfold wpl; rw [if_pos (by grind), if_neg (by grind), if_pos h]
theorem wpl_zn {F : Af} {f : Q2 → Q2 → Rat} {g : Q2 → Rat} {c x : Q2} (h : F.at c = 0) (k : F.at x < 0) : wpl F f g c x = -g c := by unfold wpl; rw [if_pos (by grind), if_neg (by grind), if_neg (by grind)]
theorem wpl_nn {F : Af} {f : Q2 → Q2 → Rat} {g : Q2 → Rat} {c x : Q2} (h : F.at c < 0) (k : F.at x < 0) : wpl F f g c x = 0 := by unfold wpl; rw [if_neg (by grind), if_pos k]
theorem wpl_nz {F : Af} {f : Q2 → Q2 → Rat} {g : Q2 → Rat} {c x : Q2} (h : F.at c < 0) (k : F.at x = 0) : wpl F f g c x = g x := by unfold wpl; rw [if_neg (by grind), if_neg (by grind), if_pos k]
theorem wpl_np {F : Af} {f : Q2 → Q2 → Rat} {g : Q2 → Rat} {c x : Q2} (h : F.at c < 0) (k : 0 < F.at x) : wpl F f g c x = g (cutP F c x) + f (cutP F c x) x := by unfold wpl; rw [if_neg (by grind), if_neg (by grind), if_neg (by grind)]
mutual
theorem sumA {F : Af} {f : Q2 → Q2 → Rat} {g : Q2 → Rat} (hg : ∀ u v, F.at u = 0 → F.at v = 0 → f u v = g v - g u) : ∀ (xs : List Q2) (c : Q2), 0 ≤ F.at c → 0 ≤ F.at ((c :: xs).getLast (by simp)) → ssum f (sdf c (clw F c xs)) = ssum (wpl F f g) (sdf c xs)
  | [], c, _, _ => rfl
  | x :: xs, c, hc, hl => by
    have hl' : 0 ≤ F.at ((x :: xs).getLast (by simp)) := by rwa [List.getLast_cons (by simp)] at hl
    show ssum f (sdf c (pcs F c x ++ clw F x xs)) = ssum (wpl F f g) (⟨c, x⟩ :: sdf x xs)
    rw [ssum_cons]
    show _ = wpl F f g c x + ssum (wpl F f g) (sdf x xs)
    rcases sgn3 (F.at x) with k | k | k
    · rcases sgn3 (F.at c) with j | j | j
      · exact absurd j (by grind)
      · rw [pcs_zn j k, List.nil_append, wpl_zn j k]
        have e := sumB hg xs x c k j hl'
        rw [← e]
        grind
      · obtain ⟨l, e⟩ := pcs_pn j k
        obtain ⟨h0, _⟩ := cut_ok l
        rw [e, wpl_pn j k]
        show ssum f (⟨c, cutP F c x⟩ :: sdf (cutP F c x) (clw F x xs)) = _
        rw [ssum_cons]
        have e := sumB hg xs x _ k h0 hl'
        rw [← e]
        grind
    · rw [wpl_pp hc (by grind), pcs_pp hc (by grind)]
      show ssum f (⟨c, x⟩ :: sdf x (clw F x xs)) = _
      rw [ssum_cons, sumA hg xs x (by grind) hl']
    · rw [wpl_pp hc (by grind), pcs_pp hc (by grind)]
      show ssum f (⟨c, x⟩ :: sdf x (clw F x xs)) = _
      rw [ssum_cons, sumA hg xs x (by grind) hl']
theorem sumB {F : Af} {f : Q2 → Q2 → Rat} {g : Q2 → Rat} (hg : ∀ u v, F.at u = 0 → F.at v = 0 → f u v = g v - g u) : ∀ (xs : List Q2) (c e : Q2), F.at c < 0 → F.at e = 0 → 0 ≤ F.at ((c :: xs).getLast (by simp)) → ssum f (sdf e (clw F c xs)) + g e = ssum (wpl F f g) (sdf c xs)
  | [], c, e, hc, _, hl => by
    rw [List.getLast_singleton] at hl
    exact absurd hc (by grind)
  | x :: xs, c, e, hc, he, hl => by
    have hl' : 0 ≤ F.at ((x :: xs).getLast (by simp)) := by rwa [List.getLast_cons (by simp)] at hl
    show ssum f (sdf e (pcs F c x ++ clw F x xs)) + g e = ssum (wpl F f g) (⟨c, x⟩ :: sdf x xs)
    rw [ssum_cons]
    show _ = wpl F f g c x + ssum (wpl F f g) (sdf x xs)
    rcases sgn3 (F.at x) with k | k | k
    · rw [wpl_nn hc k, pcs_nn hc k, List.nil_append, sumB hg xs x e k he hl', Rat.zero_add]
    · rw [wpl_nz hc k, pcs_nz hc k]
      show ssum f (⟨e, x⟩ :: sdf x (clw F x xs)) + _ = _
      rw [ssum_cons, sumA hg xs x (by grind) hl']
      have e2 := hg e x he k
      show f e x + _ + _ = _
      rw [e2]
      grind
    · obtain ⟨l, e1⟩ := pcs_np hc k
      obtain ⟨h0, _⟩ := cut_ok l
      rw [wpl_np hc k, e1]
      show ssum f (⟨e, cutP F c x⟩ :: ⟨cutP F c x, x⟩ :: sdf x (clw F x xs)) + _ = _
      rw [ssum_cons, ssum_cons, sumA hg xs x (by grind) hl']
      have e2 := hg e _ he h0
      show f e (cutP F c x) + (f (cutP F c x) x + _) + _ = _
      rw [e2]
      grind
end
theorem half_none {F : Af} {rs : List Q2} (h : ∀ a ∈ rs, F.at a < 0) : half F rs = [] := by
  unfold half
  refine List.flatMap_eq_nil_iff.mpr fun s hs => ?_
  obtain ⟨p, q⟩ := s
  obtain ⟨h1, h2⟩ := sd_mem hs
  exact pcs_nn (h p h1) (h q h2)
theorem ssum_zero {f : Q2 → Q2 → Rat} {ss : List (T2 Q2 Q2)} (h : ∀ s ∈ ss, f s.a s.b = 0) : ssum f ss = 0 := by
  induction ss with
  | nil => rfl
  | cons s ss ih => rw [ssum_cons, h s List.mem_cons_self, ih fun x hx => h x (List.mem_cons_of_mem _ hx), Rat.zero_add]
theorem ssum_congr {f g : Q2 → Q2 → Rat} {ss : List (T2 Q2 Q2)} (h : ∀ s ∈ ss, f s.a s.b = g s.a s.b) : ssum f ss = ssum g ss := by
  induction ss with
  | nil => rfl
  | cons s ss ih => rw [ssum_cons, ssum_cons, h s List.mem_cons_self, ih fun x hx => h x (List.mem_cons_of_mem _ hx)]
theorem half_sum (F : Af) {f : Q2 → Q2 → Rat} {g : Q2 → Rat} (hg : ∀ u v, F.at u = 0 → F.at v = 0 → f u v = g v - g u) (rs : List Q2) : ssum f (sd (half F rs)) = ssum (wpl F f g) (sd rs) := by
  by_cases h : ∃ a ∈ rs, 0 ≤ F.at a
  · obtain ⟨a, ha, pa⟩ := h
    obtain ⟨xs, ys, rfl, zs, e⟩ := rot_last ha
    obtain ⟨u, v, e1, e2⟩ := half_rot F xs ys
    rw [e1, ssum_perm (sd_rot_perm u v), ← e2, ssum_perm (sd_rot_perm xs ys), e]
    obtain ⟨e3, w, e4⟩ := half_at pa zs
    rw [e4, sd_last, ← e4, e3, sd_last]
    exact sumA hg _ a pa (by rw [List.getLast_cons (by simp), List.getLast_append_right (by simp)]; exact pa)
  · have h' : ∀ a ∈ rs, F.at a < 0 := fun a ha => Classical.byContradiction fun n => h ⟨a, ha, by grind⟩
    rw [half_none h']
    refine (ssum_zero fun s hs => ?_).symm
    obtain ⟨p, q⟩ := s
    obtain ⟨h1, h2⟩ := sd_mem hs
    exact wpl_nn (h' p h1) (h' q h2)
/-- what the two parts of a ring come to together -/
theorem ssum_add (f g : Q2 → Q2 → Rat) : ∀ ss : List (T2 Q2 Q2), ssum (fun a b => f a b + g a b) ss = ssum f ss + ssum g ss
  | [] => by rw [ssum_nil, ssum_nil, ssum_nil, Rat.zero_add]
  | s :: ss => by rw [ssum_cons, ssum_cons, ssum_cons, ssum_add f g ss]; grind
theorem sdf_tel (φ : Q2 → Rat) : ∀ (a : Q2) (xs : List Q2), ssum (fun p q => φ q - φ p) (sdf a xs) = φ ((a :: xs).getLast (by simp)) - φ a
  | a, [] => by
    show (0 : Rat) = φ a - φ a
    grind
  | a, x :: xs => by
    show ssum _ (⟨a, x⟩ :: sdf x xs) = _
    have e : (a :: x :: xs).getLast (by simp) = (x :: xs).getLast (by simp) := List.getLast_cons (by simp)
    rw [ssum_cons, sdf_tel φ x xs, e]
    grind
theorem sd_tel (φ : Q2 → Rat) (rs : List Q2) : ssum (fun p q => φ q - φ p) (sd rs) = 0 := by
  by_cases h : rs = []
  · subst h; rfl
  · rw [sd_cons_last h, sdf_tel, List.getLast_cons h]
    grind
theorem halves_sum (F : Af) {f : Q2 → Q2 → Rat} {g : Q2 → Rat} (hg : ∀ u v, F.at u = 0 → F.at v = 0 → f u v = g v - g u) (ha : ∀ c x t, c ≠ x → 0 < t → t < 1 → f c (wayq c x t) + f (wayq c x t) x = f c x) (rs : List Q2) :
    ssum f (sd (half F rs)) + ssum f (sd (half F.neg rs)) = ssum f (sd rs) := by
  rw [half_sum F hg, half_sum F.neg (g := g) (fun u v hu hv => hg u v (by rw [Af.neg_at] at hu; grind) (by rw [Af.neg_at] at hv; grind)), ← ssum_add]
  have e : ∀ c x, wpl F f g c x + wpl F.neg f g c x = f c x + ((if F.at x = 0 then g x else 0) - (if F.at c = 0 then g c else 0)) := fun c x => by
    have n1 := F.neg_at c
    have n2 := F.neg_at x
    have cut : F.at c * F.at x < 0 → f c (cutP F c x) + f (cutP F c x) x = f c x := fun h => by
      obtain ⟨h0, t, t0, t1, et⟩ := cut_ok h
      rw [et]
      refine ha c x t (fun e => ?_) t0 t1
      rw [e] at h
      rcases sgn3 (F.at x) with k | k | k
      · have := Rat.mul_pos (show 0 < -F.at x by grind) (show 0 < -F.at x by grind); grind
      · rw [k, Rat.mul_zero] at h; exact Rat.lt_irrefl h
      · have := Rat.mul_pos k k; grind
    rcases sgn3 (F.at c) with j | j | j
    · rcases sgn3 (F.at x) with k | k | k
      · rw [wpl_nn j k, wpl_pp (by grind) (by grind), if_neg (by grind), if_neg (by grind)]; grind
      · rw [wpl_nz j k, wpl_pp (by grind) (by grind), if_pos k, if_neg (by grind)]; grind
      · rw [wpl_np j k, wpl_pn (by grind) (by grind), if_neg (by grind), if_neg (by grind), cut_neg]
        have := cut (pcs_np j k).1
        grind
    · rcases sgn3 (F.at x) with k | k | k
      · rw [wpl_zn j k, wpl_pp (by grind) (by grind), if_neg (by grind), if_pos j]; grind
      · rw [wpl_pp (by grind) (by grind), wpl_pp (by grind) (by grind), if_pos k, if_pos j]
        have := hg c x j k
        grind
      · rw [wpl_pp (by grind) (by grind), wpl_zn (by grind) (by grind), if_neg (by grind), if_pos j]; grind
    · rcases sgn3 (F.at x) with k | k | k
      · rw [wpl_pn j k, wpl_np (by grind) (by grind), if_neg (by grind), if_neg (by grind), cut_neg]
        have := cut (pcs_pn j k).1
        grind
      · rw [wpl_pp (by grind) (by grind), wpl_nz (by grind) (by grind), if_pos k, if_neg (by grind)]; grind
      · rw [wpl_pp (by grind) (by grind), wpl_nn (by grind) (by grind), if_neg (by grind), if_neg (by grind)]; grind
  rw [ssum_congr (g := fun c x => f c x + ((if F.at x = 0 then g x else 0) - (if F.at c = 0 then g c else 0))) fun s _ => e s.a s.b, ssum_add f (fun c x => (if F.at x = 0 then g x else 0) - (if F.at c = 0 then g c else 0)), sd_tel (fun x => if F.at x = 0 then g x else 0)]
  grind
/-! ### plain: the inside of what is left -/
theorem ord_side_nn {rs : List Q2} (hc : OrdC rs) {s : T2 Q2 Q2} (hs : s ∈ sd rs) {p : Q2} (hp : p ∈ rs) : 0 ≤ cz s.a s.b p ∧ (p ≠ s.a → p ≠ s.b → 0 < cz s.a s.b p) := by
  have hne : rs ≠ [] := fun e => by subst e; simp at hp
  rw [sd_cons_last hne, sdf_idx ⟨0, 0⟩] at hs
  obtain ⟨k, hk, e⟩ := List.mem_map.mp hs
  rw [List.mem_range'_1] at hk
  obtain ⟨m, hm, em⟩ := List.getElem_of_mem hp
  have ep : p = (rs.getLast hne :: rs).getD (m + 1) ⟨0, 0⟩ := by
    rw [List.getD_cons_succ, List.getD_eq_getElem?_getD, List.getElem?_eq_getElem hm, em]; rfl
  have r0 : (rs.getLast hne :: rs).getD 0 ⟨0, 0⟩ = (rs.getLast hne :: rs).getD rs.length ⟨0, 0⟩ := by
    obtain ⟨n, hn⟩ : ∃ n, rs.length = n + 1 := ⟨rs.length - 1, by omega⟩
    rw [hn, List.getD_cons_zero, List.getD_cons_succ, List.getD_eq_getElem?_getD, List.getElem?_eq_getElem (by omega), List.getLast_eq_getElem]
    simp only [Option.getD_some]
    congr 1
    omega
  have ps := @ordc_idx rs hc hne
  subst e
  rw [ep]
  simp only
  generalize hr : (fun k => (rs.getLast hne :: rs).getD k (⟨0, 0⟩ : Q2)) = r at *
  have hr' : ∀ k, (rs.getLast hne :: rs).getD k (⟨0, 0⟩ : Q2) = r k := fun k => congrFun hr k
  simp only [hr'] at ps r0 ⊢
  have key : r (m + 1) = r k ∨ r (m + 1) = r (k + 1) ∨ 0 < cz (r k) (r (k + 1)) (r (m + 1)) := by
    by_cases e1 : m = k
    · right; left; rw [e1]
    by_cases e2 : m + 1 = k
    · left; rw [e2]
    by_cases e4 : k = 0 ∧ m + 1 = rs.length
    · left; rw [e4.1, e4.2, r0]
    right; right
    by_cases e3 : m < k
    · rw [cz_cyc]
      exact ps (show m + 1 < k by omega) (show k < k + 1 by omega) (by omega) (by omega)
    · exact ps (by omega) (by omega) (by omega) (by omega)
  rcases key with e | e | h
  · rw [e]; exact ⟨by rw [(cz_self _ _).2.2]; exact Rat.le_refl, fun n => (n rfl).elim⟩
  · rw [e]; exact ⟨by rw [(cz_self _ _).2.1]; exact Rat.le_refl, fun _ n => (n rfl).elim⟩
  · exact ⟨Rat.le_of_lt h, fun _ _ => h⟩
theorem half_mem {F : Af} {rs : List Q2} {s : Q2} (h : s ∈ half F rs) : 0 ≤ F.at s ∧ ∃ p ∈ rs, ∃ q ∈ rs, ∃ t, 0 < t ∧ t < 1 ∧ s = wayq p q t := by
  unfold half at h
  obtain ⟨⟨p, q⟩, hs, h⟩ := List.mem_flatMap.mp h
  obtain ⟨h1, h2⟩ := sd_mem hs
  unfold pcs at h
  rcases List.mem_append.mp h with h | h
  · split at h
    · next z =>
      rw [List.mem_singleton] at h
      obtain ⟨h3, t, t0, t1, et⟩ := cut_ok z
      rw [h]
      exact ⟨by rw [h3]; exact Rat.le_refl, p, h1, q, h2, t, t0, t1, et⟩
    · simp at h
  · split at h
    · next z =>
      rw [List.mem_singleton] at h
      rw [h]
      exact ⟨z, q, h2, q, h2, 1 / 2, by decide +kernel, by decide +kernel, (way_self _ _).symm⟩
    · simp at h
theorem half_nn {F G : Af} {rs : List Q2} (h : ∀ p ∈ rs, 0 ≤ G.at p) : ∀ s ∈ half F rs, 0 ≤ G.at s := fun s hs => by
  obtain ⟨_, p, hp, q, hq, t, t0, t1, e⟩ := half_mem hs
  rw [e, way_at]
  exact comb_nn t0 t1 (h p hp) (h q hq)
theorem half_keeps {F : Af} {rs : List Q2} {p : Q2} (hp : p ∈ rs) (h : 0 ≤ F.at p) : p ∈ half F rs := by
  have hb : p ∈ (sd rs).map (·.b) := by
    obtain ⟨j, hj, e⟩ := List.getElem_of_mem hp
    obtain ⟨a, b, e1, _, e2, _⟩ := sd_at hj
    rw [ix_lt hj] at e2
    refine List.mem_map.mpr ⟨⟨a, b⟩, List.mem_of_getElem? e1, ?_⟩
    rw [← e]
    exact (Option.some.inj e2).symm
  obtain ⟨s, hs, e⟩ := List.mem_map.mp hb
  unfold half
  refine List.mem_flatMap.mpr ⟨s, hs, ?_⟩
  unfold pcs
  refine List.mem_append.mpr (.inr ?_)
  rw [if_pos (by rw [e]; exact h), e]
  exact List.mem_singleton_self _
theorem clw_two {F : Af} {a : Q2} (ha : 0 < F.at a) : ∀ (xs : List Q2) (n : Q2), F.at n < 0 → 2 ≤ (clw F n (xs ++ [a])).length
  | [], n, hn => by
    show 2 ≤ (pcs F n a ++ []).length
    rw [(pcs_np hn ha).2]
    simp
  | x :: xs, n, hn => by
    show 2 ≤ (pcs F n x ++ clw F x (xs ++ [a])).length
    rcases sgn3 (F.at x) with k | k | k
    · have := clw_two ha xs x k
      rw [List.length_append]; omega
    · obtain ⟨w, e⟩ := clw_last (F := F) (a := a) (by grind) xs x
      rw [pcs_nz hn k, e]
      simp only [List.length_append, List.length_cons, List.length_nil]; omega
    · obtain ⟨w, e⟩ := clw_last (F := F) (a := a) (by grind) xs x
      rw [(pcs_np hn k).2, e]
      simp only [List.length_append, List.length_cons, List.length_nil]; omega
theorem clw_three {F : Af} {a : Q2} (ha : 0 < F.at a) : ∀ (xs : List Q2) (c : Q2), (0 < F.at c ∨ (F.at c = 0 ∧ True)) → (∃ n ∈ xs, F.at n < 0) → (if 0 < F.at c then 3 else 2) ≤ (clw F c (xs ++ [a])).length
  | [], c, _, h => by obtain ⟨n, hn, _⟩ := h; simp at hn
  | x :: xs, c, hc, h => by
    show _ ≤ (pcs F c x ++ clw F x (xs ++ [a])).length
    rcases sgn3 (F.at x) with k | k | k
    · have h2 := clw_two ha xs x k
      rw [List.length_append]
      split
      · next z => rw [(pcs_pn z k).2]; simp only [List.length_cons, List.length_nil]; omega
      · omega
    · have hx : ∃ n ∈ xs, F.at n < 0 := by
        obtain ⟨n, hn, l⟩ := h
        rcases List.mem_cons.mp hn with e | hn
        · subst e; grind
        · exact ⟨n, hn, l⟩
      have h2 := clw_three ha xs x (.inr ⟨k, trivial⟩) hx
      rw [if_neg (by grind)] at h2
      rw [pcs_pp (by grind) (by grind)]
      simp only [List.length_append, List.length_cons, List.length_nil]
      split <;> omega
    · have hx : ∃ n ∈ xs, F.at n < 0 := by
        obtain ⟨n, hn, l⟩ := h
        rcases List.mem_cons.mp hn with e | hn
        · subst e; grind
        · exact ⟨n, hn, l⟩
      have h2 := clw_three ha xs x (.inl k) hx
      rw [if_pos k] at h2
      rw [pcs_pp (by grind) (by grind)]
      simp only [List.length_append, List.length_cons, List.length_nil]
      split <;> omega
theorem half_all {F : Af} {rs : List Q2} (h : ∀ p ∈ rs, 0 ≤ F.at p) : half F rs = rs := by
  have : ∀ (xs : List Q2) (a : Q2), 0 ≤ F.at a → (∀ p ∈ xs, 0 ≤ F.at p) → clw F a xs = xs := by
    intro xs
    induction xs with
    | nil => intro _ _ _; rfl
    | cons x xs ih =>
      intro a ha hx
      show pcs F a x ++ clw F x xs = _
      rw [pcs_pp ha (hx x List.mem_cons_self), ih x (hx x List.mem_cons_self) fun p hp => hx p (List.mem_cons_of_mem _ hp)]
      rfl
  by_cases e : rs = []
  · subst e; rfl
  · unfold half
    rw [sd_cons_last e, ← clw_sdf]
    exact this rs _ (h _ (List.getLast_mem e)) h
theorem half_rot_perm (F : Af) (xs ys : List Q2) : (half F (xs ++ ys)).Perm (half F (ys ++ xs)) := by
  obtain ⟨u, v, e1, e2⟩ := half_rot F xs ys
  rw [e1, e2]; exact List.perm_append_comm
theorem half_len {F : Af} {rs : List Q2} (h3 : 3 ≤ rs.length) (h : ∃ a ∈ rs, 0 < F.at a) : 3 ≤ (half F rs).length := by
  by_cases n : ∃ p ∈ rs, F.at p < 0
  · obtain ⟨a, ha, pa⟩ := h
    obtain ⟨xs, ys, rfl, zs, e⟩ := rot_last ha
    rw [(half_rot_perm F xs ys).length_eq, e, (half_at (by grind) zs).1]
    have := clw_three pa zs a (.inl pa) (by
      obtain ⟨p, hp, l⟩ := n
      have : p ∈ zs ++ [a] := by rw [← e]; exact (List.perm_append_comm.mem_iff).mp hp
      rcases List.mem_append.mp this with q | q
      · exact ⟨p, q, l⟩
      · rw [List.mem_singleton] at q; subst q; grind)
    rwa [if_pos pa] at this
  · rw [half_all fun p hp => by
      have := fun l => n ⟨p, hp, l⟩
      grind]
    exact h3
theorem half_le (F : Af) (rs : List Q2) : (half F rs).length ≤ 2 * rs.length := by
  unfold half
  rw [← sd_len rs]
  induction sd rs with
  | nil => simp
  | cons s ss ih =>
    rw [List.flatMap_cons, List.length_append, List.length_cons]
    have := pcs_len F s.a s.b
    omega
/-- two neighbours of a row between which a sign changes -/
theorem turn_at {α : Type} (P : α → Prop) : ∀ (x : α) (xs : List α), P x → (∃ z, (x :: xs).getLast? = some z ∧ ¬ P z) → ∃ u p q w, x :: xs = u ++ p :: q :: w ∧ P p ∧ ¬ P q
  | x, [], hx, ⟨z, e, n⟩ => by simp at e; subst e; exact (n hx).elim
  | x, y :: xs, hx, ⟨z, e, n⟩ => by
    by_cases hy : P y
    · obtain ⟨u, p, q, w, e2, h⟩ := turn_at P y xs hy ⟨z, by rw [List.getLast?_cons_cons] at e; exact e, n⟩
      exact ⟨x :: u, p, q, w, by rw [e2]; rfl, h⟩
    · exact ⟨[], x, y, xs, rfl, hx, hy⟩
theorem sdf_adj {α : Type} : ∀ (a : α) (u : List α) (p q : α) (w : List α), (⟨p, q⟩ : T2 α α) ∈ sdf a (u ++ p :: q :: w)
  | a, [], p, q, w => by
    show _ ∈ (⟨a, p⟩ :: ⟨p, q⟩ :: sdf q w : List (T2 α α))
    simp
  | a, x :: u, p, q, w => by
    show _ ∈ (⟨a, x⟩ :: sdf x (u ++ p :: q :: w) : List (T2 α α))
    exact List.mem_cons_of_mem _ (sdf_adj x u p q w)
/-- a straight function that is nowhere below 0 at the corners, and above at one, is above 0 inside -/
theorem in_pos {S : List Q2} (hc : OrdC S) (h3 : 3 ≤ S.length) {v : Q2} (hv : InQ S v) {G : Af} (hn : ∀ s ∈ S, 0 ≤ G.at s) (hp : ∃ b ∈ S, 0 < G.at b) : 0 < G.at v := by
  obtain ⟨b, hb, pb⟩ := hp
  obtain ⟨xs, ys, rfl⟩ := List.append_of_mem hb
  have hc' : OrdC (b :: ys ++ xs) := OrdC.rot (ys := b :: ys) hc
  have hv' : InQ (b :: ys ++ xs) v := InQ.rot (ys := b :: ys) hv
  have hn' : ∀ s ∈ b :: ys ++ xs, 0 ≤ G.at s := fun s hs => hn s ((List.perm_append_comm.mem_iff).mp hs)
  have hl : (ys ++ xs).length = (xs ++ b :: ys).length - 1 := by simp only [List.length_append, List.length_cons]; omega
  rw [List.cons_append] at hc' hv' hn'
  generalize ys ++ xs = R at *
  match R, hl with
  | [], hl => rw [List.length_nil] at hl; omega
  | r :: R, hl =>
    have e1 : (⟨b, r⟩ : T2 Q2 Q2) ∈ sd (b :: r :: R) := by
      rw [sd_cons_last (by simp)]
      exact sdf_adj _ [] b r R
    obtain ⟨l, hl2⟩ : ∃ l, (r :: R).getLast? = some l := ⟨_, List.getLast?_eq_some_getLast (by simp)⟩
    have e2 : (⟨l, b⟩ : T2 Q2 Q2) ∈ sd (b :: r :: R) := by
      unfold sd
      rw [List.getLast?_cons_cons, hl2]
      exact List.mem_cons_self
    have p1 : 0 < cz b r v := hv' _ e1
    have p2 : ¬ 0 < cz b l v := fun h => by
      have h2 : 0 < cz l b v := hv' _ e2
      rw [cz_sw] at h2
      grind
    obtain ⟨u, p, q, w, e, k1, k2⟩ := turn_at (fun x => 0 < cz b x v) r R p1 ⟨l, hl2, p2⟩
    have e3 : (⟨p, q⟩ : T2 Q2 Q2) ∈ sd (b :: r :: R) := by
      rw [sd_cons_last (by simp), e]
      exact sdf_adj _ (b :: u) p q w
    have p3 : 0 < cz p q v := hv' _ e3
    have p4 : 0 < cz b p q := hc' _ _ _ (List.Sublist.cons_cons _ (by rw [e]; exact (List.Sublist.trans (by simp) (List.sublist_append_right u (p :: q :: w)))))
    have m1 : p ∈ r :: R := by rw [e]; simp
    have m2 : q ∈ r :: R := by rw [e]; simp
    have g1 := hn' p (List.mem_cons_of_mem _ m1)
    have g2 := hn' q (List.mem_cons_of_mem _ m2)
    have id : cz b p q * G.at v = cz p q v * G.at b + (-cz b q v) * G.at p + cz b p v * G.at q := by unfold cz Af.at; grind
    have t1 := Rat.mul_pos p3 pb
    have t2 := Rat.mul_nonneg (show 0 ≤ -cz b q v by grind) g1
    have t3 := Rat.mul_nonneg (show 0 ≤ cz b p v by grind) g2
    have : 0 < cz b p q * G.at v := by grind
    exact Classical.byContradiction fun n => by
      have := Rat.mul_nonneg (show 0 ≤ cz b p q by grind) (show 0 ≤ -G.at v by grind)
      grind
/-- the line of a side as a straight function -/
def lnA (p q : Q2) : Af := ⟨-(q.b - p.b), q.a - p.a, (q.b - p.b) * p.a - (q.a - p.a) * p.b⟩
theorem lnA_at (p q v : Q2) : (lnA p q).at v = cz p q v := by unfold lnA Af.at cz; grind
theorem side_third {rs : List Q2} (hc : OrdC rs) (h3 : 3 ≤ rs.length) {s : T2 Q2 Q2} (hs : s ∈ sd rs) : ∃ r ∈ rs, 0 < cz s.a s.b r := by
  by_cases h : ∃ r ∈ rs, r ≠ s.a ∧ r ≠ s.b
  · obtain ⟨r, hr, n1, n2⟩ := h
    exact ⟨r, hr, (ord_side_nn hc hs hr).2 n1 n2⟩
  · exfalso
    have all : ∀ r ∈ rs, r = s.a ∨ r = s.b := fun r hr => Classical.byContradiction fun n => h ⟨r, hr, fun e => n (.inl e), fun e => n (.inr e)⟩
    match rs, h3 with
    | x :: y :: z :: _, _ =>
      have p := hc x y z (by simp)
      have c := cz_self
      rcases all x (by simp) with e1 | e1 <;> rcases all y (by simp) with e2 | e2 <;> rcases all z (by simp) with e3 | e3 <;> rw [e1, e2, e3] at p <;> first
        | (rw [(cz_self _ _).1] at p; exact Rat.lt_irrefl p)
        | (rw [(cz_self _ _).2.1] at p; exact Rat.lt_irrefl p)
        | (rw [(cz_self _ _).2.2] at p; exact Rat.lt_irrefl p)
theorem half_in {F : Af} {rs : List Q2} (hc : OrdC rs) (h3 : 3 ≤ rs.length) (hp : ∃ a ∈ rs, 0 < F.at a) (v : Q2) : InQ (half F rs) v ↔ InQ rs v ∧ 0 < F.at v := by
  have hoc := half_ord F hc h3
  have hl := half_len h3 hp
  obtain ⟨a, ha, pa⟩ := hp
  have ka := half_keeps ha (by grind : 0 ≤ F.at a)
  constructor
  · intro hv
    refine ⟨fun s hs => ?_, in_pos hoc hl hv (fun s hs => (half_mem hs).1) ⟨a, ka, pa⟩⟩
    rw [← lnA_at]
    have nn : ∀ x ∈ half F rs, 0 ≤ (lnA s.a s.b).at x := half_nn fun p hp => by rw [lnA_at]; exact (ord_side_nn hc hs hp).1
    refine in_pos hoc hl hv nn ?_
    refine Classical.byContradiction fun n => ?_
    have z : ∀ x ∈ half F rs, (lnA s.a s.b).at x = 0 := fun x hx => by
      have h1 := nn x hx
      have h2 : ¬ 0 < (lnA s.a s.b).at x := fun h => n ⟨x, hx, h⟩
      grind
    obtain ⟨r, hr, pr⟩ := side_third hc h3 hs
    have pr' : 0 < (lnA s.a s.b).at r := by rw [lnA_at]; exact pr
    match hh : half F rs, hl with
    | x :: y :: w :: _, _ =>
      rw [hh] at z hoc
      have q1 := hoc x y w (by simp)
      have q2 := cz_flat (lnA s.a s.b) (z x (by simp)) (z y (by simp)) r w
      rw [z w (by simp), Rat.mul_zero] at q2
      have := Rat.mul_pos q1 pr'
      grind
  · rintro ⟨hv, pv⟩ s hs
    rcases half_side ⟨a, ha, by grind⟩ s hs with ⟨p, q, t1, t2, h1, h2, _, _, ea, eb⟩ | ⟨z1, z2⟩
    · rw [ea, eb, cz_ways]
      exact Rat.mul_pos (by grind) (hv _ h1)
    · have n1 : a ≠ s.a := fun e => by rw [e] at pa; grind
      have n2 : a ≠ s.b := fun e => by rw [e] at pa; grind
      have q := (ord_side_nn hoc hs ka).2 n1 n2
      have id := cz_flat F z1 z2 a v
      have := Rat.mul_pos q pv
      exact Classical.byContradiction fun n => by
        have := Rat.mul_nonneg (show 0 ≤ -cz s.a s.b v by grind) (show 0 ≤ F.at a by grind)
        grind
/-! ### plain: rings of one inside are one ring -/
theorem ord_nodup {rs : List Q2} (hc : OrdC rs) (h3 : 3 ≤ rs.length) : rs.Nodup := by
  refine List.nodup_iff_pairwise_ne.mpr ?_
  refine List.pairwise_iff_getElem.mpr fun i j hi hj hij e => ?_
  by_cases h : j + 1 < rs.length
  · have := hc _ _ _ (sub3 hij (show j < j + 1 by omega) h)
    rw [e, (cz_self _ _).1] at this
    exact Rat.lt_irrefl this
  · by_cases h2 : 0 < i
    · have := hc _ _ _ (sub3 h2 hij hj)
      rw [e, (cz_self _ _).2.1] at this
      exact Rat.lt_irrefl this
    · have := hc _ _ _ (sub3 (show i < i + 1 by omega) (show i + 1 < j by omega) hj)
      rw [e, (cz_self _ _).2.2] at this
      exact Rat.lt_irrefl this
theorem sdf_nodup {α : Type} : ∀ (a : α) {xs : List α}, xs.Nodup → (sdf a xs).Nodup := fun a {xs} h => by
  have e : (sdf a xs).map (·.b) = xs := by
    have : ∀ (a : α) (xs : List α), (sdf a xs).map (·.b) = xs := by
      intro a xs
      induction xs generalizing a with
      | nil => rfl
      | cons x xs ih => show x :: (sdf x xs).map _ = _; rw [ih x]
    exact this a xs
  rw [← e] at h
  exact (List.pairwise_map.mp h).imp fun ne e => ne (by rw [e])
theorem sd_nodup {α : Type} {xs : List α} (h : xs.Nodup) : (sd xs).Nodup := by
  unfold sd
  cases xs.getLast? with
  | none => exact List.nodup_nil
  | some l => exact sdf_nodup l h
/-- a point inside -/
theorem in_exists {rs : List Q2} (hc : OrdC rs) (h3 : 3 ≤ rs.length) : ∃ v, InQ rs v := by
  match rs, h3 with
  | x :: y :: z :: w, h3 =>
    refine ⟨wayq (wayq x y (1 / 2)) z (1 / 3), fun s hs => ?_⟩
    have c1 := ord_side_nn hc hs (p := x) (by simp)
    have c2 := ord_side_nn hc hs (p := y) (by simp)
    have c3 := ord_side_nn hc hs (p := z) (by simp)
    have nd := ord_nodup hc h3
    have n1 : x ≠ y := fun e => by subst e; simp at nd
    have n2 : x ≠ z := fun e => by subst e; simp at nd
    have n3 : y ≠ z := fun e => by subst e; simp at nd
    rw [cz_way3, cz_way3]
    have one : 0 < cz s.a s.b x ∨ 0 < cz s.a s.b y ∨ 0 < cz s.a s.b z := by
      by_cases d1 : x ≠ s.a ∧ x ≠ s.b
      · exact .inl (c1.2 d1.1 d1.2)
      by_cases d2 : y ≠ s.a ∧ y ≠ s.b
      · exact .inr (.inl (c2.2 d2.1 d2.2))
      refine .inr (.inr (c3.2 (fun e => ?_) fun e => ?_))
      · have d1' : x = s.a ∨ x = s.b := Classical.byContradiction fun h => d1 ⟨fun e => h (.inl e), fun e => h (.inr e)⟩
        have d2' : y = s.a ∨ y = s.b := Classical.byContradiction fun h => d2 ⟨fun e => h (.inl e), fun e => h (.inr e)⟩
        rcases d1' with d1' | d1'
        · exact n2 (d1'.trans e.symm)
        · rcases d2' with d2' | d2'
          · exact n3 (d2'.trans e.symm)
          · exact n1 (d1'.trans d2'.symm)
      · have d1' : x = s.a ∨ x = s.b := Classical.byContradiction fun h => d1 ⟨fun e => h (.inl e), fun e => h (.inr e)⟩
        have d2' : y = s.a ∨ y = s.b := Classical.byContradiction fun h => d2 ⟨fun e => h (.inl e), fun e => h (.inr e)⟩
        rcases d1' with d1' | d1'
        · rcases d2' with d2' | d2'
          · exact n1 (d1'.trans d2'.symm)
          · exact n3 (d2'.trans e.symm)
        · exact n2 (d1'.trans e.symm)
    have := c1.1
    have := c2.1
    have := c3.1
    grind
theorem close_of {A B : List Q2} (hc : OrdC A) (h3 : 3 ≤ A.length) (h : ∀ v, InQ A v → InQ B v) {p : Q2} (hp : p ∈ A) : ClQ B p := by
  obtain ⟨v, hv⟩ := in_exists hc h3
  intro s hs
  refine Classical.byContradiction fun n => ?_
  have e1 : 0 < -cz s.a s.b p := by grind
  have e2 : 0 < cz s.a s.b v := h v hv s hs
  have d : 0 < -cz s.a s.b p + cz s.a s.b v := by grind
  have p1 := rat_div_pos e1 d
  have p2 := rat_div_pos e2 d
  have sm : -cz s.a s.b p / (-cz s.a s.b p + cz s.a s.b v) + cz s.a s.b v / (-cz s.a s.b p + cz s.a s.b v) = 1 := by grind
  have inA : InQ A (wayq p v (-cz s.a s.b p / (-cz s.a s.b p + cz s.a s.b v))) := fun t ht => by
    rw [cz_way3]
    exact comb_pos p1 (by grind) (ord_side_nn hc ht hp).1 (by have := hv t ht; grind) (.inr (hv t ht))
  have := h _ inA s hs
  rw [cz_way3] at this
  have et : -cz s.a s.b p / (-cz s.a s.b p + cz s.a s.b v) * (-cz s.a s.b p + cz s.a s.b v) = -cz s.a s.b p := by grind
  generalize -cz s.a s.b p / (-cz s.a s.b p + cz s.a s.b v) = t at *
  generalize cz s.a s.b p = P at *
  generalize cz s.a s.b v = V at *
  grind
theorem on_line {a b x : Q2} (ne : a ≠ b) (h : cz a b x = 0) : ∃ t, x = wayq a b t := by
  unfold cz at h
  by_cases d : b.a - a.a = 0
  · have d2 : b.b - a.b ≠ 0 := fun e => ne (by
      obtain ⟨a1, a2⟩ := a
      obtain ⟨b1, b2⟩ := b
      simp only at *
      congr 1 <;> grind)
    refine ⟨(x.b - a.b) / (b.b - a.b), ?_⟩
    obtain ⟨x1, x2⟩ := x
    unfold wayq
    simp only at *
    congr 1
    · have : x1 - a.a = 0 := by
        rw [d, Rat.zero_mul] at h
        have : (b.b - a.b) * (x1 - a.a) = 0 := by grind
        exact (Rat.mul_eq_zero.mp this).resolve_left d2
      rw [d]; grind
    · grind
  · refine ⟨(x.a - a.a) / (b.a - a.a), ?_⟩
    obtain ⟨x1, x2⟩ := x
    unfold wayq
    simp only at *
    congr 1
    · grind
    · have : (b.a - a.a) * (x2 - a.b - (x1 - a.a) / (b.a - a.a) * (b.b - a.b)) = 0 := by grind
      have := (Rat.mul_eq_zero.mp this).resolve_left d
      grind
theorem way_inj {a b : Q2} (ne : a ≠ b) {s t : Rat} (h : wayq a b s = wayq a b t) : s = t := by
  unfold wayq at h
  injection h with h1 h2
  by_cases d : b.a - a.a = 0
  · have d2 : b.b - a.b ≠ 0 := fun e => ne (by
      obtain ⟨a1, a2⟩ := a
      obtain ⟨b1, b2⟩ := b
      simp only at *
      congr 1 <;> grind)
    have : (s - t) * (b.b - a.b) = 0 := by grind
    have := (Rat.mul_eq_zero.mp this).resolve_right d2
    grind
  · have : (s - t) * (b.a - a.a) = 0 := by grind
    have := (Rat.mul_eq_zero.mp this).resolve_right d
    grind
/-- the sides ahead of and behind a side -/
theorem sd_next {α : Type} {xs : List α} {p q : α} (h : (⟨p, q⟩ : T2 α α) ∈ sd xs) : (∃ o, (⟨o, p⟩ : T2 α α) ∈ sd xs) ∧ ∃ r, (⟨q, r⟩ : T2 α α) ∈ sd xs := by
  have hne : xs ≠ [] := fun e => by subst e; simp [sd] at h
  have key : ∀ x ∈ xs, (∃ o, (⟨o, x⟩ : T2 α α) ∈ sd xs) ∧ ∃ r, (⟨x, r⟩ : T2 α α) ∈ sd xs := fun x hx => by
    obtain ⟨u, w, rfl⟩ := List.append_of_mem hx
    have pm := sd_rot_perm (x :: w) u
    have m : ∀ s, s ∈ sd (x :: w ++ u) → s ∈ sd (u ++ x :: w) := fun s hs => pm.mem_iff.mp hs
    refine ⟨?_, ?_⟩
    · rw [List.cons_append] at m
      refine ⟨(x :: (w ++ u)).getLast (by simp), m _ ?_⟩
      rw [sd_cons_last (by simp)]
      exact List.mem_cons_self
    · rw [List.cons_append] at m
      cases e : w ++ u with
      | nil =>
        rw [e] at m
        exact ⟨x, m _ (by simp [sd, sdf])⟩
      | cons y z =>
        rw [e] at m
        exact ⟨y, m _ (by rw [sd_cons_last (by simp)]; exact sdf_adj _ [] x y z)⟩
  obtain ⟨h1, h2⟩ := sd_mem h
  exact ⟨(key p h1).1, (key q h2).2⟩
theorem qside_ne {A : List Q2} (hc : OrdC A) (h3 : 3 ≤ A.length) {p q : Q2} (h : (⟨p, q⟩ : T2 Q2 Q2) ∈ sd A) : p ≠ q := fun e => by
  obtain ⟨r, _, hr⟩ := side_third hc h3 h
  simp only at hr
  rw [e, (cz_self _ _).1] at hr
  exact Rat.lt_irrefl hr
/-- a point of the closed ring that is on a side's line lies between the side's ends -/
theorem in_side {A : List Q2} (hc : OrdC A) (h3 : 3 ≤ A.length) {p q : Q2} (h : (⟨p, q⟩ : T2 Q2 Q2) ∈ sd A) {t : Rat} (hx : ClQ A (wayq p q t)) : 0 ≤ t ∧ t ≤ 1 := by
  obtain ⟨⟨o, ho⟩, r, hr⟩ := sd_next h
  have ne := qside_ne hc h3 h
  have q1 := hx _ ho
  have q2 := hx _ hr
  simp only at q1 q2
  rw [cz_way3, (cz_self _ _).2.1] at q1
  rw [cz_way3, (cz_self q r).2.2] at q2
  have noq : o ≠ q := fun e => by
    subst e
    obtain ⟨z, hz, k1⟩ := side_third hc h3 h
    have k2 := (ord_side_nn hc ho hz).1
    simp only at k1 k2
    rw [cz_sw] at k2
    grind
  have npr : r ≠ p := fun e => by
    subst e
    obtain ⟨z, hz, k1⟩ := side_third hc h3 h
    have k2 := (ord_side_nn hc hr hz).1
    simp only at k1 k2
    rw [cz_sw] at k2
    grind
  have p1 := (ord_side_nn hc ho (sd_mem h).2).2 (fun e => noq e.symm) (fun e => ne e.symm)
  have p2 := (ord_side_nn hc hr (sd_mem h).1).2 ne (fun e => npr e.symm)
  simp only at p1 p2
  constructor
  · refine Classical.byContradiction fun n => ?_
    have := Rat.mul_pos (show 0 < -t by grind) p1
    grind
  · refine Classical.byContradiction fun n => ?_
    have := Rat.mul_pos (show 0 < t - 1 by grind) p2
    grind
theorem same_side {A B : List Q2} (ca : OrdC A) (a3 : 3 ≤ A.length) (cb : OrdC B) (b3 : 3 ≤ B.length) (h : ∀ v, InQ A v ↔ InQ B v) {s : T2 Q2 Q2} (hs : s ∈ sd A) : s ∈ sd B := by
  obtain ⟨p, q⟩ := s
  have ne := qside_ne ca a3 hs
  obtain ⟨hp, hq⟩ := sd_mem hs
  have kp := close_of ca a3 (fun v hv => (h v).mp hv) hp
  have kq := close_of ca a3 (fun v hv => (h v).mp hv) hq
  have nm : ¬ InQ B (wayq p q (1 / 2)) := fun hv => by
    have := (h _).mpr hv _ hs
    simp only at this
    rw [cz_way3, (cz_self _ _).2.1, (cz_self _ _).2.2] at this
    grind
  have ⟨t, ht, hn⟩ : ∃ t, t ∈ sd B ∧ ¬ 0 < cz t.a t.b (wayq p q (1 / 2)) := Classical.byContradiction fun n => nm fun t ht => Classical.byContradiction fun z => n ⟨t, ht, z⟩
  obtain ⟨b, b'⟩ := t
  have k1 := kp _ ht
  have k2 := kq _ ht
  simp only at k1 k2 hn
  rw [cz_way3] at hn
  have z1 : cz b b' p = 0 := by grind
  have z2 : cz b b' q = 0 := by grind
  have neb := qside_ne cb b3 ht
  obtain ⟨α, eα⟩ := on_line neb z1
  obtain ⟨α', eα'⟩ := on_line neb z2
  have i1 := in_side cb b3 ht (by rw [← eα]; exact kp)
  have i2 := in_side cb b3 ht (by rw [← eα']; exact kq)
  have y1 : cz p q b = 0 := by rw [eα, eα', cz_ways, (cz_self _ _).2.2, Rat.mul_zero]
  have y2 : cz p q b' = 0 := by rw [eα, eα', cz_ways, (cz_self _ _).2.1, Rat.mul_zero]
  obtain ⟨hb, hb'⟩ := sd_mem ht
  have kb := close_of cb b3 (fun v hv => (h v).mpr hv) hb
  have kb' := close_of cb b3 (fun v hv => (h v).mpr hv) hb'
  obtain ⟨β, eβ⟩ := on_line ne y1
  obtain ⟨β', eβ'⟩ := on_line ne y2
  have j1 := in_side ca a3 hs (by rw [← eβ]; exact kb)
  have j2 := in_side ca a3 hs (by rw [← eβ']; exact kb')
  obtain ⟨v, hv⟩ := in_exists ca a3
  have v1 : 0 < cz p q v := hv _ hs
  have v2 : 0 < cz b b' v := (h v).mp hv _ ht
  have o1 : 0 < α' - α := by
    rw [eα, eα', cz_ways] at v1
    refine Classical.byContradiction fun n => ?_
    have := Rat.mul_nonneg (show 0 ≤ -(α' - α) by grind) (show 0 ≤ cz b b' v by grind)
    grind
  have o2 : 0 < β' - β := by
    rw [eβ, eβ', cz_ways] at v2
    refine Classical.byContradiction fun n => ?_
    have := Rat.mul_nonneg (show 0 ≤ -(β' - β) by grind) (show 0 ≤ cz p q v by grind)
    grind
  have c1 : wayq p q (β + α * (β' - β)) = wayq p q 0 := by
    rw [way0]
    have : wayq (wayq p q β) (wayq p q β') α = wayq p q (β + α * (β' - β)) := by
      unfold wayq
      simp only
      congr 1 <;> grind
    rw [← this, ← eβ, ← eβ', ← eα]
  have c2 : wayq p q (β + α' * (β' - β)) = wayq p q 1 := by
    rw [way1]
    have : wayq (wayq p q β) (wayq p q β') α' = wayq p q (β + α' * (β' - β)) := by
      unfold wayq
      simp only
      congr 1 <;> grind
    rw [← this, ← eβ, ← eβ', ← eα']
  have d1 := way_inj ne c1
  have d2 := way_inj ne c2
  have m1 := Rat.mul_nonneg i1.1 (show 0 ≤ β' - β by grind)
  have m2 := Rat.mul_nonneg (show 0 ≤ 1 - α' by grind) (show 0 ≤ β' - β by grind)
  have e1 : β = 0 := by grind
  have e2 : β' = 1 := by grind
  have f1 : b = p := by rw [eβ, e1, way0]
  have f2 : b' = q := by rw [eβ', e2, way1]
  rw [← f1, ← f2]
  exact ht
theorem perm_of_subs {α : Type} {xs ys : List α} (hx : xs.Nodup) (hy : ys.Nodup) (h1 : ∀ x ∈ xs, x ∈ ys) (h2 : ∀ y ∈ ys, y ∈ xs) : xs.Perm ys := (List.perm_ext_iff_of_nodup hx hy).mpr fun a => ⟨h1 a, h2 a⟩
theorem same_sides {A B : List Q2} (ca : OrdC A) (a3 : 3 ≤ A.length) (cb : OrdC B) (b3 : 3 ≤ B.length) (h : ∀ v, InQ A v ↔ InQ B v) : (sd A).Perm (sd B) :=
  perm_of_subs (sd_nodup (ord_nodup ca a3)) (sd_nodup (ord_nodup cb b3)) (fun _ hs => same_side ca a3 cb b3 h hs) fun _ hs => same_side cb b3 ca a3 (fun v => (h v).symm) hs
/-! ### plain: points in lowest terms as points of the rationals -/
def pq (r : P3) : Q2 := ⟨(r.a : Rat) / (r.c : Rat), (r.b : Rat) / (r.c : Rat)⟩
theorem rat_int_pos {n : Int} (h : 0 < n) : (0 : Rat) < (n : Rat) := Rat.intCast_pos.mpr h
theorem rat_int_ne {n : Int} (h : n ≠ 0) : (n : Rat) ≠ 0 := fun e => h (Rat.intCast_eq_zero_iff.mp e)
theorem det_pq {p q r : P3} (hp : 0 < p.c) (hq : 0 < q.c) (hr : 0 < r.c) : (det p q r : Rat) = (p.c : Rat) * (q.c : Rat) * (r.c : Rat) * cz (pq p) (pq q) (pq r) := by
  have h1 := rat_int_ne (n := p.c) (by omega)
  have h2 := rat_int_ne (n := q.c) (by omega)
  have h3 := rat_int_ne (n := r.c) (by omega)
  unfold det cz pq
  simp only [Rat.intCast_add, Rat.intCast_mul, Rat.intCast_sub]
  generalize (p.a : Rat) = pa at *
  generalize (p.b : Rat) = pb at *
  generalize (p.c : Rat) = pc at *
  generalize (q.a : Rat) = qa at *
  generalize (q.b : Rat) = qb at *
  generalize (q.c : Rat) = qc at *
  generalize (r.a : Rat) = ra at *
  generalize (r.b : Rat) = rb at *
  generalize (r.c : Rat) = rc at *
  grind
theorem rat_scale {k x : Rat} (hk : 0 < k) : (0 < k * x ↔ 0 < x) ∧ (k * x = 0 ↔ x = 0) ∧ (k * x < 0 ↔ x < 0) := by
  have e1 : 0 < x → 0 < k * x := fun h => Rat.mul_pos hk h
  have e2 : x < 0 → k * x < 0 := fun h => by
    have := Rat.mul_pos hk (show 0 < -x by grind)
    grind
  have e3 : x = 0 → k * x = 0 := fun h => by rw [h, Rat.mul_zero]
  rcases sgn3 x with h | h | h
  · have := e2 h
    refine ⟨⟨fun _ => ?_, e1⟩, ⟨fun _ => ?_, e3⟩, fun _ => h, e2⟩ <;> grind
  · have := e3 h
    refine ⟨⟨fun _ => ?_, e1⟩, ⟨fun _ => h, e3⟩, fun _ => ?_, e2⟩ <;> grind
  · have := e1 h
    refine ⟨⟨fun _ => h, e1⟩, ⟨fun _ => ?_, e3⟩, fun _ => ?_, e2⟩ <;> grind
theorem det_cz {p q r : P3} (hp : 0 < p.c) (hq : 0 < q.c) (hr : 0 < r.c) : (0 < det p q r ↔ 0 < cz (pq p) (pq q) (pq r)) ∧ (det p q r = 0 ↔ cz (pq p) (pq q) (pq r) = 0) ∧ (det p q r < 0 ↔ cz (pq p) (pq q) (pq r) < 0) := by
  have k := Rat.mul_pos (Rat.mul_pos (rat_int_pos hp) (rat_int_pos hq)) (rat_int_pos hr)
  obtain ⟨s1, s2, s3⟩ := rat_scale (x := cz (pq p) (pq q) (pq r)) k
  rw [← det_pq hp hq hr] at s1 s2 s3
  exact ⟨by rw [← s1]; exact Rat.intCast_pos.symm, by rw [← s2]; exact Rat.intCast_eq_zero_iff.symm, by rw [← s3]; exact Rat.intCast_neg_iff.symm⟩
theorem rat_cross {a b c d : Int} (hb : b ≠ 0) (hd : d ≠ 0) : (a : Rat) / (b : Rat) = (c : Rat) / (d : Rat) ↔ a * d = c * b := by
  have h1 := rat_int_ne hb
  have h2 := rat_int_ne hd
  have e : ((a * d : Int) : Rat) = ((c * b : Int) : Rat) ↔ a * d = c * b := Rat.intCast_inj
  rw [← e, Rat.intCast_mul, Rat.intCast_mul]
  generalize (a : Rat) = a at *
  generalize (b : Rat) = b at *
  generalize (c : Rat) = c at *
  generalize (d : Rat) = d at *
  constructor
  · intro h
    have : a / b * (b * d) = c / d * (b * d) := by rw [h]
    grind
  · intro h
    have : a / b * (b * d) = c / d * (b * d) := by grind
    have hb2 : b * d ≠ 0 := fun z => (Rat.mul_eq_zero.mp z).elim h1 h2
    grind
theorem pq_inj {p q : P3} (hp : 0 < p.c) (hq : 0 < q.c) (g1 : g3 p.a p.b p.c = 1) (g2 : g3 q.a q.b q.c = 1) (e : pq p = pq q) : p = q := by
  unfold pq at e
  injection e with e1 e2
  exact pt_same hp hq g1 g2 ((rat_cross (by omega) (by omega)).mp e1) ((rat_cross (by omega) (by omega)).mp e2)
theorem pq_low {a b n : Int} {r : P3} (w : Low3 a b n r) (hn : 0 < n) : pq r = ⟨(a : Rat) / (n : Rat), (b : Rat) / (n : Rat)⟩ := by
  have := w.pos
  unfold pq
  rw [(rat_cross (a := r.a) (b := r.c) (c := a) (d := n) (by omega) (by omega)).mpr w.ea, (rat_cross (a := r.b) (b := r.c) (c := b) (d := n) (by omega) (by omega)).mpr w.eb]
theorem pq_hd {n : Int} (hn : 0 < n) (u : P2) : pq (hd n u) = ⟨(u.a : Rat) / (n : Rat), (u.b : Rat) / (n : Rat)⟩ := pq_low (hd_low hn u) hn
/-- straight functions with whole coefficients -/
def afI (A B C : Int) : Af := ⟨(A : Rat), (B : Rat), (C : Rat)⟩
theorem afI_at {p : P3} (hp : 0 < p.c) (A B C : Int) : ((A * p.a + B * p.b + C * p.c : Int) : Rat) = (p.c : Rat) * (afI A B C).at (pq p) := by
  have h := rat_int_ne (n := p.c) (by omega)
  unfold afI Af.at pq
  simp only [Rat.intCast_add, Rat.intCast_mul]
  generalize (p.a : Rat) = pa at *
  generalize (p.b : Rat) = pb at *
  generalize (p.c : Rat) = pc at *
  grind
/-! ### plain: sizes of corners by the lines of the sides -/
/-- each side lies on a line of small whole numbers -/
def LS (m : Nat) (rs : List Q2) : Prop := ∀ s ∈ sd rs, ∃ A B C : Int, A.natAbs < 2 ^ m ∧ B.natAbs < 2 ^ m ∧ C.natAbs < 2 ^ m ∧ (afI A B C).at s.a = 0 ∧ (afI A B C).at s.b = 0 ∧ (A ≠ 0 ∨ B ≠ 0)
theorem ls_half {m : Nat} {F : Af} {rs : List Q2} (h : LS m rs) (hp : ∃ a ∈ rs, 0 ≤ F.at a) (hF : ∃ A B C : Int, A.natAbs < 2 ^ m ∧ B.natAbs < 2 ^ m ∧ C.natAbs < 2 ^ m ∧ (A ≠ 0 ∨ B ≠ 0) ∧ ∀ v, F.at v = 0 → (afI A B C).at v = 0) : LS m (half F rs) := by
  intro s hs
  rcases half_side hp s hs with ⟨p, q, t1, t2, hm, _, _, _, ea, eb⟩ | ⟨z1, z2⟩
  · obtain ⟨A, B, C, h1, h2, h3, h4, h5, h6⟩ := h _ hm
    simp only at h4 h5
    refine ⟨A, B, C, h1, h2, h3, ?_, ?_, h6⟩
    · rw [ea, way_at, h4, h5, Rat.mul_zero, Rat.mul_zero, Rat.add_zero]
    · rw [eb, way_at, h4, h5, Rat.mul_zero, Rat.mul_zero, Rat.add_zero]
  · obtain ⟨A, B, C, h1, h2, h3, h4, h5⟩ := hF
    exact ⟨A, B, C, h1, h2, h3, h5 _ z1, h5 _ z2, h4⟩
/-- a point on two lines of small numbers that are not along one another is small -/
theorem two_lines {m : Nat} {p : P3} (hc : 0 < p.c) (hg : g3 p.a p.b p.c = 1) {A B C D E F : Int} (hA : A.natAbs < 2 ^ m) (hB : B.natAbs < 2 ^ m) (hC : C.natAbs < 2 ^ m) (hD : D.natAbs < 2 ^ m) (hE : E.natAbs < 2 ^ m) (hF : F.natAbs < 2 ^ m)
    (h1 : A * p.a + B * p.b + C * p.c = 0) (h2 : D * p.a + E * p.b + F * p.c = 0) (nz : A * E - B * D ≠ 0) : Pt (m + m + 1) p := by
  have e1 : p.a * (A * E - B * D) = (B * F - C * E) * p.c := by grind
  have e2 : p.b * (A * E - B * D) = (C * D - A * F) * p.c := by grind
  have s1 := sz_sub (sz_mul hA hE) (sz_mul hB hD)
  have s2 := sz_sub (sz_mul hB hF) (sz_mul hC hE)
  have s3 := sz_sub (sz_mul hC hD) (sz_mul hA hF)
  generalize A * E - B * D = d at *
  generalize B * F - C * E = x at *
  generalize C * D - A * F = y at *
  have dv : p.c ∣ d := g3_dvd hg ⟨x, by rw [e1, Int.mul_comm]⟩ ⟨y, by rw [e2, Int.mul_comm]⟩ ⟨d, rfl⟩
  obtain ⟨k, hk⟩ := dv
  have kn : k ≠ 0 := fun e => nz (by rw [hk, e, Int.mul_zero])
  have ca : x = p.a * k := Int.eq_of_mul_eq_mul_right (show p.c ≠ 0 by omega) (by rw [← e1, hk]; grind)
  have cb : y = p.b * k := Int.eq_of_mul_eq_mul_right (show p.c ≠ 0 by omega) (by rw [← e2, hk]; grind)
  have le : ∀ z : Int, z.natAbs ≤ (z * k).natAbs := fun z => by
    rw [Int.natAbs_mul]
    exact Nat.le_mul_of_pos_right _ (by omega)
  exact ⟨hc, Nat.lt_of_le_of_lt (by rw [ca]; exact le _) s2, Nat.lt_of_le_of_lt (by rw [cb]; exact le _) s3, Nat.lt_of_le_of_lt (by rw [hk]; exact le _) s1, hg⟩
theorem afI_zero {p : P3} (hp : 0 < p.c) {A B C : Int} (h : (afI A B C).at (pq p) = 0) : A * p.a + B * p.b + C * p.c = 0 := by
  have := afI_at hp A B C
  rw [h, Rat.mul_zero] at this
  exact Rat.intCast_eq_zero_iff.mp this
theorem ls_pt {m : Nat} {rs : List Q2} (h : LS m rs) (hc : OrdC rs) (h3 : 3 ≤ rs.length) {p : P3} (hp : 0 < p.c) (hg : g3 p.a p.b p.c = 1) (hm : pq p ∈ rs) : Pt (m + m + 1) p := by
  have hb : pq p ∈ (sd rs).map (·.b) := by
    obtain ⟨j, hj, e⟩ := List.getElem_of_mem hm
    obtain ⟨a, b, e1, _, e2, _⟩ := sd_at hj
    rw [ix_lt hj] at e2
    refine List.mem_map.mpr ⟨⟨a, b⟩, List.mem_of_getElem? e1, ?_⟩
    rw [← e]
    exact (Option.some.inj e2).symm
  obtain ⟨⟨o, x⟩, hs, e⟩ := List.mem_map.mp hb
  simp only at e
  subst e
  obtain ⟨_, r, hr⟩ := sd_next hs
  obtain ⟨A, B, C, a1, a2, a3, a4, a5, a6⟩ := h _ hs
  obtain ⟨D, E, F, d1, d2, d3, d4, d5, d6⟩ := h _ hr
  simp only at a4 a5 d4 d5
  have nor : r ≠ o := fun e => by
    subst e
    obtain ⟨z, hz, k1⟩ := side_third hc h3 hr
    have k2 := (ord_side_nn hc hs hz).1
    simp only at k1 k2
    rw [cz_sw] at k2
    grind
  have ne := qside_ne hc h3 hr
  have c1 := (ord_side_nn hc hs (sd_mem hr).2).2 nor (fun e => ne e.symm)
  simp only at c1
  refine two_lines hp hg a1 a2 a3 d1 d2 d3 (afI_zero hp a5) (afI_zero hp d4) fun z => ?_
  -- both lines are one: o, p, r lie on it
  have z' : (A : Rat) * (E : Rat) - (B : Rat) * (D : Rat) = 0 := by rw [← Rat.intCast_mul, ← Rat.intCast_mul, ← Rat.intCast_sub, z]; rfl
  have nAB : (A : Rat) ≠ 0 ∨ (B : Rat) ≠ 0 := a6.imp rat_int_ne rat_int_ne
  have nDE : (D : Rat) ≠ 0 ∨ (E : Rat) ≠ 0 := d6.imp rat_int_ne rat_int_ne
  generalize hx : pq p = x at *
  unfold afI Af.at at a4 a5 d4 d5
  simp only at a4 a5 d4 d5
  generalize (A : Rat) = A' at *
  generalize (B : Rat) = B' at *
  generalize (C : Rat) = C' at *
  generalize (D : Rat) = D' at *
  generalize (E : Rat) = E' at *
  generalize (F : Rat) = F' at *
  unfold cz at c1
  -- differences
  have u1 : A' * (x.a - o.a) + B' * (x.b - o.b) = 0 := by grind
  have u2 : D' * (r.a - x.a) + E' * (r.b - x.b) = 0 := by grind
  have u3 : A' * ((x.a - o.a) * (r.b - x.b) - (x.b - o.b) * (r.a - x.a)) * D' = 0 ∧ A' * ((x.a - o.a) * (r.b - x.b) - (x.b - o.b) * (r.a - x.a)) * E' = 0 ∧ B' * ((x.a - o.a) * (r.b - x.b) - (x.b - o.b) * (r.a - x.a)) * D' = 0 ∧ B' * ((x.a - o.a) * (r.b - x.b) - (x.b - o.b) * (r.a - x.a)) * E' = 0 := by
    refine ⟨?_, ?_, ?_, ?_⟩ <;> grind
  have c2 : (x.a - o.a) * (r.b - x.b) - (x.b - o.b) * (r.a - x.a) ≠ 0 := fun e => by grind
  generalize (x.a - o.a) * (r.b - x.b) - (x.b - o.b) * (r.a - x.a) = w at *
  obtain ⟨w1, w2, w3, w4⟩ := u3
  have no : ∀ {u v : Rat}, u ≠ 0 → v ≠ 0 → u * w * v = 0 → False := fun hu hv h => (Rat.mul_eq_zero.mp h).elim (fun h => (Rat.mul_eq_zero.mp h).elim hu c2) hv
  rcases nAB with n1 | n1 <;> rcases nDE with n2 | n2
  · exact no n1 n2 w1
  · exact no n1 n2 w2
  · exact no n1 n2 w3
  · exact no n1 n2 w4
/-- a ring of more corners than it had has no more than one more -/
theorem sd_b2 {α : Type} (xs : List α) : (sd xs).map (·.b) = xs := by
  by_cases h : xs = []
  · subst h; rfl
  · rw [sd_cons_last h]
    have : ∀ (a : α) (xs : List α), (sdf a xs).map (·.b) = xs := by
      intro a xs
      induction xs generalizing a with
      | nil => rfl
      | cons x xs ih => show x :: (sdf x xs).map _ = _; rw [ih x]
    exact this _ _
theorem half_pos (F : Af) (rs : List Q2) : (half F rs).filter (fun p => decide (0 < F.at p)) = rs.filter (fun p => decide (0 < F.at p)) := by
  have key : ∀ ss : List (T2 Q2 Q2), (ss.flatMap fun s => pcs F s.a s.b).filter (fun p => decide (0 < F.at p)) = (ss.map (·.b)).filter (fun p => decide (0 < F.at p)) := by
    intro ss
    induction ss with
    | nil => rfl
    | cons s ss ih =>
      rw [List.flatMap_cons, List.filter_append, ih, List.map_cons, List.filter_cons]
      have e : (pcs F s.a s.b).filter (fun p => decide (0 < F.at p)) = if 0 < F.at s.b then [s.b] else [] := by
        unfold pcs
        rw [List.filter_append]
        have c : (if F.at s.a * F.at s.b < 0 then [cutP F s.a s.b] else []).filter (fun p => decide (0 < F.at p)) = [] := by
          split
          · next z =>
            have := (cut_ok z).1
            rw [List.filter_cons, this, if_neg (by simp [Rat.lt_irrefl])]
            rfl
          · rfl
        rw [c, List.nil_append]
        by_cases z : 0 < F.at s.b
        · rw [if_pos (by grind), if_pos z, List.filter_cons, if_pos (by simpa using z)]; rfl
        · rw [if_neg z]
          by_cases w : 0 ≤ F.at s.b
          · rw [if_pos w, List.filter_cons, if_neg (by simpa using z)]; rfl
          · rw [if_neg w]; rfl
      rw [e]
      by_cases z : 0 < F.at s.b
      · rw [if_pos z, if_pos (by simpa using z)]; rfl
      · rw [if_neg z, if_neg (by simpa using z)]; rfl
  unfold half
  rw [key, sd_b2]
theorem few_flat {F : Af} {L : List Q2} (hc : OrdC L) (hp : ∃ a ∈ L, 0 < F.at a) : (L.filter (fun p => decide (F.at p = 0))).length ≤ 2 := by
  obtain ⟨a, ha, pa⟩ := hp
  match hm : L.filter (fun p => decide (F.at p = 0)) with
  | [] => simp
  | [_] => simp
  | [_, _] => simp
  | x :: y :: z :: w =>
    exfalso
    have sub : [x, y, z].Sublist L := List.Sublist.trans (by rw [hm]; simp) (List.filter_sublist (p := fun p => decide (F.at p = 0)))
    have fx : ∀ p ∈ L.filter (fun p => decide (F.at p = 0)), F.at p = 0 := fun p h => by
      have := (List.mem_filter.mp h).2
      simpa using this
    rw [hm] at fx
    have h1 := hc _ _ _ sub
    have h2 := cz_flat F (fx x (by simp)) (fx y (by simp)) a z
    rw [fx z (by simp), Rat.mul_zero] at h2
    have := Rat.mul_pos h1 pa
    grind
theorem half_grow {F : Af} {rs : List Q2} (hc : OrdC rs) (h3 : 3 ≤ rs.length) (hp : ∃ a ∈ rs, 0 < F.at a) : (half F rs).length ≤ rs.length + 1 := by
  by_cases n : ∃ p ∈ rs, F.at p < 0
  · have hh := half_ord F hc h3
    have hq : ∃ a ∈ half F rs, 0 < F.at a := by
      obtain ⟨a, ha, pa⟩ := hp
      exact ⟨a, half_keeps ha (by grind), pa⟩
    have h2 := few_flat hh hq
    have part : ∀ L : List Q2, (∀ p ∈ L, 0 ≤ F.at p) → L.length = (L.filter (fun p => decide (0 < F.at p))).length + (L.filter (fun p => decide (F.at p = 0))).length := by
      intro L
      induction L with
      | nil => intro _; rfl
      | cons x L ih =>
        intro h
        have := ih fun p hp => h p (List.mem_cons_of_mem _ hp)
        have hx := h x List.mem_cons_self
        by_cases z : 0 < F.at x
        · rw [List.filter_cons, if_pos (by simpa using z), List.filter_cons, if_neg (by simp; grind), List.length_cons, List.length_cons]; omega
        · have z2 : F.at x = 0 := by grind
          rw [List.filter_cons, if_neg (by simpa using z), List.filter_cons, if_pos (by simpa using z2), List.length_cons, List.length_cons]; omega
    have e := part (half F rs) fun p hp => (half_mem hp).1
    rw [half_pos] at e
    have lt : (rs.filter (fun p => decide (0 < F.at p))).length < rs.length := by
      obtain ⟨p, hp, l⟩ := n
      refine List.length_filter_lt_length_iff_exists.mpr ⟨p, hp, ?_⟩
      simp
      grind
    omega
  · rw [half_all fun p hp => by
      have := fun l => n ⟨p, hp, l⟩
      grind]
    omega
/-! ### plain: lines that meet -/
structure SzQ (n : Nat) (p : P3) : Prop where
  sa : p.a.natAbs < 2 ^ n
  sb : p.b.natAbs < 2 ^ n
  sc : p.c.natAbs < 2 ^ n
def crs (p q : P3) : P3 := ⟨p.b * q.c - p.c * q.b, p.c * q.a - p.a * q.c, p.a * q.b - p.b * q.a⟩
theorem crs_ok {p q : P3} {n : Nat} (hp : SzQ n p) (hq : SzQ n q) (h : n ≤ 5000) : m_crossed p q = some (crs p q) ∧ SzQ (n + n + 1) (crs p q) := by
  refine ⟨?_, sz_sub (sz_mul hp.sb hq.sc) (sz_mul hp.sc hq.sb), sz_sub (sz_mul hp.sc hq.sa) (sz_mul hp.sa hq.sc), sz_sub (sz_mul hp.sa hq.sb) (sz_mul hp.sb hq.sa)⟩
  unfold m_crossed crs
  rw [mulG_ok _ _ hp.sb hq.sc (by omega), mulG_ok _ _ hp.sc hq.sb (by omega), mulG_ok _ _ hp.sc hq.sa (by omega), mulG_ok _ _ hp.sa hq.sc (by omega), mulG_ok _ _ hp.sa hq.sb (by omega), mulG_ok _ _ hp.sb hq.sa (by omega)]
  rfl
/-! ### plain: what the law reckons of rings of any points -/
theorem loopL_zip {α β τ ρ : Type} {f : α → τ → Option (Lp τ ρ)} {g : β → τ → Option (Lp τ ρ)} : ∀ {xs : List α} {ys : List β}, xs.length = ys.length → (∀ (j : Nat) x y, xs[j]? = some x → ys[j]? = some y → ∀ s, f x s = g y s) → ∀ s, loopL f xs s = loopL g ys s
  | [], [], _, _, s => rfl
  | [], _ :: _, h, _, _ => by simp at h
  | _ :: _, [], h, _, _ => by simp at h
  | x :: xs, y :: ys, h, e, s => by
    show (f x s).bind _ = (g y s).bind _
    rw [e 0 x y rfl rfl s]
    cases g y s with
    | none => rfl
    | some o => cases o with
      | nxt t => exact loopL_zip (by simpa using h) (fun j a b ha hb => e (j + 1) a b (by simpa using ha) (by simpa using hb)) t
      | brk t => rfl
      | ret r => rfl
theorem sg_lt {n : Int} : sg n < 0 ↔ n < 0 := by unfold sg; (repeat' split) <;> omega
theorem sg_eq {n : Int} : sg n = 0 ↔ n = 0 := by unfold sg; (repeat' split) <;> omega
theorem sg_gt {n : Int} : 0 < sg n ↔ 0 < n := by unfold sg; (repeat' split) <;> omega
theorem within_ok {n : Nat} {R : List P3} (hR : ∀ p ∈ R, Pt n p) {v : P3} (hv : Pt n v) (hn : n ≤ 3000) (hl : R.length ≤ 1000) :
    ∃ z, m__law_within R v = some z ∧ ((z = 1 ∧ ∀ s ∈ sd R, 0 < det s.a s.b v) ∨ (z = 0 ∧ ∃ s ∈ sd R, det s.a s.b v < 0) ∨ (z = -1 ∧ (∀ s ∈ sd R, 0 ≤ det s.a s.b v) ∧ ∃ s ∈ sd R, det s.a s.b v = 0)) := by
  unfold m__law_within
  rw [rngOk_ok (by omega) (by omega), Option.bind_some]
  rw [loopL_zip (ys := sd R) (g := fun (s : T2 P3 P3) (st : Int) => if det s.a s.b v < 0 then some (.ret 0) else some (.nxt (if det s.a s.b v = 0 then -1 else st))) (by rw [rangeL_len, sd_len]; omega) fun j x y hx hy s => by
    obtain ⟨ex, hj⟩ := rangeL_at hx
    have hj' : j < R.length := by omega
    obtain ⟨p, q, e1, e2, e3, m1, m2⟩ := sd_at (xs := R) hj'
    rw [e1] at hy
    cases hy
    subst ex
    rw [Int.zero_add, e2, Option.bind_some, e3, Option.bind_some, lawside_ok (hR p m1) (hR q m2) hv hn, Option.bind_some]
    by_cases c : det p q v < 0
    · rw [if_pos (by simpa using sg_lt.mpr c), if_pos c]
    · rw [if_neg (by simp only [decide_eq_true_eq]; exact fun h => c (sg_lt.mp h)), if_neg c]
      by_cases d : det p q v = 0
      · rw [if_pos (by simpa using sg_eq.mpr d), if_pos d]; rfl
      · rw [if_neg (by simpa using (fun h => d (sg_eq.mp h))), if_neg d]; rfl]
  have key : ∀ (ss : List (T2 P3 P3)) (st : Int), ((∃ s ∈ ss, det s.a s.b v < 0) ∧ loopL (ρ := Int) (fun (s : T2 P3 P3) (st : Int) => if det s.a s.b v < 0 then some (.ret 0) else some (.nxt (if det s.a s.b v = 0 then -1 else st))) ss st = some (.ret 0)) ∨
      ((∀ s ∈ ss, 0 ≤ det s.a s.b v) ∧ ∃ st', loopL (ρ := Int) (fun (s : T2 P3 P3) (st : Int) => if det s.a s.b v < 0 then some (.ret 0) else some (.nxt (if det s.a s.b v = 0 then -1 else st))) ss st = some (.nxt st') ∧ (((∃ s ∈ ss, det s.a s.b v = 0) ∧ st' = -1) ∨ ((∀ s ∈ ss, 0 < det s.a s.b v) ∧ st' = st))) := by
    intro ss
    induction ss with
    | nil => intro st; exact .inr ⟨fun _ h => (nomatch h), st, rfl, .inr ⟨fun _ h => (nomatch h), rfl⟩⟩
    | cons s ss ih =>
      intro st
      by_cases c : det s.a s.b v < 0
      · refine .inl ⟨⟨s, List.mem_cons_self, c⟩, ?_⟩
        show (if _ then _ else _ : Option (Lp Int Int)).bind _ = _
        rw [if_pos c]; rfl
      · have e : ∀ st, loopL (ρ := Int) (fun (s : T2 P3 P3) (st : Int) => if det s.a s.b v < 0 then some (.ret 0) else some (.nxt (if det s.a s.b v = 0 then -1 else st))) (s :: ss) st = loopL (ρ := Int) (fun (s : T2 P3 P3) (st : Int) => if det s.a s.b v < 0 then some (.ret 0) else some (.nxt (if det s.a s.b v = 0 then -1 else st))) ss (if det s.a s.b v = 0 then -1 else st) := fun st => by
          show (if _ then _ else _ : Option (Lp Int Int)).bind _ = _
          rw [if_neg c]; rfl
        rw [e]
        rcases ih (if det s.a s.b v = 0 then -1 else st) with ⟨⟨t, ht, l⟩, q⟩ | ⟨q1, st', q2, q3⟩
        · exact .inl ⟨⟨t, List.mem_cons_of_mem _ ht, l⟩, q⟩
        · refine .inr ⟨fun t ht => ?_, st', q2, ?_⟩
          · rcases List.mem_cons.mp ht with z | ht
            · subst z; omega
            · exact q1 t ht
          · rcases q3 with ⟨⟨t, ht, l⟩, q⟩ | ⟨q4, q5⟩
            · exact .inl ⟨⟨t, List.mem_cons_of_mem _ ht, l⟩, q⟩
            · by_cases d : det s.a s.b v = 0
              · rw [if_pos d] at q5
                exact .inl ⟨⟨s, List.mem_cons_self, d⟩, q5⟩
              · rw [if_neg d] at q5
                refine .inr ⟨fun t ht => ?_, q5⟩
                rcases List.mem_cons.mp ht with z | ht
                · subst z; omega
                · exact q4 t ht
  rcases key (sd R) 1 with ⟨h, e⟩ | ⟨h, st', e, q⟩
  · exact ⟨0, by rw [e]; rfl, .inr (.inl ⟨rfl, h⟩)⟩
  · rcases q with ⟨q1, q2⟩ | ⟨q1, q2⟩
    · exact ⟨-1, by rw [e, q2]; rfl, .inr (.inr ⟨rfl, h, q1⟩)⟩
    · exact ⟨1, by rw [e, q2]; rfl, .inl ⟨rfl, q1⟩⟩
theorem convex3_ok {n : Nat} {R : List P3} (hR : ∀ p ∈ R, Pt n p) (hn : n ≤ 3000) (h3 : 3 ≤ R.length) (hl : R.length ≤ 1000)
    (cv : ∀ k l j (a : k < R.length) (b : j < R.length) (c : l < R.length), (l = k + 1 ∨ (k + 1 = R.length ∧ l = 0)) → j ≠ k → j ≠ l → 0 < det R[k] R[l] R[j]) : m__law_is_convex R = some true := by
  unfold m__law_is_convex
  rw [if_neg (by simp; omega), lenOk_ok (by omega), Option.bind_some]
  rw [filO_all (c := fun _ => false) fun x hx => by
    rw [ispoint_ok (hR x hx) hn, Option.bind_some]; rfl]
  rw [Option.bind_some, if_neg (by simp), rngOk_ok (by omega) (by omega), Option.bind_some]
  refine loopL_bind (fun _ => True) ?_ trivial fun _ _ => rfl
  intro x _ hx _
  refine ⟨(), ?_, trivial⟩
  obtain ⟨a1, a2⟩ := rangeL_mem hx
  obtain ⟨k, rfl⟩ : ∃ k : Nat, x = (k : Int) := ⟨x.toNat, by omega⟩
  have hk : k < R.length := by omega
  rw [Option.bind_some]
  refine loopL_bind (fun _ => True) ?_ trivial fun _ _ => rfl
  intro y _ hy _
  refine ⟨(), ?_, trivial⟩
  obtain ⟨b1, b2⟩ := rangeL_mem hy
  obtain ⟨j, rfl⟩ : ∃ j : Nat, y = (j : Int) := ⟨y.toNat, by omega⟩
  have hj : j < R.length := by omega
  have em : ((k : Int) + 1) % (R.length : Int) = (((k + 1) % R.length : Nat) : Int) := by rw [Int.natCast_emod, Int.natCast_add]; rfl
  have hm : (k + 1) % R.length < R.length := Nat.mod_lt _ (by omega)
  rw [modG_pos (by omega : (0 : Int) < (R.length : Int)), Option.bind_some, em]
  by_cases z : j = k
  · rw [if_neg (by simp; omega), Option.bind_some, if_neg (by decide)]
  · rw [if_pos (by simp; omega), Option.bind_some]
    by_cases z2 : j = (k + 1) % R.length
    · rw [if_neg (by rw [Bool.not_eq_true', decide_eq_false_iff_not]; omega)]
    · rw [if_pos (by rw [Bool.not_eq_true', decide_eq_false_iff_not]; omega)]
      rw [ix_lt hk, Option.bind_some, Option.bind_some, ix_lt hm, Option.bind_some, ix_lt hj, Option.bind_some]
      rw [lawside_ok (hR _ (List.getElem_mem hk)) (hR _ (List.getElem_mem hm)) (hR _ (List.getElem_mem hj)) hn, Option.bind_some]
      have c := cv k ((k + 1) % R.length) j hk hj hm (by
        by_cases y : k + 1 < R.length
        · exact .inl (Nat.mod_eq_of_lt y)
        · have : k + 1 = R.length := by omega
          exact .inr ⟨this, by rw [this, Nat.mod_self]⟩) z z2
      have : sg (det R[k] R[(k + 1) % R.length] R[j]) = 1 := by unfold sg; rw [if_neg (by omega), if_pos c]
      rw [this, if_neg (by decide)]
/-- a ring of points in lowest terms that bulges outward -/
structure Rq (n : Nat) (R : List P3) : Prop where
  pt : ∀ p ∈ R, Pt n p
  lo : 3 ≤ R.length
  ord : OrdC (R.map pq)
theorem Rq.mono {n m : Nat} {R : List P3} (h : Rq n R) (l : n ≤ m) : Rq m R := ⟨fun p hp => (h.pt p hp).mono l, h.lo, h.ord⟩
theorem Rq.lo' {n : Nat} {R : List P3} (h : Rq n R) : 3 ≤ (R.map pq).length := by rw [List.length_map]; exact h.lo
theorem sub3' {α : Type} {rs : List α} {i j l : Nat} (h1 : i < j) (h2 : j < l) (h3 : l < rs.length) : [rs[i], rs[j], rs[l]].Sublist rs := sub3 h1 h2 h3
theorem Rq.cv {n : Nat} {R : List P3} (h : Rq n R) : ∀ k l j (a : k < R.length) (b : j < R.length) (c : l < R.length), (l = k + 1 ∨ (k + 1 = R.length ∧ l = 0)) → j ≠ k → j ≠ l → 0 < det R[k] R[l] R[j] := by
  intro k l j a b c e n1 n2
  have tr : ∀ x y z (hx : x < y) (hy : y < z) (hz : z < R.length), 0 < det R[x] R[y] R[z] := fun x y z hx hy hz => by
    have s := sub3 (rs := R.map pq) hx hy (by rw [List.length_map]; exact hz)
    have := h.ord _ _ _ s
    simp only [List.getElem_map] at this
    exact (det_cz (h.pt _ (List.getElem_mem _)).pos (h.pt _ (List.getElem_mem _)).pos (h.pt _ (List.getElem_mem _)).pos).1.mpr this
  have cyc : ∀ p q r : P3, det q r p = det p q r := fun p q r => by unfold det; grind
  rcases e with e | ⟨e, e0⟩
  · subst e
    by_cases z : j < k
    · rw [cyc]; exact tr j k (k + 1) z (by omega) c
    · exact tr k (k + 1) j (by omega) (by omega) b
  · subst e0
    rw [← cyc]
    exact tr 0 j k (by omega) (by omega) a
theorem Rq.convex {n : Nat} {R : List P3} (h : Rq n R) (hn : n ≤ 3000) (hl : R.length ≤ 1000) : m__law_is_convex R = some true := convex3_ok h.pt hn h.lo hl h.cv
theorem sd_pq {R : List P3} : sd (R.map pq) = (sd R).map fun s => ⟨pq s.a, pq s.b⟩ := sd_map pq R
theorem inq_iff {n : Nat} {R : List P3} (h : ∀ p ∈ R, Pt n p) {v : P3} (hv : 0 < v.c) : (∀ s ∈ sd R, 0 < det s.a s.b v) ↔ InQ (R.map pq) (pq v) := by
  constructor
  · intro k s hs
    rw [sd_pq] at hs
    obtain ⟨t, ht, e⟩ := List.mem_map.mp hs
    subst e
    obtain ⟨p, q⟩ := t
    obtain ⟨m1, m2⟩ := sd_mem ht
    exact (det_cz (h p m1).pos (h q m2).pos hv).1.mp (k _ ht)
  · intro k s hs
    obtain ⟨p, q⟩ := s
    obtain ⟨m1, m2⟩ := sd_mem hs
    exact (det_cz (h p m1).pos (h q m2).pos hv).1.mpr (k ⟨pq p, pq q⟩ (by rw [sd_pq]; exact List.mem_map.mpr ⟨_, hs, rfl⟩))
/-- within tells 1 of the points inside alone, 0 of none on the ring -/
theorem within_q {n : Nat} {R : List P3} (h : ∀ p ∈ R, Pt n p) {v : P3} (hv : Pt n v) (hn : n ≤ 3000) (hl : R.length ≤ 1000) : ∃ z, m__law_within R v = some z ∧ (z = 1 ↔ InQ (R.map pq) (pq v)) ∧ (ClQ (R.map pq) (pq v) → z ≠ 0) ∧ (z = 1 ∨ z = 0 ∨ z = -1) := by
  obtain ⟨z, e, q⟩ := within_ok h hv hn hl
  refine ⟨z, e, ?_, fun c => ?_, ?_⟩
  · rw [← inq_iff h hv.pos]
    rcases q with ⟨q1, q2⟩ | ⟨q1, s, hs, q2⟩ | ⟨q1, q2, s, hs, q3⟩
    · exact ⟨fun _ => q2, fun _ => q1⟩
    · exact ⟨fun y => by omega, fun y => by have := y s hs; omega⟩
    · exact ⟨fun y => by omega, fun y => by have := y s hs; omega⟩
  · rcases q with ⟨q1, q2⟩ | ⟨q1, s, hs, q2⟩ | ⟨q1, q2, s, hs, q3⟩
    · omega
    · exfalso
      obtain ⟨p, q⟩ := s
      obtain ⟨m1, m2⟩ := sd_mem hs
      have := (det_cz (h p m1).pos (h q m2).pos hv.pos).2.2.mp q2
      have := c ⟨pq p, pq q⟩ (by rw [sd_pq]; exact List.mem_map.mpr ⟨_, hs, rfl⟩)
      simp only at this
      grind
    · omega
  · rcases q with ⟨q1, q2⟩ | ⟨q1, q2⟩ | ⟨q1, q2⟩
    · exact .inl q1
    · exact .inr (.inl q1)
    · exact .inr (.inr q1)
/-- twice the triangle with (0, 0) -/
def ar (p q : Q2) : Rat := p.a * q.b - q.a * p.b
theorem tareaq_ok {n : Nat} {R : List P3} (h : ∀ p ∈ R, Pt n p) (hl : R.length * (2 * n) ≤ 7900) (hn : n ≤ 3000) (h1 : R.length ≤ 1000) : ∃ r, m__law_twice_area R = some r ∧ 0 < r.c ∧ g3 r.a r.b r.c = 1 ∧ r.b = 0 ∧ (pq r).a = ssum ar (sd (R.map pq)) ∧ Pt (2 + (2 * n + 2) * R.length) r := by
  unfold m__law_twice_area
  rw [rngOk_one (by omega), Option.bind_some]
  obtain ⟨s, e, i⟩ := foldO_range (lo := 0) (n := R.length) (s := ((0, 1) : Int × Int)) (f := fun (x1 : Int) (s1 : (Int × Int)) =>
     ((ix R ((x1 - 1))).bind fun x2 =>
     (ix R x1).bind fun x3 =>
     (mulG s1.1 x2.c).bind fun z1 =>
     (mulG z1 x3.c).bind fun z2 =>
     (mulG x2.a x3.b).bind fun z3 =>
     (mulG x2.b x3.a).bind fun z4 =>
     (mulG ((z3 - z4)) s1.2).bind fun z5 =>
     (some ((z2 + z5))).bind fun (top_1 : Int) =>
     (mulG s1.2 x2.c).bind fun z6 =>
     (mulG z6 x3.c).bind fun z7 =>
     some ((top_1, z7))))
    (fun k s => (s.1 : Rat) / (s.2 : Rat) = ssum ar ((sd (R.map pq)).take k) ∧ 0 < s.2 ∧ s.2.natAbs < 2 ^ (1 + (2 * n) * k) ∧ s.1.natAbs < 2 ^ (2 + (2 * n + 2) * k)) (fun j s hj i => by
      obtain ⟨i1, i2, i3, i4⟩ := i
      obtain ⟨u, w, e1, e2, e3, m1, m2⟩ := sd_at (xs := R) hj
      have pu := h u m1
      have pw := h w m2
      have b1 : 2 * n * j ≤ 7900 := Nat.le_trans (Nat.mul_le_mul_left _ (Nat.le_of_lt hj)) (by rw [Nat.mul_comm]; exact hl)
      have b2 : (2 * n + 2) * j = 2 * n * j + 2 * j := by rw [Nat.add_mul]
      rw [Int.zero_add, e2, Option.bind_some, e3, Option.bind_some]
      rw [mulG_ok _ _ i4 pu.sc (by omega), Option.bind_some, mulG_ok _ _ (sz_mul i4 pu.sc) pw.sc (by omega), Option.bind_some, mulG_ok _ _ pu.sa pw.sb (by omega), Option.bind_some, mulG_ok _ _ pu.sb pw.sa (by omega), Option.bind_some,
        mulG_ok _ _ (sz_sub (sz_mul pu.sa pw.sb) (sz_mul pu.sb pw.sa)) i3 (by omega), Option.bind_some, Option.bind_some, mulG_ok _ _ i3 pu.sc (by omega), Option.bind_some, mulG_ok _ _ (sz_mul i3 pu.sc) pw.sc (by omega), Option.bind_some]
      have hpu := pu.pos
      have hpw := pw.pos
      refine ⟨_, rfl, ?_, Int.mul_pos (Int.mul_pos i2 hpu) hpw, ?_, ?_⟩
      · have q : (sd (R.map pq))[j]? = some ⟨pq u, pq w⟩ := by rw [sd_pq, List.getElem?_map, e1]; rfl
        rw [List.take_add_one, q, ssum_append, ← i1]
        show _ = _ + (ar (pq u) (pq w) + 0)
        have k1 := rat_int_ne (n := s.2) (by omega)
        have k2 := rat_int_ne (n := u.c) (by omega)
        have k3 := rat_int_ne (n := w.c) (by omega)
        unfold ar pq
        simp only [Rat.intCast_add, Rat.intCast_mul, Rat.intCast_sub]
        generalize (s.1 : Rat) = a1 at *
        generalize (s.2 : Rat) = a2 at *
        generalize (u.a : Rat) = ua at *
        generalize (u.b : Rat) = ub at *
        generalize (u.c : Rat) = uc at *
        generalize (w.a : Rat) = wa at *
        generalize (w.b : Rat) = wb at *
        generalize (w.c : Rat) = wc at *
        clear i1
        grind
      · exact pow_le (sz_mul (sz_mul i3 pu.sc) pw.sc) (by rw [Nat.mul_add]; omega)
      · have x1 : (s.1 * u.c * w.c).natAbs < 2 ^ (1 + (2 * n + 2) * (j + 1)) := pow_le (sz_mul (sz_mul i4 pu.sc) pw.sc) (by rw [Nat.mul_add]; omega)
        have x2 : ((u.a * w.b - u.b * w.a) * s.2).natAbs < 2 ^ (1 + (2 * n + 2) * (j + 1)) := pow_le (sz_mul (sz_sub (sz_mul pu.sa pw.sb) (sz_mul pu.sb pw.sa)) i3) (by rw [Nat.mul_add]; omega)
        exact pow_le (sz_add x1 x2) (by omega)) ⟨by
      show ((0 : Int) : Rat) / ((1 : Int) : Rat) = 0
      decide +kernel, by decide, by simp, by simp⟩
  have en : ((R.length : Int)).toNat = R.length := by omega
  rw [en]
  refine (congrArg (fun o => Option.bind o _) e).trans ?_ |> fun q => ⟨hd s.2 ⟨s.1, 0⟩, q, ?_⟩
  · obtain ⟨i1, i2, i3, i4⟩ := i
    rw [Option.bind_some, lawpnt_ok i2 (pow_le i3 (by rw [Nat.mul_comm] at hl; omega))]
    rfl
  · obtain ⟨i1, i2, i3, i4⟩ := i
    have w := hd_low i2 ⟨s.1, 0⟩
    refine ⟨w.pos, w.one, ?_, ?_, ?_⟩
    · have eb := w.eb
      simp only [Int.zero_mul] at eb
      exact (Int.mul_eq_zero.mp eb).resolve_right (by omega)
    · rw [pq_hd i2]
      simp only
      rw [i1]
      congr 1
      refine List.take_of_length_le ?_
      rw [sd_len, List.length_map]; omega
    · exact w.pt i4 (Nat.lt_of_le_of_lt (Nat.zero_le _) i4) (pow_le i3 (by rw [Nat.add_mul]; omega))
/-! ### plain: half_of -/
def hF (hand : Int) (p q : P3) : Af := if hand = 1 then lnA (pq p) (pq q) else (lnA (pq p) (pq q)).neg
theorem hF_at {hand : Int} (hh : hand = 1 ∨ hand = -1) {p q x : P3} (hp : 0 < p.c) (hq : 0 < q.c) (hx : 0 < x.c) : ((hand * det p q x : Int) : Rat) = (p.c : Rat) * (q.c : Rat) * (x.c : Rat) * (hF hand p q).at (pq x) := by
  have e := det_pq hp hq hx
  unfold hF
  rcases hh with h | h
  · subst h
    rw [if_pos rfl, Int.one_mul, e, lnA_at]
  · subst h
    rw [if_neg (by decide), Af.neg_at, lnA_at, show -1 * det p q x = -det p q x by omega, Rat.intCast_neg, e]
    grind
theorem hF_sg {hand : Int} (hh : hand = 1 ∨ hand = -1) {p q x : P3} (hp : 0 < p.c) (hq : 0 < q.c) (hx : 0 < x.c) : (0 < hand * sg (det p q x) ↔ 0 < (hF hand p q).at (pq x)) ∧ (hand * sg (det p q x) < 0 ↔ (hF hand p q).at (pq x) < 0) := by
  have k := Rat.mul_pos (Rat.mul_pos (rat_int_pos hp) (rat_int_pos hq)) (rat_int_pos hx)
  obtain ⟨s1, s2, s3⟩ := rat_scale (x := (hF hand p q).at (pq x)) k
  rw [← hF_at hh hp hq hx] at s1 s2 s3
  have e : (0 < hand * sg (det p q x) ↔ 0 < hand * det p q x) ∧ (hand * sg (det p q x) < 0 ↔ hand * det p q x < 0) := by
    rcases hh with h | h <;> subst h <;> unfold sg <;> (repeat' split) <;> omega
  exact ⟨by rw [e.1, ← s1]; exact Rat.intCast_pos.symm, by rw [e.2, ← s3]; exact Rat.intCast_neg_iff.symm⟩
theorem cut_eq {aa ac ba bc X Y : Rat} (h1 : ac ≠ 0) (h2 : bc ≠ 0) (h3 : bc * X - ac * Y ≠ 0) (k : Rat) (hk : k ≠ 0) : aa / ac + (k * X / ac) / (k * X / ac - k * Y / bc) * (ba / bc - aa / ac) = (ba * X - aa * Y) / (bc * X - ac * Y) := by
  have h4 : k * X / ac - k * Y / bc ≠ 0 := fun e => by
    have : k * (bc * X - ac * Y) = 0 := by grind
    exact (Rat.mul_eq_zero.mp this).elim hk h3
  grind
theorem meetq_ok {hand : Int} (hh : hand = 1 ∨ hand = -1) {a b p q : P3} {n : Nat} (ha : Pt n a) (hb : Pt n b) (hp : Pt n p) (hq : Pt n q) (hn : n ≤ 1200) (h : (hF hand p q).at (pq a) * (hF hand p q).at (pq b) < 0) :
    ∃ r, m_meet a b p q = some r ∧ Pt (4 * n + 3) r ∧ pq r = cutP (hF hand p q) (pq a) (pq b) := by
  have sz : ∀ {r : P3} {m : Nat}, Pt m r → SzQ m r := fun h => ⟨h.sa, h.sb, h.sc⟩
  unfold m_meet
  obtain ⟨f1, s1⟩ := crs_ok (sz ha) (sz hb) (by omega)
  obtain ⟨f2, s2⟩ := crs_ok (sz hp) (sz hq) (by omega)
  obtain ⟨f3, s3⟩ := crs_ok s1 s2 (by omega)
  have pa := ha.pos
  have pb := hb.pos
  have pp := hp.pos
  have pq0 := hq.pos
  have e1 : (crs (crs a b) (crs p q)).a = b.a * det p q a - a.a * det p q b := by unfold crs det; simp only; grind
  have e2 : (crs (crs a b) (crs p q)).b = b.b * det p q a - a.b * det p q b := by unfold crs det; simp only; grind
  have e3 : (crs (crs a b) (crs p q)).c = b.c * det p q a - a.c * det p q b := by unfold crs det; simp only; grind
  -- signs
  have z1 := hF_at hh pp pq0 pa
  have z2 := hF_at hh pp pq0 pb
  have k0 := Rat.mul_pos (rat_int_pos pp) (rat_int_pos pq0)
  have n1 := rat_int_ne (n := a.c) (by omega)
  have n2 := rat_int_ne (n := b.c) (by omega)
  have hz : (hand : Rat) * (hand : Rat) = 1 := by rcases hh with h | h <;> subst h <;> decide +kernel
  have ne : b.c * det p q a - a.c * det p q b ≠ 0 := fun e => by
    have e' : (b.c : Rat) * (hand * det p q a : Int) - (a.c : Rat) * (hand * det p q b : Int) = 0 := by
      have : ((b.c * det p q a - a.c * det p q b : Int) : Rat) = 0 := by rw [e]; rfl
      rw [Rat.intCast_sub, Rat.intCast_mul, Rat.intCast_mul] at this
      rw [Rat.intCast_mul, Rat.intCast_mul]
      grind
    rw [z1, z2] at e'
    have e'' : (p.c : Rat) * (q.c : Rat) * (a.c : Rat) * (b.c : Rat) * ((hF hand p q).at (pq a) - (hF hand p q).at (pq b)) = 0 := by grind
    have c := (cut_t h).2.2
    have k1 := Rat.mul_pos (Rat.mul_pos k0 (rat_int_pos pa)) (rat_int_pos pb)
    rcases Rat.mul_eq_zero.mp e'' with w | w
    · rw [w] at k1; exact Rat.lt_irrefl k1
    · exact c w
  rw [← e3] at ne
  obtain ⟨r, er, r1, r2, r3, r4, r5, r6, r7⟩ := point_any (a := (crs (crs a b) (crs p q)).a) (b := (crs (crs a b) (crs p q)).b) ne (pow_le s3.sc (by omega))
  rw [f1, Option.bind_some, f2, Option.bind_some, f3, Option.bind_some, if_neg (by simpa using ne), er]
  refine ⟨r, rfl, ⟨r1, pow_le (Nat.lt_of_le_of_lt r5 s3.sa) (by omega), pow_le (Nat.lt_of_le_of_lt r6 s3.sb) (by omega), pow_le (Nat.lt_of_le_of_lt r7 s3.sc) (by omega), r2⟩, ?_⟩
  have q1 := (rat_cross (a := r.a) (b := r.c) (c := (crs (crs a b) (crs p q)).a) (d := (crs (crs a b) (crs p q)).c) (by omega) ne).mpr r3
  have q2 := (rat_cross (a := r.b) (b := r.c) (c := (crs (crs a b) (crs p q)).b) (d := (crs (crs a b) (crs p q)).c) (by omega) ne).mpr r4
  have ne' := rat_int_ne ne
  rw [e1, e3] at q1
  rw [e2, e3] at q2
  rw [e3] at ne'
  have d1 := det_pq pp pq0 pa
  have d2 := det_pq pp pq0 pb
  -- F in terms of the triangles
  have g1 : (hF hand p q).at (pq a) = (hand : Rat) / ((p.c : Rat) * (q.c : Rat)) * (det p q a : Rat) / (a.c : Rat) := by
    rw [Rat.intCast_mul] at z1
    have k2 : (p.c : Rat) * (q.c : Rat) ≠ 0 := by grind
    generalize (p.c : Rat) * (q.c : Rat) = K at *
    clear z2 q1 q2 d1 d2 h
    grind
  have g2 : (hF hand p q).at (pq b) = (hand : Rat) / ((p.c : Rat) * (q.c : Rat)) * (det p q b : Rat) / (b.c : Rat) := by
    rw [Rat.intCast_mul] at z2
    have k2 : (p.c : Rat) * (q.c : Rat) ≠ 0 := by grind
    generalize (p.c : Rat) * (q.c : Rat) = K at *
    clear z1 q1 q2 d1 d2 h g1
    grind
  have kk : (hand : Rat) / ((p.c : Rat) * (q.c : Rat)) ≠ 0 := fun e => by
    have k2 : (p.c : Rat) * (q.c : Rat) ≠ 0 := by grind
    generalize (p.c : Rat) * (q.c : Rat) = K at *
    have : (hand : Rat) = 0 := by grind
    rw [this] at hz
    exact absurd hz (by decide +kernel)
  simp only [Rat.intCast_sub, Rat.intCast_mul] at q1 q2 ne'
  unfold cutP wayq
  rw [g1, g2]
  show (⟨(r.a : Rat) / (r.c : Rat), (r.b : Rat) / (r.c : Rat)⟩ : Q2) = ⟨(a.a : Rat) / (a.c : Rat) + _ * ((b.a : Rat) / (b.c : Rat) - (a.a : Rat) / (a.c : Rat)), (a.b : Rat) / (a.c : Rat) + _ * ((b.b : Rat) / (b.c : Rat) - (a.b : Rat) / (a.c : Rat))⟩
  rw [cut_eq n1 n2 ne' _ kk, cut_eq n1 n2 ne' _ kk, q1, q2]
theorem mapO_map {α β : Type} {f : α → Option β} {g : α → β} {xs : List α} (h : ∀ x ∈ xs, f x = some (g x)) : mapO f xs = some (xs.map g) := mapO_all h
theorem imax_some {xs : List Int} (h : xs ≠ []) : ∃ m, xs.max? = some m ∧ m ∈ xs ∧ ∀ x ∈ xs, x ≤ m := by
  cases e : xs.max? with
  | none => rw [List.max?_eq_none_iff] at e; exact (h e).elim
  | some m =>
    obtain ⟨h1, h2⟩ := List.max?_eq_some_iff.mp e
    exact ⟨m, rfl, h1, h2⟩
theorem halfof_ok {hand : Int} (hh : hand = 1 ∨ hand = -1) {R : List P3} {p q : P3} {n : Nat} (hR : ∀ r ∈ R, Pt n r) (hp : Pt n p) (hq : Pt n q) (hn : n ≤ 1200) (h1 : R ≠ []) (hl : R.length ≤ 1000) :
    ((∃ r ∈ R, 0 < (hF hand p q).at (pq r)) ∧ ∃ S, m_half_of R p q hand = some (some S) ∧ (∀ s ∈ S, Pt (4 * n + 3) s) ∧ S.map pq = half (hF hand p q) (R.map pq)) ∨
    ((∀ r ∈ R, (hF hand p q).at (pq r) ≤ 0) ∧ m_half_of R p q hand = some none) := by
  unfold m_half_of
  have hb : hand.natAbs < 2 ^ 1 := by rcases hh with h | h <;> subst h <;> decide
  have sgb : ∀ x : Int, (sg x).natAbs < 2 ^ 1 := fun x => by unfold sg; (repeat' split) <;> decide
  rw [lenOk_ok (by omega), Option.bind_some, mapO_map (g := fun x => hand * sg (det p q x)) fun x hx => by
    rw [side_ok hp hq (hR x hx) (by omega), Option.bind_some, mulG_ok 1 1 hb (sgb _) (by decide), Option.bind_some], Option.bind_some]
  have sgn : ∀ r ∈ R, (0 < hand * sg (det p q r) ↔ 0 < (hF hand p q).at (pq r)) ∧ (hand * sg (det p q r) < 0 ↔ (hF hand p q).at (pq r) < 0) := fun r hr => hF_sg hh hp.pos hq.pos (hR r hr).pos
  obtain ⟨m, em, hm1, hm2⟩ := imax_some (xs := R.map fun x => hand * sg (det p q x)) (by simpa using h1)
  rw [em, Option.bind_some]
  by_cases c : m ≤ 0
  · right
    rw [if_pos (by simpa using c)]
    refine ⟨fun r hr => ?_, rfl⟩
    have := hm2 _ (List.mem_map.mpr ⟨r, hr, rfl⟩)
    have k := (sgn r hr).1
    have : ¬ 0 < (hF hand p q).at (pq r) := fun z => by have := k.mpr z; omega
    grind
  · left
    rw [if_neg (by simpa using c)]
    obtain ⟨r0, hr0, e0⟩ := List.mem_map.mp hm1
    refine ⟨⟨r0, hr0, (sgn r0 hr0).1.mp (by omega)⟩, ?_⟩
    obtain ⟨S, e, i⟩ := foldO_at (xs := enumL R) (s := ([] : List P3)) (f := fun (x2 : (T2 Int (T3 Int Int Int))) (s2 : (List (T3 Int Int Int))) =>
     ((ix (R.map fun x => hand * sg (det p q x)) ((x2.a - 1))).bind fun x3 =>
     (ix (R.map fun x => hand * sg (det p q x)) x2.a).bind fun x4 =>
     (mulG x3 x4).bind fun z4 =>
     (if (decide (z4 < 0)) = true then
     ((ix R ((x2.a - 1))).bind fun x5 =>
     (m_meet x5 x2.b p q).bind fun z5 =>
     (lenOk (s2.length + 1)).bind fun _ =>
     some ((s2 ++ [z5])))
     else
     (some s2)).bind fun (s4 : (List (T3 Int Int Int))) =>
     (ix (R.map fun x => hand * sg (det p q x)) x2.a).bind fun x6 =>
     (if (decide (0 ≤ x6)) = true then
     ((lenOk (s4.length + 1)).bind fun _ =>
     some ((s4 ++ [x2.b])))
     else
     (some s4)).bind fun (s5 : (List (T3 Int Int Int))) =>
     some s5)) (fun j S => S.map pq = ((sd (R.map pq)).take j).flatMap (fun s => pcs (hF hand p q) s.a s.b) ∧ (∀ s ∈ S, Pt (4 * n + 3) s) ∧ S.length ≤ 2 * j) 0 (fun j x S hx i => by
      obtain ⟨i1, i2, i3⟩ := i
      have hj : j < R.length := by
        have := (List.getElem?_eq_some_iff.mp hx).1
        rwa [enumL_len] at this
      have ex := enumL_at (List.getElem?_eq_getElem hj)
      rw [hx] at ex
      have ex : x = ⟨(j : Int), R[j]⟩ := Option.some.inj ex
      subst ex
      rw [Nat.zero_add] at i1 i3 ⊢
      obtain ⟨u, w, e1, e2, e3, m1, m2⟩ := sd_at (xs := R) hj
      have ew : R[j] = w := by
        rw [ix_lt hj] at e3
        exact Option.some.inj e3
      have qe : (sd (R.map pq))[j]? = some ⟨pq u, pq w⟩ := by rw [sd_pq, List.getElem?_map, e1]; rfl
      simp only [ix_map, e2, e3, Option.map_some, Option.bind_some, ew]
      rw [mulG_ok 2 2 (sz_mul hb (sgb _)) (sz_mul hb (sgb _)) (by decide), Option.bind_some]
      have su := sgn u m1
      have sw := sgn w m2
      have hc : hand * sg (det p q u) * (hand * sg (det p q w)) < 0 ↔ (hF hand p q).at (pq u) * (hF hand p q).at (pq w) < 0 := by
        generalize hand * sg (det p q u) = x at *
        generalize hand * sg (det p q w) = y at *
        generalize (hF hand p q).at (pq u) = X at *
        generalize (hF hand p q).at (pq w) = Y at *
        have a1 : ∀ {x y : Int}, x * y < 0 ↔ (0 < x ∧ y < 0) ∨ (x < 0 ∧ 0 < y) := fun {x y} => by
          constructor
          · intro h
            rcases Int.lt_trichotomy x 0 with a | a | a
            · rcases Int.lt_trichotomy y 0 with b | b | b
              · have := Int.mul_pos_of_neg_of_neg a b; omega
              · subst b; simp at h
              · exact .inr ⟨a, b⟩
            · subst a; simp at h
            · rcases Int.lt_trichotomy y 0 with b | b | b
              · exact .inl ⟨a, b⟩
              · subst b; simp at h
              · have := Int.mul_pos a b; omega
          · rintro (⟨a, b⟩ | ⟨a, b⟩)
            · exact Int.mul_neg_of_pos_of_neg a b
            · exact Int.mul_neg_of_neg_of_pos a b
        have a2 : X * Y < 0 ↔ (0 < X ∧ Y < 0) ∨ (X < 0 ∧ 0 < Y) := by
          constructor
          · intro h
            rcases sgn3 X with a | a | a
            · rcases sgn3 Y with b | b | b
              · have := Rat.mul_pos (show 0 < -X by grind) (show 0 < -Y by grind); grind
              · rw [b, Rat.mul_zero] at h; exact absurd h Rat.lt_irrefl
              · exact .inr ⟨a, b⟩
            · rw [a, Rat.zero_mul] at h; exact absurd h Rat.lt_irrefl
            · rcases sgn3 Y with b | b | b
              · exact .inl ⟨a, b⟩
              · rw [b, Rat.mul_zero] at h; exact absurd h Rat.lt_irrefl
              · have := Rat.mul_pos a b; grind
          · rintro (⟨a, b⟩ | ⟨a, b⟩)
            · have := Rat.mul_pos a (show 0 < -Y by grind); grind
            · have := Rat.mul_pos (show 0 < -X by grind) b; grind
        rw [a1, a2, su.1, su.2, sw.1, sw.2]
      have hk : 0 ≤ hand * sg (det p q w) ↔ 0 ≤ (hF hand p q).at (pq w) := by
        have := sw.2
        constructor
        · intro a
          have : ¬ (hF hand p q).at (pq w) < 0 := fun z => by have := this.mpr z; omega
          grind
        · intro a
          have : ¬ hand * sg (det p q w) < 0 := fun z => by have := this.mp z; grind
          omega
      have st : ∃ S1, (if decide (hand * sg (det p q u) * (hand * sg (det p q w)) < 0) = true then (m_meet u w p q).bind fun z5 => (lenOk (S.length + 1)).bind fun _ => some (S ++ [z5]) else some S) = some S1 ∧
          S1.map pq = S.map pq ++ (if (hF hand p q).at (pq u) * (hF hand p q).at (pq w) < 0 then [cutP (hF hand p q) (pq u) (pq w)] else []) ∧ (∀ s ∈ S1, Pt (4 * n + 3) s) ∧ S1.length ≤ 2 * j + 1 := by
        by_cases z : hand * sg (det p q u) * (hand * sg (det p q w)) < 0
        · obtain ⟨r, er, rp, rq⟩ := meetq_ok hh (hR u m1) (hR w m2) hp hq hn (hc.mp z)
          rw [if_pos (by simpa using z), er, Option.bind_some, lenOk_ok (by omega), Option.bind_some, if_pos (hc.mp z)]
          refine ⟨_, rfl, by rw [List.map_append, List.map_cons, List.map_nil, rq], fun s hs => ?_, by rw [List.length_append]; simp; omega⟩
          rcases List.mem_append.mp hs with h | h
          · exact i2 s h
          · rw [List.mem_singleton.mp h]; exact rp
        · rw [if_neg (by simpa using z), if_neg (fun y => z (hc.mpr y))]
          exact ⟨S, rfl, by rw [List.append_nil], i2, by omega⟩
      obtain ⟨S1, f1, f2, f3, f4⟩ := st
      rw [f1, Option.bind_some]
      have st2 : ∃ S2, (if decide (0 ≤ hand * sg (det p q w)) = true then (lenOk (S1.length + 1)).bind fun _ => some (S1 ++ [w]) else some S1) = some S2 ∧
          S2.map pq = S1.map pq ++ (if 0 ≤ (hF hand p q).at (pq w) then [pq w] else []) ∧ (∀ s ∈ S2, Pt (4 * n + 3) s) ∧ S2.length ≤ 2 * (j + 1) := by
        by_cases z : 0 ≤ hand * sg (det p q w)
        · rw [if_pos (by simpa using z), lenOk_ok (by omega), Option.bind_some, if_pos (hk.mp z)]
          refine ⟨_, rfl, by rw [List.map_append, List.map_cons, List.map_nil], fun s hs => ?_, by rw [List.length_append]; simp; omega⟩
          rcases List.mem_append.mp hs with h | h
          · exact f3 s h
          · rw [List.mem_singleton.mp h]; exact (hR w m2).mono (by omega)
        · rw [if_neg (by simpa using z), if_neg (fun y => z (hk.mpr y))]
          exact ⟨S1, rfl, by rw [List.append_nil], f3, by omega⟩
      obtain ⟨S2, g1, g2, g3, g4⟩ := st2
      rw [g1, Option.bind_some]
      refine ⟨S2, rfl, ?_, g3, g4⟩
      rw [g2, f2, i1, List.take_add_one, qe, List.flatMap_append, List.append_assoc]
      show _ = _ ++ ((⟨pq u, pq w⟩ : T2 Q2 Q2) :: []).flatMap _
      rw [List.flatMap_cons, List.flatMap_nil, List.append_nil]
      rfl) ⟨rfl, fun _ h => (nomatch h), by simp⟩
    obtain ⟨i1, i2, i3⟩ := i
    refine ⟨S, (congrArg (fun o => Option.bind o _) e).trans rfl, i2, ?_⟩
    rw [i1, Nat.zero_add, enumL_len]
    unfold half
    rw [List.take_of_length_le (by rw [sd_len, List.length_map]; omega)]
/-- the line through two points, in whole numbers -/
theorem hF_line {hand : Int} (hh : hand = 1 ∨ hand = -1) {p q : P3} {n : Nat} (hp : Pt n p) (hq : Pt n q) (ne : pq p ≠ pq q) : ∃ A B C : Int, A.natAbs < 2 ^ (n + n + 1) ∧ B.natAbs < 2 ^ (n + n + 1) ∧ C.natAbs < 2 ^ (n + n + 1) ∧ (A ≠ 0 ∨ B ≠ 0) ∧ ∀ v, (hF hand p q).at v = 0 → (afI A B C).at v = 0 := by
  have h1 := hp.pos
  have h2 := hq.pos
  have n1 := rat_int_ne (n := p.c) (by omega)
  have n2 := rat_int_ne (n := q.c) (by omega)
  refine ⟨p.b * q.c - p.c * q.b, p.c * q.a - p.a * q.c, p.a * q.b - p.b * q.a, sz_sub (sz_mul hp.sb hq.sc) (sz_mul hp.sc hq.sb), sz_sub (sz_mul hp.sc hq.sa) (sz_mul hp.sa hq.sc), sz_sub (sz_mul hp.sa hq.sb) (sz_mul hp.sb hq.sa), ?_, fun v hv => ?_⟩
  · refine Classical.byContradiction fun h => ne ?_
    have a : p.b * q.c - p.c * q.b = 0 := Classical.byContradiction fun z => h (.inl z)
    have b : p.c * q.a - p.a * q.c = 0 := Classical.byContradiction fun z => h (.inr z)
    unfold pq
    rw [(rat_cross (a := p.a) (b := p.c) (c := q.a) (d := q.c) (by omega) (by omega)).mpr (by rw [Int.mul_comm q.a]; omega), (rat_cross (a := p.b) (b := p.c) (c := q.b) (d := q.c) (by omega) (by omega)).mpr (by rw [Int.mul_comm q.b]; omega)]
  · have e : (lnA (pq p) (pq q)).at v = 0 := by
      unfold hF at hv
      rcases hh with h | h
      · rwa [if_pos h] at hv
      · rw [if_neg (by omega), Af.neg_at] at hv
        grind
    rw [lnA_at] at e
    unfold cz pq at e
    simp only at e
    unfold afI Af.at
    simp only [Rat.intCast_sub, Rat.intCast_mul]
    generalize (p.a : Rat) = pa at *
    generalize (p.b : Rat) = pb at *
    generalize (p.c : Rat) = pc at *
    generalize (q.a : Rat) = qa at *
    generalize (q.b : Rat) = qb at *
    generalize (q.c : Rat) = qc at *
    clear hv
    have k : (pb * qc - pc * qb) * v.a + (pc * qa - pa * qc) * v.b + (pa * qb - pb * qa) = pc * qc * ((qa / qc - pa / pc) * (v.b - pb / pc) - (qb / qc - pb / pc) * (v.a - pa / pc)) := by grind
    rw [k, e, Rat.mul_zero]
/-! ### plain: common -/
theorem loopL_at {α τ ρ : Type} {f : α → τ → Option (Lp τ ρ)} (I : Nat → τ → Prop) (P : ρ → Prop) : ∀ {xs : List α} {s : τ} (k : Nat), (∀ j x s, xs[j]? = some x → I (k + j) s → (∃ s', f x s = some (.nxt s') ∧ I (k + j + 1) s') ∨ ∃ r, f x s = some (.ret r) ∧ P r) → I k s →
    (∃ s', loopL f xs s = some (.nxt s') ∧ I (k + xs.length) s') ∨ ∃ r, loopL f xs s = some (.ret r) ∧ P r
  | [], s, k, _, h => .inl ⟨s, rfl, h⟩
  | x :: xs, s, k, hf, h => by
    have e0 : loopL f (x :: xs) s = (f x s).bind fun o => match o with | .nxt s' => loopL f xs s' | .brk s' => some (.brk s') | .ret r => some (.ret r) := rfl
    rcases hf 0 x s rfl h with ⟨s1, e1, h1⟩ | ⟨r, e1, h1⟩
    · rcases loopL_at I P (xs := xs) (s := s1) (k + 1) (fun j y s hy hi => by
        have := hf (j + 1) y s (by simpa using hy) (by rw [show k + (j + 1) = k + 1 + j by omega]; exact hi)
        rwa [show k + (j + 1) + 1 = k + 1 + j + 1 by omega] at this) (by simpa using h1) with ⟨s2, e2, h2⟩ | ⟨r, e2, h2⟩
      · refine .inl ⟨s2, ?_, by rw [List.length_cons, show k + (xs.length + 1) = k + 1 + xs.length by omega]; exact h2⟩
        rw [e0, e1]; exact e2
      · refine .inr ⟨r, ?_, h2⟩
        rw [e0, e1]; exact e2
    · refine .inr ⟨r, ?_, h1⟩
      rw [e0, e1]; rfl
/-- all corners at the right hand: nothing inside is at the left hand -/
theorem in_not {S : List Q2} (hc : OrdC S) (h3 : 3 ≤ S.length) {F : Af} (hn : ∀ s ∈ S, F.at s ≤ 0) (hz : ∃ v, F.at v ≠ 0) {v : Q2} (hv : InQ S v) : ¬ 0 < F.at v := by
  intro h
  by_cases e : ∃ b ∈ S, 0 < F.neg.at b
  · have := in_pos hc h3 hv (G := F.neg) (fun s hs => by rw [Af.neg_at]; have := hn s hs; grind) e
    rw [Af.neg_at] at this
    grind
  · have z : ∀ s ∈ S, F.at s = 0 := fun s hs => by
      have h1 := hn s hs
      have h2 : ¬ 0 < F.neg.at s := fun q => e ⟨s, hs, q⟩
      rw [Af.neg_at] at h2
      grind
    match S, h3 with
    | x :: y :: w :: _, _ =>
      obtain ⟨u, hu⟩ := hz
      have q1 := hc x y w (by simp)
      have q2 := cz_flat F (z x (by simp)) (z y (by simp)) u w
      rw [z w (by simp), Rat.mul_zero] at q2
      rcases Rat.mul_eq_zero.mp q2 with q | q
      · rw [q] at q1; exact Rat.lt_irrefl q1
      · exact hu q
theorem hF1_at {p q : P3} (v : Q2) : (hF 1 p q).at v = cz (pq p) (pq q) v := by
  unfold hF
  rw [if_pos rfl, lnA_at]
theorem common_ok {n m : Nat} (hm : m = n + n + 1) (hn : m + m + 1 ≤ 1200) {R O : List P3} (hR : Rq n R) (hO : Rq n O) (hRl : R.length + O.length ≤ 500) (lsR : LS m (R.map pq)) :
    (∃ T, m_common R O = some (some T) ∧ Rq (m + m + 1) T ∧ T.length ≤ R.length + O.length ∧ LS m (T.map pq) ∧ (∀ v, InQ (T.map pq) v ↔ InQ (R.map pq) v ∧ InQ (O.map pq) v) ∧ ∀ s ∈ T, ClQ (R.map pq) (pq s) ∧ ClQ (O.map pq) (pq s)) ∨
    (m_common R O = some none ∧ ∀ v, ¬ (InQ (R.map pq) v ∧ InQ (O.map pq) v)) := by
  unfold m_common
  have step := loopL_at (f := fun (x1 : (T2 Int (T3 Int Int Int))) (s1 : (List (T3 Int Int Int))) =>
     ((ix O ((x1.a - 1))).bind fun x2 =>
     (m_half_of s1 x2 x1.b 1).bind fun z1 =>
     if (z1.isNone) = true then
     (some (Lp.ret ((none : (Option (List (T3 Int Int Int)))))))
     else
     ((z1).bind fun made_1 =>
     some (.nxt made_1)))) (fun k S => Rq (m + m + 1) S ∧ S.length ≤ R.length + k ∧ LS m (S.map pq) ∧ (∀ v, InQ (S.map pq) v ↔ InQ (R.map pq) v ∧ ∀ s ∈ (sd (O.map pq)).take k, 0 < cz s.a s.b v) ∧ ∀ s ∈ S, ClQ (R.map pq) (pq s) ∧ ∀ t ∈ (sd (O.map pq)).take k, 0 ≤ cz t.a t.b (pq s))
    (fun r => r = none ∧ ∀ v, ¬ (InQ (R.map pq) v ∧ InQ (O.map pq) v)) (xs := enumL O) (s := R) 0 (fun j x S hx i => by
      obtain ⟨i1, i2, i3, i4, i5⟩ := i
      have hj : j < O.length := by
        have := (List.getElem?_eq_some_iff.mp hx).1
        rwa [enumL_len] at this
      have ex := enumL_at (List.getElem?_eq_getElem hj)
      rw [hx] at ex
      have ex : x = ⟨(j : Int), O[j]⟩ := Option.some.inj ex
      subst ex
      rw [Nat.zero_add] at i2 i4 i5 ⊢
      obtain ⟨u, w, e1, e2, e3, m1, m2⟩ := sd_at (xs := O) hj
      have ew : O[j] = w := by
        rw [ix_lt hj] at e3
        exact Option.some.inj e3
      have qe : (sd (O.map pq))[j]? = some ⟨pq u, pq w⟩ := by rw [sd_pq, List.getElem?_map, e1]; rfl
      have qm := List.mem_of_getElem? qe
      have tk : ∀ P : T2 Q2 Q2 → Prop, (∀ s ∈ (sd (O.map pq)).take (j + 1), P s) ↔ (∀ s ∈ (sd (O.map pq)).take j, P s) ∧ P ⟨pq u, pq w⟩ := fun P => by
        rw [List.take_add_one, qe]
        constructor
        · intro h
          exact ⟨fun s hs => h s (List.mem_append.mpr (.inl hs)), h _ (List.mem_append.mpr (.inr (by simp)))⟩
        · rintro ⟨h, h'⟩ s hs
          rcases List.mem_append.mp hs with hs | hs
          · exact h s hs
          · have : s = ⟨pq u, pq w⟩ := by simpa using hs
            rw [this]; exact h'
      simp only [e2, Option.bind_some, ew]
      have ne : pq u ≠ pq w := qside_ne hO.ord hO.lo' qm
      have hz : ∃ v, (hF 1 u w).at v ≠ 0 := by
        obtain ⟨r, _, hr⟩ := side_third hO.ord hO.lo' qm
        have hr' : 0 < cz (pq u) (pq w) r := hr
        exact ⟨r, by rw [hF1_at]; intro e; rw [e] at hr'; exact Rat.lt_irrefl hr'⟩
      have mS : S ≠ [] := fun e => by have := i1.lo; rw [e] at this; simp at this
      rcases halfof_ok (hand := 1) (.inl rfl) i1.pt ((hO.pt u m1).mono (show n ≤ m + m + 1 by omega)) ((hO.pt w m2).mono (show n ≤ m + m + 1 by omega)) (by omega) mS (by omega) with ⟨⟨r, hr, pr⟩, S', e, pS, mp⟩ | ⟨al, e⟩
      · left
        rw [e, Option.bind_some]
        have hp : ∃ a ∈ S.map pq, 0 < (hF 1 u w).at a := ⟨pq r, List.mem_map.mpr ⟨r, hr, rfl⟩, pr⟩
        have ord := half_ord (hF 1 u w) i1.ord i1.lo'
        have len := half_len i1.lo' hp
        have grow := half_grow i1.ord i1.lo' hp
        have ls := ls_half i3 (by obtain ⟨a, ha, pa⟩ := hp; exact ⟨a, ha, Rat.le_of_lt pa⟩) (by
          obtain ⟨A, B, C, q1, q2, q3, q4, q5⟩ := hF_line (hand := 1) (.inl rfl) (hO.pt u m1) (hO.pt w m2) ne
          exact ⟨A, B, C, by rw [hm]; exact q1, by rw [hm]; exact q2, by rw [hm]; exact q3, q4, q5⟩)
        have hin := half_in (F := hF 1 u w) i1.ord i1.lo' hp
        refine ⟨S', rfl, ⟨fun s hs => ?_, by rw [← List.length_map (f := pq), mp]; exact len, by rw [mp]; exact ord⟩, ?_, by rw [mp]; exact ls, fun v => ?_, fun s hs => ?_⟩
        · exact ls_pt (by rw [← mp] at ls; exact ls) (by rw [mp]; exact ord) (by rw [mp]; exact len) (pS s hs).pos (pS s hs).one (List.mem_map.mpr ⟨s, hs, rfl⟩)
        · rw [← List.length_map (f := pq), mp]
          rw [List.length_map] at grow
          omega
        · rw [mp, hin, i4, tk, hF1_at, and_assoc]
        · have hs' : pq s ∈ half (hF 1 u w) (S.map pq) := by rw [← mp]; exact List.mem_map.mpr ⟨s, hs, rfl⟩
          refine ⟨fun t ht => ?_, (tk fun t => 0 ≤ cz t.a t.b (pq s)).mpr ⟨fun t ht => ?_, ?_⟩⟩
          · rw [← lnA_at]
            exact half_nn (fun p hp => by
              obtain ⟨p', hp', ep⟩ := List.mem_map.mp hp
              rw [lnA_at, ← ep]
              exact (i5 p' hp').1 t ht) _ hs'
          · rw [← lnA_at]
            exact half_nn (fun p hp => by
              obtain ⟨p', hp', ep⟩ := List.mem_map.mp hp
              rw [lnA_at, ← ep]
              exact (i5 p' hp').2 t ht) _ hs'
          · have := (half_mem hs').1
            rwa [hF1_at] at this
      · right
        rw [e, Option.bind_some]
        refine ⟨none, rfl, rfl, fun v ⟨v1, v2⟩ => ?_⟩
        have hv : InQ (S.map pq) v := (i4 v).mpr ⟨v1, fun s hs => v2 s (List.mem_of_mem_take hs)⟩
        have := in_not i1.ord i1.lo' (F := hF 1 u w) (fun s hs => by
          obtain ⟨p', hp', ep⟩ := List.mem_map.mp hs
          rw [← ep]; exact al p' hp') hz hv
        rw [hF1_at] at this
        exact this (v2 _ qm)) ⟨hR.mono (by omega), by omega, lsR, fun v => by simp, fun s hs => ⟨fun t ht => (ord_side_nn hR.ord ht (List.mem_map.mpr ⟨s, hs, rfl⟩)).1, fun t ht => by simp at ht⟩⟩
  rcases step with ⟨T, e, i1, i2, i3, i4, i5⟩ | ⟨r, e, er, h⟩
  · left
    rw [Nat.zero_add, enumL_len] at i2 i4 i5
    have full : (sd (O.map pq)).take O.length = sd (O.map pq) := List.take_of_length_le (by rw [sd_len, List.length_map]; omega)
    rw [full] at i4 i5
    exact ⟨T, (congrArg (fun o => Option.bind o _) e).trans rfl, i1, i2, i3, i4, i5⟩
  · right
    subst er
    exact ⟨(congrArg (fun o => Option.bind o _) e).trans rfl, h⟩
/-- two rings of one inside have one area -/
theorem area_same {n : Nat} {S T : List P3} (hS : Rq n S) (hT : Rq n T) (h : ∀ v, InQ (S.map pq) v ↔ InQ (T.map pq) v) : ssum ar (sd (S.map pq)) = ssum ar (sd (T.map pq)) :=
  ssum_perm (same_sides hS.ord hS.lo' hT.ord hT.lo' h)
/-! ### plain: drawn rings over 30 -/
theorem crs3_cyc (p q r : P2) : crs3 q r p = crs3 p q r := by unfold crs3; grind
theorem cvp_tri {us : List P2} (cv : CvP us) (i : Nat) : ∀ (d j : Nat) (hi : i < j) (hk : j + 1 + d < us.length), 0 < crs3 (us[i]'(by omega)) (us[j]'(by omega)) us[j + 1 + d]
  | 0, j, hi, hk => by
    have := cv j (j + 1) i (by omega) (by omega) hk (.inl rfl) (by omega) (by omega)
    rw [crs3_cyc] at this
    exact this
  | d + 1, j, hi, hk => by
    by_cases e : j = i + 1
    · subst e
      exact cv i (i + 1) (i + 1 + 1 + (d + 1)) (by omega) hk (by omega) (.inl rfl) (by omega) (by omega)
    · have h1 := cvp_tri cv i d j hi (by omega)
      have h2 := cvp_tri cv i 0 (j + 1 + d) (by omega) (by omega)
      have s : ∀ k (h : k < us.length), i + 1 < k → 0 < crs3 (us[i]'(by omega)) (us[i + 1]'(by omega)) us[k] := fun k h z => cv i (i + 1) k (by omega) h (by omega) (.inl rfl) (by omega) (by omega)
      have a1 := s j (by omega) (by omega)
      have a2 := s (j + 1 + d) (by omega) (by omega)
      have a3 := s (j + 1 + (d + 1)) (by omega) (by omega)
      have ex : us[j + 1 + d + 1 + 0]'(by omega) = us[j + 1 + (d + 1)] := by congr 1
      rw [ex] at h2
      generalize us[i]'(by omega) = o at *
      generalize us[i + 1]'(by omega) = p at *
      generalize us[j]'(by omega) = x at *
      generalize us[j + 1 + d]'(by omega) = y at *
      generalize us[j + 1 + (d + 1)] = z at *
      have id : crs3 o p y * crs3 o x z = crs3 o p x * crs3 o y z + crs3 o p z * crs3 o x y := by unfold crs3; grind
      have m1 := Int.mul_pos a1 h2
      have m2 := Int.mul_pos a3 h1
      have : 0 < crs3 o p y * crs3 o x z := by omega
      exact Classical.byContradiction fun n => by
        have := Int.mul_nonpos_of_nonneg_of_nonpos (Int.le_of_lt a2) (show crs3 o x z ≤ 0 by omega)
        omega
theorem pq_h30 (u : P2) : pq (h30 u) = ⟨(u.a : Rat) / 30, (u.b : Rat) / 30⟩ := pq_hd (by decide) u
theorem cz_h30 (u v w : P2) : (crs3 u v w : Rat) = 900 * cz (pq (h30 u)) (pq (h30 v)) (pq (h30 w)) := by
  rw [pq_h30, pq_h30, pq_h30]
  unfold crs3 cz
  simp only [Rat.intCast_sub, Rat.intCast_mul]
  grind
theorem trip_at {α : Type} {x y z : α} : ∀ {l : List α}, [x, y, z].Sublist l → ∃ (i j k : Nat) (hi : i < l.length) (hj : j < l.length) (hk : k < l.length), i < j ∧ j < k ∧ l[i] = x ∧ l[j] = y ∧ l[k] = z := fun {l} h => by
  obtain ⟨r1, r2, rfl, hx, h⟩ := List.cons_sublist_iff.mp h
  obtain ⟨r3, r4, rfl, hy, h⟩ := List.cons_sublist_iff.mp h
  have hz := List.singleton_sublist.mp h
  obtain ⟨i, hi, ei⟩ := List.getElem_of_mem hx
  obtain ⟨j, hj, ej⟩ := List.getElem_of_mem hy
  obtain ⟨k, hk, ek⟩ := List.getElem_of_mem hz
  refine ⟨i, r1.length + j, r1.length + (r3.length + k), by simp only [List.length_append]; omega, by simp only [List.length_append]; omega, by simp only [List.length_append]; omega, by omega, by omega, ?_, ?_, ?_⟩
  · rw [List.getElem_append_left hi]; exact ei
  · rw [List.getElem_append_right (by omega)]
    simp only [Nat.add_sub_cancel_left]
    rw [List.getElem_append_left hj]; exact ej
  · rw [List.getElem_append_right (by omega)]
    simp only [Nat.add_sub_cancel_left]
    rw [List.getElem_append_right (by omega)]
    simp only [Nat.add_sub_cancel_left]
    exact ek
theorem cvp_ord {us : List P2} (cv : CvP us) : OrdC ((us.map h30).map pq) := by
  intro x y z h
  obtain ⟨i, j, k, hi, hj, hk, l1, l2, e1, e2, e3⟩ := trip_at h
  have hk' : k < us.length := by simpa using hk
  simp only [List.getElem_map] at e1 e2 e3
  subst e1 e2 e3
  obtain ⟨d, rfl⟩ : ∃ d, k = j + 1 + d := ⟨k - (j + 1), by omega⟩
  have t := cvp_tri cv i d j l1 hk'
  have c := cz_h30 (us[i]'(by omega)) (us[j]'(by omega)) us[j + 1 + d]
  have p := rat_int_pos t
  rw [c] at p
  grind
theorem h30_pt10 {u : P2} (h : u.a.natAbs < 1024 ∧ u.b.natAbs < 1024) : Pt 10 (h30 u) := (hd_low (n := 30) (by decide) u).pt h.1 h.2 (by decide)
theorem bg_rq {us : List P2} (sz : ∀ u ∈ us, u.a.natAbs < 1024 ∧ u.b.natAbs < 1024) (h3 : 3 ≤ us.length) (cv : CvP us) : Rq 10 (us.map h30) := by
  refine ⟨fun p hp => ?_, by rw [List.length_map]; exact h3, cvp_ord cv⟩
  obtain ⟨u, hu, e⟩ := List.mem_map.mp hp
  rw [← e]; exact h30_pt10 (sz u hu)
theorem cvp_shift {us : List P2} (cv : CvP us) (w : P2) : CvP (us.map fun u => ⟨u.a + w.a, u.b + w.b⟩) := by
  intro k l j a b c e n1 n2
  rw [List.length_map] at a b c e
  simp only [List.getElem_map]
  have := cv k l j a b c e n1 n2
  unfold crs3 at this ⊢
  simp only
  have e1 : ∀ x y z : Int, x + z - (y + z) = x - y := by omega
  rw [e1, e1, e1, e1]
  exact this
/-- the lines of a ring of small points -/
theorem ls_rq {n : Nat} {R : List P3} (h : Rq n R) : LS (n + n + 1) (R.map pq) := by
  intro s hs
  have hs0 := hs
  rw [sd_pq] at hs
  obtain ⟨⟨p, q⟩, ht, e⟩ := List.mem_map.mp hs
  subst e
  obtain ⟨m1, m2⟩ := sd_mem ht
  have ne := qside_ne h.ord h.lo' hs0
  obtain ⟨A, B, C, h1, h2, h3, h4, h5⟩ := hF_line (hand := 1) (.inl rfl) (h.pt p m1) (h.pt q m2) ne
  refine ⟨A, B, C, h1, h2, h3, h5 _ ?_, h5 _ ?_, h4⟩
  · rw [hF1_at]; exact (cz_self _ _).2.2
  · rw [hF1_at]; exact (cz_self _ _).2.1
theorem lawslidg {p v : P3} {n m : Nat} (hp : Pt n p) (hv : Pt m v) (h : n + m ≤ 7000) : m__law_slid p v = some (slP v p) ∧ Pt (n + m + 1) (slP v p) := by
  have e : m__law_slid p v = some (slP v p) := by
    unfold m__law_slid
    rw [mulG_ok _ _ hp.sa hv.sc (by omega), Option.bind_some, mulG_ok _ _ hv.sa hp.sc (by omega), Option.bind_some, mulG_ok _ _ hp.sb hv.sc (by omega), Option.bind_some, mulG_ok _ _ hv.sb hp.sc (by omega), Option.bind_some, mulG_ok _ _ hp.sc hv.sc (by omega), Option.bind_some,
      lawpnt_ok (Int.mul_pos hp.pos hv.pos) (pow_le (sz_mul hp.sc hv.sc) (by omega))]; rfl
  refine ⟨e, (hd_low (Int.mul_pos hp.pos hv.pos) _).pt ?_ ?_ (pow_le (sz_mul hp.sc hv.sc) (by omega))⟩
  · exact sz_add (sz_mul hp.sa hv.sc) (pow_le (sz_mul hv.sa hp.sc) (by omega))
  · exact sz_add (sz_mul hp.sb hv.sc) (pow_le (sz_mul hv.sb hp.sc) (by omega))
/-- a point drawn by weights: of what size -/
theorem mixedq_ok {n : Nat} {R : List P3} (h : ∀ p ∈ R, Pt n p) (h1 : R ≠ []) (hl : R.length * (n + 7) ≤ 2900) {xs : List Int} (hb : Bag xs) : ∃ r ys, m__law_mixed R xs = some (r, ys) ∧ Bag ys ∧ Pt (1 + R.length * (n + 7) + 16) r := by
  unfold m__law_mixed
  rw [Option.bind_some]
  have hn : n ≤ 2900 := by
    have : 0 < R.length := List.length_pos_iff.mpr h1
    have := Nat.mul_le_mul_right (n + 7) this
    omega
  obtain ⟨s, e, i⟩ := foldO_at (xs := R) (s := ((xs, (T3.mk 0 0 1), 0) : (List Int) × P3 × Int)) (f := fun (x1 : (T3 Int Int Int)) (s1 : ((List Int) × (T3 Int Int Int) × Int)) =>
     ((m__law_digit s1.1 61).bind fun z1 =>
     (some ((1 + z1.1))).bind fun (weight_1 : Int) =>
     (mulG x1.a weight_1).bind fun z2 =>
     (mulG x1.b weight_1).bind fun z3 =>
     (m__law_point z2 z3 x1.c).bind fun z4 =>
     (m__law_slid s1.2.1 z4).bind fun z5 =>
     (some (s1.2.2 + weight_1)).bind fun (weights_1 : Int) =>
     some ((z1.2, z5, weights_1)))) (fun k s => Bag s.1 ∧ Pt (1 + k * (n + 7)) s.2.1 ∧ (k : Int) ≤ s.2.2 ∧ s.2.2 ≤ 61 * k) 0 (fun j x s hx i => by
      obtain ⟨b, p, w1, w2⟩ := i
      rw [Nat.zero_add] at p w1 w2 ⊢
      have hm := List.mem_of_getElem? hx
      have hj : j < R.length := (List.getElem?_eq_some_iff.mp hx).1
      have hj2 := Nat.mul_le_mul_right (n + 7) (Nat.le_of_lt hj)
      have px := h x hm
      obtain ⟨d, y, e1, b1, l1, u1⟩ := digit_ok b (many := 61) (by decide) (by decide)
      have ws : (1 + d).natAbs < 2 ^ 6 := by omega
      rw [e1, Option.bind_some, Option.bind_some]
      simp only
      rw [mulG_ok _ _ px.sa ws (by omega), Option.bind_some, mulG_ok _ _ px.sb ws (by omega), Option.bind_some, lawpnt_ok px.pos (pow_le px.sc (by omega)), Option.bind_some]
      have pz : Pt (n + 6) (hd x.c ⟨x.a * (1 + d), x.b * (1 + d)⟩) := (hd_low px.pos _).pt (sz_mul px.sa ws) (sz_mul px.sb ws) (pow_le px.sc (by omega))
      obtain ⟨e2, p2⟩ := lawslidg p pz (by omega)
      rw [e2, Option.bind_some, Option.bind_some]
      exact ⟨_, rfl, b1, p2.mono (by rw [Nat.add_mul]; omega), by show ((j + 1 : Nat) : Int) ≤ s.2.2 + (1 + d); omega, by show s.2.2 + (1 + d) ≤ 61 * ((j + 1 : Nat) : Int); omega⟩) ⟨hb, by rw [Nat.zero_mul]; exact ⟨by show (0 : Int) < 1; decide, by show (0 : Int).natAbs < 2; decide, by show (0 : Int).natAbs < 2; decide, by show (1 : Int).natAbs < 2; decide, by show g3 0 0 1 = 1; decide⟩, Int.le_refl _, Int.le_refl _⟩
  obtain ⟨b, p, w1, w2⟩ := i
  rw [Nat.zero_add] at p w1 w2
  have hpos : 0 < R.length := List.length_pos_iff.mpr h1
  have hlen : R.length * 7 ≤ 2900 := Nat.le_trans (Nat.mul_le_mul_left _ (by omega)) hl
  have hw : s.2.2.natAbs < 2 ^ 16 := by omega
  have hc := sz_mul p.sc hw
  refine ⟨_, _, (congrArg (fun o => Option.bind o _) e).trans ?_, b, (hd_low (n := s.2.1.c * s.2.2) (Int.mul_pos p.pos (by omega)) ⟨s.2.1.a, s.2.1.b⟩).pt (k := 1 + R.length * (n + 7) + 16) ?_ ?_ ?_⟩
  · rw [Option.bind_some, mulG_ok _ _ p.sc hw (by omega), Option.bind_some, lawpnt_ok (Int.mul_pos p.pos (by omega)) (pow_le hc (by omega))]
    rfl
  · exact pow_le p.sa (by omega)
  · exact pow_le p.sb (by omega)
  · exact hc
theorem spotq_ok {xs : List Int} (hb : Bag xs) : ∃ r ys, m__law_spot xs 6 = some (r, ys) ∧ Bag ys ∧ Pt 10 r := by
  unfold m__law_spot
  obtain ⟨n, y1, e1, b1, l1, u1⟩ := digit_ok hb (many := 97) (by decide) (by decide)
  rw [e1, Option.bind_some, Option.bind_some]
  simp only
  rw [mulG_ok 4 7 (a := 6 + 2) (b := 1 + n) (by decide) (by omega) (by decide), Option.bind_some]
  obtain ⟨a, y2, e2, b2, l2, u2⟩ := digit_ok b1 (many := (6 + 2) * (1 + n) + 1) (by omega) (by omega)
  rw [e2, Option.bind_some, Option.bind_some]
  simp only
  obtain ⟨c, y3, e3, b3, l3, u3⟩ := digit_ok b2 (many := (6 + 2) * (1 + n) + 1) (by omega) (by omega)
  rw [e3, Option.bind_some]
  simp only
  rw [lawpnt_ok (by omega) (pow_le (n := 10) (by omega) (by decide)), Option.bind_some]
  exact ⟨_, _, rfl, b3, (hd_low (by omega) _).pt (by show (a - (1 + n)).natAbs < _; omega) (by show (c - (1 + n)).natAbs < _; omega) (by omega)⟩
/-! ### plain: the second ring, the law -/
theorem tn_h30 (u : P2) : (⟨-(h30 u).a, -(h30 u).b, (h30 u).c⟩ : P3) = h30 ⟨-u.a, -u.b⟩ := by
  have w := h30_ov u
  refine ov_same (P := 30) (u := ⟨-u.a, -u.b⟩) (by decide) ⟨w.pos, ?_, ?_, ?_⟩ (h30_ov _)
  · show -(h30 u).a * 30 = -u.a * (h30 u).c
    rw [Int.neg_mul, w.ea, Int.neg_mul]
  · show -(h30 u).b * 30 = -u.b * (h30 u).c
    rw [Int.neg_mul, w.eb, Int.neg_mul]
  · have := w.one
    unfold g3 at *
    rw [Int.neg_gcd, Int.gcd_neg]
    exact this
theorem slid_us {us : List P2} (h : ∀ u ∈ us, Sz 1000000 u) {w : P2} (hw : Sz 1000000 w) : mapO (fun (x1 : (T3 Int Int Int)) => ((m__law_slid x1 (h30 w)).bind fun z3 => some z3)) (us.map h30) = some ((us.map fun u => ⟨u.a + w.a, u.b + w.b⟩).map h30) := by
  rw [mapO_map (g := slP (h30 w)) fun x hx => by
    obtain ⟨u, hu, e⟩ := List.mem_map.mp hx
    rw [← e, lawslid_ok (h30_pt (by decide) (h u hu)) (h30_pt (by decide) hw)]; rfl]
  rw [List.map_map, List.map_map]
  congr 1
  exact List.map_congr_left fun u _ => slP_h30 u w
structure Sec (vs : List P2) : Prop where
  sz : ∀ u ∈ vs, u.a.natAbs < 1024 ∧ u.b.natAbs < 1024
  lo : 3 ≤ vs.length
  hi : vs.length ≤ 5
  cv : CvP vs
theorem Bg.sec {us : List P2} (h : Bg 180 5 us) : Sec us := ⟨fun u hu => by have := h.sz u hu; exact ⟨by have := this.1; omega, by have := this.2; omega⟩, h.lo, h.hi, h.cv⟩
theorem sec_shift {us : List P2} (h : Bg 180 5 us) {w : P2} (hw : Sz 360 w) : Sec (us.map fun u => ⟨u.a + w.a, u.b + w.b⟩) := by
  refine ⟨fun u hu => ?_, by rw [List.length_map]; exact h.lo, by rw [List.length_map]; exact h.hi, cvp_shift h.cv w⟩
  obtain ⟨v, hv, e⟩ := List.mem_map.mp hu
  have := h.sz v hv
  have a := this.1
  have b := this.2
  have c := hw.1
  have d := hw.2
  subst e
  exact ⟨by show (v.a + w.a).natAbs < _; omega, by show (v.b + w.b).natAbs < _; omega⟩
theorem second_ok {us : List P2} (h : Bg 180 5 us) {xs : List Int} (hb : Bag xs) : ∃ vs ys, m__law_second (us.map h30) xs = some (vs.map h30, ys) ∧ Bag ys ∧ Sec vs := by
  unfold m__law_second
  have hl := h.lo
  have hh := h.hi
  obtain ⟨d, y1, e1, b1, l1, u1⟩ := digit_ok hb (many := 6) (by decide) (by decide)
  rw [e1, Option.bind_some]
  simp only [List.length_map]
  by_cases c0 : d = 0
  · rw [if_pos (by simpa using c0)]
    exact ⟨us, y1, rfl, b1, h.sec⟩
  rw [if_neg (by simpa using c0)]
  by_cases c1 : d = 1
  · rw [if_pos (by simpa using c1)]
    obtain ⟨w, y2, e2, b2, sw⟩ := step_ok b1 (m := 6) (by decide) (by decide)
    rw [e2, Option.bind_some, lenOk_ok (by omega), Option.bind_some]
    simp only
    rw [slid_us (fun u hu => (h.sz u hu).mono (by decide)) (sw.mono (by decide)), Option.bind_some]
    exact ⟨_, y2, rfl, b2, sec_shift h (sw.mono (by decide))⟩
  rw [if_neg (by simpa using c1)]
  by_cases c2 : d = 2
  · rw [if_pos (by simpa using c2)]
    obtain ⟨i, y2, e2, b2, l2, u2⟩ := digit_ok b1 (many := (us.length : Int)) (by omega) (by omega)
    rw [e2, Option.bind_some]
    simp only
    obtain ⟨i', rfl⟩ : ∃ i' : Nat, i = (i' : Int) := ⟨i.toNat, by omega⟩
    have hi' : i' < us.length := by omega
    rw [ix_map, ix_lt hi', Option.map_some, Option.bind_some]
    obtain ⟨j, y3, e3, b3, l3, u3⟩ := digit_ok b2 (many := (us.length : Int)) (by omega) (by omega)
    rw [e3, Option.bind_some]
    simp only
    obtain ⟨j', rfl⟩ : ∃ j' : Nat, j = (j' : Int) := ⟨j.toNat, by omega⟩
    have hj' : j' < us.length := by omega
    have s1 := h.sz _ (List.getElem_mem hi')
    have s2 := h.sz _ (List.getElem_mem hj')
    rw [ix_map, ix_lt hj', Option.map_some, Option.bind_some]
    unfold m__law_turned
    rw [Option.bind_some, tn_h30]
    have s3 : Sz 180 (⟨-us[j'].a, -us[j'].b⟩ : P2) := ⟨by show (-us[j'].a).natAbs ≤ 180; rw [Int.natAbs_neg]; exact s2.1, by show (-us[j'].b).natAbs ≤ 180; rw [Int.natAbs_neg]; exact s2.2⟩
    rw [lawslid_ok (h30_pt (by decide) (s1.mono (C := 1000000) (by decide))) (h30_pt (by decide) (s3.mono (C := 1000000) (by decide))), Option.bind_some, slP_h30, lenOk_ok (by omega), Option.bind_some]
    have s4 : Sz 360 (⟨us[i'].a + -us[j'].a, us[i'].b + -us[j'].b⟩ : P2) := by
      have a := s1.1
      have b := s1.2
      have c := s2.1
      have d := s2.2
      exact ⟨by show (us[i'].a + -us[j'].a).natAbs ≤ 360; omega, by show (us[i'].b + -us[j'].b).natAbs ≤ 360; omega⟩
    rw [slid_us (fun u hu => (h.sz u hu).mono (by decide)) (s4.mono (by decide)), Option.bind_some]
    exact ⟨_, y3, rfl, b3, sec_shift h s4⟩
  rw [if_neg (by simpa using c2)]
  obtain ⟨vs, y2, e2, b2, g⟩ := bulging_ok b1
  rw [e2, Option.bind_some]
  exact ⟨vs, y2, rfl, b2, g.sec⟩
theorem mapS_bag {β : Type} {f : Int → List Int → Option (β × List Int)} {P : β → Prop} (hf : ∀ x s, Bag s → ∃ y s', f x s = some (y, s') ∧ Bag s' ∧ P y) {xs : List Int} {s : List Int} (h : Bag s) : ∃ ys s', mapS f xs s = some (ys, s') ∧ Bag s' ∧ ys.length = xs.length ∧ ∀ y ∈ ys, P y := by
  obtain ⟨ys, s', e, b, l, q⟩ := mapS_inv Bag (fun _ y => P y) (xs := xs) (s := s) (fun x s _ hb => hf x s hb) h
  exact ⟨ys, s', e, b, l, fun y hy => by obtain ⟨_, _, p⟩ := q y hy; exact p⟩
theorem law_true (ns : List Int) (hlen : ns.length ≤ 63) : m_law ns = some true := by
  unfold m_law
  obtain ⟨c1, e1⟩ := cell_ok ns 0
  obtain ⟨x1, e2, b1⟩ := bag_ok c1
  obtain ⟨us, x2, e3, b2, g⟩ := bulging_ok b1
  obtain ⟨c2, e4⟩ := cell_ok ns 1
  obtain ⟨x3, e5, b3⟩ := bag_ok c2
  obtain ⟨vs, x4, e6, b4, g2⟩ := second_ok g b3
  have gs := g.sec
  have rR := bg_rq gs.sz gs.lo gs.cv
  have rO := bg_rq g2.sz g2.lo g2.cv
  have hl1 : (us.map h30).length ≤ 5 := by rw [List.length_map]; exact gs.hi
  have hl2 : (vs.map h30).length ≤ 5 := by rw [List.length_map]; exact g2.hi
  rw [show ((0 : Nat) : Int) = 0 from rfl] at e1
  rw [show ((1 : Nat) : Int) = 1 from rfl] at e4
  rw [e1, Option.bind_some, e2, Option.bind_some, e3, Option.bind_some, e4, Option.bind_some, e5, Option.bind_some]
  simp only
  rw [e6, Option.bind_some, Option.bind_some]
  simp only
  generalize us.map h30 = R at *
  generalize vs.map h30 = O at *
  have i0 : ix [R, O] 0 = some R := rfl
  have i1 : ix [R, O] 1 = some O := rfl
  rw [i0, Option.bind_some, i1, Option.bind_some]
  have lsR := ls_rq rR
  have lsO := ls_rq rO
  -- the spots
  obtain ⟨s0, x5, e7, b5, l5, p5⟩ := mapS_bag (f := fun (x5 : Int) (s1 : (List Int)) => ((m__law_spot s1 6).bind fun z9 => some (z9.1, z9.2))) (P := Pt 600) (fun x s hb => by
    obtain ⟨r, ys, e, b, p⟩ := spotq_ok hb
    exact ⟨r, ys, by rw [e]; rfl, b, p.mono (by decide)⟩) (xs := rangeL 0 8) b4
  have mx : ∀ (T : List P3), Rq 43 T → T.length ≤ 10 → ∀ s, Bag s → ∃ r ys, m__law_mixed T s = some (r, ys) ∧ Bag ys ∧ Pt 600 r := fun T hT hl s hb => by
    have h3 := hT.lo
    obtain ⟨r, ys, e, b, p⟩ := mixedq_ok hT.pt (fun e => by rw [e] at h3; simp at h3) (by have := Nat.mul_le_mul_right (43 + 7) hl; omega) hb
    exact ⟨r, ys, e, b, p.mono (by have := Nat.mul_le_mul_right (43 + 7) hl; omega)⟩
  obtain ⟨s1, e8, i8⟩ := foldO_range (lo := 0) (n := 3) (s := (x5, s0)) (f := fun (x6 : Int) (s2 : ((List Int) × (List (T3 Int Int Int)))) =>
     ((m__law_mixed R s2.1).bind fun z10 =>
     (m__law_mixed O z10.2).bind fun z11 =>
     (lenOk (s2.2.length + ([z10.1, z11.1]).length)).bind fun _ =>
     some ((z11.2, (s2.2 ++ [z10.1, z11.1]))))) (fun k s => Bag s.1 ∧ s.2.length = 8 + 2 * k ∧ ∀ p ∈ s.2, Pt 600 p) (fun j s hj i => by
      obtain ⟨b, l, p⟩ := i
      obtain ⟨r1, y1, f1, c1, q1⟩ := mx R (rR.mono (by decide)) (by omega) s.1 b
      obtain ⟨r2, y2, f2, c2, q2⟩ := mx O (rO.mono (by decide)) (by omega) y1 c1
      rw [f1, Option.bind_some]
      simp only
      rw [f2, Option.bind_some, lenOk_ok (by simp only [List.length_cons, List.length_nil]; omega), Option.bind_some]
      refine ⟨_, rfl, c2, by simp only [List.length_append, List.length_cons, List.length_nil]; omega, fun p' hp' => ?_⟩
      rcases List.mem_append.mp hp' with h | h
      · exact p p' h
      · rcases List.mem_cons.mp h with h | h
        · rw [h]; exact q1
        · rw [List.mem_singleton.mp h]; exact q2) ⟨b5, by rw [l5, rangeL_len], p5⟩
  obtain ⟨b8, l8, p8⟩ := i8
  have wR : ∀ v, Pt 600 v → ∃ z, m__law_within R v = some z ∧ (z = 1 ↔ InQ (R.map pq) (pq v)) ∧ (ClQ (R.map pq) (pq v) → z ≠ 0) ∧ (z = 1 ∨ z = 0 ∨ z = -1) := fun v hv => within_q (fun p hp => (rR.pt p hp).mono (by decide)) hv (by decide) (by omega)
  have wO : ∀ v, Pt 600 v → ∃ z, m__law_within O v = some z ∧ (z = 1 ↔ InQ (O.map pq) (pq v)) ∧ (ClQ (O.map pq) (pq v) → z ≠ 0) ∧ (z = 1 ∨ z = 0 ∨ z = -1) := fun v hv => within_q (fun p hp => (rO.pt p hp).mono (by decide)) hv (by decide) (by omega)
  have both : ∀ {a b : Int}, (a = 1 ∨ a = 0 ∨ a = -1) → (b = 1 ∨ b = 0 ∨ b = -1) → (!memB (-1) [a, b]) = true → (decide ([a, b] = [1, 1]) = decide (a = 1 ∧ b = 1)) := fun _ _ _ => by
    congr 1
    simp
  rcases common_ok (n := 10) (m := 21) (by decide) (by decide) rR rO (by omega) lsR with ⟨T, f1, t1, t2, _, t4, t5⟩ | ⟨f1, t1⟩
  · rcases common_ok (n := 10) (m := 21) (by decide) (by decide) rO rR (by omega) lsO with ⟨T', f2, t1', t2', _, t4', _⟩ | ⟨f2, t1'⟩
    · rw [f1, Option.bind_some, Option.bind_some, Option.bind_some, f2, Option.bind_some, if_neg (by simp), e7, Option.bind_some]
      simp only
      refine (congrArg (fun o => Option.bind o _) e8).trans ?_
      rw [Option.bind_some, if_pos (by rfl), Option.bind_some, t1.convex (by decide) (by omega), Option.bind_some, if_neg (by decide), Option.bind_some, t1'.convex (by decide) (by omega), Option.bind_some, Option.bind_some, if_neg (by decide)]
      obtain ⟨a1, g1, h1, h2, h3, h4, _⟩ := tareaq_ok t1.pt (by have := Nat.mul_le_mul_right (2 * (21 + 21 + 1)) (show T.length ≤ 10 by omega); omega) (by decide) (by omega)
      obtain ⟨a2, g3', h1', h2', h3', h4', _⟩ := tareaq_ok t1'.pt (by have := Nat.mul_le_mul_right (2 * (21 + 21 + 1)) (show T'.length ≤ 10 by omega); omega) (by decide) (by omega)
      have ea : a1 = a2 := by
        refine pq_inj h1 h1' h2 h2' ?_
        have x1 : (pq a1).a = (pq a2).a := by rw [h4, h4']; exact area_same t1 t1' fun v => by rw [t4, t4', and_comm]
        have x2 : (pq a1).b = (pq a2).b := by
          unfold pq
          simp only
          rw [h3, h3', Rat.div_def, Rat.div_def]
          show (0 : Rat) * _ = 0 * _
          rw [Rat.zero_mul, Rat.zero_mul]
        generalize pq a1 = A at *
        generalize pq a2 = B at *
        obtain ⟨A1, A2⟩ := A
        obtain ⟨B1, B2⟩ := B
        simp only at x1 x2
        rw [x1, x2]
      rw [g1, Option.bind_some, Option.bind_some, g3', Option.bind_some, if_neg (by simp [ea])]
      refine loopL_bind (fun _ => True) (fun x s hx _ => ⟨(), ?_, trivial⟩) trivial fun _ _ => ?_
      · obtain ⟨z1, k1, k2, k3, k4⟩ := wR x ((t1.pt x hx).mono (by decide))
        obtain ⟨z2, k1', k2', k3', k4'⟩ := wO x ((t1.pt x hx).mono (by decide))
        rw [k1, Option.bind_some, if_neg (by simpa using k3 (t5 x hx).1), k1', Option.bind_some, Option.bind_some, if_neg (by simpa using k3' (t5 x hx).2)]
      · obtain ⟨s9, x9, e9, b9, l9, p9⟩ := mapS_bag (f := fun (x11 : Int) (s8 : (List Int)) => ((m__law_mixed T s8).bind fun z20 => some (z20.1, z20.2))) (P := Pt 600) (fun x s hb => by
          obtain ⟨r, ys, e, b, p⟩ := mx T t1 (by omega) s hb
          exact ⟨r, ys, by rw [e]; rfl, b, p⟩) (xs := rangeL 0 3) b8
        rw [e9, Option.bind_some]
        simp only
        rw [lenOk_ok (by rw [l8, l9, rangeL_len]; decide), Option.bind_some]
        refine loopL_bind (fun _ => True) (fun x s hx _ => ⟨(), ?_, trivial⟩) trivial fun _ _ => ?_
        · have px : Pt 600 x := by
            rcases List.mem_append.mp hx with h | h
            · exact p8 x h
            · exact p9 x h
          obtain ⟨z1, k1, k2, k3, k4⟩ := wR x px
          obtain ⟨z2, k1', k2', k3', k4'⟩ := wO x px
          obtain ⟨z3, k1'', k2'', _, k4''⟩ := within_q (fun p hp => (t1.pt p hp).mono (show 43 ≤ 600 by decide)) px (by decide) (by omega)
          rw [k1, Option.bind_some, k1', Option.bind_some, Option.bind_some]
          by_cases c : (!memB (-1) [z1, z2]) = true
          · rw [if_pos c, Option.bind_some, if_pos (by rfl), k1'', Option.bind_some, Option.bind_some, both k4 k4' c]
            have : decide (z1 = 1 ∧ z2 = 1) = decide (z3 = 1) := decide_eq_decide.mpr (by rw [k2, k2', k2'', t4])
            rw [this, if_neg (by simp)]
          · rw [if_neg c]
        · rw [if_pos (by rfl)]
          simp
          rfl
    · exfalso
      obtain ⟨v, hv⟩ := in_exists t1.ord t1.lo'
      exact t1' v ((t4 v).mp hv).symm
  · rcases common_ok (n := 10) (m := 21) (by decide) (by decide) rO rR (by omega) lsO with ⟨T', f2, t1', t2', _, t4', _⟩ | ⟨f2, t1'⟩
    · exfalso
      obtain ⟨v, hv⟩ := in_exists t1'.ord t1'.lo'
      exact t1 v ((t4' v).mp hv).symm
    · rw [f1, Option.bind_some, Option.bind_some, Option.bind_some, f2, Option.bind_some, if_neg (by simp), e7, Option.bind_some]
      simp only
      refine (congrArg (fun o => Option.bind o _) e8).trans ?_
      rw [Option.bind_some, if_neg (by decide)]
      refine loopL_bind (fun _ => True) (fun x s hx _ => ⟨(), ?_, trivial⟩) trivial fun _ _ => ?_
      · obtain ⟨z1, k1, k2, k3, k4⟩ := wR x (p8 x hx)
        obtain ⟨z2, k1', k2', k3', k4'⟩ := wO x (p8 x hx)
        rw [k1, Option.bind_some, k1', Option.bind_some, Option.bind_some]
        by_cases c : (!memB (-1) [z1, z2]) = true
        · have hf : decide (z1 = 1 ∧ z2 = 1) = false := decide_eq_false (fun h => t1 _ ⟨k2.mp h.1, k2'.mp h.2⟩)
          rw [if_pos c, Option.bind_some, if_neg (by decide), Option.bind_some, both k4 k4' c, hf, if_neg (by simp)]
        · rw [if_neg c]
      · rw [if_neg (by decide)]
        simp
        rfl
def top (i : Nat) : Stmt := PySem.Challenge.pw_slidecut_k48_what_two_rings_have_in_comm.main.body.getD i (.Pass ⟨0, 0, 0, 0⟩)
abbrev s__law_cell : Stmt := top 15
abbrev s__law_bag : Stmt := top 16
abbrev s__law_digit : Stmt := top 17
abbrev s__law_point : Stmt := top 18
abbrev s__law_place : Stmt := top 27
abbrev s__law_side : Stmt := top 21
abbrev s__law_three : Stmt := top 29
abbrev s__law_is_point : Stmt := top 22
abbrev s__law_is_convex : Stmt := top 23
abbrev s__law_bulging : Stmt := top 30
abbrev s__law_step : Stmt := top 28
abbrev s__law_slid : Stmt := top 19
abbrev s__law_turned : Stmt := top 20
abbrev s__law_second : Stmt := top 33
abbrev s_crossed : Stmt := top 7
abbrev s_side : Stmt := top 8
abbrev s_greatest_divisor : Stmt := top 4
abbrev s_point : Stmt := top 6
abbrev s_meet : Stmt := top 9
abbrev s_half_of : Stmt := top 11
abbrev s_common : Stmt := top 13
abbrev s__law_spot : Stmt := top 31
abbrev s__law_mixed : Stmt := top 32
abbrev s__law_twice_area : Stmt := top 25
abbrev s__law_within : Stmt := top 24
abbrev s_law : Stmt := top 34
structure Txt (K : PySem.W.Frag) (mg : Str → Option Value) where
  A__law_cell : Addr
  D__law_cell : FuncData
  F__law_cell : Fun K "_law_cell" "_law_cell" s__law_cell A__law_cell D__law_cell
  g__law_cell : mg "_law_cell" = some (.ref A__law_cell)
  b__law_cell : Binds K D__law_cell ["_law_script", "_law_k"] []
  A__law_bag : Addr
  D__law_bag : FuncData
  F__law_bag : Fun K "_law_bag" "_law_bag" s__law_bag A__law_bag D__law_bag
  g__law_bag : mg "_law_bag" = some (.ref A__law_bag)
  b__law_bag : Binds K D__law_bag ["_law_cell_here"] []
  A__law_digit : Addr
  D__law_digit : FuncData
  F__law_digit : Fun K "_law_digit" "_law_digit" s__law_digit A__law_digit D__law_digit
  g__law_digit : mg "_law_digit" = some (.ref A__law_digit)
  b__law_digit : Binds K D__law_digit ["_law_bag_here", "_law_many"] []
  A__law_point : Addr
  D__law_point : FuncData
  F__law_point : Fun K "_law_point" "_law_point" s__law_point A__law_point D__law_point
  g__law_point : mg "_law_point" = some (.ref A__law_point)
  b__law_point : Binds K D__law_point ["_law_a", "_law_b", "_law_n"] []
  A__law_place : Addr
  D__law_place : FuncData
  F__law_place : Fun K "_law_place" "_law_place" s__law_place A__law_place D__law_place
  g__law_place : mg "_law_place" = some (.ref A__law_place)
  b__law_place : Binds K D__law_place ["_law_bag_here", "_law_most"] []
  A__law_side : Addr
  D__law_side : FuncData
  F__law_side : Fun K "_law_side" "_law_side" s__law_side A__law_side D__law_side
  g__law_side : mg "_law_side" = some (.ref A__law_side)
  b__law_side : Binds K D__law_side ["_law_p", "_law_q", "_law_r"] []
  A__law_three : Addr
  D__law_three : FuncData
  F__law_three : Fun K "_law_three" "_law_three" s__law_three A__law_three D__law_three
  g__law_three : mg "_law_three" = some (.ref A__law_three)
  b__law_three : Binds K D__law_three ["_law_bag_here", "_law_most"] []
  A__law_is_point : Addr
  D__law_is_point : FuncData
  F__law_is_point : Fun K "_law_is_point" "_law_is_point" s__law_is_point A__law_is_point D__law_is_point
  g__law_is_point : mg "_law_is_point" = some (.ref A__law_is_point)
  b__law_is_point : Binds K D__law_is_point ["_law_p"] []
  A__law_is_convex : Addr
  D__law_is_convex : FuncData
  F__law_is_convex : Fun K "_law_is_convex" "_law_is_convex" s__law_is_convex A__law_is_convex D__law_is_convex
  g__law_is_convex : mg "_law_is_convex" = some (.ref A__law_is_convex)
  b__law_is_convex : Binds K D__law_is_convex ["_law_ring"] []
  A__law_bulging : Addr
  D__law_bulging : FuncData
  F__law_bulging : Fun K "_law_bulging" "_law_bulging" s__law_bulging A__law_bulging D__law_bulging
  g__law_bulging : mg "_law_bulging" = some (.ref A__law_bulging)
  b__law_bulging : Binds K D__law_bulging ["_law_bag_here", "_law_most"] []
  A__law_step : Addr
  D__law_step : FuncData
  F__law_step : Fun K "_law_step" "_law_step" s__law_step A__law_step D__law_step
  g__law_step : mg "_law_step" = some (.ref A__law_step)
  b__law_step : Binds K D__law_step ["_law_bag_here", "_law_most"] []
  A__law_slid : Addr
  D__law_slid : FuncData
  F__law_slid : Fun K "_law_slid" "_law_slid" s__law_slid A__law_slid D__law_slid
  g__law_slid : mg "_law_slid" = some (.ref A__law_slid)
  b__law_slid : Binds K D__law_slid ["_law_p", "_law_v"] []
  A__law_turned : Addr
  D__law_turned : FuncData
  F__law_turned : Fun K "_law_turned" "_law_turned" s__law_turned A__law_turned D__law_turned
  g__law_turned : mg "_law_turned" = some (.ref A__law_turned)
  b__law_turned : Binds K D__law_turned ["_law_p"] []
  A__law_second : Addr
  D__law_second : FuncData
  F__law_second : Fun K "_law_second" "_law_second" s__law_second A__law_second D__law_second
  g__law_second : mg "_law_second" = some (.ref A__law_second)
  b__law_second : Binds K D__law_second ["_law_ring", "_law_bag_here"] []
  A_crossed : Addr
  D_crossed : FuncData
  F_crossed : Fun K "crossed" "crossed" s_crossed A_crossed D_crossed
  g_crossed : mg "crossed" = some (.ref A_crossed)
  b_crossed : Binds K D_crossed ["p", "q"] []
  A_side : Addr
  D_side : FuncData
  F_side : Fun K "side" "side" s_side A_side D_side
  g_side : mg "side" = some (.ref A_side)
  b_side : Binds K D_side ["p", "q", "r"] []
  A_greatest_divisor : Addr
  D_greatest_divisor : FuncData
  F_greatest_divisor : Fun K "greatest_divisor" "greatest_divisor" s_greatest_divisor A_greatest_divisor D_greatest_divisor
  g_greatest_divisor : mg "greatest_divisor" = some (.ref A_greatest_divisor)
  b_greatest_divisor : Binds K D_greatest_divisor ["a", "b"] []
  A_point : Addr
  D_point : FuncData
  F_point : Fun K "point" "point" s_point A_point D_point
  g_point : mg "point" = some (.ref A_point)
  b_point : Binds K D_point ["a", "b", "n"] []
  A_meet : Addr
  D_meet : FuncData
  F_meet : Fun K "meet" "meet" s_meet A_meet D_meet
  g_meet : mg "meet" = some (.ref A_meet)
  b_meet : Binds K D_meet ["p", "q", "r", "s"] []
  A_half_of : Addr
  D_half_of : FuncData
  F_half_of : Fun K "half_of" "half_of" s_half_of A_half_of D_half_of
  g_half_of : mg "half_of" = some (.ref A_half_of)
  b_half_of : Binds K D_half_of ["ring", "p", "q", "hand"] []
  A_common : Addr
  D_common : FuncData
  F_common : Fun K "common" "common" s_common A_common D_common
  g_common : mg "common" = some (.ref A_common)
  b_common : Binds K D_common ["one", "other"] []
  A__law_spot : Addr
  D__law_spot : FuncData
  F__law_spot : Fun K "_law_spot" "_law_spot" s__law_spot A__law_spot D__law_spot
  g__law_spot : mg "_law_spot" = some (.ref A__law_spot)
  b__law_spot : Binds K D__law_spot ["_law_bag_here", "_law_most"] []
  A__law_mixed : Addr
  D__law_mixed : FuncData
  F__law_mixed : Fun K "_law_mixed" "_law_mixed" s__law_mixed A__law_mixed D__law_mixed
  g__law_mixed : mg "_law_mixed" = some (.ref A__law_mixed)
  b__law_mixed : Binds K D__law_mixed ["_law_ring", "_law_bag_here"] []
  A__law_twice_area : Addr
  D__law_twice_area : FuncData
  F__law_twice_area : Fun K "_law_twice_area" "_law_twice_area" s__law_twice_area A__law_twice_area D__law_twice_area
  g__law_twice_area : mg "_law_twice_area" = some (.ref A__law_twice_area)
  b__law_twice_area : Binds K D__law_twice_area ["_law_ring"] []
  A__law_within : Addr
  D__law_within : FuncData
  F__law_within : Fun K "_law_within" "_law_within" s__law_within A__law_within D__law_within
  g__law_within : mg "_law_within" = some (.ref A__law_within)
  b__law_within : Binds K D__law_within ["_law_ring", "_law_p"] []
  A_law : Addr
  D_law : FuncData
  F_law : Fun K "law" "law" s_law A_law D_law
  g_law : mg "law" = some (.ref A_law)
  b_law : Binds K D_law ["_law_script"] []
  z_abs : mg "abs" = none
  z_bool : mg "bool" = none
  z_enumerate : mg "enumerate" = none
  z_int : mg "int" = none
  z_isinstance : mg "isinstance" = none
  z_len : mg "len" = none
  z_list : mg "list" = none
  z_max : mg "max" = none
  z_range : mg "range" = none
  z_tuple : mg "tuple" = none
section
variable {P : Program} {w : World} {K : PySem.W.Frag} {mg : Str → Option Value} {base : Heap}
abbrev sp__law_cell (K : PySem.W.Frag) : Sp := fun vs H Q _ => ∃ (X : Addr → Prop)  (a__law_script : (List Int)) (a__law_k : Int) (r : Int), m__law_cell a__law_script a__law_k = some r ∧ Cond K X H [.scr a__law_script, .imm (.int a__law_k)] vs ∧ ∀ H', Fin K X H [] [] (.imm (.int r)) (.int r) H' → Q (.int r) H'
theorem mk__law_cell {K : PySem.W.Frag} {X : Addr → Prop} {H : Hp} {vs : List V} {Q : VK} {E : XK}  {a__law_script : (List Int)} {a__law_k : Int} {r : Int} (hm : m__law_cell a__law_script a__law_k = some r) (c : Cond K X H [.scr a__law_script, .imm (.int a__law_k)] vs) (k : ∀ H', Fin K X H [] [] (.imm (.int r)) (.int r) H' → Q (.int r) H') : sp__law_cell K vs H Q E := ⟨X, a__law_script, a__law_k, r, hm, c, k⟩
abbrev n__law_cell : List Str := ["_law_script", "_law_k"]
theorem sc__law_cell : FnScope n__law_cell ["_law_script", "_law_k"] (defScope s__law_cell) := ⟨rfl, rfl, rfl, by decide +kernel, rfl, by decide +kernel, by decide +kernel⟩
theorem ok__law_cell (T : Txt K mg) : FnOk P w K mg base CX0 1 T.A__law_cell T.D__law_cell ["_law_script", "_law_k"] (sp__law_cell K) := by
  refine Fun.ok T.F__law_cell sc__law_cell (fun vs H Q E h => ?_) (fun cdv A outer s H vs Q E hr h => ?_)
  · obtain ⟨X, a__law_script, a__law_k, r, hm, c, kont⟩ := h
    exact c.len
  · obtain ⟨X, a__law_script, a__law_k, r, hm, c, kont⟩ := h
    refine ⟨_, (pss_cons (ps_if (pt_cmpR op_lt (pv 1) (pe_callB (r := rLenX K) call_lenX (by rfl) T.z_len (by decide +kernel) (pa_cons (pv 0) pa_nil)) (nomark _)) (pss_one (ps_ret (pe_ix (r := rIxL K) ix_list (pv 0) (pv 1) (fun _ _ => rfl)))) pss_nil)
      (pss_one (ps_ret pe_int))), ?_⟩
    have L0 : Lo ⟨K, X, H, muts [.scr a__law_script, .imm (.int a__law_k)], n__law_cell.length⟩ X H (L2.start n__law_cell vs) [.scr a__law_script, .imm (.int a__law_k)] := c.start n__law_cell (show (2 : Nat) ≤ 2 by decide)
    unfold m__law_cell at hm
    refine x_seq (x_ifS (x_test (x_op (x_vI (x := a__law_k) L0 rfl (x_cb (x_cons (x_vscr L0 rfl fun v1 r1 => x_nil (x_lenS r1 (x_r0 (x_kb (x_if hm (fun hm1 => ?_) fun hm1 => ?_)))))))))))
    · exact x_ret (x_op (x_vscr L0 rfl fun v2 r2 => x_vI (x := a__law_k) L0 rfl (x_ixS hm1 r2 fun x1 _ hm2 => x_finI (Q := Q) (ps := (fun (r : Int) => [])) (sc := fun (r : Int) => r) x1 hm2 kont (L0.fin hp0 (.int _)))))
    · refine x_next ?_
      exact x_ret (x_c (x_finI (Q := Q) (ps := (fun (r : Int) => [])) (sc := fun (r : Int) => r) 0 hm1 kont (L0.fin hp0 (.int _))))
abbrev sp__law_bag (K : PySem.W.Frag) : Sp := fun vs H Q _ => ∃ (X : Addr → Prop)  (a__law_cell_here : Int) (r : (List Int)), m__law_bag a__law_cell_here = some r ∧ Cond K X H [.imm (.int a__law_cell_here)] vs ∧ ∀ p H', Fin K X H [] [] (.new (ml (r : (List Int)))) (.ref p) H' → Q (.ref p) H'
theorem mk__law_bag {K : PySem.W.Frag} {X : Addr → Prop} {H : Hp} {vs : List V} {Q : VK} {E : XK}  {a__law_cell_here : Int} {r : (List Int)} (hm : m__law_bag a__law_cell_here = some r) (c : Cond K X H [.imm (.int a__law_cell_here)] vs) (k : ∀ p H', Fin K X H [] [] (.new (ml (r : (List Int)))) (.ref p) H' → Q (.ref p) H') : sp__law_bag K vs H Q E := ⟨X, a__law_cell_here, r, hm, c, k⟩
abbrev n__law_bag : List Str := ["_law_cell_here"]
theorem sc__law_bag : FnScope n__law_bag ["_law_cell_here"] (defScope s__law_bag) := ⟨rfl, rfl, rfl, by decide +kernel, rfl, by decide +kernel, by decide +kernel⟩
theorem ok__law_bag (T : Txt K mg) : FnOk P w K mg base CX0 1 T.A__law_bag T.D__law_bag ["_law_cell_here"] (sp__law_bag K) := by
  refine Fun.ok T.F__law_bag sc__law_bag (fun vs H Q E h => ?_) (fun cdv A outer s H vs Q E hr h => ?_)
  · obtain ⟨X, a__law_cell_here, r, hm, c, kont⟩ := h
    exact c.len
  · obtain ⟨X, a__law_cell_here, r, hm, c, kont⟩ := h
    refine ⟨_, (pss_one (ps_ret (pe_lst (pa_cons (pe_op op_mul (pv 0) (pe_callTy call_intX (by rfl) T.z_int (by decide +kernel) (pa_cons (pe_cmpR op_ge (pv 0) (pe_op op_pow pe_int pe_int) (nomark _)) pa_nil))) (pa_cons (pe_op op_mod (pv 0) pe_int) pa_nil))))), ?_⟩
    have L0 : Lo ⟨K, X, H, muts [.imm (.int a__law_cell_here)], n__law_bag.length⟩ X H (L2.start n__law_bag vs) [.imm (.int a__law_cell_here)] := c.start n__law_bag (show (1 : Nat) ≤ 1 by decide)
    unfold m__law_bag at hm
    exact x_ret (x_lst (x_cons (x_op (x_vI (x := a__law_cell_here) L0 rfl (x_cb (x_cons (x_op (x_vI (x := a__law_cell_here) L0 rfl (x_op (x_c (x_c (x_powc (n := 1000000000000000000) ⟨by decide, by decide, by decide⟩ (by decide +kernel) (x_r0 (x_nil (x_intb (x_mulR (b2_small _) (x_cons (x_op (x_vI (x := a__law_cell_here) L0 rfl (x_c (x_modc (by decide) (x_nil (x_mkN L0 (.cons (.int _) (.cons (.int _) .nil)) (show (2 : Nat) ≤ 16777216 by decide) fun p1 _ _ h01 hx1 L1 le1 => x_finP (Q := Q) (ps := (fun (r : (List Int)) => [])) (o := fun (r : (List Int)) => (ml (r : (List Int)))) (e := [(a__law_cell_here * (b2 ((decide (1000000000000000000 ≤ a__law_cell_here))))), (a__law_cell_here % 2147483647)]) hm kont (L1.finT (p := p1) (i := 1) (o := (ml ([(a__law_cell_here * (b2 ((decide (1000000000000000000 ≤ a__law_cell_here))))), (a__law_cell_here % 2147483647)] : (List Int)))) hp0 rfl h01))))))))))))))))))))))))
abbrev sp__law_digit (K : PySem.W.Frag) : Sp := fun vs H Q _ => ∃ (X : Addr → Prop) (p__law_bag_here : Addr) (a__law_bag_here : (List Int)) (a__law_many : Int) (r : (Int × (List Int))), m__law_digit a__law_bag_here a__law_many = some r ∧ Cond K X H [.mu p__law_bag_here (ml (a__law_bag_here : (List Int))), .imm (.int a__law_many)] vs ∧ ∀ H', Fin K X H [p__law_bag_here] [(p__law_bag_here, (ml (r.2 : (List Int))))] (.imm (.int r.1)) (.int r.1) H' → Q (.int r.1) H'
theorem mk__law_digit {K : PySem.W.Frag} {X : Addr → Prop} {H : Hp} {vs : List V} {Q : VK} {E : XK} {p__law_bag_here : Addr} {a__law_bag_here : (List Int)} {a__law_many : Int} {r : (Int × (List Int))} (hm : m__law_digit a__law_bag_here a__law_many = some r) (c : Cond K X H [.mu p__law_bag_here (ml (a__law_bag_here : (List Int))), .imm (.int a__law_many)] vs) (k : ∀ H', Fin K X H [p__law_bag_here] [(p__law_bag_here, (ml (r.2 : (List Int))))] (.imm (.int r.1)) (.int r.1) H' → Q (.int r.1) H') : sp__law_digit K vs H Q E := ⟨X, p__law_bag_here, a__law_bag_here, a__law_many, r, hm, c, k⟩
abbrev n__law_digit : List Str := ["_law_bag_here", "_law_many", "_law_found"]
theorem sc__law_digit : FnScope n__law_digit ["_law_bag_here", "_law_many"] (defScope s__law_digit) := ⟨rfl, rfl, rfl, by decide +kernel, rfl, by decide +kernel, by decide +kernel⟩
theorem ok__law_digit (T : Txt K mg) : FnOk P w K mg base CX0 1 T.A__law_digit T.D__law_digit ["_law_bag_here", "_law_many"] (sp__law_digit K) := by
  refine Fun.ok T.F__law_digit sc__law_digit (fun vs H Q E h => ?_) (fun cdv A outer s H vs Q E hr h => ?_)
  · obtain ⟨X, p__law_bag_here, a__law_bag_here, a__law_many, r, hm, c, kont⟩ := h
    exact c.len
  · obtain ⟨X, p__law_bag_here, a__law_bag_here, a__law_many, r, hm, c, kont⟩ := h
    refine ⟨_, (pss_cons (ps_if (pt_cmpR op_gt (pe_ix (r := rIxL K) ix_list (pv 0) pe_int (fun _ _ => rfl)) pe_int (nomark _)) (pss_cons (ps_set (i := 2) sc__law_digit.nd rfl (Or.inl rfl) (pe_op op_modN (pe_ix (r := rIxL K) ix_list (pv 0) pe_int (fun _ _ => rfl)) (pv 1)))
      (pss_cons (ps_asg (pe_op op_divG (pe_ix (r := rIxL K) ix_list (pv 0) pe_int (fun _ _ => rfl)) (pv 1)) (pg_sub (pv 0) pe_int set_list))
      (pss_one (ps_ret (pv 2))))) pss_nil)
      (pss_cons (ps_asg (pe_op op_mod (pe_op op_add (pe_op op_mul (pe_ix (r := rIxL K) ix_list (pv 0) pe_int (fun _ _ => rfl)) pe_int) pe_int) pe_int) (pg_sub (pv 0) pe_int set_list))
      (pss_one (ps_ret (pe_op op_modN (pe_op op_fdiv (pe_op op_mod (pe_op op_mul (pe_ix (r := rIxL K) ix_list (pv 0) pe_int (fun _ _ => rfl)) pe_int) pe_int) pe_int) (pv 1)))))), ?_⟩
    have L0 : Lo ⟨K, X, H, muts [.mu p__law_bag_here (ml (a__law_bag_here : (List Int))), .imm (.int a__law_many)], n__law_digit.length⟩ X H (L2.start n__law_digit vs) [.mu p__law_bag_here (ml (a__law_bag_here : (List Int))), .imm (.int a__law_many), .unk] := c.start n__law_digit (show (2 : Nat) ≤ 3 by decide)
    unfold m__law_digit at hm
    refine x_seq (x_ifS (x_test (x_op (x_op (x_vm L0 rfl (x_c (x_ixMI (xs := a__law_bag_here) (j := 0) L0 rfl hm fun x1 _ hm1 => x_c (x_r0 (x_kb (x_if hm1 (fun hm2 => ?_) fun hm2 => ?_))))))))))
    · refine x_seq (x_asg (x_op (x_op (x_vm L0 rfl (x_c (x_ixMI (xs := a__law_bag_here) (j := 0) L0 rfl hm2 fun x2 _ hm3 => x_vI (x := a__law_many) L0 rfl (x_mod hm3 fun z1 _ hm4 => x_set (d := (.int z1)) (Γ' := [.mu p__law_bag_here (ml (a__law_bag_here : (List Int))), .imm (.int a__law_many), .imm (.int z1)]) L0 (.int _) (show (2 : Nat) < 3 by decide) rfl fun _ L1 => ?_)))))))
      refine x_seq (x_asg (x_op (x_op (x_vm L1 rfl (x_c (x_ixMI (xs := a__law_bag_here) (j := 0) L1 rfl hm4 fun x3 _ hm5 => x_vI (x := a__law_many) L1 rfl (x_div hm5 fun z2 _ hm6 => x_gSub (x_vm L1 rfl (x_c (x_setI (xs := a__law_bag_here) (x := z2) (j := 0) L1 rfl hm6 (.int _) fun y1 _ _ hm7 L2 => have L3 : Lo _ _ _ _ [.mu p__law_bag_here (ml (y1 : (List Int))), .imm (.int a__law_many), .imm (.int z1)] := L2; ?_))))))))))
      exact x_ret (x_vI (x := z1) L3 rfl (x_finI (Q := Q) (ps := (fun (r : (Int × (List Int))) => [(p__law_bag_here, (ml (r.2 : (List Int))))])) (sc := fun (r : (Int × (List Int))) => r.1) ((z1, y1)) hm7 kont (L3.fin (hp1 (L3.mrep (i := 0) rfl)) (.int _))))
    · refine x_next ?_
      refine x_seq (x_asg (x_op (x_op (x_op (x_op (x_vm L0 rfl (x_c (x_ixMI (xs := a__law_bag_here) (j := 0) L0 rfl hm2 fun x4 _ hm8 => x_c (x_mulR (by decide) (x_c (x_r0 (x_c (x_modc (by decide) (x_gSub (x_vm L0 rfl (x_c (x_setI (xs := a__law_bag_here) (x := (((x4 * 48271) + 11) % 2147483647)) (j := 0) L0 rfl hm8 (.int _) fun y2 _ _ hm9 L4 => have L5 : Lo _ _ _ _ [.mu p__law_bag_here (ml (y2 : (List Int))), .imm (.int a__law_many), .unk] := L4; ?_)))))))))))))))))
      exact x_ret (x_op (x_op (x_op (x_op (x_op (x_vm L5 rfl (x_c (x_ixMI (xs := y2) (j := 0) L5 rfl hm9 fun x5 _ hm10 => x_c (x_mulR (by decide) (x_c (x_modc (by decide) (x_c (x_divc ⟨by decide, by decide⟩ (x_vI (x := a__law_many) L5 rfl (x_mod hm10 fun z3 _ hm11 => x_finI (Q := Q) (ps := (fun (r : (Int × (List Int))) => [(p__law_bag_here, (ml (r.2 : (List Int))))])) (sc := fun (r : (Int × (List Int))) => r.1) ((z3, y2)) hm11 kont (L5.fin (hp1 (L5.mrep (i := 0) rfl)) (.int _)))))))))))))))))
abbrev sp__law_point (K : PySem.W.Frag) : Sp := fun vs H Q _ => ∃ (X : Addr → Prop)  (a__law_a : Int) (a__law_b : Int) (a__law_n : Int) (r : (T3 Int Int Int)), m__law_point a__law_a a__law_b a__law_n = some r ∧ Cond K X H [.imm (.int a__law_a), .imm (.int a__law_b), .imm (.int a__law_n)] vs ∧ ∀ v H', Fin K X H [] [] (.imm (enc (r : (T3 Int Int Int)))) v H' → Q v H'
theorem mk__law_point {K : PySem.W.Frag} {X : Addr → Prop} {H : Hp} {vs : List V} {Q : VK} {E : XK}  {a__law_a : Int} {a__law_b : Int} {a__law_n : Int} {r : (T3 Int Int Int)} (hm : m__law_point a__law_a a__law_b a__law_n = some r) (c : Cond K X H [.imm (.int a__law_a), .imm (.int a__law_b), .imm (.int a__law_n)] vs) (k : ∀ v H', Fin K X H [] [] (.imm (enc (r : (T3 Int Int Int)))) v H' → Q v H') : sp__law_point K vs H Q E := ⟨X, a__law_a, a__law_b, a__law_n, r, hm, c, k⟩
abbrev n__law_point : List Str := ["_law_a", "_law_b", "_law_n", "_law_one", "_law_other", "_law_rest"]
theorem sc__law_point : FnScope n__law_point ["_law_a", "_law_b", "_law_n"] (defScope s__law_point) := ⟨rfl, rfl, rfl, by decide +kernel, rfl, by decide +kernel, by decide +kernel⟩
theorem ok__law_point (T : Txt K mg) : FnOk P w K mg base CX0 1 T.A__law_point T.D__law_point ["_law_a", "_law_b", "_law_n"] (sp__law_point K) := by
  refine Fun.ok T.F__law_point sc__law_point (fun vs H Q E h => ?_) (fun cdv A outer s H vs Q E hr h => ?_)
  · obtain ⟨X, a__law_a, a__law_b, a__law_n, r, hm, c, kont⟩ := h
    exact c.len
  · obtain ⟨X, a__law_a, a__law_b, a__law_n, r, hm, c, kont⟩ := h
    refine ⟨_, (pss_cons (ps_set (i := 3) sc__law_point.nd rfl (Or.inl rfl) (pe_callB call_absX (by rfl) T.z_abs (by decide +kernel) (pa_cons (pv 0) pa_nil)))
      (pss_cons (ps_for PassesOwn.never rfl (pi_list (pe_lst (pa_cons (pe_callB call_absX (by rfl) T.z_abs (by decide +kernel) (pa_cons (pv 1) pa_nil)) (pa_cons (pv 2) pa_nil)))) (pg_name (i := 4) sc__law_point.nd rfl (Or.inl rfl)) (pss_one (ps_while PassesOwn.never (pt_cmpR op_gt (pv 4) pe_int (nomark _)) (pss_cons (ps_set (i := 5) sc__law_point.nd rfl (Or.inl rfl) (pe_op op_modN (pv 3) (pv 4)))
      (pss_cons (ps_set (i := 3) sc__law_point.nd rfl (Or.inl rfl) (pv 4))
      (pss_one (ps_set (i := 4) sc__law_point.nd rfl (Or.inl rfl) (pv 5))))))))
      (pss_one (ps_ret (pe_tup (pa_cons (pe_op op_divG (pv 0) (pv 3)) (pa_cons (pe_op op_divG (pv 1) (pv 3)) (pa_cons (pe_op op_divG (pv 2) (pv 3)) pa_nil)))))))), ?_⟩
    have L0 : Lo ⟨K, X, H, muts [.imm (.int a__law_a), .imm (.int a__law_b), .imm (.int a__law_n)], n__law_point.length⟩ X H (L2.start n__law_point vs) [.imm (.int a__law_a), .imm (.int a__law_b), .imm (.int a__law_n), .unk, .unk, .unk] := c.start n__law_point (show (3 : Nat) ≤ 6 by decide)
    unfold m__law_point at hm
    refine x_seq (x_asg (x_cb (x_cons (x_vI (x := a__law_a) L0 rfl (x_nil (x_abs (x_bset (x0 := (iabs a__law_a)) (d := fun one_1 => (.int one_1)) (Γf := fun one_1 => [.imm (.int a__law_a), .imm (.int a__law_b), .imm (.int a__law_n), .imm (.int one_1), .unk, .unk]) hm L0 (.int _) (show (3 : Nat) < 6 by decide) (fun _ => rfl) fun one_1 _ hm1 L1 => ?_)))))))
    refine x_seq (x_tforL (x_lst (x_cons (x_cb (x_cons (x_vI (x := a__law_b) L1 rfl (x_nil (x_abs (x_cons (x_vI (x := a__law_n) L1 rfl (x_nil (x_mkL L1 (.cons (.int _) (.cons (.int _) .nil)) (show (2 : Nat) ≤ 16777216 by decide) fun v1 _ L2 le1 r1 => have r2 : Rep _ _ _ (enc ([(iabs a__law_b), a__law_n] : (List Int))) v1 := r1; x_foL (G := (fun (s1 : Int) => [.imm (.int a__law_a), .imm (.int a__law_b), .imm (.int a__law_n), .imm (.int s1), .unk, .unk])) (s0 := one_1) (xs := [(iabs a__law_b), a__law_n]) (L2.weak (Γ' := [.imm (.int a__law_a), .imm (.int a__law_b), .imm (.int a__law_n), .imm (.int one_1), .unk, .unk]) (.k (.k (.k (.k (.k (.k .e))))))) (fun _ _ => rfl) r2 hm1 (fun x1 s1 H1 _ u1 _ _ _ _ _ hm2 L3 _ r3 hN1 hC1 => ?_) (fun s2 _ _ hm3 L4 => ?_)))))))))))))
    · refine x_set (d := (.int x1)) (Γ' := [.imm (.int a__law_a), .imm (.int a__law_b), .imm (.int a__law_n), .imm (.int s1), .imm (.int x1), .unk]) L3 r3 (show (4 : Nat) < 6 by decide) rfl fun _ L5 => ?_
      refine x_wh (n := x1.natAbs + 2) (G := (fun (s3 : (Int × Int)) => [.imm (.int a__law_a), .imm (.int a__law_b), .imm (.int a__law_n), .imm (.int s3.1), .imm (.int s3.2), .unk])) (s0 := (s1, x1)) (ρ := Empty) (ps := fun _ => []) (rs := fun _ => .imm .none) (L5.weak (Γ' := [.imm (.int a__law_a), .imm (.int a__law_b), .imm (.int a__law_n), .imm (.int s1), .imm (.int x1), .unk]) (.k (.k (.k (.k (.k (.k .e))))))) (fun _ _ => rfl) hm2 (fun s3 H2 _ _ _ _ _ _ hm5 L6 _ hN2 hC2 hB2 hR2 _ hQ1 => ?_) (fun s4 _ _ hm6 L7 => ?_) (fun q => q.elim)
      · refine x_test (x_op (x_vI (x := s3.2) L6 rfl (x_c (x_r0 (x_kb (hQ1 _ _ (x_whIf hm5 (fun hm8 => ?_) fun hm8 => ?_)))))))
        · refine x_seq (x_asg (x_op (x_vI (x := s3.1) L6 rfl (x_vI (x := s3.2) L6 rfl (x_mod hm8 fun z1 _ hm9 => x_set (d := (.int z1)) (Γ' := [.imm (.int a__law_a), .imm (.int a__law_b), .imm (.int a__law_n), .imm (.int s3.1), .imm (.int s3.2), .imm (.int z1)]) L6 (.int _) (show (5 : Nat) < 6 by decide) rfl fun _ L8 => ?_)))))
          refine x_seq (x_asg (x_vI (x := s3.2) L8 rfl (x_set (d := (.int s3.2)) (Γ' := [.imm (.int a__law_a), .imm (.int a__law_b), .imm (.int a__law_n), .imm (.int s3.2), .imm (.int s3.2), .imm (.int z1)]) L8 (.int _) (show (3 : Nat) < 6 by decide) rfl fun _ L9 => ?_)))
          refine x_asg (x_vI (x := z1) L9 rfl (x_set (d := (.int z1)) (Γ' := [.imm (.int a__law_a), .imm (.int a__law_b), .imm (.int a__law_n), .imm (.int s3.2), .imm (.int z1), .imm (.int z1)]) L9 (.int _) (show (4 : Nat) < 6 by decide) rfl fun _ L10 => ?_))
          exact x_leafN (G := (fun (s3 : (Int × Int)) => [.imm (.int a__law_a), .imm (.int a__law_b), .imm (.int a__law_n), .imm (.int s3.1), .imm (.int s3.2), .unk])) (e := (s3.2, z1)) hm9 hN2 (L10.weak (Γ' := [.imm (.int a__law_a), .imm (.int a__law_b), .imm (.int a__law_n), .imm (.int s3.2), .imm (.int z1), .unk]) (.k (.k (.k (.k (.k (.d .e)))))))
        · exact x_leafB (G := (fun (s3 : (Int × Int)) => [.imm (.int a__law_a), .imm (.int a__law_b), .imm (.int a__law_n), .imm (.int s3.1), .imm (.int s3.2), .unk])) (e := (s3.1, s3.2)) hm8 hB2 (L6.weak (Γ' := [.imm (.int a__law_a), .imm (.int a__law_b), .imm (.int a__law_n), .imm (.int s3.1), .imm (.int s3.2), .unk]) (.k (.k (.k (.k (.k (.k .e)))))))
      exact x_leaf (G := (fun (s1 : Int) => [.imm (.int a__law_a), .imm (.int a__law_b), .imm (.int a__law_n), .imm (.int s1), .unk, .unk])) (e := s4.1) hm6 hN1 (L7.weak (Γ' := [.imm (.int a__law_a), .imm (.int a__law_b), .imm (.int a__law_n), .imm (.int s4.1), .unk, .unk]) (.k (.k (.k (.k (.d (.k .e)))))))
    exact x_ret (x_tup (x_cons (x_op (x_vI (x := a__law_a) L4 rfl (x_vI (x := s2) L4 rfl (x_div hm3 fun z2 _ hm10 => x_cons (x_op (x_vI (x := a__law_b) L4 rfl (x_vI (x := s2) L4 rfl (x_div hm10 fun z3 _ hm11 => x_cons (x_op (x_vI (x := a__law_n) L4 rfl (x_vI (x := s2) L4 rfl (x_div hm11 fun z4 _ hm12 => x_nil (x_mkT L4 (.cons (.int _) (.cons (.int _) (.cons (.int _) .nil))) (show (3 : Nat) ≤ 16777216 by decide) fun v2 _ L11 le2 r5 => have r6 : Rep _ _ _ (enc ((T3.mk z2 z3 z4) : (T3 Int Int Int))) v2 := r5; x_fin (Q := Q) (ps := (fun (r : (T3 Int Int Int)) => [])) (rs := (fun (r : (T3 Int Int Int)) => (.imm (enc (r : (T3 Int Int Int)))))) (e := (T3.mk z2 z3 z4)) hm12 kont (L11.fin hp0 r6))))))))))))))))
abbrev sp__law_place (K : PySem.W.Frag) : Sp := fun vs H Q _ => ∃ (X : Addr → Prop) (p__law_bag_here : Addr) (a__law_bag_here : (List Int)) (a__law_most : Int) (r : ((T3 Int Int Int) × (List Int))), m__law_place a__law_bag_here a__law_most = some r ∧ Cond K X H [.mu p__law_bag_here (ml (a__law_bag_here : (List Int))), .imm (.int a__law_most)] vs ∧ ∀ v H', Fin K X H [p__law_bag_here] [(p__law_bag_here, (ml (r.2 : (List Int))))] (.imm (enc (r.1 : (T3 Int Int Int)))) v H' → Q v H'
theorem mk__law_place {K : PySem.W.Frag} {X : Addr → Prop} {H : Hp} {vs : List V} {Q : VK} {E : XK} {p__law_bag_here : Addr} {a__law_bag_here : (List Int)} {a__law_most : Int} {r : ((T3 Int Int Int) × (List Int))} (hm : m__law_place a__law_bag_here a__law_most = some r) (c : Cond K X H [.mu p__law_bag_here (ml (a__law_bag_here : (List Int))), .imm (.int a__law_most)] vs) (k : ∀ v H', Fin K X H [p__law_bag_here] [(p__law_bag_here, (ml (r.2 : (List Int))))] (.imm (enc (r.1 : (T3 Int Int Int)))) v H' → Q v H') : sp__law_place K vs H Q E := ⟨X, p__law_bag_here, a__law_bag_here, a__law_most, r, hm, c, k⟩
abbrev n__law_place : List Str := ["_law_bag_here", "_law_most", "_law_n"]
theorem sc__law_place : FnScope n__law_place ["_law_bag_here", "_law_most"] (defScope s__law_place) := ⟨rfl, rfl, rfl, by decide +kernel, rfl, by decide +kernel, by decide +kernel⟩
theorem ok__law_place (T : Txt K mg) : FnOk P w K mg base CX0 2 T.A__law_place T.D__law_place ["_law_bag_here", "_law_most"] (sp__law_place K) := by
  refine Fun.ok T.F__law_place sc__law_place (fun vs H Q E h => ?_) (fun cdv A outer s H vs Q E hr h => ?_)
  · obtain ⟨X, p__law_bag_here, a__law_bag_here, a__law_most, r, hm, c, kont⟩ := h
    exact c.len
  · obtain ⟨X, p__law_bag_here, a__law_bag_here, a__law_most, r, hm, c, kont⟩ := h
    refine ⟨_, (pss_cons (ps_set (i := 2) sc__law_place.nd rfl (Or.inl rfl) (pe_ix (r := rIxL K) ix_list (pe_lst (pa_cons pe_int (pa_cons pe_int (pa_cons pe_int (pa_cons pe_int (pa_cons pe_int pa_nil)))))) (pe_call (ok__law_digit T) hr (by rfl) T.g__law_digit T.F__law_digit.kp T.b__law_digit .nil pass0 (pa_cons (pv 0) (pa_cons pe_int pa_nil))) (fun _ _ => rfl)))
      (pss_one (ps_ret (pe_call (ok__law_point T) hr (by rfl) T.g__law_point T.F__law_point.kp T.b__law_point .nil pass0 (pa_cons (pe_call (ok__law_digit T) hr (by rfl) T.g__law_digit T.F__law_digit.kp T.b__law_digit .nil pass0 (pa_cons (pv 0) (pa_cons (pe_op op_add (pe_op op_mulW (pv 1) (pv 2)) pe_int) pa_nil))) (pa_cons (pe_call (ok__law_digit T) hr (by rfl) T.g__law_digit T.F__law_digit.kp T.b__law_digit .nil pass0 (pa_cons (pv 0) (pa_cons (pe_op op_add (pe_op op_mulW (pv 1) (pv 2)) pe_int) pa_nil))) (pa_cons (pv 2) pa_nil))))))), ?_⟩
    have L0 : Lo ⟨K, X, H, muts [.mu p__law_bag_here (ml (a__law_bag_here : (List Int))), .imm (.int a__law_most)], n__law_place.length⟩ X H (L2.start n__law_place vs) [.mu p__law_bag_here (ml (a__law_bag_here : (List Int))), .imm (.int a__law_most), .unk] := c.start n__law_place (show (2 : Nat) ≤ 3 by decide)
    unfold m__law_place at hm
    refine x_seq (x_asg (x_op (x_lst (x_cons (x_c (x_cons (x_c (x_cons (x_c (x_cons (x_c (x_cons (x_c (x_nil (x_mkL L0 (.cons (.int _) (.cons (.int _) (.cons (.int _) (.cons (.int _) (.cons (.int _) .nil))))) (show (5 : Nat) ≤ 16777216 by decide) fun v1 _ L1 le1 r1 => have r2 : Rep _ _ _ (enc ([1, 1, 1, 2, 3] : (List Int))) v1 := r1; x_call (x_cons (x_vm L1 rfl (x_cons (x_c (x_nil (obE hm fun z1 hz1 hm1 => mk__law_digit hz1 (L1.cond1 (i := 0) (.m (L1.mrep (i := 0) rfl) (.im (.int _) .nil)) rfl rfl rfl) fun _ F1 => k1 L1 F1 (i := 0) (Γ' := [.mu p__law_bag_here (ml (z1.2 : (List Int))), .imm (.int a__law_most), .unk]) rfl rfl rfl fun L2 le2 => have r3 := le2 _ _ r2; x_ixLI (xs := [1, 1, 1, 2, 3]) hm1 r3 fun x1 _ hm2 => x_set (d := (.int x1)) (Γ' := [.mu p__law_bag_here (ml (z1.2 : (List Int))), .imm (.int a__law_most), .imm (.int x1)]) L2 (.int _) (show (2 : Nat) < 3 by decide) rfl fun _ L3 => ?_)))))))))))))))))))))
    exact x_ret (x_call (x_cons (x_call (x_cons (x_vm L3 rfl (x_cons (x_op (x_op (x_vI (x := a__law_most) L3 rfl (x_vI (x := x1) L3 rfl (x_mul hm2 fun z2 _ hm3 => x_c (x_r0 (x_nil (obE hm3 fun z3 hz2 hm4 => mk__law_digit hz2 (L3.cond1 (i := 0) (.m (L3.mrep (i := 0) rfl) (.im (.int _) .nil)) rfl rfl rfl) fun _ F2 => k1 L3 F2 (i := 0) (Γ' := [.mu p__law_bag_here (ml (z3.2 : (List Int))), .imm (.int a__law_most), .imm (.int x1)]) rfl rfl rfl fun L4 le3 => x_cons (x_call (x_cons (x_vm L4 rfl (x_cons (x_op (x_op (x_vI (x := a__law_most) L4 rfl (x_vI (x := x1) L4 rfl (x_mul hm4 fun z4 _ hm5 => x_c (x_r0 (x_nil (obE hm5 fun z5 hz3 hm6 => mk__law_digit hz3 (L4.cond1 (i := 0) (.m (L4.mrep (i := 0) rfl) (.im (.int _) .nil)) rfl rfl rfl) fun _ F3 => k1 L4 F3 (i := 0) (Γ' := [.mu p__law_bag_here (ml (z5.2 : (List Int))), .imm (.int a__law_most), .imm (.int x1)]) rfl rfl rfl fun L5 le4 => x_cons (x_vI (x := x1) L5 rfl (x_nil (obE hm6 fun z6 hz4 hm7 => mk__law_point hz4 (L5.cond0 (.im (.int _) (.im (.int _) (.im (.int _) .nil))) rfl) fun v5 _ F4 => k0d L5 F4 fun L6 le5 r4 => x_fin (Q := Q) (ps := (fun (r : ((T3 Int Int Int) × (List Int))) => [(p__law_bag_here, (ml (r.2 : (List Int))))])) (rs := (fun (r : ((T3 Int Int Int) × (List Int))) => (.imm (enc (r.1 : (T3 Int Int Int)))))) (e := (z6, z5.2)) hm7 kont (L6.fin (hp1 (L6.mrep (i := 0) rfl)) r4))))))))))))))))))))))))))))))
abbrev sp__law_side (K : PySem.W.Frag) : Sp := fun vs H Q _ => ∃ (X : Addr → Prop)  (a__law_p : (T3 Int Int Int)) (a__law_q : (T3 Int Int Int)) (a__law_r : (T3 Int Int Int)) (r : Int), m__law_side a__law_p a__law_q a__law_r = some r ∧ Cond K X H [.imm (enc (a__law_p : (T3 Int Int Int))), .imm (enc (a__law_q : (T3 Int Int Int))), .imm (enc (a__law_r : (T3 Int Int Int)))] vs ∧ ∀ H', Fin K X H [] [] (.imm (.int r)) (.int r) H' → Q (.int r) H'
theorem mk__law_side {K : PySem.W.Frag} {X : Addr → Prop} {H : Hp} {vs : List V} {Q : VK} {E : XK}  {a__law_p : (T3 Int Int Int)} {a__law_q : (T3 Int Int Int)} {a__law_r : (T3 Int Int Int)} {r : Int} (hm : m__law_side a__law_p a__law_q a__law_r = some r) (c : Cond K X H [.imm (enc (a__law_p : (T3 Int Int Int))), .imm (enc (a__law_q : (T3 Int Int Int))), .imm (enc (a__law_r : (T3 Int Int Int)))] vs) (k : ∀ H', Fin K X H [] [] (.imm (.int r)) (.int r) H' → Q (.int r) H') : sp__law_side K vs H Q E := ⟨X, a__law_p, a__law_q, a__law_r, r, hm, c, k⟩
abbrev n__law_side : List Str := ["_law_p", "_law_q", "_law_r", "_law_found"]
theorem sc__law_side : FnScope n__law_side ["_law_p", "_law_q", "_law_r"] (defScope s__law_side) := ⟨rfl, rfl, rfl, by decide +kernel, rfl, by decide +kernel, by decide +kernel⟩
theorem ok__law_side (T : Txt K mg) : FnOk P w K mg base CX0 1 T.A__law_side T.D__law_side ["_law_p", "_law_q", "_law_r"] (sp__law_side K) := by
  refine Fun.ok T.F__law_side sc__law_side (fun vs H Q E h => ?_) (fun cdv A outer s H vs Q E hr h => ?_)
  · obtain ⟨X, a__law_p, a__law_q, a__law_r, r, hm, c, kont⟩ := h
    exact c.len
  · obtain ⟨X, a__law_p, a__law_q, a__law_r, r, hm, c, kont⟩ := h
    refine ⟨_, (pss_cons (ps_set (i := 3) sc__law_side.nd rfl (Or.inl rfl) (pe_op op_mulW (pe_ix (r := rIxT K) ix_tup (pv 0) pe_int (fun _ _ => rfl)) (pe_op op_sub (pe_op op_mulW (pe_ix (r := rIxT K) ix_tup (pv 1) pe_int (fun _ _ => rfl)) (pe_ix (r := rIxT K) ix_tup (pv 2) pe_int (fun _ _ => rfl))) (pe_op op_mulW (pe_ix (r := rIxT K) ix_tup (pv 1) pe_int (fun _ _ => rfl)) (pe_ix (r := rIxT K) ix_tup (pv 2) pe_int (fun _ _ => rfl))))))
      (pss_cons (ps_set (i := 3) sc__law_side.nd rfl (Or.inl rfl) (pe_op op_sub (pv 3) (pe_op op_mulW (pe_ix (r := rIxT K) ix_tup (pv 0) pe_int (fun _ _ => rfl)) (pe_op op_sub (pe_op op_mulW (pe_ix (r := rIxT K) ix_tup (pv 1) pe_int (fun _ _ => rfl)) (pe_ix (r := rIxT K) ix_tup (pv 2) pe_int (fun _ _ => rfl))) (pe_op op_mulW (pe_ix (r := rIxT K) ix_tup (pv 1) pe_int (fun _ _ => rfl)) (pe_ix (r := rIxT K) ix_tup (pv 2) pe_int (fun _ _ => rfl)))))))
      (pss_cons (ps_set (i := 3) sc__law_side.nd rfl (Or.inl rfl) (pe_op op_add (pv 3) (pe_op op_mulW (pe_ix (r := rIxT K) ix_tup (pv 0) pe_int (fun _ _ => rfl)) (pe_op op_sub (pe_op op_mulW (pe_ix (r := rIxT K) ix_tup (pv 1) pe_int (fun _ _ => rfl)) (pe_ix (r := rIxT K) ix_tup (pv 2) pe_int (fun _ _ => rfl))) (pe_op op_mulW (pe_ix (r := rIxT K) ix_tup (pv 1) pe_int (fun _ _ => rfl)) (pe_ix (r := rIxT K) ix_tup (pv 2) pe_int (fun _ _ => rfl)))))))
      (pss_one (ps_ret (pe_op op_sub (pe_callTy call_intX (by rfl) T.z_int (by decide +kernel) (pa_cons (pe_cmpR op_gt (pv 3) pe_int (nomark _)) pa_nil)) (pe_callTy call_intX (by rfl) T.z_int (by decide +kernel) (pa_cons (pe_cmpR op_lt (pv 3) pe_int (nomark _)) pa_nil)))))))), ?_⟩
    have L0 : Lo ⟨K, X, H, muts [.imm (enc (a__law_p : (T3 Int Int Int))), .imm (enc (a__law_q : (T3 Int Int Int))), .imm (enc (a__law_r : (T3 Int Int Int)))], n__law_side.length⟩ X H (L2.start n__law_side vs) [.imm (enc (a__law_p : (T3 Int Int Int))), .imm (enc (a__law_q : (T3 Int Int Int))), .imm (enc (a__law_r : (T3 Int Int Int))), .unk] := c.start n__law_side (show (3 : Nat) ≤ 4 by decide)
    unfold m__law_side at hm
    refine x_seq (x_asg (x_op (x_op (x_vd (d := (enc (a__law_p : (T3 Int Int Int)))) L0 rfl fun v1 r1 => x_c (x_ixTI (x := a__law_p.a) r1 rfl (x_op (x_op (x_op (x_vd (d := (enc (a__law_q : (T3 Int Int Int)))) L0 rfl fun v2 r2 => x_c (x_ixTI (x := a__law_q.b) r2 rfl (x_op (x_vd (d := (enc (a__law_r : (T3 Int Int Int)))) L0 rfl fun v3 r3 => x_c (x_ixTI (x := a__law_r.c) r3 rfl (x_mul hm fun z1 _ hm1 => x_op (x_op (x_vd (d := (enc (a__law_q : (T3 Int Int Int)))) L0 rfl fun v4 r4 => x_c (x_ixTI (x := a__law_q.c) r4 rfl (x_op (x_vd (d := (enc (a__law_r : (T3 Int Int Int)))) L0 rfl fun v5 r5 => x_c (x_ixTI (x := a__law_r.b) r5 rfl (x_mul hm1 fun z2 _ hm2 => x_r0 (x_mul hm2 fun z3 _ hm3 => x_set (d := (.int z3)) (Γ' := [.imm (enc (a__law_p : (T3 Int Int Int))), .imm (enc (a__law_q : (T3 Int Int Int))), .imm (enc (a__law_r : (T3 Int Int Int))), .imm (.int z3)]) L0 (.int _) (show (3 : Nat) < 4 by decide) rfl fun _ L1 => ?_))))))))))))))))))))))
    refine x_seq (x_asg (x_op (x_vI (x := z3) L1 rfl (x_op (x_op (x_vd (d := (enc (a__law_p : (T3 Int Int Int)))) L1 rfl fun v6 r6 => x_c (x_ixTI (x := a__law_p.b) r6 rfl (x_op (x_op (x_op (x_vd (d := (enc (a__law_q : (T3 Int Int Int)))) L1 rfl fun v7 r7 => x_c (x_ixTI (x := a__law_q.a) r7 rfl (x_op (x_vd (d := (enc (a__law_r : (T3 Int Int Int)))) L1 rfl fun v8 r8 => x_c (x_ixTI (x := a__law_r.c) r8 rfl (x_mul hm3 fun z4 _ hm4 => x_op (x_op (x_vd (d := (enc (a__law_q : (T3 Int Int Int)))) L1 rfl fun v9 r9 => x_c (x_ixTI (x := a__law_q.c) r9 rfl (x_op (x_vd (d := (enc (a__law_r : (T3 Int Int Int)))) L1 rfl fun v10 r10 => x_c (x_ixTI (x := a__law_r.a) r10 rfl (x_mul hm4 fun z5 _ hm5 => x_r0 (x_mul hm5 fun z6 _ hm6 => x_r0 (x_bset (x0 := (z3 - z6)) (d := fun found_1 => (.int found_1)) (Γf := fun found_1 => [.imm (enc (a__law_p : (T3 Int Int Int))), .imm (enc (a__law_q : (T3 Int Int Int))), .imm (enc (a__law_r : (T3 Int Int Int))), .imm (.int found_1)]) hm6 L1 (.int _) (show (3 : Nat) < 4 by decide) (fun _ => rfl) fun found_1 _ hm7 L2 => ?_)))))))))))))))))))))))))
    refine x_seq (x_asg (x_op (x_vI (x := found_1) L2 rfl (x_op (x_op (x_vd (d := (enc (a__law_p : (T3 Int Int Int)))) L2 rfl fun v11 r11 => x_c (x_ixTI (x := a__law_p.c) r11 rfl (x_op (x_op (x_op (x_vd (d := (enc (a__law_q : (T3 Int Int Int)))) L2 rfl fun v12 r12 => x_c (x_ixTI (x := a__law_q.a) r12 rfl (x_op (x_vd (d := (enc (a__law_r : (T3 Int Int Int)))) L2 rfl fun v13 r13 => x_c (x_ixTI (x := a__law_r.b) r13 rfl (x_mul hm7 fun z7 _ hm8 => x_op (x_op (x_vd (d := (enc (a__law_q : (T3 Int Int Int)))) L2 rfl fun v14 r14 => x_c (x_ixTI (x := a__law_q.b) r14 rfl (x_op (x_vd (d := (enc (a__law_r : (T3 Int Int Int)))) L2 rfl fun v15 r15 => x_c (x_ixTI (x := a__law_r.a) r15 rfl (x_mul hm8 fun z8 _ hm9 => x_r0 (x_mul hm9 fun z9 _ hm10 => x_r0 (x_bset (x0 := (found_1 + z9)) (d := fun found_2 => (.int found_2)) (Γf := fun found_2 => [.imm (enc (a__law_p : (T3 Int Int Int))), .imm (enc (a__law_q : (T3 Int Int Int))), .imm (enc (a__law_r : (T3 Int Int Int))), .imm (.int found_2)]) hm10 L2 (.int _) (show (3 : Nat) < 4 by decide) (fun _ => rfl) fun found_2 _ hm11 L3 => ?_)))))))))))))))))))))))))
    exact x_ret (x_op (x_cb (x_cons (x_op (x_vI (x := found_2) L3 rfl (x_c (x_r0 (x_nil (x_intb (x_cb (x_cons (x_op (x_vI (x := found_2) L3 rfl (x_c (x_r0 (x_nil (x_intb (x_r0 (x_finI (Q := Q) (ps := (fun (r : Int) => [])) (sc := fun (r : Int) => r) (((b2 ((decide (0 < found_2)))) - (b2 ((decide (found_2 < 0)))))) hm11 kont (L3.fin hp0 (.int _)))))))))))))))))))))
abbrev sp__law_three (K : PySem.W.Frag) : Sp := fun vs H Q _ => ∃ (X : Addr → Prop) (p__law_bag_here : Addr) (a__law_bag_here : (List Int)) (a__law_most : Int) (r : ((List (T3 Int Int Int)) × (List Int))), m__law_three a__law_bag_here a__law_most = some r ∧ Cond K X H [.mu p__law_bag_here (ml (a__law_bag_here : (List Int))), .imm (.int a__law_most)] vs ∧ ∀ v H', Fin K X H [p__law_bag_here] [(p__law_bag_here, (ml (r.2 : (List Int))))] (.imm (enc (r.1 : (List (T3 Int Int Int))))) v H' → Q v H'
theorem mk__law_three {K : PySem.W.Frag} {X : Addr → Prop} {H : Hp} {vs : List V} {Q : VK} {E : XK} {p__law_bag_here : Addr} {a__law_bag_here : (List Int)} {a__law_most : Int} {r : ((List (T3 Int Int Int)) × (List Int))} (hm : m__law_three a__law_bag_here a__law_most = some r) (c : Cond K X H [.mu p__law_bag_here (ml (a__law_bag_here : (List Int))), .imm (.int a__law_most)] vs) (k : ∀ v H', Fin K X H [p__law_bag_here] [(p__law_bag_here, (ml (r.2 : (List Int))))] (.imm (enc (r.1 : (List (T3 Int Int Int))))) v H' → Q v H') : sp__law_three K vs H Q E := ⟨X, p__law_bag_here, a__law_bag_here, a__law_most, r, hm, c, k⟩
abbrev n__law_three : List Str := ["_law_bag_here", "_law_most", "_law_ring", "_law_hand", "_law_k"]
theorem sc__law_three : FnScope n__law_three ["_law_bag_here", "_law_most"] (defScope s__law_three) := ⟨rfl, rfl, rfl, by decide +kernel, rfl, by decide +kernel, by decide +kernel⟩
theorem ok__law_three (T : Txt K mg) : FnOk P w K mg base CX0 3 T.A__law_three T.D__law_three ["_law_bag_here", "_law_most"] (sp__law_three K) := by
  refine Fun.ok T.F__law_three sc__law_three (fun vs H Q E h => ?_) (fun cdv A outer s H vs Q E hr h => ?_)
  · obtain ⟨X, p__law_bag_here, a__law_bag_here, a__law_most, r, hm, c, kont⟩ := h
    exact c.len
  · obtain ⟨X, p__law_bag_here, a__law_bag_here, a__law_most, r, hm, c, kont⟩ := h
    refine ⟨_, (pss_cons (ps_setLc (i := 2) (own := [("_law_k", 4)])  (g := gName 4) (tt := tYes) rfl sc__law_three.nd rfl rfl (sw_true rfl rfl rfl (by decide +kernel)) (pi_range1 (by rfl) T.z_range (pa_cons pe_int pa_nil)) (blkOk_by (N := n__law_three) (sc := defScope s__law_three) (by decide +kernel)) (fun _ _ _ _ _ => (pg_name (i := 4) sc__law_three.nd rfl (Or.inl rfl))) (fun _ _ _ _ _ => pts_nil) (fun _ _ _ _ _ => (pe_call (ok__law_place T) hr (by rfl) T.g__law_place T.F__law_place.kp T.b__law_place .nil pass0 (pa_cons (pv 0) (pa_cons (pv 1) pa_nil)))))
      (pss_cons (ps_set (i := 3) sc__law_three.nd rfl (Or.inl rfl) (pe_call (ok__law_side T) (hr.mono (by decide)) (by rfl) T.g__law_side T.F__law_side.kp T.b__law_side .nil pass0 (pa_cons (pe_ix (r := rIxL K) ix_list (pv 2) pe_int (fun _ _ => rfl)) (pa_cons (pe_ix (r := rIxL K) ix_list (pv 2) pe_int (fun _ _ => rfl)) (pa_cons (pe_ix (r := rIxL K) ix_list (pv 2) pe_int (fun _ _ => rfl)) pa_nil)))))
      (pss_cons (ps_if (pt_cmpR op_eq (pv 3) pe_int (nomark _)) (pss_one (ps_ret (pe_lst (pa_cons (pe_tup (pa_cons pe_int (pa_cons pe_int (pa_cons pe_int pa_nil)))) (pa_cons (pe_tup (pa_cons (pv 1) (pa_cons pe_int (pa_cons pe_int pa_nil)))) (pa_cons (pe_tup (pa_cons pe_int (pa_cons (pv 1) (pa_cons pe_int pa_nil)))) pa_nil)))))) pss_nil)
      (pss_one (ps_ret (pe_step (pv 2) (pv 3))))))), ?_⟩
    have L0 : Lo ⟨K, X, H, muts [.mu p__law_bag_here (ml (a__law_bag_here : (List Int))), .imm (.int a__law_most)], n__law_three.length⟩ X H (L2.start n__law_three vs) [.mu p__law_bag_here (ml (a__law_bag_here : (List Int))), .imm (.int a__law_most), .unk, .unk, .unk] := c.start n__law_three (show (2 : Nat) ≤ 5 by decide)
    unfold m__law_three at hm
    refine x_seq (x_asg (x_lcr1 (x_cons (x_c (x_nil (x_r1c (n := 3) (by decide) (obE hm fun q1 hy1 hm1 => x_lcR (G := (fun (s1 : (List Int)) => [.mu p__law_bag_here (ml (s1 : (List Int))), .imm (.int a__law_most), .unk, .unk, .unk])) (s0 := a__law_bag_here) L0 (fun _ _ => rfl) (mapS_comp hy1) (show (3 : Nat) ≤ 16777216 by decide) (fun x1 s1 _ H1 _ u1 _ _ _ hF1 L1 r1 hn1 hy2 => obE hF1 fun y1 hm2 he1 => x_cName (d := (.int x1)) (Γ' := [.mu p__law_bag_here (ml (s1 : (List Int))), .imm (.int a__law_most), .unk, .unk, .imm (.int x1)]) L1 r1 (show (4 : Nat) < 5 by decide) rfl fun _ L2 => x_yes (x_call (x_cons (x_vm L2 rfl (x_cons (x_vI (x := a__law_most) L2 rfl (x_nil (obE hm2 fun z1 hz2 hm3 => mk__law_place hz2 (L2.cond1 (i := 0) (.m (L2.mrep (i := 0) rfl) (.im (.int _) .nil)) rfl rfl rfl) fun v1 _ F1 => k1d L2 F1 (i := 0) (Γ' := [.mu p__law_bag_here (ml (z1.2 : (List Int))), .imm (.int a__law_most), .unk, .unk, .imm (.int x1)]) rfl rfl rfl fun L3 le1 r2 => x_cy (G := (fun (s1 : (List Int)) => [.mu p__law_bag_here (ml (s1 : (List Int))), .imm (.int a__law_most), .unk, .unk, .unk])) (s := s1) (s' := z1.2) (y := z1.1) (by cases hm3; cases he1; rfl) hy2 L1 L3 (.m (.i rfl (.i rfl (.i rfl (.i rfl .e))))) r2)))))))) fun p1 _ L4 le2 r3 => have L5 : Lo _ _ _ _ [.mu p__law_bag_here (ml (q1.2 : (List Int))), .imm (.int a__law_most), .unk, .unk, .unk] := L4; have r4 : Rep _ _ _ (enc (q1.1 : (List (T3 Int Int Int)))) (.ref p1) := r3; x_set (d := (enc (q1.1 : (List (T3 Int Int Int))))) (Γ' := [.mu p__law_bag_here (ml (q1.2 : (List Int))), .imm (.int a__law_most), .imm (enc (q1.1 : (List (T3 Int Int Int)))), .unk, .unk]) L5 r4 (show (2 : Nat) < 5 by decide) rfl fun _ L6 => ?_)))))))
    refine x_seq (x_asg (x_call (x_cons (x_op (x_vd (d := (enc (q1.1 : (List (T3 Int Int Int))))) L6 rfl fun v2 r5 => x_c (x_ixL (xs := q1.1) hm1 r5 fun x2 v3 _ hm4 r6 => x_cons (x_op (x_vd (d := (enc (q1.1 : (List (T3 Int Int Int))))) L6 rfl fun v4 r7 => x_c (x_ixL (xs := q1.1) hm4 r7 fun x3 v5 _ hm5 r8 => x_cons (x_op (x_vd (d := (enc (q1.1 : (List (T3 Int Int Int))))) L6 rfl fun v6 r9 => x_c (x_ixL (xs := q1.1) hm5 r9 fun x4 v7 _ hm6 r10 => x_nil (obE hm6 fun z2 hz3 hm7 => mk__law_side hz3 (L6.cond0 (.im r6 (.im r8 (.im r10 .nil))) rfl) fun _ F2 => k0 L6 F2 fun L7 le3 => x_set (d := (.int z2)) (Γ' := [.mu p__law_bag_here (ml (q1.2 : (List Int))), .imm (.int a__law_most), .imm (enc (q1.1 : (List (T3 Int Int Int)))), .imm (.int z2), .unk]) L7 (.int _) (show (3 : Nat) < 5 by decide) rfl fun _ L8 => ?_)))))))))))))
    refine x_seq (x_ifS (x_test (x_op (x_vI (x := z2) L8 rfl (x_c (x_eqi (x_kb (x_if hm7 (fun hm8 => ?_) fun hm8 => ?_))))))))
    · exact x_ret (x_lst (x_cons (x_tup (x_cons (x_c (x_cons (x_c (x_cons (x_c (x_nil (x_mkT L8 (.cons (.int _) (.cons (.int _) (.cons (.int _) .nil))) (show (3 : Nat) ≤ 16777216 by decide) fun v9 _ L9 le4 r11 => have r12 : Rep _ _ _ (enc ((T3.mk 0 0 1) : (T3 Int Int Int))) v9 := r11; x_cons (x_tup (x_cons (x_vI (x := a__law_most) L9 rfl (x_cons (x_c (x_cons (x_c (x_nil (x_mkT L9 (.cons (.int _) (.cons (.int _) (.cons (.int _) .nil))) (show (3 : Nat) ≤ 16777216 by decide) fun v10 _ L10 le5 r13 => have r14 := le5 _ _ r12; have r15 : Rep _ _ _ (enc ((T3.mk a__law_most 1 1) : (T3 Int Int Int))) v10 := r13; x_cons (x_tup (x_cons (x_c (x_cons (x_vI (x := a__law_most) L10 rfl (x_cons (x_c (x_nil (x_mkT L10 (.cons (.int _) (.cons (.int _) (.cons (.int _) .nil))) (show (3 : Nat) ≤ 16777216 by decide) fun v11 _ L11 le6 r16 => have r17 := le6 _ _ r14; have r18 := le6 _ _ r15; have r19 : Rep _ _ _ (enc ((T3.mk 1 a__law_most 1) : (T3 Int Int Int))) v11 := r16; x_nil (x_mkL L11 (.cons r17 (.cons r18 (.cons r19 .nil))) (show (3 : Nat) ≤ 16777216 by decide) fun v12 _ L12 le7 r20 => have r21 : Rep _ _ _ (enc ([(T3.mk 0 0 1), (T3.mk a__law_most 1 1), (T3.mk 1 a__law_most 1)] : (List (T3 Int Int Int)))) v12 := r20; x_fin (Q := Q) (ps := (fun (r : ((List (T3 Int Int Int)) × (List Int))) => [(p__law_bag_here, (ml (r.2 : (List Int))))])) (rs := (fun (r : ((List (T3 Int Int Int)) × (List Int))) => (.imm (enc (r.1 : (List (T3 Int Int Int))))))) (e := ([(T3.mk 0 0 1), (T3.mk a__law_most 1 1), (T3.mk 1 a__law_most 1)], q1.2)) hm8 kont (L12.fin (hp1 (L12.mrep (i := 0) rfl)) r21)))))))))))))))))))))))))))))))
    · refine x_next ?_
      exact x_ret (x_step (x_vd (d := (enc (q1.1 : (List (T3 Int Int Int))))) L8 rfl fun v13 r22 => x_vI (x := z2) L8 rfl (x_stepL (xs := q1.1) L8 hm8 r22 fun ys1 v14 _ hm9 L13 le8 r23 => x_fin (Q := Q) (ps := (fun (r : ((List (T3 Int Int Int)) × (List Int))) => [(p__law_bag_here, (ml (r.2 : (List Int))))])) (rs := (fun (r : ((List (T3 Int Int Int)) × (List Int))) => (.imm (enc (r.1 : (List (T3 Int Int Int))))))) (e := (ys1, q1.2)) hm9 kont (L13.fin (hp1 (L13.mrep (i := 0) rfl)) r23))))
abbrev sp__law_is_point (K : PySem.W.Frag) : Sp := fun vs H Q _ => ∃ (X : Addr → Prop)  (a__law_p : (T3 Int Int Int)) (r : Bool), m__law_is_point a__law_p = some r ∧ Cond K X H [.imm (enc (a__law_p : (T3 Int Int Int)))] vs ∧ ∀ H', Fin K X H [] [] (.imm (.bool r)) (.bl r) H' → Q (.bl r) H'
theorem mk__law_is_point {K : PySem.W.Frag} {X : Addr → Prop} {H : Hp} {vs : List V} {Q : VK} {E : XK}  {a__law_p : (T3 Int Int Int)} {r : Bool} (hm : m__law_is_point a__law_p = some r) (c : Cond K X H [.imm (enc (a__law_p : (T3 Int Int Int)))] vs) (k : ∀ H', Fin K X H [] [] (.imm (.bool r)) (.bl r) H' → Q (.bl r) H') : sp__law_is_point K vs H Q E := ⟨X, a__law_p, r, hm, c, k⟩
abbrev n__law_is_point : List Str := ["_law_p", "_law_number"]
theorem sc__law_is_point : FnScope n__law_is_point ["_law_p"] (defScope s__law_is_point) := ⟨rfl, rfl, rfl, by decide +kernel, rfl, by decide +kernel, by decide +kernel⟩
theorem ok__law_is_point (T : Txt K mg) : FnOk P w K mg base CX0 2 T.A__law_is_point T.D__law_is_point ["_law_p"] (sp__law_is_point K) := by
  refine Fun.ok T.F__law_is_point sc__law_is_point (fun vs H Q E h => ?_) (fun cdv A outer s H vs Q E hr h => ?_)
  · obtain ⟨X, a__law_p, r, hm, c, kont⟩ := h
    exact c.len
  · obtain ⟨X, a__law_p, r, hm, c, kont⟩ := h
    refine ⟨_, (pss_cons (ps_if (PW.pt (pw_or (pt_not (pt_val (pe_callB (r := rIsi K) call_isi (by rfl) T.z_isinstance (by decide +kernel) (pa_cons (pv 0) (pa_cons (pe_bltn (v := .ty "tuple") (u := .type "tuple") (by rfl) T.z_tuple (by decide +kernel) rfl) pa_nil))))) (pw_or1 (pt_cmpR op_ne (pe_callB (r := rLenX K) call_lenX (by rfl) T.z_len (by decide +kernel) (pa_cons (pv 0) pa_nil)) pe_int (nomark _))))) (pss_one (ps_ret pe_bl)) pss_nil)
      (pss_cons (ps_for PassesOwn.never rfl (pi_tup (pv 0)) (pg_name (i := 1) sc__law_is_point.nd rfl (Or.inl rfl)) (pss_one (ps_if (PW.pt (pw_or (pt_not (pt_val (pe_callB (r := rIsi K) call_isi (by rfl) T.z_isinstance (by decide +kernel) (pa_cons (pv 1) (pa_cons (pe_bltn (v := .ty "int") (u := .type "int") (by rfl) T.z_int (by decide +kernel) rfl) pa_nil))))) (pw_or1 (pt_val (pe_callB (r := rIsi K) call_isi (by rfl) T.z_isinstance (by decide +kernel) (pa_cons (pv 1) (pa_cons (pe_bltn (v := .ty "bool") (u := .type "bool") (by rfl) T.z_bool (by decide +kernel) rfl) pa_nil))))))) (pss_one (ps_ret pe_bl)) pss_nil)))
      (pss_one (ps_ret (pe_and (pe_cmpR op_gt (pe_ix (r := rIxT K) ix_tup (pv 0) pe_int (fun _ _ => rfl)) pe_int (nomark _)) (pe_one (pe_cmpR (r := rEqD K) (op_eqD hr.units) (pe_call (ok__law_point T) hr (by rfl) T.g__law_point T.F__law_point.kp T.b__law_point .nil pass0 (pa_cons (pe_ix (r := rIxT K) ix_tup (pv 0) pe_int (fun _ _ => rfl)) (pa_cons (pe_ix (r := rIxT K) ix_tup (pv 0) pe_int (fun _ _ => rfl)) (pa_cons (pe_ix (r := rIxT K) ix_tup (pv 0) pe_int (fun _ _ => rfl)) pa_nil)))) (pv 0) (nomark _)))))))), ?_⟩
    have L0 : Lo ⟨K, X, H, muts [.imm (enc (a__law_p : (T3 Int Int Int)))], n__law_is_point.length⟩ X H (L2.start n__law_is_point vs) [.imm (enc (a__law_p : (T3 Int Int Int))), .unk] := c.start n__law_is_point (show (1 : Nat) ≤ 2 by decide)
    unfold m__law_is_point at hm
    refine x_seq (x_ifS (x_or (x_not (x_tB (x_cb (x_cons (x_vd (d := (enc (a__law_p : (T3 Int Int Int)))) L0 rfl fun v1 r1 => x_cons (x_c (x_nil (x_isi (T := "tuple") (b := true) r1 (show kitB "tuple" "tuple" = some true by decide +kernel) (x_kb (x_kn (x_orP (B := (!decide (3 = 3))) (fun _ hq => x_test (x_op (x_cb (x_cons (x_vd (d := (enc (a__law_p : (T3 Int Int Int)))) L0 rfl fun v2 r2 => x_nil (x_lenT (n := 3) r2 rfl (x_c (x_nei (x_kb (hq)))))))))) (x_if hm (fun hm1 => ?_) fun hm1 => ?_))))))))))))))
    · exact x_ret (x_c (x_finB (Q := Q) (ps := (fun (r : Bool) => [])) (sc := fun (r : Bool) => r) false hm1 kont (L0.fin hp0 (.bl _))))
    · refine x_next ?_
      refine x_seq (x_tforT (x_vd (d := (enc (a__law_p : (T3 Int Int Int)))) L0 rfl fun v3 r3 => x_flT (G := (fun (s1 : Unit) => [.imm (enc (a__law_p : (T3 Int Int Int))), .unk])) (s0 := ()) (xs := [a__law_p.a, a__law_p.b, a__law_p.c]) (ps := (fun (r : Bool) => [])) (rs := (fun (r : Bool) => (.imm (.bool r)))) (L0.weak (Γ' := [.imm (enc (a__law_p : (T3 Int Int Int))), .unk]) (.k (.k .e))) (fun _ _ => rfl) r3 hm1 (fun x1 s1 H1 _ u1 _ _ _ _ _ hm2 L1 _ r4 hN1 hC1 hB1 hR1 => ?_) (fun s2 _ _ hm3 L2 => ?_) (fun _ _ _ hm4 F1 => x_finRB (Q := Q) (ps := (fun (r : Bool) => [])) (sc := fun (r : Bool) => r) hm4 kont F1)))
      · refine x_set (d := (.int x1)) (Γ' := [.imm (enc (a__law_p : (T3 Int Int Int))), .imm (.int x1)]) L1 r4 (show (1 : Nat) < 2 by decide) rfl fun _ L3 => ?_
        refine x_ifS (x_or (x_not (x_tB (x_cb (x_cons (x_vI (x := x1) L3 rfl (x_cons (x_c (x_nil (x_isiI (x := x1) (T := "int") (b := true) (show kitB "int" "int" = some true by decide +kernel) (x_kb (x_kn (x_orP (B := false) (fun _ hq => x_tB (x_cb (x_cons (x_vI (x := x1) L3 rfl (x_cons (x_c (x_nil (x_isiI (x := x1) (T := "bool") (b := false) (show kitB "int" "bool" = some false by decide +kernel) (x_kb (hq)))))))))) (x_if hm2 (fun hm5 => ?_) fun hm5 => ?_))))))))))))))
        · exact x_ret (x_c (x_leafR (ps := (fun (r : Bool) => [])) (rs := (fun (r : Bool) => (.imm (.bool r)))) (e := false) hm5 hR1 (L3.fin hp0 (.bl _))))
        · refine x_next ?_
          exact x_leafN (G := (fun (s1 : Unit) => [.imm (enc (a__law_p : (T3 Int Int Int))), .unk])) (e := ()) hm5 hN1 (L3.weak (Γ' := [.imm (enc (a__law_p : (T3 Int Int Int))), .unk]) (.k (.d .e)))
      exact x_ret (x_andV (x_op (x_op (x_vd (d := (enc (a__law_p : (T3 Int Int Int)))) L2 rfl fun v4 r5 => x_c (x_ixTI (x := a__law_p.c) r5 rfl (x_c (x_r0 (x_kb (x_andVB L2 hm3 (fun _ hm7 _ hq => x_op (x_call (x_cons (x_op (x_vd (d := (enc (a__law_p : (T3 Int Int Int)))) L2 rfl fun v10 r11 => x_c (x_ixTI (x := a__law_p.a) r11 rfl (x_cons (x_op (x_vd (d := (enc (a__law_p : (T3 Int Int Int)))) L2 rfl fun v11 r12 => x_c (x_ixTI (x := a__law_p.b) r12 rfl (x_cons (x_op (x_vd (d := (enc (a__law_p : (T3 Int Int Int)))) L2 rfl fun v12 r13 => x_c (x_ixTI (x := a__law_p.c) r13 rfl (x_nil (obE hm7 fun z2 hz2 hm8 => mk__law_point hz2 (L2.cond0 (.im (.int _) (.im (.int _) (.im (.int _) .nil))) rfl) fun v13 _ F3 => k0d L2 F3 fun L5 le2 r14 => x_vd (d := (enc (a__law_p : (T3 Int Int Int)))) L5 rfl fun v14 r15 => x_eqd (x := z2) (y := a__law_p) r14.dp r15.dp (by decide) (x_lfV hm8 hq L5))))))))))))))))) fun b1 _ hm9 L6 => x_finB (Q := Q) (ps := (fun (r : Bool) => [])) (sc := fun (r : Bool) => r) b1 hm9 kont (L6.fin hp0 (.bl _)))))))))))
abbrev sp__law_is_convex (K : PySem.W.Frag) : Sp := fun vs H Q _ => ∃ (X : Addr → Prop)  (a__law_ring : (List (T3 Int Int Int))) (r : Bool), m__law_is_convex a__law_ring = some r ∧ Cond K X H [.imm (enc (a__law_ring : (List (T3 Int Int Int))))] vs ∧ ∀ H', Fin K X H [] [] (.imm (.bool r)) (.bl r) H' → Q (.bl r) H'
theorem mk__law_is_convex {K : PySem.W.Frag} {X : Addr → Prop} {H : Hp} {vs : List V} {Q : VK} {E : XK}  {a__law_ring : (List (T3 Int Int Int))} {r : Bool} (hm : m__law_is_convex a__law_ring = some r) (c : Cond K X H [.imm (enc (a__law_ring : (List (T3 Int Int Int))))] vs) (k : ∀ H', Fin K X H [] [] (.imm (.bool r)) (.bl r) H' → Q (.bl r) H') : sp__law_is_convex K vs H Q E := ⟨X, a__law_ring, r, hm, c, k⟩
abbrev n__law_is_convex : List Str := ["_law_ring", "_law_k", "_law_j", "_law_p"]
theorem sc__law_is_convex : FnScope n__law_is_convex ["_law_ring"] (defScope s__law_is_convex) := ⟨rfl, rfl, rfl, by decide +kernel, rfl, by decide +kernel, by decide +kernel⟩
theorem ok__law_is_convex (T : Txt K mg) : FnOk P w K mg base CX0 3 T.A__law_is_convex T.D__law_is_convex ["_law_ring"] (sp__law_is_convex K) := by
  refine Fun.ok T.F__law_is_convex sc__law_is_convex (fun vs H Q E h => ?_) (fun cdv A outer s H vs Q E hr h => ?_)
  · obtain ⟨X, a__law_ring, r, hm, c, kont⟩ := h
    exact c.len
  · obtain ⟨X, a__law_ring, r, hm, c, kont⟩ := h
    refine ⟨_, (pss_cons (ps_if (PW.pt (pw_or (pt_not (pt_val (pe_callB (r := rIsi K) call_isi (by rfl) T.z_isinstance (by decide +kernel) (pa_cons (pv 0) (pa_cons (pe_bltn (v := .ty "list") (u := .type "list") (by rfl) T.z_list (by decide +kernel) rfl) pa_nil))))) (pw_or1 (pt_cmpR op_lt (pe_callB (r := rLenX K) call_lenX (by rfl) T.z_len (by decide +kernel) (pa_cons (pv 0) pa_nil)) pe_int (nomark _))))) (pss_one (ps_ret pe_bl)) pss_nil)
      (pss_cons (ps_if (pt_cmpR op_gt (pe_callB (r := rLenX K) call_lenX (by rfl) T.z_len (by decide +kernel) (pa_cons (pe_lc (own := [("_law_p", 3)]) (g := gName 3) (tt := _) rfl sc__law_is_convex.nd (pi_list (pv 0)) (blkOk_by (N := n__law_is_convex) (sc := defScope s__law_is_convex) (by decide +kernel)) (fun _ _ _ _ _ => (pg_name (i := 3) sc__law_is_convex.nd rfl (Or.inl rfl))) (fun _ _ _ _ _ => (pts_one (pt_not (pt_val (pe_call (ok__law_is_point T) hr (by rfl) T.g__law_is_point T.F__law_is_point.kp T.b__law_is_point .nil pass0 (pa_cons (pv 3) pa_nil)))))) (fun _ _ _ _ _ => (pv 3))) pa_nil)) pe_int (nomark _)) (pss_one (ps_ret pe_bl)) pss_nil)
      (pss_cons (ps_for PassesOwn.never rfl (pi_range1 (by rfl) T.z_range (pa_cons (pe_callB (r := rLenX K) call_lenX (by rfl) T.z_len (by decide +kernel) (pa_cons (pv 0) pa_nil)) pa_nil)) (pg_name (i := 1) sc__law_is_convex.nd rfl (Or.inl rfl)) (pss_one (ps_for PassesOwn.never rfl (pi_range1 (by rfl) T.z_range (pa_cons (pe_callB (r := rLenX K) call_lenX (by rfl) T.z_len (by decide +kernel) (pa_cons (pv 0) pa_nil)) pa_nil)) (pg_name (i := 2) sc__law_is_convex.nd rfl (Or.inl rfl)) (pss_one (ps_if (PW.pt (pw_and (pt_cmpR op_ne (pv 2) (pv 1) (nomark _)) (pw_and1 (pt_cmpR op_ne (pv 2) (pe_op op_modN (pe_op op_add (pv 1) pe_int) (pe_callB (r := rLenX K) call_lenX (by rfl) T.z_len (by decide +kernel) (pa_cons (pv 0) pa_nil))) (nomark _))))) (pss_one (ps_if (pt_cmpR op_ne (pe_call (ok__law_side T) (hr.mono (by decide)) (by rfl) T.g__law_side T.F__law_side.kp T.b__law_side .nil pass0 (pa_cons (pe_ix (r := rIxL K) ix_list (pv 0) (pv 1) (fun _ _ => rfl)) (pa_cons (pe_ix (r := rIxL K) ix_list (pv 0) (pe_op op_modN (pe_op op_add (pv 1) pe_int) (pe_callB (r := rLenX K) call_lenX (by rfl) T.z_len (by decide +kernel) (pa_cons (pv 0) pa_nil))) (fun _ _ => rfl)) (pa_cons (pe_ix (r := rIxL K) ix_list (pv 0) (pv 2) (fun _ _ => rfl)) pa_nil)))) pe_int (nomark _)) (pss_one (ps_ret pe_bl)) pss_nil)) pss_nil)))))
      (pss_one (ps_ret pe_bl))))), ?_⟩
    have L0 : Lo ⟨K, X, H, muts [.imm (enc (a__law_ring : (List (T3 Int Int Int))))], n__law_is_convex.length⟩ X H (L2.start n__law_is_convex vs) [.imm (enc (a__law_ring : (List (T3 Int Int Int)))), .unk, .unk, .unk] := c.start n__law_is_convex (show (1 : Nat) ≤ 4 by decide)
    unfold m__law_is_convex at hm
    refine x_seq (x_ifS (x_or (x_not (x_tB (x_cb (x_cons (x_vd (d := (enc (a__law_ring : (List (T3 Int Int Int))))) L0 rfl fun v1 r1 => x_cons (x_c (x_nil (x_isi (T := "list") (b := true) r1 (show kitB "list" "list" = some true by decide +kernel) (x_kb (x_kn (x_orP (B := (decide ((a__law_ring.length : Int) < 3))) (fun _ hq => x_test (x_op (x_cb (x_cons (x_vd (d := (enc (a__law_ring : (List (T3 Int Int Int))))) L0 rfl fun v2 r2 => x_nil (x_lenL (xs := a__law_ring) r2 (x_c (x_r0 (x_kb (hq)))))))))) (x_if hm (fun hm1 => ?_) fun hm1 => ?_))))))))))))))
    · exact x_ret (x_c (x_finB (Q := Q) (ps := (fun (r : Bool) => [])) (sc := fun (r : Bool) => r) false hm1 kont (L0.fin hp0 (.bl _))))
    · refine x_next ?_
      refine x_seq (x_ifS (x_test (x_op (x_cb (x_cons (x_lcl (x_vd (d := (enc (a__law_ring : (List (T3 Int Int Int))))) L0 rfl fun v3 r3 => obE hm1 fun _ hl1 hm2 => obE hm2 fun ys1 hy1 hm3 => x_lcL (G := (fun (s1 : Unit) => [.imm (enc (a__law_ring : (List (T3 Int Int Int)))), .unk, .unk, .unk])) (s0 := ()) (xs := a__law_ring) L0 (fun _ _ => rfl) r3 (filO_comp hy1) (lenOk_le hl1) (fun x1 s1 _ H1 _ u1 _ _ _ hF1 L1 r4 hn1 hy2 => obE hF1 fun y1 hm4 he1 => x_cName (d := (enc (x1 : (T3 Int Int Int)))) (Γ' := [.imm (enc (a__law_ring : (List (T3 Int Int Int)))), .unk, .unk, .imm (enc (x1 : (T3 Int Int Int)))]) L1 r4 (show (3 : Nat) < 4 by decide) rfl fun _ L2 => x_not (x_tB (x_call (x_cons (x_vd (d := (enc (x1 : (T3 Int Int Int)))) L2 rfl fun v4 r5 => x_nil (obE hm4 fun z1 hz2 hm5 => mk__law_is_point hz2 (L2.cond0 (.im r5 .nil) rfl) fun _ F1 => k0 L2 F1 fun L3 le1 => x_kb (x_kn (x_ct hm5 (fun hm6 => x_vd (d := (enc (x1 : (T3 Int Int Int)))) L3 rfl fun v6 r6 => x_cy (G := (fun (s1 : Unit) => [.imm (enc (a__law_ring : (List (T3 Int Int Int)))), .unk, .unk, .unk])) (s := s1) (s' := ()) (y := x1) (by cases hm6; cases he1; rfl) hy2 L1 L3 (.i rfl (.i rfl (.i rfl (.i rfl .e)))) r6) (fun hm6 => x_cn (G := (fun (s1 : Unit) => [.imm (enc (a__law_ring : (List (T3 Int Int Int)))), .unk, .unk, .unk])) (s := s1) (s' := ()) (by cases hm6; cases he1; rfl) hn1 L1 L3 (.i rfl (.i rfl (.i rfl (.i rfl .e))))))))))))) fun p1 _ L4 le2 r7 => have L5 : Lo _ _ _ _ [.imm (enc (a__law_ring : (List (T3 Int Int Int)))), .unk, .unk, .unk] := L4; have r8 : Rep _ _ _ (enc (ys1 : (List (T3 Int Int Int)))) (.ref p1) := r7; x_nil (x_lenL (xs := ys1) r8 (x_c (x_r0 (x_kb (x_if hm3 (fun hm7 => ?_) fun hm7 => ?_))))))))))))
      · exact x_ret (x_c (x_finB (Q := Q) (ps := (fun (r : Bool) => [])) (sc := fun (r : Bool) => r) false hm7 kont (L5.fin hp0 (.bl _))))
      · refine x_next ?_
        refine x_seq (x_tforR1 (x_cons (x_cb (x_cons (x_vd (d := (enc (a__law_ring : (List (T3 Int Int Int))))) L5 rfl fun v7 r9 => x_nil (x_lenL (xs := a__law_ring) r9 (x_nil (x_r1 hm7 fun hm8 => x_flR (G := (fun (s2 : Unit) => [.imm (enc (a__law_ring : (List (T3 Int Int Int)))), .unk, .unk, .unk])) (s0 := ()) (ps := (fun (r : Bool) => [])) (rs := (fun (r : Bool) => (.imm (.bool r)))) (L5.weak (Γ' := [.imm (enc (a__law_ring : (List (T3 Int Int Int)))), .unk, .unk, .unk]) (.k (.k (.k (.k .e))))) (fun _ _ => rfl) hm8 (fun x2 s2 H2 _ u2 _ _ _ _ _ hm9 L6 _ r10 hN1 hC1 hB1 hR1 => ?_) (fun s3 _ _ hm10 L7 => ?_) (fun _ _ _ hm11 F2 => x_finRB (Q := Q) (ps := (fun (r : Bool) => [])) (sc := fun (r : Bool) => r) hm11 kont F2)))))))))
        · refine x_set (d := (.int x2)) (Γ' := [.imm (enc (a__law_ring : (List (T3 Int Int Int)))), .imm (.int x2), .unk, .unk]) L6 r10 (show (1 : Nat) < 4 by decide) rfl fun _ L8 => ?_
          refine x_tforR1 (x_cons (x_cb (x_cons (x_vd (d := (enc (a__law_ring : (List (T3 Int Int Int))))) L8 rfl fun v8 r11 => x_nil (x_lenL (xs := a__law_ring) r11 (x_nil (x_r1 hm9 fun hm12 => x_flR (G := (fun (s4 : Unit) => [.imm (enc (a__law_ring : (List (T3 Int Int Int)))), .imm (.int x2), .unk, .unk])) (s0 := ()) (ps := (fun (r : Bool) => [])) (rs := (fun (r : Bool) => (.imm (.bool r)))) (L8.weak (Γ' := [.imm (enc (a__law_ring : (List (T3 Int Int Int)))), .imm (.int x2), .unk, .unk]) (.k (.k (.k (.k .e))))) (fun _ _ => rfl) hm12 (fun x3 s4 H3 _ u3 _ _ _ _ _ hm13 L9 _ r12 hN2 hC2 hB2 hR2 => ?_) (fun s5 _ _ hm14 L10 => ?_) (fun _ _ _ hm15 F3 => x_leafR (ps := (fun (r : Bool) => [])) (rs := (fun (r : Bool) => (.imm (.bool r)))) hm15 hR1 F3))))))))
          · refine x_set (d := (.int x3)) (Γ' := [.imm (enc (a__law_ring : (List (T3 Int Int Int)))), .imm (.int x2), .imm (.int x3), .unk]) L9 r12 (show (2 : Nat) < 4 by decide) rfl fun _ L11 => ?_
            refine x_ifS (x_and (x_test (x_op (x_vI (x := x3) L11 rfl (x_vI (x := x2) L11 rfl (x_nei (x_kb (x_andB L11 hm13 (fun _ hm17 _ hq => x_test (x_op (x_vI (x := x3) L11 rfl (x_op (x_op (x_vI (x := x2) L11 rfl (x_c (x_r0 (x_cb (x_cons (x_vd (d := (enc (a__law_ring : (List (T3 Int Int Int))))) L11 rfl fun v10 r14 => x_nil (x_lenL (xs := a__law_ring) r14 (x_mod hm17 fun z3 _ hm18 => x_nei (x_kb (x_lfT hm18 hq L11))))))))))))))) fun b1 _ hm19 L12 => x_if hm19 (fun hm20 => ?_) fun hm20 => ?_))))))))
            · refine x_ifS (x_test (x_op (x_call (x_cons (x_op (x_vd (d := (enc (a__law_ring : (List (T3 Int Int Int))))) L12 rfl fun v11 r15 => x_vI (x := x2) L12 rfl (x_ixL (xs := a__law_ring) hm20 r15 fun x4 v12 _ hm21 r16 => x_cons (x_op (x_vd (d := (enc (a__law_ring : (List (T3 Int Int Int))))) L12 rfl fun v13 r17 => x_op (x_op (x_vI (x := x2) L12 rfl (x_c (x_r0 (x_cb (x_cons (x_vd (d := (enc (a__law_ring : (List (T3 Int Int Int))))) L12 rfl fun v14 r18 => x_nil (x_lenL (xs := a__law_ring) r18 (x_mod hm21 fun z4 _ hm22 => x_ixL (xs := a__law_ring) hm22 r17 fun x5 v15 _ hm23 r19 => x_cons (x_op (x_vd (d := (enc (a__law_ring : (List (T3 Int Int Int))))) L12 rfl fun v16 r20 => x_vI (x := x3) L12 rfl (x_ixL (xs := a__law_ring) hm23 r20 fun x6 v17 _ hm24 r21 => x_nil (obE hm24 fun z5 hz3 hm25 => mk__law_side hz3 (L12.cond0 (.im r16 (.im r19 (.im r21 .nil))) rfl) fun _ F4 => k0 L12 F4 fun L13 le3 => x_c (x_nei (x_kb (x_if hm25 (fun hm26 => ?_) fun hm26 => ?_)))))))))))))))))))))))))
              · exact x_ret (x_c (x_leafR (ps := (fun (r : Bool) => [])) (rs := (fun (r : Bool) => (.imm (.bool r)))) (e := false) hm26 hR2 (L13.fin hp0 (.bl _))))
              · refine x_next ?_
                exact x_leafN (G := (fun (s4 : Unit) => [.imm (enc (a__law_ring : (List (T3 Int Int Int)))), .imm (.int x2), .unk, .unk])) (e := ()) hm26 hN2 (L13.weak (Γ' := [.imm (enc (a__law_ring : (List (T3 Int Int Int)))), .imm (.int x2), .unk, .unk]) (.k (.k (.d (.k .e)))))
            · refine x_next ?_
              exact x_leafN (G := (fun (s4 : Unit) => [.imm (enc (a__law_ring : (List (T3 Int Int Int)))), .imm (.int x2), .unk, .unk])) (e := ()) hm20 hN2 (L12.weak (Γ' := [.imm (enc (a__law_ring : (List (T3 Int Int Int)))), .imm (.int x2), .unk, .unk]) (.k (.k (.d (.k .e)))))
          exact x_leafN (G := (fun (s2 : Unit) => [.imm (enc (a__law_ring : (List (T3 Int Int Int)))), .unk, .unk, .unk])) (e := ()) hm14 hN1 (L10.weak (Γ' := [.imm (enc (a__law_ring : (List (T3 Int Int Int)))), .unk, .unk, .unk]) (.k (.d (.k (.k .e)))))
        exact x_ret (x_c (x_finB (Q := Q) (ps := (fun (r : Bool) => [])) (sc := fun (r : Bool) => r) true hm10 kont (L7.fin hp0 (.bl _))))
abbrev sp__law_bulging (K : PySem.W.Frag) : Sp := fun vs H Q _ => ∃ (X : Addr → Prop) (p__law_bag_here : Addr) (a__law_bag_here : (List Int)) (a__law_most : Int) (r : ((List (T3 Int Int Int)) × (List Int))), m__law_bulging a__law_bag_here a__law_most = some r ∧ Cond K X H [.mu p__law_bag_here (ml (a__law_bag_here : (List Int))), .imm (.int a__law_most)] vs ∧ ∀ v H', Fin K X H [p__law_bag_here] [(p__law_bag_here, (ml (r.2 : (List Int))))] (.imm (enc (r.1 : (List (T3 Int Int Int))))) v H' → Q v H'
theorem mk__law_bulging {K : PySem.W.Frag} {X : Addr → Prop} {H : Hp} {vs : List V} {Q : VK} {E : XK} {p__law_bag_here : Addr} {a__law_bag_here : (List Int)} {a__law_most : Int} {r : ((List (T3 Int Int Int)) × (List Int))} (hm : m__law_bulging a__law_bag_here a__law_most = some r) (c : Cond K X H [.mu p__law_bag_here (ml (a__law_bag_here : (List Int))), .imm (.int a__law_most)] vs) (k : ∀ v H', Fin K X H [p__law_bag_here] [(p__law_bag_here, (ml (r.2 : (List Int))))] (.imm (enc (r.1 : (List (T3 Int Int Int))))) v H' → Q v H') : sp__law_bulging K vs H Q E := ⟨X, p__law_bag_here, a__law_bag_here, a__law_most, r, hm, c, k⟩
abbrev n__law_bulging : List Str := ["_law_bag_here", "_law_most", "_law_ring", "_law_k", "_law_p", "_law_at_end", "_law_more"]
theorem sc__law_bulging : FnScope n__law_bulging ["_law_bag_here", "_law_most"] (defScope s__law_bulging) := ⟨rfl, rfl, rfl, by decide +kernel, rfl, by decide +kernel, by decide +kernel⟩
theorem ok__law_bulging (T : Txt K mg) : FnOk P w K mg base CX0 4 T.A__law_bulging T.D__law_bulging ["_law_bag_here", "_law_most"] (sp__law_bulging K) := by
  refine Fun.ok T.F__law_bulging sc__law_bulging (fun vs H Q E h => ?_) (fun cdv A outer s H vs Q E hr h => ?_)
  · obtain ⟨X, p__law_bag_here, a__law_bag_here, a__law_most, r, hm, c, kont⟩ := h
    exact c.len
  · obtain ⟨X, p__law_bag_here, a__law_bag_here, a__law_most, r, hm, c, kont⟩ := h
    refine ⟨_, (pss_cons (ps_set (i := 2) sc__law_bulging.nd rfl (Or.inl rfl) (pe_call (ok__law_three T) hr (by rfl) T.g__law_three T.F__law_three.kp T.b__law_three .nil pass0 (pa_cons (pv 0) (pa_cons (pv 1) pa_nil))))
      (pss_cons (ps_for PassesOwn.never rfl (pi_range1 (by rfl) T.z_range (pa_cons (pe_call (ok__law_digit T) (hr.mono (by decide)) (by rfl) T.g__law_digit T.F__law_digit.kp T.b__law_digit .nil pass0 (pa_cons (pv 0) (pa_cons pe_int pa_nil))) pa_nil)) (pg_name (i := 3) sc__law_bulging.nd rfl (Or.inl rfl)) (pss_cons (ps_set (i := 4) sc__law_bulging.nd rfl (Or.inl rfl) (pe_call (ok__law_place T) (hr.mono (by decide)) (by rfl) T.g__law_place T.F__law_place.kp T.b__law_place .nil pass0 (pa_cons (pv 0) (pa_cons (pv 1) pa_nil))))
      (pss_one (ps_for PassesOwn.never rfl (pi_range1 (by rfl) T.z_range (pa_cons (pe_callB (r := rLenX K) call_lenX (by rfl) T.z_len (by decide +kernel) (pa_cons (pv 2) pa_nil)) pa_nil)) (pg_name (i := 5) sc__law_bulging.nd rfl (Or.inl rfl)) (pss_cons (ps_set (i := 6) sc__law_bulging.nd rfl (Or.inl rfl) (pe_op op_catR (pe_op op_catR (pe_slice (r := rSlL K) sl_list (pv 2) po_none (po_some (pv 5))) (pe_lst (pa_cons (pv 4) pa_nil))) (pe_slice (r := rSlL K) sl_list (pv 2) (po_some (pv 5)) po_none)))
      (pss_one (ps_if (pt_val (pe_call (ok__law_is_convex T) hr (by rfl) T.g__law_is_convex T.F__law_is_convex.kp T.b__law_is_convex .nil pass0 (pa_cons (pv 6) pa_nil))) (pss_cons (ps_set (i := 2) sc__law_bulging.nd rfl (Or.inl rfl) (pv 6))
      (pss_one ps_break)) pss_nil)))))))
      (pss_one (ps_ret (pv 2))))), ?_⟩
    have L0 : Lo ⟨K, X, H, muts [.mu p__law_bag_here (ml (a__law_bag_here : (List Int))), .imm (.int a__law_most)], n__law_bulging.length⟩ X H (L2.start n__law_bulging vs) [.mu p__law_bag_here (ml (a__law_bag_here : (List Int))), .imm (.int a__law_most), .unk, .unk, .unk, .unk, .unk] := c.start n__law_bulging (show (2 : Nat) ≤ 7 by decide)
    unfold m__law_bulging at hm
    refine x_seq (x_asg (x_call (x_cons (x_vm L0 rfl (x_cons (x_vI (x := a__law_most) L0 rfl (x_nil (obE hm fun z1 hz1 hm1 => mk__law_three hz1 (L0.cond1 (i := 0) (.m (L0.mrep (i := 0) rfl) (.im (.int _) .nil)) rfl rfl rfl) fun v1 _ F1 => k1d L0 F1 (i := 0) (Γ' := [.mu p__law_bag_here (ml (z1.2 : (List Int))), .imm (.int a__law_most), .unk, .unk, .unk, .unk, .unk]) rfl rfl rfl fun L1 le1 r1 => x_set (d := (enc (z1.1 : (List (T3 Int Int Int))))) (Γ' := [.mu p__law_bag_here (ml (z1.2 : (List Int))), .imm (.int a__law_most), .imm (enc (z1.1 : (List (T3 Int Int Int)))), .unk, .unk, .unk, .unk]) L1 r1 (show (2 : Nat) < 7 by decide) rfl fun _ L2 => ?_))))))))
    refine x_seq (x_tforR1 (x_cons (x_call (x_cons (x_vm L2 rfl (x_cons (x_c (x_nil (obE hm1 fun z2 hz2 hm2 => mk__law_digit hz2 (L2.cond1 (i := 0) (.m (L2.mrep (i := 0) rfl) (.im (.int _) .nil)) rfl rfl rfl) fun _ F2 => k1 L2 F2 (i := 0) (Γ' := [.mu p__law_bag_here (ml (z2.2 : (List Int))), .imm (.int a__law_most), .imm (enc (z1.1 : (List (T3 Int Int Int)))), .unk, .unk, .unk, .unk]) rfl rfl rfl fun L3 le2 => x_nil (x_r1 hm2 fun hm3 => x_foR (G := (fun (s1 : ((List Int) × (List (T3 Int Int Int)))) => [.mu p__law_bag_here (ml (s1.1 : (List Int))), .imm (.int a__law_most), .imm (enc (s1.2 : (List (T3 Int Int Int)))), .unk, .unk, .unk, .unk])) (s0 := (z2.2, z1.1)) (L3.weak (Γ' := [.mu p__law_bag_here (ml (z2.2 : (List Int))), .imm (.int a__law_most), .imm (enc (z1.1 : (List (T3 Int Int Int)))), .unk, .unk, .unk, .unk]) (.k (.k (.k (.k (.k (.k (.k .e)))))))) (fun _ _ => rfl) hm3 (fun x1 s1 H1 _ u1 _ _ _ _ _ hm4 L4 _ r2 hN1 hC1 => ?_) (fun s2 _ _ hm5 L5 => ?_)))))))))))
    · refine x_set (d := (.int x1)) (Γ' := [.mu p__law_bag_here (ml (s1.1 : (List Int))), .imm (.int a__law_most), .imm (enc (s1.2 : (List (T3 Int Int Int)))), .imm (.int x1), .unk, .unk, .unk]) L4 r2 (show (3 : Nat) < 7 by decide) rfl fun _ L6 => ?_
      refine x_seq (x_asg (x_call (x_cons (x_vm L6 rfl (x_cons (x_vI (x := a__law_most) L6 rfl (x_nil (obE hm4 fun z3 hz3 hm7 => mk__law_place hz3 (L6.cond1 (i := 0) (.m (L6.mrep (i := 0) rfl) (.im (.int _) .nil)) rfl rfl rfl) fun v3 _ F4 => k1d L6 F4 (i := 0) (Γ' := [.mu p__law_bag_here (ml (z3.2 : (List Int))), .imm (.int a__law_most), .imm (enc (s1.2 : (List (T3 Int Int Int)))), .imm (.int x1), .unk, .unk, .unk]) rfl rfl rfl fun L7 le3 r3 => x_set (d := (enc (z3.1 : (T3 Int Int Int)))) (Γ' := [.mu p__law_bag_here (ml (z3.2 : (List Int))), .imm (.int a__law_most), .imm (enc (s1.2 : (List (T3 Int Int Int)))), .imm (.int x1), .imm (enc (z3.1 : (T3 Int Int Int))), .unk, .unk]) L7 r3 (show (4 : Nat) < 7 by decide) rfl fun _ L8 => ?_))))))))
      refine x_tforR1 (x_cons (x_cb (x_cons (x_vd (d := (enc (s1.2 : (List (T3 Int Int Int))))) L8 rfl fun v4 r4 => x_nil (x_lenL (xs := s1.2) r4 (x_nil (x_r1 hm7 fun hm8 => x_flR (G := (fun (s3 : (List (T3 Int Int Int))) => [.mu p__law_bag_here (ml (z3.2 : (List Int))), .imm (.int a__law_most), .imm (enc (s3 : (List (T3 Int Int Int)))), .imm (.int x1), .imm (enc (z3.1 : (T3 Int Int Int))), .unk, .unk])) (s0 := s1.2) (ρ := Empty) (ps := fun _ => []) (rs := fun _ => .imm .none) (L8.weak (Γ' := [.mu p__law_bag_here (ml (z3.2 : (List Int))), .imm (.int a__law_most), .imm (enc (s1.2 : (List (T3 Int Int Int)))), .imm (.int x1), .imm (enc (z3.1 : (T3 Int Int Int))), .unk, .unk]) (.k (.k (.k (.k (.k (.k (.k .e)))))))) (fun _ _ => rfl) hm8 (fun x2 s3 H2 _ u2 _ _ _ _ _ hm9 L9 _ r5 hN2 hC2 hB2 hR2 => ?_) (fun s4 _ _ hm10 L10 => ?_) (fun q => q.elim))))))))
      · refine x_set (d := (.int x2)) (Γ' := [.mu p__law_bag_here (ml (z3.2 : (List Int))), .imm (.int a__law_most), .imm (enc (s3 : (List (T3 Int Int Int)))), .imm (.int x1), .imm (enc (z3.1 : (T3 Int Int Int))), .imm (.int x2), .unk]) L9 r5 (show (5 : Nat) < 7 by decide) rfl fun _ L11 => ?_
        refine x_seq (x_asg (x_op (x_op (x_sl (x_vd (d := (enc (s3 : (List (T3 Int Int Int))))) L11 rfl fun v5 r6 => x_noP (x_part (x_vI (x := x2) L11 rfl (x_partK (x_slL (xs := s3) L11 r6 fun v6 _ L12 le4 r7 => have r8 : Rep _ _ _ (enc ((slice s3 none (some x2)) : (List (T3 Int Int Int)))) v6 := r7; x_lst (x_cons (x_vd (d := (enc (z3.1 : (T3 Int Int Int)))) L12 rfl fun v7 r9 => x_nil (x_mkL L12 (.cons r9 .nil) (show (1 : Nat) ≤ 16777216 by decide) fun v8 _ L13 le5 r10 => have r11 := le5 _ _ r8; have r12 : Rep _ _ _ (enc ([z3.1] : (List (T3 Int Int Int)))) v8 := r10; x_cat L13 hm9 r11 r12 fun v9 _ hm12 L14 le6 r13 => have r14 : Rep _ _ _ (enc (((slice s3 none (some x2)) ++ [z3.1]) : (List (T3 Int Int Int)))) v9 := r13; x_sl (x_vd (d := (enc (s3 : (List (T3 Int Int Int))))) L14 rfl fun v10 r15 => x_part (x_vI (x := x2) L14 rfl (x_partK (x_noP (x_slL (xs := s3) L14 r15 fun v11 _ L15 le7 r16 => have r17 := le7 _ _ r14; have r18 : Rep _ _ _ (enc ((slice s3 (some x2) none) : (List (T3 Int Int Int)))) v11 := r16; x_cat L15 hm12 r17 r18 fun v12 _ hm13 L16 le8 r19 => have r20 : Rep _ _ _ (enc ((((slice s3 none (some x2)) ++ [z3.1]) ++ (slice s3 (some x2) none)) : (List (T3 Int Int Int)))) v12 := r19; x_bset (x0 := (((slice s3 none (some x2)) ++ [z3.1]) ++ (slice s3 (some x2) none))) (d := fun more_1 => (enc (more_1 : (List (T3 Int Int Int))))) (Γf := fun more_1 => [.mu p__law_bag_here (ml (z3.2 : (List Int))), .imm (.int a__law_most), .imm (enc (s3 : (List (T3 Int Int Int)))), .imm (.int x1), .imm (enc (z3.1 : (T3 Int Int Int))), .imm (.int x2), .imm (enc (more_1 : (List (T3 Int Int Int))))]) hm13 L16 r20 (show (6 : Nat) < 7 by decide) (fun _ => rfl) fun more_1 _ hm14 L17 => ?_)))))))))))))))))
        refine x_ifS (x_tB (x_call (x_cons (x_vd (d := (enc (more_1 : (List (T3 Int Int Int))))) L17 rfl fun v13 r21 => x_nil (obE hm14 fun z4 hz4 hm15 => mk__law_is_convex hz4 (L17.cond0 (.im r21 .nil) rfl) fun _ F6 => k0 L17 F6 fun L18 le9 => x_kb (x_if hm15 (fun hm16 => ?_) fun hm16 => ?_))))))
        · refine x_seq (x_asg (x_vd (d := (enc (more_1 : (List (T3 Int Int Int))))) L18 rfl fun v15 r22 => x_set (d := (enc (more_1 : (List (T3 Int Int Int))))) (Γ' := [.mu p__law_bag_here (ml (z3.2 : (List Int))), .imm (.int a__law_most), .imm (enc (more_1 : (List (T3 Int Int Int)))), .imm (.int x1), .imm (enc (z3.1 : (T3 Int Int Int))), .imm (.int x2), .imm (enc (more_1 : (List (T3 Int Int Int))))]) L18 r22 (show (2 : Nat) < 7 by decide) rfl fun _ L19 => ?_))
          exact x_break (x_leafB (G := (fun (s3 : (List (T3 Int Int Int))) => [.mu p__law_bag_here (ml (z3.2 : (List Int))), .imm (.int a__law_most), .imm (enc (s3 : (List (T3 Int Int Int)))), .imm (.int x1), .imm (enc (z3.1 : (T3 Int Int Int))), .unk, .unk])) (e := more_1) hm16 hB2 (L19.weak (Γ' := [.mu p__law_bag_here (ml (z3.2 : (List Int))), .imm (.int a__law_most), .imm (enc (more_1 : (List (T3 Int Int Int)))), .imm (.int x1), .imm (enc (z3.1 : (T3 Int Int Int))), .unk, .unk]) (.k (.k (.k (.k (.k (.d (.d .e)))))))))
        · refine x_next ?_
          exact x_leafN (G := (fun (s3 : (List (T3 Int Int Int))) => [.mu p__law_bag_here (ml (z3.2 : (List Int))), .imm (.int a__law_most), .imm (enc (s3 : (List (T3 Int Int Int)))), .imm (.int x1), .imm (enc (z3.1 : (T3 Int Int Int))), .unk, .unk])) (e := s3) hm16 hN2 (L18.weak (Γ' := [.mu p__law_bag_here (ml (z3.2 : (List Int))), .imm (.int a__law_most), .imm (enc (s3 : (List (T3 Int Int Int)))), .imm (.int x1), .imm (enc (z3.1 : (T3 Int Int Int))), .unk, .unk]) (.k (.k (.k (.k (.k (.d (.d .e))))))))
      exact x_leaf (G := (fun (s1 : ((List Int) × (List (T3 Int Int Int)))) => [.mu p__law_bag_here (ml (s1.1 : (List Int))), .imm (.int a__law_most), .imm (enc (s1.2 : (List (T3 Int Int Int)))), .unk, .unk, .unk, .unk])) (e := (z3.2, s4)) hm10 hN1 (L10.weak (Γ' := [.mu p__law_bag_here (ml (z3.2 : (List Int))), .imm (.int a__law_most), .imm (enc (s4 : (List (T3 Int Int Int)))), .unk, .unk, .unk, .unk]) (.k (.k (.k (.d (.d (.k (.k .e))))))))
    exact x_ret (x_vd (d := (enc (s2.2 : (List (T3 Int Int Int))))) L5 rfl fun v16 r23 => x_fin (Q := Q) (ps := (fun (r : ((List (T3 Int Int Int)) × (List Int))) => [(p__law_bag_here, (ml (r.2 : (List Int))))])) (rs := (fun (r : ((List (T3 Int Int Int)) × (List Int))) => (.imm (enc (r.1 : (List (T3 Int Int Int))))))) (e := (s2.2, s2.1)) hm5 kont (L5.fin (hp1 (L5.mrep (i := 0) rfl)) r23))
abbrev sp__law_step (K : PySem.W.Frag) : Sp := fun vs H Q _ => ∃ (X : Addr → Prop) (p__law_bag_here : Addr) (a__law_bag_here : (List Int)) (a__law_most : Int) (r : ((T3 Int Int Int) × (List Int))), m__law_step a__law_bag_here a__law_most = some r ∧ Cond K X H [.mu p__law_bag_here (ml (a__law_bag_here : (List Int))), .imm (.int a__law_most)] vs ∧ ∀ v H', Fin K X H [p__law_bag_here] [(p__law_bag_here, (ml (r.2 : (List Int))))] (.imm (enc (r.1 : (T3 Int Int Int)))) v H' → Q v H'
theorem mk__law_step {K : PySem.W.Frag} {X : Addr → Prop} {H : Hp} {vs : List V} {Q : VK} {E : XK} {p__law_bag_here : Addr} {a__law_bag_here : (List Int)} {a__law_most : Int} {r : ((T3 Int Int Int) × (List Int))} (hm : m__law_step a__law_bag_here a__law_most = some r) (c : Cond K X H [.mu p__law_bag_here (ml (a__law_bag_here : (List Int))), .imm (.int a__law_most)] vs) (k : ∀ v H', Fin K X H [p__law_bag_here] [(p__law_bag_here, (ml (r.2 : (List Int))))] (.imm (enc (r.1 : (T3 Int Int Int)))) v H' → Q v H') : sp__law_step K vs H Q E := ⟨X, p__law_bag_here, a__law_bag_here, a__law_most, r, hm, c, k⟩
abbrev n__law_step : List Str := ["_law_bag_here", "_law_most", "_law_n"]
theorem sc__law_step : FnScope n__law_step ["_law_bag_here", "_law_most"] (defScope s__law_step) := ⟨rfl, rfl, rfl, by decide +kernel, rfl, by decide +kernel, by decide +kernel⟩
theorem ok__law_step (T : Txt K mg) : FnOk P w K mg base CX0 2 T.A__law_step T.D__law_step ["_law_bag_here", "_law_most"] (sp__law_step K) := by
  refine Fun.ok T.F__law_step sc__law_step (fun vs H Q E h => ?_) (fun cdv A outer s H vs Q E hr h => ?_)
  · obtain ⟨X, p__law_bag_here, a__law_bag_here, a__law_most, r, hm, c, kont⟩ := h
    exact c.len
  · obtain ⟨X, p__law_bag_here, a__law_bag_here, a__law_most, r, hm, c, kont⟩ := h
    refine ⟨_, (pss_cons (ps_set (i := 2) sc__law_step.nd rfl (Or.inl rfl) (pe_ix (r := rIxL K) ix_list (pe_lst (pa_cons pe_int (pa_cons pe_int (pa_cons pe_int (pa_cons pe_int pa_nil))))) (pe_call (ok__law_digit T) hr (by rfl) T.g__law_digit T.F__law_digit.kp T.b__law_digit .nil pass0 (pa_cons (pv 0) (pa_cons pe_int pa_nil))) (fun _ _ => rfl)))
      (pss_one (ps_ret (pe_call (ok__law_point T) hr (by rfl) T.g__law_point T.F__law_point.kp T.b__law_point .nil pass0 (pa_cons (pe_op op_sub (pe_call (ok__law_digit T) hr (by rfl) T.g__law_digit T.F__law_digit.kp T.b__law_digit .nil pass0 (pa_cons (pv 0) (pa_cons (pe_op op_add (pe_op op_mul pe_int (pv 1)) pe_int) pa_nil))) (pv 1)) (pa_cons (pe_op op_sub (pe_call (ok__law_digit T) hr (by rfl) T.g__law_digit T.F__law_digit.kp T.b__law_digit .nil pass0 (pa_cons (pv 0) (pa_cons (pe_op op_add (pe_op op_mul pe_int (pv 1)) pe_int) pa_nil))) (pv 1)) (pa_cons (pv 2) pa_nil))))))), ?_⟩
    have L0 : Lo ⟨K, X, H, muts [.mu p__law_bag_here (ml (a__law_bag_here : (List Int))), .imm (.int a__law_most)], n__law_step.length⟩ X H (L2.start n__law_step vs) [.mu p__law_bag_here (ml (a__law_bag_here : (List Int))), .imm (.int a__law_most), .unk] := c.start n__law_step (show (2 : Nat) ≤ 3 by decide)
    unfold m__law_step at hm
    refine x_seq (x_asg (x_op (x_lst (x_cons (x_c (x_cons (x_c (x_cons (x_c (x_cons (x_c (x_nil (x_mkL L0 (.cons (.int _) (.cons (.int _) (.cons (.int _) (.cons (.int _) .nil)))) (show (4 : Nat) ≤ 16777216 by decide) fun v1 _ L1 le1 r1 => have r2 : Rep _ _ _ (enc ([1, 1, 2, 5] : (List Int))) v1 := r1; x_call (x_cons (x_vm L1 rfl (x_cons (x_c (x_nil (obE hm fun z1 hz1 hm1 => mk__law_digit hz1 (L1.cond1 (i := 0) (.m (L1.mrep (i := 0) rfl) (.im (.int _) .nil)) rfl rfl rfl) fun _ F1 => k1 L1 F1 (i := 0) (Γ' := [.mu p__law_bag_here (ml (z1.2 : (List Int))), .imm (.int a__law_most), .unk]) rfl rfl rfl fun L2 le2 => have r3 := le2 _ _ r2; x_ixLI (xs := [1, 1, 2, 5]) hm1 r3 fun x1 _ hm2 => x_set (d := (.int x1)) (Γ' := [.mu p__law_bag_here (ml (z1.2 : (List Int))), .imm (.int a__law_most), .imm (.int x1)]) L2 (.int _) (show (2 : Nat) < 3 by decide) rfl fun _ L3 => ?_)))))))))))))))))))
    exact x_ret (x_call (x_cons (x_op (x_call (x_cons (x_vm L3 rfl (x_cons (x_op (x_op (x_c (x_vI (x := a__law_most) L3 rfl (x_mulL (by decide) (x_c (x_r0 (x_nil (obE hm2 fun z2 hz2 hm3 => mk__law_digit hz2 (L3.cond1 (i := 0) (.m (L3.mrep (i := 0) rfl) (.im (.int _) .nil)) rfl rfl rfl) fun _ F2 => k1 L3 F2 (i := 0) (Γ' := [.mu p__law_bag_here (ml (z2.2 : (List Int))), .imm (.int a__law_most), .imm (.int x1)]) rfl rfl rfl fun L4 le3 => x_vI (x := a__law_most) L4 rfl (x_r0 (x_cons (x_op (x_call (x_cons (x_vm L4 rfl (x_cons (x_op (x_op (x_c (x_vI (x := a__law_most) L4 rfl (x_mulL (by decide) (x_c (x_r0 (x_nil (obE hm3 fun z3 hz3 hm4 => mk__law_digit hz3 (L4.cond1 (i := 0) (.m (L4.mrep (i := 0) rfl) (.im (.int _) .nil)) rfl rfl rfl) fun _ F3 => k1 L4 F3 (i := 0) (Γ' := [.mu p__law_bag_here (ml (z3.2 : (List Int))), .imm (.int a__law_most), .imm (.int x1)]) rfl rfl rfl fun L5 le4 => x_vI (x := a__law_most) L5 rfl (x_r0 (x_cons (x_vI (x := x1) L5 rfl (x_nil (obE hm4 fun z4 hz4 hm5 => mk__law_point hz4 (L5.cond0 (.im (.int _) (.im (.int _) (.im (.int _) .nil))) rfl) fun v5 _ F4 => k0d L5 F4 fun L6 le5 r4 => x_fin (Q := Q) (ps := (fun (r : ((T3 Int Int Int) × (List Int))) => [(p__law_bag_here, (ml (r.2 : (List Int))))])) (rs := (fun (r : ((T3 Int Int Int) × (List Int))) => (.imm (enc (r.1 : (T3 Int Int Int)))))) (e := (z4, z3.2)) hm5 kont (L6.fin (hp1 (L6.mrep (i := 0) rfl)) r4))))))))))))))))))))))))))))))))))))))
abbrev sp__law_slid (K : PySem.W.Frag) : Sp := fun vs H Q _ => ∃ (X : Addr → Prop)  (a__law_p : (T3 Int Int Int)) (a__law_v : (T3 Int Int Int)) (r : (T3 Int Int Int)), m__law_slid a__law_p a__law_v = some r ∧ Cond K X H [.imm (enc (a__law_p : (T3 Int Int Int))), .imm (enc (a__law_v : (T3 Int Int Int)))] vs ∧ ∀ v H', Fin K X H [] [] (.imm (enc (r : (T3 Int Int Int)))) v H' → Q v H'
theorem mk__law_slid {K : PySem.W.Frag} {X : Addr → Prop} {H : Hp} {vs : List V} {Q : VK} {E : XK}  {a__law_p : (T3 Int Int Int)} {a__law_v : (T3 Int Int Int)} {r : (T3 Int Int Int)} (hm : m__law_slid a__law_p a__law_v = some r) (c : Cond K X H [.imm (enc (a__law_p : (T3 Int Int Int))), .imm (enc (a__law_v : (T3 Int Int Int)))] vs) (k : ∀ v H', Fin K X H [] [] (.imm (enc (r : (T3 Int Int Int)))) v H' → Q v H') : sp__law_slid K vs H Q E := ⟨X, a__law_p, a__law_v, r, hm, c, k⟩
abbrev n__law_slid : List Str := ["_law_p", "_law_v"]
theorem sc__law_slid : FnScope n__law_slid ["_law_p", "_law_v"] (defScope s__law_slid) := ⟨rfl, rfl, rfl, by decide +kernel, rfl, by decide +kernel, by decide +kernel⟩
theorem ok__law_slid (T : Txt K mg) : FnOk P w K mg base CX0 2 T.A__law_slid T.D__law_slid ["_law_p", "_law_v"] (sp__law_slid K) := by
  refine Fun.ok T.F__law_slid sc__law_slid (fun vs H Q E h => ?_) (fun cdv A outer s H vs Q E hr h => ?_)
  · obtain ⟨X, a__law_p, a__law_v, r, hm, c, kont⟩ := h
    exact c.len
  · obtain ⟨X, a__law_p, a__law_v, r, hm, c, kont⟩ := h
    refine ⟨_, (pss_one (ps_ret (pe_call (ok__law_point T) hr (by rfl) T.g__law_point T.F__law_point.kp T.b__law_point .nil pass0 (pa_cons (pe_op op_add (pe_op op_mulW (pe_ix (r := rIxT K) ix_tup (pv 0) pe_int (fun _ _ => rfl)) (pe_ix (r := rIxT K) ix_tup (pv 1) pe_int (fun _ _ => rfl))) (pe_op op_mulW (pe_ix (r := rIxT K) ix_tup (pv 1) pe_int (fun _ _ => rfl)) (pe_ix (r := rIxT K) ix_tup (pv 0) pe_int (fun _ _ => rfl)))) (pa_cons (pe_op op_add (pe_op op_mulW (pe_ix (r := rIxT K) ix_tup (pv 0) pe_int (fun _ _ => rfl)) (pe_ix (r := rIxT K) ix_tup (pv 1) pe_int (fun _ _ => rfl))) (pe_op op_mulW (pe_ix (r := rIxT K) ix_tup (pv 1) pe_int (fun _ _ => rfl)) (pe_ix (r := rIxT K) ix_tup (pv 0) pe_int (fun _ _ => rfl)))) (pa_cons (pe_op op_mulW (pe_ix (r := rIxT K) ix_tup (pv 0) pe_int (fun _ _ => rfl)) (pe_ix (r := rIxT K) ix_tup (pv 1) pe_int (fun _ _ => rfl))) pa_nil)))))), ?_⟩
    have L0 : Lo ⟨K, X, H, muts [.imm (enc (a__law_p : (T3 Int Int Int))), .imm (enc (a__law_v : (T3 Int Int Int)))], n__law_slid.length⟩ X H (L2.start n__law_slid vs) [.imm (enc (a__law_p : (T3 Int Int Int))), .imm (enc (a__law_v : (T3 Int Int Int)))] := c.start n__law_slid (show (2 : Nat) ≤ 2 by decide)
    unfold m__law_slid at hm
    exact x_ret (x_call (x_cons (x_op (x_op (x_op (x_vd (d := (enc (a__law_p : (T3 Int Int Int)))) L0 rfl fun v1 r1 => x_c (x_ixTI (x := a__law_p.a) r1 rfl (x_op (x_vd (d := (enc (a__law_v : (T3 Int Int Int)))) L0 rfl fun v2 r2 => x_c (x_ixTI (x := a__law_v.c) r2 rfl (x_mul hm fun z1 _ hm1 => x_op (x_op (x_vd (d := (enc (a__law_v : (T3 Int Int Int)))) L0 rfl fun v3 r3 => x_c (x_ixTI (x := a__law_v.a) r3 rfl (x_op (x_vd (d := (enc (a__law_p : (T3 Int Int Int)))) L0 rfl fun v4 r4 => x_c (x_ixTI (x := a__law_p.c) r4 rfl (x_mul hm1 fun z2 _ hm2 => x_r0 (x_cons (x_op (x_op (x_op (x_vd (d := (enc (a__law_p : (T3 Int Int Int)))) L0 rfl fun v5 r5 => x_c (x_ixTI (x := a__law_p.b) r5 rfl (x_op (x_vd (d := (enc (a__law_v : (T3 Int Int Int)))) L0 rfl fun v6 r6 => x_c (x_ixTI (x := a__law_v.c) r6 rfl (x_mul hm2 fun z3 _ hm3 => x_op (x_op (x_vd (d := (enc (a__law_v : (T3 Int Int Int)))) L0 rfl fun v7 r7 => x_c (x_ixTI (x := a__law_v.b) r7 rfl (x_op (x_vd (d := (enc (a__law_p : (T3 Int Int Int)))) L0 rfl fun v8 r8 => x_c (x_ixTI (x := a__law_p.c) r8 rfl (x_mul hm3 fun z4 _ hm4 => x_r0 (x_cons (x_op (x_op (x_vd (d := (enc (a__law_p : (T3 Int Int Int)))) L0 rfl fun v9 r9 => x_c (x_ixTI (x := a__law_p.c) r9 rfl (x_op (x_vd (d := (enc (a__law_v : (T3 Int Int Int)))) L0 rfl fun v10 r10 => x_c (x_ixTI (x := a__law_v.c) r10 rfl (x_mul hm4 fun z5 _ hm5 => x_nil (obE hm5 fun z6 hz1 hm6 => mk__law_point hz1 (L0.cond0 (.im (.int _) (.im (.int _) (.im (.int _) .nil))) rfl) fun v11 _ F1 => k0d L0 F1 fun L1 le1 r11 => x_fin (Q := Q) (ps := (fun (r : (T3 Int Int Int)) => [])) (rs := (fun (r : (T3 Int Int Int)) => (.imm (enc (r : (T3 Int Int Int)))))) (e := z6) hm6 kont (L1.fin hp0 r11))))))))))))))))))))))))))))))))))))))))))))))
abbrev sp__law_turned (K : PySem.W.Frag) : Sp := fun vs H Q _ => ∃ (X : Addr → Prop)  (a__law_p : (T3 Int Int Int)) (r : (T3 Int Int Int)), m__law_turned a__law_p = some r ∧ Cond K X H [.imm (enc (a__law_p : (T3 Int Int Int)))] vs ∧ ∀ v H', Fin K X H [] [] (.imm (enc (r : (T3 Int Int Int)))) v H' → Q v H'
theorem mk__law_turned {K : PySem.W.Frag} {X : Addr → Prop} {H : Hp} {vs : List V} {Q : VK} {E : XK}  {a__law_p : (T3 Int Int Int)} {r : (T3 Int Int Int)} (hm : m__law_turned a__law_p = some r) (c : Cond K X H [.imm (enc (a__law_p : (T3 Int Int Int)))] vs) (k : ∀ v H', Fin K X H [] [] (.imm (enc (r : (T3 Int Int Int)))) v H' → Q v H') : sp__law_turned K vs H Q E := ⟨X, a__law_p, r, hm, c, k⟩
abbrev n__law_turned : List Str := ["_law_p"]
theorem sc__law_turned : FnScope n__law_turned ["_law_p"] (defScope s__law_turned) := ⟨rfl, rfl, rfl, by decide +kernel, rfl, by decide +kernel, by decide +kernel⟩
theorem ok__law_turned (T : Txt K mg) : FnOk P w K mg base CX0 1 T.A__law_turned T.D__law_turned ["_law_p"] (sp__law_turned K) := by
  refine Fun.ok T.F__law_turned sc__law_turned (fun vs H Q E h => ?_) (fun cdv A outer s H vs Q E hr h => ?_)
  · obtain ⟨X, a__law_p, r, hm, c, kont⟩ := h
    exact c.len
  · obtain ⟨X, a__law_p, r, hm, c, kont⟩ := h
    refine ⟨_, (pss_one (ps_ret (pe_tup (pa_cons (pe_un un_neg (pe_ix (r := rIxT K) ix_tup (pv 0) pe_int (fun _ _ => rfl))) (pa_cons (pe_un un_neg (pe_ix (r := rIxT K) ix_tup (pv 0) pe_int (fun _ _ => rfl))) (pa_cons (pe_ix (r := rIxT K) ix_tup (pv 0) pe_int (fun _ _ => rfl)) pa_nil)))))), ?_⟩
    have L0 : Lo ⟨K, X, H, muts [.imm (enc (a__law_p : (T3 Int Int Int)))], n__law_turned.length⟩ X H (L2.start n__law_turned vs) [.imm (enc (a__law_p : (T3 Int Int Int)))] := c.start n__law_turned (show (1 : Nat) ≤ 1 by decide)
    unfold m__law_turned at hm
    exact x_ret (x_tup (x_cons (x_un (x_op (x_vd (d := (enc (a__law_p : (T3 Int Int Int)))) L0 rfl fun v1 r1 => x_c (x_ixTI (x := a__law_p.a) r1 rfl (x_u (x_cons (x_un (x_op (x_vd (d := (enc (a__law_p : (T3 Int Int Int)))) L0 rfl fun v2 r2 => x_c (x_ixTI (x := a__law_p.b) r2 rfl (x_u (x_cons (x_op (x_vd (d := (enc (a__law_p : (T3 Int Int Int)))) L0 rfl fun v3 r3 => x_c (x_ixTI (x := a__law_p.c) r3 rfl (x_nil (x_mkT L0 (.cons (.int _) (.cons (.int _) (.cons (.int _) .nil))) (show (3 : Nat) ≤ 16777216 by decide) fun v4 _ L1 le1 r4 => have r5 : Rep _ _ _ (enc ((T3.mk ((-a__law_p.a)) ((-a__law_p.b)) a__law_p.c) : (T3 Int Int Int))) v4 := r4; x_fin (Q := Q) (ps := (fun (r : (T3 Int Int Int)) => [])) (rs := (fun (r : (T3 Int Int Int)) => (.imm (enc (r : (T3 Int Int Int)))))) (e := (T3.mk ((-a__law_p.a)) ((-a__law_p.b)) a__law_p.c)) hm kont (L1.fin hp0 r5))))))))))))))))))))
abbrev sp__law_second (K : PySem.W.Frag) : Sp := fun vs H Q _ => ∃ (X : Addr → Prop) (p__law_bag_here : Addr) (a__law_ring : (List (T3 Int Int Int))) (a__law_bag_here : (List Int)) (r : ((List (T3 Int Int Int)) × (List Int))), m__law_second a__law_ring a__law_bag_here = some r ∧ Cond K X H [.imm (enc (a__law_ring : (List (T3 Int Int Int)))), .mu p__law_bag_here (ml (a__law_bag_here : (List Int)))] vs ∧ ∀ v H', Fin K X H [p__law_bag_here] [(p__law_bag_here, (ml (r.2 : (List Int))))] (.imm (enc (r.1 : (List (T3 Int Int Int))))) v H' → Q v H'
theorem mk__law_second {K : PySem.W.Frag} {X : Addr → Prop} {H : Hp} {vs : List V} {Q : VK} {E : XK} {p__law_bag_here : Addr} {a__law_ring : (List (T3 Int Int Int))} {a__law_bag_here : (List Int)} {r : ((List (T3 Int Int Int)) × (List Int))} (hm : m__law_second a__law_ring a__law_bag_here = some r) (c : Cond K X H [.imm (enc (a__law_ring : (List (T3 Int Int Int)))), .mu p__law_bag_here (ml (a__law_bag_here : (List Int)))] vs) (k : ∀ v H', Fin K X H [p__law_bag_here] [(p__law_bag_here, (ml (r.2 : (List Int))))] (.imm (enc (r.1 : (List (T3 Int Int Int))))) v H' → Q v H') : sp__law_second K vs H Q E := ⟨X, p__law_bag_here, a__law_ring, a__law_bag_here, r, hm, c, k⟩
abbrev n__law_second : List Str := ["_law_ring", "_law_bag_here", "_law_way", "_law_step_here", "_law_p", "_law_q", "_law_r"]
theorem sc__law_second : FnScope n__law_second ["_law_ring", "_law_bag_here"] (defScope s__law_second) := ⟨rfl, rfl, rfl, by decide +kernel, rfl, by decide +kernel, by decide +kernel⟩
theorem ok__law_second (T : Txt K mg) : FnOk P w K mg base CX0 5 T.A__law_second T.D__law_second ["_law_ring", "_law_bag_here"] (sp__law_second K) := by
  refine Fun.ok T.F__law_second sc__law_second (fun vs H Q E h => ?_) (fun cdv A outer s H vs Q E hr h => ?_)
  · obtain ⟨X, p__law_bag_here, a__law_ring, a__law_bag_here, r, hm, c, kont⟩ := h
    exact c.len
  · obtain ⟨X, p__law_bag_here, a__law_ring, a__law_bag_here, r, hm, c, kont⟩ := h
    refine ⟨_, (pss_cons (ps_set (i := 2) sc__law_second.nd rfl (Or.inl rfl) (pe_call (ok__law_digit T) (hr.mono (by decide)) (by rfl) T.g__law_digit T.F__law_digit.kp T.b__law_digit .nil pass0 (pa_cons (pv 1) (pa_cons pe_int pa_nil))))
      (pss_cons (ps_if (pt_cmpR op_eq (pv 2) pe_int (nomark _)) (pss_one (ps_ret (pe_callTy (r := rListX K) call_listX (by rfl) T.z_list (by decide +kernel) (pa_cons (pv 0) pa_nil)))) pss_nil)
      (pss_cons (ps_if (pt_cmpR op_eq (pv 2) pe_int (nomark _)) (pss_cons (ps_set (i := 3) sc__law_second.nd rfl (Or.inr rfl) (pe_call (ok__law_step T) (hr.mono (by decide)) (by rfl) T.g__law_step T.F__law_step.kp T.b__law_step .nil pass0 (pa_cons (pv 1) (pa_cons pe_int pa_nil))))
      (pss_one (ps_ret (pe_lc (own := [("_law_p", 4)]) (g := gName 4) (tt := tYes) rfl sc__law_second.nd (pi_list (pv 0)) (blkOk_by (N := n__law_second) (sc := defScope s__law_second) (by decide +kernel)) (fun _ _ _ _ _ => (pg_name (i := 4) sc__law_second.nd rfl (Or.inl rfl))) (fun _ _ _ _ _ => pts_nil) (fun _ _ _ _ _ => (pe_call (ok__law_slid T) (hr.mono (by decide)) (by rfl) T.g__law_slid T.F__law_slid.kp T.b__law_slid .nil pass0 (pa_cons (pv 4) (pa_cons (pv 3) pa_nil)))))))) pss_nil)
      (pss_cons (ps_if (pt_cmpR op_eq (pv 2) pe_int (nomark _)) (pss_cons (ps_set (i := 4) sc__law_second.nd rfl (Or.inl rfl) (pe_ix (r := rIxL K) ix_list (pv 0) (pe_call (ok__law_digit T) (hr.mono (by decide)) (by rfl) T.g__law_digit T.F__law_digit.kp T.b__law_digit .nil pass0 (pa_cons (pv 1) (pa_cons (pe_callB (r := rLenX K) call_lenX (by rfl) T.z_len (by decide +kernel) (pa_cons (pv 0) pa_nil)) pa_nil))) (fun _ _ => rfl)))
      (pss_cons (ps_set (i := 5) sc__law_second.nd rfl (Or.inl rfl) (pe_ix (r := rIxL K) ix_list (pv 0) (pe_call (ok__law_digit T) (hr.mono (by decide)) (by rfl) T.g__law_digit T.F__law_digit.kp T.b__law_digit .nil pass0 (pa_cons (pv 1) (pa_cons (pe_callB (r := rLenX K) call_lenX (by rfl) T.z_len (by decide +kernel) (pa_cons (pv 0) pa_nil)) pa_nil))) (fun _ _ => rfl)))
      (pss_cons (ps_set (i := 3) sc__law_second.nd rfl (Or.inr rfl) (pe_call (ok__law_slid T) (hr.mono (by decide)) (by rfl) T.g__law_slid T.F__law_slid.kp T.b__law_slid .nil pass0 (pa_cons (pv 4) (pa_cons (pe_call (ok__law_turned T) (hr.mono (by decide)) (by rfl) T.g__law_turned T.F__law_turned.kp T.b__law_turned .nil pass0 (pa_cons (pv 5) pa_nil)) pa_nil))))
      (pss_one (ps_ret (pe_lc (own := [("_law_r", 6)]) (g := gName 6) (tt := tYes) rfl sc__law_second.nd (pi_list (pv 0)) (blkOk_by (N := n__law_second) (sc := defScope s__law_second) (by decide +kernel)) (fun _ _ _ _ _ => (pg_name (i := 6) sc__law_second.nd rfl (Or.inl rfl))) (fun _ _ _ _ _ => pts_nil) (fun _ _ _ _ _ => (pe_call (ok__law_slid T) (hr.mono (by decide)) (by rfl) T.g__law_slid T.F__law_slid.kp T.b__law_slid .nil pass0 (pa_cons (pv 6) (pa_cons (pv 3) pa_nil)))))))))) pss_nil)
      (pss_one (ps_ret (pe_call (ok__law_bulging T) hr (by rfl) T.g__law_bulging T.F__law_bulging.kp T.b__law_bulging .nil pass0 (pa_cons (pv 1) (pa_cons pe_int pa_nil))))))))), ?_⟩
    have L0 : Lo ⟨K, X, H, muts [.imm (enc (a__law_ring : (List (T3 Int Int Int)))), .mu p__law_bag_here (ml (a__law_bag_here : (List Int)))], n__law_second.length⟩ X H (L2.start n__law_second vs) [.imm (enc (a__law_ring : (List (T3 Int Int Int)))), .mu p__law_bag_here (ml (a__law_bag_here : (List Int))), .unk, .unk, .unk, .unk, .unk] := c.start n__law_second (show (2 : Nat) ≤ 7 by decide)
    unfold m__law_second at hm
    refine x_seq (x_asg (x_call (x_cons (x_vm L0 rfl (x_cons (x_c (x_nil (obE hm fun z1 hz1 hm1 => mk__law_digit hz1 (L0.cond1 (i := 1) (.m (L0.mrep (i := 1) rfl) (.im (.int _) .nil)) rfl rfl rfl) fun _ F1 => k1 L0 F1 (i := 1) (Γ' := [.imm (enc (a__law_ring : (List (T3 Int Int Int)))), .mu p__law_bag_here (ml (z1.2 : (List Int))), .unk, .unk, .unk, .unk, .unk]) rfl rfl rfl fun L1 le1 => x_set (d := (.int z1.1)) (Γ' := [.imm (enc (a__law_ring : (List (T3 Int Int Int)))), .mu p__law_bag_here (ml (z1.2 : (List Int))), .imm (.int z1.1), .unk, .unk, .unk, .unk]) L1 (.int _) (show (2 : Nat) < 7 by decide) rfl fun _ L2 => ?_))))))))
    refine x_seq (x_ifS (x_test (x_op (x_vI (x := z1.1) L2 rfl (x_c (x_eqi (x_kb (x_if hm1 (fun hm2 => ?_) fun hm2 => ?_))))))))
    · exact x_ret (x_cb (x_cons (x_vd (d := (enc (a__law_ring : (List (T3 Int Int Int))))) L2 rfl fun v2 r1 => x_nil (x_listL (xs := a__law_ring) L2 r1 fun v3 _ L3 le2 r2 => have r3 : Rep _ _ _ (enc (a__law_ring : (List (T3 Int Int Int)))) v3 := r2; x_fin (Q := Q) (ps := (fun (r : ((List (T3 Int Int Int)) × (List Int))) => [(p__law_bag_here, (ml (r.2 : (List Int))))])) (rs := (fun (r : ((List (T3 Int Int Int)) × (List Int))) => (.imm (enc (r.1 : (List (T3 Int Int Int))))))) (e := (a__law_ring, z1.2)) hm2 kont (L3.fin (hp1 (L3.mrep (i := 1) rfl)) r3)))))
    · refine x_next ?_
      refine x_seq (x_ifS (x_test (x_op (x_vI (x := z1.1) L2 rfl (x_c (x_eqi (x_kb (x_if hm2 (fun hm3 => ?_) fun hm3 => ?_))))))))
      · refine x_seq (x_asg (x_call (x_cons (x_vm L2 rfl (x_cons (x_c (x_nil (obE hm3 fun z2 hz2 hm4 => mk__law_step hz2 (L2.cond1 (i := 1) (.m (L2.mrep (i := 1) rfl) (.im (.int _) .nil)) rfl rfl rfl) fun v4 _ F2 => k1d L2 F2 (i := 1) (Γ' := [.imm (enc (a__law_ring : (List (T3 Int Int Int)))), .mu p__law_bag_here (ml (z2.2 : (List Int))), .imm (.int z1.1), .unk, .unk, .unk, .unk]) rfl rfl rfl fun L4 le3 r4 => x_set (d := (enc (z2.1 : (T3 Int Int Int)))) (Γ' := [.imm (enc (a__law_ring : (List (T3 Int Int Int)))), .mu p__law_bag_here (ml (z2.2 : (List Int))), .imm (.int z1.1), .imm (enc (z2.1 : (T3 Int Int Int))), .unk, .unk, .unk]) L4 r4 (show (3 : Nat) < 7 by decide) rfl fun _ L5 => ?_))))))))
        exact x_ret (x_lcl (x_vd (d := (enc (a__law_ring : (List (T3 Int Int Int))))) L5 rfl fun v5 r5 => obE hm4 fun _ hl1 hm5 => obE hm5 fun ys1 hy1 hm6 => x_lcL (G := (fun (s1 : Unit) => [.imm (enc (a__law_ring : (List (T3 Int Int Int)))), .mu p__law_bag_here (ml (z2.2 : (List Int))), .imm (.int z1.1), .imm (enc (z2.1 : (T3 Int Int Int))), .unk, .unk, .unk])) (s0 := ()) (xs := a__law_ring) L5 (fun _ _ => rfl) r5 (mapO_comp hy1) (lenOk_le hl1) (fun x1 s1 _ H1 _ u1 _ _ _ hF1 L6 r6 hn1 hy2 => obE hF1 fun y1 hm7 he1 => x_cName (d := (enc (x1 : (T3 Int Int Int)))) (Γ' := [.imm (enc (a__law_ring : (List (T3 Int Int Int)))), .mu p__law_bag_here (ml (z2.2 : (List Int))), .imm (.int z1.1), .imm (enc (z2.1 : (T3 Int Int Int))), .imm (enc (x1 : (T3 Int Int Int))), .unk, .unk]) L6 r6 (show (4 : Nat) < 7 by decide) rfl fun _ L7 => x_yes (x_call (x_cons (x_vd (d := (enc (x1 : (T3 Int Int Int)))) L7 rfl fun v6 r7 => x_cons (x_vd (d := (enc (z2.1 : (T3 Int Int Int)))) L7 rfl fun v7 r8 => x_nil (obE hm7 fun z3 hz4 hm8 => mk__law_slid hz4 (L7.cond0 (.im r7 (.im r8 .nil)) rfl) fun v8 _ F3 => k0d L7 F3 fun L8 le4 r9 => x_cy (G := (fun (s1 : Unit) => [.imm (enc (a__law_ring : (List (T3 Int Int Int)))), .mu p__law_bag_here (ml (z2.2 : (List Int))), .imm (.int z1.1), .imm (enc (z2.1 : (T3 Int Int Int))), .unk, .unk, .unk])) (s := s1) (s' := ()) (y := z3) (by cases hm8; cases he1; rfl) hy2 L6 L8 (.i rfl (.m (.i rfl (.i rfl (.i rfl (.i rfl (.i rfl .e))))))) r9)))))) fun p1 _ L9 le5 r10 => have L10 : Lo _ _ _ _ [.imm (enc (a__law_ring : (List (T3 Int Int Int)))), .mu p__law_bag_here (ml (z2.2 : (List Int))), .imm (.int z1.1), .imm (enc (z2.1 : (T3 Int Int Int))), .unk, .unk, .unk] := L9; have r11 : Rep _ _ _ (enc (ys1 : (List (T3 Int Int Int)))) (.ref p1) := r10; x_fin (Q := Q) (ps := (fun (r : ((List (T3 Int Int Int)) × (List Int))) => [(p__law_bag_here, (ml (r.2 : (List Int))))])) (rs := (fun (r : ((List (T3 Int Int Int)) × (List Int))) => (.imm (enc (r.1 : (List (T3 Int Int Int))))))) (e := (ys1, z2.2)) hm6 kont (L10.fin (hp1 (L10.mrep (i := 1) rfl)) r11)))
      · refine x_next ?_
        refine x_seq (x_ifS (x_test (x_op (x_vI (x := z1.1) L2 rfl (x_c (x_eqi (x_kb (x_if hm3 (fun hm9 => ?_) fun hm9 => ?_))))))))
        · refine x_seq (x_asg (x_op (x_vd (d := (enc (a__law_ring : (List (T3 Int Int Int))))) L2 rfl fun v9 r12 => x_call (x_cons (x_vm L2 rfl (x_cons (x_cb (x_cons (x_vd (d := (enc (a__law_ring : (List (T3 Int Int Int))))) L2 rfl fun v10 r13 => x_nil (x_lenL (xs := a__law_ring) r13 (x_nil (obE hm9 fun z4 hz5 hm10 => mk__law_digit hz5 (L2.cond1 (i := 1) (.m (L2.mrep (i := 1) rfl) (.im (.int _) .nil)) rfl rfl rfl) fun _ F4 => k1 L2 F4 (i := 1) (Γ' := [.imm (enc (a__law_ring : (List (T3 Int Int Int)))), .mu p__law_bag_here (ml (z4.2 : (List Int))), .imm (.int z1.1), .unk, .unk, .unk, .unk]) rfl rfl rfl fun L11 le6 => have r14 := le6 _ _ r12; x_ixL (xs := a__law_ring) hm10 r14 fun x2 v12 _ hm11 r15 => x_set (d := (enc (x2 : (T3 Int Int Int)))) (Γ' := [.imm (enc (a__law_ring : (List (T3 Int Int Int)))), .mu p__law_bag_here (ml (z4.2 : (List Int))), .imm (.int z1.1), .unk, .imm (enc (x2 : (T3 Int Int Int))), .unk, .unk]) L11 r15 (show (4 : Nat) < 7 by decide) rfl fun _ L12 => ?_))))))))))))
          refine x_seq (x_asg (x_op (x_vd (d := (enc (a__law_ring : (List (T3 Int Int Int))))) L12 rfl fun v13 r16 => x_call (x_cons (x_vm L12 rfl (x_cons (x_cb (x_cons (x_vd (d := (enc (a__law_ring : (List (T3 Int Int Int))))) L12 rfl fun v14 r17 => x_nil (x_lenL (xs := a__law_ring) r17 (x_nil (obE hm11 fun z5 hz6 hm12 => mk__law_digit hz6 (L12.cond1 (i := 1) (.m (L12.mrep (i := 1) rfl) (.im (.int _) .nil)) rfl rfl rfl) fun _ F5 => k1 L12 F5 (i := 1) (Γ' := [.imm (enc (a__law_ring : (List (T3 Int Int Int)))), .mu p__law_bag_here (ml (z5.2 : (List Int))), .imm (.int z1.1), .unk, .imm (enc (x2 : (T3 Int Int Int))), .unk, .unk]) rfl rfl rfl fun L13 le7 => have r18 := le7 _ _ r16; x_ixL (xs := a__law_ring) hm12 r18 fun x3 v16 _ hm13 r19 => x_set (d := (enc (x3 : (T3 Int Int Int)))) (Γ' := [.imm (enc (a__law_ring : (List (T3 Int Int Int)))), .mu p__law_bag_here (ml (z5.2 : (List Int))), .imm (.int z1.1), .unk, .imm (enc (x2 : (T3 Int Int Int))), .imm (enc (x3 : (T3 Int Int Int))), .unk]) L13 r19 (show (5 : Nat) < 7 by decide) rfl fun _ L14 => ?_))))))))))))
          refine x_seq (x_asg (x_call (x_cons (x_vd (d := (enc (x2 : (T3 Int Int Int)))) L14 rfl fun v17 r20 => x_cons (x_call (x_cons (x_vd (d := (enc (x3 : (T3 Int Int Int)))) L14 rfl fun v18 r21 => x_nil (obE hm13 fun z6 hz7 hm14 => mk__law_turned hz7 (L14.cond0 (.im r21 .nil) rfl) fun v19 _ F6 => k0d L14 F6 fun L15 le8 r22 => have r23 := le8 _ _ r20; x_nil (obE hm14 fun z7 hz8 hm15 => mk__law_slid hz8 (L15.cond0 (.im r23 (.im r22 .nil)) rfl) fun v20 _ F7 => k0d L15 F7 fun L16 le9 r24 => x_set (d := (enc (z7 : (T3 Int Int Int)))) (Γ' := [.imm (enc (a__law_ring : (List (T3 Int Int Int)))), .mu p__law_bag_here (ml (z5.2 : (List Int))), .imm (.int z1.1), .imm (enc (z7 : (T3 Int Int Int))), .imm (enc (x2 : (T3 Int Int Int))), .imm (enc (x3 : (T3 Int Int Int))), .unk]) L16 r24 (show (3 : Nat) < 7 by decide) rfl fun _ L17 => ?_)))))))))
          exact x_ret (x_lcl (x_vd (d := (enc (a__law_ring : (List (T3 Int Int Int))))) L17 rfl fun v21 r25 => obE hm15 fun _ hl2 hm16 => obE hm16 fun ys2 hy3 hm17 => x_lcL (G := (fun (s2 : Unit) => [.imm (enc (a__law_ring : (List (T3 Int Int Int)))), .mu p__law_bag_here (ml (z5.2 : (List Int))), .imm (.int z1.1), .imm (enc (z7 : (T3 Int Int Int))), .imm (enc (x2 : (T3 Int Int Int))), .imm (enc (x3 : (T3 Int Int Int))), .unk])) (s0 := ()) (xs := a__law_ring) L17 (fun _ _ => rfl) r25 (mapO_comp hy3) (lenOk_le hl2) (fun x4 s2 _ H2 _ u2 _ _ _ hF2 L18 r26 hn2 hy4 => obE hF2 fun y2 hm18 he2 => x_cName (d := (enc (x4 : (T3 Int Int Int)))) (Γ' := [.imm (enc (a__law_ring : (List (T3 Int Int Int)))), .mu p__law_bag_here (ml (z5.2 : (List Int))), .imm (.int z1.1), .imm (enc (z7 : (T3 Int Int Int))), .imm (enc (x2 : (T3 Int Int Int))), .imm (enc (x3 : (T3 Int Int Int))), .imm (enc (x4 : (T3 Int Int Int)))]) L18 r26 (show (6 : Nat) < 7 by decide) rfl fun _ L19 => x_yes (x_call (x_cons (x_vd (d := (enc (x4 : (T3 Int Int Int)))) L19 rfl fun v22 r27 => x_cons (x_vd (d := (enc (z7 : (T3 Int Int Int)))) L19 rfl fun v23 r28 => x_nil (obE hm18 fun z8 hz10 hm19 => mk__law_slid hz10 (L19.cond0 (.im r27 (.im r28 .nil)) rfl) fun v24 _ F8 => k0d L19 F8 fun L20 le10 r29 => x_cy (G := (fun (s2 : Unit) => [.imm (enc (a__law_ring : (List (T3 Int Int Int)))), .mu p__law_bag_here (ml (z5.2 : (List Int))), .imm (.int z1.1), .imm (enc (z7 : (T3 Int Int Int))), .imm (enc (x2 : (T3 Int Int Int))), .imm (enc (x3 : (T3 Int Int Int))), .unk])) (s := s2) (s' := ()) (y := z8) (by cases hm19; cases he2; rfl) hy4 L18 L20 (.i rfl (.m (.i rfl (.i rfl (.i rfl (.i rfl (.i rfl .e))))))) r29)))))) fun p2 _ L21 le11 r30 => have L22 : Lo _ _ _ _ [.imm (enc (a__law_ring : (List (T3 Int Int Int)))), .mu p__law_bag_here (ml (z5.2 : (List Int))), .imm (.int z1.1), .imm (enc (z7 : (T3 Int Int Int))), .imm (enc (x2 : (T3 Int Int Int))), .imm (enc (x3 : (T3 Int Int Int))), .unk] := L21; have r31 : Rep _ _ _ (enc (ys2 : (List (T3 Int Int Int)))) (.ref p2) := r30; x_fin (Q := Q) (ps := (fun (r : ((List (T3 Int Int Int)) × (List Int))) => [(p__law_bag_here, (ml (r.2 : (List Int))))])) (rs := (fun (r : ((List (T3 Int Int Int)) × (List Int))) => (.imm (enc (r.1 : (List (T3 Int Int Int))))))) (e := (ys2, z5.2)) hm17 kont (L22.fin (hp1 (L22.mrep (i := 1) rfl)) r31)))
        · refine x_next ?_
          exact x_ret (x_call (x_cons (x_vm L2 rfl (x_cons (x_c (x_nil (obE hm9 fun z9 hz11 hm20 => mk__law_bulging hz11 (L2.cond1 (i := 1) (.m (L2.mrep (i := 1) rfl) (.im (.int _) .nil)) rfl rfl rfl) fun v25 _ F9 => k1d L2 F9 (i := 1) (Γ' := [.imm (enc (a__law_ring : (List (T3 Int Int Int)))), .mu p__law_bag_here (ml (z9.2 : (List Int))), .imm (.int z1.1), .unk, .unk, .unk, .unk]) rfl rfl rfl fun L23 le12 r32 => x_fin (Q := Q) (ps := (fun (r : ((List (T3 Int Int Int)) × (List Int))) => [(p__law_bag_here, (ml (r.2 : (List Int))))])) (rs := (fun (r : ((List (T3 Int Int Int)) × (List Int))) => (.imm (enc (r.1 : (List (T3 Int Int Int))))))) (e := (z9.1, z9.2)) hm20 kont (L23.fin (hp1 (L23.mrep (i := 1) rfl)) r32))))))))
abbrev sp_crossed (K : PySem.W.Frag) : Sp := fun vs H Q _ => ∃ (X : Addr → Prop)  (a_p : (T3 Int Int Int)) (a_q : (T3 Int Int Int)) (r : (T3 Int Int Int)), m_crossed a_p a_q = some r ∧ Cond K X H [.imm (enc (a_p : (T3 Int Int Int))), .imm (enc (a_q : (T3 Int Int Int)))] vs ∧ ∀ v H', Fin K X H [] [] (.imm (enc (r : (T3 Int Int Int)))) v H' → Q v H'
theorem mk_crossed {K : PySem.W.Frag} {X : Addr → Prop} {H : Hp} {vs : List V} {Q : VK} {E : XK}  {a_p : (T3 Int Int Int)} {a_q : (T3 Int Int Int)} {r : (T3 Int Int Int)} (hm : m_crossed a_p a_q = some r) (c : Cond K X H [.imm (enc (a_p : (T3 Int Int Int))), .imm (enc (a_q : (T3 Int Int Int)))] vs) (k : ∀ v H', Fin K X H [] [] (.imm (enc (r : (T3 Int Int Int)))) v H' → Q v H') : sp_crossed K vs H Q E := ⟨X, a_p, a_q, r, hm, c, k⟩
abbrev n_crossed : List Str := ["p", "q"]
theorem sc_crossed : FnScope n_crossed ["p", "q"] (defScope s_crossed) := ⟨rfl, rfl, rfl, by decide +kernel, rfl, by decide +kernel, by decide +kernel⟩
theorem ok_crossed (T : Txt K mg) : FnOk P w K mg base CX0 1 T.A_crossed T.D_crossed ["p", "q"] (sp_crossed K) := by
  refine Fun.ok T.F_crossed sc_crossed (fun vs H Q E h => ?_) (fun cdv A outer s H vs Q E hr h => ?_)
  · obtain ⟨X, a_p, a_q, r, hm, c, kont⟩ := h
    exact c.len
  · obtain ⟨X, a_p, a_q, r, hm, c, kont⟩ := h
    refine ⟨_, (pss_one (ps_ret (pe_tup (pa_cons (pe_op op_sub (pe_op op_mulW (pe_ix (r := rIxT K) ix_tup (pv 0) pe_int (fun _ _ => rfl)) (pe_ix (r := rIxT K) ix_tup (pv 1) pe_int (fun _ _ => rfl))) (pe_op op_mulW (pe_ix (r := rIxT K) ix_tup (pv 0) pe_int (fun _ _ => rfl)) (pe_ix (r := rIxT K) ix_tup (pv 1) pe_int (fun _ _ => rfl)))) (pa_cons (pe_op op_sub (pe_op op_mulW (pe_ix (r := rIxT K) ix_tup (pv 0) pe_int (fun _ _ => rfl)) (pe_ix (r := rIxT K) ix_tup (pv 1) pe_int (fun _ _ => rfl))) (pe_op op_mulW (pe_ix (r := rIxT K) ix_tup (pv 0) pe_int (fun _ _ => rfl)) (pe_ix (r := rIxT K) ix_tup (pv 1) pe_int (fun _ _ => rfl)))) (pa_cons (pe_op op_sub (pe_op op_mulW (pe_ix (r := rIxT K) ix_tup (pv 0) pe_int (fun _ _ => rfl)) (pe_ix (r := rIxT K) ix_tup (pv 1) pe_int (fun _ _ => rfl))) (pe_op op_mulW (pe_ix (r := rIxT K) ix_tup (pv 0) pe_int (fun _ _ => rfl)) (pe_ix (r := rIxT K) ix_tup (pv 1) pe_int (fun _ _ => rfl)))) pa_nil)))))), ?_⟩
    have L0 : Lo ⟨K, X, H, muts [.imm (enc (a_p : (T3 Int Int Int))), .imm (enc (a_q : (T3 Int Int Int)))], n_crossed.length⟩ X H (L2.start n_crossed vs) [.imm (enc (a_p : (T3 Int Int Int))), .imm (enc (a_q : (T3 Int Int Int)))] := c.start n_crossed (show (2 : Nat) ≤ 2 by decide)
    unfold m_crossed at hm
    exact x_ret (x_tup (x_cons (x_op (x_op (x_op (x_vd (d := (enc (a_p : (T3 Int Int Int)))) L0 rfl fun v1 r1 => x_c (x_ixTI (x := a_p.b) r1 rfl (x_op (x_vd (d := (enc (a_q : (T3 Int Int Int)))) L0 rfl fun v2 r2 => x_c (x_ixTI (x := a_q.c) r2 rfl (x_mul hm fun z1 _ hm1 => x_op (x_op (x_vd (d := (enc (a_p : (T3 Int Int Int)))) L0 rfl fun v3 r3 => x_c (x_ixTI (x := a_p.c) r3 rfl (x_op (x_vd (d := (enc (a_q : (T3 Int Int Int)))) L0 rfl fun v4 r4 => x_c (x_ixTI (x := a_q.b) r4 rfl (x_mul hm1 fun z2 _ hm2 => x_r0 (x_cons (x_op (x_op (x_op (x_vd (d := (enc (a_p : (T3 Int Int Int)))) L0 rfl fun v5 r5 => x_c (x_ixTI (x := a_p.c) r5 rfl (x_op (x_vd (d := (enc (a_q : (T3 Int Int Int)))) L0 rfl fun v6 r6 => x_c (x_ixTI (x := a_q.a) r6 rfl (x_mul hm2 fun z3 _ hm3 => x_op (x_op (x_vd (d := (enc (a_p : (T3 Int Int Int)))) L0 rfl fun v7 r7 => x_c (x_ixTI (x := a_p.a) r7 rfl (x_op (x_vd (d := (enc (a_q : (T3 Int Int Int)))) L0 rfl fun v8 r8 => x_c (x_ixTI (x := a_q.c) r8 rfl (x_mul hm3 fun z4 _ hm4 => x_r0 (x_cons (x_op (x_op (x_op (x_vd (d := (enc (a_p : (T3 Int Int Int)))) L0 rfl fun v9 r9 => x_c (x_ixTI (x := a_p.a) r9 rfl (x_op (x_vd (d := (enc (a_q : (T3 Int Int Int)))) L0 rfl fun v10 r10 => x_c (x_ixTI (x := a_q.b) r10 rfl (x_mul hm4 fun z5 _ hm5 => x_op (x_op (x_vd (d := (enc (a_p : (T3 Int Int Int)))) L0 rfl fun v11 r11 => x_c (x_ixTI (x := a_p.b) r11 rfl (x_op (x_vd (d := (enc (a_q : (T3 Int Int Int)))) L0 rfl fun v12 r12 => x_c (x_ixTI (x := a_q.a) r12 rfl (x_mul hm5 fun z6 _ hm6 => x_r0 (x_nil (x_mkT L0 (.cons (.int _) (.cons (.int _) (.cons (.int _) .nil))) (show (3 : Nat) ≤ 16777216 by decide) fun v13 _ L1 le1 r13 => have r14 : Rep _ _ _ (enc ((T3.mk ((z1 - z2)) ((z3 - z4)) ((z5 - z6))) : (T3 Int Int Int))) v13 := r13; x_fin (Q := Q) (ps := (fun (r : (T3 Int Int Int)) => [])) (rs := (fun (r : (T3 Int Int Int)) => (.imm (enc (r : (T3 Int Int Int)))))) (e := (T3.mk ((z1 - z2)) ((z3 - z4)) ((z5 - z6)))) hm6 kont (L1.fin hp0 r14)))))))))))))))))))))))))))))))))))))))))))))))))))))))
abbrev sp_side (K : PySem.W.Frag) : Sp := fun vs H Q _ => ∃ (X : Addr → Prop)  (a_p : (T3 Int Int Int)) (a_q : (T3 Int Int Int)) (a_r : (T3 Int Int Int)) (r : Int), m_side a_p a_q a_r = some r ∧ Cond K X H [.imm (enc (a_p : (T3 Int Int Int))), .imm (enc (a_q : (T3 Int Int Int))), .imm (enc (a_r : (T3 Int Int Int)))] vs ∧ ∀ H', Fin K X H [] [] (.imm (.int r)) (.int r) H' → Q (.int r) H'
theorem mk_side {K : PySem.W.Frag} {X : Addr → Prop} {H : Hp} {vs : List V} {Q : VK} {E : XK}  {a_p : (T3 Int Int Int)} {a_q : (T3 Int Int Int)} {a_r : (T3 Int Int Int)} {r : Int} (hm : m_side a_p a_q a_r = some r) (c : Cond K X H [.imm (enc (a_p : (T3 Int Int Int))), .imm (enc (a_q : (T3 Int Int Int))), .imm (enc (a_r : (T3 Int Int Int)))] vs) (k : ∀ H', Fin K X H [] [] (.imm (.int r)) (.int r) H' → Q (.int r) H') : sp_side K vs H Q E := ⟨X, a_p, a_q, a_r, r, hm, c, k⟩
abbrev n_side : List Str := ["p", "q", "r", "line", "number"]
theorem sc_side : FnScope n_side ["p", "q", "r"] (defScope s_side) := ⟨rfl, rfl, rfl, by decide +kernel, rfl, by decide +kernel, by decide +kernel⟩
theorem ok_side (T : Txt K mg) : FnOk P w K mg base CX0 2 T.A_side T.D_side ["p", "q", "r"] (sp_side K) := by
  refine Fun.ok T.F_side sc_side (fun vs H Q E h => ?_) (fun cdv A outer s H vs Q E hr h => ?_)
  · obtain ⟨X, a_p, a_q, a_r, r, hm, c, kont⟩ := h
    exact c.len
  · obtain ⟨X, a_p, a_q, a_r, r, hm, c, kont⟩ := h
    refine ⟨_, (pss_cons (ps_set (i := 3) sc_side.nd rfl (Or.inl rfl) (pe_call (ok_crossed T) hr (by rfl) T.g_crossed T.F_crossed.kp T.b_crossed .nil pass0 (pa_cons (pv 0) (pa_cons (pv 1) pa_nil))))
      (pss_cons (ps_set (i := 4) sc_side.nd rfl (Or.inl rfl) (pe_op op_add (pe_op op_add (pe_op op_mulW (pe_ix (r := rIxT K) ix_tup (pv 3) pe_int (fun _ _ => rfl)) (pe_ix (r := rIxT K) ix_tup (pv 2) pe_int (fun _ _ => rfl))) (pe_op op_mulW (pe_ix (r := rIxT K) ix_tup (pv 3) pe_int (fun _ _ => rfl)) (pe_ix (r := rIxT K) ix_tup (pv 2) pe_int (fun _ _ => rfl)))) (pe_op op_mulW (pe_ix (r := rIxT K) ix_tup (pv 3) pe_int (fun _ _ => rfl)) (pe_ix (r := rIxT K) ix_tup (pv 2) pe_int (fun _ _ => rfl)))))
      (pss_cons (ps_if (pt_cmpR op_eq (pv 4) pe_int (nomark _)) (pss_one (ps_ret pe_int)) pss_nil)
      (pss_cons (ps_if (pt_cmpR op_gt (pv 4) pe_int (nomark _)) (pss_one (ps_ret pe_int)) pss_nil)
      (pss_one (ps_ret (pe_un un_neg pe_int))))))), ?_⟩
    have L0 : Lo ⟨K, X, H, muts [.imm (enc (a_p : (T3 Int Int Int))), .imm (enc (a_q : (T3 Int Int Int))), .imm (enc (a_r : (T3 Int Int Int)))], n_side.length⟩ X H (L2.start n_side vs) [.imm (enc (a_p : (T3 Int Int Int))), .imm (enc (a_q : (T3 Int Int Int))), .imm (enc (a_r : (T3 Int Int Int))), .unk, .unk] := c.start n_side (show (3 : Nat) ≤ 5 by decide)
    unfold m_side at hm
    refine x_seq (x_asg (x_call (x_cons (x_vd (d := (enc (a_p : (T3 Int Int Int)))) L0 rfl fun v1 r1 => x_cons (x_vd (d := (enc (a_q : (T3 Int Int Int)))) L0 rfl fun v2 r2 => x_nil (obE hm fun z1 hz1 hm1 => mk_crossed hz1 (L0.cond0 (.im r1 (.im r2 .nil)) rfl) fun v3 _ F1 => k0d L0 F1 fun L1 le1 r3 => x_set (d := (enc (z1 : (T3 Int Int Int)))) (Γ' := [.imm (enc (a_p : (T3 Int Int Int))), .imm (enc (a_q : (T3 Int Int Int))), .imm (enc (a_r : (T3 Int Int Int))), .imm (enc (z1 : (T3 Int Int Int))), .unk]) L1 r3 (show (3 : Nat) < 5 by decide) rfl fun _ L2 => ?_))))))
    refine x_seq (x_asg (x_op (x_op (x_op (x_op (x_vd (d := (enc (z1 : (T3 Int Int Int)))) L2 rfl fun v4 r4 => x_c (x_ixTI (x := z1.a) r4 rfl (x_op (x_vd (d := (enc (a_r : (T3 Int Int Int)))) L2 rfl fun v5 r5 => x_c (x_ixTI (x := a_r.a) r5 rfl (x_mul hm1 fun z2 _ hm2 => x_op (x_op (x_vd (d := (enc (z1 : (T3 Int Int Int)))) L2 rfl fun v6 r6 => x_c (x_ixTI (x := z1.b) r6 rfl (x_op (x_vd (d := (enc (a_r : (T3 Int Int Int)))) L2 rfl fun v7 r7 => x_c (x_ixTI (x := a_r.b) r7 rfl (x_mul hm2 fun z3 _ hm3 => x_r0 (x_op (x_op (x_vd (d := (enc (z1 : (T3 Int Int Int)))) L2 rfl fun v8 r8 => x_c (x_ixTI (x := z1.c) r8 rfl (x_op (x_vd (d := (enc (a_r : (T3 Int Int Int)))) L2 rfl fun v9 r9 => x_c (x_ixTI (x := a_r.c) r9 rfl (x_mul hm3 fun z4 _ hm4 => x_r0 (x_bset (x0 := ((z2 + z3) + z4)) (d := fun number_1 => (.int number_1)) (Γf := fun number_1 => [.imm (enc (a_p : (T3 Int Int Int))), .imm (enc (a_q : (T3 Int Int Int))), .imm (enc (a_r : (T3 Int Int Int))), .imm (enc (z1 : (T3 Int Int Int))), .imm (.int number_1)]) hm4 L2 (.int _) (show (4 : Nat) < 5 by decide) (fun _ => rfl) fun number_1 _ hm5 L3 => ?_)))))))))))))))))))))))))))
    refine x_seq (x_ifS (x_test (x_op (x_vI (x := number_1) L3 rfl (x_c (x_eqi (x_kb (x_if hm5 (fun hm6 => ?_) fun hm6 => ?_))))))))
    · exact x_ret (x_c (x_finI (Q := Q) (ps := (fun (r : Int) => [])) (sc := fun (r : Int) => r) 0 hm6 kont (L3.fin hp0 (.int _))))
    · refine x_next ?_
      refine x_seq (x_ifS (x_test (x_op (x_vI (x := number_1) L3 rfl (x_c (x_r0 (x_kb (x_if hm6 (fun hm7 => ?_) fun hm7 => ?_))))))))
      · exact x_ret (x_c (x_finI (Q := Q) (ps := (fun (r : Int) => [])) (sc := fun (r : Int) => r) 1 hm7 kont (L3.fin hp0 (.int _))))
      · refine x_next ?_
        exact x_ret (x_un (x_c (x_u (x_finI (Q := Q) (ps := (fun (r : Int) => [])) (sc := fun (r : Int) => r) ((-1)) hm7 kont (L3.fin hp0 (.int _))))))
abbrev sp_greatest_divisor (K : PySem.W.Frag) : Sp := fun vs H Q _ => ∃ (X : Addr → Prop)  (a_a : Int) (a_b : Int) (r : Int), m_greatest_divisor a_a a_b = some r ∧ Cond K X H [.imm (.int a_a), .imm (.int a_b)] vs ∧ ∀ H', Fin K X H [] [] (.imm (.int r)) (.int r) H' → Q (.int r) H'
theorem mk_greatest_divisor {K : PySem.W.Frag} {X : Addr → Prop} {H : Hp} {vs : List V} {Q : VK} {E : XK}  {a_a : Int} {a_b : Int} {r : Int} (hm : m_greatest_divisor a_a a_b = some r) (c : Cond K X H [.imm (.int a_a), .imm (.int a_b)] vs) (k : ∀ H', Fin K X H [] [] (.imm (.int r)) (.int r) H' → Q (.int r) H') : sp_greatest_divisor K vs H Q E := ⟨X, a_a, a_b, r, hm, c, k⟩
abbrev n_greatest_divisor : List Str := ["a", "b", "one", "other"]
theorem sc_greatest_divisor : FnScope n_greatest_divisor ["a", "b"] (defScope s_greatest_divisor) := ⟨rfl, rfl, rfl, by decide +kernel, rfl, by decide +kernel, by decide +kernel⟩
theorem ok_greatest_divisor (T : Txt K mg) : FnOk P w K mg base CX0 1 T.A_greatest_divisor T.D_greatest_divisor ["a", "b"] (sp_greatest_divisor K) := by
  refine Fun.ok T.F_greatest_divisor sc_greatest_divisor (fun vs H Q E h => ?_) (fun cdv A outer s H vs Q E hr h => ?_)
  · obtain ⟨X, a_a, a_b, r, hm, c, kont⟩ := h
    exact c.len
  · obtain ⟨X, a_a, a_b, r, hm, c, kont⟩ := h
    refine ⟨_, (pss_cons (ps_set (i := 2) sc_greatest_divisor.nd rfl (Or.inl rfl) (pe_callB call_absX (by rfl) T.z_abs (by decide +kernel) (pa_cons (pv 0) pa_nil)))
      (pss_cons (ps_set (i := 3) sc_greatest_divisor.nd rfl (Or.inl rfl) (pe_callB call_absX (by rfl) T.z_abs (by decide +kernel) (pa_cons (pv 1) pa_nil)))
      (pss_cons (ps_while PassesOwn.never (pt_cmpR op_gt (pv 3) pe_int (nomark _)) (pss_one (ps_par (i := 2) (j := 3) (by rfl) sc_greatest_divisor.nd rfl rfl (by decide) rfl rfl (pa_cons (pv 3) (pa_cons (pe_op op_modN (pv 2) (pv 3)) pa_nil)) (by rfl))))
      (pss_one (ps_ret (pv 2)))))), ?_⟩
    have L0 : Lo ⟨K, X, H, muts [.imm (.int a_a), .imm (.int a_b)], n_greatest_divisor.length⟩ X H (L2.start n_greatest_divisor vs) [.imm (.int a_a), .imm (.int a_b), .unk, .unk] := c.start n_greatest_divisor (show (2 : Nat) ≤ 4 by decide)
    unfold m_greatest_divisor at hm
    refine x_seq (x_asg (x_cb (x_cons (x_vI (x := a_a) L0 rfl (x_nil (x_abs (x_bset (x0 := (iabs a_a)) (d := fun one_1 => (.int one_1)) (Γf := fun one_1 => [.imm (.int a_a), .imm (.int a_b), .imm (.int one_1), .unk]) hm L0 (.int _) (show (2 : Nat) < 4 by decide) (fun _ => rfl) fun one_1 _ hm1 L1 => ?_)))))))
    refine x_seq (x_asg (x_cb (x_cons (x_vI (x := a_b) L1 rfl (x_nil (x_abs (x_bset (x0 := (iabs a_b)) (d := fun other_1 => (.int other_1)) (Γf := fun other_1 => [.imm (.int a_a), .imm (.int a_b), .imm (.int one_1), .imm (.int other_1)]) hm1 L1 (.int _) (show (3 : Nat) < 4 by decide) (fun _ => rfl) fun other_1 _ hm2 L2 => ?_)))))))
    refine x_seq (x_wh (n := other_1.natAbs + 2) (G := (fun (s1 : (Int × Int)) => [.imm (.int a_a), .imm (.int a_b), .imm (.int s1.1), .imm (.int s1.2)])) (s0 := (one_1, other_1)) (ρ := Empty) (ps := fun _ => []) (rs := fun _ => .imm .none) (L2.weak (Γ' := [.imm (.int a_a), .imm (.int a_b), .imm (.int one_1), .imm (.int other_1)]) (.k (.k (.k (.k .e))))) (fun _ _ => rfl) hm2 (fun s1 H1 _ _ _ _ _ _ hm3 L3 _ hN1 hC1 hB1 hR1 _ hQ1 => ?_) (fun s2 _ _ hm4 L4 => ?_) (fun q => q.elim))
    · refine x_test (x_op (x_vI (x := s1.2) L3 rfl (x_c (x_r0 (x_kb (hQ1 _ _ (x_whIf hm3 (fun hm6 => ?_) fun hm6 => ?_)))))))
      · refine x_par (x_cons (x_vI (x := s1.2) L3 rfl (x_cons (x_op (x_vI (x := s1.1) L3 rfl (x_vI (x := s1.2) L3 rfl (x_mod hm6 fun z1 _ hm7 => x_nil (x_par2 (x := (.int s1.2)) (y := (.int z1)) (Γ' := [.imm (.int a_a), .imm (.int a_b), .imm (.int s1.2), .imm (.int z1)]) L3 (.int _) (.int _) (show (2 : Nat) < 4 by decide) (show (3 : Nat) < 4 by decide) rfl fun _ L5 => ?_))))))))
        exact x_leafN (G := (fun (s1 : (Int × Int)) => [.imm (.int a_a), .imm (.int a_b), .imm (.int s1.1), .imm (.int s1.2)])) (e := (s1.2, z1)) hm7 hN1 (L5.weak (Γ' := [.imm (.int a_a), .imm (.int a_b), .imm (.int s1.2), .imm (.int z1)]) (.k (.k (.k (.k .e)))))
      · exact x_leafB (G := (fun (s1 : (Int × Int)) => [.imm (.int a_a), .imm (.int a_b), .imm (.int s1.1), .imm (.int s1.2)])) (e := (s1.1, s1.2)) hm6 hB1 (L3.weak (Γ' := [.imm (.int a_a), .imm (.int a_b), .imm (.int s1.1), .imm (.int s1.2)]) (.k (.k (.k (.k .e)))))
    exact x_ret (x_vI (x := s2.1) L4 rfl (x_finI (Q := Q) (ps := (fun (r : Int) => [])) (sc := fun (r : Int) => r) s2.1 hm4 kont (L4.fin hp0 (.int _))))
abbrev sp_point (K : PySem.W.Frag) : Sp := fun vs H Q _ => ∃ (X : Addr → Prop)  (a_a : Int) (a_b : Int) (a_n : Int) (r : (T3 Int Int Int)), m_point a_a a_b a_n = some r ∧ Cond K X H [.imm (.int a_a), .imm (.int a_b), .imm (.int a_n)] vs ∧ ∀ v H', Fin K X H [] [] (.imm (enc (r : (T3 Int Int Int)))) v H' → Q v H'
theorem mk_point {K : PySem.W.Frag} {X : Addr → Prop} {H : Hp} {vs : List V} {Q : VK} {E : XK}  {a_a : Int} {a_b : Int} {a_n : Int} {r : (T3 Int Int Int)} (hm : m_point a_a a_b a_n = some r) (c : Cond K X H [.imm (.int a_a), .imm (.int a_b), .imm (.int a_n)] vs) (k : ∀ v H', Fin K X H [] [] (.imm (enc (r : (T3 Int Int Int)))) v H' → Q v H') : sp_point K vs H Q E := ⟨X, a_a, a_b, a_n, r, hm, c, k⟩
abbrev n_point : List Str := ["a", "b", "n", "divisor"]
theorem sc_point : FnScope n_point ["a", "b", "n"] (defScope s_point) := ⟨rfl, rfl, rfl, by decide +kernel, rfl, by decide +kernel, by decide +kernel⟩
theorem ok_point (T : Txt K mg) : FnOk P w K mg base CX0 2 T.A_point T.D_point ["a", "b", "n"] (sp_point K) := by
  refine Fun.ok T.F_point sc_point (fun vs H Q E h => ?_) (fun cdv A outer s H vs Q E hr h => ?_)
  · obtain ⟨X, a_a, a_b, a_n, r, hm, c, kont⟩ := h
    exact c.len
  · obtain ⟨X, a_a, a_b, a_n, r, hm, c, kont⟩ := h
    refine ⟨_, (pss_cons (ps_if (pt_cmpR op_eq (pv 2) pe_int (nomark _)) (pss_one ps_never) pss_nil)
      (pss_cons (ps_set (i := 3) sc_point.nd rfl (Or.inl rfl) (pe_call (ok_greatest_divisor T) hr (by rfl) T.g_greatest_divisor T.F_greatest_divisor.kp T.b_greatest_divisor .nil pass0 (pa_cons (pe_call (ok_greatest_divisor T) hr (by rfl) T.g_greatest_divisor T.F_greatest_divisor.kp T.b_greatest_divisor .nil pass0 (pa_cons (pv 0) (pa_cons (pv 2) pa_nil))) (pa_cons (pv 1) pa_nil))))
      (pss_cons (ps_if (pt_cmpR op_lt (pv 2) pe_int (nomark _)) (pss_one (ps_set (i := 3) sc_point.nd rfl (Or.inl rfl) (pe_un un_neg (pv 3)))) pss_nil)
      (pss_one (ps_ret (pe_tup (pa_cons (pe_op op_divG (pv 0) (pv 3)) (pa_cons (pe_op op_divG (pv 1) (pv 3)) (pa_cons (pe_op op_divG (pv 2) (pv 3)) pa_nil))))))))), ?_⟩
    have L0 : Lo ⟨K, X, H, muts [.imm (.int a_a), .imm (.int a_b), .imm (.int a_n)], n_point.length⟩ X H (L2.start n_point vs) [.imm (.int a_a), .imm (.int a_b), .imm (.int a_n), .unk] := c.start n_point (show (3 : Nat) ≤ 4 by decide)
    unfold m_point at hm
    refine x_seq (x_ifS (x_test (x_op (x_vI (x := a_n) L0 rfl (x_c (x_eqi (x_kb (x_if hm (fun hm1 => ?_) fun hm1 => ?_))))))))
    · exact (nomatch hm1)
    · refine x_next ?_
      refine x_seq (x_asg (x_call (x_cons (x_call (x_cons (x_vI (x := a_a) L0 rfl (x_cons (x_vI (x := a_n) L0 rfl (x_nil (obE hm1 fun z1 hz1 hm2 => mk_greatest_divisor hz1 (L0.cond0 (.im (.int _) (.im (.int _) .nil)) rfl) fun _ F1 => k0 L0 F1 fun L1 le1 => x_cons (x_vI (x := a_b) L1 rfl (x_nil (obE hm2 fun z2 hz2 hm3 => mk_greatest_divisor hz2 (L1.cond0 (.im (.int _) (.im (.int _) .nil)) rfl) fun _ F2 => k0 L1 F2 fun L2 le2 => x_set (d := (.int z2)) (Γ' := [.imm (.int a_a), .imm (.int a_b), .imm (.int a_n), .imm (.int z2)]) L2 (.int _) (show (3 : Nat) < 4 by decide) rfl fun _ L3 => ?_)))))))))))))
      refine x_seq (x_ifS (x_test (x_op (x_vI (x := a_n) L3 rfl (x_c (x_r0 (x_kb (x_join (G := (fun (s1 : Int) => [.imm (.int a_a), .imm (.int a_b), .imm (.int a_n), .imm (.int s1)])) L3 hm3 (fun _ hm4 _ hN1 => ?_) (fun _ hm4 _ hN1 => ?_) fun s1 X1 _ _ hm5 L4 => ?_))))))))
      · refine x_asg (x_un (x_vI (x := z2) L3 rfl (x_u (x_bset (x0 := (-z2)) (d := fun divisor_1 => (.int divisor_1)) (Γf := fun divisor_1 => [.imm (.int a_a), .imm (.int a_b), .imm (.int a_n), .imm (.int divisor_1)]) hm4 L3 (.int _) (show (3 : Nat) < 4 by decide) (fun _ => rfl) fun divisor_1 _ hm6 L5 => ?_))))
        exact x_leaf (G := (fun (s1 : Int) => [.imm (.int a_a), .imm (.int a_b), .imm (.int a_n), .imm (.int s1)])) (e := divisor_1) hm6 hN1 (L5.weak (Γ' := [.imm (.int a_a), .imm (.int a_b), .imm (.int a_n), .imm (.int divisor_1)]) (.k (.k (.k (.k .e)))))
      · refine x_next ?_
        exact x_leaf (G := (fun (s1 : Int) => [.imm (.int a_a), .imm (.int a_b), .imm (.int a_n), .imm (.int s1)])) (e := z2) hm4 hN1 (L3.weak (Γ' := [.imm (.int a_a), .imm (.int a_b), .imm (.int a_n), .imm (.int z2)]) (.k (.k (.k (.k .e)))))
      exact x_ret (x_tup (x_cons (x_op (x_vI (x := a_a) L4 rfl (x_vI (x := s1) L4 rfl (x_div hm5 fun z3 _ hm7 => x_cons (x_op (x_vI (x := a_b) L4 rfl (x_vI (x := s1) L4 rfl (x_div hm7 fun z4 _ hm8 => x_cons (x_op (x_vI (x := a_n) L4 rfl (x_vI (x := s1) L4 rfl (x_div hm8 fun z5 _ hm9 => x_nil (x_mkT L4 (.cons (.int _) (.cons (.int _) (.cons (.int _) .nil))) (show (3 : Nat) ≤ 16777216 by decide) fun v3 _ L6 le3 r1 => have r2 : Rep _ _ _ (enc ((T3.mk z3 z4 z5) : (T3 Int Int Int))) v3 := r1; x_fin (Q := Q) (ps := (fun (r : (T3 Int Int Int)) => [])) (rs := (fun (r : (T3 Int Int Int)) => (.imm (enc (r : (T3 Int Int Int)))))) (e := (T3.mk z3 z4 z5)) hm9 kont (L6.fin hp0 r2))))))))))))))))
abbrev sp_meet (K : PySem.W.Frag) : Sp := fun vs H Q _ => ∃ (X : Addr → Prop)  (a_p : (T3 Int Int Int)) (a_q : (T3 Int Int Int)) (a_r : (T3 Int Int Int)) (a_s : (T3 Int Int Int)) (r : (T3 Int Int Int)), m_meet a_p a_q a_r a_s = some r ∧ Cond K X H [.imm (enc (a_p : (T3 Int Int Int))), .imm (enc (a_q : (T3 Int Int Int))), .imm (enc (a_r : (T3 Int Int Int))), .imm (enc (a_s : (T3 Int Int Int)))] vs ∧ ∀ v H', Fin K X H [] [] (.imm (enc (r : (T3 Int Int Int)))) v H' → Q v H'
theorem mk_meet {K : PySem.W.Frag} {X : Addr → Prop} {H : Hp} {vs : List V} {Q : VK} {E : XK}  {a_p : (T3 Int Int Int)} {a_q : (T3 Int Int Int)} {a_r : (T3 Int Int Int)} {a_s : (T3 Int Int Int)} {r : (T3 Int Int Int)} (hm : m_meet a_p a_q a_r a_s = some r) (c : Cond K X H [.imm (enc (a_p : (T3 Int Int Int))), .imm (enc (a_q : (T3 Int Int Int))), .imm (enc (a_r : (T3 Int Int Int))), .imm (enc (a_s : (T3 Int Int Int)))] vs) (k : ∀ v H', Fin K X H [] [] (.imm (enc (r : (T3 Int Int Int)))) v H' → Q v H') : sp_meet K vs H Q E := ⟨X, a_p, a_q, a_r, a_s, r, hm, c, k⟩
abbrev n_meet : List Str := ["p", "q", "r", "s", "a", "b", "n"]
theorem sc_meet : FnScope n_meet ["p", "q", "r", "s"] (defScope s_meet) := ⟨rfl, rfl, rfl, by decide +kernel, rfl, by decide +kernel, by decide +kernel⟩
theorem ok_meet (T : Txt K mg) : FnOk P w K mg base CX0 3 T.A_meet T.D_meet ["p", "q", "r", "s"] (sp_meet K) := by
  refine Fun.ok T.F_meet sc_meet (fun vs H Q E h => ?_) (fun cdv A outer s H vs Q E hr h => ?_)
  · obtain ⟨X, a_p, a_q, a_r, a_s, r, hm, c, kont⟩ := h
    exact c.len
  · obtain ⟨X, a_p, a_q, a_r, a_s, r, hm, c, kont⟩ := h
    refine ⟨_, (pss_cons (ps_asg (pe_call (ok_crossed T) (hr.mono (by decide)) (by rfl) T.g_crossed T.F_crossed.kp T.b_crossed .nil pass0 (pa_cons (pe_call (ok_crossed T) (hr.mono (by decide)) (by rfl) T.g_crossed T.F_crossed.kp T.b_crossed .nil pass0 (pa_cons (pv 0) (pa_cons (pv 1) pa_nil))) (pa_cons (pe_call (ok_crossed T) (hr.mono (by decide)) (by rfl) T.g_crossed T.F_crossed.kp T.b_crossed .nil pass0 (pa_cons (pv 2) (pa_cons (pv 3) pa_nil))) pa_nil))) (pg_tup rfl (pgs_cons (pg_name (i := 4) sc_meet.nd rfl (Or.inl rfl)) (pgs_cons (pg_name (i := 5) sc_meet.nd rfl (Or.inl rfl)) (pgs_cons (pg_name (i := 6) sc_meet.nd rfl (Or.inl rfl)) pgs_nil)))))
      (pss_cons (ps_if (pt_cmpR op_eq (pv 6) pe_int (nomark _)) (pss_one ps_never) pss_nil)
      (pss_one (ps_ret (pe_call (ok_point T) hr (by rfl) T.g_point T.F_point.kp T.b_point .nil pass0 (pa_cons (pv 4) (pa_cons (pv 5) (pa_cons (pv 6) pa_nil)))))))), ?_⟩
    have L0 : Lo ⟨K, X, H, muts [.imm (enc (a_p : (T3 Int Int Int))), .imm (enc (a_q : (T3 Int Int Int))), .imm (enc (a_r : (T3 Int Int Int))), .imm (enc (a_s : (T3 Int Int Int)))], n_meet.length⟩ X H (L2.start n_meet vs) [.imm (enc (a_p : (T3 Int Int Int))), .imm (enc (a_q : (T3 Int Int Int))), .imm (enc (a_r : (T3 Int Int Int))), .imm (enc (a_s : (T3 Int Int Int))), .unk, .unk, .unk] := c.start n_meet (show (4 : Nat) ≤ 7 by decide)
    unfold m_meet at hm
    refine x_seq (x_asg (x_call (x_cons (x_call (x_cons (x_vd (d := (enc (a_p : (T3 Int Int Int)))) L0 rfl fun v1 r1 => x_cons (x_vd (d := (enc (a_q : (T3 Int Int Int)))) L0 rfl fun v2 r2 => x_nil (obE hm fun z1 hz1 hm1 => mk_crossed hz1 (L0.cond0 (.im r1 (.im r2 .nil)) rfl) fun v3 _ F1 => k0d L0 F1 fun L1 le1 r3 => x_cons (x_call (x_cons (x_vd (d := (enc (a_r : (T3 Int Int Int)))) L1 rfl fun v4 r4 => x_cons (x_vd (d := (enc (a_s : (T3 Int Int Int)))) L1 rfl fun v5 r5 => x_nil (obE hm1 fun z2 hz2 hm2 => mk_crossed hz2 (L1.cond0 (.im r4 (.im r5 .nil)) rfl) fun v6 _ F2 => k0d L1 F2 fun L2 le2 r6 => have r7 := le2 _ _ r3; x_nil (obE hm2 fun z3 hz3 hm3 => mk_crossed hz3 (L2.cond0 (.im r7 (.im r6 .nil)) rfl) fun v7 _ F3 => k0d L2 F3 fun L3 le3 r8 => x_gTup r8 rfl fun vs1 rs1 => x_gCons rs1 fun v8 _ r9 rs2 => x_set (d := (.int z3.a)) (Γ' := [.imm (enc (a_p : (T3 Int Int Int))), .imm (enc (a_q : (T3 Int Int Int))), .imm (enc (a_r : (T3 Int Int Int))), .imm (enc (a_s : (T3 Int Int Int))), .imm (.int z3.a), .unk, .unk]) L3 r9 (show (4 : Nat) < 7 by decide) rfl fun _ L4 => x_gCons rs2 fun v9 _ r10 rs3 => x_set (d := (.int z3.b)) (Γ' := [.imm (enc (a_p : (T3 Int Int Int))), .imm (enc (a_q : (T3 Int Int Int))), .imm (enc (a_r : (T3 Int Int Int))), .imm (enc (a_s : (T3 Int Int Int))), .imm (.int z3.a), .imm (.int z3.b), .unk]) L4 r10 (show (5 : Nat) < 7 by decide) rfl fun _ L5 => x_gCons rs3 fun v10 _ r11 rs4 => x_set (d := (.int z3.c)) (Γ' := [.imm (enc (a_p : (T3 Int Int Int))), .imm (enc (a_q : (T3 Int Int Int))), .imm (enc (a_r : (T3 Int Int Int))), .imm (enc (a_s : (T3 Int Int Int))), .imm (.int z3.a), .imm (.int z3.b), .imm (.int z3.c)]) L5 r11 (show (6 : Nat) < 7 by decide) rfl fun _ L6 => x_gNil rs4 (?_)))))))))))))))
    refine x_seq (x_ifS (x_test (x_op (x_vI (x := z3.c) L6 rfl (x_c (x_eqi (x_kb (x_if hm3 (fun hm4 => ?_) fun hm4 => ?_))))))))
    · exact (nomatch hm4)
    · refine x_next ?_
      exact x_ret (x_call (x_cons (x_vI (x := z3.a) L6 rfl (x_cons (x_vI (x := z3.b) L6 rfl (x_cons (x_vI (x := z3.c) L6 rfl (x_nil (obE hm4 fun z4 hz4 hm5 => mk_point hz4 (L6.cond0 (.im (.int _) (.im (.int _) (.im (.int _) .nil))) rfl) fun v11 _ F4 => k0d L6 F4 fun L7 le4 r12 => x_fin (Q := Q) (ps := (fun (r : (T3 Int Int Int)) => [])) (rs := (fun (r : (T3 Int Int Int)) => (.imm (enc (r : (T3 Int Int Int)))))) (e := z4) hm5 kont (L7.fin hp0 r12))))))))))
abbrev sp_half_of (K : PySem.W.Frag) : Sp := fun vs H Q _ => ∃ (X : Addr → Prop)  (a_ring : (List (T3 Int Int Int))) (a_p : (T3 Int Int Int)) (a_q : (T3 Int Int Int)) (a_hand : Int) (r : (Option (List (T3 Int Int Int)))), m_half_of a_ring a_p a_q a_hand = some r ∧ Cond K X H [.imm (enc (a_ring : (List (T3 Int Int Int)))), .imm (enc (a_p : (T3 Int Int Int))), .imm (enc (a_q : (T3 Int Int Int))), .imm (.int a_hand)] vs ∧ ∀ v H', Fin K X H [] [] (.immN (fun a => H a = none) (enc (r : (Option (List (T3 Int Int Int)))))) v H' → Q v H'
theorem mk_half_of {K : PySem.W.Frag} {X : Addr → Prop} {H : Hp} {vs : List V} {Q : VK} {E : XK}  {a_ring : (List (T3 Int Int Int))} {a_p : (T3 Int Int Int)} {a_q : (T3 Int Int Int)} {a_hand : Int} {r : (Option (List (T3 Int Int Int)))} (hm : m_half_of a_ring a_p a_q a_hand = some r) (c : Cond K X H [.imm (enc (a_ring : (List (T3 Int Int Int)))), .imm (enc (a_p : (T3 Int Int Int))), .imm (enc (a_q : (T3 Int Int Int))), .imm (.int a_hand)] vs) (k : ∀ v H', Fin K X H [] [] (.immN (fun a => H a = none) (enc (r : (Option (List (T3 Int Int Int)))))) v H' → Q v H') : sp_half_of K vs H Q E := ⟨X, a_ring, a_p, a_q, a_hand, r, hm, c, k⟩
abbrev n_half_of : List Str := ["ring", "p", "q", "hand", "hands", "made", "k", "corner"]
theorem sc_half_of : FnScope n_half_of ["ring", "p", "q", "hand"] (defScope s_half_of) := ⟨rfl, rfl, rfl, by decide +kernel, rfl, by decide +kernel, by decide +kernel⟩
theorem ok_half_of (T : Txt K mg) : FnOk P w K mg base CX0 4 T.A_half_of T.D_half_of ["ring", "p", "q", "hand"] (sp_half_of K) := by
  refine Fun.ok T.F_half_of sc_half_of (fun vs H Q E h => ?_) (fun cdv A outer s H vs Q E hr h => ?_)
  · obtain ⟨X, a_ring, a_p, a_q, a_hand, r, hm, c, kont⟩ := h
    exact c.len
  · obtain ⟨X, a_ring, a_p, a_q, a_hand, r, hm, c, kont⟩ := h
    refine ⟨_, (pss_cons (ps_setLc (i := 4) (own := [("corner", 7)])  (g := gName 7) (tt := tYes) rfl sc_half_of.nd rfl rfl (sw_true rfl rfl rfl (by decide +kernel)) (pi_list (pv 0)) (blkOk_by (N := n_half_of) (sc := defScope s_half_of) (by decide +kernel)) (fun _ _ _ _ _ => (pg_name (i := 7) sc_half_of.nd rfl (Or.inl rfl))) (fun _ _ _ _ _ => pts_nil) (fun _ _ _ _ _ => (pe_op op_mulW (pv 3) (pe_call (ok_side T) (hr.mono (by decide)) (by rfl) T.g_side T.F_side.kp T.b_side .nil pass0 (pa_cons (pv 1) (pa_cons (pv 2) (pa_cons (pv 7) pa_nil)))))))
      (pss_cons (ps_if (pt_cmpR op_le (pe_callB (cr_max rfl) (by rfl) T.z_max (by decide +kernel) (pa_cons (pv 4) pa_nil)) pe_int (nomark _)) (pss_one (ps_ret pe_non)) pss_nil)
      (pss_cons (ps_set (i := 5) sc_half_of.nd rfl (Or.inl rfl) (pe_lst pa_nil))
      (pss_cons (ps_for PassesOwn.never rfl (pi_enum (by rfl) T.z_enumerate (pa_cons (pv 0) pa_nil)) (pg_tup rfl (pgs_cons (pg_name (i := 6) sc_half_of.nd rfl (Or.inl rfl)) (pgs_cons (pg_name (i := 7) sc_half_of.nd rfl (Or.inl rfl)) pgs_nil))) (pss_cons (ps_if (pt_cmpR op_lt (pe_op op_mulW (pe_ix (r := rIxL K) ix_list (pv 4) (pe_op op_sub (pv 6) pe_int) (fun _ _ => rfl)) (pe_ix (r := rIxL K) ix_list (pv 4) (pv 6) (fun _ _ => rfl))) pe_int (nomark _)) (pss_one (ps_expr (pe_bm PySem.F.plainAttrs_list PySem.F.slot_list_append PySem.F.type_list_append mt_append (pv 5) (pa_cons (pe_call (ok_meet T) hr (by rfl) T.g_meet T.F_meet.kp T.b_meet .nil pass0 (pa_cons (pe_ix (r := rIxL K) ix_list (pv 0) (pe_op op_sub (pv 6) pe_int) (fun _ _ => rfl)) (pa_cons (pv 7) (pa_cons (pv 1) (pa_cons (pv 2) pa_nil))))) pa_nil)))) pss_nil)
      (pss_one (ps_if (pt_cmpR op_ge (pe_ix (r := rIxL K) ix_list (pv 4) (pv 6) (fun _ _ => rfl)) pe_int (nomark _)) (pss_one (ps_expr (pe_bm PySem.F.plainAttrs_list PySem.F.slot_list_append PySem.F.type_list_append mt_append (pv 5) (pa_cons (pv 7) pa_nil)))) pss_nil))))
      (pss_one (ps_ret (pv 5))))))), ?_⟩
    have L0 : Lo ⟨K, X, H, muts [.imm (enc (a_ring : (List (T3 Int Int Int)))), .imm (enc (a_p : (T3 Int Int Int))), .imm (enc (a_q : (T3 Int Int Int))), .imm (.int a_hand)], n_half_of.length⟩ X H (L2.start n_half_of vs) [.imm (enc (a_ring : (List (T3 Int Int Int)))), .imm (enc (a_p : (T3 Int Int Int))), .imm (enc (a_q : (T3 Int Int Int))), .imm (.int a_hand), .unk, .unk, .unk, .unk] := c.start n_half_of (show (4 : Nat) ≤ 8 by decide)
    unfold m_half_of at hm
    refine x_seq (x_asg (x_lcl (x_vd (d := (enc (a_ring : (List (T3 Int Int Int))))) L0 rfl fun v1 r1 => obE hm fun _ hl1 hm1 => obE hm1 fun ys1 hy1 hm2 => x_lcL (G := (fun (s1 : Unit) => [.imm (enc (a_ring : (List (T3 Int Int Int)))), .imm (enc (a_p : (T3 Int Int Int))), .imm (enc (a_q : (T3 Int Int Int))), .imm (.int a_hand), .unk, .unk, .unk, .unk])) (s0 := ()) (xs := a_ring) L0 (fun _ _ => rfl) r1 (mapO_comp hy1) (lenOk_le hl1) (fun x1 s1 _ H1 _ u1 _ _ _ hF1 L1 r2 hn1 hy2 => obE hF1 fun y1 hm3 he1 => x_cName (d := (enc (x1 : (T3 Int Int Int)))) (Γ' := [.imm (enc (a_ring : (List (T3 Int Int Int)))), .imm (enc (a_p : (T3 Int Int Int))), .imm (enc (a_q : (T3 Int Int Int))), .imm (.int a_hand), .unk, .unk, .unk, .imm (enc (x1 : (T3 Int Int Int)))]) L1 r2 (show (7 : Nat) < 8 by decide) rfl fun _ L2 => x_yes (x_op (x_vI (x := a_hand) L2 rfl (x_call (x_cons (x_vd (d := (enc (a_p : (T3 Int Int Int)))) L2 rfl fun v2 r3 => x_cons (x_vd (d := (enc (a_q : (T3 Int Int Int)))) L2 rfl fun v3 r4 => x_cons (x_vd (d := (enc (x1 : (T3 Int Int Int)))) L2 rfl fun v4 r5 => x_nil (obE hm3 fun z1 hz2 hm4 => mk_side hz2 (L2.cond0 (.im r3 (.im r4 (.im r5 .nil))) rfl) fun _ F1 => k0 L2 F1 fun L3 le1 => x_mul hm4 fun z2 _ hm5 => x_cy (G := (fun (s1 : Unit) => [.imm (enc (a_ring : (List (T3 Int Int Int)))), .imm (enc (a_p : (T3 Int Int Int))), .imm (enc (a_q : (T3 Int Int Int))), .imm (.int a_hand), .unk, .unk, .unk, .unk])) (s := s1) (s' := ()) (y := z2) (by cases hm5; cases he1; rfl) hy2 L1 L3 (.i rfl (.i rfl (.i rfl (.i rfl (.i rfl (.i rfl (.i rfl (.i rfl .e)))))))) (.int _)))))))))) fun p1 _ L4 le2 r6 => have L5 : Lo _ _ _ _ [.imm (enc (a_ring : (List (T3 Int Int Int)))), .imm (enc (a_p : (T3 Int Int Int))), .imm (enc (a_q : (T3 Int Int Int))), .imm (.int a_hand), .unk, .unk, .unk, .unk] := L4; have r7 : Rep _ _ _ (enc (ys1 : (List Int))) (.ref p1) := r6; x_set (d := (enc (ys1 : (List Int)))) (Γ' := [.imm (enc (a_ring : (List (T3 Int Int Int)))), .imm (enc (a_p : (T3 Int Int Int))), .imm (enc (a_q : (T3 Int Int Int))), .imm (.int a_hand), .imm (enc (ys1 : (List Int))), .unk, .unk, .unk]) L5 r7 (show (4 : Nat) < 8 by decide) rfl fun _ L6 => ?_)))
    refine x_seq (x_ifS (x_test (x_op (x_cb (x_cons (x_vd (d := (enc (ys1 : (List Int)))) L6 rfl fun v6 r8 => x_nil (x_maxL (ns := ys1) hm2 r8 fun z3 hm6 => x_c (x_r0 (x_kb (x_if hm6 (fun hm7 => ?_) fun hm7 => ?_))))))))))
    · exact x_ret (x_c (x_fin (Q := Q) (ps := (fun (r : (Option (List (T3 Int Int Int)))) => [])) (rs := (fun (r : (Option (List (T3 Int Int Int)))) => (.immN (fun a => H a = none) (enc (r : (Option (List (T3 Int Int Int)))))))) (e := (none : (Option (List (T3 Int Int Int))))) hm7 kont (L6.finZ hp0 .non)))
    · refine x_next ?_
      refine x_seq (x_asg (x_lst (x_nil (x_mkN L6 .nil (show (0 : Nat) ≤ 16777216 by decide) fun p2 _ _ h01 hx1 L7 le3 => x_setN (Γ := [.imm (enc (a_ring : (List (T3 Int Int Int)))), .imm (enc (a_p : (T3 Int Int Int))), .imm (enc (a_q : (T3 Int Int Int))), .imm (.int a_hand), .imm (enc (ys1 : (List Int))), .unk, .unk, .unk]) (p := p2) (o := (ml (([] : (List (T3 Int Int Int))) : (List (T3 Int Int Int))))) (Γ' := [.imm (enc (a_ring : (List (T3 Int Int Int)))), .imm (enc (a_p : (T3 Int Int Int))), .imm (enc (a_q : (T3 Int Int Int))), .imm (.int a_hand), .imm (enc (ys1 : (List Int))), .mu p2 (ml (([] : (List (T3 Int Int Int))) : (List (T3 Int Int Int)))), .unk, .unk]) L7 (show (5 : Nat) < 8 by decide) (show (5 : Nat) < 8 by decide) rfl fun _ L8 => ?_))))
      refine x_seq (x_tforE (x_cons (x_vd (d := (enc (a_ring : (List (T3 Int Int Int))))) L8 rfl fun v7 r9 => x_nil (x_foE (G := (fun (s2 : (List (T3 Int Int Int))) => [.imm (enc (a_ring : (List (T3 Int Int Int)))), .imm (enc (a_p : (T3 Int Int Int))), .imm (enc (a_q : (T3 Int Int Int))), .imm (.int a_hand), .imm (enc (ys1 : (List Int))), .mu p2 (ml (s2 : (List (T3 Int Int Int)))), .unk, .unk])) (s0 := ([] : (List (T3 Int Int Int)))) (xs := a_ring) (L8.weak (Γ' := [.imm (enc (a_ring : (List (T3 Int Int Int)))), .imm (enc (a_p : (T3 Int Int Int))), .imm (enc (a_q : (T3 Int Int Int))), .imm (.int a_hand), .imm (enc (ys1 : (List Int))), .mu p2 (ml (([] : (List (T3 Int Int Int))) : (List (T3 Int Int Int)))), .unk, .unk]) (.k (.k (.k (.k (.k (.k (.k (.k .e))))))))) (fun _ _ => rfl) r9 hm7 (fun x2 s2 H2 _ u2 _ _ _ _ _ hm8 L9 hd1 r10 hN1 hC1 => ?_) (fun s3 _ _ hm9 L10 => ?_)))))
      · refine x_gTup r10 rfl fun vs1 rs1 => x_gCons rs1 fun v8 _ r11 rs2 => x_set (d := (.int x2.a)) (Γ' := [.imm (enc (a_ring : (List (T3 Int Int Int)))), .imm (enc (a_p : (T3 Int Int Int))), .imm (enc (a_q : (T3 Int Int Int))), .imm (.int a_hand), .imm (enc (ys1 : (List Int))), .mu p2 (ml (s2 : (List (T3 Int Int Int)))), .imm (.int x2.a), .unk]) L9 r11 (show (6 : Nat) < 8 by decide) rfl fun _ L11 => x_gCons rs2 fun v9 _ r12 rs3 => x_set (d := (enc (x2.b : (T3 Int Int Int)))) (Γ' := [.imm (enc (a_ring : (List (T3 Int Int Int)))), .imm (enc (a_p : (T3 Int Int Int))), .imm (enc (a_q : (T3 Int Int Int))), .imm (.int a_hand), .imm (enc (ys1 : (List Int))), .mu p2 (ml (s2 : (List (T3 Int Int Int)))), .imm (.int x2.a), .imm (enc (x2.b : (T3 Int Int Int)))]) L11 r12 (show (7 : Nat) < 8 by decide) rfl fun _ L12 => x_gNil rs3 (?_)
        refine x_seq (x_ifS (x_test (x_op (x_op (x_op (x_vd (d := (enc (ys1 : (List Int)))) L12 rfl fun v10 r13 => x_op (x_vI (x := x2.a) L12 rfl (x_c (x_r0 (x_ixLI (xs := ys1) hm8 r13 fun x3 _ hm11 => x_op (x_vd (d := (enc (ys1 : (List Int)))) L12 rfl fun v11 r14 => x_vI (x := x2.a) L12 rfl (x_ixLI (xs := ys1) hm11 r14 fun x4 _ hm12 => x_mul hm12 fun z4 _ hm13 => x_c (x_r0 (x_kb (x_join (G := (fun (s4 : (List (T3 Int Int Int))) => [.imm (enc (a_ring : (List (T3 Int Int Int)))), .imm (enc (a_p : (T3 Int Int Int))), .imm (enc (a_q : (T3 Int Int Int))), .imm (.int a_hand), .imm (enc (ys1 : (List Int))), .mu p2 (ml (s4 : (List (T3 Int Int Int)))), .imm (.int x2.a), .imm (enc (x2.b : (T3 Int Int Int)))])) L12 hm13 (fun _ hm14 _ hN2 => ?_) (fun _ hm14 _ hN2 => ?_) fun s4 X1 _ _ hm15 L13 => ?_)))))))))))))))
        · refine x_drop (x_bm (x_vm L12 rfl (x_tyM L12 (i := 5) rfl (x_cons (x_call (x_cons (x_op (x_vd (d := (enc (a_ring : (List (T3 Int Int Int))))) L12 rfl fun v12 r15 => x_op (x_vI (x := x2.a) L12 rfl (x_c (x_r0 (x_ixL (xs := a_ring) hm14 r15 fun x5 v13 _ hm16 r16 => x_cons (x_vd (d := (enc (x2.b : (T3 Int Int Int)))) L12 rfl fun v14 r17 => x_cons (x_vd (d := (enc (a_p : (T3 Int Int Int)))) L12 rfl fun v15 r18 => x_cons (x_vd (d := (enc (a_q : (T3 Int Int Int)))) L12 rfl fun v16 r19 => x_nil (obE hm16 fun z5 hz3 hm17 => mk_meet hz3 (L12.cond0 (.im r16 (.im r17 (.im r18 (.im r19 .nil)))) rfl) fun v17 _ F3 => k0d L12 F3 fun L14 le4 r20 => x_nil (x_append (xs := s2) (x := z5) (i := 5) (Γ' := [.imm (enc (a_ring : (List (T3 Int Int Int)))), .imm (enc (a_p : (T3 Int Int Int))), .imm (enc (a_q : (T3 Int Int Int))), .imm (.int a_hand), .imm (enc (ys1 : (List Int))), .mu p2 (ml ((s2 ++ [z5]) : (List (T3 Int Int Int)))), .imm (.int x2.a), .imm (enc (x2.b : (T3 Int Int Int)))]) L14 rfl hm17 r20 rfl fun _ hm18 L15 le5 => ?_)))))))))))))))))
          exact x_leaf (G := (fun (s4 : (List (T3 Int Int Int))) => [.imm (enc (a_ring : (List (T3 Int Int Int)))), .imm (enc (a_p : (T3 Int Int Int))), .imm (enc (a_q : (T3 Int Int Int))), .imm (.int a_hand), .imm (enc (ys1 : (List Int))), .mu p2 (ml (s4 : (List (T3 Int Int Int)))), .imm (.int x2.a), .imm (enc (x2.b : (T3 Int Int Int)))])) (e := (s2 ++ [z5])) hm18 hN2 (L15.weak (Γ' := [.imm (enc (a_ring : (List (T3 Int Int Int)))), .imm (enc (a_p : (T3 Int Int Int))), .imm (enc (a_q : (T3 Int Int Int))), .imm (.int a_hand), .imm (enc (ys1 : (List Int))), .mu p2 (ml ((s2 ++ [z5]) : (List (T3 Int Int Int)))), .imm (.int x2.a), .imm (enc (x2.b : (T3 Int Int Int)))]) (.k (.k (.k (.k (.k (.k (.k (.k .e)))))))))
        · refine x_next ?_
          exact x_leaf (G := (fun (s4 : (List (T3 Int Int Int))) => [.imm (enc (a_ring : (List (T3 Int Int Int)))), .imm (enc (a_p : (T3 Int Int Int))), .imm (enc (a_q : (T3 Int Int Int))), .imm (.int a_hand), .imm (enc (ys1 : (List Int))), .mu p2 (ml (s4 : (List (T3 Int Int Int)))), .imm (.int x2.a), .imm (enc (x2.b : (T3 Int Int Int)))])) (e := s2) hm14 hN2 (L12.weak (Γ' := [.imm (enc (a_ring : (List (T3 Int Int Int)))), .imm (enc (a_p : (T3 Int Int Int))), .imm (enc (a_q : (T3 Int Int Int))), .imm (.int a_hand), .imm (enc (ys1 : (List Int))), .mu p2 (ml (s2 : (List (T3 Int Int Int)))), .imm (.int x2.a), .imm (enc (x2.b : (T3 Int Int Int)))]) (.k (.k (.k (.k (.k (.k (.k (.k .e)))))))))
        refine x_ifS (x_test (x_op (x_op (x_vd (d := (enc (ys1 : (List Int)))) L13 rfl fun v18 r21 => x_vI (x := x2.a) L13 rfl (x_ixLI (xs := ys1) hm15 r21 fun x6 _ hm19 => x_c (x_r0 (x_kb (x_join (G := (fun (s5 : (List (T3 Int Int Int))) => [.imm (enc (a_ring : (List (T3 Int Int Int)))), .imm (enc (a_p : (T3 Int Int Int))), .imm (enc (a_q : (T3 Int Int Int))), .imm (.int a_hand), .imm (enc (ys1 : (List Int))), .mu p2 (ml (s5 : (List (T3 Int Int Int)))), .imm (.int x2.a), .imm (enc (x2.b : (T3 Int Int Int)))])) L13 hm19 (fun _ hm20 _ hN3 => ?_) (fun _ hm20 _ hN3 => ?_) fun s5 X2 _ _ hm21 L16 => ?_))))))))
        · refine x_drop (x_bm (x_vm L13 rfl (x_tyM L13 (i := 5) rfl (x_cons (x_vd (d := (enc (x2.b : (T3 Int Int Int)))) L13 rfl fun v19 r22 => x_nil (x_append (xs := s4) (x := x2.b) (i := 5) (Γ' := [.imm (enc (a_ring : (List (T3 Int Int Int)))), .imm (enc (a_p : (T3 Int Int Int))), .imm (enc (a_q : (T3 Int Int Int))), .imm (.int a_hand), .imm (enc (ys1 : (List Int))), .mu p2 (ml ((s4 ++ [x2.b]) : (List (T3 Int Int Int)))), .imm (.int x2.a), .imm (enc (x2.b : (T3 Int Int Int)))]) L13 rfl hm20 r22 rfl fun _ hm22 L17 le6 => ?_))))))
          exact x_leaf (G := (fun (s5 : (List (T3 Int Int Int))) => [.imm (enc (a_ring : (List (T3 Int Int Int)))), .imm (enc (a_p : (T3 Int Int Int))), .imm (enc (a_q : (T3 Int Int Int))), .imm (.int a_hand), .imm (enc (ys1 : (List Int))), .mu p2 (ml (s5 : (List (T3 Int Int Int)))), .imm (.int x2.a), .imm (enc (x2.b : (T3 Int Int Int)))])) (e := (s4 ++ [x2.b])) hm22 hN3 (L17.weak (Γ' := [.imm (enc (a_ring : (List (T3 Int Int Int)))), .imm (enc (a_p : (T3 Int Int Int))), .imm (enc (a_q : (T3 Int Int Int))), .imm (.int a_hand), .imm (enc (ys1 : (List Int))), .mu p2 (ml ((s4 ++ [x2.b]) : (List (T3 Int Int Int)))), .imm (.int x2.a), .imm (enc (x2.b : (T3 Int Int Int)))]) (.k (.k (.k (.k (.k (.k (.k (.k .e)))))))))
        · refine x_next ?_
          exact x_leaf (G := (fun (s5 : (List (T3 Int Int Int))) => [.imm (enc (a_ring : (List (T3 Int Int Int)))), .imm (enc (a_p : (T3 Int Int Int))), .imm (enc (a_q : (T3 Int Int Int))), .imm (.int a_hand), .imm (enc (ys1 : (List Int))), .mu p2 (ml (s5 : (List (T3 Int Int Int)))), .imm (.int x2.a), .imm (enc (x2.b : (T3 Int Int Int)))])) (e := s4) hm20 hN3 (L13.weak (Γ' := [.imm (enc (a_ring : (List (T3 Int Int Int)))), .imm (enc (a_p : (T3 Int Int Int))), .imm (enc (a_q : (T3 Int Int Int))), .imm (.int a_hand), .imm (enc (ys1 : (List Int))), .mu p2 (ml (s4 : (List (T3 Int Int Int)))), .imm (.int x2.a), .imm (enc (x2.b : (T3 Int Int Int)))]) (.k (.k (.k (.k (.k (.k (.k (.k .e)))))))))
        exact x_leaf (G := (fun (s2 : (List (T3 Int Int Int))) => [.imm (enc (a_ring : (List (T3 Int Int Int)))), .imm (enc (a_p : (T3 Int Int Int))), .imm (enc (a_q : (T3 Int Int Int))), .imm (.int a_hand), .imm (enc (ys1 : (List Int))), .mu p2 (ml (s2 : (List (T3 Int Int Int)))), .unk, .unk])) (e := s5) hm21 hN1 (L16.weak (Γ' := [.imm (enc (a_ring : (List (T3 Int Int Int)))), .imm (enc (a_p : (T3 Int Int Int))), .imm (enc (a_q : (T3 Int Int Int))), .imm (.int a_hand), .imm (enc (ys1 : (List Int))), .mu p2 (ml (s5 : (List (T3 Int Int Int)))), .unk, .unk]) (.k (.k (.k (.k (.k (.k (.d (.d .e)))))))))
      have L18 : Lo _ _ _ _ [.imm (enc (a_ring : (List (T3 Int Int Int)))), .imm (enc (a_p : (T3 Int Int Int))), .imm (enc (a_q : (T3 Int Int Int))), .imm (.int a_hand), .imm (enc (ys1 : (List Int))), .fixN (fun a => H a = none) (enc (s3 : (List (T3 Int Int Int)))), .unk, .unk] := L10.freezeZ (Z := (fun a => H a = none)) (i := 5) rfl hx1 (fun _ h => h) h01
      exact x_ret (x_vfz (d := (enc (s3 : (List (T3 Int Int Int))))) L18 rfl fun v20 r23 => have r24 := Rep.ofN r23; x_fin (Q := Q) (ps := (fun (r : (Option (List (T3 Int Int Int)))) => [])) (rs := (fun (r : (Option (List (T3 Int Int Int)))) => (.immN (fun a => H a = none) (enc (r : (Option (List (T3 Int Int Int)))))))) (e := (some s3)) hm9 kont (L18.finZ hp0 r23))
abbrev sp_common (K : PySem.W.Frag) : Sp := fun vs H Q _ => ∃ (X : Addr → Prop)  (a_one : (List (T3 Int Int Int))) (a_other : (List (T3 Int Int Int))) (r : (Option (List (T3 Int Int Int)))), m_common a_one a_other = some r ∧ Cond K X H [.imm (enc (a_one : (List (T3 Int Int Int)))), .imm (enc (a_other : (List (T3 Int Int Int))))] vs ∧ ∀ v H', Fin K X H [] [] (.immN (fun a => H a = none) (enc (r : (Option (List (T3 Int Int Int)))))) v H' → Q v H'
theorem mk_common {K : PySem.W.Frag} {X : Addr → Prop} {H : Hp} {vs : List V} {Q : VK} {E : XK}  {a_one : (List (T3 Int Int Int))} {a_other : (List (T3 Int Int Int))} {r : (Option (List (T3 Int Int Int)))} (hm : m_common a_one a_other = some r) (c : Cond K X H [.imm (enc (a_one : (List (T3 Int Int Int)))), .imm (enc (a_other : (List (T3 Int Int Int))))] vs) (k : ∀ v H', Fin K X H [] [] (.immN (fun a => H a = none) (enc (r : (Option (List (T3 Int Int Int)))))) v H' → Q v H') : sp_common K vs H Q E := ⟨X, a_one, a_other, r, hm, c, k⟩
abbrev n_common : List Str := ["one", "other", "made", "k", "corner"]
theorem sc_common : FnScope n_common ["one", "other"] (defScope s_common) := ⟨rfl, rfl, rfl, by decide +kernel, rfl, by decide +kernel, by decide +kernel⟩
theorem ok_common (T : Txt K mg) : FnOk P w K mg base CX0 5 T.A_common T.D_common ["one", "other"] (sp_common K) := by
  refine Fun.ok T.F_common sc_common (fun vs H Q E h => ?_) (fun cdv A outer s H vs Q E hr h => ?_)
  · obtain ⟨X, a_one, a_other, r, hm, c, kont⟩ := h
    exact c.len
  · obtain ⟨X, a_one, a_other, r, hm, c, kont⟩ := h
    refine ⟨_, (pss_cons (ps_set (i := 2) sc_common.nd rfl (Or.inl rfl) (pe_callTy (r := rListX K) call_listX (by rfl) T.z_list (by decide +kernel) (pa_cons (pv 0) pa_nil)))
      (pss_cons (ps_for PassesOwn.never rfl (pi_enum (by rfl) T.z_enumerate (pa_cons (pv 1) pa_nil)) (pg_tup rfl (pgs_cons (pg_name (i := 3) sc_common.nd rfl (Or.inl rfl)) (pgs_cons (pg_name (i := 4) sc_common.nd rfl (Or.inl rfl)) pgs_nil))) (pss_cons (ps_set (i := 2) sc_common.nd rfl (Or.inl rfl) (pe_call (ok_half_of T) hr (by rfl) T.g_half_of T.F_half_of.kp T.b_half_of .nil pass0 (pa_cons (pv 2) (pa_cons (pe_ix (r := rIxL K) ix_list (pv 1) (pe_op op_sub (pv 3) pe_int) (fun _ _ => rfl)) (pa_cons (pv 4) (pa_cons pe_int pa_nil))))))
      (pss_one (ps_if (pt_cmpR op_isNX (pv 2) pe_non (nomark _)) (pss_one (ps_ret pe_non)) pss_nil))))
      (pss_one (ps_ret (pv 2))))), ?_⟩
    have L0 : Lo ⟨K, X, H, muts [.imm (enc (a_one : (List (T3 Int Int Int)))), .imm (enc (a_other : (List (T3 Int Int Int))))], n_common.length⟩ X H (L2.start n_common vs) [.imm (enc (a_one : (List (T3 Int Int Int)))), .imm (enc (a_other : (List (T3 Int Int Int)))), .unk, .unk, .unk] := c.start n_common (show (2 : Nat) ≤ 5 by decide)
    unfold m_common at hm
    refine x_seq (x_asg (x_cb (x_cons (x_vd (d := (enc (a_one : (List (T3 Int Int Int))))) L0 rfl fun v1 r1 => x_nil (x_listZ (Z := (fun a => H a = none)) (xs := a_one) (L0.domZ (fun _ h => h)) L0 r1 fun v2 _ L1 le1 r2 => have r3 := Rep.ofN r2; x_setZ (d := (enc (a_one : (List (T3 Int Int Int))))) (Γ' := [.imm (enc (a_one : (List (T3 Int Int Int)))), .imm (enc (a_other : (List (T3 Int Int Int)))), .fixN (fun a => H a = none) (enc (a_one : (List (T3 Int Int Int)))), .unk, .unk]) L1 r2 (show (2 : Nat) < 5 by decide) rfl fun _ L2 => ?_)))))
    refine x_seq (x_tforE (x_cons (x_vd (d := (enc (a_other : (List (T3 Int Int Int))))) L2 rfl fun v3 r4 => x_nil (x_flE (G := (fun (s1 : (List (T3 Int Int Int))) => [.imm (enc (a_one : (List (T3 Int Int Int)))), .imm (enc (a_other : (List (T3 Int Int Int)))), .fixN (fun a => H a = none) (enc (s1 : (List (T3 Int Int Int)))), .unk, .unk])) (s0 := a_one) (xs := a_other) (ps := (fun (r : (Option (List (T3 Int Int Int)))) => [])) (rs := (fun (r : (Option (List (T3 Int Int Int)))) => (.immN (fun a => H a = none) (enc (r : (Option (List (T3 Int Int Int)))))))) (L2.weak (Γ' := [.imm (enc (a_one : (List (T3 Int Int Int)))), .imm (enc (a_other : (List (T3 Int Int Int)))), .fixN (fun a => H a = none) (enc (a_one : (List (T3 Int Int Int)))), .unk, .unk]) (.k (.k (.k (.k (.k .e)))))) (fun _ _ => rfl) r4 hm (fun x1 s1 H1 _ u1 _ _ _ _ _ hm1 L3 hd1 r5 hN1 hC1 hB1 hR1 => ?_) (fun s2 _ _ hm2 L4 => ?_) (fun _ _ _ hm3 F1 => x_fin (Q := Q) (ps := (fun (r : (Option (List (T3 Int Int Int)))) => [])) (rs := (fun (r : (Option (List (T3 Int Int Int)))) => (.immN (fun a => H a = none) (enc (r : (Option (List (T3 Int Int Int)))))))) hm3 kont F1)))))
    · refine x_gTup r5 rfl fun vs1 rs1 => x_gCons rs1 fun v4 _ r6 rs2 => x_set (d := (.int x1.a)) (Γ' := [.imm (enc (a_one : (List (T3 Int Int Int)))), .imm (enc (a_other : (List (T3 Int Int Int)))), .fixN (fun a => H a = none) (enc (s1 : (List (T3 Int Int Int)))), .imm (.int x1.a), .unk]) L3 r6 (show (3 : Nat) < 5 by decide) rfl fun _ L5 => x_gCons rs2 fun v5 _ r7 rs3 => x_set (d := (enc (x1.b : (T3 Int Int Int)))) (Γ' := [.imm (enc (a_one : (List (T3 Int Int Int)))), .imm (enc (a_other : (List (T3 Int Int Int)))), .fixN (fun a => H a = none) (enc (s1 : (List (T3 Int Int Int)))), .imm (.int x1.a), .imm (enc (x1.b : (T3 Int Int Int)))]) L5 r7 (show (4 : Nat) < 5 by decide) rfl fun _ L6 => x_gNil rs3 (?_)
      refine x_seq (x_asg (x_call (x_cons (x_vfz (d := (enc (s1 : (List (T3 Int Int Int))))) L6 rfl fun v6 r8 => have r9 := Rep.ofN r8; x_cons (x_op (x_vd (d := (enc (a_other : (List (T3 Int Int Int))))) L6 rfl fun v7 r10 => x_op (x_vI (x := x1.a) L6 rfl (x_c (x_r0 (x_ixL (xs := a_other) hm1 r10 fun x2 v8 _ hm4 r11 => x_cons (x_vd (d := (enc (x1.b : (T3 Int Int Int)))) L6 rfl fun v9 r12 => x_cons (x_c (x_nil (obE hm4 fun z1 hz1 hm5 => mk_half_of hz1 (L6.cond0 (.im r9 (.im r11 (.im r12 (.im (.int _) .nil)))) rfl) fun v10 _ F2 => k0dz (fun a h => hd1 a ((fun _ h => h) a h)) L6 F2 fun L7 le2 r13 => have r14 := Rep.ofN r13; x_setZ (d := (enc (z1 : (Option (List (T3 Int Int Int)))))) (Γ' := [.imm (enc (a_one : (List (T3 Int Int Int)))), .imm (enc (a_other : (List (T3 Int Int Int)))), .fixN (fun a => H a = none) (enc (z1 : (Option (List (T3 Int Int Int))))), .imm (.int x1.a), .imm (enc (x1.b : (T3 Int Int Int)))]) L7 r13 (show (2 : Nat) < 5 by decide) rfl fun _ L8 => ?_))))))))))))))
      refine x_ifS (x_test (x_op (x_vfz (d := (enc (z1 : (Option (List (T3 Int Int Int)))))) L8 rfl fun v11 r15 => have r16 := Rep.ofN r15; x_c (x_isNO (o := z1) r16 (x_kb (x_if hm5 (fun hm6 => ?_) fun hm6 => ?_))))))
      · exact x_ret (x_c (x_leafR (ps := (fun (r : (Option (List (T3 Int Int Int)))) => [])) (rs := (fun (r : (Option (List (T3 Int Int Int)))) => (.immN (fun a => H a = none) (enc (r : (Option (List (T3 Int Int Int)))))))) (e := (none : (Option (List (T3 Int Int Int))))) hm6 hR1 (L8.finZ hp0 .non)))
      · refine obE hm6 fun made_1 ho1 hm7 => ?_
        have L9 : Lo _ _ _ _ [.imm (enc (a_one : (List (T3 Int Int Int)))), .imm (enc (a_other : (List (T3 Int Int Int)))), .fixN (fun a => H a = none) (enc (made_1 : (List (T3 Int Int Int)))), .imm (.int x1.a), .imm (enc (x1.b : (T3 Int Int Int)))] := L8.someN (i := 2) rfl ho1 rfl
        refine x_next ?_
        exact x_leafN (G := (fun (s1 : (List (T3 Int Int Int))) => [.imm (enc (a_one : (List (T3 Int Int Int)))), .imm (enc (a_other : (List (T3 Int Int Int)))), .fixN (fun a => H a = none) (enc (s1 : (List (T3 Int Int Int)))), .unk, .unk])) (e := made_1) hm7 hN1 (L9.weak (Γ' := [.imm (enc (a_one : (List (T3 Int Int Int)))), .imm (enc (a_other : (List (T3 Int Int Int)))), .fixN (fun a => H a = none) (enc (made_1 : (List (T3 Int Int Int)))), .unk, .unk]) (.k (.k (.k (.d (.d .e))))))
    exact x_ret (x_vfz (d := (enc (s2 : (List (T3 Int Int Int))))) L4 rfl fun v12 r17 => have r18 := Rep.ofN r17; x_fin (Q := Q) (ps := (fun (r : (Option (List (T3 Int Int Int)))) => [])) (rs := (fun (r : (Option (List (T3 Int Int Int)))) => (.immN (fun a => H a = none) (enc (r : (Option (List (T3 Int Int Int)))))))) (e := (some s2)) hm2 kont (L4.finZ hp0 r17))
abbrev sp__law_spot (K : PySem.W.Frag) : Sp := fun vs H Q _ => ∃ (X : Addr → Prop) (p__law_bag_here : Addr) (a__law_bag_here : (List Int)) (a__law_most : Int) (r : ((T3 Int Int Int) × (List Int))), m__law_spot a__law_bag_here a__law_most = some r ∧ Cond K X H [.mu p__law_bag_here (ml (a__law_bag_here : (List Int))), .imm (.int a__law_most)] vs ∧ ∀ v H', Fin K X H [p__law_bag_here] [(p__law_bag_here, (ml (r.2 : (List Int))))] (.imm (enc (r.1 : (T3 Int Int Int)))) v H' → Q v H'
theorem mk__law_spot {K : PySem.W.Frag} {X : Addr → Prop} {H : Hp} {vs : List V} {Q : VK} {E : XK} {p__law_bag_here : Addr} {a__law_bag_here : (List Int)} {a__law_most : Int} {r : ((T3 Int Int Int) × (List Int))} (hm : m__law_spot a__law_bag_here a__law_most = some r) (c : Cond K X H [.mu p__law_bag_here (ml (a__law_bag_here : (List Int))), .imm (.int a__law_most)] vs) (k : ∀ v H', Fin K X H [p__law_bag_here] [(p__law_bag_here, (ml (r.2 : (List Int))))] (.imm (enc (r.1 : (T3 Int Int Int)))) v H' → Q v H') : sp__law_spot K vs H Q E := ⟨X, p__law_bag_here, a__law_bag_here, a__law_most, r, hm, c, k⟩
abbrev n__law_spot : List Str := ["_law_bag_here", "_law_most", "_law_n"]
theorem sc__law_spot : FnScope n__law_spot ["_law_bag_here", "_law_most"] (defScope s__law_spot) := ⟨rfl, rfl, rfl, by decide +kernel, rfl, by decide +kernel, by decide +kernel⟩
theorem ok__law_spot (T : Txt K mg) : FnOk P w K mg base CX0 2 T.A__law_spot T.D__law_spot ["_law_bag_here", "_law_most"] (sp__law_spot K) := by
  refine Fun.ok T.F__law_spot sc__law_spot (fun vs H Q E h => ?_) (fun cdv A outer s H vs Q E hr h => ?_)
  · obtain ⟨X, p__law_bag_here, a__law_bag_here, a__law_most, r, hm, c, kont⟩ := h
    exact c.len
  · obtain ⟨X, p__law_bag_here, a__law_bag_here, a__law_most, r, hm, c, kont⟩ := h
    refine ⟨_, (pss_cons (ps_set (i := 2) sc__law_spot.nd rfl (Or.inl rfl) (pe_op op_add pe_int (pe_call (ok__law_digit T) hr (by rfl) T.g__law_digit T.F__law_digit.kp T.b__law_digit .nil pass0 (pa_cons (pv 0) (pa_cons pe_int pa_nil)))))
      (pss_one (ps_ret (pe_call (ok__law_point T) hr (by rfl) T.g__law_point T.F__law_point.kp T.b__law_point .nil pass0 (pa_cons (pe_op op_sub (pe_call (ok__law_digit T) hr (by rfl) T.g__law_digit T.F__law_digit.kp T.b__law_digit .nil pass0 (pa_cons (pv 0) (pa_cons (pe_op op_add (pe_op op_mulW (pe_op op_add (pv 1) pe_int) (pv 2)) pe_int) pa_nil))) (pv 2)) (pa_cons (pe_op op_sub (pe_call (ok__law_digit T) hr (by rfl) T.g__law_digit T.F__law_digit.kp T.b__law_digit .nil pass0 (pa_cons (pv 0) (pa_cons (pe_op op_add (pe_op op_mulW (pe_op op_add (pv 1) pe_int) (pv 2)) pe_int) pa_nil))) (pv 2)) (pa_cons (pv 2) pa_nil))))))), ?_⟩
    have L0 : Lo ⟨K, X, H, muts [.mu p__law_bag_here (ml (a__law_bag_here : (List Int))), .imm (.int a__law_most)], n__law_spot.length⟩ X H (L2.start n__law_spot vs) [.mu p__law_bag_here (ml (a__law_bag_here : (List Int))), .imm (.int a__law_most), .unk] := c.start n__law_spot (show (2 : Nat) ≤ 3 by decide)
    unfold m__law_spot at hm
    refine x_seq (x_asg (x_op (x_c (x_call (x_cons (x_vm L0 rfl (x_cons (x_c (x_nil (obE hm fun z1 hz1 hm1 => mk__law_digit hz1 (L0.cond1 (i := 0) (.m (L0.mrep (i := 0) rfl) (.im (.int _) .nil)) rfl rfl rfl) fun _ F1 => k1 L0 F1 (i := 0) (Γ' := [.mu p__law_bag_here (ml (z1.2 : (List Int))), .imm (.int a__law_most), .unk]) rfl rfl rfl fun L1 le1 => x_r0 (x_bset (x0 := (1 + z1.1)) (d := fun n_1 => (.int n_1)) (Γf := fun n_1 => [.mu p__law_bag_here (ml (z1.2 : (List Int))), .imm (.int a__law_most), .imm (.int n_1)]) hm1 L1 (.int _) (show (2 : Nat) < 3 by decide) (fun _ => rfl) fun n_1 _ hm2 L2 => ?_)))))))))))
    exact x_ret (x_call (x_cons (x_op (x_call (x_cons (x_vm L2 rfl (x_cons (x_op (x_op (x_op (x_vI (x := a__law_most) L2 rfl (x_c (x_r0 (x_vI (x := n_1) L2 rfl (x_mul hm2 fun z2 _ hm3 => x_c (x_r0 (x_nil (obE hm3 fun z3 hz2 hm4 => mk__law_digit hz2 (L2.cond1 (i := 0) (.m (L2.mrep (i := 0) rfl) (.im (.int _) .nil)) rfl rfl rfl) fun _ F2 => k1 L2 F2 (i := 0) (Γ' := [.mu p__law_bag_here (ml (z3.2 : (List Int))), .imm (.int a__law_most), .imm (.int n_1)]) rfl rfl rfl fun L3 le2 => x_vI (x := n_1) L3 rfl (x_r0 (x_cons (x_op (x_call (x_cons (x_vm L3 rfl (x_cons (x_op (x_op (x_op (x_vI (x := a__law_most) L3 rfl (x_c (x_r0 (x_vI (x := n_1) L3 rfl (x_mul hm4 fun z4 _ hm5 => x_c (x_r0 (x_nil (obE hm5 fun z5 hz3 hm6 => mk__law_digit hz3 (L3.cond1 (i := 0) (.m (L3.mrep (i := 0) rfl) (.im (.int _) .nil)) rfl rfl rfl) fun _ F3 => k1 L3 F3 (i := 0) (Γ' := [.mu p__law_bag_here (ml (z5.2 : (List Int))), .imm (.int a__law_most), .imm (.int n_1)]) rfl rfl rfl fun L4 le3 => x_vI (x := n_1) L4 rfl (x_r0 (x_cons (x_vI (x := n_1) L4 rfl (x_nil (obE hm6 fun z6 hz4 hm7 => mk__law_point hz4 (L4.cond0 (.im (.int _) (.im (.int _) (.im (.int _) .nil))) rfl) fun v4 _ F4 => k0d L4 F4 fun L5 le4 r1 => x_fin (Q := Q) (ps := (fun (r : ((T3 Int Int Int) × (List Int))) => [(p__law_bag_here, (ml (r.2 : (List Int))))])) (rs := (fun (r : ((T3 Int Int Int) × (List Int))) => (.imm (enc (r.1 : (T3 Int Int Int)))))) (e := (z6, z5.2)) hm7 kont (L5.fin (hp1 (L5.mrep (i := 0) rfl)) r1))))))))))))))))))))))))))))))))))))))))))
abbrev sp__law_mixed (K : PySem.W.Frag) : Sp := fun vs H Q _ => ∃ (X : Addr → Prop) (p__law_bag_here : Addr) (a__law_ring : (List (T3 Int Int Int))) (a__law_bag_here : (List Int)) (r : ((T3 Int Int Int) × (List Int))), m__law_mixed a__law_ring a__law_bag_here = some r ∧ Cond K X H [.imm (enc (a__law_ring : (List (T3 Int Int Int)))), .mu p__law_bag_here (ml (a__law_bag_here : (List Int)))] vs ∧ ∀ v H', Fin K X H [p__law_bag_here] [(p__law_bag_here, (ml (r.2 : (List Int))))] (.imm (enc (r.1 : (T3 Int Int Int)))) v H' → Q v H'
theorem mk__law_mixed {K : PySem.W.Frag} {X : Addr → Prop} {H : Hp} {vs : List V} {Q : VK} {E : XK} {p__law_bag_here : Addr} {a__law_ring : (List (T3 Int Int Int))} {a__law_bag_here : (List Int)} {r : ((T3 Int Int Int) × (List Int))} (hm : m__law_mixed a__law_ring a__law_bag_here = some r) (c : Cond K X H [.imm (enc (a__law_ring : (List (T3 Int Int Int)))), .mu p__law_bag_here (ml (a__law_bag_here : (List Int)))] vs) (k : ∀ v H', Fin K X H [p__law_bag_here] [(p__law_bag_here, (ml (r.2 : (List Int))))] (.imm (enc (r.1 : (T3 Int Int Int)))) v H' → Q v H') : sp__law_mixed K vs H Q E := ⟨X, p__law_bag_here, a__law_ring, a__law_bag_here, r, hm, c, k⟩
abbrev n__law_mixed : List Str := ["_law_ring", "_law_bag_here", "_law_found", "_law_weights", "_law_p", "_law_weight"]
theorem sc__law_mixed : FnScope n__law_mixed ["_law_ring", "_law_bag_here"] (defScope s__law_mixed) := ⟨rfl, rfl, rfl, by decide +kernel, rfl, by decide +kernel, by decide +kernel⟩
theorem ok__law_mixed (T : Txt K mg) : FnOk P w K mg base CX0 3 T.A__law_mixed T.D__law_mixed ["_law_ring", "_law_bag_here"] (sp__law_mixed K) := by
  refine Fun.ok T.F__law_mixed sc__law_mixed (fun vs H Q E h => ?_) (fun cdv A outer s H vs Q E hr h => ?_)
  · obtain ⟨X, p__law_bag_here, a__law_ring, a__law_bag_here, r, hm, c, kont⟩ := h
    exact c.len
  · obtain ⟨X, p__law_bag_here, a__law_ring, a__law_bag_here, r, hm, c, kont⟩ := h
    refine ⟨_, (pss_cons (ps_set (i := 2) sc__law_mixed.nd rfl (Or.inl rfl) (pe_tup (pa_cons pe_int (pa_cons pe_int (pa_cons pe_int pa_nil)))))
      (pss_cons (ps_set (i := 3) sc__law_mixed.nd rfl (Or.inl rfl) pe_int)
      (pss_cons (ps_for PassesOwn.never rfl (pi_list (pv 0)) (pg_name (i := 4) sc__law_mixed.nd rfl (Or.inl rfl)) (pss_cons (ps_set (i := 5) sc__law_mixed.nd rfl (Or.inl rfl) (pe_op op_add pe_int (pe_call (ok__law_digit T) (hr.mono (by decide)) (by rfl) T.g__law_digit T.F__law_digit.kp T.b__law_digit .nil pass0 (pa_cons (pv 1) (pa_cons pe_int pa_nil)))))
      (pss_cons (ps_set (i := 2) sc__law_mixed.nd rfl (Or.inl rfl) (pe_call (ok__law_slid T) hr (by rfl) T.g__law_slid T.F__law_slid.kp T.b__law_slid .nil pass0 (pa_cons (pv 2) (pa_cons (pe_call (ok__law_point T) (hr.mono (by decide)) (by rfl) T.g__law_point T.F__law_point.kp T.b__law_point .nil pass0 (pa_cons (pe_op op_mulW (pe_ix (r := rIxT K) ix_tup (pv 4) pe_int (fun _ _ => rfl)) (pv 5)) (pa_cons (pe_op op_mulW (pe_ix (r := rIxT K) ix_tup (pv 4) pe_int (fun _ _ => rfl)) (pv 5)) (pa_cons (pe_ix (r := rIxT K) ix_tup (pv 4) pe_int (fun _ _ => rfl)) pa_nil)))) pa_nil))))
      (pss_one (ps_aug (i := 3) sc__law_mixed.nd rfl (Or.inl rfl) (pv 5) ip_add)))))
      (pss_one (ps_ret (pe_call (ok__law_point T) (hr.mono (by decide)) (by rfl) T.g__law_point T.F__law_point.kp T.b__law_point .nil pass0 (pa_cons (pe_ix (r := rIxT K) ix_tup (pv 2) pe_int (fun _ _ => rfl)) (pa_cons (pe_ix (r := rIxT K) ix_tup (pv 2) pe_int (fun _ _ => rfl)) (pa_cons (pe_op op_mulW (pe_ix (r := rIxT K) ix_tup (pv 2) pe_int (fun _ _ => rfl)) (pv 3)) pa_nil))))))))), ?_⟩
    have L0 : Lo ⟨K, X, H, muts [.imm (enc (a__law_ring : (List (T3 Int Int Int)))), .mu p__law_bag_here (ml (a__law_bag_here : (List Int)))], n__law_mixed.length⟩ X H (L2.start n__law_mixed vs) [.imm (enc (a__law_ring : (List (T3 Int Int Int)))), .mu p__law_bag_here (ml (a__law_bag_here : (List Int))), .unk, .unk, .unk, .unk] := c.start n__law_mixed (show (2 : Nat) ≤ 6 by decide)
    unfold m__law_mixed at hm
    refine x_seq (x_asg (x_tup (x_cons (x_c (x_cons (x_c (x_cons (x_c (x_nil (x_mkT L0 (.cons (.int _) (.cons (.int _) (.cons (.int _) .nil))) (show (3 : Nat) ≤ 16777216 by decide) fun v1 _ L1 le1 r1 => have r2 : Rep _ _ _ (enc ((T3.mk 0 0 1) : (T3 Int Int Int))) v1 := r1; x_bset (x0 := (T3.mk 0 0 1)) (d := fun found_1 => (enc (found_1 : (T3 Int Int Int)))) (Γf := fun found_1 => [.imm (enc (a__law_ring : (List (T3 Int Int Int)))), .mu p__law_bag_here (ml (a__law_bag_here : (List Int))), .imm (enc (found_1 : (T3 Int Int Int))), .unk, .unk, .unk]) hm L1 r2 (show (2 : Nat) < 6 by decide) (fun _ => rfl) fun found_1 _ hm1 L2 => ?_))))))))))
    refine x_seq (x_asg (x_c (x_set (d := (.int 0)) (Γ' := [.imm (enc (a__law_ring : (List (T3 Int Int Int)))), .mu p__law_bag_here (ml (a__law_bag_here : (List Int))), .imm (enc (found_1 : (T3 Int Int Int))), .imm (.int 0), .unk, .unk]) L2 (.int _) (show (3 : Nat) < 6 by decide) rfl fun _ L3 => ?_)))
    refine x_seq (x_tforL (x_vd (d := (enc (a__law_ring : (List (T3 Int Int Int))))) L3 rfl fun v2 r3 => x_foL (G := (fun (s1 : ((List Int) × (T3 Int Int Int) × Int)) => [.imm (enc (a__law_ring : (List (T3 Int Int Int)))), .mu p__law_bag_here (ml (s1.1 : (List Int))), .imm (enc (s1.2.1 : (T3 Int Int Int))), .imm (.int s1.2.2), .unk, .unk])) (s0 := (a__law_bag_here, found_1, 0)) (xs := a__law_ring) (L3.weak (Γ' := [.imm (enc (a__law_ring : (List (T3 Int Int Int)))), .mu p__law_bag_here (ml (a__law_bag_here : (List Int))), .imm (enc (found_1 : (T3 Int Int Int))), .imm (.int 0), .unk, .unk]) (.k (.k (.k (.k (.k (.k .e))))))) (fun _ _ => rfl) r3 hm1 (fun x1 s1 H1 _ u1 _ _ _ _ _ hm2 L4 _ r4 hN1 hC1 => ?_) (fun s2 _ _ hm3 L5 => ?_)))
    · refine x_set (d := (enc (x1 : (T3 Int Int Int)))) (Γ' := [.imm (enc (a__law_ring : (List (T3 Int Int Int)))), .mu p__law_bag_here (ml (s1.1 : (List Int))), .imm (enc (s1.2.1 : (T3 Int Int Int))), .imm (.int s1.2.2), .imm (enc (x1 : (T3 Int Int Int))), .unk]) L4 r4 (show (4 : Nat) < 6 by decide) rfl fun _ L6 => ?_
      refine x_seq (x_asg (x_op (x_c (x_call (x_cons (x_vm L6 rfl (x_cons (x_c (x_nil (obE hm2 fun z1 hz1 hm5 => mk__law_digit hz1 (L6.cond1 (i := 1) (.m (L6.mrep (i := 1) rfl) (.im (.int _) .nil)) rfl rfl rfl) fun _ F2 => k1 L6 F2 (i := 1) (Γ' := [.imm (enc (a__law_ring : (List (T3 Int Int Int)))), .mu p__law_bag_here (ml (z1.2 : (List Int))), .imm (enc (s1.2.1 : (T3 Int Int Int))), .imm (.int s1.2.2), .imm (enc (x1 : (T3 Int Int Int))), .unk]) rfl rfl rfl fun L7 le2 => x_r0 (x_bset (x0 := (1 + z1.1)) (d := fun weight_1 => (.int weight_1)) (Γf := fun weight_1 => [.imm (enc (a__law_ring : (List (T3 Int Int Int)))), .mu p__law_bag_here (ml (z1.2 : (List Int))), .imm (enc (s1.2.1 : (T3 Int Int Int))), .imm (.int s1.2.2), .imm (enc (x1 : (T3 Int Int Int))), .imm (.int weight_1)]) hm5 L7 (.int _) (show (5 : Nat) < 6 by decide) (fun _ => rfl) fun weight_1 _ hm6 L8 => ?_)))))))))))
      refine x_seq (x_asg (x_call (x_cons (x_vd (d := (enc (s1.2.1 : (T3 Int Int Int)))) L8 rfl fun v4 r5 => x_cons (x_call (x_cons (x_op (x_op (x_vd (d := (enc (x1 : (T3 Int Int Int)))) L8 rfl fun v5 r6 => x_c (x_ixTI (x := x1.a) r6 rfl (x_vI (x := weight_1) L8 rfl (x_mul hm6 fun z2 _ hm7 => x_cons (x_op (x_op (x_vd (d := (enc (x1 : (T3 Int Int Int)))) L8 rfl fun v6 r7 => x_c (x_ixTI (x := x1.b) r7 rfl (x_vI (x := weight_1) L8 rfl (x_mul hm7 fun z3 _ hm8 => x_cons (x_op (x_vd (d := (enc (x1 : (T3 Int Int Int)))) L8 rfl fun v7 r8 => x_c (x_ixTI (x := x1.c) r8 rfl (x_nil (obE hm8 fun z4 hz2 hm9 => mk__law_point hz2 (L8.cond0 (.im (.int _) (.im (.int _) (.im (.int _) .nil))) rfl) fun v8 _ F3 => k0d L8 F3 fun L9 le3 r9 => have r10 := le3 _ _ r5; x_nil (obE hm9 fun z5 hz3 hm10 => mk__law_slid hz3 (L9.cond0 (.im r10 (.im r9 .nil)) rfl) fun v9 _ F4 => k0d L9 F4 fun L10 le4 r11 => x_set (d := (enc (z5 : (T3 Int Int Int)))) (Γ' := [.imm (enc (a__law_ring : (List (T3 Int Int Int)))), .mu p__law_bag_here (ml (z1.2 : (List Int))), .imm (enc (z5 : (T3 Int Int Int))), .imm (.int s1.2.2), .imm (enc (x1 : (T3 Int Int Int))), .imm (.int weight_1)]) L10 r11 (show (2 : Nat) < 6 by decide) rfl fun _ L11 => ?_))))))))))))))))))))))))
      refine x_aug (x := s1.2.2) L11 rfl (x_vI (x := weight_1) L11 rfl (x_augI (obE hm10 fun weights_1 hahm11 hm11 => x_augS (z := (s1.2.2 + weight_1)) (Γ' := [.imm (enc (a__law_ring : (List (T3 Int Int Int)))), .mu p__law_bag_here (ml (z1.2 : (List Int))), .imm (enc (z5 : (T3 Int Int Int))), .imm (.int weights_1), .imm (enc (x1 : (T3 Int Int Int))), .imm (.int weight_1)]) L11 (show (3 : Nat) < 6 by decide) (by cases hahm11; rfl) fun _ L12 => ?_)))
      exact x_leaf (G := (fun (s1 : ((List Int) × (T3 Int Int Int) × Int)) => [.imm (enc (a__law_ring : (List (T3 Int Int Int)))), .mu p__law_bag_here (ml (s1.1 : (List Int))), .imm (enc (s1.2.1 : (T3 Int Int Int))), .imm (.int s1.2.2), .unk, .unk])) (e := (z1.2, z5, weights_1)) hm11 hN1 (L12.weak (Γ' := [.imm (enc (a__law_ring : (List (T3 Int Int Int)))), .mu p__law_bag_here (ml (z1.2 : (List Int))), .imm (enc (z5 : (T3 Int Int Int))), .imm (.int weights_1), .unk, .unk]) (.k (.k (.k (.k (.d (.d .e)))))))
    exact x_ret (x_call (x_cons (x_op (x_vd (d := (enc (s2.2.1 : (T3 Int Int Int)))) L5 rfl fun v10 r12 => x_c (x_ixTI (x := s2.2.1.a) r12 rfl (x_cons (x_op (x_vd (d := (enc (s2.2.1 : (T3 Int Int Int)))) L5 rfl fun v11 r13 => x_c (x_ixTI (x := s2.2.1.b) r13 rfl (x_cons (x_op (x_op (x_vd (d := (enc (s2.2.1 : (T3 Int Int Int)))) L5 rfl fun v12 r14 => x_c (x_ixTI (x := s2.2.1.c) r14 rfl (x_vI (x := s2.2.2) L5 rfl (x_mul hm3 fun z6 _ hm12 => x_nil (obE hm12 fun z7 hz4 hm13 => mk__law_point hz4 (L5.cond0 (.im (.int _) (.im (.int _) (.im (.int _) .nil))) rfl) fun v13 _ F5 => k0d L5 F5 fun L13 le5 r15 => x_fin (Q := Q) (ps := (fun (r : ((T3 Int Int Int) × (List Int))) => [(p__law_bag_here, (ml (r.2 : (List Int))))])) (rs := (fun (r : ((T3 Int Int Int) × (List Int))) => (.imm (enc (r.1 : (T3 Int Int Int)))))) (e := (z7, s2.1)) hm13 kont (L13.fin (hp1 (L13.mrep (i := 1) rfl)) r15))))))))))))))))))
abbrev sp__law_twice_area (K : PySem.W.Frag) : Sp := fun vs H Q _ => ∃ (X : Addr → Prop)  (a__law_ring : (List (T3 Int Int Int))) (r : (T3 Int Int Int)), m__law_twice_area a__law_ring = some r ∧ Cond K X H [.imm (enc (a__law_ring : (List (T3 Int Int Int))))] vs ∧ ∀ v H', Fin K X H [] [] (.imm (enc (r : (T3 Int Int Int)))) v H' → Q v H'
theorem mk__law_twice_area {K : PySem.W.Frag} {X : Addr → Prop} {H : Hp} {vs : List V} {Q : VK} {E : XK}  {a__law_ring : (List (T3 Int Int Int))} {r : (T3 Int Int Int)} (hm : m__law_twice_area a__law_ring = some r) (c : Cond K X H [.imm (enc (a__law_ring : (List (T3 Int Int Int))))] vs) (k : ∀ v H', Fin K X H [] [] (.imm (enc (r : (T3 Int Int Int)))) v H' → Q v H') : sp__law_twice_area K vs H Q E := ⟨X, a__law_ring, r, hm, c, k⟩
abbrev n__law_twice_area : List Str := ["_law_ring", "_law_top", "_law_bottom", "_law_k", "_law_p", "_law_q"]
theorem sc__law_twice_area : FnScope n__law_twice_area ["_law_ring"] (defScope s__law_twice_area) := ⟨rfl, rfl, rfl, by decide +kernel, rfl, by decide +kernel, by decide +kernel⟩
theorem ok__law_twice_area (T : Txt K mg) : FnOk P w K mg base CX0 2 T.A__law_twice_area T.D__law_twice_area ["_law_ring"] (sp__law_twice_area K) := by
  refine Fun.ok T.F__law_twice_area sc__law_twice_area (fun vs H Q E h => ?_) (fun cdv A outer s H vs Q E hr h => ?_)
  · obtain ⟨X, a__law_ring, r, hm, c, kont⟩ := h
    exact c.len
  · obtain ⟨X, a__law_ring, r, hm, c, kont⟩ := h
    refine ⟨_, (pss_cons (ps_set (i := 1) sc__law_twice_area.nd rfl (Or.inl rfl) pe_int)
      (pss_cons (ps_set (i := 2) sc__law_twice_area.nd rfl (Or.inl rfl) pe_int)
      (pss_cons (ps_for PassesOwn.never rfl (pi_range1 (by rfl) T.z_range (pa_cons (pe_callB (r := rLenX K) call_lenX (by rfl) T.z_len (by decide +kernel) (pa_cons (pv 0) pa_nil)) pa_nil)) (pg_name (i := 3) sc__law_twice_area.nd rfl (Or.inl rfl)) (pss_cons (ps_set (i := 4) sc__law_twice_area.nd rfl (Or.inl rfl) (pe_ix (r := rIxL K) ix_list (pv 0) (pe_op op_sub (pv 3) pe_int) (fun _ _ => rfl)))
      (pss_cons (ps_set (i := 5) sc__law_twice_area.nd rfl (Or.inl rfl) (pe_ix (r := rIxL K) ix_list (pv 0) (pv 3) (fun _ _ => rfl)))
      (pss_cons (ps_set (i := 1) sc__law_twice_area.nd rfl (Or.inl rfl) (pe_op op_add (pe_op op_mulW (pe_op op_mulW (pv 1) (pe_ix (r := rIxT K) ix_tup (pv 4) pe_int (fun _ _ => rfl))) (pe_ix (r := rIxT K) ix_tup (pv 5) pe_int (fun _ _ => rfl))) (pe_op op_mulW (pe_op op_sub (pe_op op_mulW (pe_ix (r := rIxT K) ix_tup (pv 4) pe_int (fun _ _ => rfl)) (pe_ix (r := rIxT K) ix_tup (pv 5) pe_int (fun _ _ => rfl))) (pe_op op_mulW (pe_ix (r := rIxT K) ix_tup (pv 4) pe_int (fun _ _ => rfl)) (pe_ix (r := rIxT K) ix_tup (pv 5) pe_int (fun _ _ => rfl)))) (pv 2))))
      (pss_one (ps_set (i := 2) sc__law_twice_area.nd rfl (Or.inl rfl) (pe_op op_mulW (pe_op op_mulW (pv 2) (pe_ix (r := rIxT K) ix_tup (pv 4) pe_int (fun _ _ => rfl))) (pe_ix (r := rIxT K) ix_tup (pv 5) pe_int (fun _ _ => rfl)))))))))
      (pss_one (ps_ret (pe_call (ok__law_point T) hr (by rfl) T.g__law_point T.F__law_point.kp T.b__law_point .nil pass0 (pa_cons (pv 1) (pa_cons pe_int (pa_cons (pv 2) pa_nil))))))))), ?_⟩
    have L0 : Lo ⟨K, X, H, muts [.imm (enc (a__law_ring : (List (T3 Int Int Int))))], n__law_twice_area.length⟩ X H (L2.start n__law_twice_area vs) [.imm (enc (a__law_ring : (List (T3 Int Int Int)))), .unk, .unk, .unk, .unk, .unk] := c.start n__law_twice_area (show (1 : Nat) ≤ 6 by decide)
    unfold m__law_twice_area at hm
    refine x_seq (x_asg (x_c (x_set (d := (.int 0)) (Γ' := [.imm (enc (a__law_ring : (List (T3 Int Int Int)))), .imm (.int 0), .unk, .unk, .unk, .unk]) L0 (.int _) (show (1 : Nat) < 6 by decide) rfl fun _ L1 => ?_)))
    refine x_seq (x_asg (x_c (x_set (d := (.int 1)) (Γ' := [.imm (enc (a__law_ring : (List (T3 Int Int Int)))), .imm (.int 0), .imm (.int 1), .unk, .unk, .unk]) L1 (.int _) (show (2 : Nat) < 6 by decide) rfl fun _ L2 => ?_)))
    refine x_seq (x_tforR1 (x_cons (x_cb (x_cons (x_vd (d := (enc (a__law_ring : (List (T3 Int Int Int))))) L2 rfl fun v1 r1 => x_nil (x_lenL (xs := a__law_ring) r1 (x_nil (x_r1 hm fun hm1 => x_foR (G := (fun (s1 : (Int × Int)) => [.imm (enc (a__law_ring : (List (T3 Int Int Int)))), .imm (.int s1.1), .imm (.int s1.2), .unk, .unk, .unk])) (s0 := (0, 1)) (L2.weak (Γ' := [.imm (enc (a__law_ring : (List (T3 Int Int Int)))), .imm (.int 0), .imm (.int 1), .unk, .unk, .unk]) (.k (.k (.k (.k (.k (.k .e))))))) (fun _ _ => rfl) hm1 (fun x1 s1 H1 _ u1 _ _ _ _ _ hm2 L3 _ r2 hN1 hC1 => ?_) (fun s2 _ _ hm3 L4 => ?_)))))))))
    · refine x_set (d := (.int x1)) (Γ' := [.imm (enc (a__law_ring : (List (T3 Int Int Int)))), .imm (.int s1.1), .imm (.int s1.2), .imm (.int x1), .unk, .unk]) L3 r2 (show (3 : Nat) < 6 by decide) rfl fun _ L5 => ?_
      refine x_seq (x_asg (x_op (x_vd (d := (enc (a__law_ring : (List (T3 Int Int Int))))) L5 rfl fun v2 r3 => x_op (x_vI (x := x1) L5 rfl (x_c (x_r0 (x_ixL (xs := a__law_ring) hm2 r3 fun x2 v3 _ hm5 r4 => x_set (d := (enc (x2 : (T3 Int Int Int)))) (Γ' := [.imm (enc (a__law_ring : (List (T3 Int Int Int)))), .imm (.int s1.1), .imm (.int s1.2), .imm (.int x1), .imm (enc (x2 : (T3 Int Int Int))), .unk]) L5 r4 (show (4 : Nat) < 6 by decide) rfl fun _ L6 => ?_)))))))
      refine x_seq (x_asg (x_op (x_vd (d := (enc (a__law_ring : (List (T3 Int Int Int))))) L6 rfl fun v4 r5 => x_vI (x := x1) L6 rfl (x_ixL (xs := a__law_ring) hm5 r5 fun x3 v5 _ hm6 r6 => x_set (d := (enc (x3 : (T3 Int Int Int)))) (Γ' := [.imm (enc (a__law_ring : (List (T3 Int Int Int)))), .imm (.int s1.1), .imm (.int s1.2), .imm (.int x1), .imm (enc (x2 : (T3 Int Int Int))), .imm (enc (x3 : (T3 Int Int Int)))]) L6 r6 (show (5 : Nat) < 6 by decide) rfl fun _ L7 => ?_))))
      refine x_seq (x_asg (x_op (x_op (x_op (x_vI (x := s1.1) L7 rfl (x_op (x_vd (d := (enc (x2 : (T3 Int Int Int)))) L7 rfl fun v6 r7 => x_c (x_ixTI (x := x2.c) r7 rfl (x_mul hm6 fun z1 _ hm7 => x_op (x_vd (d := (enc (x3 : (T3 Int Int Int)))) L7 rfl fun v7 r8 => x_c (x_ixTI (x := x3.c) r8 rfl (x_mul hm7 fun z2 _ hm8 => x_op (x_op (x_op (x_op (x_vd (d := (enc (x2 : (T3 Int Int Int)))) L7 rfl fun v8 r9 => x_c (x_ixTI (x := x2.a) r9 rfl (x_op (x_vd (d := (enc (x3 : (T3 Int Int Int)))) L7 rfl fun v9 r10 => x_c (x_ixTI (x := x3.b) r10 rfl (x_mul hm8 fun z3 _ hm9 => x_op (x_op (x_vd (d := (enc (x2 : (T3 Int Int Int)))) L7 rfl fun v10 r11 => x_c (x_ixTI (x := x2.b) r11 rfl (x_op (x_vd (d := (enc (x3 : (T3 Int Int Int)))) L7 rfl fun v11 r12 => x_c (x_ixTI (x := x3.a) r12 rfl (x_mul hm9 fun z4 _ hm10 => x_r0 (x_vI (x := s1.2) L7 rfl (x_mul hm10 fun z5 _ hm11 => x_r0 (x_bset (x0 := (z2 + z5)) (d := fun top_1 => (.int top_1)) (Γf := fun top_1 => [.imm (enc (a__law_ring : (List (T3 Int Int Int)))), .imm (.int top_1), .imm (.int s1.2), .imm (.int x1), .imm (enc (x2 : (T3 Int Int Int))), .imm (enc (x3 : (T3 Int Int Int)))]) hm11 L7 (.int _) (show (1 : Nat) < 6 by decide) (fun _ => rfl) fun top_1 _ hm12 L8 => ?_)))))))))))))))))))))))))))))))
      refine x_asg (x_op (x_op (x_vI (x := s1.2) L8 rfl (x_op (x_vd (d := (enc (x2 : (T3 Int Int Int)))) L8 rfl fun v12 r13 => x_c (x_ixTI (x := x2.c) r13 rfl (x_mul hm12 fun z6 _ hm13 => x_op (x_vd (d := (enc (x3 : (T3 Int Int Int)))) L8 rfl fun v13 r14 => x_c (x_ixTI (x := x3.c) r14 rfl (x_mul hm13 fun z7 _ hm14 => x_set (d := (.int z7)) (Γ' := [.imm (enc (a__law_ring : (List (T3 Int Int Int)))), .imm (.int top_1), .imm (.int z7), .imm (.int x1), .imm (enc (x2 : (T3 Int Int Int))), .imm (enc (x3 : (T3 Int Int Int)))]) L8 (.int _) (show (2 : Nat) < 6 by decide) rfl fun _ L9 => ?_))))))))))
      exact x_leaf (G := (fun (s1 : (Int × Int)) => [.imm (enc (a__law_ring : (List (T3 Int Int Int)))), .imm (.int s1.1), .imm (.int s1.2), .unk, .unk, .unk])) (e := (top_1, z7)) hm14 hN1 (L9.weak (Γ' := [.imm (enc (a__law_ring : (List (T3 Int Int Int)))), .imm (.int top_1), .imm (.int z7), .unk, .unk, .unk]) (.k (.k (.k (.d (.d (.d .e)))))))
    exact x_ret (x_call (x_cons (x_vI (x := s2.1) L4 rfl (x_cons (x_c (x_cons (x_vI (x := s2.2) L4 rfl (x_nil (obE hm3 fun z8 hz1 hm15 => mk__law_point hz1 (L4.cond0 (.im (.int _) (.im (.int _) (.im (.int _) .nil))) rfl) fun v14 _ F2 => k0d L4 F2 fun L10 le1 r15 => x_fin (Q := Q) (ps := (fun (r : (T3 Int Int Int)) => [])) (rs := (fun (r : (T3 Int Int Int)) => (.imm (enc (r : (T3 Int Int Int)))))) (e := z8) hm15 kont (L10.fin hp0 r15))))))))))
abbrev sp__law_within (K : PySem.W.Frag) : Sp := fun vs H Q _ => ∃ (X : Addr → Prop)  (a__law_ring : (List (T3 Int Int Int))) (a__law_p : (T3 Int Int Int)) (r : Int), m__law_within a__law_ring a__law_p = some r ∧ Cond K X H [.imm (enc (a__law_ring : (List (T3 Int Int Int)))), .imm (enc (a__law_p : (T3 Int Int Int)))] vs ∧ ∀ H', Fin K X H [] [] (.imm (.int r)) (.int r) H' → Q (.int r) H'
theorem mk__law_within {K : PySem.W.Frag} {X : Addr → Prop} {H : Hp} {vs : List V} {Q : VK} {E : XK}  {a__law_ring : (List (T3 Int Int Int))} {a__law_p : (T3 Int Int Int)} {r : Int} (hm : m__law_within a__law_ring a__law_p = some r) (c : Cond K X H [.imm (enc (a__law_ring : (List (T3 Int Int Int)))), .imm (enc (a__law_p : (T3 Int Int Int)))] vs) (k : ∀ H', Fin K X H [] [] (.imm (.int r)) (.int r) H' → Q (.int r) H') : sp__law_within K vs H Q E := ⟨X, a__law_ring, a__law_p, r, hm, c, k⟩
abbrev n__law_within : List Str := ["_law_ring", "_law_p", "_law_found", "_law_k", "_law_hand"]
theorem sc__law_within : FnScope n__law_within ["_law_ring", "_law_p"] (defScope s__law_within) := ⟨rfl, rfl, rfl, by decide +kernel, rfl, by decide +kernel, by decide +kernel⟩
theorem ok__law_within (T : Txt K mg) : FnOk P w K mg base CX0 2 T.A__law_within T.D__law_within ["_law_ring", "_law_p"] (sp__law_within K) := by
  refine Fun.ok T.F__law_within sc__law_within (fun vs H Q E h => ?_) (fun cdv A outer s H vs Q E hr h => ?_)
  · obtain ⟨X, a__law_ring, a__law_p, r, hm, c, kont⟩ := h
    exact c.len
  · obtain ⟨X, a__law_ring, a__law_p, r, hm, c, kont⟩ := h
    refine ⟨_, (pss_cons (ps_set (i := 2) sc__law_within.nd rfl (Or.inl rfl) pe_int)
      (pss_cons (ps_for PassesOwn.never rfl (pi_range1 (by rfl) T.z_range (pa_cons (pe_callB (r := rLenX K) call_lenX (by rfl) T.z_len (by decide +kernel) (pa_cons (pv 0) pa_nil)) pa_nil)) (pg_name (i := 3) sc__law_within.nd rfl (Or.inl rfl)) (pss_cons (ps_set (i := 4) sc__law_within.nd rfl (Or.inl rfl) (pe_call (ok__law_side T) hr (by rfl) T.g__law_side T.F__law_side.kp T.b__law_side .nil pass0 (pa_cons (pe_ix (r := rIxL K) ix_list (pv 0) (pe_op op_sub (pv 3) pe_int) (fun _ _ => rfl)) (pa_cons (pe_ix (r := rIxL K) ix_list (pv 0) (pv 3) (fun _ _ => rfl)) (pa_cons (pv 1) pa_nil)))))
      (pss_cons (ps_if (pt_cmpR op_lt (pv 4) pe_int (nomark _)) (pss_one (ps_ret pe_int)) pss_nil)
      (pss_one (ps_if (pt_cmpR op_eq (pv 4) pe_int (nomark _)) (pss_one (ps_set (i := 2) sc__law_within.nd rfl (Or.inl rfl) (pe_un un_neg pe_int))) pss_nil)))))
      (pss_one (ps_ret (pv 2))))), ?_⟩
    have L0 : Lo ⟨K, X, H, muts [.imm (enc (a__law_ring : (List (T3 Int Int Int)))), .imm (enc (a__law_p : (T3 Int Int Int)))], n__law_within.length⟩ X H (L2.start n__law_within vs) [.imm (enc (a__law_ring : (List (T3 Int Int Int)))), .imm (enc (a__law_p : (T3 Int Int Int))), .unk, .unk, .unk] := c.start n__law_within (show (2 : Nat) ≤ 5 by decide)
    unfold m__law_within at hm
    refine x_seq (x_asg (x_c (x_set (d := (.int 1)) (Γ' := [.imm (enc (a__law_ring : (List (T3 Int Int Int)))), .imm (enc (a__law_p : (T3 Int Int Int))), .imm (.int 1), .unk, .unk]) L0 (.int _) (show (2 : Nat) < 5 by decide) rfl fun _ L1 => ?_)))
    refine x_seq (x_tforR1 (x_cons (x_cb (x_cons (x_vd (d := (enc (a__law_ring : (List (T3 Int Int Int))))) L1 rfl fun v1 r1 => x_nil (x_lenL (xs := a__law_ring) r1 (x_nil (x_r1 hm fun hm1 => x_flR (G := (fun (s1 : Int) => [.imm (enc (a__law_ring : (List (T3 Int Int Int)))), .imm (enc (a__law_p : (T3 Int Int Int))), .imm (.int s1), .unk, .unk])) (s0 := 1) (ps := (fun (r : Int) => [])) (rs := (fun (r : Int) => (.imm (.int r)))) (L1.weak (Γ' := [.imm (enc (a__law_ring : (List (T3 Int Int Int)))), .imm (enc (a__law_p : (T3 Int Int Int))), .imm (.int 1), .unk, .unk]) (.k (.k (.k (.k (.k .e)))))) (fun _ _ => rfl) hm1 (fun x1 s1 H1 _ u1 _ _ _ _ _ hm2 L2 _ r2 hN1 hC1 hB1 hR1 => ?_) (fun s2 _ _ hm3 L3 => ?_) (fun _ _ _ hm4 F1 => x_finRI (Q := Q) (ps := (fun (r : Int) => [])) (sc := fun (r : Int) => r) hm4 kont F1)))))))))
    · refine x_set (d := (.int x1)) (Γ' := [.imm (enc (a__law_ring : (List (T3 Int Int Int)))), .imm (enc (a__law_p : (T3 Int Int Int))), .imm (.int s1), .imm (.int x1), .unk]) L2 r2 (show (3 : Nat) < 5 by decide) rfl fun _ L4 => ?_
      refine x_seq (x_asg (x_call (x_cons (x_op (x_vd (d := (enc (a__law_ring : (List (T3 Int Int Int))))) L4 rfl fun v2 r3 => x_op (x_vI (x := x1) L4 rfl (x_c (x_r0 (x_ixL (xs := a__law_ring) hm2 r3 fun x2 v3 _ hm5 r4 => x_cons (x_op (x_vd (d := (enc (a__law_ring : (List (T3 Int Int Int))))) L4 rfl fun v4 r5 => x_vI (x := x1) L4 rfl (x_ixL (xs := a__law_ring) hm5 r5 fun x3 v5 _ hm6 r6 => x_cons (x_vd (d := (enc (a__law_p : (T3 Int Int Int)))) L4 rfl fun v6 r7 => x_nil (obE hm6 fun z1 hz1 hm7 => mk__law_side hz1 (L4.cond0 (.im r4 (.im r6 (.im r7 .nil))) rfl) fun _ F2 => k0 L4 F2 fun L5 le1 => x_set (d := (.int z1)) (Γ' := [.imm (enc (a__law_ring : (List (T3 Int Int Int)))), .imm (enc (a__law_p : (T3 Int Int Int))), .imm (.int s1), .imm (.int x1), .imm (.int z1)]) L5 (.int _) (show (4 : Nat) < 5 by decide) rfl fun _ L6 => ?_))))))))))))))
      refine x_seq (x_ifS (x_test (x_op (x_vI (x := z1) L6 rfl (x_c (x_r0 (x_kb (x_if hm7 (fun hm8 => ?_) fun hm8 => ?_))))))))
      · exact x_ret (x_c (x_leafR (ps := (fun (r : Int) => [])) (rs := (fun (r : Int) => (.imm (.int r)))) (e := 0) hm8 hR1 (L6.fin hp0 (.int _))))
      · refine x_next ?_
        refine x_ifS (x_test (x_op (x_vI (x := z1) L6 rfl (x_c (x_eqi (x_kb (x_join (G := (fun (s3 : Int) => [.imm (enc (a__law_ring : (List (T3 Int Int Int)))), .imm (enc (a__law_p : (T3 Int Int Int))), .imm (.int s3), .imm (.int x1), .imm (.int z1)])) L6 hm8 (fun _ hm9 _ hN2 => ?_) (fun _ hm9 _ hN2 => ?_) fun s3 X1 _ _ hm10 L7 => ?_)))))))
        · refine x_asg (x_un (x_c (x_u (x_bset (x0 := (-1)) (d := fun found_1 => (.int found_1)) (Γf := fun found_1 => [.imm (enc (a__law_ring : (List (T3 Int Int Int)))), .imm (enc (a__law_p : (T3 Int Int Int))), .imm (.int found_1), .imm (.int x1), .imm (.int z1)]) hm9 L6 (.int _) (show (2 : Nat) < 5 by decide) (fun _ => rfl) fun found_1 _ hm11 L8 => ?_))))
          exact x_leaf (G := (fun (s3 : Int) => [.imm (enc (a__law_ring : (List (T3 Int Int Int)))), .imm (enc (a__law_p : (T3 Int Int Int))), .imm (.int s3), .imm (.int x1), .imm (.int z1)])) (e := found_1) hm11 hN2 (L8.weak (Γ' := [.imm (enc (a__law_ring : (List (T3 Int Int Int)))), .imm (enc (a__law_p : (T3 Int Int Int))), .imm (.int found_1), .imm (.int x1), .imm (.int z1)]) (.k (.k (.k (.k (.k .e))))))
        · refine x_next ?_
          exact x_leaf (G := (fun (s3 : Int) => [.imm (enc (a__law_ring : (List (T3 Int Int Int)))), .imm (enc (a__law_p : (T3 Int Int Int))), .imm (.int s3), .imm (.int x1), .imm (.int z1)])) (e := s1) hm9 hN2 (L6.weak (Γ' := [.imm (enc (a__law_ring : (List (T3 Int Int Int)))), .imm (enc (a__law_p : (T3 Int Int Int))), .imm (.int s1), .imm (.int x1), .imm (.int z1)]) (.k (.k (.k (.k (.k .e))))))
        exact x_leafN (G := (fun (s1 : Int) => [.imm (enc (a__law_ring : (List (T3 Int Int Int)))), .imm (enc (a__law_p : (T3 Int Int Int))), .imm (.int s1), .unk, .unk])) (e := s3) hm10 hN1 (L7.weak (Γ' := [.imm (enc (a__law_ring : (List (T3 Int Int Int)))), .imm (enc (a__law_p : (T3 Int Int Int))), .imm (.int s3), .unk, .unk]) (.k (.k (.k (.d (.d .e))))))
    exact x_ret (x_vI (x := s2) L3 rfl (x_finI (Q := Q) (ps := (fun (r : Int) => [])) (sc := fun (r : Int) => r) s2 hm3 kont (L3.fin hp0 (.int _))))
abbrev sp_law (K : PySem.W.Frag) : Sp := fun vs H Q _ => ∃ (X : Addr → Prop)  (a__law_script : (List Int)) (r : Bool), m_law a__law_script = some r ∧ Cond K X H [.scr a__law_script] vs ∧ ∀ H', Fin K X H [] [] (.imm (.bool r)) (.bl r) H' → Q (.bl r) H'
theorem mk_law {K : PySem.W.Frag} {X : Addr → Prop} {H : Hp} {vs : List V} {Q : VK} {E : XK}  {a__law_script : (List Int)} {r : Bool} (hm : m_law a__law_script = some r) (c : Cond K X H [.scr a__law_script] vs) (k : ∀ H', Fin K X H [] [] (.imm (.bool r)) (.bl r) H' → Q (.bl r) H') : sp_law K vs H Q E := ⟨X, a__law_script, r, hm, c, k⟩
abbrev n_law : List Str := ["_law_script", "_law_one", "_law_bag_here", "_law_other", "_law_handed", "_law_found", "_law_back", "_law_spots", "_law_k", "_law_p", "_law_spot_here", "_law_hands", "_law_both"]
theorem sc_law : FnScope n_law ["_law_script"] (defScope s_law) := ⟨rfl, rfl, rfl, by decide +kernel, rfl, by decide +kernel, by decide +kernel⟩
theorem ok_law (T : Txt K mg) : FnOk P w K mg base CX0 6 T.A_law T.D_law ["_law_script"] (sp_law K) := by
  refine Fun.ok T.F_law sc_law (fun vs H Q E h => ?_) (fun cdv A outer s H vs Q E hr h => ?_)
  · obtain ⟨X, a__law_script, r, hm, c, kont⟩ := h
    exact c.len
  · obtain ⟨X, a__law_script, r, hm, c, kont⟩ := h
    refine ⟨_, (pss_cons (ps_set (i := 1) sc_law.nd rfl (Or.inl rfl) (pe_call (ok__law_bulging T) (hr.mono (by decide)) (by rfl) T.g__law_bulging T.F__law_bulging.kp T.b__law_bulging .nil pass0 (pa_cons (pe_call (ok__law_bag T) (hr.mono (by decide)) (by rfl) T.g__law_bag T.F__law_bag.kp T.b__law_bag .nil pass0 (pa_cons (pe_call (ok__law_cell T) (hr.mono (by decide)) (by rfl) T.g__law_cell T.F__law_cell.kp T.b__law_cell .nil pass0 (pa_cons (pv 0) (pa_cons pe_int pa_nil))) pa_nil)) (pa_cons pe_int pa_nil))))
      (pss_cons (ps_set (i := 2) sc_law.nd rfl (Or.inr rfl) (pe_call (ok__law_bag T) (hr.mono (by decide)) (by rfl) T.g__law_bag T.F__law_bag.kp T.b__law_bag .nil pass0 (pa_cons (pe_call (ok__law_cell T) (hr.mono (by decide)) (by rfl) T.g__law_cell T.F__law_cell.kp T.b__law_cell .nil pass0 (pa_cons (pv 0) (pa_cons pe_int pa_nil))) pa_nil)))
      (pss_cons (ps_set (i := 3) sc_law.nd rfl (Or.inl rfl) (pe_call (ok__law_second T) hr (by rfl) T.g__law_second T.F__law_second.kp T.b__law_second .nil pass0 (pa_cons (pv 1) (pa_cons (pv 2) pa_nil))))
      (pss_cons (ps_set (i := 4) sc_law.nd rfl (Or.inl rfl) (pe_lst (pa_cons (pe_callTy (r := rListX K) call_listX (by rfl) T.z_list (by decide +kernel) (pa_cons (pv 1) pa_nil)) (pa_cons (pe_callTy (r := rListX K) call_listX (by rfl) T.z_list (by decide +kernel) (pa_cons (pv 3) pa_nil)) pa_nil))))
      (pss_cons (ps_set (i := 5) sc_law.nd rfl (Or.inr rfl) (pe_call (ok_common T) hr (by rfl) T.g_common T.F_common.kp T.b_common .nil pass0 (pa_cons (pe_ix (r := rIxL K) ix_list (pv 4) pe_int (fun _ _ => rfl)) (pa_cons (pe_ix (r := rIxL K) ix_list (pv 4) pe_int (fun _ _ => rfl)) pa_nil))))
      (pss_cons (ps_set (i := 6) sc_law.nd rfl (Or.inl rfl) (pe_call (ok_common T) hr (by rfl) T.g_common T.F_common.kp T.b_common .nil pass0 (pa_cons (pe_ix (r := rIxL K) ix_list (pv 4) pe_int (fun _ _ => rfl)) (pa_cons (pe_ix (r := rIxL K) ix_list (pv 4) pe_int (fun _ _ => rfl)) pa_nil))))
      (pss_cons (ps_if (PW.pt (pw_or (pt_cmpR (r := rNeD K) (op_neD hr.units) (pv 4) (pe_lst (pa_cons (pv 1) (pa_cons (pv 3) pa_nil))) (nomark _)) (pw_or1 (pt_cmpR op_ne (pe_cmpR op_isNX (pv 5) pe_non (nomark _)) (pe_cmpR op_isNX (pv 6) pe_non (nomark _)) (nomark _))))) (pss_one (ps_ret pe_bl)) pss_nil)
      (pss_cons (ps_setLc (i := 7) (own := [("_law_k", 8)])  (g := gName 8) (tt := tYes) rfl sc_law.nd rfl rfl (sw_true rfl rfl rfl (by decide +kernel)) (pi_range1 (by rfl) T.z_range (pa_cons pe_int pa_nil)) (blkOk_by (N := n_law) (sc := defScope s_law) (by decide +kernel)) (fun _ _ _ _ _ => (pg_name (i := 8) sc_law.nd rfl (Or.inl rfl))) (fun _ _ _ _ _ => pts_nil) (fun _ _ _ _ _ => (pe_call (ok__law_spot T) (hr.mono (by decide)) (by rfl) T.g__law_spot T.F__law_spot.kp T.b__law_spot .nil pass0 (pa_cons (pv 2) (pa_cons pe_int pa_nil)))))
      (pss_cons (ps_for PassesOwn.never rfl (pi_range1 (by rfl) T.z_range (pa_cons pe_int pa_nil)) (pg_name (i := 8) sc_law.nd rfl (Or.inl rfl)) (pss_one (ps_expr (pe_bm PySem.F.plainAttrs_list PySem.F.slot_list_extend PySem.F.type_list_extend mt_extendR (pv 7) (pa_cons (pe_lst (pa_cons (pe_call (ok__law_mixed T) (hr.mono (by decide)) (by rfl) T.g__law_mixed T.F__law_mixed.kp T.b__law_mixed .nil pass0 (pa_cons (pv 1) (pa_cons (pv 2) pa_nil))) (pa_cons (pe_call (ok__law_mixed T) (hr.mono (by decide)) (by rfl) T.g__law_mixed T.F__law_mixed.kp T.b__law_mixed .nil pass0 (pa_cons (pv 3) (pa_cons (pv 2) pa_nil))) pa_nil))) pa_nil)))))
      (pss_cons (ps_if (pt_cmpR op_notNX (pv 5) pe_non (nomark _)) (pss_cons (ps_if (PW.pt (pw_or (pt_not (pt_val (pe_call (ok__law_is_convex T) (hr.mono (by decide)) (by rfl) T.g__law_is_convex T.F__law_is_convex.kp T.b__law_is_convex .nil pass0 (pa_cons (pv 5) pa_nil)))) (pw_or1 (pt_not (pt_val (pe_call (ok__law_is_convex T) (hr.mono (by decide)) (by rfl) T.g__law_is_convex T.F__law_is_convex.kp T.b__law_is_convex .nil pass0 (pa_cons (pv 6) pa_nil))))))) (pss_one (ps_ret pe_bl)) pss_nil)
      (pss_cons (ps_if (pt_cmpR (r := rNeD K) (op_neD hr.units) (pe_call (ok__law_twice_area T) (hr.mono (by decide)) (by rfl) T.g__law_twice_area T.F__law_twice_area.kp T.b__law_twice_area .nil pass0 (pa_cons (pv 5) pa_nil)) (pe_call (ok__law_twice_area T) (hr.mono (by decide)) (by rfl) T.g__law_twice_area T.F__law_twice_area.kp T.b__law_twice_area .nil pass0 (pa_cons (pv 6) pa_nil)) (nomark _)) (pss_one (ps_ret pe_bl)) pss_nil)
      (pss_cons (ps_for PassesOwn.never rfl (pi_list (pv 5)) (pg_name (i := 9) sc_law.nd rfl (Or.inl rfl)) (pss_one (ps_if (PW.pt (pw_or (pt_cmpR op_eq (pe_call (ok__law_within T) (hr.mono (by decide)) (by rfl) T.g__law_within T.F__law_within.kp T.b__law_within .nil pass0 (pa_cons (pv 1) (pa_cons (pv 9) pa_nil))) pe_int (nomark _)) (pw_or1 (pt_cmpR op_eq (pe_call (ok__law_within T) (hr.mono (by decide)) (by rfl) T.g__law_within T.F__law_within.kp T.b__law_within .nil pass0 (pa_cons (pv 3) (pa_cons (pv 9) pa_nil))) pe_int (nomark _))))) (pss_one (ps_ret pe_bl)) pss_nil)))
      (pss_one (ps_expr (pe_bm PySem.F.plainAttrs_list PySem.F.slot_list_extend PySem.F.type_list_extend mt_extendR (pv 7) (pa_cons (pe_lc (own := [("_law_k", 8)]) (g := gName 8) (tt := tYes) rfl sc_law.nd (pi_range1 (by rfl) T.z_range (pa_cons pe_int pa_nil)) (blkOk_by (N := n_law) (sc := defScope s_law) (by decide +kernel)) (fun _ _ _ _ _ => (pg_name (i := 8) sc_law.nd rfl (Or.inl rfl))) (fun _ _ _ _ _ => pts_nil) (fun _ _ _ _ _ => (pe_call (ok__law_mixed T) (hr.mono (by decide)) (by rfl) T.g__law_mixed T.F__law_mixed.kp T.b__law_mixed .nil pass0 (pa_cons (pv 5) (pa_cons (pv 2) pa_nil))))) pa_nil))))))) pss_nil)
      (pss_cons (ps_for PassesOwn.never rfl (pi_list (pv 7)) (pg_name (i := 10) sc_law.nd rfl (Or.inl rfl)) (pss_cons (ps_set (i := 11) sc_law.nd rfl (Or.inl rfl) (pe_lst (pa_cons (pe_call (ok__law_within T) (hr.mono (by decide)) (by rfl) T.g__law_within T.F__law_within.kp T.b__law_within .nil pass0 (pa_cons (pv 1) (pa_cons (pv 10) pa_nil))) (pa_cons (pe_call (ok__law_within T) (hr.mono (by decide)) (by rfl) T.g__law_within T.F__law_within.kp T.b__law_within .nil pass0 (pa_cons (pv 3) (pa_cons (pv 10) pa_nil))) pa_nil))))
      (pss_one (ps_if (pt_cmpR (r := rNotInD K) (op_notInD (room65 hr)) (pe_un un_neg pe_int) (pv 11) (by rfl)) (pss_cons (ps_set (i := 12) sc_law.nd rfl (Or.inl rfl) (pe_cmpR (r := rEqD K) (op_eqD hr.units) (pv 11) (pe_lst (pa_cons pe_int (pa_cons pe_int pa_nil))) (nomark _)))
      (pss_one (ps_if (pt_cmpR op_ne (pv 12) (pe_and (pe_cmpR op_notNX (pv 5) pe_non (nomark _)) (pe_one (pe_cmpR op_eq (pe_call (ok__law_within T) (hr.mono (by decide)) (by rfl) T.g__law_within T.F__law_within.kp T.b__law_within .nil pass0 (pa_cons (pv 5) (pa_cons (pv 10) pa_nil))) pe_int (nomark _)))) (nomark _)) (pss_one (ps_ret pe_bl)) pss_nil))) pss_nil))))
      (pss_cons (ps_if (pt_cmpR op_notNX (pv 5) pe_non (nomark _)) (pss_one (ps_expr (pe_bm0 PySem.F.plainAttrs_list PySem.F.slot_list_clear PySem.F.type_list_clear mt_clear (pv 5)))) pss_nil)
      (pss_one (ps_ret (pe_cmpR (r := rEqD K) (op_eqD hr.units) (pv 4) (pe_lst (pa_cons (pv 1) (pa_cons (pv 3) pa_nil))) (nomark _)))))))))))))))), ?_⟩
    have L0 : Lo ⟨K, X, H, muts [.scr a__law_script], n_law.length⟩ X H (L2.start n_law vs) [.scr a__law_script, .unk, .unk, .unk, .unk, .unk, .unk, .unk, .unk, .unk, .unk, .unk, .unk] := c.start n_law (show (1 : Nat) ≤ 13 by decide)
    unfold m_law at hm
    refine x_seq (x_asg (x_call (x_cons (x_call (x_cons (x_call (x_cons (x_vscr L0 rfl fun v1 r1 => x_cons (x_c (x_nil (obE hm fun z1 hz1 hm1 => mk__law_cell hz1 (L0.cond0 (.s r1 (.im (.int _) .nil)) rfl) fun _ F1 => k0 L0 F1 fun L1 le1 => x_nil (obE hm1 fun z2 hz2 hm2 => mk__law_bag hz2 (L1.cond0 (.im (.int _) .nil) rfl) fun p1 _ F2 => k0N L1 F2 fun _ h01 hx1 L2 le2 => x_cons (x_c (x_nil (obE hm2 fun z3 hz3 hm3 => mk__law_bulging hz3 (L2.cond1 (i := 13) (.m (L2.tmp (i := 13) rfl) (.im (.int _) .nil)) rfl rfl rfl) fun v3 _ F3 => k1d L2 F3 (i := 13) (Γ' := [.scr a__law_script, .unk, .unk, .unk, .unk, .unk, .unk, .unk, .unk, .unk, .unk, .unk, .unk, .tmp p1 (ml (z3.2 : (List Int)))]) rfl rfl rfl fun L3 le3 r3 => x_set (d := (enc (z3.1 : (List (T3 Int Int Int))))) (Γ' := [.scr a__law_script, .imm (enc (z3.1 : (List (T3 Int Int Int)))), .unk, .unk, .unk, .unk, .unk, .unk, .unk, .unk, .unk, .unk, .unk, .tmp p1 (ml (z3.2 : (List Int)))]) L3 r3 (show (1 : Nat) < 13 by decide) rfl fun _ L4 => ?_)))))))))))))))
    have L5 := L4.weak (Γ' := [.scr a__law_script, .imm (enc (z3.1 : (List (T3 Int Int Int)))), .unk, .unk, .unk, .unk, .unk, .unk, .unk, .unk, .unk, .unk, .unk]) (.k (.k (.k (.k (.k (.k (.k (.k (.k (.k (.k (.k (.k .e)))))))))))))
    refine x_seq (x_asg (x_call (x_cons (x_call (x_cons (x_vscr L5 rfl fun v4 r4 => x_cons (x_c (x_nil (obE hm3 fun z4 hz4 hm4 => mk__law_cell hz4 (L5.cond0 (.s r4 (.im (.int _) .nil)) rfl) fun _ F4 => k0 L5 F4 fun L6 le4 => x_nil (obE hm4 fun z5 hz5 hm5 => mk__law_bag hz5 (L6.cond0 (.im (.int _) .nil) rfl) fun p2 _ F5 => k0N L6 F5 fun _ h02 hx2 L7 le5 => x_setN (Γ := [.scr a__law_script, .imm (enc (z3.1 : (List (T3 Int Int Int)))), .unk, .unk, .unk, .unk, .unk, .unk, .unk, .unk, .unk, .unk, .unk]) (p := p2) (o := (ml (z5 : (List Int)))) (Γ' := [.scr a__law_script, .imm (enc (z3.1 : (List (T3 Int Int Int)))), .mu p2 (ml (z5 : (List Int))), .unk, .unk, .unk, .unk, .unk, .unk, .unk, .unk, .unk, .unk]) L7 (show (2 : Nat) < 13 by decide) (show (2 : Nat) < 13 by decide) rfl fun _ L8 => ?_))))))))))
    refine x_seq (x_asg (x_call (x_cons (x_vd (d := (enc (z3.1 : (List (T3 Int Int Int))))) L8 rfl fun v6 r6 => x_cons (x_vm L8 rfl (x_nil (obE hm5 fun z6 hz6 hm6 => mk__law_second hz6 (L8.cond1 (i := 2) (.im r6 (.m (L8.mrep (i := 2) rfl) .nil)) rfl rfl rfl) fun v7 _ F6 => k1d L8 F6 (i := 2) (Γ' := [.scr a__law_script, .imm (enc (z3.1 : (List (T3 Int Int Int)))), .mu p2 (ml (z6.2 : (List Int))), .unk, .unk, .unk, .unk, .unk, .unk, .unk, .unk, .unk, .unk]) rfl rfl rfl fun L9 le6 r7 => x_set (d := (enc (z6.1 : (List (T3 Int Int Int))))) (Γ' := [.scr a__law_script, .imm (enc (z3.1 : (List (T3 Int Int Int)))), .mu p2 (ml (z6.2 : (List Int))), .imm (enc (z6.1 : (List (T3 Int Int Int)))), .unk, .unk, .unk, .unk, .unk, .unk, .unk, .unk, .unk]) L9 r7 (show (3 : Nat) < 13 by decide) rfl fun _ L10 => ?_)))))))
    refine x_seq (x_asg (x_lst (x_cons (x_cb (x_cons (x_vd (d := (enc (z3.1 : (List (T3 Int Int Int))))) L10 rfl fun v8 r8 => x_nil (x_listL (xs := z3.1) L10 r8 fun v9 _ L11 le7 r9 => have r10 : Rep _ _ _ (enc (z3.1 : (List (T3 Int Int Int)))) v9 := r9; x_cons (x_cb (x_cons (x_vd (d := (enc (z6.1 : (List (T3 Int Int Int))))) L11 rfl fun v10 r11 => x_nil (x_listL (xs := z6.1) L11 r11 fun v11 _ L12 le8 r12 => have r13 := le8 _ _ r10; have r14 : Rep _ _ _ (enc (z6.1 : (List (T3 Int Int Int)))) v11 := r12; x_nil (x_mkL L12 (.cons r13 (.cons r14 .nil)) (show (2 : Nat) ≤ 16777216 by decide) fun v12 _ L13 le9 r15 => have r16 : Rep _ _ _ (enc ([z3.1, z6.1] : (List (List (T3 Int Int Int))))) v12 := r15; x_bset (x0 := [z3.1, z6.1]) (d := fun handed_1 => (enc (handed_1 : (List (List (T3 Int Int Int)))))) (Γf := fun handed_1 => [.scr a__law_script, .imm (enc (z3.1 : (List (T3 Int Int Int)))), .mu p2 (ml (z6.2 : (List Int))), .imm (enc (z6.1 : (List (T3 Int Int Int)))), .imm (enc (handed_1 : (List (List (T3 Int Int Int))))), .unk, .unk, .unk, .unk, .unk, .unk, .unk, .unk]) hm6 L13 r16 (show (4 : Nat) < 13 by decide) (fun _ => rfl) fun handed_1 _ hm7 L14 => ?_))))))))))))
    obtain ⟨Zn1, hn1, hZ1⟩ := L14.mark
    have L15 := L14.weak (Γ' := [.unk, .imm (enc (z3.1 : (List (T3 Int Int Int)))), .mu p2 (ml (z6.2 : (List Int))), .imm (enc (z6.1 : (List (T3 Int Int Int)))), .imm (enc (handed_1 : (List (List (T3 Int Int Int))))), .unk, .unk, .unk, .unk, .unk, .unk, .unk, .unk]) (.d (.k (.k (.k (.k (.k (.k (.k (.k (.k (.k (.k (.k .e)))))))))))))
    have L16 : Lo _ _ _ _ [.unk, .fix (fun b => ¬ Zn1 b) (enc (z3.1 : (List (T3 Int Int Int)))), .mu p2 (ml (z6.2 : (List Int))), .imm (enc (z6.1 : (List (T3 Int Int Int)))), .imm (enc (handed_1 : (List (List (T3 Int Int Int))))), .unk, .unk, .unk, .unk, .unk, .unk, .unk, .unk] := L15.fix hn1 (i := 1) rfl
    have L17 : Lo _ _ _ _ [.unk, .fix (fun b => ¬ Zn1 b) (enc (z3.1 : (List (T3 Int Int Int)))), .mu p2 (ml (z6.2 : (List Int))), .fix (fun b => ¬ Zn1 b) (enc (z6.1 : (List (T3 Int Int Int)))), .imm (enc (handed_1 : (List (List (T3 Int Int Int))))), .unk, .unk, .unk, .unk, .unk, .unk, .unk, .unk] := L16.fix hn1 (i := 3) rfl
    have L18 : Lo _ _ _ _ [.unk, .fix (fun b => ¬ Zn1 b) (enc (z3.1 : (List (T3 Int Int Int)))), .mu p2 (ml (z6.2 : (List Int))), .fix (fun b => ¬ Zn1 b) (enc (z6.1 : (List (T3 Int Int Int)))), .fix (fun b => ¬ Zn1 b) (enc (handed_1 : (List (List (T3 Int Int Int))))), .unk, .unk, .unk, .unk, .unk, .unk, .unk, .unk] := L17.fix hn1 (i := 4) rfl
    refine x_seq (x_asg (x_call (x_cons (x_op (x_vfx (d := (enc (handed_1 : (List (List (T3 Int Int Int)))))) L18 rfl fun v13 r17 => x_c (x_ixL (xs := handed_1) hm7 r17 fun x1 v14 _ hm8 r18 => x_cons (x_op (x_vfx (d := (enc (handed_1 : (List (List (T3 Int Int Int)))))) L18 rfl fun v15 r19 => x_c (x_ixL (xs := handed_1) hm8 r19 fun x2 v16 _ hm9 r20 => x_nil (obE hm9 fun z7 hz7 hm10 => mk_common hz7 (L18.cond0 (.im r18 (.im r20 .nil)) rfl) fun v17 _ F7 => k0dN hn1 L18 F7 fun L19 le10 r21 => have r22 := Rep.ofN r21; x_setZ (d := (enc (z7 : (Option (List (T3 Int Int Int)))))) (Γ' := [.unk, .fix (fun b => ¬ Zn1 b) (enc (z3.1 : (List (T3 Int Int Int)))), .mu p2 (ml (z6.2 : (List Int))), .fix (fun b => ¬ Zn1 b) (enc (z6.1 : (List (T3 Int Int Int)))), .fix (fun b => ¬ Zn1 b) (enc (handed_1 : (List (List (T3 Int Int Int))))), .fixN Zn1 (enc (z7 : (Option (List (T3 Int Int Int))))), .unk, .unk, .unk, .unk, .unk, .unk, .unk]) L19 r21 (show (5 : Nat) < 13 by decide) rfl fun _ L20 => ?_))))))))))
    refine x_seq (x_asg (x_call (x_cons (x_op (x_vfx (d := (enc (handed_1 : (List (List (T3 Int Int Int)))))) L20 rfl fun v18 r23 => x_c (x_ixL (xs := handed_1) hm10 r23 fun x3 v19 _ hm11 r24 => x_cons (x_op (x_vfx (d := (enc (handed_1 : (List (List (T3 Int Int Int)))))) L20 rfl fun v20 r25 => x_c (x_ixL (xs := handed_1) hm11 r25 fun x4 v21 _ hm12 r26 => x_nil (obE hm12 fun z8 hz8 hm13 => mk_common hz8 (L20.cond0 (.im r24 (.im r26 .nil)) rfl) fun v22 _ F8 => k0di L20 F8 fun L21 le11 r27 => x_set (d := (enc (z8 : (Option (List (T3 Int Int Int)))))) (Γ' := [.unk, .fix (fun b => ¬ Zn1 b) (enc (z3.1 : (List (T3 Int Int Int)))), .mu p2 (ml (z6.2 : (List Int))), .fix (fun b => ¬ Zn1 b) (enc (z6.1 : (List (T3 Int Int Int)))), .fix (fun b => ¬ Zn1 b) (enc (handed_1 : (List (List (T3 Int Int Int))))), .fixN Zn1 (enc (z7 : (Option (List (T3 Int Int Int))))), .imm (enc (z8 : (Option (List (T3 Int Int Int))))), .unk, .unk, .unk, .unk, .unk, .unk]) L21 r27 (show (6 : Nat) < 13 by decide) rfl fun _ L22 => ?_))))))))))
    refine x_seq (x_ifS (x_or (x_test (x_op (x_vfx (d := (enc (handed_1 : (List (List (T3 Int Int Int)))))) L22 rfl fun v23 r28 => x_lst (x_cons (x_vfx (d := (enc (z3.1 : (List (T3 Int Int Int))))) L22 rfl fun v24 r29 => x_cons (x_vfx (d := (enc (z6.1 : (List (T3 Int Int Int))))) L22 rfl fun v25 r30 => x_nil (x_mkL L22 (.cons r29 (.cons r30 .nil)) (show (2 : Nat) ≤ 16777216 by decide) fun v26 _ L23 le12 r31 => have r32 := le12 _ _ r28; have r33 : Rep _ _ _ (enc ([z3.1, z6.1] : (List (List (T3 Int Int Int))))) v26 := r31; x_ned (x := handed_1) (y := [z3.1, z6.1]) r32.dp r33.dp (by decide) (x_kb (x_orP (B := (!decide ((z7.isNone) = (z8.isNone)))) (fun _ hq => x_test (x_op (x_op (x_vfn (d := (enc (z7 : (Option (List (T3 Int Int Int)))))) L23 rfl fun v27 r34 => x_c (x_isNO (o := z7) r34 (x_op (x_vd (d := (enc (z8 : (Option (List (T3 Int Int Int)))))) L23 rfl fun v28 r35 => x_c (x_isNO (o := z8) r35 (x_neb (x_kb (hq))))))))))) (x_if hm13 (fun hm14 => ?_) fun hm14 => ?_))))))))))))
    · exact x_ret (x_c (x_finB (Q := Q) (ps := (fun (r : Bool) => [])) (sc := fun (r : Bool) => r) false hm14 kont (L23.fin hp0 (.bl _))))
    · refine x_next ?_
      refine x_seq (x_asg (x_lcr1 (x_cons (x_c (x_nil (x_r1c (n := 8) (by decide) (obE hm14 fun q1 hy1 hm15 => x_lcRN (G := (fun (s1 : (List Int)) => [.unk, .fix (fun b => ¬ Zn1 b) (enc (z3.1 : (List (T3 Int Int Int)))), .mu p2 (ml (s1 : (List Int))), .fix (fun b => ¬ Zn1 b) (enc (z6.1 : (List (T3 Int Int Int)))), .fix (fun b => ¬ Zn1 b) (enc (handed_1 : (List (List (T3 Int Int Int))))), .fixN Zn1 (enc (z7 : (Option (List (T3 Int Int Int))))), .imm (enc (z8 : (Option (List (T3 Int Int Int))))), .unk, .unk, .unk, .unk, .unk, .unk])) (s0 := z6.2) L23 (fun _ _ => rfl) (mapS_comp hy1) (show (8 : Nat) ≤ 16777216 by decide) (fun x5 s1 _ H1 _ u1 _ _ _ hF1 L24 r36 hn2 hy2 => obE hF1 fun y1 hm16 he1 => x_cName (d := (.int x5)) (Γ' := [.unk, .fix (fun b => ¬ Zn1 b) (enc (z3.1 : (List (T3 Int Int Int)))), .mu p2 (ml (s1 : (List Int))), .fix (fun b => ¬ Zn1 b) (enc (z6.1 : (List (T3 Int Int Int)))), .fix (fun b => ¬ Zn1 b) (enc (handed_1 : (List (List (T3 Int Int Int))))), .fixN Zn1 (enc (z7 : (Option (List (T3 Int Int Int))))), .imm (enc (z8 : (Option (List (T3 Int Int Int))))), .unk, .imm (.int x5), .unk, .unk, .unk, .unk]) L24 r36 (show (8 : Nat) < 13 by decide) rfl fun _ L25 => x_yes (x_call (x_cons (x_vm L25 rfl (x_cons (x_c (x_nil (obE hm16 fun z9 hz10 hm17 => mk__law_spot hz10 (L25.cond1 (i := 2) (.m (L25.mrep (i := 2) rfl) (.im (.int _) .nil)) rfl rfl rfl) fun v29 _ F9 => k1d L25 F9 (i := 2) (Γ' := [.unk, .fix (fun b => ¬ Zn1 b) (enc (z3.1 : (List (T3 Int Int Int)))), .mu p2 (ml (z9.2 : (List Int))), .fix (fun b => ¬ Zn1 b) (enc (z6.1 : (List (T3 Int Int Int)))), .fix (fun b => ¬ Zn1 b) (enc (handed_1 : (List (List (T3 Int Int Int))))), .fixN Zn1 (enc (z7 : (Option (List (T3 Int Int Int))))), .imm (enc (z8 : (Option (List (T3 Int Int Int))))), .unk, .imm (.int x5), .unk, .unk, .unk, .unk]) rfl rfl rfl fun L26 le13 r37 => x_cy (G := (fun (s1 : (List Int)) => [.unk, .fix (fun b => ¬ Zn1 b) (enc (z3.1 : (List (T3 Int Int Int)))), .mu p2 (ml (s1 : (List Int))), .fix (fun b => ¬ Zn1 b) (enc (z6.1 : (List (T3 Int Int Int)))), .fix (fun b => ¬ Zn1 b) (enc (handed_1 : (List (List (T3 Int Int Int))))), .fixN Zn1 (enc (z7 : (Option (List (T3 Int Int Int))))), .imm (enc (z8 : (Option (List (T3 Int Int Int))))), .unk, .unk, .unk, .unk, .unk, .unk])) (s := s1) (s' := z9.2) (y := z9.1) (by cases hm17; cases he1; rfl) hy2 L24 L26 (.i rfl (.i rfl (.m (.i rfl (.i rfl (.i rfl (.i rfl (.i rfl (.i rfl (.i rfl (.i rfl (.i rfl (.i rfl .e))))))))))))) r37)))))))) fun p3 _ _ h03 hx3 L27 le14 => x_setN (Γ := [.unk, .fix (fun b => ¬ Zn1 b) (enc (z3.1 : (List (T3 Int Int Int)))), .mu p2 (ml (q1.2 : (List Int))), .fix (fun b => ¬ Zn1 b) (enc (z6.1 : (List (T3 Int Int Int)))), .fix (fun b => ¬ Zn1 b) (enc (handed_1 : (List (List (T3 Int Int Int))))), .fixN Zn1 (enc (z7 : (Option (List (T3 Int Int Int))))), .imm (enc (z8 : (Option (List (T3 Int Int Int))))), .unk, .unk, .unk, .unk, .unk, .unk]) (p := p3) (o := (ml (q1.1 : (List (T3 Int Int Int))))) (Γ' := [.unk, .fix (fun b => ¬ Zn1 b) (enc (z3.1 : (List (T3 Int Int Int)))), .mu p2 (ml (q1.2 : (List Int))), .fix (fun b => ¬ Zn1 b) (enc (z6.1 : (List (T3 Int Int Int)))), .fix (fun b => ¬ Zn1 b) (enc (handed_1 : (List (List (T3 Int Int Int))))), .fixN Zn1 (enc (z7 : (Option (List (T3 Int Int Int))))), .imm (enc (z8 : (Option (List (T3 Int Int Int))))), .mu p3 (ml (q1.1 : (List (T3 Int Int Int)))), .unk, .unk, .unk, .unk, .unk]) L27 (show (7 : Nat) < 13 by decide) (show (7 : Nat) < 13 by decide) rfl fun _ L29 => ?_)))))))
      refine x_seq (x_tforR1 (x_cons (x_c (x_nil (x_r1c (n := 3) (by decide) (x_foR (G := (fun (s2 : ((List Int) × (List (T3 Int Int Int)))) => [.unk, .fix (fun b => ¬ Zn1 b) (enc (z3.1 : (List (T3 Int Int Int)))), .mu p2 (ml (s2.1 : (List Int))), .fix (fun b => ¬ Zn1 b) (enc (z6.1 : (List (T3 Int Int Int)))), .fix (fun b => ¬ Zn1 b) (enc (handed_1 : (List (List (T3 Int Int Int))))), .fixN Zn1 (enc (z7 : (Option (List (T3 Int Int Int))))), .imm (enc (z8 : (Option (List (T3 Int Int Int))))), .mu p3 (ml (s2.2 : (List (T3 Int Int Int)))), .unk, .unk, .unk, .unk, .unk])) (s0 := (q1.2, q1.1)) (L29.weak (Γ' := [.unk, .fix (fun b => ¬ Zn1 b) (enc (z3.1 : (List (T3 Int Int Int)))), .mu p2 (ml (q1.2 : (List Int))), .fix (fun b => ¬ Zn1 b) (enc (z6.1 : (List (T3 Int Int Int)))), .fix (fun b => ¬ Zn1 b) (enc (handed_1 : (List (List (T3 Int Int Int))))), .fixN Zn1 (enc (z7 : (Option (List (T3 Int Int Int))))), .imm (enc (z8 : (Option (List (T3 Int Int Int))))), .mu p3 (ml (q1.1 : (List (T3 Int Int Int)))), .unk, .unk, .unk, .unk, .unk]) (.k (.k (.k (.k (.k (.k (.k (.k (.k (.k (.k (.k (.k .e)))))))))))))) (fun _ _ => rfl) hm15 (fun x6 s2 H2 _ u2 _ _ _ _ _ hm18 L30 _ r38 hN1 hC1 => ?_) (fun s3 _ _ hm19 L31 => ?_)))))))
      · refine x_set (d := (.int x6)) (Γ' := [.unk, .fix (fun b => ¬ Zn1 b) (enc (z3.1 : (List (T3 Int Int Int)))), .mu p2 (ml (s2.1 : (List Int))), .fix (fun b => ¬ Zn1 b) (enc (z6.1 : (List (T3 Int Int Int)))), .fix (fun b => ¬ Zn1 b) (enc (handed_1 : (List (List (T3 Int Int Int))))), .fixN Zn1 (enc (z7 : (Option (List (T3 Int Int Int))))), .imm (enc (z8 : (Option (List (T3 Int Int Int))))), .mu p3 (ml (s2.2 : (List (T3 Int Int Int)))), .imm (.int x6), .unk, .unk, .unk, .unk]) L30 r38 (show (8 : Nat) < 13 by decide) rfl fun _ L32 => ?_
        refine x_drop (x_bm (x_vm L32 rfl (x_tyM L32 (i := 7) rfl (?_))))
        refine x_cons (x_lst (x_cons (x_call (x_cons (x_vfx (d := (enc (z3.1 : (List (T3 Int Int Int))))) L32 rfl fun v30 r39 => x_cons (x_vm L32 rfl (x_nil (obE hm18 fun z10 hz11 hm21 => mk__law_mixed hz11 (L32.cond1 (i := 2) (.im r39 (.m (L32.mrep (i := 2) rfl) .nil)) rfl rfl rfl) fun v31 _ F11 => k1d L32 F11 (i := 2) (Γ' := [.unk, .fix (fun b => ¬ Zn1 b) (enc (z3.1 : (List (T3 Int Int Int)))), .mu p2 (ml (z10.2 : (List Int))), .fix (fun b => ¬ Zn1 b) (enc (z6.1 : (List (T3 Int Int Int)))), .fix (fun b => ¬ Zn1 b) (enc (handed_1 : (List (List (T3 Int Int Int))))), .fixN Zn1 (enc (z7 : (Option (List (T3 Int Int Int))))), .imm (enc (z8 : (Option (List (T3 Int Int Int))))), .mu p3 (ml (s2.2 : (List (T3 Int Int Int)))), .imm (.int x6), .unk, .unk, .unk, .unk]) rfl rfl rfl fun L33 le15 r40 => x_cons (x_call (x_cons (x_vfx (d := (enc (z6.1 : (List (T3 Int Int Int))))) L33 rfl fun v32 r41 => x_cons (x_vm L33 rfl (x_nil (obE hm21 fun z11 hz12 hm22 => mk__law_mixed hz12 (L33.cond1 (i := 2) (.im r41 (.m (L33.mrep (i := 2) rfl) .nil)) rfl rfl rfl) fun v33 _ F12 => k1d L33 F12 (i := 2) (Γ' := [.unk, .fix (fun b => ¬ Zn1 b) (enc (z3.1 : (List (T3 Int Int Int)))), .mu p2 (ml (z11.2 : (List Int))), .fix (fun b => ¬ Zn1 b) (enc (z6.1 : (List (T3 Int Int Int)))), .fix (fun b => ¬ Zn1 b) (enc (handed_1 : (List (List (T3 Int Int Int))))), .fixN Zn1 (enc (z7 : (Option (List (T3 Int Int Int))))), .imm (enc (z8 : (Option (List (T3 Int Int Int))))), .mu p3 (ml (s2.2 : (List (T3 Int Int Int)))), .imm (.int x6), .unk, .unk, .unk, .unk]) rfl rfl rfl fun L34 le16 r42 => have r43 := le16 _ _ r40; x_nil (x_mkL L34 (.cons r43 (.cons r42 .nil)) (show (2 : Nat) ≤ 16777216 by decide) fun v34 _ L35 le17 r44 => have r45 : Rep _ _ _ (enc ([z10.1, z11.1] : (List (T3 Int Int Int)))) v34 := r44; x_nil (x_extend (xs := s2.2) (ys := [z10.1, z11.1]) (i := 7) (Γ' := [.unk, .fix (fun b => ¬ Zn1 b) (enc (z3.1 : (List (T3 Int Int Int)))), .mu p2 (ml (z11.2 : (List Int))), .fix (fun b => ¬ Zn1 b) (enc (z6.1 : (List (T3 Int Int Int)))), .fix (fun b => ¬ Zn1 b) (enc (handed_1 : (List (List (T3 Int Int Int))))), .fixN Zn1 (enc (z7 : (Option (List (T3 Int Int Int))))), .imm (enc (z8 : (Option (List (T3 Int Int Int))))), .mu p3 (ml ((s2.2 ++ [z10.1, z11.1]) : (List (T3 Int Int Int)))), .imm (.int x6), .unk, .unk, .unk, .unk]) L35 rfl hm22 r45 rfl fun _ hm23 L36 le18 => ?_))))))))))))))))
        exact x_leaf (G := (fun (s2 : ((List Int) × (List (T3 Int Int Int)))) => [.unk, .fix (fun b => ¬ Zn1 b) (enc (z3.1 : (List (T3 Int Int Int)))), .mu p2 (ml (s2.1 : (List Int))), .fix (fun b => ¬ Zn1 b) (enc (z6.1 : (List (T3 Int Int Int)))), .fix (fun b => ¬ Zn1 b) (enc (handed_1 : (List (List (T3 Int Int Int))))), .fixN Zn1 (enc (z7 : (Option (List (T3 Int Int Int))))), .imm (enc (z8 : (Option (List (T3 Int Int Int))))), .mu p3 (ml (s2.2 : (List (T3 Int Int Int)))), .unk, .unk, .unk, .unk, .unk])) (e := (z11.2, (s2.2 ++ [z10.1, z11.1]))) hm23 hN1 (L36.weak (Γ' := [.unk, .fix (fun b => ¬ Zn1 b) (enc (z3.1 : (List (T3 Int Int Int)))), .mu p2 (ml (z11.2 : (List Int))), .fix (fun b => ¬ Zn1 b) (enc (z6.1 : (List (T3 Int Int Int)))), .fix (fun b => ¬ Zn1 b) (enc (handed_1 : (List (List (T3 Int Int Int))))), .fixN Zn1 (enc (z7 : (Option (List (T3 Int Int Int))))), .imm (enc (z8 : (Option (List (T3 Int Int Int))))), .mu p3 (ml ((s2.2 ++ [z10.1, z11.1]) : (List (T3 Int Int Int)))), .unk, .unk, .unk, .unk, .unk]) (.k (.k (.k (.k (.k (.k (.k (.k (.d (.k (.k (.k (.k .e))))))))))))))
      refine x_seq (x_ifS (x_test (x_op (x_vfn (d := (enc (z7 : (Option (List (T3 Int Int Int)))))) L31 rfl fun v35 r46 => x_c (x_notNO (o := z7) r46 (x_kb (x_if hm19 (fun hm24 => ?_) fun hm24 => ?_)))))))
      · refine obE hm24 fun found_1 ho1 hm25 => ?_
        have L37 : Lo _ _ _ _ [.unk, .fix (fun b => ¬ Zn1 b) (enc (z3.1 : (List (T3 Int Int Int)))), .mu p2 (ml (s3.1 : (List Int))), .fix (fun b => ¬ Zn1 b) (enc (z6.1 : (List (T3 Int Int Int)))), .fix (fun b => ¬ Zn1 b) (enc (handed_1 : (List (List (T3 Int Int Int))))), .fixN Zn1 (enc (found_1 : (List (T3 Int Int Int)))), .imm (enc (z8 : (Option (List (T3 Int Int Int))))), .mu p3 (ml (s3.2 : (List (T3 Int Int Int)))), .unk, .unk, .unk, .unk, .unk] := L31.someN (i := 5) rfl ho1 rfl
        refine x_seq (x_ifS (x_or (x_not (x_tB (x_call (x_cons (x_vfn (d := (enc (found_1 : (List (T3 Int Int Int))))) L37 rfl fun v36 r47 => x_nil (obE hm25 fun z12 hz13 hm26 => mk__law_is_convex hz13 (L37.cond0 (.im r47 .nil) rfl) fun _ F13 => k0 L37 F13 fun L38 le19 => x_kb (x_kn (x_orB L38 hm26 (fun _ hm29 _ hq => x_not (x_tB (x_call (x_cons (x_vd (d := (enc (z8 : (Option (List (T3 Int Int Int)))))) L38 rfl fun v40 r50 => obE hm29 fun x8 ho3 hm30 => have r51 : Rep _ _ _ (enc (x8 : (List (T3 Int Int Int)))) v40 := (by rw [ho3] at r50; exact r50); x_nil (obE hm30 fun z14 hz15 hm31 => mk__law_is_convex hz15 (L38.cond0 (.im r51 .nil) rfl) fun _ F15 => k0 L38 F15 fun L40 le21 => x_kb (x_kn (x_lfT hm31 hq L40)))))))) fun b1 _ hm32 L41 => x_if hm32 (fun hm33 => ?_) fun hm33 => ?_))))))))))
        · exact x_ret (x_c (x_finB (Q := Q) (ps := (fun (r : Bool) => [])) (sc := fun (r : Bool) => r) false hm33 kont (L41.fin hp0 (.bl _))))
        · refine x_next ?_
          refine x_seq (x_ifS (x_test (x_op (x_call (x_cons (x_vfn (d := (enc (found_1 : (List (T3 Int Int Int))))) L41 rfl fun v42 r52 => x_nil (obE hm33 fun z15 hz16 hm34 => mk__law_twice_area hz16 (L41.cond0 (.im r52 .nil) rfl) fun v43 _ F16 => k0d L41 F16 fun L42 le22 r53 => x_call (x_cons (x_vd (d := (enc (z8 : (Option (List (T3 Int Int Int)))))) L42 rfl fun v44 r54 => obE hm34 fun x9 ho4 hm35 => have r55 : Rep _ _ _ (enc (x9 : (List (T3 Int Int Int)))) v44 := (by rw [ho4] at r54; exact r54); x_nil (obE hm35 fun z16 hz17 hm36 => mk__law_twice_area hz17 (L42.cond0 (.im r55 .nil) rfl) fun v45 _ F17 => k0d L42 F17 fun L43 le23 r56 => have r57 := le23 _ _ r53; x_ned (x := z15) (y := z16) r57.dp r56.dp (by decide) (x_kb (x_if hm36 (fun hm37 => ?_) fun hm37 => ?_))))))))))))
          · exact x_ret (x_c (x_finB (Q := Q) (ps := (fun (r : Bool) => [])) (sc := fun (r : Bool) => r) false hm37 kont (L43.fin hp0 (.bl _))))
          · refine x_next ?_
            refine x_seq (x_tforL (x_vfn (d := (enc (found_1 : (List (T3 Int Int Int))))) L43 rfl fun v46 r58 => x_flL (G := (fun (s5 : Unit) => [.unk, .fix (fun b => ¬ Zn1 b) (enc (z3.1 : (List (T3 Int Int Int)))), .mu p2 (ml (s3.1 : (List Int))), .fix (fun b => ¬ Zn1 b) (enc (z6.1 : (List (T3 Int Int Int)))), .fix (fun b => ¬ Zn1 b) (enc (handed_1 : (List (List (T3 Int Int Int))))), .fixN Zn1 (enc (found_1 : (List (T3 Int Int Int)))), .imm (enc (z8 : (Option (List (T3 Int Int Int))))), .mu p3 (ml (s3.2 : (List (T3 Int Int Int)))), .unk, .unk, .unk, .unk, .unk])) (s0 := ()) (xs := found_1) (ps := (fun (r : Bool) => [])) (rs := (fun (r : Bool) => (.imm (.bool r)))) (L43.weak (Γ' := [.unk, .fix (fun b => ¬ Zn1 b) (enc (z3.1 : (List (T3 Int Int Int)))), .mu p2 (ml (s3.1 : (List Int))), .fix (fun b => ¬ Zn1 b) (enc (z6.1 : (List (T3 Int Int Int)))), .fix (fun b => ¬ Zn1 b) (enc (handed_1 : (List (List (T3 Int Int Int))))), .fixN Zn1 (enc (found_1 : (List (T3 Int Int Int)))), .imm (enc (z8 : (Option (List (T3 Int Int Int))))), .mu p3 (ml (s3.2 : (List (T3 Int Int Int)))), .unk, .unk, .unk, .unk, .unk]) (.k (.k (.k (.k (.k (.k (.k (.k (.k (.k (.k (.k (.k .e)))))))))))))) (fun _ _ => rfl) r58 hm37 (fun x10 s5 H3 _ u3 _ _ _ _ _ hm38 L44 _ r59 hN2 hC2 hB2 hR2 => ?_) (fun s6 _ _ hm39 L45 => ?_) (fun _ _ _ hm40 F18 => x_finRB (Q := Q) (ps := (fun (r : Bool) => [])) (sc := fun (r : Bool) => r) hm40 kont F18)))
            · refine x_set (d := (enc (x10 : (T3 Int Int Int)))) (Γ' := [.unk, .fix (fun b => ¬ Zn1 b) (enc (z3.1 : (List (T3 Int Int Int)))), .mu p2 (ml (s3.1 : (List Int))), .fix (fun b => ¬ Zn1 b) (enc (z6.1 : (List (T3 Int Int Int)))), .fix (fun b => ¬ Zn1 b) (enc (handed_1 : (List (List (T3 Int Int Int))))), .fixN Zn1 (enc (found_1 : (List (T3 Int Int Int)))), .imm (enc (z8 : (Option (List (T3 Int Int Int))))), .mu p3 (ml (s3.2 : (List (T3 Int Int Int)))), .unk, .imm (enc (x10 : (T3 Int Int Int))), .unk, .unk, .unk]) L44 r59 (show (9 : Nat) < 13 by decide) rfl fun _ L46 => ?_
              refine x_ifS (x_or (x_test (x_op (x_call (x_cons (x_vfx (d := (enc (z3.1 : (List (T3 Int Int Int))))) L46 rfl fun v47 r60 => x_cons (x_vd (d := (enc (x10 : (T3 Int Int Int)))) L46 rfl fun v48 r61 => x_nil (obE hm38 fun z17 hz18 hm41 => mk__law_within hz18 (L46.cond0 (.im r60 (.im r61 .nil)) rfl) fun _ F19 => k0 L46 F19 fun L47 le24 => x_c (x_eqi (x_kb (x_orB L47 hm41 (fun _ hm43 _ hq => x_test (x_op (x_call (x_cons (x_vfx (d := (enc (z6.1 : (List (T3 Int Int Int))))) L47 rfl fun v53 r64 => x_cons (x_vd (d := (enc (x10 : (T3 Int Int Int)))) L47 rfl fun v54 r65 => x_nil (obE hm43 fun z19 hz20 hm44 => mk__law_within hz20 (L47.cond0 (.im r64 (.im r65 .nil)) rfl) fun _ F21 => k0 L47 F21 fun L49 le26 => x_c (x_eqi (x_kb (x_lfT hm44 hq L49)))))))))) fun b2 _ hm45 L50 => x_if hm45 (fun hm46 => ?_) fun hm46 => ?_)))))))))))
              · exact x_ret (x_c (x_leafR (ps := (fun (r : Bool) => [])) (rs := (fun (r : Bool) => (.imm (.bool r)))) (e := false) hm46 hR2 (L50.fin hp0 (.bl _))))
              · refine x_next ?_
                exact x_leafN (G := (fun (s5 : Unit) => [.unk, .fix (fun b => ¬ Zn1 b) (enc (z3.1 : (List (T3 Int Int Int)))), .mu p2 (ml (s3.1 : (List Int))), .fix (fun b => ¬ Zn1 b) (enc (z6.1 : (List (T3 Int Int Int)))), .fix (fun b => ¬ Zn1 b) (enc (handed_1 : (List (List (T3 Int Int Int))))), .fixN Zn1 (enc (found_1 : (List (T3 Int Int Int)))), .imm (enc (z8 : (Option (List (T3 Int Int Int))))), .mu p3 (ml (s3.2 : (List (T3 Int Int Int)))), .unk, .unk, .unk, .unk, .unk])) (e := ()) hm46 hN2 (L50.weak (Γ' := [.unk, .fix (fun b => ¬ Zn1 b) (enc (z3.1 : (List (T3 Int Int Int)))), .mu p2 (ml (s3.1 : (List Int))), .fix (fun b => ¬ Zn1 b) (enc (z6.1 : (List (T3 Int Int Int)))), .fix (fun b => ¬ Zn1 b) (enc (handed_1 : (List (List (T3 Int Int Int))))), .fixN Zn1 (enc (found_1 : (List (T3 Int Int Int)))), .imm (enc (z8 : (Option (List (T3 Int Int Int))))), .mu p3 (ml (s3.2 : (List (T3 Int Int Int)))), .unk, .unk, .unk, .unk, .unk]) (.k (.k (.k (.k (.k (.k (.k (.k (.k (.d (.k (.k (.k .e))))))))))))))
            refine x_drop (x_bm (x_vm L45 rfl (x_tyM L45 (i := 7) rfl (?_))))
            refine x_cons (x_lcr1 (x_cons (x_c (x_nil (x_r1c (n := 3) (by decide) (obE hm39 fun q2 hy3 hm47 => x_lcR (G := (fun (s8 : (List Int)) => [.unk, .fix (fun b => ¬ Zn1 b) (enc (z3.1 : (List (T3 Int Int Int)))), .mu p2 (ml (s8 : (List Int))), .fix (fun b => ¬ Zn1 b) (enc (z6.1 : (List (T3 Int Int Int)))), .fix (fun b => ¬ Zn1 b) (enc (handed_1 : (List (List (T3 Int Int Int))))), .fixN Zn1 (enc (found_1 : (List (T3 Int Int Int)))), .imm (enc (z8 : (Option (List (T3 Int Int Int))))), .mu p3 (ml (s3.2 : (List (T3 Int Int Int)))), .unk, .unk, .unk, .unk, .unk])) (s0 := s3.1) L45 (fun _ _ => rfl) (mapS_comp hy3) (show (3 : Nat) ≤ 16777216 by decide) (fun x11 s8 _ H4 _ u4 _ _ _ hF2 L51 r66 hn3 hy4 => obE hF2 fun y2 hm48 he2 => x_cName (d := (.int x11)) (Γ' := [.unk, .fix (fun b => ¬ Zn1 b) (enc (z3.1 : (List (T3 Int Int Int)))), .mu p2 (ml (s8 : (List Int))), .fix (fun b => ¬ Zn1 b) (enc (z6.1 : (List (T3 Int Int Int)))), .fix (fun b => ¬ Zn1 b) (enc (handed_1 : (List (List (T3 Int Int Int))))), .fixN Zn1 (enc (found_1 : (List (T3 Int Int Int)))), .imm (enc (z8 : (Option (List (T3 Int Int Int))))), .mu p3 (ml (s3.2 : (List (T3 Int Int Int)))), .imm (.int x11), .unk, .unk, .unk, .unk]) L51 r66 (show (8 : Nat) < 13 by decide) rfl fun _ L52 => x_yes (x_call (x_cons (x_vfn (d := (enc (found_1 : (List (T3 Int Int Int))))) L52 rfl fun v56 r67 => x_cons (x_vm L52 rfl (x_nil (obE hm48 fun z20 hz22 hm49 => mk__law_mixed hz22 (L52.cond1 (i := 2) (.im r67 (.m (L52.mrep (i := 2) rfl) .nil)) rfl rfl rfl) fun v57 _ F22 => k1d L52 F22 (i := 2) (Γ' := [.unk, .fix (fun b => ¬ Zn1 b) (enc (z3.1 : (List (T3 Int Int Int)))), .mu p2 (ml (z20.2 : (List Int))), .fix (fun b => ¬ Zn1 b) (enc (z6.1 : (List (T3 Int Int Int)))), .fix (fun b => ¬ Zn1 b) (enc (handed_1 : (List (List (T3 Int Int Int))))), .fixN Zn1 (enc (found_1 : (List (T3 Int Int Int)))), .imm (enc (z8 : (Option (List (T3 Int Int Int))))), .mu p3 (ml (s3.2 : (List (T3 Int Int Int)))), .imm (.int x11), .unk, .unk, .unk, .unk]) rfl rfl rfl fun L53 le27 r68 => x_cy (G := (fun (s8 : (List Int)) => [.unk, .fix (fun b => ¬ Zn1 b) (enc (z3.1 : (List (T3 Int Int Int)))), .mu p2 (ml (s8 : (List Int))), .fix (fun b => ¬ Zn1 b) (enc (z6.1 : (List (T3 Int Int Int)))), .fix (fun b => ¬ Zn1 b) (enc (handed_1 : (List (List (T3 Int Int Int))))), .fixN Zn1 (enc (found_1 : (List (T3 Int Int Int)))), .imm (enc (z8 : (Option (List (T3 Int Int Int))))), .mu p3 (ml (s3.2 : (List (T3 Int Int Int)))), .unk, .unk, .unk, .unk, .unk])) (s := s8) (s' := z20.2) (y := z20.1) (by cases hm49; cases he2; rfl) hy4 L51 L53 (.i rfl (.i rfl (.m (.i rfl (.i rfl (.i rfl (.i rfl (.m (.i rfl (.i rfl (.i rfl (.i rfl (.i rfl .e))))))))))))) r68))))))) fun p4 _ L54 le28 r69 => have L55 : Lo _ _ _ _ [.unk, .fix (fun b => ¬ Zn1 b) (enc (z3.1 : (List (T3 Int Int Int)))), .mu p2 (ml (q2.2 : (List Int))), .fix (fun b => ¬ Zn1 b) (enc (z6.1 : (List (T3 Int Int Int)))), .fix (fun b => ¬ Zn1 b) (enc (handed_1 : (List (List (T3 Int Int Int))))), .fixN Zn1 (enc (found_1 : (List (T3 Int Int Int)))), .imm (enc (z8 : (Option (List (T3 Int Int Int))))), .mu p3 (ml (s3.2 : (List (T3 Int Int Int)))), .unk, .unk, .unk, .unk, .unk] := L54; have r70 : Rep _ _ _ (enc (q2.1 : (List (T3 Int Int Int)))) (.ref p4) := r69; x_nil (x_extend (xs := s3.2) (ys := q2.1) (i := 7) (Γ' := [.unk, .fix (fun b => ¬ Zn1 b) (enc (z3.1 : (List (T3 Int Int Int)))), .mu p2 (ml (q2.2 : (List Int))), .fix (fun b => ¬ Zn1 b) (enc (z6.1 : (List (T3 Int Int Int)))), .fix (fun b => ¬ Zn1 b) (enc (handed_1 : (List (List (T3 Int Int Int))))), .fixN Zn1 (enc (found_1 : (List (T3 Int Int Int)))), .imm (enc (z8 : (Option (List (T3 Int Int Int))))), .mu p3 (ml ((s3.2 ++ q2.1) : (List (T3 Int Int Int)))), .unk, .unk, .unk, .unk, .unk]) L55 rfl hm47 r70 rfl fun _ hm50 L56 le29 => ?_)))))))
            have L57 : Lo _ _ _ _ [.unk, .fix (fun b => ¬ Zn1 b) (enc (z3.1 : (List (T3 Int Int Int)))), .mu p2 (ml (q2.2 : (List Int))), .fix (fun b => ¬ Zn1 b) (enc (z6.1 : (List (T3 Int Int Int)))), .fix (fun b => ¬ Zn1 b) (enc (handed_1 : (List (List (T3 Int Int Int))))), .fixN Zn1 (enc (found_1 : (List (T3 Int Int Int)))), .imm (enc (z8 : (Option (List (T3 Int Int Int))))), .imm (enc ((s3.2 ++ q2.1) : (List (T3 Int Int Int)))), .unk, .unk, .unk, .unk, .unk] := L56.freeze (i := 7) rfl hx3
            refine x_seq (x_tforL (x_vd (d := (enc ((s3.2 ++ q2.1) : (List (T3 Int Int Int))))) L57 rfl fun v58 r71 => x_flL (G := (fun (s9 : Unit) => [.unk, .fix (fun b => ¬ Zn1 b) (enc (z3.1 : (List (T3 Int Int Int)))), .mu p2 (ml (q2.2 : (List Int))), .fix (fun b => ¬ Zn1 b) (enc (z6.1 : (List (T3 Int Int Int)))), .fix (fun b => ¬ Zn1 b) (enc (handed_1 : (List (List (T3 Int Int Int))))), .fixN Zn1 (enc (found_1 : (List (T3 Int Int Int)))), .imm (enc (z8 : (Option (List (T3 Int Int Int))))), .imm (enc ((s3.2 ++ q2.1) : (List (T3 Int Int Int)))), .unk, .unk, .unk, .unk, .unk])) (s0 := ()) (xs := (s3.2 ++ q2.1)) (ps := (fun (r : Bool) => [])) (rs := (fun (r : Bool) => (.imm (.bool r)))) (L57.weak (Γ' := [.unk, .fix (fun b => ¬ Zn1 b) (enc (z3.1 : (List (T3 Int Int Int)))), .mu p2 (ml (q2.2 : (List Int))), .fix (fun b => ¬ Zn1 b) (enc (z6.1 : (List (T3 Int Int Int)))), .fix (fun b => ¬ Zn1 b) (enc (handed_1 : (List (List (T3 Int Int Int))))), .fixN Zn1 (enc (found_1 : (List (T3 Int Int Int)))), .imm (enc (z8 : (Option (List (T3 Int Int Int))))), .imm (enc ((s3.2 ++ q2.1) : (List (T3 Int Int Int)))), .unk, .unk, .unk, .unk, .unk]) (.k (.k (.k (.k (.k (.k (.k (.k (.k (.k (.k (.k (.k .e)))))))))))))) (fun _ _ => rfl) r71 hm50 (fun x12 s9 H5 _ u5 _ _ _ _ _ hm51 L58 _ r72 hN3 hC3 hB3 hR3 => ?_) (fun s10 _ _ hm52 L59 => ?_) (fun _ _ _ hm53 F23 => x_finRB (Q := Q) (ps := (fun (r : Bool) => [])) (sc := fun (r : Bool) => r) hm53 kont F23)))
            · refine x_set (d := (enc (x12 : (T3 Int Int Int)))) (Γ' := [.unk, .fix (fun b => ¬ Zn1 b) (enc (z3.1 : (List (T3 Int Int Int)))), .mu p2 (ml (q2.2 : (List Int))), .fix (fun b => ¬ Zn1 b) (enc (z6.1 : (List (T3 Int Int Int)))), .fix (fun b => ¬ Zn1 b) (enc (handed_1 : (List (List (T3 Int Int Int))))), .fixN Zn1 (enc (found_1 : (List (T3 Int Int Int)))), .imm (enc (z8 : (Option (List (T3 Int Int Int))))), .imm (enc ((s3.2 ++ q2.1) : (List (T3 Int Int Int)))), .unk, .unk, .imm (enc (x12 : (T3 Int Int Int))), .unk, .unk]) L58 r72 (show (10 : Nat) < 13 by decide) rfl fun _ L60 => ?_
              refine x_seq (x_asg (x_lst (x_cons (x_call (x_cons (x_vfx (d := (enc (z3.1 : (List (T3 Int Int Int))))) L60 rfl fun v59 r73 => x_cons (x_vd (d := (enc (x12 : (T3 Int Int Int)))) L60 rfl fun v60 r74 => x_nil (obE hm51 fun z21 hz23 hm54 => mk__law_within hz23 (L60.cond0 (.im r73 (.im r74 .nil)) rfl) fun _ F24 => k0 L60 F24 fun L61 le30 => x_cons (x_call (x_cons (x_vfx (d := (enc (z6.1 : (List (T3 Int Int Int))))) L61 rfl fun v62 r75 => x_cons (x_vd (d := (enc (x12 : (T3 Int Int Int)))) L61 rfl fun v63 r76 => x_nil (obE hm54 fun z22 hz24 hm55 => mk__law_within hz24 (L61.cond0 (.im r75 (.im r76 .nil)) rfl) fun _ F25 => k0 L61 F25 fun L62 le31 => x_nil (x_mkL L62 (.cons (.int _) (.cons (.int _) .nil)) (show (2 : Nat) ≤ 16777216 by decide) fun v65 _ L63 le32 r77 => have r78 : Rep _ _ _ (enc ([z21, z22] : (List Int))) v65 := r77; x_bset (x0 := [z21, z22]) (d := fun hands_1 => (enc (hands_1 : (List Int)))) (Γf := fun hands_1 => [.unk, .fix (fun b => ¬ Zn1 b) (enc (z3.1 : (List (T3 Int Int Int)))), .mu p2 (ml (q2.2 : (List Int))), .fix (fun b => ¬ Zn1 b) (enc (z6.1 : (List (T3 Int Int Int)))), .fix (fun b => ¬ Zn1 b) (enc (handed_1 : (List (List (T3 Int Int Int))))), .fixN Zn1 (enc (found_1 : (List (T3 Int Int Int)))), .imm (enc (z8 : (Option (List (T3 Int Int Int))))), .imm (enc ((s3.2 ++ q2.1) : (List (T3 Int Int Int)))), .unk, .unk, .imm (enc (x12 : (T3 Int Int Int))), .imm (enc (hands_1 : (List Int))), .unk]) hm55 L63 r78 (show (11 : Nat) < 13 by decide) (fun _ => rfl) fun hands_1 _ hm56 L64 => ?_))))))))))))))
              refine x_ifS (x_test (x_op (x_un (x_c (x_u (x_vd (d := (enc (hands_1 : (List Int)))) L64 rfl fun v66 r79 => x_nind (x := (-1)) (ys := hands_1) (Rep.dp (K := K) (X := fun _ => False) (d := (.int ((-1)))) (.int _)) r79.dp (by decide) (x_kb (x_if hm56 (fun hm57 => ?_) fun hm57 => ?_))))))))
              · refine x_seq (x_asg (x_op (x_vd (d := (enc (hands_1 : (List Int)))) L64 rfl fun v67 r80 => x_lst (x_cons (x_c (x_cons (x_c (x_nil (x_mkL L64 (.cons (.int _) (.cons (.int _) .nil)) (show (2 : Nat) ≤ 16777216 by decide) fun v68 _ L65 le33 r81 => have r82 := le33 _ _ r80; have r83 : Rep _ _ _ (enc ([1, 1] : (List Int))) v68 := r81; x_eqd (x := hands_1) (y := [1, 1]) r82.dp r83.dp (by decide) (x_bset (x0 := (decide (hands_1 = [1, 1]))) (d := fun both_1 => (.bool both_1)) (Γf := fun both_1 => [.unk, .fix (fun b => ¬ Zn1 b) (enc (z3.1 : (List (T3 Int Int Int)))), .mu p2 (ml (q2.2 : (List Int))), .fix (fun b => ¬ Zn1 b) (enc (z6.1 : (List (T3 Int Int Int)))), .fix (fun b => ¬ Zn1 b) (enc (handed_1 : (List (List (T3 Int Int Int))))), .fixN Zn1 (enc (found_1 : (List (T3 Int Int Int)))), .imm (enc (z8 : (Option (List (T3 Int Int Int))))), .imm (enc ((s3.2 ++ q2.1) : (List (T3 Int Int Int)))), .unk, .unk, .imm (enc (x12 : (T3 Int Int Int))), .imm (enc (hands_1 : (List Int))), .imm (.bool both_1)]) hm57 L65 (.bl _) (show (12 : Nat) < 13 by decide) (fun _ => rfl) fun both_1 _ hm58 L66 => ?_))))))))))
                refine x_ifS (x_test (x_op (x_vB (x := both_1) L66 rfl (x_andV (x_op (x_vfn (d := (enc (found_1 : (List (T3 Int Int Int))))) L66 rfl fun v69 r84 => x_c (x_notND r84 (x_kb (x_andVB L66 hm58 (fun _ hm60 _ hq => x_op (x_call (x_cons (x_vfn (d := (enc (found_1 : (List (T3 Int Int Int))))) L66 rfl fun v73 r87 => x_cons (x_vd (d := (enc (x12 : (T3 Int Int Int)))) L66 rfl fun v74 r88 => x_nil (obE hm60 fun z24 hz26 hm61 => mk__law_within hz26 (L66.cond0 (.im r87 (.im r88 .nil)) rfl) fun _ F27 => k0 L66 F27 fun L68 le35 => x_c (x_eqi (x_lfV hm61 hq L68)))))))) fun b3 _ hm62 L69 => x_neb (x_kb (x_if hm62 (fun hm63 => ?_) fun hm63 => ?_)))))))))))
                · exact x_ret (x_c (x_leafR (ps := (fun (r : Bool) => [])) (rs := (fun (r : Bool) => (.imm (.bool r)))) (e := false) hm63 hR3 (L69.fin hp0 (.bl _))))
                · refine x_next ?_
                  exact x_leafN (G := (fun (s9 : Unit) => [.unk, .fix (fun b => ¬ Zn1 b) (enc (z3.1 : (List (T3 Int Int Int)))), .mu p2 (ml (q2.2 : (List Int))), .fix (fun b => ¬ Zn1 b) (enc (z6.1 : (List (T3 Int Int Int)))), .fix (fun b => ¬ Zn1 b) (enc (handed_1 : (List (List (T3 Int Int Int))))), .fixN Zn1 (enc (found_1 : (List (T3 Int Int Int)))), .imm (enc (z8 : (Option (List (T3 Int Int Int))))), .imm (enc ((s3.2 ++ q2.1) : (List (T3 Int Int Int)))), .unk, .unk, .unk, .unk, .unk])) (e := ()) hm63 hN3 (L69.weak (Γ' := [.unk, .fix (fun b => ¬ Zn1 b) (enc (z3.1 : (List (T3 Int Int Int)))), .mu p2 (ml (q2.2 : (List Int))), .fix (fun b => ¬ Zn1 b) (enc (z6.1 : (List (T3 Int Int Int)))), .fix (fun b => ¬ Zn1 b) (enc (handed_1 : (List (List (T3 Int Int Int))))), .fixN Zn1 (enc (found_1 : (List (T3 Int Int Int)))), .imm (enc (z8 : (Option (List (T3 Int Int Int))))), .imm (enc ((s3.2 ++ q2.1) : (List (T3 Int Int Int)))), .unk, .unk, .unk, .unk, .unk]) (.k (.k (.k (.k (.k (.k (.k (.k (.k (.k (.d (.d (.d .e))))))))))))))
              · refine x_next ?_
                exact x_leafN (G := (fun (s9 : Unit) => [.unk, .fix (fun b => ¬ Zn1 b) (enc (z3.1 : (List (T3 Int Int Int)))), .mu p2 (ml (q2.2 : (List Int))), .fix (fun b => ¬ Zn1 b) (enc (z6.1 : (List (T3 Int Int Int)))), .fix (fun b => ¬ Zn1 b) (enc (handed_1 : (List (List (T3 Int Int Int))))), .fixN Zn1 (enc (found_1 : (List (T3 Int Int Int)))), .imm (enc (z8 : (Option (List (T3 Int Int Int))))), .imm (enc ((s3.2 ++ q2.1) : (List (T3 Int Int Int)))), .unk, .unk, .unk, .unk, .unk])) (e := ()) hm57 hN3 (L64.weak (Γ' := [.unk, .fix (fun b => ¬ Zn1 b) (enc (z3.1 : (List (T3 Int Int Int)))), .mu p2 (ml (q2.2 : (List Int))), .fix (fun b => ¬ Zn1 b) (enc (z6.1 : (List (T3 Int Int Int)))), .fix (fun b => ¬ Zn1 b) (enc (handed_1 : (List (List (T3 Int Int Int))))), .fixN Zn1 (enc (found_1 : (List (T3 Int Int Int)))), .imm (enc (z8 : (Option (List (T3 Int Int Int))))), .imm (enc ((s3.2 ++ q2.1) : (List (T3 Int Int Int)))), .unk, .unk, .unk, .unk, .unk]) (.k (.k (.k (.k (.k (.k (.k (.k (.k (.k (.d (.d (.k .e))))))))))))))
            refine x_seq (x_ifS (x_test (x_op (x_vfn (d := (enc (found_1 : (List (T3 Int Int Int))))) L59 rfl fun v76 r89 => x_c (x_notND r89 (x_kb (x_if hm52 (fun hm64 => ?_) fun hm64 => ?_)))))))
            · refine x_drop (have L71 := L59.weak (Γ' := [.unk, .fix (fun b => ¬ Zn1 b) (enc (z3.1 : (List (T3 Int Int Int)))), .mu p2 (ml (q2.2 : (List Int))), .fix (fun b => ¬ Zn1 b) (enc (z6.1 : (List (T3 Int Int Int)))), .fix (fun b => ¬ Zn1 b) (enc (handed_1 : (List (List (T3 Int Int Int))))), .fixN Zn1 (enc (found_1 : (List (T3 Int Int Int)))), .unk, .unk, .unk, .unk, .unk, .unk, .unk]) (.k (.k (.k (.k (.k (.k (.d (.d (.k (.k (.k (.k (.k .e))))))))))))); x_bm0 (x_vfz (d := (enc (found_1 : (List (T3 Int Int Int))))) L71 rfl fun v77 r90 => x_tyD r90 (x_clrN (i := 5) (Γ' := [.unk, .fix (fun b => ¬ Zn1 b) (enc (z3.1 : (List (T3 Int Int Int)))), .mu p2 (ml (q2.2 : (List Int))), .fix (fun b => ¬ Zn1 b) (enc (z6.1 : (List (T3 Int Int Int)))), .fix (fun b => ¬ Zn1 b) (enc (handed_1 : (List (List (T3 Int Int Int))))), .unk, .unk, .unk, .unk, .unk, .unk, .unk, .unk]) L71 hZ1 r90 rfl (List.forall_mem_cons.mpr ⟨trivial, (List.forall_mem_cons.mpr ⟨(fun _ h => h), (List.forall_mem_cons.mpr ⟨OldS.lst, (List.forall_mem_cons.mpr ⟨(fun _ h => h), (List.forall_mem_cons.mpr ⟨(fun _ h => h), (List.forall_mem_cons.mpr ⟨trivial, (List.forall_mem_cons.mpr ⟨trivial, (List.forall_mem_cons.mpr ⟨trivial, (List.forall_mem_cons.mpr ⟨trivial, (List.forall_mem_cons.mpr ⟨trivial, (List.forall_mem_cons.mpr ⟨trivial, (List.forall_mem_cons.mpr ⟨trivial, (List.forall_mem_cons.mpr ⟨trivial, (fun _ h => nomatch h)⟩)⟩)⟩)⟩)⟩)⟩)⟩)⟩)⟩)⟩)⟩)⟩)⟩) rfl fun _ L70 => have L72 : Lo _ _ _ _ [.unk, .imm (enc (z3.1 : (List (T3 Int Int Int)))), .mu p2 (ml (q2.2 : (List Int))), .fix (fun b => ¬ Zn1 b) (enc (z6.1 : (List (T3 Int Int Int)))), .fix (fun b => ¬ Zn1 b) (enc (handed_1 : (List (List (T3 Int Int Int))))), .unk, .unk, .unk, .unk, .unk, .unk, .unk, .unk] := L70.unfix (i := 1) rfl; have L73 : Lo _ _ _ _ [.unk, .imm (enc (z3.1 : (List (T3 Int Int Int)))), .mu p2 (ml (q2.2 : (List Int))), .imm (enc (z6.1 : (List (T3 Int Int Int)))), .fix (fun b => ¬ Zn1 b) (enc (handed_1 : (List (List (T3 Int Int Int))))), .unk, .unk, .unk, .unk, .unk, .unk, .unk, .unk] := L72.unfix (i := 3) rfl; have L74 : Lo _ _ _ _ [.unk, .imm (enc (z3.1 : (List (T3 Int Int Int)))), .mu p2 (ml (q2.2 : (List Int))), .imm (enc (z6.1 : (List (T3 Int Int Int)))), .imm (enc (handed_1 : (List (List (T3 Int Int Int))))), .unk, .unk, .unk, .unk, .unk, .unk, .unk, .unk] := L73.unfix (i := 4) rfl; ?_)))
              exact x_ret (x_op (x_vd (d := (enc (handed_1 : (List (List (T3 Int Int Int)))))) L74 rfl fun v78 r91 => x_lst (x_cons (x_vd (d := (enc (z3.1 : (List (T3 Int Int Int))))) L74 rfl fun v79 r92 => x_cons (x_vd (d := (enc (z6.1 : (List (T3 Int Int Int))))) L74 rfl fun v80 r93 => x_nil (x_mkL L74 (.cons r92 (.cons r93 .nil)) (show (2 : Nat) ≤ 16777216 by decide) fun v81 _ L75 le36 r94 => have r95 := le36 _ _ r91; have r96 : Rep _ _ _ (enc ([z3.1, z6.1] : (List (List (T3 Int Int Int))))) v81 := r94; x_eqd (x := handed_1) (y := [z3.1, z6.1]) r95.dp r96.dp (by decide) (x_finB (Q := Q) (ps := (fun (r : Bool) => [])) (sc := fun (r : Bool) => r) ((decide (handed_1 = [z3.1, z6.1]))) hm64 kont (L75.fin hp0 (.bl _)))))))))
            · refine x_next ?_
              exact x_ret (x_op (x_vfx (d := (enc (handed_1 : (List (List (T3 Int Int Int)))))) L59 rfl fun v82 r97 => x_lst (x_cons (x_vfx (d := (enc (z3.1 : (List (T3 Int Int Int))))) L59 rfl fun v83 r98 => x_cons (x_vfx (d := (enc (z6.1 : (List (T3 Int Int Int))))) L59 rfl fun v84 r99 => x_nil (x_mkL L59 (.cons r98 (.cons r99 .nil)) (show (2 : Nat) ≤ 16777216 by decide) fun v85 _ L76 le37 r100 => have r101 := le37 _ _ r97; have r102 : Rep _ _ _ (enc ([z3.1, z6.1] : (List (List (T3 Int Int Int))))) v85 := r100; x_eqd (x := handed_1) (y := [z3.1, z6.1]) r101.dp r102.dp (by decide) (x_finB (Q := Q) (ps := (fun (r : Bool) => [])) (sc := fun (r : Bool) => r) ((decide (handed_1 = [z3.1, z6.1]))) hm64 kont (L76.fin hp0 (.bl _)))))))))
      · refine x_next ?_
        have L77 : Lo _ _ _ _ [.unk, .fix (fun b => ¬ Zn1 b) (enc (z3.1 : (List (T3 Int Int Int)))), .mu p2 (ml (s3.1 : (List Int))), .fix (fun b => ¬ Zn1 b) (enc (z6.1 : (List (T3 Int Int Int)))), .fix (fun b => ¬ Zn1 b) (enc (handed_1 : (List (List (T3 Int Int Int))))), .fixN Zn1 (enc (z7 : (Option (List (T3 Int Int Int))))), .imm (enc (z8 : (Option (List (T3 Int Int Int))))), .imm (enc (s3.2 : (List (T3 Int Int Int)))), .unk, .unk, .unk, .unk, .unk] := L31.freeze (i := 7) rfl hx3
        refine x_seq (x_tforL (x_vd (d := (enc (s3.2 : (List (T3 Int Int Int))))) L77 rfl fun v86 r103 => x_flL (G := (fun (s12 : Unit) => [.unk, .fix (fun b => ¬ Zn1 b) (enc (z3.1 : (List (T3 Int Int Int)))), .mu p2 (ml (s3.1 : (List Int))), .fix (fun b => ¬ Zn1 b) (enc (z6.1 : (List (T3 Int Int Int)))), .fix (fun b => ¬ Zn1 b) (enc (handed_1 : (List (List (T3 Int Int Int))))), .fixN Zn1 (enc (z7 : (Option (List (T3 Int Int Int))))), .imm (enc (z8 : (Option (List (T3 Int Int Int))))), .imm (enc (s3.2 : (List (T3 Int Int Int)))), .unk, .unk, .unk, .unk, .unk])) (s0 := ()) (xs := s3.2) (ps := (fun (r : Bool) => [])) (rs := (fun (r : Bool) => (.imm (.bool r)))) (L77.weak (Γ' := [.unk, .fix (fun b => ¬ Zn1 b) (enc (z3.1 : (List (T3 Int Int Int)))), .mu p2 (ml (s3.1 : (List Int))), .fix (fun b => ¬ Zn1 b) (enc (z6.1 : (List (T3 Int Int Int)))), .fix (fun b => ¬ Zn1 b) (enc (handed_1 : (List (List (T3 Int Int Int))))), .fixN Zn1 (enc (z7 : (Option (List (T3 Int Int Int))))), .imm (enc (z8 : (Option (List (T3 Int Int Int))))), .imm (enc (s3.2 : (List (T3 Int Int Int)))), .unk, .unk, .unk, .unk, .unk]) (.k (.k (.k (.k (.k (.k (.k (.k (.k (.k (.k (.k (.k .e)))))))))))))) (fun _ _ => rfl) r103 hm24 (fun x13 s12 H6 _ u6 _ _ _ _ _ hm65 L78 _ r104 hN4 hC4 hB4 hR4 => ?_) (fun s13 _ _ hm66 L79 => ?_) (fun _ _ _ hm67 F28 => x_finRB (Q := Q) (ps := (fun (r : Bool) => [])) (sc := fun (r : Bool) => r) hm67 kont F28)))
        · refine x_set (d := (enc (x13 : (T3 Int Int Int)))) (Γ' := [.unk, .fix (fun b => ¬ Zn1 b) (enc (z3.1 : (List (T3 Int Int Int)))), .mu p2 (ml (s3.1 : (List Int))), .fix (fun b => ¬ Zn1 b) (enc (z6.1 : (List (T3 Int Int Int)))), .fix (fun b => ¬ Zn1 b) (enc (handed_1 : (List (List (T3 Int Int Int))))), .fixN Zn1 (enc (z7 : (Option (List (T3 Int Int Int))))), .imm (enc (z8 : (Option (List (T3 Int Int Int))))), .imm (enc (s3.2 : (List (T3 Int Int Int)))), .unk, .unk, .imm (enc (x13 : (T3 Int Int Int))), .unk, .unk]) L78 r104 (show (10 : Nat) < 13 by decide) rfl fun _ L80 => ?_
          refine x_seq (x_asg (x_lst (x_cons (x_call (x_cons (x_vfx (d := (enc (z3.1 : (List (T3 Int Int Int))))) L80 rfl fun v87 r105 => x_cons (x_vd (d := (enc (x13 : (T3 Int Int Int)))) L80 rfl fun v88 r106 => x_nil (obE hm65 fun z25 hz27 hm68 => mk__law_within hz27 (L80.cond0 (.im r105 (.im r106 .nil)) rfl) fun _ F29 => k0 L80 F29 fun L81 le38 => x_cons (x_call (x_cons (x_vfx (d := (enc (z6.1 : (List (T3 Int Int Int))))) L81 rfl fun v90 r107 => x_cons (x_vd (d := (enc (x13 : (T3 Int Int Int)))) L81 rfl fun v91 r108 => x_nil (obE hm68 fun z26 hz28 hm69 => mk__law_within hz28 (L81.cond0 (.im r107 (.im r108 .nil)) rfl) fun _ F30 => k0 L81 F30 fun L82 le39 => x_nil (x_mkL L82 (.cons (.int _) (.cons (.int _) .nil)) (show (2 : Nat) ≤ 16777216 by decide) fun v93 _ L83 le40 r109 => have r110 : Rep _ _ _ (enc ([z25, z26] : (List Int))) v93 := r109; x_bset (x0 := [z25, z26]) (d := fun hands_2 => (enc (hands_2 : (List Int)))) (Γf := fun hands_2 => [.unk, .fix (fun b => ¬ Zn1 b) (enc (z3.1 : (List (T3 Int Int Int)))), .mu p2 (ml (s3.1 : (List Int))), .fix (fun b => ¬ Zn1 b) (enc (z6.1 : (List (T3 Int Int Int)))), .fix (fun b => ¬ Zn1 b) (enc (handed_1 : (List (List (T3 Int Int Int))))), .fixN Zn1 (enc (z7 : (Option (List (T3 Int Int Int))))), .imm (enc (z8 : (Option (List (T3 Int Int Int))))), .imm (enc (s3.2 : (List (T3 Int Int Int)))), .unk, .unk, .imm (enc (x13 : (T3 Int Int Int))), .imm (enc (hands_2 : (List Int))), .unk]) hm69 L83 r110 (show (11 : Nat) < 13 by decide) (fun _ => rfl) fun hands_2 _ hm70 L84 => ?_))))))))))))))
          refine x_ifS (x_test (x_op (x_un (x_c (x_u (x_vd (d := (enc (hands_2 : (List Int)))) L84 rfl fun v94 r111 => x_nind (x := (-1)) (ys := hands_2) (Rep.dp (K := K) (X := fun _ => False) (d := (.int ((-1)))) (.int _)) r111.dp (by decide) (x_kb (x_if hm70 (fun hm71 => ?_) fun hm71 => ?_))))))))
          · refine x_seq (x_asg (x_op (x_vd (d := (enc (hands_2 : (List Int)))) L84 rfl fun v95 r112 => x_lst (x_cons (x_c (x_cons (x_c (x_nil (x_mkL L84 (.cons (.int _) (.cons (.int _) .nil)) (show (2 : Nat) ≤ 16777216 by decide) fun v96 _ L85 le41 r113 => have r114 := le41 _ _ r112; have r115 : Rep _ _ _ (enc ([1, 1] : (List Int))) v96 := r113; x_eqd (x := hands_2) (y := [1, 1]) r114.dp r115.dp (by decide) (x_bset (x0 := (decide (hands_2 = [1, 1]))) (d := fun both_2 => (.bool both_2)) (Γf := fun both_2 => [.unk, .fix (fun b => ¬ Zn1 b) (enc (z3.1 : (List (T3 Int Int Int)))), .mu p2 (ml (s3.1 : (List Int))), .fix (fun b => ¬ Zn1 b) (enc (z6.1 : (List (T3 Int Int Int)))), .fix (fun b => ¬ Zn1 b) (enc (handed_1 : (List (List (T3 Int Int Int))))), .fixN Zn1 (enc (z7 : (Option (List (T3 Int Int Int))))), .imm (enc (z8 : (Option (List (T3 Int Int Int))))), .imm (enc (s3.2 : (List (T3 Int Int Int)))), .unk, .unk, .imm (enc (x13 : (T3 Int Int Int))), .imm (enc (hands_2 : (List Int))), .imm (.bool both_2)]) hm71 L85 (.bl _) (show (12 : Nat) < 13 by decide) (fun _ => rfl) fun both_2 _ hm72 L86 => ?_))))))))))
            refine x_ifS (x_test (x_op (x_vB (x := both_2) L86 rfl (x_andV (x_op (x_vfn (d := (enc (z7 : (Option (List (T3 Int Int Int)))))) L86 rfl fun v97 r116 => x_c (x_notNO (o := z7) r116 (x_kb (x_andVB L86 hm72 (fun _ hm75 _ hq => x_op (x_call (x_cons (x_vfn (d := (enc (z7 : (Option (List (T3 Int Int Int)))))) L86 rfl fun v101 r120 => obE hm75 fun x15 ho6 hm76 => have r121 : Rep _ _ _ (enc (x15 : (List (T3 Int Int Int)))) v101 := (by rw [ho6] at r120; exact r120); x_cons (x_vd (d := (enc (x13 : (T3 Int Int Int)))) L86 rfl fun v102 r122 => x_nil (obE hm76 fun z28 hz30 hm77 => mk__law_within hz30 (L86.cond0 (.im r121 (.im r122 .nil)) rfl) fun _ F32 => k0 L86 F32 fun L88 le43 => x_c (x_eqi (x_lfV hm77 hq L88)))))))) fun b4 _ hm78 L89 => x_neb (x_kb (x_if hm78 (fun hm79 => ?_) fun hm79 => ?_)))))))))))
            · exact x_ret (x_c (x_leafR (ps := (fun (r : Bool) => [])) (rs := (fun (r : Bool) => (.imm (.bool r)))) (e := false) hm79 hR4 (L89.fin hp0 (.bl _))))
            · refine x_next ?_
              exact x_leafN (G := (fun (s12 : Unit) => [.unk, .fix (fun b => ¬ Zn1 b) (enc (z3.1 : (List (T3 Int Int Int)))), .mu p2 (ml (s3.1 : (List Int))), .fix (fun b => ¬ Zn1 b) (enc (z6.1 : (List (T3 Int Int Int)))), .fix (fun b => ¬ Zn1 b) (enc (handed_1 : (List (List (T3 Int Int Int))))), .fixN Zn1 (enc (z7 : (Option (List (T3 Int Int Int))))), .imm (enc (z8 : (Option (List (T3 Int Int Int))))), .imm (enc (s3.2 : (List (T3 Int Int Int)))), .unk, .unk, .unk, .unk, .unk])) (e := ()) hm79 hN4 (L89.weak (Γ' := [.unk, .fix (fun b => ¬ Zn1 b) (enc (z3.1 : (List (T3 Int Int Int)))), .mu p2 (ml (s3.1 : (List Int))), .fix (fun b => ¬ Zn1 b) (enc (z6.1 : (List (T3 Int Int Int)))), .fix (fun b => ¬ Zn1 b) (enc (handed_1 : (List (List (T3 Int Int Int))))), .fixN Zn1 (enc (z7 : (Option (List (T3 Int Int Int))))), .imm (enc (z8 : (Option (List (T3 Int Int Int))))), .imm (enc (s3.2 : (List (T3 Int Int Int)))), .unk, .unk, .unk, .unk, .unk]) (.k (.k (.k (.k (.k (.k (.k (.k (.k (.k (.d (.d (.d .e))))))))))))))
          · refine x_next ?_
            exact x_leafN (G := (fun (s12 : Unit) => [.unk, .fix (fun b => ¬ Zn1 b) (enc (z3.1 : (List (T3 Int Int Int)))), .mu p2 (ml (s3.1 : (List Int))), .fix (fun b => ¬ Zn1 b) (enc (z6.1 : (List (T3 Int Int Int)))), .fix (fun b => ¬ Zn1 b) (enc (handed_1 : (List (List (T3 Int Int Int))))), .fixN Zn1 (enc (z7 : (Option (List (T3 Int Int Int))))), .imm (enc (z8 : (Option (List (T3 Int Int Int))))), .imm (enc (s3.2 : (List (T3 Int Int Int)))), .unk, .unk, .unk, .unk, .unk])) (e := ()) hm71 hN4 (L84.weak (Γ' := [.unk, .fix (fun b => ¬ Zn1 b) (enc (z3.1 : (List (T3 Int Int Int)))), .mu p2 (ml (s3.1 : (List Int))), .fix (fun b => ¬ Zn1 b) (enc (z6.1 : (List (T3 Int Int Int)))), .fix (fun b => ¬ Zn1 b) (enc (handed_1 : (List (List (T3 Int Int Int))))), .fixN Zn1 (enc (z7 : (Option (List (T3 Int Int Int))))), .imm (enc (z8 : (Option (List (T3 Int Int Int))))), .imm (enc (s3.2 : (List (T3 Int Int Int)))), .unk, .unk, .unk, .unk, .unk]) (.k (.k (.k (.k (.k (.k (.k (.k (.k (.k (.d (.d (.k .e))))))))))))))
        refine x_seq (x_ifS (x_test (x_op (x_vfn (d := (enc (z7 : (Option (List (T3 Int Int Int)))))) L79 rfl fun v104 r123 => x_c (x_notNO (o := z7) r123 (x_kb (x_if hm66 (fun hm80 => ?_) fun hm80 => ?_)))))))
        · refine obE hm80 fun found_2 ho7 hm81 => ?_
          have L90 : Lo _ _ _ _ [.unk, .fix (fun b => ¬ Zn1 b) (enc (z3.1 : (List (T3 Int Int Int)))), .mu p2 (ml (s3.1 : (List Int))), .fix (fun b => ¬ Zn1 b) (enc (z6.1 : (List (T3 Int Int Int)))), .fix (fun b => ¬ Zn1 b) (enc (handed_1 : (List (List (T3 Int Int Int))))), .fixN Zn1 (enc (found_2 : (List (T3 Int Int Int)))), .imm (enc (z8 : (Option (List (T3 Int Int Int))))), .imm (enc (s3.2 : (List (T3 Int Int Int)))), .unk, .unk, .unk, .unk, .unk] := L79.someN (i := 5) rfl ho7 rfl
          refine x_drop (have L92 := L90.weak (Γ' := [.unk, .fix (fun b => ¬ Zn1 b) (enc (z3.1 : (List (T3 Int Int Int)))), .mu p2 (ml (s3.1 : (List Int))), .fix (fun b => ¬ Zn1 b) (enc (z6.1 : (List (T3 Int Int Int)))), .fix (fun b => ¬ Zn1 b) (enc (handed_1 : (List (List (T3 Int Int Int))))), .fixN Zn1 (enc (found_2 : (List (T3 Int Int Int)))), .unk, .unk, .unk, .unk, .unk, .unk, .unk]) (.k (.k (.k (.k (.k (.k (.d (.d (.k (.k (.k (.k (.k .e))))))))))))); x_bm0 (x_vfz (d := (enc (found_2 : (List (T3 Int Int Int))))) L92 rfl fun v105 r124 => x_tyD r124 (x_clrN (i := 5) (Γ' := [.unk, .fix (fun b => ¬ Zn1 b) (enc (z3.1 : (List (T3 Int Int Int)))), .mu p2 (ml (s3.1 : (List Int))), .fix (fun b => ¬ Zn1 b) (enc (z6.1 : (List (T3 Int Int Int)))), .fix (fun b => ¬ Zn1 b) (enc (handed_1 : (List (List (T3 Int Int Int))))), .unk, .unk, .unk, .unk, .unk, .unk, .unk, .unk]) L92 hZ1 r124 rfl (List.forall_mem_cons.mpr ⟨trivial, (List.forall_mem_cons.mpr ⟨(fun _ h => h), (List.forall_mem_cons.mpr ⟨OldS.lst, (List.forall_mem_cons.mpr ⟨(fun _ h => h), (List.forall_mem_cons.mpr ⟨(fun _ h => h), (List.forall_mem_cons.mpr ⟨trivial, (List.forall_mem_cons.mpr ⟨trivial, (List.forall_mem_cons.mpr ⟨trivial, (List.forall_mem_cons.mpr ⟨trivial, (List.forall_mem_cons.mpr ⟨trivial, (List.forall_mem_cons.mpr ⟨trivial, (List.forall_mem_cons.mpr ⟨trivial, (List.forall_mem_cons.mpr ⟨trivial, (fun _ h => nomatch h)⟩)⟩)⟩)⟩)⟩)⟩)⟩)⟩)⟩)⟩)⟩)⟩)⟩) rfl fun _ L91 => have L93 : Lo _ _ _ _ [.unk, .imm (enc (z3.1 : (List (T3 Int Int Int)))), .mu p2 (ml (s3.1 : (List Int))), .fix (fun b => ¬ Zn1 b) (enc (z6.1 : (List (T3 Int Int Int)))), .fix (fun b => ¬ Zn1 b) (enc (handed_1 : (List (List (T3 Int Int Int))))), .unk, .unk, .unk, .unk, .unk, .unk, .unk, .unk] := L91.unfix (i := 1) rfl; have L94 : Lo _ _ _ _ [.unk, .imm (enc (z3.1 : (List (T3 Int Int Int)))), .mu p2 (ml (s3.1 : (List Int))), .imm (enc (z6.1 : (List (T3 Int Int Int)))), .fix (fun b => ¬ Zn1 b) (enc (handed_1 : (List (List (T3 Int Int Int))))), .unk, .unk, .unk, .unk, .unk, .unk, .unk, .unk] := L93.unfix (i := 3) rfl; have L95 : Lo _ _ _ _ [.unk, .imm (enc (z3.1 : (List (T3 Int Int Int)))), .mu p2 (ml (s3.1 : (List Int))), .imm (enc (z6.1 : (List (T3 Int Int Int)))), .imm (enc (handed_1 : (List (List (T3 Int Int Int))))), .unk, .unk, .unk, .unk, .unk, .unk, .unk, .unk] := L94.unfix (i := 4) rfl; ?_)))
          exact x_ret (x_op (x_vd (d := (enc (handed_1 : (List (List (T3 Int Int Int)))))) L95 rfl fun v106 r125 => x_lst (x_cons (x_vd (d := (enc (z3.1 : (List (T3 Int Int Int))))) L95 rfl fun v107 r126 => x_cons (x_vd (d := (enc (z6.1 : (List (T3 Int Int Int))))) L95 rfl fun v108 r127 => x_nil (x_mkL L95 (.cons r126 (.cons r127 .nil)) (show (2 : Nat) ≤ 16777216 by decide) fun v109 _ L96 le44 r128 => have r129 := le44 _ _ r125; have r130 : Rep _ _ _ (enc ([z3.1, z6.1] : (List (List (T3 Int Int Int))))) v109 := r128; x_eqd (x := handed_1) (y := [z3.1, z6.1]) r129.dp r130.dp (by decide) (x_finB (Q := Q) (ps := (fun (r : Bool) => [])) (sc := fun (r : Bool) => r) ((decide (handed_1 = [z3.1, z6.1]))) hm81 kont (L96.fin hp0 (.bl _)))))))))
        · refine x_next ?_
          exact x_ret (x_op (x_vfx (d := (enc (handed_1 : (List (List (T3 Int Int Int)))))) L79 rfl fun v110 r131 => x_lst (x_cons (x_vfx (d := (enc (z3.1 : (List (T3 Int Int Int))))) L79 rfl fun v111 r132 => x_cons (x_vfx (d := (enc (z6.1 : (List (T3 Int Int Int))))) L79 rfl fun v112 r133 => x_nil (x_mkL L79 (.cons r132 (.cons r133 .nil)) (show (2 : Nat) ≤ 16777216 by decide) fun v113 _ L97 le45 r134 => have r135 := le45 _ _ r131; have r136 : Rep _ _ _ (enc ([z3.1, z6.1] : (List (List (T3 Int Int Int))))) v113 := r134; x_eqd (x := handed_1) (y := [z3.1, z6.1]) r135.dp r136.dp (by decide) (x_finB (Q := Q) (ps := (fun (r : Bool) => [])) (sc := fun (r : Bool) => r) ((decide (handed_1 = [z3.1, z6.1]))) hm80 kont (L97.fin hp0 (.bl _)))))))))
end
theorem all_mk {l : PySem.W.OpenLaw} {w : World} {K : PySem.W.Frag} {h : Heap} {mg : Str → Option Value} {fa : Addr} (X : K.In h) (G : h.Ns mainGlobals mg) (hfa : mg "law" = some (.ref fa))
    {f0 : Addr} {od0 an0 : Option Addr} {sl0 : Array (Option Value)} {oc0 kV0 dc0 pm0 cd0 ct0 : Value}
    (a0 : PySem.W.nsIn K mainGlobals "_law_cell" = some (some (.ref f0))) (l0 : K.lookup f0 = some ⟨oc0, od0, .func (PySem.W.fnOf "_law_cell" "_law_cell" (defArgs s__law_cell) (defBody s__law_cell) (defScope s__law_cell) .none kV0 dc0 pm0 an0 cd0 ct0), sl0⟩) (c0 : PySem.W.codeIn K cd0 "_law_cell" = true) (k0 : PySem.W.keepIn K (.ref f0) = true)
    {f1 : Addr} {od1 an1 : Option Addr} {sl1 : Array (Option Value)} {oc1 kV1 dc1 pm1 cd1 ct1 : Value}
    (a1 : PySem.W.nsIn K mainGlobals "_law_bag" = some (some (.ref f1))) (l1 : K.lookup f1 = some ⟨oc1, od1, .func (PySem.W.fnOf "_law_bag" "_law_bag" (defArgs s__law_bag) (defBody s__law_bag) (defScope s__law_bag) .none kV1 dc1 pm1 an1 cd1 ct1), sl1⟩) (c1 : PySem.W.codeIn K cd1 "_law_bag" = true) (k1 : PySem.W.keepIn K (.ref f1) = true)
    {f2 : Addr} {od2 an2 : Option Addr} {sl2 : Array (Option Value)} {oc2 kV2 dc2 pm2 cd2 ct2 : Value}
    (a2 : PySem.W.nsIn K mainGlobals "_law_digit" = some (some (.ref f2))) (l2 : K.lookup f2 = some ⟨oc2, od2, .func (PySem.W.fnOf "_law_digit" "_law_digit" (defArgs s__law_digit) (defBody s__law_digit) (defScope s__law_digit) .none kV2 dc2 pm2 an2 cd2 ct2), sl2⟩) (c2 : PySem.W.codeIn K cd2 "_law_digit" = true) (k2 : PySem.W.keepIn K (.ref f2) = true)
    {f3 : Addr} {od3 an3 : Option Addr} {sl3 : Array (Option Value)} {oc3 kV3 dc3 pm3 cd3 ct3 : Value}
    (a3 : PySem.W.nsIn K mainGlobals "_law_point" = some (some (.ref f3))) (l3 : K.lookup f3 = some ⟨oc3, od3, .func (PySem.W.fnOf "_law_point" "_law_point" (defArgs s__law_point) (defBody s__law_point) (defScope s__law_point) .none kV3 dc3 pm3 an3 cd3 ct3), sl3⟩) (c3 : PySem.W.codeIn K cd3 "_law_point" = true) (k3 : PySem.W.keepIn K (.ref f3) = true)
    {f4 : Addr} {od4 an4 : Option Addr} {sl4 : Array (Option Value)} {oc4 kV4 dc4 pm4 cd4 ct4 : Value}
    (a4 : PySem.W.nsIn K mainGlobals "_law_place" = some (some (.ref f4))) (l4 : K.lookup f4 = some ⟨oc4, od4, .func (PySem.W.fnOf "_law_place" "_law_place" (defArgs s__law_place) (defBody s__law_place) (defScope s__law_place) .none kV4 dc4 pm4 an4 cd4 ct4), sl4⟩) (c4 : PySem.W.codeIn K cd4 "_law_place" = true) (k4 : PySem.W.keepIn K (.ref f4) = true)
    {f5 : Addr} {od5 an5 : Option Addr} {sl5 : Array (Option Value)} {oc5 kV5 dc5 pm5 cd5 ct5 : Value}
    (a5 : PySem.W.nsIn K mainGlobals "_law_side" = some (some (.ref f5))) (l5 : K.lookup f5 = some ⟨oc5, od5, .func (PySem.W.fnOf "_law_side" "_law_side" (defArgs s__law_side) (defBody s__law_side) (defScope s__law_side) .none kV5 dc5 pm5 an5 cd5 ct5), sl5⟩) (c5 : PySem.W.codeIn K cd5 "_law_side" = true) (k5 : PySem.W.keepIn K (.ref f5) = true)
    {f6 : Addr} {od6 an6 : Option Addr} {sl6 : Array (Option Value)} {oc6 kV6 dc6 pm6 cd6 ct6 : Value}
    (a6 : PySem.W.nsIn K mainGlobals "_law_three" = some (some (.ref f6))) (l6 : K.lookup f6 = some ⟨oc6, od6, .func (PySem.W.fnOf "_law_three" "_law_three" (defArgs s__law_three) (defBody s__law_three) (defScope s__law_three) .none kV6 dc6 pm6 an6 cd6 ct6), sl6⟩) (c6 : PySem.W.codeIn K cd6 "_law_three" = true) (k6 : PySem.W.keepIn K (.ref f6) = true)
    {f7 : Addr} {od7 an7 : Option Addr} {sl7 : Array (Option Value)} {oc7 kV7 dc7 pm7 cd7 ct7 : Value}
    (a7 : PySem.W.nsIn K mainGlobals "_law_is_point" = some (some (.ref f7))) (l7 : K.lookup f7 = some ⟨oc7, od7, .func (PySem.W.fnOf "_law_is_point" "_law_is_point" (defArgs s__law_is_point) (defBody s__law_is_point) (defScope s__law_is_point) .none kV7 dc7 pm7 an7 cd7 ct7), sl7⟩) (c7 : PySem.W.codeIn K cd7 "_law_is_point" = true) (k7 : PySem.W.keepIn K (.ref f7) = true)
    {f8 : Addr} {od8 an8 : Option Addr} {sl8 : Array (Option Value)} {oc8 kV8 dc8 pm8 cd8 ct8 : Value}
    (a8 : PySem.W.nsIn K mainGlobals "_law_is_convex" = some (some (.ref f8))) (l8 : K.lookup f8 = some ⟨oc8, od8, .func (PySem.W.fnOf "_law_is_convex" "_law_is_convex" (defArgs s__law_is_convex) (defBody s__law_is_convex) (defScope s__law_is_convex) .none kV8 dc8 pm8 an8 cd8 ct8), sl8⟩) (c8 : PySem.W.codeIn K cd8 "_law_is_convex" = true) (k8 : PySem.W.keepIn K (.ref f8) = true)
    {f9 : Addr} {od9 an9 : Option Addr} {sl9 : Array (Option Value)} {oc9 kV9 dc9 pm9 cd9 ct9 : Value}
    (a9 : PySem.W.nsIn K mainGlobals "_law_bulging" = some (some (.ref f9))) (l9 : K.lookup f9 = some ⟨oc9, od9, .func (PySem.W.fnOf "_law_bulging" "_law_bulging" (defArgs s__law_bulging) (defBody s__law_bulging) (defScope s__law_bulging) .none kV9 dc9 pm9 an9 cd9 ct9), sl9⟩) (c9 : PySem.W.codeIn K cd9 "_law_bulging" = true) (k9 : PySem.W.keepIn K (.ref f9) = true)
    {f10 : Addr} {od10 an10 : Option Addr} {sl10 : Array (Option Value)} {oc10 kV10 dc10 pm10 cd10 ct10 : Value}
    (a10 : PySem.W.nsIn K mainGlobals "_law_step" = some (some (.ref f10))) (l10 : K.lookup f10 = some ⟨oc10, od10, .func (PySem.W.fnOf "_law_step" "_law_step" (defArgs s__law_step) (defBody s__law_step) (defScope s__law_step) .none kV10 dc10 pm10 an10 cd10 ct10), sl10⟩) (c10 : PySem.W.codeIn K cd10 "_law_step" = true) (k10 : PySem.W.keepIn K (.ref f10) = true)
    {f11 : Addr} {od11 an11 : Option Addr} {sl11 : Array (Option Value)} {oc11 kV11 dc11 pm11 cd11 ct11 : Value}
    (a11 : PySem.W.nsIn K mainGlobals "_law_slid" = some (some (.ref f11))) (l11 : K.lookup f11 = some ⟨oc11, od11, .func (PySem.W.fnOf "_law_slid" "_law_slid" (defArgs s__law_slid) (defBody s__law_slid) (defScope s__law_slid) .none kV11 dc11 pm11 an11 cd11 ct11), sl11⟩) (c11 : PySem.W.codeIn K cd11 "_law_slid" = true) (k11 : PySem.W.keepIn K (.ref f11) = true)
    {f12 : Addr} {od12 an12 : Option Addr} {sl12 : Array (Option Value)} {oc12 kV12 dc12 pm12 cd12 ct12 : Value}
    (a12 : PySem.W.nsIn K mainGlobals "_law_turned" = some (some (.ref f12))) (l12 : K.lookup f12 = some ⟨oc12, od12, .func (PySem.W.fnOf "_law_turned" "_law_turned" (defArgs s__law_turned) (defBody s__law_turned) (defScope s__law_turned) .none kV12 dc12 pm12 an12 cd12 ct12), sl12⟩) (c12 : PySem.W.codeIn K cd12 "_law_turned" = true) (k12 : PySem.W.keepIn K (.ref f12) = true)
    {f13 : Addr} {od13 an13 : Option Addr} {sl13 : Array (Option Value)} {oc13 kV13 dc13 pm13 cd13 ct13 : Value}
    (a13 : PySem.W.nsIn K mainGlobals "_law_second" = some (some (.ref f13))) (l13 : K.lookup f13 = some ⟨oc13, od13, .func (PySem.W.fnOf "_law_second" "_law_second" (defArgs s__law_second) (defBody s__law_second) (defScope s__law_second) .none kV13 dc13 pm13 an13 cd13 ct13), sl13⟩) (c13 : PySem.W.codeIn K cd13 "_law_second" = true) (k13 : PySem.W.keepIn K (.ref f13) = true)
    {f14 : Addr} {od14 an14 : Option Addr} {sl14 : Array (Option Value)} {oc14 kV14 dc14 pm14 cd14 ct14 : Value}
    (a14 : PySem.W.nsIn K mainGlobals "crossed" = some (some (.ref f14))) (l14 : K.lookup f14 = some ⟨oc14, od14, .func (PySem.W.fnOf "crossed" "crossed" (defArgs s_crossed) (defBody s_crossed) (defScope s_crossed) .none kV14 dc14 pm14 an14 cd14 ct14), sl14⟩) (c14 : PySem.W.codeIn K cd14 "crossed" = true) (k14 : PySem.W.keepIn K (.ref f14) = true)
    {f15 : Addr} {od15 an15 : Option Addr} {sl15 : Array (Option Value)} {oc15 kV15 dc15 pm15 cd15 ct15 : Value}
    (a15 : PySem.W.nsIn K mainGlobals "side" = some (some (.ref f15))) (l15 : K.lookup f15 = some ⟨oc15, od15, .func (PySem.W.fnOf "side" "side" (defArgs s_side) (defBody s_side) (defScope s_side) .none kV15 dc15 pm15 an15 cd15 ct15), sl15⟩) (c15 : PySem.W.codeIn K cd15 "side" = true) (k15 : PySem.W.keepIn K (.ref f15) = true)
    {f16 : Addr} {od16 an16 : Option Addr} {sl16 : Array (Option Value)} {oc16 kV16 dc16 pm16 cd16 ct16 : Value}
    (a16 : PySem.W.nsIn K mainGlobals "greatest_divisor" = some (some (.ref f16))) (l16 : K.lookup f16 = some ⟨oc16, od16, .func (PySem.W.fnOf "greatest_divisor" "greatest_divisor" (defArgs s_greatest_divisor) (defBody s_greatest_divisor) (defScope s_greatest_divisor) .none kV16 dc16 pm16 an16 cd16 ct16), sl16⟩) (c16 : PySem.W.codeIn K cd16 "greatest_divisor" = true) (k16 : PySem.W.keepIn K (.ref f16) = true)
    {f17 : Addr} {od17 an17 : Option Addr} {sl17 : Array (Option Value)} {oc17 kV17 dc17 pm17 cd17 ct17 : Value}
    (a17 : PySem.W.nsIn K mainGlobals "point" = some (some (.ref f17))) (l17 : K.lookup f17 = some ⟨oc17, od17, .func (PySem.W.fnOf "point" "point" (defArgs s_point) (defBody s_point) (defScope s_point) .none kV17 dc17 pm17 an17 cd17 ct17), sl17⟩) (c17 : PySem.W.codeIn K cd17 "point" = true) (k17 : PySem.W.keepIn K (.ref f17) = true)
    {f18 : Addr} {od18 an18 : Option Addr} {sl18 : Array (Option Value)} {oc18 kV18 dc18 pm18 cd18 ct18 : Value}
    (a18 : PySem.W.nsIn K mainGlobals "meet" = some (some (.ref f18))) (l18 : K.lookup f18 = some ⟨oc18, od18, .func (PySem.W.fnOf "meet" "meet" (defArgs s_meet) (defBody s_meet) (defScope s_meet) .none kV18 dc18 pm18 an18 cd18 ct18), sl18⟩) (c18 : PySem.W.codeIn K cd18 "meet" = true) (k18 : PySem.W.keepIn K (.ref f18) = true)
    {f19 : Addr} {od19 an19 : Option Addr} {sl19 : Array (Option Value)} {oc19 kV19 dc19 pm19 cd19 ct19 : Value}
    (a19 : PySem.W.nsIn K mainGlobals "half_of" = some (some (.ref f19))) (l19 : K.lookup f19 = some ⟨oc19, od19, .func (PySem.W.fnOf "half_of" "half_of" (defArgs s_half_of) (defBody s_half_of) (defScope s_half_of) .none kV19 dc19 pm19 an19 cd19 ct19), sl19⟩) (c19 : PySem.W.codeIn K cd19 "half_of" = true) (k19 : PySem.W.keepIn K (.ref f19) = true)
    {f20 : Addr} {od20 an20 : Option Addr} {sl20 : Array (Option Value)} {oc20 kV20 dc20 pm20 cd20 ct20 : Value}
    (a20 : PySem.W.nsIn K mainGlobals "common" = some (some (.ref f20))) (l20 : K.lookup f20 = some ⟨oc20, od20, .func (PySem.W.fnOf "common" "common" (defArgs s_common) (defBody s_common) (defScope s_common) .none kV20 dc20 pm20 an20 cd20 ct20), sl20⟩) (c20 : PySem.W.codeIn K cd20 "common" = true) (k20 : PySem.W.keepIn K (.ref f20) = true)
    {f21 : Addr} {od21 an21 : Option Addr} {sl21 : Array (Option Value)} {oc21 kV21 dc21 pm21 cd21 ct21 : Value}
    (a21 : PySem.W.nsIn K mainGlobals "_law_spot" = some (some (.ref f21))) (l21 : K.lookup f21 = some ⟨oc21, od21, .func (PySem.W.fnOf "_law_spot" "_law_spot" (defArgs s__law_spot) (defBody s__law_spot) (defScope s__law_spot) .none kV21 dc21 pm21 an21 cd21 ct21), sl21⟩) (c21 : PySem.W.codeIn K cd21 "_law_spot" = true) (k21 : PySem.W.keepIn K (.ref f21) = true)
    {f22 : Addr} {od22 an22 : Option Addr} {sl22 : Array (Option Value)} {oc22 kV22 dc22 pm22 cd22 ct22 : Value}
    (a22 : PySem.W.nsIn K mainGlobals "_law_mixed" = some (some (.ref f22))) (l22 : K.lookup f22 = some ⟨oc22, od22, .func (PySem.W.fnOf "_law_mixed" "_law_mixed" (defArgs s__law_mixed) (defBody s__law_mixed) (defScope s__law_mixed) .none kV22 dc22 pm22 an22 cd22 ct22), sl22⟩) (c22 : PySem.W.codeIn K cd22 "_law_mixed" = true) (k22 : PySem.W.keepIn K (.ref f22) = true)
    {f23 : Addr} {od23 an23 : Option Addr} {sl23 : Array (Option Value)} {oc23 kV23 dc23 pm23 cd23 ct23 : Value}
    (a23 : PySem.W.nsIn K mainGlobals "_law_twice_area" = some (some (.ref f23))) (l23 : K.lookup f23 = some ⟨oc23, od23, .func (PySem.W.fnOf "_law_twice_area" "_law_twice_area" (defArgs s__law_twice_area) (defBody s__law_twice_area) (defScope s__law_twice_area) .none kV23 dc23 pm23 an23 cd23 ct23), sl23⟩) (c23 : PySem.W.codeIn K cd23 "_law_twice_area" = true) (k23 : PySem.W.keepIn K (.ref f23) = true)
    {f24 : Addr} {od24 an24 : Option Addr} {sl24 : Array (Option Value)} {oc24 kV24 dc24 pm24 cd24 ct24 : Value}
    (a24 : PySem.W.nsIn K mainGlobals "_law_within" = some (some (.ref f24))) (l24 : K.lookup f24 = some ⟨oc24, od24, .func (PySem.W.fnOf "_law_within" "_law_within" (defArgs s__law_within) (defBody s__law_within) (defScope s__law_within) .none kV24 dc24 pm24 an24 cd24 ct24), sl24⟩) (c24 : PySem.W.codeIn K cd24 "_law_within" = true) (k24 : PySem.W.keepIn K (.ref f24) = true)
    {f25 : Addr} {od25 an25 : Option Addr} {sl25 : Array (Option Value)} {oc25 kV25 dc25 pm25 cd25 ct25 : Value}
    (a25 : PySem.W.nsIn K mainGlobals "law" = some (some (.ref f25))) (l25 : K.lookup f25 = some ⟨oc25, od25, .func (PySem.W.fnOf "law" "law" (defArgs s_law) (defBody s_law) (defScope s_law) .none kV25 dc25 pm25 an25 cd25 ct25), sl25⟩) (c25 : PySem.W.codeIn K cd25 "law" = true) (k25 : PySem.W.keepIn K (.ref f25) = true)
    (z_abs : PySem.W.nsIn K mainGlobals "abs" = some none)
    (z_bool : PySem.W.nsIn K mainGlobals "bool" = some none)
    (z_enumerate : PySem.W.nsIn K mainGlobals "enumerate" = some none)
    (z_int : PySem.W.nsIn K mainGlobals "int" = some none)
    (z_isinstance : PySem.W.nsIn K mainGlobals "isinstance" = some none)
    (z_len : PySem.W.nsIn K mainGlobals "len" = some none)
    (z_list : PySem.W.nsIn K mainGlobals "list" = some none)
    (z_max : PySem.W.nsIn K mainGlobals "max" = some none)
    (z_range : PySem.W.nsIn K mainGlobals "range" = some none)
    (z_tuple : PySem.W.nsIn K mainGlobals "tuple" = some none)
    : ∃ fd : FuncData, (∀ (s : Shared) (v : Value), BindsTo s fd ⟨[v], []⟩ [("_law_script", v)]) ∧ ∀ base : Heap, K.In base → base.Ns mainGlobals mg → FnOk l.prog w K mg base CX0 6 fa fd ["_law_script"] (sp_law K) := by
  have e := hfa.symm.trans (PySem.W.mg_of X G a25)
  cases e
  let T : Txt K mg := {
    A__law_cell := f0, D__law_cell := PySem.W.fnOf "_law_cell" "_law_cell" (defArgs s__law_cell) (defBody s__law_cell) (defScope s__law_cell) .none kV0 dc0 pm0 an0 cd0 ct0, F__law_cell := fun_mk (st := s__law_cell) l0 c0 k0, g__law_cell := PySem.W.mg_of X G a0, b__law_cell := (fun_mk (st := s__law_cell) l0 c0 k0).binds (ps := ["_law_script", "_law_k"]) fun _ _ _ _ _ _ us hl => match us, hl with | [_, _], _ => rfl,
    A__law_bag := f1, D__law_bag := PySem.W.fnOf "_law_bag" "_law_bag" (defArgs s__law_bag) (defBody s__law_bag) (defScope s__law_bag) .none kV1 dc1 pm1 an1 cd1 ct1, F__law_bag := fun_mk (st := s__law_bag) l1 c1 k1, g__law_bag := PySem.W.mg_of X G a1, b__law_bag := (fun_mk (st := s__law_bag) l1 c1 k1).binds (ps := ["_law_cell_here"]) fun _ _ _ _ _ _ us hl => match us, hl with | [_], _ => rfl,
    A__law_digit := f2, D__law_digit := PySem.W.fnOf "_law_digit" "_law_digit" (defArgs s__law_digit) (defBody s__law_digit) (defScope s__law_digit) .none kV2 dc2 pm2 an2 cd2 ct2, F__law_digit := fun_mk (st := s__law_digit) l2 c2 k2, g__law_digit := PySem.W.mg_of X G a2, b__law_digit := (fun_mk (st := s__law_digit) l2 c2 k2).binds (ps := ["_law_bag_here", "_law_many"]) fun _ _ _ _ _ _ us hl => match us, hl with | [_, _], _ => rfl,
    A__law_point := f3, D__law_point := PySem.W.fnOf "_law_point" "_law_point" (defArgs s__law_point) (defBody s__law_point) (defScope s__law_point) .none kV3 dc3 pm3 an3 cd3 ct3, F__law_point := fun_mk (st := s__law_point) l3 c3 k3, g__law_point := PySem.W.mg_of X G a3, b__law_point := (fun_mk (st := s__law_point) l3 c3 k3).binds (ps := ["_law_a", "_law_b", "_law_n"]) fun _ _ _ _ _ _ us hl => match us, hl with | [_, _, _], _ => rfl,
    A__law_place := f4, D__law_place := PySem.W.fnOf "_law_place" "_law_place" (defArgs s__law_place) (defBody s__law_place) (defScope s__law_place) .none kV4 dc4 pm4 an4 cd4 ct4, F__law_place := fun_mk (st := s__law_place) l4 c4 k4, g__law_place := PySem.W.mg_of X G a4, b__law_place := (fun_mk (st := s__law_place) l4 c4 k4).binds (ps := ["_law_bag_here", "_law_most"]) fun _ _ _ _ _ _ us hl => match us, hl with | [_, _], _ => rfl,
    A__law_side := f5, D__law_side := PySem.W.fnOf "_law_side" "_law_side" (defArgs s__law_side) (defBody s__law_side) (defScope s__law_side) .none kV5 dc5 pm5 an5 cd5 ct5, F__law_side := fun_mk (st := s__law_side) l5 c5 k5, g__law_side := PySem.W.mg_of X G a5, b__law_side := (fun_mk (st := s__law_side) l5 c5 k5).binds (ps := ["_law_p", "_law_q", "_law_r"]) fun _ _ _ _ _ _ us hl => match us, hl with | [_, _, _], _ => rfl,
    A__law_three := f6, D__law_three := PySem.W.fnOf "_law_three" "_law_three" (defArgs s__law_three) (defBody s__law_three) (defScope s__law_three) .none kV6 dc6 pm6 an6 cd6 ct6, F__law_three := fun_mk (st := s__law_three) l6 c6 k6, g__law_three := PySem.W.mg_of X G a6, b__law_three := (fun_mk (st := s__law_three) l6 c6 k6).binds (ps := ["_law_bag_here", "_law_most"]) fun _ _ _ _ _ _ us hl => match us, hl with | [_, _], _ => rfl,
    A__law_is_point := f7, D__law_is_point := PySem.W.fnOf "_law_is_point" "_law_is_point" (defArgs s__law_is_point) (defBody s__law_is_point) (defScope s__law_is_point) .none kV7 dc7 pm7 an7 cd7 ct7, F__law_is_point := fun_mk (st := s__law_is_point) l7 c7 k7, g__law_is_point := PySem.W.mg_of X G a7, b__law_is_point := (fun_mk (st := s__law_is_point) l7 c7 k7).binds (ps := ["_law_p"]) fun _ _ _ _ _ _ us hl => match us, hl with | [_], _ => rfl,
    A__law_is_convex := f8, D__law_is_convex := PySem.W.fnOf "_law_is_convex" "_law_is_convex" (defArgs s__law_is_convex) (defBody s__law_is_convex) (defScope s__law_is_convex) .none kV8 dc8 pm8 an8 cd8 ct8, F__law_is_convex := fun_mk (st := s__law_is_convex) l8 c8 k8, g__law_is_convex := PySem.W.mg_of X G a8, b__law_is_convex := (fun_mk (st := s__law_is_convex) l8 c8 k8).binds (ps := ["_law_ring"]) fun _ _ _ _ _ _ us hl => match us, hl with | [_], _ => rfl,
    A__law_bulging := f9, D__law_bulging := PySem.W.fnOf "_law_bulging" "_law_bulging" (defArgs s__law_bulging) (defBody s__law_bulging) (defScope s__law_bulging) .none kV9 dc9 pm9 an9 cd9 ct9, F__law_bulging := fun_mk (st := s__law_bulging) l9 c9 k9, g__law_bulging := PySem.W.mg_of X G a9, b__law_bulging := (fun_mk (st := s__law_bulging) l9 c9 k9).binds (ps := ["_law_bag_here", "_law_most"]) fun _ _ _ _ _ _ us hl => match us, hl with | [_, _], _ => rfl,
    A__law_step := f10, D__law_step := PySem.W.fnOf "_law_step" "_law_step" (defArgs s__law_step) (defBody s__law_step) (defScope s__law_step) .none kV10 dc10 pm10 an10 cd10 ct10, F__law_step := fun_mk (st := s__law_step) l10 c10 k10, g__law_step := PySem.W.mg_of X G a10, b__law_step := (fun_mk (st := s__law_step) l10 c10 k10).binds (ps := ["_law_bag_here", "_law_most"]) fun _ _ _ _ _ _ us hl => match us, hl with | [_, _], _ => rfl,
    A__law_slid := f11, D__law_slid := PySem.W.fnOf "_law_slid" "_law_slid" (defArgs s__law_slid) (defBody s__law_slid) (defScope s__law_slid) .none kV11 dc11 pm11 an11 cd11 ct11, F__law_slid := fun_mk (st := s__law_slid) l11 c11 k11, g__law_slid := PySem.W.mg_of X G a11, b__law_slid := (fun_mk (st := s__law_slid) l11 c11 k11).binds (ps := ["_law_p", "_law_v"]) fun _ _ _ _ _ _ us hl => match us, hl with | [_, _], _ => rfl,
    A__law_turned := f12, D__law_turned := PySem.W.fnOf "_law_turned" "_law_turned" (defArgs s__law_turned) (defBody s__law_turned) (defScope s__law_turned) .none kV12 dc12 pm12 an12 cd12 ct12, F__law_turned := fun_mk (st := s__law_turned) l12 c12 k12, g__law_turned := PySem.W.mg_of X G a12, b__law_turned := (fun_mk (st := s__law_turned) l12 c12 k12).binds (ps := ["_law_p"]) fun _ _ _ _ _ _ us hl => match us, hl with | [_], _ => rfl,
    A__law_second := f13, D__law_second := PySem.W.fnOf "_law_second" "_law_second" (defArgs s__law_second) (defBody s__law_second) (defScope s__law_second) .none kV13 dc13 pm13 an13 cd13 ct13, F__law_second := fun_mk (st := s__law_second) l13 c13 k13, g__law_second := PySem.W.mg_of X G a13, b__law_second := (fun_mk (st := s__law_second) l13 c13 k13).binds (ps := ["_law_ring", "_law_bag_here"]) fun _ _ _ _ _ _ us hl => match us, hl with | [_, _], _ => rfl,
    A_crossed := f14, D_crossed := PySem.W.fnOf "crossed" "crossed" (defArgs s_crossed) (defBody s_crossed) (defScope s_crossed) .none kV14 dc14 pm14 an14 cd14 ct14, F_crossed := fun_mk (st := s_crossed) l14 c14 k14, g_crossed := PySem.W.mg_of X G a14, b_crossed := (fun_mk (st := s_crossed) l14 c14 k14).binds (ps := ["p", "q"]) fun _ _ _ _ _ _ us hl => match us, hl with | [_, _], _ => rfl,
    A_side := f15, D_side := PySem.W.fnOf "side" "side" (defArgs s_side) (defBody s_side) (defScope s_side) .none kV15 dc15 pm15 an15 cd15 ct15, F_side := fun_mk (st := s_side) l15 c15 k15, g_side := PySem.W.mg_of X G a15, b_side := (fun_mk (st := s_side) l15 c15 k15).binds (ps := ["p", "q", "r"]) fun _ _ _ _ _ _ us hl => match us, hl with | [_, _, _], _ => rfl,
    A_greatest_divisor := f16, D_greatest_divisor := PySem.W.fnOf "greatest_divisor" "greatest_divisor" (defArgs s_greatest_divisor) (defBody s_greatest_divisor) (defScope s_greatest_divisor) .none kV16 dc16 pm16 an16 cd16 ct16, F_greatest_divisor := fun_mk (st := s_greatest_divisor) l16 c16 k16, g_greatest_divisor := PySem.W.mg_of X G a16, b_greatest_divisor := (fun_mk (st := s_greatest_divisor) l16 c16 k16).binds (ps := ["a", "b"]) fun _ _ _ _ _ _ us hl => match us, hl with | [_, _], _ => rfl,
    A_point := f17, D_point := PySem.W.fnOf "point" "point" (defArgs s_point) (defBody s_point) (defScope s_point) .none kV17 dc17 pm17 an17 cd17 ct17, F_point := fun_mk (st := s_point) l17 c17 k17, g_point := PySem.W.mg_of X G a17, b_point := (fun_mk (st := s_point) l17 c17 k17).binds (ps := ["a", "b", "n"]) fun _ _ _ _ _ _ us hl => match us, hl with | [_, _, _], _ => rfl,
    A_meet := f18, D_meet := PySem.W.fnOf "meet" "meet" (defArgs s_meet) (defBody s_meet) (defScope s_meet) .none kV18 dc18 pm18 an18 cd18 ct18, F_meet := fun_mk (st := s_meet) l18 c18 k18, g_meet := PySem.W.mg_of X G a18, b_meet := (fun_mk (st := s_meet) l18 c18 k18).binds (ps := ["p", "q", "r", "s"]) fun _ _ _ _ _ _ us hl => match us, hl with | [_, _, _, _], _ => rfl,
    A_half_of := f19, D_half_of := PySem.W.fnOf "half_of" "half_of" (defArgs s_half_of) (defBody s_half_of) (defScope s_half_of) .none kV19 dc19 pm19 an19 cd19 ct19, F_half_of := fun_mk (st := s_half_of) l19 c19 k19, g_half_of := PySem.W.mg_of X G a19, b_half_of := (fun_mk (st := s_half_of) l19 c19 k19).binds (ps := ["ring", "p", "q", "hand"]) fun _ _ _ _ _ _ us hl => match us, hl with | [_, _, _, _], _ => rfl,
    A_common := f20, D_common := PySem.W.fnOf "common" "common" (defArgs s_common) (defBody s_common) (defScope s_common) .none kV20 dc20 pm20 an20 cd20 ct20, F_common := fun_mk (st := s_common) l20 c20 k20, g_common := PySem.W.mg_of X G a20, b_common := (fun_mk (st := s_common) l20 c20 k20).binds (ps := ["one", "other"]) fun _ _ _ _ _ _ us hl => match us, hl with | [_, _], _ => rfl,
    A__law_spot := f21, D__law_spot := PySem.W.fnOf "_law_spot" "_law_spot" (defArgs s__law_spot) (defBody s__law_spot) (defScope s__law_spot) .none kV21 dc21 pm21 an21 cd21 ct21, F__law_spot := fun_mk (st := s__law_spot) l21 c21 k21, g__law_spot := PySem.W.mg_of X G a21, b__law_spot := (fun_mk (st := s__law_spot) l21 c21 k21).binds (ps := ["_law_bag_here", "_law_most"]) fun _ _ _ _ _ _ us hl => match us, hl with | [_, _], _ => rfl,
    A__law_mixed := f22, D__law_mixed := PySem.W.fnOf "_law_mixed" "_law_mixed" (defArgs s__law_mixed) (defBody s__law_mixed) (defScope s__law_mixed) .none kV22 dc22 pm22 an22 cd22 ct22, F__law_mixed := fun_mk (st := s__law_mixed) l22 c22 k22, g__law_mixed := PySem.W.mg_of X G a22, b__law_mixed := (fun_mk (st := s__law_mixed) l22 c22 k22).binds (ps := ["_law_ring", "_law_bag_here"]) fun _ _ _ _ _ _ us hl => match us, hl with | [_, _], _ => rfl,
    A__law_twice_area := f23, D__law_twice_area := PySem.W.fnOf "_law_twice_area" "_law_twice_area" (defArgs s__law_twice_area) (defBody s__law_twice_area) (defScope s__law_twice_area) .none kV23 dc23 pm23 an23 cd23 ct23, F__law_twice_area := fun_mk (st := s__law_twice_area) l23 c23 k23, g__law_twice_area := PySem.W.mg_of X G a23, b__law_twice_area := (fun_mk (st := s__law_twice_area) l23 c23 k23).binds (ps := ["_law_ring"]) fun _ _ _ _ _ _ us hl => match us, hl with | [_], _ => rfl,
    A__law_within := f24, D__law_within := PySem.W.fnOf "_law_within" "_law_within" (defArgs s__law_within) (defBody s__law_within) (defScope s__law_within) .none kV24 dc24 pm24 an24 cd24 ct24, F__law_within := fun_mk (st := s__law_within) l24 c24 k24, g__law_within := PySem.W.mg_of X G a24, b__law_within := (fun_mk (st := s__law_within) l24 c24 k24).binds (ps := ["_law_ring", "_law_p"]) fun _ _ _ _ _ _ us hl => match us, hl with | [_, _], _ => rfl,
    A_law := fa, D_law := PySem.W.fnOf "law" "law" (defArgs s_law) (defBody s_law) (defScope s_law) .none kV25 dc25 pm25 an25 cd25 ct25, F_law := fun_mk (st := s_law) l25 c25 k25, g_law := PySem.W.mg_of X G a25, b_law := (fun_mk (st := s_law) l25 c25 k25).binds (ps := ["_law_script"]) fun _ _ _ _ _ _ us hl => match us, hl with | [_], _ => rfl,
    z_abs := PySem.W.mg_none_of X G z_abs,
    z_bool := PySem.W.mg_none_of X G z_bool,
    z_enumerate := PySem.W.mg_none_of X G z_enumerate,
    z_int := PySem.W.mg_none_of X G z_int,
    z_isinstance := PySem.W.mg_none_of X G z_isinstance,
    z_len := PySem.W.mg_none_of X G z_len,
    z_list := PySem.W.mg_none_of X G z_list,
    z_max := PySem.W.mg_none_of X G z_max,
    z_range := PySem.W.mg_none_of X G z_range,
    z_tuple := PySem.W.mg_none_of X G z_tuple }
  exact ⟨_, fun s v => .of_eq rfl, fun base _ _ => ok_law (P := l.prog) (w := w) (base := base) T⟩
theorem walk {l : PySem.W.OpenLaw} {q : Program} {loose : List Str} {XP : (Str → Option Value) → Heap → Prop} {YP : World → Heap → Prop} {d : DefRec} {K : Params → PySem.W.Frag} (hn : l.most = some 63) (hdf : d.params.defaults = [])
    (hY : ∀ (w : World) (h : Heap), YP w h → (K w.params).In h)
    (F : ∀ (w : World) (mg : Str → Option Value) (fa : Addr) (h : Heap), (K w.params).In h → h.Ns mainGlobals mg → mg d.name = some (.ref fa) →
      ∃ fd : FuncData, (∀ (s : Shared) (u : Value), BindsTo s fd ⟨[u], []⟩ [("_law_script", u)]) ∧ ∀ base : Heap, (K w.params).In base → base.Ns mainGlobals mg → FnOk l.prog w (K w.params) mg base CX0 6 fa fd ["_law_script"] (sp_law (K w.params))) :
    PySem.W.WalkO q loose XP YP l.row.toRowW d [] (fun f vs => PySem.call f vs) :=
  L2.walk_of (n := 63) (k := 6) (x := "_law_script") (CX := fun _ => CX0) (sp := fun w => sp_law (K w.params)) hn (by decide) hdf ⟨rfl, by decide, by decide⟩ hY F (fun _ H a ns hl _ hS => mk_law (X := fun _ => False) (law_true ns hl) ⟨.s (.of hS) .nil, List.nodup_nil, fun _ h => (nomatch h), fun _ h => h.elim⟩ fun _ _ => rfl) fun _ _ _ _ _ z => z
end Sc
open PySem PySem.W PyProof.Rows
set_option maxRecDepth 100000 in
set_option maxHeartbeats 0 in
theorem PySem.Challenge.cw_slidecut_k48_what_two_rings_have_in_comm_holds : PySem.Challenge.rw_slidecut_k48_what_two_rings_have_in_comm.Holds := by
  w_on; o_law; k_head; (case hw => w_witness2)
  k_fill
  refine Sc.walk (l := PySem.Challenge.rw_slidecut_k48_what_two_rings_have_in_comm) rfl rfl (fun w h Y => PySem.W.kIn_of Y) ?F
  case F =>
    intro w mg fa h KX G hmg
    refine' Sc.all_mk KX G hmg ?a0 ?l0 ?c0 ?k0 ?a1 ?l1 ?c1 ?k1 ?a2 ?l2 ?c2 ?k2 ?a3 ?l3 ?c3 ?k3 ?a4 ?l4 ?c4 ?k4 ?a5 ?l5 ?c5 ?k5 ?a6 ?l6 ?c6 ?k6 ?a7 ?l7 ?c7 ?k7 ?a8 ?l8 ?c8 ?k8 ?a9 ?l9 ?c9 ?k9 ?a10 ?l10 ?c10 ?k10 ?a11 ?l11 ?c11 ?k11 ?a12 ?l12 ?c12 ?k12 ?a13 ?l13 ?c13 ?k13 ?a14 ?l14 ?c14 ?k14 ?a15 ?l15 ?c15 ?k15 ?a16 ?l16 ?c16 ?k16 ?a17 ?l17 ?c17 ?k17 ?a18 ?l18 ?c18 ?k18 ?a19 ?l19 ?c19 ?k19 ?a20 ?l20 ?c20 ?k20 ?a21 ?l21 ?c21 ?k21 ?a22 ?l22 ?c22 ?k22 ?a23 ?l23 ?c23 ?k23 ?a24 ?l24 ?c24 ?k24 ?a25 ?l25 ?c25 ?k25 ?z_abs ?z_bool ?z_enumerate ?z_int ?z_isinstance ?z_len ?z_list ?z_max ?z_range ?z_tuple
    (case a0 => k_is)
    (case l0 => k_is)
    (case c0 => k_is)
    (case k0 => k_is)
    (case a1 => k_is)
    (case l1 => k_is)
    (case c1 => k_is)
    (case k1 => k_is)
    (case a2 => k_is)
    (case l2 => k_is)
    (case c2 => k_is)
    (case k2 => k_is)
    (case a3 => k_is)
    (case l3 => k_is)
    (case c3 => k_is)
    (case k3 => k_is)
    (case a4 => k_is)
    (case l4 => k_is)
    (case c4 => k_is)
    (case k4 => k_is)
    (case a5 => k_is)
    (case l5 => k_is)
    (case c5 => k_is)
    (case k5 => k_is)
    (case a6 => k_is)
    (case l6 => k_is)
    (case c6 => k_is)
    (case k6 => k_is)
    (case a7 => k_is)
    (case l7 => k_is)
    (case c7 => k_is)
    (case k7 => k_is)
    (case a8 => k_is)
    (case l8 => k_is)
    (case c8 => k_is)
    (case k8 => k_is)
    (case a9 => k_is)
    (case l9 => k_is)
    (case c9 => k_is)
    (case k9 => k_is)
    (case a10 => k_is)
    (case l10 => k_is)
    (case c10 => k_is)
    (case k10 => k_is)
    (case a11 => k_is)
    (case l11 => k_is)
    (case c11 => k_is)
    (case k11 => k_is)
    (case a12 => k_is)
    (case l12 => k_is)
    (case c12 => k_is)
    (case k12 => k_is)
    (case a13 => k_is)
    (case l13 => k_is)
    (case c13 => k_is)
    (case k13 => k_is)
    (case a14 => k_is)
    (case l14 => k_is)
    (case c14 => k_is)
    (case k14 => k_is)
    (case a15 => k_is)
    (case l15 => k_is)
    (case c15 => k_is)
    (case k15 => k_is)
    (case a16 => k_is)
    (case l16 => k_is)
    (case c16 => k_is)
    (case k16 => k_is)
    (case a17 => k_is)
    (case l17 => k_is)
    (case c17 => k_is)
    (case k17 => k_is)
    (case a18 => k_is)
    (case l18 => k_is)
    (case c18 => k_is)
    (case k18 => k_is)
    (case a19 => k_is)
    (case l19 => k_is)
    (case c19 => k_is)
    (case k19 => k_is)
    (case a20 => k_is)
    (case l20 => k_is)
    (case c20 => k_is)
    (case k20 => k_is)
    (case a21 => k_is)
    (case l21 => k_is)
    (case c21 => k_is)
    (case k21 => k_is)
    (case a22 => k_is)
    (case l22 => k_is)
    (case c22 => k_is)
    (case k22 => k_is)
    (case a23 => k_is)
    (case l23 => k_is)
    (case c23 => k_is)
    (case k23 => k_is)
    (case a24 => k_is)
    (case l24 => k_is)
    (case c24 => k_is)
    (case k24 => k_is)
    (case a25 => k_is)
    (case l25 => k_is)
    (case c25 => k_is)
    (case k25 => k_is)
    (case z_abs => k_is)
    (case z_bool => k_is)
    (case z_enumerate => k_is)
    (case z_int => k_is)
    (case z_isinstance => k_is)
    (case z_len => k_is)
    (case z_list => k_is)
    (case z_max => k_is)
    (case z_range => k_is)
    (case z_tuple => k_is)
#print axioms PySem.Challenge.cw_slidecut_k48_what_two_rings_have_in_comm_holds
