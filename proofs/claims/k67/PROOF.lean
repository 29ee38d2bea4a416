import PyProof.Rows.All
import Wide.All
import OpenK.AllK
import Wide.FinOn
import HandS.ForMost
import HandS.Wide
import HandS.IsInst
import HandS.Style
import HandS.Deep
import HandS.TryOnly
import HandS.ExcOwn
import HandS.ExcIs
import HandS.WordsExc
import KE.DataMinMax
import HandS.TupLe
import HandS.TupSets
import HandS.Steps
import PySem.Challenge.RW_slidecut_k67_points_written_and_read
set_option Elab.async false
set_option maxRecDepth 100000
set_option maxHeartbeats 4000000
set_option linter.unusedVariables false
namespace Sc
open PySem PySem.Spec PyProof.Rows L2

/-! ### data in the heap -/
mutual
/-- v stands for the data d; no list of it is one of X -/
inductive Rep (K : PySem.W.Frag) (X : Addr → Prop) (H : Hp) : PyData → V → Prop
  | non : Rep K X H .none .non
  | bl (b : Bool) : Rep K X H (.bool b) (.bl b)
  | int (i : Int) : Rep K X H (.int i) (.int i)
  | str (x : Str) : Rep K X H (.str x) (.str x)
  | tup {a : Addr} {ds : List PyData} {vs : List V} : SqT K H a vs → Reps K X H ds vs → Rep K X H (.tuple ds) (.ref a)
  | lst {a : Addr} {ds : List PyData} {vs : List V} : ¬ X a → Rd H a (.lst vs) → Reps K X H ds vs → Rep K X H (.list ds) (.ref a)
inductive Reps (K : PySem.W.Frag) (X : Addr → Prop) (H : Hp) : List PyData → List V → Prop
  | nil : Reps K X H [] []
  | cons {d : PyData} {ds : List PyData} {v : V} {vs : List V} : Rep K X H d v → Reps K X H ds vs → Reps K X H (d :: ds) (v :: vs)
end

/-- what may not be written stands as it stood -/
def Keep (X : Addr → Prop) (H H' : Hp) : Prop :=
  (∀ a o, H a = some o → ¬ X a → H' a = some o) ∧ (∀ a vs, H a = some (.tup vs) → H' a = some (.tup vs)) ∧ (∀ a o u, H a = some (.frz o u) → H' a = some (.frz o u))
theorem Keep.refl {X : Addr → Prop} {H : Hp} : Keep X H H := ⟨fun _ _ h _ => h, fun _ _ h => h, fun _ _ _ h => h⟩
theorem Keep.same {X : Addr → Prop} {H H' : Hp} (s : Same H H') : Keep X H H' := ⟨fun _ _ h _ => s _ _ h, fun _ _ h => s _ _ h, fun _ _ _ h => s _ _ h⟩
theorem Keep.rd {X : Addr → Prop} {H H' : Hp} (k : Keep X H H') {a : Addr} {o : HO} (n : ¬ X a) (h : Rd H a o) : Rd H' a o := by
  rcases h with h | ⟨u, h⟩
  · exact .inl (k.1 _ _ h n)
  · exact .inr ⟨u, k.2.2 _ _ _ h⟩
theorem Keep.sqT {X : Addr → Prop} {K : PySem.W.Frag} {H H' : Hp} (k : Keep X H H') {a : Addr} {vs : List V} (h : SqT K H a vs) : SqT K H' a vs := by
  rcases h with (h | ⟨o, h⟩) | h
  · exact .inl (.inl (k.2.1 _ _ h))
  · exact .inl (.inr ⟨o, k.2.2 _ _ _ h⟩)
  · exact .inr h
theorem Keep.mono {X Y : Addr → Prop} {H H' : Hp} (k : Keep X H H') (h : ∀ a, X a → Y a) : Keep Y H H' := ⟨fun a o e n => k.1 a o e fun z => n (h a z), k.2.1, k.2.2⟩
theorem Keep.trans {X : Addr → Prop} {H H1 H2 : Hp} (k : Keep X H H1) (j : Keep X H1 H2) : Keep X H H2 := ⟨fun a o e n => j.1 a o (k.1 a o e n) n, fun a v e => j.2.1 a v (k.2.1 a v e), fun a o u e => j.2.2 a o u (k.2.2 a o u e)⟩

section
variable {K : PySem.W.Frag} {X Y : Addr → Prop} {H H' : Hp}
mutual
theorem Rep.keep (k : Keep X H H') : ∀ {d : PyData} {v : V}, Rep K X H d v → Rep K X H' d v
  | _, _, .non => .non
  | _, _, .bl b => .bl b
  | _, _, .int i => .int i
  | _, _, .str x => .str x
  | _, _, .tup h r => .tup (k.sqT h) (Reps.keep k r)
  | _, _, .lst n h r => .lst n (k.rd n h) (Reps.keep k r)
theorem Reps.keep (k : Keep X H H') : ∀ {d : List PyData} {v : List V}, Reps K X H d v → Reps K X H' d v
  | _, _, .nil => .nil
  | _, _, .cons r t => .cons (Rep.keep k r) (Reps.keep k t)
end
mutual
theorem Rep.anti (h : ∀ a, Y a → X a) : ∀ {d : PyData} {v : V}, Rep K X H d v → Rep K Y H d v
  | _, _, .non => .non
  | _, _, .bl b => .bl b
  | _, _, .int i => .int i
  | _, _, .str x => .str x
  | _, _, .tup q r => .tup q (Reps.anti h r)
  | _, _, .lst n q r => .lst (fun z => n (h _ z)) q (Reps.anti h r)
theorem Reps.anti (h : ∀ a, Y a → X a) : ∀ {d : List PyData} {v : List V}, Reps K X H d v → Reps K Y H d v
  | _, _, .nil => .nil
  | _, _, .cons r t => .cons (Rep.anti h r) (Reps.anti h t)
end
theorem rd_nn {a : Addr} {o : HO} (h : Rd H a o) : H a ≠ none := by
  rcases h with h | ⟨u, h⟩ <;> rw [h] <;> exact fun z => nomatch z
mutual
/-- a new address may be forbidden -/
theorem Rep.more {p : Addr} (hp : H p = none) : ∀ {d : PyData} {v : V}, Rep K X H d v → Rep K (fun a => X a ∨ a = p) H d v
  | _, _, .non => .non
  | _, _, .bl b => .bl b
  | _, _, .int i => .int i
  | _, _, .str x => .str x
  | _, _, .tup q r => .tup q (Reps.more hp r)
  | _, _, .lst n q r => .lst (fun z => z.elim n fun e => rd_nn q (e ▸ hp)) q (Reps.more hp r)
theorem Reps.more {p : Addr} (hp : H p = none) : ∀ {d : List PyData} {v : List V}, Reps K X H d v → Reps K (fun a => X a ∨ a = p) H d v
  | _, _, .nil => .nil
  | _, _, .cons r t => .cons (Rep.more hp r) (Reps.more hp t)
end
mutual
theorem Rep.dp : ∀ {d : PyData} {v : V}, Rep K X H d v → Dp K H v d
  | _, _, .non => .non
  | _, _, .bl b => .bl b
  | _, _, .int i => .int i
  | _, _, .str x => .str x
  | _, _, .tup q r => .tup q (Reps.dp r)
  | _, _, .lst n q r => .lst (.inl q) (Reps.dp r)
theorem Reps.dp : ∀ {d : List PyData} {v : List V}, Reps K X H d v → DpAll K H v d
  | _, _, .nil => .nil
  | _, _, .cons r t => .cons (Rep.dp r) (Reps.dp t)
end
theorem Reps.length : ∀ {ds : List PyData} {vs : List V}, Reps K X H ds vs → vs.length = ds.length
  | _, _, .nil => rfl
  | _, _, .cons _ t => congrArg (· + 1) (Reps.length t)
theorem Reps.get : ∀ {ds : List PyData} {vs : List V} {i : Nat} {d : PyData}, Reps K X H ds vs → ds[i]? = some d → ∃ v, vs[i]? = some v ∧ Rep K X H d v
  | _, _, _, _, .nil, e => by simp at e
  | _, _, 0, _, .cons r _, e => by simp at e; subst e; exact ⟨_, rfl, r⟩
  | _, _, i + 1, d, .cons _ t, e => by
    obtain ⟨v, h1, h2⟩ := Reps.get (i := i) t (by simpa using e)
    exact ⟨v, by simpa using h1, h2⟩
theorem Reps.get' : ∀ {ds : List PyData} {vs : List V} {i : Nat} {v : V}, Reps K X H ds vs → vs[i]? = some v → ∃ d, ds[i]? = some d ∧ Rep K X H d v
  | _, _, _, _, .nil, e => by simp at e
  | _, _, 0, _, .cons r _, e => by simp at e; subst e; exact ⟨_, rfl, r⟩
  | _, _, i + 1, d, .cons _ t, e => by
    obtain ⟨v, h1, h2⟩ := Reps.get' (i := i) t (by simpa using e)
    exact ⟨v, by simpa using h1, h2⟩
theorem Reps.append : ∀ {d1 d2 : List PyData} {v1 v2 : List V}, Reps K X H d1 v1 → Reps K X H d2 v2 → Reps K X H (d1 ++ d2) (v1 ++ v2)
  | _, _, _, _, .nil, s => s
  | _, _, _, _, .cons r t, s => .cons r (Reps.append t s)
theorem Reps.take : ∀ {d1 : List PyData} {v1 : List V} (n : Nat), Reps K X H d1 v1 → Reps K X H (d1.take n) (v1.take n)
  | _, _, 0, _ => .nil
  | _, _, _ + 1, .nil => .nil
  | _, _, n + 1, .cons r t => .cons r (Reps.take n t)
theorem Reps.drop : ∀ {d1 : List PyData} {v1 : List V} (n : Nat), Reps K X H d1 v1 → Reps K X H (d1.drop n) (v1.drop n)
  | _, _, 0, h => h
  | _, _, _ + 1, .nil => .nil
  | _, _, n + 1, .cons _ t => Reps.drop n t
theorem Reps.set {d : PyData} {v : V} (q : Rep K X H d v) : ∀ {d1 : List PyData} {v1 : List V} (n : Nat), Reps K X H d1 v1 → Reps K X H (d1.set n d) (v1.set n v)
  | _, _, _, .nil => .nil
  | _, _, 0, .cons _ t => .cons q t
  | _, _, n + 1, .cons r t => .cons r (Reps.set q n t)
theorem Reps.reverse {ds : List PyData} {vs : List V} (h : Reps K X H ds vs) : Reps K X H ds.reverse vs.reverse := by
  induction ds generalizing vs with
  | nil => cases h; exact .nil
  | cons d ds ih => cases h with | cons r t => rw [List.reverse_cons, List.reverse_cons]; exact (ih t).append (.cons r .nil)
theorem Reps.ints : ∀ {ns : List Int}, Reps K X H (ns.map PyData.int) (ns.map V.int)
  | [] => .nil
  | n :: ns => .cons (.int n) Reps.ints
theorem Reps.toInts : ∀ {ns : List Int} {vs : List V}, Reps K X H (ns.map PyData.int) vs → vs = ns.map V.int
  | [], _, .nil => rfl
  | n :: ns, _, .cons (.int _) t => by rw [List.map_cons, Reps.toInts t]
theorem Reps.toBools : ∀ {ns : List Bool} {vs : List V}, Reps K X H (ns.map PyData.bool) vs → vs = ns.map V.bl
  | [], _, .nil => rfl
  | n :: ns, _, .cons (.bl _) t => by rw [List.map_cons, Reps.toBools t]
end

/-! ### Lean data as Python data -/
class Py (α : Type) where
  enc : α → PyData
open Py (enc)
instance : Py Int := ⟨.int⟩
instance : Py Bool := ⟨.bool⟩
instance : Py Unit := ⟨fun _ => .none⟩
instance : Py Str := ⟨.str⟩
structure T1 (α : Type) where
  a : α
  deriving DecidableEq
structure T2 (α β : Type) where
  a : α
  b : β
  deriving DecidableEq
structure T3 (α β γ : Type) where
  a : α
  b : β
  c : γ
  deriving DecidableEq
structure T4 (α β γ δ : Type) where
  a : α
  b : β
  c : γ
  d : δ
  deriving DecidableEq
structure T5 (α β γ δ ε : Type) where
  a : α
  b : β
  c : γ
  d : δ
  e : ε
  deriving DecidableEq
section
variable {α β γ δ ε : Type}
instance [Py α] : Py (T1 α) := ⟨fun x => .tuple [enc x.a]⟩
instance [Py α] [Py β] : Py (T2 α β) := ⟨fun x => .tuple [enc x.a, enc x.b]⟩
instance [Py α] [Py β] [Py γ] : Py (T3 α β γ) := ⟨fun x => .tuple [enc x.a, enc x.b, enc x.c]⟩
instance [Py α] [Py β] [Py γ] [Py δ] : Py (T4 α β γ δ) := ⟨fun x => .tuple [enc x.a, enc x.b, enc x.c, enc x.d]⟩
instance [Py α] [Py β] [Py γ] [Py δ] [Py ε] : Py (T5 α β γ δ ε) := ⟨fun x => .tuple [enc x.a, enc x.b, enc x.c, enc x.d, enc x.e]⟩
instance [Py α] : Py (List α) := ⟨fun xs => .list (xs.map enc)⟩
instance [Py α] : Py (Option α) := ⟨fun x => match x with | none => .none | some y => enc y⟩
end

/-- the script -/
def SqX (K : PySem.W.Frag) (X : Addr → Prop) (H : Hp) (ns : List Int) (v : V) : Prop := ∃ a, v = .ref a ∧ ((¬ X a ∧ Rd H a (.lst (ns.map V.int))) ∨ ∀ H', SqL K H' a (ns.map V.int))
section
variable {K : PySem.W.Frag} {X Y : Addr → Prop} {H H' : Hp} {ns : List Int} {v : V}
theorem SqX.keep (k : Keep X H H') (h : SqX K X H ns v) : SqX K X H' ns v := by
  obtain ⟨a, e, h⟩ := h
  exact ⟨a, e, h.imp (fun z => ⟨z.1, k.rd z.1 z.2⟩) id⟩
theorem SqX.anti (g : ∀ a, Y a → X a) (h : SqX K X H ns v) : SqX K Y H ns v := by
  obtain ⟨a, e, h⟩ := h
  exact ⟨a, e, h.imp (fun z => ⟨fun y => z.1 (g _ y), z.2⟩) id⟩
theorem SqX.more {p : Addr} (hp : H p = none) (h : SqX K X H ns v) : SqX K (fun a => X a ∨ a = p) H ns v := by
  obtain ⟨a, e, h⟩ := h
  exact ⟨a, e, h.imp (fun z => ⟨fun y => y.elim z.1 fun e => rd_nn z.2 (e ▸ hp), z.2⟩) id⟩
theorem SqX.sq (h : SqX K X H ns v) : ∃ a, v = .ref a ∧ SqL K H a (ns.map V.int) := by
  obtain ⟨a, e, h⟩ := h
  exact ⟨a, e, h.elim (fun z => .inl z.2) fun z => z H⟩
theorem SqX.of {a : Addr} (h : SqL K H a (ns.map V.int)) : SqX K (fun _ => False) H ns (.ref a) := ⟨a, rfl, h.elim (fun z => .inl ⟨id, z⟩) fun z => .inr fun _ => .inr z⟩
end

/-! ### the state of a def's body -/
/-- an object that the body may write -/
inductive MO where
  | lst (ds : List PyData)
  | lstZ (Z : Addr → Prop) (ds : List PyData)
  | any
/-- an object of a list -/
abbrev ml {α : Type} [Py α] (xs : List α) : MO := .lst (xs.map enc)
/-- a slot: nothing known, data, an object that may be written; tmp: such an object in no slot -/
inductive Sl where
  | unk
  | scr (ns : List Int)
  | ref (a : Addr)
  | imm (d : PyData)
  | fix (Z : Addr → Prop) (d : PyData)
  | fixN (Z : Addr → Prop) (d : PyData)
  | mu (p : Addr) (o : MO)
  | tmp (p : Addr) (o : MO)
def Sl.ad : Sl → Option Addr
  | .mu p _ => some p
  | .tmp p _ => some p
  | _ => none
def muts (Γ : List Sl) : List Addr := Γ.filterMap Sl.ad
/-- a set of addresses that a new list is not in -/
def Frz (H : Hp) (b : Addr) : Prop := ∃ o u, H b = some (.frz o u)
abbrev NewX (X Z : Addr → Prop) (H : Hp) : Addr → Prop := fun b => X b ∨ ¬ Z b ∨ Frz H b
mutual
theorem Rep.keepF {K : PySem.W.Frag} {X Z : Addr → Prop} {H H' : Hp} (k : Keep X H H') : ∀ {d : PyData} {v : V}, Rep K (NewX X Z H) H d v → Rep K (NewX X Z H') H' d v
  | _, _, .non => .non
  | _, _, .bl b => .bl b
  | _, _, .int i => .int i
  | _, _, .str x => .str x
  | _, _, .tup h r => .tup (k.sqT h) (Reps.keepF k r)
  | _, _, .lst n h r => by
    rcases h with h | ⟨o, h⟩
    · have h' := k.1 _ _ h fun z => n (.inl z)
      exact .lst (fun z => z.elim (fun z => n (.inl z)) fun z => z.elim (fun z => n (.inr (.inl z))) fun ⟨o, u, z⟩ => by rw [h'] at z; cases z) (.inl h') (Reps.keepF k r)
    · exact (n (.inr (.inr ⟨_, _, h⟩))).elim
theorem Reps.keepF {K : PySem.W.Frag} {X Z : Addr → Prop} {H H' : Hp} (k : Keep X H H') : ∀ {d : List PyData} {v : List V}, Reps K (NewX X Z H) H d v → Reps K (NewX X Z H') H' d v
  | _, _, .nil => .nil
  | _, _, .cons r t => .cons (Rep.keepF k r) (Reps.keepF k t)
end
/-- the object at p is o -/
def MRep (K : PySem.W.Frag) (X : Addr → Prop) (H : Hp) (p : Addr) : MO → Prop
  | .lst ds => ∃ vs, H p = some (.lst vs) ∧ Reps K X H ds vs
  | .lstZ Z ds => ∃ vs, H p = some (.lst vs) ∧ Reps K (NewX X Z H) H ds vs
  | .any => ∃ vs, H p = some (.lst vs)
def SlOk (K : PySem.W.Frag) (X : Addr → Prop) (H : Hp) (v : Option (Option V)) : Sl → Prop
  | .unk => True
  | .scr ns => ∃ u, v = some (some u) ∧ SqX K X H ns u
  | .ref a => v = some (some (.ref a))
  | .imm d => ∃ u, v = some (some u) ∧ Rep K X H d u
  | .fix Z d => ∃ u, v = some (some u) ∧ Rep K (fun b => X b ∨ ¬ Z b) H d u
  | .fixN Z d => ∃ u, v = some (some u) ∧ Rep K (NewX X Z H) H d u
  | .mu p o => v = some (some (.ref p)) ∧ MRep K X H p o
  | .tmp p o => MRep K X H p o
/-- the known ones: the written part, what may be written at the entry, the heap there, whose objects the body may change -/
structure Cn where
  K : PySem.W.Frag
  X0 : Addr → Prop
  H0 : Hp
  P0 : List Addr
  n : Nat
structure Lo (C : Cn) (X : Addr → Prop) (H : Hp) (σ : L2.St) (Γ : List Sl) : Prop where
  len : σ.length = C.n
  at_ : ∀ (i : Nat) (s : Sl), Γ[i]? = some s → SlOk C.K X H σ[i]? s
  nd : (muts Γ).Nodup
  mx : ∀ p ∈ muts Γ, X p
  m0 : ∀ a, C.X0 a → X a
  xd : ∀ a, X a → H a ≠ none
  base : ∀ a o, C.H0 a = some o → a ∉ C.P0 → H a = some o
  dom : ∀ a, C.H0 a ≠ none → H a ≠ none
  own : ∀ p ∈ muts Γ, p ∈ C.P0 ∨ C.H0 p = none
  tf : ∀ a ∈ C.P0, (∀ vs, C.H0 a ≠ some (.tup vs)) ∧ (∀ o u, C.H0 a ≠ some (.frz o u))

theorem MRep.keep {K : PySem.W.Frag} {X : Addr → Prop} {H H' : Hp} {p : Addr} (k : Keep X H H') (e : H' p = H p) : ∀ {o : MO}, MRep K X H p o → MRep K X H' p o
  | .lst _, ⟨vs, h, r⟩ => ⟨vs, e.trans h, r.keep k⟩
  | .lstZ _ _, ⟨vs, h, r⟩ => ⟨vs, e.trans h, r.keepF k⟩
  | .any, ⟨vs, h⟩ => ⟨vs, e.trans h⟩
theorem MRep.anti {K : PySem.W.Frag} {X Y : Addr → Prop} {H : Hp} {p : Addr} (h : ∀ a, Y a → X a) : ∀ {o : MO}, MRep K X H p o → MRep K Y H p o
  | .lst _, ⟨vs, q, r⟩ => ⟨vs, q, r.anti h⟩
  | .lstZ _ _, ⟨vs, q, r⟩ => ⟨vs, q, r.anti fun a z => z.imp (h a) id⟩
  | .any, h => h
theorem MRep.more {K : PySem.W.Frag} {X : Addr → Prop} {H : Hp} {p q : Addr} (h : H q = none) : ∀ {o : MO}, MRep K X H p o → MRep K (fun a => X a ∨ a = q) H p o
  | .lst _, ⟨vs, e, r⟩ => ⟨vs, e, r.more h⟩
  | .lstZ _ _, ⟨vs, e, r⟩ => ⟨vs, e, (r.more h).anti fun a z => z.elim (fun z => z.elim (fun z => .inl (.inl z)) .inr) fun z => .inl (.inr z)⟩
  | .any, h => h
theorem MRep.nn {K : PySem.W.Frag} {X : Addr → Prop} {H : Hp} {p : Addr} : ∀ {o : MO}, MRep K X H p o → H p ≠ none
  | .lst _, ⟨vs, e, r⟩ => by rw [e]; exact fun z => nomatch z
  | .lstZ _ _, ⟨vs, e, r⟩ => by rw [e]; exact fun z => nomatch z
  | .any, ⟨vs, e⟩ => by rw [e]; exact fun z => nomatch z
theorem MRep.ntup {K : PySem.W.Frag} {X : Addr → Prop} {H : Hp} {p : Addr} : ∀ {o : MO}, MRep K X H p o → (∀ vs, H p ≠ some (.tup vs)) ∧ (∀ u w, H p ≠ some (.frz u w))
  | .lst _, ⟨vs, e, r⟩ => by
    rw [e]
    constructor
    · intro _ z; cases z
    · intro _ _ z; cases z
  | .lstZ _ _, ⟨vs, e, r⟩ => by
    rw [e]
    constructor
    · intro _ z; cases z
    · intro _ _ z; cases z
  | .any, ⟨vs, e⟩ => by
    rw [e]
    constructor
    · intro _ z; cases z
    · intro _ _ z; cases z

theorem mem_muts {Γ : List Sl} {p : Addr} : p ∈ muts Γ ↔ ∃ (i : Nat) (s : Sl), Γ[i]? = some s ∧ s.ad = some p := by
  unfold muts
  rw [List.mem_filterMap]
  constructor
  · rintro ⟨s, hs, e⟩
    obtain ⟨i, hi⟩ := List.getElem?_of_mem hs
    exact ⟨i, s, hi, e⟩
  · rintro ⟨i, s, hi, e⟩
    exact ⟨s, List.mem_of_getElem? hi, e⟩

section
variable {C : Cn} {X : Addr → Prop} {H H' : Hp} {σ : L2.St} {Γ : List Sl}
theorem SlOk.mrep {K : PySem.W.Frag} {v : Option (Option V)} {s : Sl} {p : Addr} (h : SlOk K X H v s) (e : s.ad = some p) : ∃ o, MRep K X H p o := by
  cases s with
  | unk => cases e
  | scr ns => cases e
  | ref a => cases e
  | imm d => cases e
  | fix Z d => cases e
  | fixN Z d => cases e
  | mu q o => cases e; exact ⟨o, h.2⟩
  | tmp q o => cases e; exact ⟨o, h⟩
theorem SlOk.keep {K : PySem.W.Frag} {v : Option (Option V)} (k : Keep X H H') : ∀ {s : Sl}, (∀ p, s.ad = some p → H' p = H p) → SlOk K X H v s → SlOk K X H' v s
  | .unk, _, _ => trivial
  | .scr _, _, ⟨u, e, r⟩ => ⟨u, e, r.keep k⟩
  | .ref _, _, e => e
  | .imm _, _, ⟨u, e, r⟩ => ⟨u, e, r.keep k⟩
  | .fix _ _, _, ⟨u, e, r⟩ => ⟨u, e, r.keep (k.mono fun _ => .inl)⟩
  | .fixN _ _, _, ⟨u, e, r⟩ => ⟨u, e, r.keepF k⟩
  | .mu p _, g, ⟨e, r⟩ => ⟨e, r.keep k (g p rfl)⟩
  | .tmp p _, g, r => MRep.keep k (g p rfl) r
theorem SlOk.anti {K : PySem.W.Frag} {Y : Addr → Prop} {v : Option (Option V)} (h : ∀ a, Y a → X a) : ∀ {s : Sl}, SlOk K X H v s → SlOk K Y H v s
  | .unk, _ => trivial
  | .scr _, ⟨u, e, r⟩ => ⟨u, e, r.anti h⟩
  | .ref _, e => e
  | .imm _, ⟨u, e, r⟩ => ⟨u, e, r.anti h⟩
  | .fix _ _, ⟨u, e, r⟩ => ⟨u, e, r.anti fun a z => z.imp (h a) id⟩
  | .fixN _ _, ⟨u, e, r⟩ => ⟨u, e, r.anti fun a z => z.imp (h a) id⟩
  | .mu p _, ⟨e, r⟩ => ⟨e, r.anti h⟩
  | .tmp p _, r => MRep.anti h r
theorem SlOk.more {K : PySem.W.Frag} {v : Option (Option V)} {q : Addr} (h : H q = none) : ∀ {s : Sl}, SlOk K X H v s → SlOk K (fun a => X a ∨ a = q) H v s
  | .unk, _ => trivial
  | .scr _, ⟨u, e, r⟩ => ⟨u, e, r.more h⟩
  | .ref _, e => e
  | .imm _, ⟨u, e, r⟩ => ⟨u, e, r.more h⟩
  | .fix _ _, ⟨u, e, r⟩ => ⟨u, e, (r.more h).anti fun a z => z.elim (fun z => z.elim (fun z => .inl (.inl z)) .inr) fun z => .inl (.inr z)⟩
  | .fixN _ _, ⟨u, e, r⟩ => ⟨u, e, (r.more h).anti fun a z => z.elim (fun z => z.elim (fun z => .inl (.inl z)) .inr) fun z => .inl (.inr z)⟩
  | .mu p _, ⟨e, r⟩ => ⟨e, r.more h⟩
  | .tmp p _, r => MRep.more h r
theorem Lo.mem (L : Lo C X H σ Γ) {p : Addr} (h : p ∈ muts Γ) : ∃ o, MRep C.K X H p o := by
  obtain ⟨i, s, hi, e⟩ := mem_muts.mp h
  exact (L.at_ i s hi).mrep e
theorem Lo.same (L : Lo C X H σ Γ) (s : Same H H') : Lo C X H' σ Γ := by
  have hd : ∀ a, H a ≠ none → H' a = H a := fun a h => by
    cases e : H a with
    | none => exact (h e).elim
    | some o => exact s a o e
  refine ⟨L.len, fun i t hi => (L.at_ i t hi).keep (.same s) fun p e => hd p ?_, L.nd, L.mx, L.m0, fun a h => ?_, fun a o e n => s _ _ (L.base a o e n), fun a h => ?_, L.own, L.tf⟩
  · obtain ⟨o, r⟩ := (L.at_ i t hi).mrep e
    exact r.nn
  · rw [hd a (L.xd a h)]; exact L.xd a h
  · rw [hd a (L.dom a h)]; exact L.dom a h
theorem nodup_setS {s0 : Sl} (e0 : s0.ad = none) : ∀ {Γ : List Sl} {i : Nat}, (muts Γ).Nodup → (muts (Γ.set i s0)).Nodup
  | [], _, h => h
  | s :: Γ, 0, h => by
    refine List.Sublist.nodup ?_ h
    show (List.filterMap Sl.ad (s0 :: Γ)).Sublist (List.filterMap Sl.ad (s :: Γ))
    rw [List.filterMap_cons, e0]
    show (List.filterMap Sl.ad Γ).Sublist _
    rw [List.filterMap_cons]
    cases s.ad with
    | none => exact List.Sublist.refl _
    | some p => exact List.sublist_cons_self _ _
  | s :: Γ, i + 1, h => by
    have h' : (List.filterMap Sl.ad (s :: Γ)).Nodup := h
    show (List.filterMap Sl.ad (s :: Γ.set i s0)).Nodup
    rw [List.filterMap_cons] at h' ⊢
    cases e : s.ad with
    | none =>
      rw [e] at h'
      exact nodup_setS e0 (i := i) h'
    | some p =>
      rw [e] at h'
      obtain ⟨n1, n2⟩ := List.nodup_cons.mp h'
      refine List.nodup_cons.mpr ⟨fun hp => n1 ?_, nodup_setS e0 (i := i) n2⟩
      obtain ⟨t, ht, et⟩ := List.mem_filterMap.mp hp
      rcases List.mem_or_eq_of_mem_set ht with q | q
      · exact List.mem_filterMap.mpr ⟨t, q, et⟩
      · subst q; rw [e0] at et; cases et
theorem nodup_set {Γ : List Sl} {i : Nat} {d : PyData} (h : (muts Γ).Nodup) : (muts (Γ.set i (.imm d))).Nodup := nodup_setS rfl h
theorem muts_setS {s0 : Sl} (e0 : s0.ad = none) {Γ : List Sl} {i : Nat} {p : Addr} (hp : p ∈ muts (Γ.set i s0)) : p ∈ muts Γ := by
  obtain ⟨j, s, hj, e⟩ := mem_muts.mp hp
  by_cases z : j = i
  · subst z
    by_cases hi : j < Γ.length
    · rw [List.getElem?_set_self hi] at hj
      cases hj; rw [e0] at e; cases e
    · rw [List.getElem?_eq_none_iff.mpr (by rw [List.length_set]; omega)] at hj
      cases hj
  · rw [List.getElem?_set_ne (Ne.symm z)] at hj
    exact mem_muts.mpr ⟨j, s, hj, e⟩
theorem muts_set_imm {Γ : List Sl} {i : Nat} {d : PyData} {p : Addr} (hp : p ∈ muts (Γ.set i (.imm d))) : p ∈ muts Γ := by
  obtain ⟨j, s, hj, e⟩ := mem_muts.mp hp
  by_cases z : j = i
  · subst z
    by_cases hi : j < Γ.length
    · rw [List.getElem?_set_self hi] at hj
      cases hj; cases e
    · rw [List.getElem?_eq_none_iff.mpr (by rw [List.length_set]; omega)] at hj
      cases hj
  · rw [List.getElem?_set_ne (Ne.symm z)] at hj
    exact mem_muts.mpr ⟨j, s, hj, e⟩
/-- a value is stored -/
theorem Lo.set (L : Lo C X H σ Γ) {i : Nat} {v : V} {d : PyData} (r : Rep C.K X H d v) (hi : i < C.n) : Lo C X H (σ.set i (some v)) (Γ.set i (.imm d)) := by
  refine ⟨by rw [List.length_set]; exact L.len, fun j s hj => ?_, nodup_set L.nd, fun p hp => L.mx p (muts_set_imm hp), L.m0, L.xd, L.base, L.dom, fun p hp => L.own p (muts_set_imm hp), L.tf⟩
  by_cases z : j = i
  · subst z
    have hlt : j < Γ.length := by
      have h2 := (List.getElem?_eq_some_iff.mp hj).1
      rw [List.length_set] at h2; exact h2
    rw [List.getElem?_set_self hlt] at hj
    cases hj
    exact ⟨v, List.getElem?_set_self (by rw [L.len]; exact hi), r⟩
  · rw [List.getElem?_set_ne (Ne.symm z)] at hj
    rw [List.getElem?_set_ne (Ne.symm z)]
    exact L.at_ j s hj
end

section
variable {C : Cn} {X : Addr → Prop} {H H' : Hp} {σ : L2.St} {Γ Γ' : List Sl}
/-- a value that is no data is stored, or none -/
theorem Lo.setS (L : Lo C X H σ Γ) {i : Nat} {v : Option V} {s : Sl} (e : s.ad = none) (r : SlOk C.K X H (some v) s) (hi : i < C.n) : Lo C X H (σ.set i v) (Γ.set i s) := by
  refine ⟨by rw [List.length_set]; exact L.len, fun j t hj => ?_, nodup_setS e L.nd, fun p hp => L.mx p (muts_setS e hp), L.m0, L.xd, L.base, L.dom, fun p hp => L.own p (muts_setS e hp), L.tf⟩
  by_cases z : j = i
  · subst z
    have hlt : j < Γ.length := by
      have h2 := (List.getElem?_eq_some_iff.mp hj).1
      rw [List.length_set] at h2; exact h2
    rw [List.getElem?_set_self hlt] at hj
    cases hj
    rw [List.getElem?_set_self (by rw [L.len]; exact hi)]
    exact r
  · rw [List.getElem?_set_ne (Ne.symm z)] at hj
    rw [List.getElem?_set_ne (Ne.symm z)]
    exact L.at_ j t hj
end
/-- a weaker description: slots forgotten, the last ones dropped -/
def Wk : List Sl → List Sl → Prop
  | _, [] => True
  | [], s' :: Γ' => s' = .unk ∧ Wk [] Γ'
  | s :: Γ, s' :: Γ' => (s' = s ∨ s' = .unk) ∧ Wk Γ Γ'
theorem Wk.e {Γ : List Sl} : Wk Γ [] := by cases Γ <;> exact trivial
theorem Wk.k {s : Sl} {Γ Γ' : List Sl} (h : Wk Γ Γ') : Wk (s :: Γ) (s :: Γ') := ⟨.inl rfl, h⟩
theorem Wk.d {s : Sl} {Γ Γ' : List Sl} (h : Wk Γ Γ') : Wk (s :: Γ) (.unk :: Γ') := ⟨.inr rfl, h⟩
theorem Wk.get : ∀ {Γ Γ' : List Sl}, Wk Γ Γ' → ∀ {i : Nat} {s : Sl}, Γ'[i]? = some s → s = .unk ∨ Γ[i]? = some s
  | _, [], _, _, _, e => by simp at e
  | [], s' :: Γ', ⟨h, t⟩, 0, s, e => by simp at e; subst e; exact .inl h
  | [], s' :: Γ', ⟨h, t⟩, i + 1, s, e => by
    rcases Wk.get t (i := i) (s := s) (by simpa using e) with z | z
    · exact .inl z
    · simp at z
  | s0 :: Γ, s' :: Γ', ⟨h, t⟩, 0, s, e => by
    simp at e; subst e
    rcases h with h | h
    · subst h; exact .inr rfl
    · exact .inl h
  | s0 :: Γ, s' :: Γ', ⟨h, t⟩, i + 1, s, e => by
    rcases Wk.get t (i := i) (s := s) (by simpa using e) with z | z
    · exact .inl z
    · exact .inr (by simpa using z)
theorem Wk.sub : ∀ {Γ Γ' : List Sl}, Wk Γ Γ' → (muts Γ').Sublist (muts Γ)
  | _, [], _ => List.nil_sublist _
  | [], s' :: Γ', ⟨h, t⟩ => by
    subst h
    exact Wk.sub (Γ := []) (Γ' := Γ') t
  | s0 :: Γ, s' :: Γ', ⟨h, t⟩ => by
    have ih := Wk.sub t
    unfold muts at ih ⊢
    rw [List.filterMap_cons, List.filterMap_cons]
    rcases h with h | h
    · subst h
      cases s'.ad with
      | none => exact ih
      | some p => exact ih.cons_cons _
    · subst h
      show (List.filterMap Sl.ad Γ').Sublist _
      cases s0.ad with
      | none => exact ih
      | some p => exact ih.cons _

/-- what a def tells: data, or a new object of the caller's own -/
inductive Rs where
  | imm (d : PyData)
  | immN (Z : Addr → Prop) (d : PyData)
  | new (o : MO)
def RRep (K : PySem.W.Frag) (X : Addr → Prop) (H H' : Hp) : Rs → V → Prop
  | .imm d, v => Rep K X H' d v
  | .immN Z d, v => Rep K (NewX X Z H') H' d v
  | .new o, v => ∃ p, v = .ref p ∧ H p = none ∧ MRep K (fun a => X a ∨ a = p) H' p o
structure Fin (K : PySem.W.Frag) (X : Addr → Prop) (H : Hp) (P0 : List Addr) (ps : List (Addr × MO)) (rs : Rs) (v : V) (H' : Hp) : Prop where
  base : ∀ a o, H a = some o → a ∉ P0 → H' a = some o
  dom : ∀ a, H a ≠ none → H' a ≠ none
  mu : ∀ q ∈ ps, MRep K X H' q.1 q.2
  res : RRep K X H H' rs v
def As (K : PySem.W.Frag) (X : Addr → Prop) (H : Hp) : List Sl → List V → Prop
  | [], vs => vs = []
  | s :: Γ, vs => ∃ v r, vs = v :: r ∧ SlOk K X H (some (some v)) s ∧ As K X H Γ r
theorem As.nil {K : PySem.W.Frag} {X : Addr → Prop} {H : Hp} : As K X H [] [] := rfl
theorem As.im {K : PySem.W.Frag} {X : Addr → Prop} {H : Hp} {d : PyData} {v : V} {Γ : List Sl} {vs : List V} (r : Rep K X H d v) (t : As K X H Γ vs) : As K X H (.imm d :: Γ) (v :: vs) := ⟨v, vs, rfl, ⟨v, rfl, r⟩, t⟩
theorem As.m {K : PySem.W.Frag} {X : Addr → Prop} {H : Hp} {p : Addr} {o : MO} {Γ : List Sl} {vs : List V} (r : MRep K X H p o) (t : As K X H Γ vs) : As K X H (.mu p o :: Γ) (.ref p :: vs) := ⟨_, vs, rfl, ⟨rfl, r⟩, t⟩
theorem As.s {K : PySem.W.Frag} {X : Addr → Prop} {H : Hp} {ns : List Int} {v : V} {Γ : List Sl} {vs : List V} (r : SqX K X H ns v) (t : As K X H Γ vs) : As K X H (.scr ns :: Γ) (v :: vs) := ⟨v, vs, rfl, ⟨v, rfl, r⟩, t⟩
/-- what a def asks of its arguments -/
structure Cond (K : PySem.W.Frag) (X : Addr → Prop) (H : Hp) (Γ : List Sl) (vs : List V) : Prop where
  as : As K X H Γ vs
  nd : (muts Γ).Nodup
  mx : ∀ p ∈ muts Γ, X p
  xd : ∀ a, X a → H a ≠ none
theorem As.len {K : PySem.W.Frag} {X : Addr → Prop} {H : Hp} : ∀ {Γ : List Sl} {vs : List V}, As K X H Γ vs → vs.length = Γ.length
  | [], _, h => by subst h; rfl
  | s :: Γ, _, ⟨v, r, e, _, t⟩ => by subst e; exact congrArg (· + 1) (As.len t)
theorem As.get {K : PySem.W.Frag} {X : Addr → Prop} {H : Hp} : ∀ {Γ : List Sl} {vs : List V}, As K X H Γ vs → ∀ {i : Nat} {s : Sl}, Γ[i]? = some s → ∃ v, vs[i]? = some v ∧ SlOk K X H (some (some v)) s
  | [], _, h, _, _, e => by simp at e
  | s :: Γ, _, ⟨v, r, e, h, t⟩, 0, s', e' => by subst e; simp at e'; subst e'; exact ⟨v, rfl, h⟩
  | s :: Γ, _, ⟨v, r, e, h, t⟩, i + 1, s', e' => by
    subst e
    obtain ⟨u, h1, h2⟩ := As.get t (i := i) (s := s') (by simpa using e')
    exact ⟨u, by simpa using h1, h2⟩
theorem Cond.len {K : PySem.W.Frag} {X : Addr → Prop} {H : Hp} {Γ : List Sl} {vs : List V} (c : Cond K X H Γ vs) : vs.length = Γ.length := c.as.len
theorem muts_unk : ∀ {Γ : List Sl} (n : Nat), muts (Γ ++ List.replicate n .unk) = muts Γ := fun {Γ} n => by
  unfold muts
  rw [List.filterMap_append]
  have : ∀ n, List.filterMap Sl.ad (List.replicate n Sl.unk) = [] := fun n => by
    induction n with
    | zero => rfl
    | succ n ih => rw [List.replicate_succ, List.filterMap_cons]; exact ih
  rw [this, List.append_nil]
theorem Cond.start {K : PySem.W.Frag} {X : Addr → Prop} {H : Hp} {Γ : List Sl} {vs : List V} (c : Cond K X H Γ vs) (N : List Str) (hn : Γ.length ≤ N.length) :
    Lo ⟨K, X, H, muts Γ, N.length⟩ X H (L2.start N vs) (Γ ++ List.replicate (N.length - Γ.length) .unk) := by
  refine ⟨?_, fun i s hi => ?_, by rw [muts_unk]; exact c.nd, fun p hp => c.mx p (by rw [muts_unk] at hp; exact hp), fun _ h => h, c.xd, fun _ _ h _ => h, fun _ h => h, fun p hp => .inl (by rw [muts_unk] at hp; exact hp), fun a ha => ?_⟩
  · show (vs.map some ++ List.replicate (N.length - vs.length) none).length = N.length
    rw [List.length_append, List.length_map, List.length_replicate, c.len]
    omega
  · by_cases h : i < Γ.length
    · rw [List.getElem?_append_left h] at hi
      obtain ⟨v, h1, h2⟩ := c.as.get hi
      have h3 : (L2.start N vs)[i]? = some (some v) := by
        show (vs.map some ++ List.replicate (N.length - vs.length) none)[i]? = _
        rw [List.getElem?_append_left (by rw [List.length_map, c.len]; exact h), List.getElem?_map, h1]
        rfl
      rw [h3]; exact h2
    · rw [List.getElem?_append_right (by omega)] at hi
      have := List.mem_of_getElem? hi
      rw [List.mem_replicate] at this
      rw [this.2]; trivial
  · obtain ⟨i, s, hi, e⟩ := mem_muts.mp (show a ∈ muts Γ from ha)
    obtain ⟨v, _, h2⟩ := c.as.get hi
    obtain ⟨o, r⟩ := h2.mrep e
    exact r.ntup

section
variable {C : Cn} {X : Addr → Prop} {H H' : Hp} {σ : L2.St} {Γ Γ' : List Sl}
theorem Lo.weak (L : Lo C X H σ Γ) (w : Wk Γ Γ') : Lo C X H σ Γ' := by
  refine ⟨L.len, fun i s hi => ?_, w.sub.nodup L.nd, fun p hp => L.mx p (w.sub.mem hp), L.m0, L.xd, L.base, L.dom, fun p hp => L.own p (w.sub.mem hp), L.tf⟩
  rcases w.get hi with z | z
  · subst z; trivial
  · exact L.at_ i s z
/-- an enclosing view is entered and left -/
abbrev Cn.at_ (C : Cn) (X : Addr → Prop) (H : Hp) (Γ : List Sl) : Cn := ⟨C.K, X, H, muts Γ, C.n⟩
theorem Lo.enter (L : Lo C X H σ Γ) : Lo (C.at_ X H Γ) X H σ Γ :=
  ⟨L.len, L.at_, L.nd, L.mx, fun _ h => h, L.xd, fun _ _ h _ => h, fun _ h => h, fun _ hp => .inl hp, fun a ha => by
    obtain ⟨o, r⟩ := L.mem (p := a) ha
    exact r.ntup⟩
theorem Lo.nown (L : Lo C X H σ Γ) {a : Addr} {o : HO} (h : C.H0 a = some o) (n : a ∉ C.P0) : a ∉ muts Γ := fun hp => by
  rcases L.own a hp with z | z
  · exact n z
  · rw [z] at h; cases h
theorem Lo.leave {X' : Addr → Prop} {σ' : L2.St} (L : Lo C X H σ Γ) (M : Lo (C.at_ X H Γ) X' H' σ' Γ') (hs : muts Γ' = muts Γ) : Lo C X H' σ' Γ' := by
  have sub : ∀ a, X a → X' a := M.m0
  refine ⟨M.len, fun i s hi => (M.at_ i s hi).anti sub, M.nd, fun p hp => L.mx p (hs ▸ hp), L.m0, fun a h => M.xd a (sub a h), fun a o e n => M.base a o (L.base a o e n) (L.nown e n), fun a h => M.dom a (L.dom a h), fun p hp => L.own p (hs ▸ hp), L.tf⟩
theorem Lo.keep {X' : Addr → Prop} {σ' : L2.St} (L : Lo C X H σ Γ) (M : Lo (C.at_ X H Γ) X' H' σ' Γ') : Keep X H H' := by
  refine ⟨fun a o e n => M.base a o e fun h => n (L.mx a h), fun a vs e => M.base a _ e fun h => ?_, fun a o u e => M.base a _ e fun h => ?_⟩
  · obtain ⟨o, r⟩ := L.mem (p := a) h
    exact r.ntup.1 _ e
  · obtain ⟨o', r⟩ := L.mem (p := a) h
    exact r.ntup.2 _ _ e
theorem Fin.leave {ps : List (Addr × MO)} {rs : Rs} {v : V} (L : Lo C X H σ Γ) (F : Fin C.K X H (muts Γ) ps rs v H') : Fin C.K C.X0 C.H0 C.P0 ps rs v H' := by
  refine ⟨fun a o e n => F.base a o (L.base a o e n) (L.nown e n), fun a h => F.dom a (L.dom a h), fun q hq => (F.mu q hq).anti L.m0, ?_⟩
  cases rs with
  | imm d => exact Rep.anti L.m0 F.res
  | immN Z d => exact Rep.anti (fun a z => z.imp (L.m0 a) id) F.res
  | new o =>
    obtain ⟨p, e, h, r⟩ := F.res
    refine ⟨p, e, ?_, r.anti fun a h => h.elim (fun z => .inl (L.m0 a z)) .inr⟩
    cases e : C.H0 p with
    | none => rfl
    | some o => exact (L.dom p (by rw [e]; exact fun z => nomatch z) h).elim
/-- the end of a def: data is told -/
theorem Lo.fin {ps : List (Addr × MO)} {d : PyData} {v : V} (L : Lo C X H σ Γ) (hp : ∀ q ∈ ps, MRep C.K X H q.1 q.2) (r : Rep C.K X H d v) : Fin C.K C.X0 C.H0 C.P0 ps (.imm d) v H :=
  ⟨L.base, L.dom, fun q hq => (hp q hq).anti L.m0, Rep.anti L.m0 r⟩
theorem Lo.finZ {ps : List (Addr × MO)} {Z : Addr → Prop} {d : PyData} {v : V} (L : Lo C X H σ Γ) (hp : ∀ q ∈ ps, MRep C.K X H q.1 q.2) (r : Rep C.K (NewX X Z H) H d v) : Fin C.K C.X0 C.H0 C.P0 ps (.immN Z d) v H :=
  ⟨L.base, L.dom, fun q hq => (hp q hq).anti L.m0, Rep.anti (fun a z => z.imp (L.m0 a) id) r⟩
/-- .. an object that the body has made -/
theorem Lo.finN {ps : List (Addr × MO)} {o : MO} {p : Addr} (L : Lo C X H σ Γ) (hp : ∀ q ∈ ps, MRep C.K X H q.1 q.2) (hn : C.H0 p = none) (hx : X p) (r : MRep C.K X H p o) : Fin C.K C.X0 C.H0 C.P0 ps (.new o) (.ref p) H :=
  ⟨L.base, L.dom, fun q hq => (hp q hq).anti L.m0, p, rfl, hn, r.anti fun a h => h.elim (L.m0 a) fun e => e ▸ hx⟩
theorem Lo.mrep (L : Lo C X H σ Γ) {i : Nat} {p : Addr} {o : MO} (e : Γ[i]? = some (.mu p o)) : MRep C.K X H p o := (L.at_ i _ e).2

/-- behind a call that wrote nothing of ours -/
theorem Lo.after0 {rs : Rs} {v : V} {ps : List (Addr × MO)} (L : Lo C X H σ Γ) (F : Fin C.K X H [] ps rs v H') : Lo C X H' σ Γ ∧ ∀ d u, Rep C.K X H d u → Rep C.K X H' d u := by
  have s : Same H H' := fun a o e => F.base a o e (by simp)
  exact ⟨L.same s, fun _ _ r => r.keep (.same s)⟩
theorem Lo.cond (L : Lo C X H σ Γ) {Γa : List Sl} {vs : List V} (as : As C.K X H Γa vs) (nd : (muts Γa).Nodup) (sub : ∀ p ∈ muts Γa, p ∈ muts Γ) : Cond C.K X H Γa vs := ⟨as, nd, fun p h => L.mx p (sub p h), L.xd⟩
theorem Lo.get (L : Lo C X H σ Γ) {i : Nat} {d : PyData} (e : Γ[i]? = some (.imm d)) : ∃ u, σ[i]? = some (some u) ∧ Rep C.K X H d u := L.at_ i _ e

theorem ad_unique {Γ : List Sl} (nd : (muts Γ).Nodup) : ∀ {i j : Nat} {s t : Sl} {p : Addr}, Γ[i]? = some s → Γ[j]? = some t → s.ad = some p → t.ad = some p → i = j := by
  induction Γ with
  | nil => intro i j s t p h; simp at h
  | cons s0 Γ ih =>
    intro i j s t p hi hj es et
    have nd' : (List.filterMap Sl.ad (s0 :: Γ)).Nodup := nd
    have tl : (muts Γ).Nodup := by
      rw [List.filterMap_cons] at nd'
      cases e : s0.ad with
      | none => rw [e] at nd'; exact nd'
      | some q => rw [e] at nd'; exact (List.nodup_cons.mp nd').2
    have no : ∀ (k : Nat) (r : Sl), s0.ad = some p → Γ[k]? = some r → r.ad = some p → False := fun k r e0 hk er => by
      rw [List.filterMap_cons, e0] at nd'
      exact (List.nodup_cons.mp nd').1 (List.mem_filterMap.mpr ⟨r, List.mem_of_getElem? hk, er⟩)
    cases i with
    | zero =>
      cases j with
      | zero => rfl
      | succ j =>
        simp at hi hj; subst hi
        exact (no j t es hj et).elim
    | succ i =>
      cases j with
      | zero =>
        simp at hi hj; subst hj
        exact (no i s et hi es).elim
      | succ j =>
        simp at hi hj
        rw [ih tl hi hj es et]
/-- another object at the same place -/
def Sl.to (o : MO) : Sl → Sl
  | .mu p _ => .mu p o
  | .tmp p _ => .tmp p o
  | s => s
theorem muts_to {o : MO} : ∀ {Γ : List Sl} {i : Nat} {s : Sl}, Γ[i]? = some s → muts (Γ.set i (s.to o)) = muts Γ
  | [], _, _, h => by simp at h
  | s0 :: Γ, 0, s, h => by
    simp at h; subst h
    show List.filterMap Sl.ad (s0.to o :: Γ) = List.filterMap Sl.ad (s0 :: Γ)
    rw [List.filterMap_cons, List.filterMap_cons]
    have : (s0.to o).ad = s0.ad := by cases s0 <;> rfl
    rw [this]
  | s0 :: Γ, i + 1, s, h => by
    have ih := muts_to (o := o) (Γ := Γ) (i := i) (s := s) (by simpa using h)
    show List.filterMap Sl.ad (s0 :: Γ.set i (s.to o)) = List.filterMap Sl.ad (s0 :: Γ)
    rw [List.filterMap_cons, List.filterMap_cons]
    have ih' : List.filterMap Sl.ad (Γ.set i (s.to o)) = List.filterMap Sl.ad Γ := ih
    rw [ih']
/-- the object at p is written (or turned by a call): all else keeps -/
theorem Lo.wrote (L : Lo C X H σ Γ) {i : Nat} {p : Addr} {s : Sl} {o : MO} (e : Γ[i]? = some s) (es : s.ad = some p) (hk : ∀ a u, H a = some u → a ≠ p → H' a = some u) (hd : ∀ a, H a ≠ none → H' a ≠ none) (r : MRep C.K X H' p o) :
    Lo C X H' σ (Γ.set i (s.to o)) ∧ ∀ d u, Rep C.K X H d u → Rep C.K X H' d u := by
  have hpm : p ∈ muts Γ := mem_muts.mpr ⟨i, s, e, es⟩
  have hpx : X p := L.mx p hpm
  obtain ⟨o0, r0⟩ := L.mem hpm
  have kp : Keep X H H' := ⟨fun a u h n => hk a u h fun z => n (z ▸ hpx), fun a vs h => hk a _ h fun z => r0.ntup.1 _ (z ▸ h), fun a u w h => hk a _ h fun z => r0.ntup.2 _ _ (z ▸ h)⟩
  have hil : i < Γ.length := (List.getElem?_eq_some_iff.mp e).1
  refine ⟨⟨L.len, fun j t hj => ?_, by rw [muts_to e]; exact L.nd, fun q hq => L.mx q (by rw [muts_to e] at hq; exact hq), L.m0, fun a h => hd a (L.xd a h), fun a u h n => ?_, fun a h => hd a (L.dom a h), fun q hq => L.own q (by rw [muts_to e] at hq; exact hq), L.tf⟩, fun _ _ q => q.keep kp⟩
  · by_cases z : j = i
    · subst z
      rw [List.getElem?_set_self hil] at hj
      have := L.at_ j s e
      cases hj
      cases s with
      | unk => cases es
      | scr ns => cases es
      | ref a => cases es
      | imm d => cases es
      | fix Z d => cases es
      | fixN Z d => cases es
      | mu q o1 => cases es; exact ⟨this.1, r⟩
      | tmp q o1 => cases es; exact r
    · rw [List.getElem?_set_ne (Ne.symm z)] at hj
      refine (L.at_ j t hj).keep kp fun q eq => ?_
      have ne : q ≠ p := fun y => z (ad_unique L.nd hj e (by rw [eq, y]) es)
      obtain ⟨o1, r1⟩ := L.mem (mem_muts.mpr ⟨j, t, hj, eq⟩)
      cases hq : H q with
      | none => exact (r1.nn hq).elim
      | some u => exact hk q u hq ne
  · have h1 := L.base a u h n
    exact hk a u h1 fun z => by
      subst z
      exact L.nown h n hpm
/-- behind a call that wrote one object -/
theorem Lo.after1 {rs : Rs} {v : V} {p : Addr} {o : MO} {s : Sl} (L : Lo C X H σ Γ) (F : Fin C.K X H [p] [(p, o)] rs v H') {i : Nat} (e : Γ[i]? = some s) (es : s.ad = some p) :
    Lo C X H' σ (Γ.set i (s.to o)) ∧ ∀ d u, Rep C.K X H d u → Rep C.K X H' d u :=
  L.wrote e es (fun a u h n => F.base a u h (by simpa using n)) F.dom (F.mu (p, o) (by simp))
/-- a new object is laid: forbidden from now on -/
theorem Lo.lay (L : Lo C X H σ Γ) {p : Addr} {o : MO} {H1 : Hp} (hn : H p = none) (s : Same H H1) (r : MRep C.K (fun a => X a ∨ a = p) H1 p o) :
    Lo C (fun a => X a ∨ a = p) H1 σ (Γ ++ [.tmp p o]) ∧ (∀ d u, Rep C.K X H d u → Rep C.K (fun a => X a ∨ a = p) H1 d u) ∧ C.H0 p = none ∧ ¬ C.X0 p := by
  have h0 : C.H0 p = none := by
    cases e : C.H0 p with
    | none => rfl
    | some o => exact (L.dom p (by rw [e]; exact fun z => nomatch z) hn).elim
  have hd : ∀ a, H a ≠ none → H1 a = H a := fun a h => by
    cases e : H a with
    | none => exact (h e).elim
    | some o => exact s a o e
  have hm : muts (Γ ++ [Sl.tmp p o]) = muts Γ ++ [p] := by unfold muts; rw [List.filterMap_append]; rfl
  have hnm : p ∉ muts Γ := fun h => L.xd p (L.mx p h) hn
  refine ⟨⟨L.len, fun i t hi => ?_, ?_, fun q hq => ?_, fun a h => .inl (L.m0 a h), fun a h => ?_, fun a u h n => s a u (L.base a u h n), fun a h => ?_, fun q hq => ?_, L.tf⟩, fun _ _ q => (q.more hn).keep (.same s), h0, fun z => L.xd p (L.m0 p z) hn⟩
  · by_cases hlt : i < Γ.length
    · rw [List.getElem?_append_left hlt] at hi
      refine ((L.at_ i t hi).more hn).keep (.same s) fun q e => hd q ?_
      obtain ⟨o', r'⟩ := (L.at_ i t hi).mrep e
      exact r'.nn
    · rw [List.getElem?_append_right (by omega)] at hi
      have ht := List.mem_of_getElem? hi
      rw [List.mem_singleton] at ht
      subst ht
      exact r
  · rw [hm]
    exact List.nodup_append.mpr ⟨L.nd, by simp, fun a ha b hb => by
      rw [List.mem_singleton] at hb
      subst hb
      intro z
      exact hnm (z ▸ ha)⟩
  · rw [hm, List.mem_append, List.mem_singleton] at hq
    exact hq.elim (fun z => .inl (L.mx q z)) .inr
  · rcases h with h | h
    · rw [hd a (L.xd a h)]; exact L.xd a h
    · subst h; exact r.nn
  · rw [hd a (L.dom a h)]; exact L.dom a h
  · rw [hm, List.mem_append, List.mem_singleton] at hq
    exact hq.elim (L.own q) fun z => .inr (z ▸ h0)
/-- the last object is given a name -/
theorem Lo.name {p : Addr} {o : MO} (L : Lo C X H σ (Γ ++ [.tmp p o])) {i : Nat} (hi : i < C.n) (hl : i < Γ.length) : Lo C X H (σ.set i (some (.ref p))) (Γ.set i (.mu p o)) := by
  have hm : muts (Γ ++ [Sl.tmp p o]) = muts Γ ++ [p] := by unfold muts; rw [List.filterMap_append]; rfl
  have nd := L.nd
  rw [hm] at nd
  obtain ⟨nd1, _, nd2⟩ := List.nodup_append.mp nd
  have hnp : p ∉ muts Γ := fun h => nd2 p h p (by simp) rfl
  have sub : ∀ q, q ∈ muts (Γ.set i (.mu p o)) → q ∈ muts (Γ ++ [Sl.tmp p o]) := fun q hq => by
    rw [hm, List.mem_append, List.mem_singleton]
    obtain ⟨j, s, hj, e⟩ := mem_muts.mp hq
    by_cases z : j = i
    · subst z
      rw [List.getElem?_set_self hl] at hj
      cases hj; cases e; exact .inr rfl
    · rw [List.getElem?_set_ne (Ne.symm z)] at hj
      exact .inl (mem_muts.mpr ⟨j, s, hj, e⟩)
  have ndp : ∀ {Γ : List Sl} {i : Nat}, (muts Γ).Nodup → p ∉ muts Γ → (muts (Γ.set i (.mu p o))).Nodup := by
    intro Γ
    induction Γ with
    | nil => intro i h _; exact h
    | cons s0 Γ ih =>
      intro i h hn
      have h' : (List.filterMap Sl.ad (s0 :: Γ)).Nodup := h
      have hn' : p ∉ List.filterMap Sl.ad (s0 :: Γ) := hn
      have hg : p ∉ muts Γ := fun z => hn' (by rw [List.filterMap_cons]; cases s0.ad with | none => exact z | some q => exact List.mem_cons_of_mem _ z)
      have hgn : (muts Γ).Nodup := by
        rw [List.filterMap_cons] at h'
        cases e : s0.ad with
        | none => rw [e] at h'; exact h'
        | some q => rw [e] at h'; exact (List.nodup_cons.mp h').2
      cases i with
      | zero => exact List.nodup_cons.mpr ⟨hg, hgn⟩
      | succ i =>
        have ih' := ih (i := i) hgn hg
        show (List.filterMap Sl.ad (s0 :: Γ.set i (.mu p o))).Nodup
        rw [List.filterMap_cons] at h' hn' ⊢
        cases e : s0.ad with
        | none => exact ih'
        | some q =>
          rw [e] at h' hn'
          refine List.nodup_cons.mpr ⟨fun z => ?_, ih'⟩
          obtain ⟨t, ht, et⟩ := List.mem_filterMap.mp (show q ∈ List.filterMap Sl.ad (Γ.set i (.mu p o)) from z)
          rcases List.mem_or_eq_of_mem_set ht with y | y
          · exact (List.nodup_cons.mp h').1 (List.mem_filterMap.mpr ⟨t, y, et⟩)
          · subst y
            cases et
            exact hn' List.mem_cons_self
  refine ⟨by rw [List.length_set]; exact L.len, fun j t hj => ?_, ndp nd1 hnp, fun q hq => L.mx q (sub q hq), L.m0, L.xd, L.base, L.dom, fun q hq => L.own q (sub q hq), L.tf⟩
  by_cases z : j = i
  · subst z
    rw [List.getElem?_set_self hl] at hj
    cases hj
    refine ⟨List.getElem?_set_self (by rw [L.len]; exact hi), ?_⟩
    exact L.at_ Γ.length (.tmp p o) (by rw [List.getElem?_append_right (Nat.le_refl _)]; simp)
  · rw [List.getElem?_set_ne (Ne.symm z)] at hj
    rw [List.getElem?_set_ne (Ne.symm z)]
    refine L.at_ j t ?_
    rw [List.getElem?_append_left (List.getElem?_eq_some_iff.mp hj).1]
    exact hj
/-- an object that is written no more is data -/
theorem Lo.freeze {p : Addr} {ds : List PyData} (L : Lo C X H σ Γ) {i : Nat} (e : Γ[i]? = some (.mu p (.lst ds))) (hx : ¬ C.X0 p) : Lo C (fun a => X a ∧ a ≠ p) H σ (Γ.set i (.imm (.list ds))) := by
  have hil : i < Γ.length := (List.getElem?_eq_some_iff.mp e).1
  refine ⟨L.len, fun j t hj => ?_, nodup_set L.nd, fun q hq => ⟨L.mx q (muts_set_imm hq), fun z => ?_⟩, fun a h => ⟨L.m0 a h, fun z => hx (z ▸ h)⟩, fun a h => L.xd a h.1, L.base, L.dom, fun q hq => L.own q (muts_set_imm hq), L.tf⟩
  · by_cases z : j = i
    · subst z
      rw [List.getElem?_set_self hil] at hj
      cases hj
      obtain ⟨h1, vs, h2, h3⟩ := L.at_ j _ e
      exact ⟨.ref p, h1, .lst (fun y => y.2 rfl) (.inl h2) (h3.anti fun a h => h.1)⟩
    · rw [List.getElem?_set_ne (Ne.symm z)] at hj
      exact (L.at_ j t hj).anti fun a h => h.1
  · subst z
    obtain ⟨j, s, hj, es⟩ := mem_muts.mp hq
    by_cases y : j = i
    · subst y
      rw [List.getElem?_set_self hil] at hj
      cases hj; cases es
    · rw [List.getElem?_set_ne (Ne.symm y)] at hj
      exact y (ad_unique L.nd hj e es rfl)
theorem RRep.imm {K : PySem.W.Frag} {X : Addr → Prop} {H H' : Hp} {ds : List PyData} {v : V} (r : RRep K X H H' (.new (.lst ds)) v) (xd : ∀ a, X a → H a ≠ none) : Rep K X H' (.list ds) v := by
  obtain ⟨p, e, hn, vs, h2, h3⟩ := r
  subst e
  exact .lst (fun z => xd p z hn) (.inl h2) (h3.anti fun _ z => .inl z)
end
open Py (enc)

/-! ### what may fail -/
/-- .. in the middle of a term -/
theorem obE {α β : Type} {m : Option α} {k : α → Option β} {r : β} {P : Prop} (h : m.bind k = some r) (f : ∀ x, m = some x → k x = some r → P) : P := by
  obtain ⟨x, a, b⟩ := Option.bind_eq_some_iff.mp h
  exact f x a b
theorem ob {α β : Type} {m : Option α} {k : α → Option β} {r : β} (h : m.bind k = some r) : ∃ x, m = some x ∧ k x = some r := Option.bind_eq_some_iff.mp h
/-- a product, a quotient, a rest, where they are told -/
def mulG (a b : Int) : Option Int := if a.natAbs.log2 + b.natAbs.log2 < 1000000 then some (a * b) else none
def divG (a b : Int) : Option Int := if b ≠ 0 ∧ b.natAbs.log2 < 9000 then some (a.fdiv b) else none
def modG (a b : Int) : Option Int := if b ≠ 0 then some (a.fmod b) else none
def lenOk (n : Nat) : Option Unit := if n ≤ 16777216 then some () else none
def guard (b : Bool) : Option Unit := if b = true then some () else none
def iabs (i : Int) : Int := if i < 0 then -i else i
def b2 (b : Bool) : Int := if b = true then 1 else 0
def ix {α : Type} (xs : List α) (i : Int) : Option α := atI xs i
theorem line_eq : sizeLine = 16777216 := sizeLine_eq

section
variable {Xc : Cx}
def cMulG (i j : Int) : Prop := i.natAbs.log2 + j.natAbs.log2 < 1000000
def cDivG (i j : Int) : Prop := j ≠ 0 ∧ j.natAbs.log2 < 9000
theorem op_divG : OpR Xc (binaryOp .FloorDiv) (rI cDivG fun i j => .int (i.fdiv j)) := opI fun i j _ _ _ _ _ hc q => floordiv_int hc.1 q (.inl (PyProof.noPylong_of_log2 hc.2))
end


/-- continuations by name, so that goals stay as they are -/
def KB (Q : Bool → Hp → Prop) : VK := fun x H => ∃ k, x = .bl k ∧ Q k H
def KNot (Q : Bool → Hp → Prop) : Bool → Hp → Prop := fun c H => Q (!c) H
def KAnd (u : TT) (σ : L2.St) (Q : Bool → Hp → Prop) : Bool → Hp → Prop := fun c H => if c = true then u σ H Q else Q false H
def KOr (u : TT) (σ : L2.St) (Q : Bool → Hp → Prop) : Bool → Hp → Prop := fun c H => if c = true then Q true H else u σ H Q
def KNotV (Q : VK) : Bool → Hp → Prop := fun c H => Q (.bl (!c)) H
def KAndV (u : TE) (σ : L2.St) (Q : VK) : Bool → Hp → Prop := fun c H => if c = true then u σ H Q else Q (.bl false) H
def KOrV (u : TE) (σ : L2.St) (Q : VK) : Bool → Hp → Prop := fun c H => if c = true then Q (.bl true) H else u σ H Q
def KIf (t u : TS) (D : Ends) (σ : L2.St) : Bool → Hp → Prop := fun c H => if c = true then t D σ H else u D σ H
def KIfE (t u : TE) (σ : L2.St) (Q : VK) : Bool → Hp → Prop := fun c H => if c = true then t σ H Q else u σ H Q
def KTup (Q : VK) : List V → Hp → Prop := fun xs H => xs.length ≤ sizeLine ∧ ∀ p, H p = none → Q (.ref p) (upd H p (.tup xs))
def KLst (Q : VK) : List V → Hp → Prop := fun xs H => xs.length ≤ sizeLine ∧ ∀ p, H p = none → Q (.ref p) (upd H p (.lst xs))
def KPar (i j : Nat) (σ : L2.St) (N : L2.St → Hp → Prop) : List V → Hp → Prop := fun vs H => ∃ v w, vs = [v, w] ∧ N ((σ.set i (some v)).set j (some w)) H

section
variable {C : Cn} {X : Addr → Prop} {H : Hp} {σ : L2.St} {Γ Γ' : List Sl} {Q : VK} {α β γ δ ε ρ : Type}
/-! ### expressions, from the left -/
theorem x_op {r : R2} {ta tb : TE} (h : ta σ H fun x H1 => tb σ H1 fun y H2 => r x y H2 Q) : tOp r ta tb σ H Q := h
theorem x_un {r : V → Hp → VK → Prop} {ta : TE} (h : ta σ H fun x H1 => r x H1 Q) : tUn r ta σ H Q := h
theorem x_c {v : V} (h : Q v H) : tC v σ H Q := h
theorem x_cons {ta : TE} {tr : TA} {Q : List V → Hp → Prop} (h : ta σ H fun x H1 => tr σ H1 fun xs H2 => Q (x :: xs) H2) : tCons ta tr σ H Q := h
theorem x_nil {Q : List V → Hp → Prop} (h : Q [] H) : tNil σ H Q := h
/-- a name of the def: data, an object that may be written, the script -/
theorem x_vd {i : Nat} {d : PyData} (L : Lo C X H σ Γ) (e : Γ[i]? = some (.imm d)) (h : ∀ v, Rep C.K X H d v → Q v H) : tVar i σ H Q := by
  obtain ⟨u, h1, h2⟩ := L.get e
  exact ⟨u, h1, h u h2⟩
theorem x_vm {i : Nat} {p : Addr} {o : MO} (L : Lo C X H σ Γ) (e : Γ[i]? = some (.mu p o)) (h : Q (.ref p) H) : tVar i σ H Q := ⟨_, (L.at_ i _ e).1, h⟩
theorem x_vscr {i : Nat} {ns : List Int} (L : Lo C X H σ Γ) (e : Γ[i]? = some (.scr ns)) (h : ∀ v, SqX C.K X H ns v → Q v H) : tVar i σ H Q := by
  obtain ⟨u, h1, h2⟩ := L.at_ i _ e
  exact ⟨u, h1, h u h2⟩
theorem repI {K : PySem.W.Frag} {x : Int} {u : V} (h : Rep K X H (PyData.int x) u) : u = (V.int x) := by cases h; rfl
theorem x_vI {i : Nat} {x : Int} (L : Lo C X H σ Γ) (e : Γ[i]? = some (.imm (PyData.int x))) (h : Q (V.int x) H) : tVar i σ H Q :=
  x_vd L e fun v r => by rw [repI (x := x) r]; exact h
theorem repB {K : PySem.W.Frag} {x : Bool} {u : V} (h : Rep K X H (PyData.bool x) u) : u = (V.bl x) := by cases h; rfl
theorem x_vB {i : Nat} {x : Bool} (L : Lo C X H σ Γ) (e : Γ[i]? = some (.imm (PyData.bool x))) (h : Q (V.bl x) H) : tVar i σ H Q :=
  x_vd L e fun v r => by rw [repB (x := x) r]; exact h
theorem repS {K : PySem.W.Frag} {x : Str} {u : V} (h : Rep K X H (PyData.str x) u) : u = (V.str x) := by cases h; rfl
theorem x_vS {i : Nat} {x : Str} (L : Lo C X H σ Γ) (e : Γ[i]? = some (.imm (PyData.str x))) (h : Q (V.str x) H) : tVar i σ H Q :=
  x_vd L e fun v r => by rw [repS (x := x) r]; exact h
theorem repN {K : PySem.W.Frag} {x : Unit} {u : V} (h : Rep K X H PyData.none u) : u = V.non := by cases h; rfl
theorem x_vN {i : Nat} {x : Unit} (L : Lo C X H σ Γ) (e : Γ[i]? = some (.imm PyData.none)) (h : Q V.non H) : tVar i σ H Q :=
  x_vd L e fun v r => by rw [repN (x := x) r]; exact h
/-! ### whole numbers -/
theorem x_r0 {g : Int → Int → V} {a b : Int} (h : Q (g a b) H) : rI0 g (.int a) (.int b) H Q := ⟨a, b, rfl, rfl, h⟩
theorem x_mulL {a b : Int} (hc : -(2 ^ 64) < a ∧ a < 2 ^ 64) (h : Q (.int (a * b)) H) : rI CMul (fun i j => .int (i * j)) (.int a) (.int b) H Q := ⟨a, b, rfl, rfl, .inl hc, h⟩
theorem x_mulR {a b : Int} (hc : -(2 ^ 64) < b ∧ b < 2 ^ 64) (h : Q (.int (a * b)) H) : rI CMul (fun i j => .int (i * j)) (.int a) (.int b) H Q := ⟨a, b, rfl, rfl, .inr hc, h⟩
theorem x_mulc {a b n : Int} (hc : a.natAbs.log2 + b.natAbs.log2 < 1000000) (e : a * b = n) (h : Q (.int n) H) : rI CMulW (fun i j => .int (i * j)) (.int a) (.int b) H Q := by subst e; exact ⟨a, b, rfl, rfl, hc, h⟩
theorem room65 {k : Nat} {A : Around} (r : Room k A) : A.units + 65 < cLine := by have := r.un; omega
theorem x_divc {a b : Int} (hc : CDiv a b) (h : Q (.int (a / b)) H) : rI CDiv (fun i j => .int (i / j)) (.int a) (.int b) H Q := ⟨a, b, rfl, rfl, hc, h⟩
theorem x_divW {a b : Int} (hc : CDivW a b) (h : Q (.int (a / b)) H) : rI CDivW (fun i j => .int (i / j)) (.int a) (.int b) H Q := ⟨a, b, rfl, rfl, hc, h⟩
theorem x_modc {a b : Int} (hc : 0 < b) (h : Q (.int (a % b)) H) : rI (fun _ j => 0 < j) (fun i j => .int (i % j)) (.int a) (.int b) H Q := ⟨a, b, rfl, rfl, hc, h⟩
theorem x_powc {a b n : Int} (hc : CPow a b) (e : a ^ b.toNat = n) (h : Q (.int n) H) : rI CPow (fun i j => .int (i ^ j.toNat)) (.int a) (.int b) H Q := by subst e; exact ⟨a, b, rfl, rfl, hc, h⟩
theorem x_mul {a b : Int} {k : Int → Option ρ} {r : ρ} (hm : (mulG a b).bind k = some r) (h : ∀ z, mulG a b = some z → k z = some r → Q (.int z) H) : rI CMulW (fun i j => .int (i * j)) (.int a) (.int b) H Q := by
  obtain ⟨z, hz, hk⟩ := ob hm
  have hz' := hz
  unfold mulG at hz'
  split at hz'
  · rename_i hc
    have e : a * b = z := Option.some.inj hz'
    subst e
    exact ⟨a, b, rfl, rfl, hc, h _ hz hk⟩
  · cases hz'
theorem x_div {a b : Int} {k : Int → Option ρ} {r : ρ} (hm : (divG a b).bind k = some r) (h : ∀ z, divG a b = some z → k z = some r → Q (.int z) H) : rI cDivG (fun i j => .int (i.fdiv j)) (.int a) (.int b) H Q := by
  obtain ⟨z, hz, hk⟩ := ob hm
  have hz' := hz
  unfold divG at hz'
  split at hz'
  · rename_i hc
    have e : a.fdiv b = z := Option.some.inj hz'
    subst e
    exact ⟨a, b, rfl, rfl, hc, h _ hz hk⟩
  · cases hz'
theorem x_mod {a b : Int} {k : Int → Option ρ} {r : ρ} (hm : (modG a b).bind k = some r) (h : ∀ z, modG a b = some z → k z = some r → Q (.int z) H) : rI (fun _ j => j ≠ 0) (fun i j => .int (i.fmod j)) (.int a) (.int b) H Q := by
  obtain ⟨z, hz, hk⟩ := ob hm
  have hz' := hz
  unfold modG at hz'
  split at hz'
  · rename_i hc
    have e : a.fmod b = z := Option.some.inj hz'
    subst e
    exact ⟨a, b, rfl, rfl, hc, h _ hz hk⟩
  · cases hz'
theorem x_u {g : Int → V} {a : Int} (h : Q (g a) H) : rU g (.int a) H Q := ⟨a, rfl, h⟩
theorem x_eqi {a b : Int} (h : Q (.bl (decide (a = b))) H) : rEq (.int a) (.int b) H Q := by
  refine ⟨rfl, ?_⟩
  have e : decide (V.int a = V.int b) = decide (a = b) := by by_cases z : a = b <;> simp [z]
  rw [e]; exact h
theorem x_nei {a b : Int} (h : Q (.bl (!decide (a = b))) H) : rNe (.int a) (.int b) H Q := by
  refine ⟨rfl, ?_⟩
  have e : decide (V.int a = V.int b) = decide (a = b) := by by_cases z : a = b <;> simp [z]
  rw [e]; exact h
theorem x_eqb {a b : Bool} (h : Q (.bl (decide (a = b))) H) : rEq (.bl a) (.bl b) H Q := by
  refine ⟨rfl, ?_⟩
  have e : decide (V.bl a = V.bl b) = decide (a = b) := by by_cases z : a = b <;> simp [z]
  rw [e]; exact h
theorem x_neb {a b : Bool} (h : Q (.bl (!decide (a = b))) H) : rNe (.bl a) (.bl b) H Q := by
  refine ⟨rfl, ?_⟩
  have e : decide (V.bl a = V.bl b) = decide (a = b) := by by_cases z : a = b <;> simp [z]
  rw [e]; exact h
theorem x_eqs {a b : Str} (h : Q (.bl (decide (a = b))) H) : rEq (.str a) (.str b) H Q := by
  refine ⟨rfl, ?_⟩
  have e : decide (V.str a = V.str b) = decide (a = b) := by by_cases z : a = b <;> simp [z]
  rw [e]; exact h
theorem x_nes {a b : Str} (h : Q (.bl (!decide (a = b))) H) : rNe (.str a) (.str b) H Q := by
  refine ⟨rfl, ?_⟩
  have e : decide (V.str a = V.str b) = decide (a = b) := by by_cases z : a = b <;> simp [z]
  rw [e]; exact h
/-- an item of a tuple -/
theorem rep_tup {K : PySem.W.Frag} {ds : List PyData} {v : V} (r : Rep K X H (.tuple ds) v) : ∃ a vs, v = .ref a ∧ SqT K H a vs ∧ Reps K X H ds vs := by
  cases r with | tup h q => exact ⟨_, _, rfl, h, q⟩
theorem rep_lst {K : PySem.W.Frag} {ds : List PyData} {v : V} (r : Rep K X H (.list ds) v) : ∃ a vs, v = .ref a ∧ ¬ X a ∧ Rd H a (.lst vs) ∧ Reps K X H ds vs := by
  cases r with | lst n h q => exact ⟨_, _, rfl, n, h, q⟩
theorem atI_reps {K : PySem.W.Frag} {ds : List PyData} {vs : List V} {i : Int} {d : PyData} (q : Reps K X H ds vs) (e : atI ds i = some d) : ∃ u, atI vs i = some u ∧ Rep K X H d u := by
  unfold atI at e ⊢
  rw [q.length]
  cases h : ixN ds.length i with
  | none => rw [h] at e; cases e
  | some j => rw [h] at e; exact q.get e
theorem x_ixT {ds : List PyData} {d : PyData} {i : Int} {v : V} (r : Rep C.K X H (.tuple ds) v) (e : atI ds i = some d) (h : ∀ u, Rep C.K X H d u → Q u H) : rIxT C.K v (.int i) H Q := by
  obtain ⟨a, vs, rfl, hs, q⟩ := rep_tup r
  obtain ⟨u, h1, h2⟩ := atI_reps q e
  exact ⟨a, vs, i, u, rfl, rfl, hs, h1, h u h2⟩
theorem x_ixTI {ds : List PyData} {x : Int} {i : Int} {v : V} (r : Rep C.K X H (.tuple ds) v) (e : atI ds i = some (PyData.int x)) (h : Q (V.int x) H) : rIxT C.K v (.int i) H Q :=
  x_ixT r e fun u q => by rw [repI (x := x) q]; exact h
theorem x_ixTB {ds : List PyData} {x : Bool} {i : Int} {v : V} (r : Rep C.K X H (.tuple ds) v) (e : atI ds i = some (PyData.bool x)) (h : Q (V.bl x) H) : rIxT C.K v (.int i) H Q :=
  x_ixT r e fun u q => by rw [repB (x := x) q]; exact h
theorem x_ixTS {ds : List PyData} {x : Str} {i : Int} {v : V} (r : Rep C.K X H (.tuple ds) v) (e : atI ds i = some (PyData.str x)) (h : Q (V.str x) H) : rIxT C.K v (.int i) H Q :=
  x_ixT r e fun u q => by rw [repS (x := x) q]; exact h
theorem x_ixTN {ds : List PyData} {x : Unit} {i : Int} {v : V} (r : Rep C.K X H (.tuple ds) v) (e : atI ds i = some PyData.none) (h : Q V.non H) : rIxT C.K v (.int i) H Q :=
  x_ixT r e fun u q => by rw [repN (x := x) q]; exact h
theorem atI_map {f : α → β} {xs : List α} {i : Int} : atI (xs.map f) i = (atI xs i).map f := by
  unfold atI
  rw [List.length_map]
  cases ixN xs.length i with
  | none => rfl
  | some j => exact List.getElem?_map ..
/-- an item of a list -/
theorem x_ixL [Py α] {xs : List α} {i : Int} {v : V} {k : α → Option ρ} {r : ρ} (hm : (ix xs i).bind k = some r) (q : Rep C.K X H (enc xs) v) (h : ∀ x u, ix xs i = some x → k x = some r → Rep C.K X H (enc x) u → Q u H) : rIxL C.K v (.int i) H Q := by
  obtain ⟨x, hx, hk⟩ := ob hm
  obtain ⟨a, vs, rfl, _, hs, q⟩ := rep_lst (ds := xs.map enc) q
  have e : atI (xs.map enc) i = some (enc x) := by rw [atI_map]; unfold ix at hx; rw [hx]; rfl
  obtain ⟨u, h1, h2⟩ := atI_reps q e
  exact ⟨a, vs, i, u, rfl, rfl, .inl hs, h1, h x u hx hk h2⟩
theorem x_ixLI {xs : List Int} {i : Int} {v : V} {k : Int → Option ρ} {r : ρ} (hm : (ix xs i).bind k = some r) (q : Rep C.K X H (enc xs) v) (h : ∀ x, ix xs i = some x → k x = some r → Q (V.int x) H) : rIxL C.K v (.int i) H Q :=
  x_ixL hm q fun x u h1 h2 r => by rw [repI (x := x) r]; exact h x h1 h2
theorem x_ixLB {xs : List Bool} {i : Int} {v : V} {k : Bool → Option ρ} {r : ρ} (hm : (ix xs i).bind k = some r) (q : Rep C.K X H (enc xs) v) (h : ∀ x, ix xs i = some x → k x = some r → Q (V.bl x) H) : rIxL C.K v (.int i) H Q :=
  x_ixL hm q fun x u h1 h2 r => by rw [repB (x := x) r]; exact h x h1 h2
theorem x_ixLS {xs : List Str} {i : Int} {v : V} {k : Str → Option ρ} {r : ρ} (hm : (ix xs i).bind k = some r) (q : Rep C.K X H (enc xs) v) (h : ∀ x, ix xs i = some x → k x = some r → Q (V.str x) H) : rIxL C.K v (.int i) H Q :=
  x_ixL hm q fun x u h1 h2 r => by rw [repS (x := x) r]; exact h x h1 h2
theorem x_ixLN {xs : List Unit} {i : Int} {v : V} {k : Unit → Option ρ} {r : ρ} (hm : (ix xs i).bind k = some r) (q : Rep C.K X H (enc xs) v) (h : ∀ x, ix xs i = some x → k x = some r → Q V.non H) : rIxL C.K v (.int i) H Q :=
  x_ixL hm q fun x u h1 h2 r => by rw [repN (x := x) r]; exact h x h1 h2
/-- .. of a list that may be written -/
theorem x_ixM [Py α] {xs : List α} {i : Int} {j : Nat} {p : Addr} {k : α → Option ρ} {r : ρ} (L : Lo C X H σ Γ) (g : Γ[j]? = some (.mu p (ml xs))) (hm : (ix xs i).bind k = some r) (h : ∀ x u, ix xs i = some x → k x = some r → Rep C.K X H (enc x) u → Q u H) : rIxL C.K (.ref p) (.int i) H Q := by
  obtain ⟨x, hx, hk⟩ := ob hm
  obtain ⟨vs, hs, q⟩ := L.mrep g
  have e : atI (xs.map enc) i = some (enc x) := by rw [atI_map]; unfold ix at hx; rw [hx]; rfl
  obtain ⟨u, h1, h2⟩ := atI_reps q e
  exact ⟨p, vs, i, u, rfl, rfl, .inl (.inl hs), h1, h x u hx hk h2⟩
theorem x_ixMI {xs : List Int} {i : Int} {j : Nat} {p : Addr} {k : Int → Option ρ} {r : ρ} (L : Lo C X H σ Γ) (g : Γ[j]? = some (.mu p (ml xs))) (hm : (ix xs i).bind k = some r) (h : ∀ x, ix xs i = some x → k x = some r → Q (V.int x) H) : rIxL C.K (.ref p) (.int i) H Q :=
  x_ixM L g hm fun x u h1 h2 r => by rw [repI (x := x) r]; exact h x h1 h2
theorem x_ixMB {xs : List Bool} {i : Int} {j : Nat} {p : Addr} {k : Bool → Option ρ} {r : ρ} (L : Lo C X H σ Γ) (g : Γ[j]? = some (.mu p (ml xs))) (hm : (ix xs i).bind k = some r) (h : ∀ x, ix xs i = some x → k x = some r → Q (V.bl x) H) : rIxL C.K (.ref p) (.int i) H Q :=
  x_ixM L g hm fun x u h1 h2 r => by rw [repB (x := x) r]; exact h x h1 h2
theorem x_ixMS {xs : List Str} {i : Int} {j : Nat} {p : Addr} {k : Str → Option ρ} {r : ρ} (L : Lo C X H σ Γ) (g : Γ[j]? = some (.mu p (ml xs))) (hm : (ix xs i).bind k = some r) (h : ∀ x, ix xs i = some x → k x = some r → Q (V.str x) H) : rIxL C.K (.ref p) (.int i) H Q :=
  x_ixM L g hm fun x u h1 h2 r => by rw [repS (x := x) r]; exact h x h1 h2
theorem x_ixMN {xs : List Unit} {i : Int} {j : Nat} {p : Addr} {k : Unit → Option ρ} {r : ρ} (L : Lo C X H σ Γ) (g : Γ[j]? = some (.mu p (ml xs))) (hm : (ix xs i).bind k = some r) (h : ∀ x, ix xs i = some x → k x = some r → Q V.non H) : rIxL C.K (.ref p) (.int i) H Q :=
  x_ixM L g hm fun x u h1 h2 r => by rw [repN (x := x) r]; exact h x h1 h2
/-- .. of the script -/
theorem x_ixS {ns : List Int} {i : Int} {v : V} {k : Int → Option ρ} {r : ρ} (hm : (ix ns i).bind k = some r) (q : SqX C.K X H ns v) (h : ∀ x, ix ns i = some x → k x = some r → Q (.int x) H) : rIxL C.K v (.int i) H Q := by
  obtain ⟨x, hx, hk⟩ := ob hm
  obtain ⟨a, rfl, hs⟩ := q.sq
  have e : atI (ns.map V.int) i = some (.int x) := by rw [atI_map]; unfold ix at hx; rw [hx]; rfl
  exact ⟨a, _, i, _, rfl, rfl, hs, e, h x hx hk⟩
/-! ### displays -/
theorem x_tup {t : TA} (h : t σ H (KTup Q)) : tTup t σ H Q := h
theorem x_lst {t : TA} (h : t σ H (KLst Q)) : tLst t σ H Q := h
theorem same_upd {p : Addr} {o : HO} (h : H p = none) : Same H (upd H p o) := fun b u e => by rw [upd_ne (ne_of_none e h)]; exact e
theorem x_mkT {ds : List PyData} {vs : List V} (L : Lo C X H σ Γ) (q : Reps C.K X H ds vs) (hl : vs.length ≤ 16777216) (h : ∀ v H1, Lo C X H1 σ Γ → (∀ d u, Rep C.K X H d u → Rep C.K X H1 d u) → Rep C.K X H1 (.tuple ds) v → Q v H1) : KTup Q vs H := by
  refine ⟨by rw [line_eq]; exact hl, fun p hp => ?_⟩
  have s : Same H (upd H p (.tup vs)) := same_upd hp
  exact h _ _ (L.same s) (fun _ _ r => r.keep (.same s)) (.tup (.of upd_same) (q.keep (.same s)))
/-- a new list, told as data -/
theorem x_mkL {ds : List PyData} {vs : List V} (L : Lo C X H σ Γ) (q : Reps C.K X H ds vs) (hl : vs.length ≤ 16777216) (h : ∀ v H1, Lo C X H1 σ Γ → (∀ d u, Rep C.K X H d u → Rep C.K X H1 d u) → Rep C.K X H1 (.list ds) v → Q v H1) : KLst Q vs H := by
  refine ⟨by rw [line_eq]; exact hl, fun p hp => ?_⟩
  have s : Same H (upd H p (.lst vs)) := same_upd hp
  have r : RRep C.K X H (upd H p (.lst vs)) (.new (.lst ds)) (.ref p) := ⟨p, rfl, hp, vs, upd_same, (q.more hp).keep (.same s)⟩
  exact h _ _ (L.same s) (fun _ _ r => r.keep (.same s)) (r.imm L.xd)
/-- a new list of the body's own -/
theorem x_mkN {ds : List PyData} {vs : List V} (L : Lo C X H σ Γ) (q : Reps C.K X H ds vs) (hl : vs.length ≤ 16777216) (h : ∀ p X' H1, C.H0 p = none → ¬ C.X0 p → Lo C X' H1 σ (Γ ++ [.tmp p (.lst ds)]) → (∀ d u, Rep C.K X H d u → Rep C.K X' H1 d u) → Q (.ref p) H1) : KLst Q vs H := by
  refine ⟨by rw [line_eq]; exact hl, fun p hp => ?_⟩
  have s : Same H (upd H p (.lst vs)) := same_upd hp
  obtain ⟨L1, le, h0, hx⟩ := L.lay (o := .lst ds) hp s ⟨vs, upd_same, (q.more hp).keep (.same s)⟩
  exact h p _ _ h0 hx L1 le
/-- behind a call that tells a new object -/
theorem Lo.afterN {v : V} {o : MO} {ps : List (Addr × MO)} {P0 : List Addr} {H' : Hp} (L : Lo C X H σ Γ) (F : Fin C.K X H P0 ps (.new o) v H') (L' : Lo C X H' σ Γ') (kp : Keep X H H') (sub : ∀ p ∈ P0, p ∈ muts Γ) (hm : muts Γ' = muts Γ)
    (hat : ∀ (i : Nat) (s : Sl), Γ'[i]? = some s → (s.ad = none ∧ Γ[i]? = some s) ∨ (∃ p, s.ad = some p ∧ ∀ (q : Addr), H q = none → SlOk C.K (fun a => X a ∨ a = q) H' σ[i]? s)) :
    ∃ p, v = .ref p ∧ C.H0 p = none ∧ ¬ C.X0 p ∧ Lo C (fun a => X a ∨ a = p) H' σ (Γ' ++ [.tmp p o]) ∧ ∀ d u, Rep C.K X H d u → Rep C.K (fun a => X a ∨ a = p) H' d u := by
  obtain ⟨p, e, hn, r⟩ := F.res
  subst e
  have h0 : C.H0 p = none := by
    cases e : C.H0 p with
    | none => rfl
    | some o => exact (L.dom p (by rw [e]; exact fun z => nomatch z) hn).elim
  have kp' : Keep (fun a => X a ∨ a = p) H H' := kp.mono fun a h => .inl h
  have hm2 : muts (Γ' ++ [Sl.tmp p o]) = muts Γ' ++ [p] := by unfold muts; rw [List.filterMap_append]; rfl
  have hnm : p ∉ muts Γ' := fun h => L.xd p (L.mx p (hm ▸ h)) hn
  refine ⟨p, rfl, h0, fun z => L.xd p (L.m0 p z) hn, ⟨L.len, fun i t hi => ?_, ?_, fun q hq => ?_, fun a h => .inl (L.m0 a h), fun a h => ?_, L'.base, L'.dom, fun q hq => ?_, L.tf⟩, fun _ _ q => (q.more hn).keep kp'⟩
  · by_cases hlt : i < Γ'.length
    · rw [List.getElem?_append_left hlt] at hi
      rcases hat i t hi with ⟨h1, h2⟩ | ⟨q, h1, h2⟩
      · exact ((L.at_ i t h2).more hn).keep kp' fun q e => by rw [h1] at e; cases e
      · exact h2 p hn
    · rw [List.getElem?_append_right (by omega)] at hi
      have ht := List.mem_of_getElem? hi
      rw [List.mem_singleton] at ht
      subst ht
      exact r
  · rw [hm2]
    exact List.nodup_append.mpr ⟨L'.nd, by simp, fun a ha b hb => by
      rw [List.mem_singleton] at hb
      subst hb
      intro z
      exact hnm (z ▸ ha)⟩
  · rw [hm2, List.mem_append, List.mem_singleton] at hq
    exact hq.elim (fun z => .inl (L'.mx q z)) .inr
  · rcases h with h | h
    · exact L'.xd a h
    · subst h; exact r.nn
  · rw [hm2, List.mem_append, List.mem_singleton] at hq
    exact hq.elim (L'.own q) fun z => .inr (z ▸ h0)
theorem Lo.after0N {v : V} {o : MO} {ps : List (Addr × MO)} {H' : Hp} (L : Lo C X H σ Γ) (F : Fin C.K X H [] ps (.new o) v H') :
    ∃ p, v = .ref p ∧ C.H0 p = none ∧ ¬ C.X0 p ∧ ∃ X', Lo C X' H' σ (Γ ++ [.tmp p o]) ∧ ∀ d u, Rep C.K X H d u → Rep C.K X' H' d u := by
  have s : Same H H' := fun a o e => F.base a o e (by simp)
  have L' := (L.after0 F).1
  obtain ⟨p, a, b, c, d, e⟩ := L.afterN F L' (.same s) (by simp) rfl fun i t hi => by
    cases e : t.ad with
    | none => exact .inl ⟨rfl, hi⟩
    | some p =>
      refine .inr ⟨p, rfl, fun q hq => ((L.at_ i t hi).more hq).keep (.same s) fun p' e' => ?_⟩
      obtain ⟨o', r'⟩ := (L.at_ i t hi).mrep e'
      cases h : H p' with
      | none => exact (r'.nn h).elim
      | some u => exact s _ _ h
  exact ⟨p, a, b, c, _, d, e⟩
/-! ### tests -/
theorem x_test {t : TE} {Q : Bool → Hp → Prop} (h : t σ H (KB Q)) : tTest t σ H Q := h
theorem x_tB {t : TE} {Q : Bool → Hp → Prop} (h : t σ H (KB Q)) : tB t σ H Q := h
theorem x_kb {b : Bool} {Q : Bool → Hp → Prop} (h : Q b H) : KB Q (.bl b) H := ⟨b, rfl, h⟩
theorem x_not {t : TT} {Q : Bool → Hp → Prop} (h : t σ H (KNot Q)) : tNot t σ H Q := h
theorem x_kn {b : Bool} {Q : Bool → Hp → Prop} (h : Q (!b) H) : KNot Q b H := h
theorem x_notV {t : TE} (h : t σ H (KB (KNotV Q))) : tNotV t σ H Q := h
theorem x_knV {b : Bool} (h : Q (.bl (!b)) H) : KNotV Q b H := h
theorem x_and {t u : TT} {Q : Bool → Hp → Prop} (h : t σ H (KAnd u σ Q)) : tAnd t u σ H Q := h
theorem x_or {t u : TT} {Q : Bool → Hp → Prop} (h : t σ H (KOr u σ Q)) : tOr t u σ H Q := h
theorem x_andV {t u : TE} (h : t σ H (KB (KAndV u σ Q))) : tAndV t u σ H Q := h
theorem x_orV {t u : TE} (h : t σ H (KB (KOrV u σ Q))) : tOrV t u σ H Q := h
theorem x_ifE {t : TT} {ta tb : TE} (h : t σ H (KIfE ta tb σ Q)) : tIf t ta tb σ H Q := h
/-- a second part that can't fail and changes nothing -/
theorem x_andP {A B : Bool} {u : TT} {Q : Bool → Hp → Prop} (hu : ∀ Q' : Bool → Hp → Prop, Q' B H → u σ H Q') (h : Q (A && B) H) : KAnd u σ Q A H := by
  cases A with
  | true => exact hu Q h
  | false => exact h
theorem x_orP {A B : Bool} {u : TT} {Q : Bool → Hp → Prop} (hu : ∀ Q' : Bool → Hp → Prop, Q' B H → u σ H Q') (h : Q (A || B) H) : KOr u σ Q A H := by
  cases A with
  | false => exact hu Q h
  | true => exact h
theorem x_andVP {A B : Bool} {u : TE} (hu : ∀ Q' : VK, Q' (.bl B) H → u σ H Q') (h : Q (.bl (A && B)) H) : KAndV u σ Q A H := by
  cases A with
  | true => exact hu Q h
  | false => exact h
theorem x_orVP {A B : Bool} {u : TE} (hu : ∀ Q' : VK, Q' (.bl B) H → u σ H Q') (h : Q (.bl (A || B)) H) : KOrV u σ Q A H := by
  cases A with
  | false => exact hu Q h
  | true => exact h
/-- .. that may: it runs only then -/
theorem x_andB {A : Bool} {m : Option Bool} {k : Bool → Option ρ} {r : ρ} {u : TT} {Q : Bool → Hp → Prop} (L : Lo C X H σ Γ) (hm : (if A = true then m else some false).bind k = some r)
    (hu : ∀ b, m = some b → ∀ Q' : Bool → Hp → Prop, (∀ H2, Lo C X H2 σ Γ → Q' b H2) → u σ H Q') (h : ∀ b H2, k b = some r → Lo C X H2 σ Γ → Q b H2) : KAnd u σ Q A H := by
  cases A with
  | true =>
    obtain ⟨b, e, hk⟩ := ob hm
    exact hu b e Q fun H2 l => h b H2 hk l
  | false => exact h false H hm L
theorem x_orB {A : Bool} {m : Option Bool} {k : Bool → Option ρ} {r : ρ} {u : TT} {Q : Bool → Hp → Prop} (L : Lo C X H σ Γ) (hm : (if A = true then some true else m).bind k = some r)
    (hu : ∀ b, m = some b → ∀ Q' : Bool → Hp → Prop, (∀ H2, Lo C X H2 σ Γ → Q' b H2) → u σ H Q') (h : ∀ b H2, k b = some r → Lo C X H2 σ Γ → Q b H2) : KOr u σ Q A H := by
  cases A with
  | false =>
    obtain ⟨b, e, hk⟩ := ob hm
    exact hu b e Q fun H2 l => h b H2 hk l
  | true => exact h true H hm L
theorem x_andVB {A : Bool} {m : Option Bool} {k : Bool → Option ρ} {r : ρ} {u : TE} (L : Lo C X H σ Γ) (hm : (if A = true then m else some false).bind k = some r)
    (hu : ∀ b, m = some b → ∀ Q' : VK, (∀ H2, Lo C X H2 σ Γ → Q' (.bl b) H2) → u σ H Q') (h : ∀ b H2, k b = some r → Lo C X H2 σ Γ → Q (.bl b) H2) : KAndV u σ Q A H := by
  cases A with
  | true =>
    obtain ⟨b, e, hk⟩ := ob hm
    exact hu b e Q fun H2 l => h b H2 hk l
  | false => exact h false H hm L
theorem x_orVB {A : Bool} {m : Option Bool} {k : Bool → Option ρ} {r : ρ} {u : TE} (L : Lo C X H σ Γ) (hm : (if A = true then some true else m).bind k = some r)
    (hu : ∀ b, m = some b → ∀ Q' : VK, (∀ H2, Lo C X H2 σ Γ → Q' (.bl b) H2) → u σ H Q') (h : ∀ b H2, k b = some r → Lo C X H2 σ Γ → Q (.bl b) H2) : KOrV u σ Q A H := by
  cases A with
  | false =>
    obtain ⟨b, e, hk⟩ := ob hm
    exact hu b e Q fun H2 l => h b H2 hk l
  | true => exact h true H hm L
theorem x_lfT {B b : Bool} {Q' : Bool → Hp → Prop} (hm : some B = some b) (hQ : ∀ H2, Lo C X H2 σ Γ → Q' b H2) (L : Lo C X H σ Γ) : Q' B H := by cases hm; exact hQ _ L
theorem x_lfV {B b : Bool} {Q' : VK} (hm : some B = some b) (hQ : ∀ H2, Lo C X H2 σ Γ → Q' (.bl b) H2) (L : Lo C X H σ Γ) : Q' (.bl B) H := by cases hm; exact hQ _ L
/-! ### statements -/
section
variable {nx bk ct : L2.St → Hp → Prop} {rt : VK}
theorem x_seq {t u : TS} (h : t ⟨u ⟨nx, rt, bk, ct⟩, rt, bk, ct⟩ σ H) : tSeq t u ⟨nx, rt, bk, ct⟩ σ H := h
theorem x_next (h : nx σ H) : tNext ⟨nx, rt, bk, ct⟩ σ H := h
theorem x_cont (h : ct σ H) : tCont ⟨nx, rt, bk, ct⟩ σ H := h
theorem x_break (h : bk σ H) : tBreak ⟨nx, rt, bk, ct⟩ σ H := h
theorem x_asg {te : TE} {g : TG} (h : te σ H fun x H1 => g x σ H1 nx) : tAsg te g ⟨nx, rt, bk, ct⟩ σ H := h
theorem x_ret {te : TE} (h : te σ H rt) : tRet te ⟨nx, rt, bk, ct⟩ σ H := h
theorem x_retN (h : rt .non H) : tRetN ⟨nx, rt, bk, ct⟩ σ H := h
theorem x_drop {te : TE} (h : te σ H fun _ H1 => nx σ H1) : tDrop te ⟨nx, rt, bk, ct⟩ σ H := h
end
theorem x_ifS {c : TT} {t u : TS} {D : Ends} (h : c σ H (KIf t u D σ)) : tIfS c t u D σ H := h
/-- a branch ends the body: the rest stands in the other one -/
theorem x_if {t u : TS} {D : Ends} {c : Bool} {mA mB : Option ρ} {r : ρ} (hm : (if c = true then mA else mB) = some r) (hA : mA = some r → t D σ H) (hB : mB = some r → u D σ H) : KIf t u D σ c H := by
  cases c with
  | true => exact hA hm
  | false => exact hB hm
theorem x_ifX {t u : TE} {c : Bool} {mA mB : Option ρ} {r : ρ} (hm : (if c = true then mA else mB) = some r) (hA : mA = some r → t σ H Q) (hB : mB = some r → u σ H Q) : KIfE t u σ Q c H := by
  cases c with
  | true => exact hA hm
  | false => exact hB hm
theorem x_set {d : PyData} {i : Nat} {v : V} {N : L2.St → Hp → Prop} (L : Lo C X H σ Γ) (r : Rep C.K X H d v) (hi : i < C.n) (e : Γ.set i (.imm d) = Γ') (h : ∀ σ', Lo C X H σ' Γ' → N σ' H) : gName i v σ H N := by
  subst e
  exact h _ (L.set r hi)
/-- a new object gets a name -/
theorem x_setN {p : Addr} {o : MO} {i : Nat} {N : L2.St → Hp → Prop} (L : Lo C X H σ (Γ ++ [.tmp p o])) (hi : i < C.n) (hl : i < Γ.length) (e : Γ.set i (.mu p o) = Γ') (h : ∀ σ', Lo C X H σ' Γ' → N σ' H) : gName i (.ref p) σ H N := by
  subst e
  exact h _ (L.name hi hl)
/-- two names at once -/
theorem x_par {i j : Nat} {ta : TA} {nx bk ct : L2.St → Hp → Prop} {rt : VK} (h : ta σ H (KPar i j σ nx)) : tPar i j ta ⟨nx, rt, bk, ct⟩ σ H := h
theorem x_par2 {x y : PyData} {i j : Nat} {v w : V} {N : L2.St → Hp → Prop} (L : Lo C X H σ Γ) (r : Rep C.K X H x v) (q : Rep C.K X H y w) (hi : i < C.n) (hj : j < C.n) (e : (Γ.set i (.imm x)).set j (.imm y) = Γ') (h : ∀ σ', Lo C X H σ' Γ' → N σ' H) :
    KPar i j σ N [v, w] H := by
  subst e
  exact ⟨v, w, rfl, h _ ((L.set r hi).set q hj)⟩
def KPar3 (i j l : Nat) (σ : L2.St) (N : L2.St → Hp → Prop) : List V → Hp → Prop := fun vs H => ∃ u v w, vs = [u, v, w] ∧ N (((σ.set i (some u)).set j (some v)).set l (some w)) H
theorem x_par3 {i j l : Nat} {ta : TA} {nx bk ct : L2.St → Hp → Prop} {rt : VK} (h : ta σ H (KPar3 i j l σ nx)) : tPar3 i j l ta ⟨nx, rt, bk, ct⟩ σ H := h
theorem x_par3r {x y z : PyData} {i j l : Nat} {u v w : V} {N : L2.St → Hp → Prop} (L : Lo C X H σ Γ) (r : Rep C.K X H x u) (q : Rep C.K X H y v) (t : Rep C.K X H z w) (hi : i < C.n) (hj : j < C.n) (hl : l < C.n) (e : ((Γ.set i (.imm x)).set j (.imm y)).set l (.imm z) = Γ') (h : ∀ σ', Lo C X H σ' Γ' → N σ' H) :
    KPar3 i j l σ N [u, v, w] H := by
  subst e
  exact ⟨u, v, w, rfl, h _ (((L.set r hi).set q hj).set t hl)⟩
/-- a tuple is parted to names -/
theorem x_gTup {ds : List PyData} {v : V} {n : Nat} {t : TGs} {N : L2.St → Hp → Prop} (r : Rep C.K X H (.tuple ds) v) (hl : ds.length = n) (h : ∀ vs, Reps C.K X H ds vs → t vs σ H N) : gTup C.K n t v σ H N := by
  obtain ⟨a, vs, rfl, hs, q⟩ := rep_tup r
  exact ⟨a, vs, rfl, hs, q.length.trans hl, h vs q⟩
theorem x_gCons {d : PyData} {ds : List PyData} {vs : List V} {t : TG} {u : TGs} {N : L2.St → Hp → Prop} (q : Reps C.K X H (d :: ds) vs) (h : ∀ v r, Rep C.K X H d v → Reps C.K X H ds r → t v σ H fun σ' H' => u r σ' H' N) : gCons t u vs σ H N := by
  cases q with | cons r t => exact ⟨_, _, rfl, h _ _ r t⟩
theorem x_gNil {vs : List V} {N : L2.St → Hp → Prop} (q : Reps C.K X H [] vs) (h : N σ H) : gNil vs σ H N := by
  cases q; exact ⟨rfl, h⟩
/-- an item of a list is written -/
theorem x_gSub {to ti : TE} {t : TSet} {v : V} {N : L2.St → Hp → Prop} (h : to σ H fun o H1 => ti σ H1 fun i H2 => t o i v H2 (N σ)) : gSub to ti t v σ H N := h
def setI (xs : List α) (i : Int) (x : α) : Option (List α) := (ixN xs.length i).map fun j => xs.set j x
theorem x_setI [Py α] {xs : List α} {x : α} {i : Int} {j : Nat} {p : Addr} {v : V} {N : Hp → Prop} {k : List α → Option ρ} {r : ρ} (L : Lo C X H σ Γ) (g : Γ[j]? = some (.mu p (ml xs))) (hm : (setI xs i x).bind k = some r) (q : Rep C.K X H (enc x) v)
    (h : ∀ ys H1, setI xs i x = some ys → k ys = some r → Lo C X H1 σ (Γ.set j (.mu p (ml ys))) → N H1) : rSetL (.ref p) (.int i) v H N := by
  obtain ⟨ys, e, hk⟩ := ob hm
  have e' := e
  unfold setI at e'
  obtain ⟨vs, hs, rs⟩ := L.mrep g
  have hl : vs.length = xs.length := by rw [rs.length, List.length_map]
  cases hj : ixN xs.length i with
  | none => rw [hj] at e'; cases e'
  | some m =>
    rw [hj] at e'
    have e2 : xs.set m x = ys := Option.some.inj e'
    refine ⟨p, vs, i, m, rfl, rfl, hs, by rw [hl]; exact hj, ?_⟩
    have hX : X p := L.mx p (mem_muts.mpr ⟨j, _, g, rfl⟩)
    have kp : Keep X H (upd H p (.lst (vs.set m v))) := ⟨fun a u h n => by rw [upd_ne (fun z => n (by rw [z]; exact hX))]; exact h, fun a us h => by rw [upd_ne (fun z => by rw [z, hs] at h; cases h)]; exact h, fun a u w h => by rw [upd_ne (fun z => by rw [z, hs] at h; cases h)]; exact h⟩
    have := L.wrote (H' := upd H p (.lst (vs.set m v))) (o := ml ys) g rfl (fun a u h n => by rw [upd_ne n]; exact h) (fun a h => by
      by_cases z : a = p
      · rw [z, upd_same]; exact fun y => nomatch y
      · rw [upd_ne z]; exact h) ⟨_, upd_same, by rw [← e2, List.map_set]; exact (rs.set q m).keep kp⟩
    exact h ys _ e hk this.1
end
open Py (enc)

/-- how a loop's turn ends: the next one, out of the loop, out of the def -/
inductive Lp (τ ρ : Type) where
  | nxt (s : τ)
  | brk (s : τ)
  | ret (r : ρ)
def loopL {α τ ρ : Type} (f : α → τ → Option (Lp τ ρ)) : List α → τ → Option (Lp τ ρ)
  | [], s => some (.nxt s)
  | x :: xs, s => (f x s).bind fun o => match o with
    | .nxt s' => loopL f xs s'
    | .brk s' => some (.brk s')
    | .ret r => some (.ret r)
/-- a loop that is left by its end alone -/
def foldO {α τ : Type} (f : α → τ → Option τ) : List α → τ → Option τ
  | [], s => some s
  | x :: xs, s => (f x s).bind fun s' => foldO f xs s'
def loopW {τ ρ : Type} (f : τ → Option (Lp τ ρ)) : Nat → τ → Option (Lp τ ρ)
  | 0, _ => none
  | n + 1, s => (f s).bind fun o => match o with
    | .nxt s' => loopW f n s'
    | .brk s' => some (.brk s')
    | .ret r => some (.ret r)
/-- a while without a break or a return -/
def whileO {τ : Type} (c : τ → Bool) (f : τ → Option τ) : Nat → τ → Option τ
  | 0, _ => none
  | n + 1, s => if c s = true then (f s).bind fun s' => whileO c f n s' else some s
def rangeL (lo : Int) (n : Nat) : List Int := (List.range n).map fun (k : Nat) => lo + (k : Int)

/-- what a loop told -/
def Lp.out {τ ρ ρ' : Type} (o : Lp τ ρ) (j : ρ → Option ρ') (k : τ → Option ρ') : Option ρ' := match o with
  | .nxt s => k s
  | .brk s => k s
  | .ret r => j r
/-- the rest of a loop, of a comprehension, by name -/
def KForL (K : PySem.W.Frag) (g : TG) (tb : TS) (D : Ends) (σ : L2.St) (v : V) (H : Hp) : Prop := ∃ a, v = V.ref a ∧ (∃ xs, SqL K H a xs) ∧ ∃ W : Nat → Nat → L2.St → Hp → Prop, (∃ m, W 0 m σ H) ∧ ∀ i m σ H, W i m σ H →
      ((Itl K a).stop i H ∧ D.nx σ H) ∨ ((Itl K a).go i H ∧ ∃ N : L2.St → Hp → Prop, (∀ σ' H', N σ' H' → ∃ m', m' < m ∧ W (i + 1) m' σ' H') ∧ ∀ x H', (Itl K a).yld i H x H' → g x σ H' fun σ2 H2 => tb { D with nx := N, ct := N, bk := D.nx } σ2 H2)
def KForT (K : PySem.W.Frag) (g : TG) (tb : TS) (D : Ends) (σ : L2.St) (v : V) (H : Hp) : Prop := ∃ a, v = V.ref a ∧ (∃ xs, SqT K H a xs) ∧ ∃ W : Nat → Nat → L2.St → Hp → Prop, (∃ m, W 0 m σ H) ∧ ∀ i m σ H, W i m σ H →
      ((Itt K a).stop i H ∧ D.nx σ H) ∨ ((Itt K a).go i H ∧ ∃ N : L2.St → Hp → Prop, (∀ σ' H', N σ' H' → ∃ m', m' < m ∧ W (i + 1) m' σ' H') ∧ ∀ x H', (Itt K a).yld i H x H' → g x σ H' fun σ2 H2 => tb { D with nx := N, ct := N, bk := D.nx } σ2 H2)
def KForR (lo : Int) (n : Nat) (g : TG) (tb : TS) (D : Ends) (σ : L2.St) (H : Hp) : Prop := ∃ W : Nat → Nat → L2.St → Hp → Prop, (∃ m, W 0 m σ H) ∧ ∀ i m σ H, W i m σ H →
      ((Itr lo n).stop i H ∧ D.nx σ H) ∨ ((Itr lo n).go i H ∧ ∃ N : L2.St → Hp → Prop, (∀ σ' H', N σ' H' → ∃ m', m' < m ∧ W (i + 1) m' σ' H') ∧ ∀ x H', (Itr lo n).yld i H x H' → g x σ H' fun σ2 H2 => tb { D with nx := N, ct := N, bk := D.nx } σ2 H2)
def KWh (tb : TS) (D : Ends) (σ : L2.St) : Bool → Hp → Prop := fun b H => if b = true then tb D σ H else D.bk σ H
def KRng1 (R : Int → Nat → Hp → Prop) : List V → Hp → Prop := fun vs H => ∃ j : Int, vs = [.int j] ∧ -(2 ^ 62) ≤ j ∧ j < 2 ^ 62 ∧ R 0 j.toNat H
def KRng2 (R : Int → Nat → Hp → Prop) : List V → Hp → Prop := fun vs H => ∃ i j : Int, vs = [.int i, .int j] ∧ (-(2 ^ 62) ≤ i ∧ i < 2 ^ 62 ∧ -(2 ^ 62) ≤ j ∧ j < 2 ^ 62) ∧ R i (j - i).toNat H
theorem x_whIf {tb : TS} {nx bk ct : L2.St → Hp → Prop} {rt : VK} {σ : L2.St} {H : Hp} {ρ : Type} {c : Bool} {mA mB : Option ρ} {r : ρ} (hm : (if c = true then mA else mB) = some r) (hA : mA = some r → tb ⟨nx, rt, bk, ct⟩ σ H) (hB : mB = some r → bk σ H) : KWh tb ⟨nx, rt, bk, ct⟩ σ c H := by
  cases c with
  | true => exact hA hm
  | false => exact hB hm
section
variable {C : Cn} {X : Addr → Prop} {H : Hp} {σ : L2.St} {Γ Γ' : List Sl} {Q : VK} {α β τ ρ : Type}
theorem loop_drop {f : α → τ → Option (Lp τ ρ)} {xs : List α} {i : Nat} {x : α} {s : τ} {o : Lp τ ρ} (hx : xs[i]? = some x) (h : loopL f (xs.drop i) s = some o) :
    ∃ o1, f x s = some o1 ∧ (∀ s', o1 = .nxt s' → loopL f (xs.drop (i + 1)) s' = some o) ∧ (∀ s', o1 = .brk s' → o = .brk s') ∧ (∀ r, o1 = .ret r → o = .ret r) := by
  obtain ⟨hl, hx⟩ := List.getElem?_eq_some_iff.mp hx
  rw [List.drop_eq_getElem_cons hl, hx] at h
  obtain ⟨o1, h1, h2⟩ := ob h
  refine ⟨o1, h1, fun s' e => ?_, fun s' e => ?_, fun r e => ?_⟩
  · subst e; exact h2
  · subst e; exact (Option.some.inj h2).symm
  · subst e; exact (Option.some.inj h2).symm
/-- what a loop's body shows of one turn -/
def Body (C : Cn) (X : Addr → Prop) (G : τ → List Sl) (ps : ρ → List (Addr × MO)) (rs : ρ → Rs) (d : PyData) (s : τ) (o : Option (Lp τ ρ)) (g : TG) (tb : TS) : Prop :=
  ∀ (H : Hp) (σ : L2.St) (u : V) (nx : L2.St → Hp → Prop) (rt : VK) (bk ct : L2.St → Hp → Prop) (o1 : Lp τ ρ), o = some o1 → Lo ⟨C.K, X, H, muts (G s), C.n⟩ X H σ (G s) → Rep C.K X H d u →
    (∀ s', o1 = .nxt s' → ∀ X' σ' H', Lo ⟨C.K, X, H, muts (G s), C.n⟩ X' H' σ' (G s') → nx σ' H') →
    (∀ s', o1 = .nxt s' → ∀ X' σ' H', Lo ⟨C.K, X, H, muts (G s), C.n⟩ X' H' σ' (G s') → ct σ' H') →
    (∀ s', o1 = .brk s' → ∀ X' σ' H', Lo ⟨C.K, X, H, muts (G s), C.n⟩ X' H' σ' (G s') → bk σ' H') →
    (∀ r, o1 = .ret r → ∀ v H', Fin C.K X H (muts (G s)) (ps r) (rs r) v H' → rt v H') → g u σ H fun σ2 H2 => tb ⟨nx, rt, bk, ct⟩ σ2 H2
theorem x_for [Py α] {xs : List α} {f : α → τ → Option (Lp τ ρ)} {G : τ → List Sl} {ps : ρ → List (Addr × MO)} {rs : ρ → Rs} {s0 : τ} {o : Lp τ ρ} {v : V} {g : TG} {tb : TS} {nx bk ct : L2.St → Hp → Prop} {rt : VK}
    (L : Lo C X H σ (G s0)) (hG : ∀ s s', muts (G s) = muts (G s')) (r : Rep C.K X H (enc xs) v) (hm : loopL f xs s0 = some o)
    (body : ∀ x s, Body C X G ps rs (enc x) s (f x s) g tb)
    (done : ∀ s, o = .nxt s → ∀ σ' H', Lo C X H' σ' (G s) → nx σ' H') (brk : ∀ s, o = .brk s → ∀ σ' H', Lo C X H' σ' (G s) → nx σ' H')
    (ret : ∀ q, o = .ret q → ∀ v H', Fin C.K C.X0 C.H0 C.P0 (ps q) (rs q) v H' → rt v H') :
    KForL C.K g tb ⟨nx, rt, bk, ct⟩ σ v H := by
  obtain ⟨a, vs, rfl, hna, hrd, hrs⟩ := rep_lst (ds := xs.map enc) r
  refine ⟨a, rfl, ⟨vs, .inl hrd⟩, for_list (K := C.K) (a := a) (xs := vs) (fun i σ' H' => ∃ s, Lo C X H' σ' (G s) ∧ Rep C.K X H' (enc xs) (.ref a) ∧ Rd H' a (.lst vs) ∧ loopL f (xs.drop i) s = some o)
    ⟨s0, L, r, hrd, hm⟩ (fun i σ' H' _ ⟨s, _, _, h, _⟩ => .inl h) ?_ ?_⟩
  · rintro i y σ' H' hy ⟨s, L', r', hd', hm'⟩
    obtain ⟨a', vs', e', _, hrd', hrs'⟩ := rep_lst (ds := xs.map enc) r'
    cases e'
    have ev : vs' = vs := by
      rcases hd' with h1 | ⟨_, h1⟩ <;> rcases hrd' with h2 | ⟨_, h2⟩ <;> rw [h1] at h2 <;> cases h2 <;> rfl
    subst ev
    obtain ⟨d, hd, rd⟩ := hrs'.get' hy
    rw [List.getElem?_map] at hd
    cases hx : xs[i]? with
    | none => rw [hx] at hd; cases hd
    | some x =>
      rw [hx] at hd
      cases hd
      obtain ⟨o1, h1, h2, h3, h4⟩ := loop_drop hx hm'
      refine body x s H' σ' y _ _ _ _ o1 h1 L'.enter rd ?_ ?_ ?_ ?_
      · intro s' e X' σ'' H'' L''
        have k := L'.keep L''
        exact ⟨s', L'.leave L'' (hG _ _), r'.keep k, k.rd hna hrd', h2 s' e⟩
      · intro s' e X' σ'' H'' L''
        have k := L'.keep L''
        exact ⟨s', L'.leave L'' (hG _ _), r'.keep k, k.rd hna hrd', h2 s' e⟩
      · intro s' e X' σ'' H'' L''
        exact brk s' (h3 s' e) _ _ (L'.leave L'' (hG _ _))
      · intro q e v' H'' F
        exact ret q (h4 q e) v' H'' (F.leave L')
  · rintro σ' H' ⟨s, L', _, _, hm'⟩
    rw [hrs.length, List.length_map, List.drop_length] at hm'
    exact done s (Option.some.inj hm').symm _ _ L'
/-- .. over a tuple of such items -/
theorem x_forT [Py α] {xs : List α} {f : α → τ → Option (Lp τ ρ)} {G : τ → List Sl} {ps : ρ → List (Addr × MO)} {rs : ρ → Rs} {s0 : τ} {o : Lp τ ρ} {v : V} {g : TG} {tb : TS} {nx bk ct : L2.St → Hp → Prop} {rt : VK}
    (L : Lo C X H σ (G s0)) (hG : ∀ s s', muts (G s) = muts (G s')) (r : Rep C.K X H (.tuple (xs.map enc)) v) (hm : loopL f xs s0 = some o)
    (body : ∀ x s, Body C X G ps rs (enc x) s (f x s) g tb)
    (done : ∀ s, o = .nxt s → ∀ σ' H', Lo C X H' σ' (G s) → nx σ' H') (brk : ∀ s, o = .brk s → ∀ σ' H', Lo C X H' σ' (G s) → nx σ' H')
    (ret : ∀ q, o = .ret q → ∀ v H', Fin C.K C.X0 C.H0 C.P0 (ps q) (rs q) v H' → rt v H') :
    KForT C.K g tb ⟨nx, rt, bk, ct⟩ σ v H := by
  obtain ⟨a, vs, rfl, hrd, hrs⟩ := rep_tup r
  refine ⟨a, rfl, ⟨vs, hrd⟩, for_tup (K := C.K) (a := a) (xs := vs) (fun i σ' H' => ∃ s, Lo C X H' σ' (G s) ∧ SqT C.K H' a vs ∧ Reps C.K X H' (xs.map enc) vs ∧ loopL f (xs.drop i) s = some o)
    ⟨s0, L, hrd, hrs, hm⟩ (fun i σ' H' _ ⟨s, _, h, _⟩ => h) ?_ ?_⟩
  · rintro i y σ' H' hy ⟨s, L', hrd', hrs', hm'⟩
    obtain ⟨d, hd, rd⟩ := hrs'.get' hy
    rw [List.getElem?_map] at hd
    cases hx : xs[i]? with
    | none => rw [hx] at hd; cases hd
    | some x =>
      rw [hx] at hd
      cases hd
      obtain ⟨o1, h1, h2, h3, h4⟩ := loop_drop hx hm'
      refine body x s H' σ' y _ _ _ _ o1 h1 L'.enter rd ?_ ?_ ?_ ?_
      · intro s' e X' σ'' H'' L''
        have k := L'.keep L''
        exact ⟨s', L'.leave L'' (hG _ _), k.sqT hrd', hrs'.keep k, h2 s' e⟩
      · intro s' e X' σ'' H'' L''
        have k := L'.keep L''
        exact ⟨s', L'.leave L'' (hG _ _), k.sqT hrd', hrs'.keep k, h2 s' e⟩
      · intro s' e X' σ'' H'' L''
        exact brk s' (h3 s' e) _ _ (L'.leave L'' (hG _ _))
      · intro q e v' H'' F
        exact ret q (h4 q e) v' H'' (F.leave L')
  · rintro σ' H' ⟨s, L', _, _, hm'⟩
    rw [hrs.length, List.length_map, List.drop_length] at hm'
    exact done s (Option.some.inj hm').symm _ _ L'
theorem rangeL_get {lo : Int} {n i : Nat} (h : i < n) : (rangeL lo n)[i]? = some (lo + (i : Int)) := by
  unfold rangeL
  rw [List.getElem?_map, List.getElem?_range h]
  rfl
/-- .. over a range -/
theorem x_forR {f : Int → τ → Option (Lp τ ρ)} {G : τ → List Sl} {ps : ρ → List (Addr × MO)} {rs : ρ → Rs} {s0 : τ} {o : Lp τ ρ} {lo : Int} {n : Nat} {g : TG} {tb : TS} {nx bk ct : L2.St → Hp → Prop} {rt : VK}
    (L : Lo C X H σ (G s0)) (hG : ∀ s s', muts (G s) = muts (G s')) (hm : loopL f (rangeL lo n) s0 = some o)
    (body : ∀ x s, Body C X G ps rs (enc x) s (f x s) g tb)
    (done : ∀ s, o = .nxt s → ∀ σ' H', Lo C X H' σ' (G s) → nx σ' H') (brk : ∀ s, o = .brk s → ∀ σ' H', Lo C X H' σ' (G s) → nx σ' H')
    (ret : ∀ q, o = .ret q → ∀ v H', Fin C.K C.X0 C.H0 C.P0 (ps q) (rs q) v H' → rt v H') :
    KForR lo n g tb ⟨nx, rt, bk, ct⟩ σ H := by
  refine for_range (fun i σ' H' => ∃ s, Lo C X H' σ' (G s) ∧ loopL f ((rangeL lo n).drop i) s = some o) ⟨s0, L, hm⟩ ?_ ?_
  · rintro i σ' H' hi ⟨s, L', hm'⟩
    obtain ⟨o1, h1, h2, h3, h4⟩ := loop_drop (rangeL_get hi) hm'
    refine body (lo + (i : Int)) s H' σ' _ _ _ _ _ o1 h1 L'.enter (.int _) ?_ ?_ ?_ ?_
    · intro s' e X' σ'' H'' L''
      exact ⟨s', L'.leave L'' (hG _ _), h2 s' e⟩
    · intro s' e X' σ'' H'' L''
      exact ⟨s', L'.leave L'' (hG _ _), h2 s' e⟩
    · intro s' e X' σ'' H'' L''
      exact brk s' (h3 s' e) _ _ (L'.leave L'' (hG _ _))
    · intro q e v' H'' F
      exact ret q (h4 q e) v' H'' (F.leave L')
  · rintro σ' H' ⟨s, L', hm'⟩
    have hl : (rangeL lo n).length = n := by unfold rangeL; rw [List.length_map, List.length_range]
    have : (rangeL lo n).drop n = [] := List.drop_eq_nil_of_le (by omega)
    rw [this] at hm'
    exact done s (Option.some.inj hm').symm _ _ L'
/-- .. over the script -/
theorem x_forS {xs : List Int} {f : Int → τ → Option (Lp τ ρ)} {G : τ → List Sl} {ps : ρ → List (Addr × MO)} {rs : ρ → Rs} {s0 : τ} {o : Lp τ ρ} {v : V} {g : TG} {tb : TS} {nx bk ct : L2.St → Hp → Prop} {rt : VK}
    (L : Lo C X H σ (G s0)) (hG : ∀ s s', muts (G s) = muts (G s')) (r : SqX C.K X H xs v) (hm : loopL f xs s0 = some o)
    (body : ∀ x s, Body C X G ps rs (enc x) s (f x s) g tb)
    (done : ∀ s, o = .nxt s → ∀ σ' H', Lo C X H' σ' (G s) → nx σ' H') (brk : ∀ s, o = .brk s → ∀ σ' H', Lo C X H' σ' (G s) → nx σ' H')
    (ret : ∀ q, o = .ret q → ∀ v H', Fin C.K C.X0 C.H0 C.P0 (ps q) (rs q) v H' → rt v H') :
    KForL C.K g tb ⟨nx, rt, bk, ct⟩ σ v H := by
  obtain ⟨a, rfl, hs⟩ := r.sq
  refine ⟨a, rfl, ⟨_, hs⟩, for_list (K := C.K) (a := a) (xs := xs.map V.int) (fun i σ' H' => ∃ s, Lo C X H' σ' (G s) ∧ SqX C.K X H' xs (.ref a) ∧ loopL f (xs.drop i) s = some o)
    ⟨s0, L, r, hm⟩ (fun i σ' H' _ ⟨s, _, h, _⟩ => by obtain ⟨a', e, h⟩ := h.sq; cases e; exact h) ?_ ?_⟩
  · rintro i y σ' H' hy ⟨s, L', r', hm'⟩
    rw [List.getElem?_map] at hy
    cases hx : xs[i]? with
    | none => rw [hx] at hy; cases hy
    | some x =>
      rw [hx] at hy
      cases hy
      obtain ⟨o1, h1, h2, h3, h4⟩ := loop_drop hx hm'
      refine body x s H' σ' _ _ _ _ _ o1 h1 L'.enter (.int _) ?_ ?_ ?_ ?_
      · intro s' e X' σ'' H'' L''
        exact ⟨s', L'.leave L'' (hG _ _), r'.keep (L'.keep L''), h2 s' e⟩
      · intro s' e X' σ'' H'' L''
        exact ⟨s', L'.leave L'' (hG _ _), r'.keep (L'.keep L''), h2 s' e⟩
      · intro s' e X' σ'' H'' L''
        exact brk s' (h3 s' e) _ _ (L'.leave L'' (hG _ _))
      · intro q e v' H'' F
        exact ret q (h4 q e) v' H'' (F.leave L')
  · rintro σ' H' ⟨s, L', _, hm'⟩
    rw [List.length_map, List.drop_length] at hm'
    exact done s (Option.some.inj hm').symm _ _ L'
/-- a while: f runs the test, too, and tells brk where it is not so -/
theorem x_while {f : τ → Option (Lp τ ρ)} {G : τ → List Sl} {ps : ρ → List (Addr × MO)} {rs : ρ → Rs} {s0 : τ} {o : Lp τ ρ} {n : Nat} {c : TT} {tb : TS} {nx bk ct : L2.St → Hp → Prop} {rt : VK}
    (L : Lo C X H σ (G s0)) (hG : ∀ s s', muts (G s) = muts (G s')) (hm : loopW f n s0 = some o)
    (body : ∀ s, ∀ (H : Hp) (σ : L2.St) (nx : L2.St → Hp → Prop) (rt : VK) (bk ct : L2.St → Hp → Prop) (o1 : Lp τ ρ), f s = some o1 → Lo ⟨C.K, X, H, muts (G s), C.n⟩ X H σ (G s) →
      (∀ s', o1 = .nxt s' → ∀ X' σ' H', Lo ⟨C.K, X, H, muts (G s), C.n⟩ X' H' σ' (G s') → nx σ' H') →
      (∀ s', o1 = .nxt s' → ∀ X' σ' H', Lo ⟨C.K, X, H, muts (G s), C.n⟩ X' H' σ' (G s') → ct σ' H') →
      (∀ s', o1 = .brk s' → ∀ X' σ' H', Lo ⟨C.K, X, H, muts (G s), C.n⟩ X' H' σ' (G s') → bk σ' H') →
      (∀ r, o1 = .ret r → ∀ v H', Fin C.K X H (muts (G s)) (ps r) (rs r) v H' → rt v H') →
      ∀ Qc : Bool → Hp → Prop, (∀ b H1, KWh tb ⟨nx, rt, bk, ct⟩ σ b H1 → Qc b H1) → c σ H Qc)
    (done : ∀ s, o = .brk s → ∀ σ' H', Lo C X H' σ' (G s) → nx σ' H')
    (ret : ∀ q, o = .ret q → ∀ v H', Fin C.K C.X0 C.H0 C.P0 (ps q) (rs q) v H' → rt v H') : tWhile c tb ⟨nx, rt, bk, ct⟩ σ H := by
  refine ⟨fun m σ' H' => ∃ s, Lo C X H' σ' (G s) ∧ loopW f m s = some o, ⟨n, s0, L, hm⟩, ?_⟩
  rintro m σ' H' ⟨s, L', hm'⟩
  cases m with
  | zero => cases hm'
  | succ m =>
    obtain ⟨o1, h1, h2⟩ := ob hm'
    refine body s H' σ' (fun σ' H' => ∃ s, Lo C X H' σ' (G s) ∧ loopW f m s = some o) rt nx (fun σ' H' => ∃ s, Lo C X H' σ' (G s) ∧ loopW f m s = some o) o1 h1 L'.enter ?_ ?_ ?_ ?_ _ ?_
    · intro s' e X' σ'' H'' L''
      subst e
      exact ⟨s', L'.leave L'' (hG _ _), h2⟩
    · intro s' e X' σ'' H'' L''
      subst e
      exact ⟨s', L'.leave L'' (hG _ _), h2⟩
    · intro s' e X' σ'' H'' L''
      subst e
      exact done s' (Option.some.inj h2).symm _ _ (L'.leave L'' (hG _ _))
    · intro q e v' H'' F
      subst e
      exact ret q (Option.some.inj h2).symm v' H'' (F.leave L')
    · intro b H1 q
      cases b with
      | true => exact ⟨fun σ' H' => ∃ s, Lo C X H' σ' (G s) ∧ loopW f m s = some o, fun σ1 H1 ⟨s1, L1, h⟩ => ⟨m, Nat.lt_succ_self _, s1, L1, h⟩, q⟩
      | false => exact q


/-! ### loops, with what stands behind them -/
def BodyO (C : Cn) (X : Addr → Prop) (G : τ → List Sl) (d : PyData) (s : τ) (o : Option τ) (g : TG) (tb : TS) : Prop :=
  ∀ (H : Hp) (σ : L2.St) (u : V) (nx : L2.St → Hp → Prop) (rt : VK) (bk ct : L2.St → Hp → Prop) (s1 : τ), o = some s1 → Lo ⟨C.K, X, H, muts (G s), C.n⟩ X H σ (G s) → Rep C.K X H d u →
    (∀ X' σ' H', Lo ⟨C.K, X, H, muts (G s), C.n⟩ X' H' σ' (G s1) → nx σ' H') →
    (∀ X' σ' H', Lo ⟨C.K, X, H, muts (G s), C.n⟩ X' H' σ' (G s1) → ct σ' H') → g u σ H fun σ2 H2 => tb ⟨nx, rt, bk, ct⟩ σ2 H2
theorem foldO_loop {f : α → τ → Option τ} : ∀ {xs : List α} {s s' : τ}, foldO f xs s = some s' → loopL (ρ := Empty) (fun x s => (f x s).bind fun s => some (.nxt s)) xs s = some (.nxt s')
  | [], s, s', h => by cases h; rfl
  | x :: xs, s, s', h => by
    obtain ⟨t, h1, h2⟩ := ob h
    show ((f x s).bind fun s => some (Lp.nxt (ρ := Empty) s)).bind _ = _
    rw [h1]
    exact foldO_loop h2
theorem BodyO.body {G : τ → List Sl} {d : PyData} {s : τ} {o : Option τ} {g : TG} {tb : TS} (b : BodyO C X G d s o g tb) : Body (ρ := Empty) C X G (fun _ => []) (fun _ => .imm .none) d s (o.bind fun s => some (.nxt s)) g tb := by
  intro H σ u nx rt bk ct o1 hm L r hN hC hB hR
  obtain ⟨s1, h1, h2⟩ := ob hm
  cases h2
  exact b H σ u nx rt bk ct s1 h1 L r (hN s1 rfl) (hC s1 rfl)
theorem x_foL [Py α] {xs : List α} {f : α → τ → Option τ} {G : τ → List Sl} {s0 : τ} {v : V} {g : TG} {tb : TS} {nx bk ct : L2.St → Hp → Prop} {rt : VK} {k : τ → Option ρ} {res : ρ}
    (L : Lo C X H σ (G s0)) (hG : ∀ s s', muts (G s) = muts (G s')) (r : Rep C.K X H (enc xs) v) (hm : (foldO f xs s0).bind k = some res)
    (body : ∀ x s, BodyO C X G (enc x) s (f x s) g tb) (done : ∀ s σ' H', k s = some res → Lo C X H' σ' (G s) → nx σ' H') : KForL C.K g tb ⟨nx, rt, bk, ct⟩ σ v H := by
  obtain ⟨s1, h1, h2⟩ := ob hm
  exact x_for (ρ := Empty) (o := .nxt s1) (ps := fun _ => []) (rs := fun _ => .imm .none) L hG r (foldO_loop h1) (fun x s => (body x s).body) (fun s e σ' H' L' => by cases e; exact done _ _ _ h2 L') (fun s e => nomatch e) (fun q => nomatch q)
theorem x_flL [Py α] {xs : List α} {f : α → τ → Option (Lp τ ρ)} {G : τ → List Sl} {ps : ρ → List (Addr × MO)} {rs : ρ → Rs} {s0 : τ} {v : V} {g : TG} {tb : TS} {nx bk ct : L2.St → Hp → Prop} {rt : VK} {k : τ → Option β} {j : ρ → Option β} {res : β}
    (L : Lo C X H σ (G s0)) (hG : ∀ s s', muts (G s) = muts (G s')) (r : Rep C.K X H (enc xs) v) (hm : (loopL f xs s0).bind (fun o => o.out j k) = some res)
    (body : ∀ x s, Body C X G ps rs (enc x) s (f x s) g tb) (done : ∀ s σ' H', k s = some res → Lo C X H' σ' (G s) → nx σ' H')
    (ret : ∀ q v H', j q = some res → Fin C.K C.X0 C.H0 C.P0 (ps q) (rs q) v H' → rt v H') : KForL C.K g tb ⟨nx, rt, bk, ct⟩ σ v H := by
  obtain ⟨o, h1, h2⟩ := ob hm
  exact x_for L hG r h1 body (fun s e σ' H' L' => done _ _ _ (by rw [e] at h2; exact h2) L') (fun s e σ' H' L' => done _ _ _ (by rw [e] at h2; exact h2) L') (fun q e v H' F => ret _ _ _ (by rw [e] at h2; exact h2) F)
theorem x_foT [Py α] {xs : List α} {f : α → τ → Option τ} {G : τ → List Sl} {s0 : τ} {v : V} {g : TG} {tb : TS} {nx bk ct : L2.St → Hp → Prop} {rt : VK} {k : τ → Option ρ} {res : ρ}
    (L : Lo C X H σ (G s0)) (hG : ∀ s s', muts (G s) = muts (G s')) (r : Rep C.K X H (.tuple (xs.map enc)) v) (hm : (foldO f xs s0).bind k = some res)
    (body : ∀ x s, BodyO C X G (enc x) s (f x s) g tb) (done : ∀ s σ' H', k s = some res → Lo C X H' σ' (G s) → nx σ' H') : KForT C.K g tb ⟨nx, rt, bk, ct⟩ σ v H := by
  obtain ⟨s1, h1, h2⟩ := ob hm
  exact x_forT (ρ := Empty) (o := .nxt s1) (ps := fun _ => []) (rs := fun _ => .imm .none) L hG r (foldO_loop h1) (fun x s => (body x s).body) (fun s e σ' H' L' => by cases e; exact done _ _ _ h2 L') (fun s e => nomatch e) (fun q => nomatch q)
theorem x_flT [Py α] {xs : List α} {f : α → τ → Option (Lp τ ρ)} {G : τ → List Sl} {ps : ρ → List (Addr × MO)} {rs : ρ → Rs} {s0 : τ} {v : V} {g : TG} {tb : TS} {nx bk ct : L2.St → Hp → Prop} {rt : VK} {k : τ → Option β} {j : ρ → Option β} {res : β}
    (L : Lo C X H σ (G s0)) (hG : ∀ s s', muts (G s) = muts (G s')) (r : Rep C.K X H (.tuple (xs.map enc)) v) (hm : (loopL f xs s0).bind (fun o => o.out j k) = some res)
    (body : ∀ x s, Body C X G ps rs (enc x) s (f x s) g tb) (done : ∀ s σ' H', k s = some res → Lo C X H' σ' (G s) → nx σ' H')
    (ret : ∀ q v H', j q = some res → Fin C.K C.X0 C.H0 C.P0 (ps q) (rs q) v H' → rt v H') : KForT C.K g tb ⟨nx, rt, bk, ct⟩ σ v H := by
  obtain ⟨o, h1, h2⟩ := ob hm
  exact x_forT L hG r h1 body (fun s e σ' H' L' => done _ _ _ (by rw [e] at h2; exact h2) L') (fun s e σ' H' L' => done _ _ _ (by rw [e] at h2; exact h2) L') (fun q e v H' F => ret _ _ _ (by rw [e] at h2; exact h2) F)
theorem x_foS {xs : List Int} {f : Int → τ → Option τ} {G : τ → List Sl} {s0 : τ} {v : V} {g : TG} {tb : TS} {nx bk ct : L2.St → Hp → Prop} {rt : VK} {k : τ → Option ρ} {res : ρ}
    (L : Lo C X H σ (G s0)) (hG : ∀ s s', muts (G s) = muts (G s')) (r : SqX C.K X H xs v) (hm : (foldO f xs s0).bind k = some res)
    (body : ∀ x s, BodyO C X G (enc x) s (f x s) g tb) (done : ∀ s σ' H', k s = some res → Lo C X H' σ' (G s) → nx σ' H') : KForL C.K g tb ⟨nx, rt, bk, ct⟩ σ v H := by
  obtain ⟨s1, h1, h2⟩ := ob hm
  exact x_forS (ρ := Empty) (o := .nxt s1) (ps := fun _ => []) (rs := fun _ => .imm .none) L hG r (foldO_loop h1) (fun x s => (body x s).body) (fun s e σ' H' L' => by cases e; exact done _ _ _ h2 L') (fun s e => nomatch e) (fun q => nomatch q)
theorem x_flS {xs : List Int} {f : Int → τ → Option (Lp τ ρ)} {G : τ → List Sl} {ps : ρ → List (Addr × MO)} {rs : ρ → Rs} {s0 : τ} {v : V} {g : TG} {tb : TS} {nx bk ct : L2.St → Hp → Prop} {rt : VK} {k : τ → Option β} {j : ρ → Option β} {res : β}
    (L : Lo C X H σ (G s0)) (hG : ∀ s s', muts (G s) = muts (G s')) (r : SqX C.K X H xs v) (hm : (loopL f xs s0).bind (fun o => o.out j k) = some res)
    (body : ∀ x s, Body C X G ps rs (enc x) s (f x s) g tb) (done : ∀ s σ' H', k s = some res → Lo C X H' σ' (G s) → nx σ' H')
    (ret : ∀ q v H', j q = some res → Fin C.K C.X0 C.H0 C.P0 (ps q) (rs q) v H' → rt v H') : KForL C.K g tb ⟨nx, rt, bk, ct⟩ σ v H := by
  obtain ⟨o, h1, h2⟩ := ob hm
  exact x_forS L hG r h1 body (fun s e σ' H' L' => done _ _ _ (by rw [e] at h2; exact h2) L') (fun s e σ' H' L' => done _ _ _ (by rw [e] at h2; exact h2) L') (fun q e v H' F => ret _ _ _ (by rw [e] at h2; exact h2) F)
theorem x_foR {f : Int → τ → Option τ} {G : τ → List Sl} {s0 : τ} {lo : Int} {n : Nat} {g : TG} {tb : TS} {nx bk ct : L2.St → Hp → Prop} {rt : VK} {k : τ → Option ρ} {res : ρ}
    (L : Lo C X H σ (G s0)) (hG : ∀ s s', muts (G s) = muts (G s')) (hm : (foldO f (rangeL lo n) s0).bind k = some res)
    (body : ∀ x s, BodyO C X G (enc x) s (f x s) g tb) (done : ∀ s σ' H', k s = some res → Lo C X H' σ' (G s) → nx σ' H') : KForR lo n g tb ⟨nx, rt, bk, ct⟩ σ H := by
  obtain ⟨s1, h1, h2⟩ := ob hm
  exact x_forR (ρ := Empty) (o := .nxt s1) (ps := fun _ => []) (rs := fun _ => .imm .none) L hG (foldO_loop h1) (fun x s => (body x s).body) (fun s e σ' H' L' => by cases e; exact done _ _ _ h2 L') (fun s e => nomatch e) (fun q => nomatch q)
theorem x_flR {f : Int → τ → Option (Lp τ ρ)} {G : τ → List Sl} {ps : ρ → List (Addr × MO)} {rs : ρ → Rs} {s0 : τ} {lo : Int} {n : Nat} {g : TG} {tb : TS} {nx bk ct : L2.St → Hp → Prop} {rt : VK} {k : τ → Option β} {j : ρ → Option β} {res : β}
    (L : Lo C X H σ (G s0)) (hG : ∀ s s', muts (G s) = muts (G s')) (hm : (loopL f (rangeL lo n) s0).bind (fun o => o.out j k) = some res)
    (body : ∀ x s, Body C X G ps rs (enc x) s (f x s) g tb) (done : ∀ s σ' H', k s = some res → Lo C X H' σ' (G s) → nx σ' H')
    (ret : ∀ q v H', j q = some res → Fin C.K C.X0 C.H0 C.P0 (ps q) (rs q) v H' → rt v H') : KForR lo n g tb ⟨nx, rt, bk, ct⟩ σ H := by
  obtain ⟨o, h1, h2⟩ := ob hm
  exact x_forR L hG h1 body (fun s e σ' H' L' => done _ _ _ (by rw [e] at h2; exact h2) L') (fun s e σ' H' L' => done _ _ _ (by rw [e] at h2; exact h2) L') (fun q e v H' F => ret _ _ _ (by rw [e] at h2; exact h2) F)
def BodyW (C : Cn) (X : Addr → Prop) (G : τ → List Sl) (ps : ρ → List (Addr × MO)) (rs : ρ → Rs) (s : τ) (o : Option (Lp τ ρ)) (c : TT) (tb : TS) : Prop :=
  ∀ (H : Hp) (σ : L2.St) (nx : L2.St → Hp → Prop) (rt : VK) (bk ct : L2.St → Hp → Prop) (o1 : Lp τ ρ), o = some o1 → Lo ⟨C.K, X, H, muts (G s), C.n⟩ X H σ (G s) →
    (∀ s', o1 = .nxt s' → ∀ X' σ' H', Lo ⟨C.K, X, H, muts (G s), C.n⟩ X' H' σ' (G s') → nx σ' H') →
    (∀ s', o1 = .nxt s' → ∀ X' σ' H', Lo ⟨C.K, X, H, muts (G s), C.n⟩ X' H' σ' (G s') → ct σ' H') →
    (∀ s', o1 = .brk s' → ∀ X' σ' H', Lo ⟨C.K, X, H, muts (G s), C.n⟩ X' H' σ' (G s') → bk σ' H') →
    (∀ r, o1 = .ret r → ∀ v H', Fin C.K X H (muts (G s)) (ps r) (rs r) v H' → rt v H') →
    ∀ Qc : Bool → Hp → Prop, (∀ b H1, KWh tb ⟨nx, rt, bk, ct⟩ σ b H1 → Qc b H1) → c σ H Qc
theorem x_wh {f : τ → Option (Lp τ ρ)} {G : τ → List Sl} {ps : ρ → List (Addr × MO)} {rs : ρ → Rs} {s0 : τ} {n : Nat} {c : TT} {tb : TS} {nx bk ct : L2.St → Hp → Prop} {rt : VK} {k : τ → Option β} {j : ρ → Option β} {res : β}
    (L : Lo C X H σ (G s0)) (hG : ∀ s s', muts (G s) = muts (G s')) (hm : (loopW f n s0).bind (fun o => o.out j k) = some res)
    (body : ∀ s, BodyW C X G ps rs s (f s) c tb) (done : ∀ s σ' H', k s = some res → Lo C X H' σ' (G s) → nx σ' H')
    (ret : ∀ q v H', j q = some res → Fin C.K C.X0 C.H0 C.P0 (ps q) (rs q) v H' → rt v H') : tWhile c tb ⟨nx, rt, bk, ct⟩ σ H := by
  obtain ⟨o, h1, h2⟩ := ob hm
  refine x_while L hG h1 body (fun s e σ' H' L' => done _ _ _ (by rw [e] at h2; exact h2) L') (fun q e v H' F => ret _ _ _ (by rw [e] at h2; exact h2) F)
/-- the heads of loops -/
theorem x_tforL {te : TE} {g : TG} {tb : TS} {D : Ends} {K : PySem.W.Frag} (h : te σ H (KForL K g tb D σ)) : tFor (iList K te) g tb D σ H := h
theorem x_tforT {te : TE} {g : TG} {tb : TS} {D : Ends} {K : PySem.W.Frag} (h : te σ H (KForT K g tb D σ)) : tFor (iTup K te) g tb D σ H := h
theorem x_tforR1 {ta : TA} {g : TG} {tb : TS} {D : Ends} (h : ta σ H (KRng1 fun lo n H => KForR lo n g tb D σ H)) : tFor (iRng1 ta) g tb D σ H := h
theorem x_tforR2 {ta : TA} {g : TG} {tb : TS} {D : Ends} (h : ta σ H (KRng2 fun lo n H => KForR lo n g tb D σ H)) : tFor (iRng2 ta) g tb D σ H := h
def rngOk (j : Int) : Option Unit := if -(2 ^ 62) ≤ j ∧ j < 2 ^ 62 then some () else none
theorem rng_ok {j : Int} {k : Unit → Option ρ} {r : ρ} (hm : (rngOk j).bind k = some r) : (-(2 ^ 62) ≤ j ∧ j < 2 ^ 62) ∧ k () = some r := by
  obtain ⟨_, e, hk⟩ := ob hm
  unfold rngOk at e
  split at e
  · exact ⟨by assumption, hk⟩
  · cases e
theorem x_r1 {j : Int} {k : Unit → Option ρ} {r : ρ} {R : Int → Nat → Hp → Prop} (hm : (rngOk j).bind k = some r) (h : k () = some r → R 0 j.toNat H) : KRng1 R [.int j] H := by
  obtain ⟨⟨a, b⟩, hk⟩ := rng_ok hm
  exact ⟨j, rfl, a, b, h hk⟩
theorem x_r1c {j : Int} {n : Nat} {R : Int → Nat → Hp → Prop} (hj : (-(2 ^ 62) ≤ j ∧ j < 2 ^ 62) ∧ j.toNat = n) (h : R 0 n H) : KRng1 R [.int j] H := ⟨j, rfl, hj.1.1, hj.1.2, by rw [hj.2]; exact h⟩
theorem x_r2 {i j : Int} {k : Unit → Option ρ} {r : ρ} {R : Int → Nat → Hp → Prop} (hm : ((rngOk i).bind fun _ => rngOk j).bind k = some r) (h : k () = some r → R i (j - i).toNat H) : KRng2 R [.int i, .int j] H := by
  obtain ⟨u, e, hk⟩ := ob hm
  obtain ⟨⟨a, b⟩, e2⟩ := rng_ok e
  obtain ⟨⟨c, d⟩, _⟩ := rng_ok (k := fun _ => some ()) (r := ()) (by rw [e2]; rfl)
  exact ⟨i, j, rfl, ⟨a, b, c, d⟩, h hk⟩
/-! ### comprehensions -/
def compL {α β τ : Type} (f : α → τ → Option (Option β × τ)) : List α → τ → Option (List β × τ)
  | [], s => some ([], s)
  | x :: xs, s => (f x s).bind fun r => (compL f xs r.2).bind fun q => some ((match r.1 with | some y => y :: q.1 | none => q.1), q.2)
def mapO {α β : Type} (f : α → Option β) : List α → Option (List β)
  | [] => some []
  | x :: xs => (f x).bind fun y => (mapO f xs).bind fun ys => some (y :: ys)
def filO {α β : Type} (f : α → Option (Option β)) : List α → Option (List β)
  | [] => some []
  | x :: xs => (f x).bind fun y => (filO f xs).bind fun ys => some (match y with | some z => z :: ys | none => ys)
def mapS {α β τ : Type} (f : α → τ → Option (β × τ)) : List α → τ → Option (List β × τ)
  | [], s => some ([], s)
  | x :: xs, s => (f x s).bind fun r => (mapS f xs r.2).bind fun q => some (r.1 :: q.1, q.2)
theorem mapO_comp {f : α → Option β} : ∀ {xs : List α} {ys : List β}, mapO f xs = some ys → compL (τ := Unit) (fun x s => (f x).bind fun y => some (some y, s)) xs () = some (ys, ())
  | [], ys, h => by cases h; rfl
  | x :: xs, ys, h => by
    obtain ⟨y, h1, h⟩ := ob h
    obtain ⟨zs, h2, h⟩ := ob h
    cases h
    show ((f x).bind fun y => some (some y, ())).bind _ = _
    rw [h1]
    show (compL (τ := Unit) (fun x s => (f x).bind fun y => some (some y, s)) xs ()).bind _ = _
    rw [mapO_comp h2]
    rfl
theorem filO_comp {f : α → Option (Option β)} : ∀ {xs : List α} {ys : List β}, filO f xs = some ys → compL (τ := Unit) (fun x s => (f x).bind fun y => some (y, s)) xs () = some (ys, ())
  | [], ys, h => by cases h; rfl
  | x :: xs, ys, h => by
    obtain ⟨y, h1, h⟩ := ob h
    obtain ⟨zs, h2, h⟩ := ob h
    cases h
    show ((f x).bind fun y => some (y, ())).bind _ = _
    rw [h1]
    show (compL (τ := Unit) (fun x s => (f x).bind fun y => some (y, s)) xs ()).bind _ = _
    rw [filO_comp h2]
    cases y <;> rfl
theorem mapS_comp {f : α → τ → Option (β × τ)} : ∀ {xs : List α} {s : τ} {q : List β × τ}, mapS f xs s = some q → compL (fun x s => (f x s).bind fun y => some (some y.1, y.2)) xs s = some q
  | [], s, q, h => by cases h; rfl
  | x :: xs, s, q, h => by
    obtain ⟨y, h1, h⟩ := ob h
    obtain ⟨zs, h2, h⟩ := ob h
    cases h
    show ((f x s).bind fun y => some (some y.1, y.2)).bind _ = _
    rw [h1]
    show (compL (fun x s => (f x s).bind fun y => some (some y.1, y.2)) xs y.2).bind _ = _
    rw [mapS_comp h2]
    rfl
/-- what is known behind a block of its own names -/
def Bk : List Sl → List Sl → List Sl → Prop
  | [], _, [] => True
  | s :: Γ, s2 :: Γ2, s' :: Γ' => ((s' = s ∧ s.ad = none) ∨ (∃ p o o', s = .mu p o ∧ s2 = .mu p o' ∧ s' = .mu p o') ∨ (∃ p o o', s = .tmp p o ∧ s2 = .tmp p o' ∧ s' = .tmp p o')) ∧ Bk Γ Γ2 Γ'
  | _, _, _ => False
theorem Bk.e {Γ2 : List Sl} : Bk [] Γ2 [] := trivial
theorem Bk.i {s s2 : Sl} {Γ Γ2 Γ' : List Sl} (e : s.ad = none) (h : Bk Γ Γ2 Γ') : Bk (s :: Γ) (s2 :: Γ2) (s :: Γ') := ⟨.inl ⟨rfl, e⟩, h⟩
theorem Bk.m {p : Addr} {o o' : MO} {Γ Γ2 Γ' : List Sl} (h : Bk Γ Γ2 Γ') : Bk (.mu p o :: Γ) (.mu p o' :: Γ2) (.mu p o' :: Γ') := ⟨.inr (.inl ⟨p, o, o', rfl, rfl, rfl⟩), h⟩
theorem Bk.t {p : Addr} {o o' : MO} {Γ Γ2 Γ' : List Sl} (h : Bk Γ Γ2 Γ') : Bk (.tmp p o :: Γ) (.tmp p o' :: Γ2) (.tmp p o' :: Γ') := ⟨.inr (.inr ⟨p, o, o', rfl, rfl, rfl⟩), h⟩
theorem Bk.get : ∀ {Γ Γ2 Γ' : List Sl}, Bk Γ Γ2 Γ' → ∀ {i : Nat} {s' : Sl}, Γ'[i]? = some s' → (Γ[i]? = some s' ∧ s'.ad = none) ∨ (∃ p o o', Γ[i]? = some (.mu p o) ∧ Γ2[i]? = some (.mu p o') ∧ s' = .mu p o') ∨ (∃ p o o', Γ[i]? = some (.tmp p o) ∧ Γ2[i]? = some (.tmp p o') ∧ s' = .tmp p o')
  | [], _, [], _, _, _, e => by simp at e
  | [], _, _ :: _, h, _, _, _ => h.elim
  | s :: Γ, [], Γ', h, _, _, _ => by cases Γ' <;> exact h.elim
  | s :: Γ, s2 :: Γ2, [], h, _, _, _ => h.elim
  | s :: Γ, s2 :: Γ2, s0 :: Γ', ⟨h, t⟩, 0, s', e => by
    simp at e; subst e
    rcases h with ⟨h, h2⟩ | ⟨p, o, o', h1, h2, h3⟩ | ⟨p, o, o', h1, h2, h3⟩
    · subst h; exact .inl ⟨rfl, h2⟩
    · subst h1 h2 h3; exact .inr (.inl ⟨p, o, o', rfl, rfl, rfl⟩)
    · subst h1 h2 h3; exact .inr (.inr ⟨p, o, o', rfl, rfl, rfl⟩)
  | s :: Γ, s2 :: Γ2, s0 :: Γ', ⟨h, t⟩, i + 1, s', e => by
    have := Bk.get t (i := i) (s' := s') (by simpa using e)
    simpa using this
theorem Bk.muts : ∀ {Γ Γ2 Γ' : List Sl}, Bk Γ Γ2 Γ' → muts Γ' = muts Γ
  | [], _, [], _ => rfl
  | [], _, _ :: _, h => h.elim
  | s :: Γ, [], Γ', h => by cases Γ' <;> exact h.elim
  | s :: Γ, s2 :: Γ2, [], h => h.elim
  | s :: Γ, s2 :: Γ2, s0 :: Γ', ⟨h, t⟩ => by
    have ih := Bk.muts t
    unfold Sc.muts at ih ⊢
    rw [List.filterMap_cons, List.filterMap_cons, ih]
    have : s0.ad = s.ad := by
      rcases h with ⟨h, h2⟩ | ⟨p, o, o', h1, h2, h3⟩ | ⟨p, o, o', h1, h2, h3⟩
      · rw [h]
      · rw [h1, h3]; rfl
      · rw [h1, h3]; rfl
    rw [this]
theorem Lo.back {X' : Addr → Prop} {H' : Hp} {σ2 : L2.St} {Γ2 : List Sl} (L : Lo C X H σ Γ) (M : Lo (C.at_ X H Γ) X' H' σ2 Γ2) (b : Bk Γ Γ2 Γ') : Lo C X H' σ Γ' := by
  have sub : ∀ a, X a → X' a := M.m0
  have hm := b.muts
  refine ⟨L.len, fun i s hi => ?_, by rw [hm]; exact L.nd, fun p hp => L.mx p (hm ▸ hp), L.m0, fun a h => M.xd a (sub a h), fun a o e n => M.base a o (L.base a o e n) (L.nown e n), fun a h => M.dom a (L.dom a h), fun p hp => L.own p (hm ▸ hp), L.tf⟩
  rcases b.get hi with ⟨h1, h2⟩ | ⟨p, o, o', h1, h2, h3⟩ | ⟨p, o, o', h1, h2, h3⟩
  · exact (L.at_ i s h1).keep (L.keep M) fun p e => by rw [h2] at e; cases e
  · subst h3
    exact ⟨(L.at_ i _ h1).1, (M.at_ i _ h2).2.anti sub⟩
  · subst h3
    exact MRep.anti sub (M.at_ i _ h2)
theorem Lo.xanti {Y : Addr → Prop} (L : Lo C X H σ Γ) (h : ∀ a, Y a → X a) (hm : ∀ p ∈ muts Γ, Y p) (h0 : ∀ a, C.X0 a → Y a) : Lo C Y H σ Γ :=
  ⟨L.len, fun i s hi => (L.at_ i s hi).anti h, L.nd, hm, h0, fun a z => L.xd a (h a z), L.base, L.dom, L.own, L.tf⟩
/-- the object at p, of no slot, is written -/
theorem Lo.wroteX {p : Addr} {o o' : HO} (L : Lo C X H σ Γ) (hX : X p) (hn : p ∉ muts Γ) (h : H p = some o) (h0 : C.H0 p = none) (nt : ∀ vs, o ≠ .tup vs) (nf : ∀ u w, o ≠ .frz u w) :
    Lo C X (upd H p o') σ Γ ∧ Keep X H (upd H p o') := by
  have kp : Keep X H (upd H p o') := ⟨fun a u e n => by rw [upd_ne (fun z => n (by rw [z]; exact hX))]; exact e, fun a vs e => by rw [upd_ne (fun z => by rw [z, h] at e; exact nt vs (Option.some.inj e))]; exact e, fun a u w e => by rw [upd_ne (fun z => by rw [z, h] at e; exact nf u w (Option.some.inj e))]; exact e⟩
  have hd : ∀ a, H a ≠ none → upd H p o' a ≠ none := fun a e => by
    by_cases z : a = p
    · rw [z, upd_same]; exact fun y => nomatch y
    · rw [upd_ne z]; exact e
  refine ⟨⟨L.len, fun i s hi => (L.at_ i s hi).keep kp fun q e => upd_ne fun z => hn ?_, L.nd, L.mx, L.m0, fun a z => hd a (L.xd a z), fun a u e n => ?_, fun a e => hd a (L.dom a e), L.own, L.tf⟩, kp⟩
  · subst z; exact mem_muts.mpr ⟨i, s, hi, e⟩
  · rw [upd_ne fun z => by rw [z, h0] at e; cases e]
    exact L.base a u e n
theorem comp_drop {f : α → τ → Option (Option β × τ)} {xs : List α} {i : Nat} {x : α} {s : τ} {q : List β × τ} (hx : xs[i]? = some x) (h : compL f (xs.drop i) s = some q) :
    ∃ r q', f x s = some r ∧ compL f (xs.drop (i + 1)) r.2 = some q' ∧ q = ((match r.1 with | some y => y :: q'.1 | none => q'.1), q'.2) := by
  obtain ⟨hl, hx⟩ := List.getElem?_eq_some_iff.mp hx
  rw [List.drop_eq_getElem_cons hl, hx] at h
  obtain ⟨r, h1, h2⟩ := ob h
  obtain ⟨q', h3, h4⟩ := ob h2
  exact ⟨r, q', h1, h3, (Option.some.inj h4).symm⟩
/-- the rest of a comprehension, by name -/
def KLcL (K : PySem.W.Frag) (g : TG) (tt : TT) (te : TE) (ws : List Nat) (σ : L2.St) (Q : VK) (v : V) (H : Hp) : Prop := ∃ a, v = V.ref a ∧ (∃ xs, SqL K H a xs) ∧ ∀ D, H D = none → ∃ W : Nat → Nat → Hp → Prop, (∃ m, W 0 m (upd H D (.lst []))) ∧ ∀ i m H, W i m H →
      ((Itl K a).stop i H ∧ Q (.ref D) H) ∨ ((Itl K a).go i H ∧ ∃ Nx : Hp → Prop, (∀ H', Nx H' → ∃ m', m' < m ∧ W (i + 1) m' H') ∧ ∀ x H', (Itl K a).yld i H x H' → g x (wipe σ ws) H' fun σ2 H2 => wipe σ2 ws = wipe σ ws ∧ tt σ2 H2 fun b H3 =>
        if b = true then te σ2 H3 fun y H4 => ∃ acc, H4 D = some (.lst acc) ∧ acc.length < sizeLine ∧ Nx (upd H4 D (.lst (acc ++ [y]))) else Nx H3)
def KLcT (K : PySem.W.Frag) (g : TG) (tt : TT) (te : TE) (ws : List Nat) (σ : L2.St) (Q : VK) (v : V) (H : Hp) : Prop := ∃ a, v = V.ref a ∧ (∃ xs, SqT K H a xs) ∧ ∀ D, H D = none → ∃ W : Nat → Nat → Hp → Prop, (∃ m, W 0 m (upd H D (.lst []))) ∧ ∀ i m H, W i m H →
      ((Itt K a).stop i H ∧ Q (.ref D) H) ∨ ((Itt K a).go i H ∧ ∃ Nx : Hp → Prop, (∀ H', Nx H' → ∃ m', m' < m ∧ W (i + 1) m' H') ∧ ∀ x H', (Itt K a).yld i H x H' → g x (wipe σ ws) H' fun σ2 H2 => wipe σ2 ws = wipe σ ws ∧ tt σ2 H2 fun b H3 =>
        if b = true then te σ2 H3 fun y H4 => ∃ acc, H4 D = some (.lst acc) ∧ acc.length < sizeLine ∧ Nx (upd H4 D (.lst (acc ++ [y]))) else Nx H3)
def KLcR (lo : Int) (n : Nat) (g : TG) (tt : TT) (te : TE) (ws : List Nat) (σ : L2.St) (Q : VK) (H : Hp) : Prop := ∀ D, H D = none → ∃ W : Nat → Nat → Hp → Prop, (∃ m, W 0 m (upd H D (.lst []))) ∧ ∀ i m H, W i m H →
      ((Itr lo n).stop i H ∧ Q (.ref D) H) ∨ ((Itr lo n).go i H ∧ ∃ Nx : Hp → Prop, (∀ H', Nx H' → ∃ m', m' < m ∧ W (i + 1) m' H') ∧ ∀ x H', (Itr lo n).yld i H x H' → g x (wipe σ ws) H' fun σ2 H2 => wipe σ2 ws = wipe σ ws ∧ tt σ2 H2 fun b H3 =>
        if b = true then te σ2 H3 fun y H4 => ∃ acc, H4 D = some (.lst acc) ∧ acc.length < sizeLine ∧ Nx (upd H4 D (.lst (acc ++ [y]))) else Nx H3)
theorem x_lcl {K : PySem.W.Frag} {tl te : TE} {g : TG} {tt : TT} {ws : List Nat} (h : tl σ H (KLcL K g tt te ws σ Q)) : tLc (iList K tl) g tt te ws σ H Q := h
theorem x_lct {K : PySem.W.Frag} {tl te : TE} {g : TG} {tt : TT} {ws : List Nat} (h : tl σ H (KLcT K g tt te ws σ Q)) : tLc (iTup K tl) g tt te ws σ H Q := h
theorem x_lcr1 {ta : TA} {te : TE} {g : TG} {tt : TT} {ws : List Nat} (h : ta σ H (KRng1 fun lo n H => KLcR lo n g tt te ws σ Q H)) : tLc (iRng1 ta) g tt te ws σ H Q := h
theorem x_lcr2 {ta : TA} {te : TE} {g : TG} {tt : TT} {ws : List Nat} (h : ta σ H (KRng2 fun lo n H => KLcR lo n g tt te ws σ Q H)) : tLc (iRng2 ta) g tt te ws σ H Q := h
/-- what a comprehension's block shows of one turn -/
def BodyC [Py β] (C : Cn) (X : Addr → Prop) (G : τ → List Sl) (d : PyData) (s : τ) (o : Option (Option β × τ)) (g : TG) (tt : TT) (te : TE) (vs : List Nat) : Prop :=
  ∀ (X : Addr → Prop) (H : Hp) (σ : L2.St) (u : V) (r : Option β × τ) (Qn : Hp → Prop) (Qy : VK), o = some r → Lo ⟨C.K, X, H, muts (G s), C.n⟩ X H σ (G s) → Rep C.K X H d u →
    (r.1 = none → ∀ H', Lo ⟨C.K, X, H, muts (G s), C.n⟩ X H' σ (G r.2) → Qn H') →
    (∀ y, r.1 = some y → ∀ v H', Lo ⟨C.K, X, H, muts (G s), C.n⟩ X H' σ (G r.2) → Rep C.K X H' (enc y) v → Qy v H') →
    g u (wipe σ vs) H fun σ2 H2 => wipe σ2 vs = wipe σ vs ∧ tt σ2 H2 fun b H3 => if b = true then te σ2 H3 Qy else Qn H3
theorem x_lcL0 [Py α] [Py β] {xs : List α} {f : α → τ → Option (Option β × τ)} {G : τ → List Sl} {s0 : τ} {q : List β × τ} {v : V} {g : TG} {tt : TT} {te : TE} {ws : List Nat}
    (L : Lo C X H σ (G s0)) (hG : ∀ s s', muts (G s) = muts (G s')) (r : Rep C.K X H (enc xs) v) (hm : compL f xs s0 = some q) (hl : xs.length ≤ 16777216)
    (body : ∀ x s, BodyC C X G (enc x) s (f x s) g tt te ws)
    (done : ∀ D H', H D = none → C.H0 D = none → ¬ C.X0 D → Lo C (fun a => X a ∨ a = D) H' σ (G q.2) → Keep X H H' → MRep C.K (fun a => X a ∨ a = D) H' D (ml q.1) → Q (.ref D) H') :
    KLcL C.K g tt te ws σ Q v H := by
  obtain ⟨a, us, rfl, hna, hrd, hrs⟩ := rep_lst (ds := xs.map enc) r
  refine ⟨a, rfl, ⟨us, .inl hrd⟩, fun D hD => ?_⟩
  have h0 : C.H0 D = none := by
    cases e : C.H0 D with
    | none => rfl
    | some o => exact (L.dom D (by rw [e]; exact fun z => nomatch z) hD).elim
  have hDm : ∀ s, D ∉ muts (G s) := fun s h => L.xd D (L.mx D (hG s s0 ▸ h)) hD
  have sm : Same H (upd H D (.lst [])) := same_upd hD
  have lay := L.lay (p := D) (o := .lst []) hD sm ⟨[], upd_same, .nil⟩
  have L1 : Lo C (fun a => X a ∨ a = D) (upd H D (.lst [])) σ (G s0) := by
    refine ⟨L.len, fun i s hi => ?_, L.nd, fun p hp => .inl (L.mx p hp), fun a h => .inl (L.m0 a h), lay.1.xd, lay.1.base, lay.1.dom, L.own, L.tf⟩
    refine lay.1.at_ i s ?_
    rw [List.getElem?_append_left (List.getElem?_eq_some_iff.mp hi).1]
    exact hi
  have hna' : ¬ (X a ∨ a = D) := fun h => h.elim hna fun e => by
    subst e
    exact rd_nn hrd hD
  refine lc_list (K := C.K) (a := a) (xs := us) (fun i H' => ∃ s ys acc q', Lo C (fun a => X a ∨ a = D) H' σ (G s) ∧ Reps C.K (fun a => X a ∨ a = D) H' (xs.map enc) us ∧ Rd H' a (.lst us) ∧ H' D = some (.lst acc) ∧ Reps C.K (fun a => X a ∨ a = D) H' (ys.map enc) acc ∧
      compL f (xs.drop i) s = some q' ∧ q = (ys ++ q'.1, q'.2) ∧ ys.length ≤ i ∧ Keep X H H' ∧ (∀ a, H a ≠ none → H' a ≠ none))
    ⟨s0, [], [], q, L1, (hrs.more hD).keep (.same sm), Keep.rd (.same sm) hna hrd, upd_same, .nil, hm, rfl, Nat.le_refl _, .same sm, fun a h => ?_⟩ (fun i H' _ ⟨s, ys, acc, q', _, _, h, _⟩ => .inl h) ?_ ?_
  · by_cases z : a = D
    · rw [z, upd_same]; exact fun y => nomatch y
    · rw [upd_ne z]; exact h
  · rintro i y H' hy ⟨s, ys, acc, q', L', hr', hd', hacc, hys, hq', eq, hyl, hk, hdm⟩
    obtain ⟨d, hd, rd⟩ := hr'.get' hy
    rw [List.getElem?_map] at hd
    cases hx : xs[i]? with
    | none => rw [hx] at hd; cases hd
    | some x =>
      rw [hx] at hd
      cases hd
      have hil : i < xs.length := (List.getElem?_eq_some_iff.mp hx).1
      obtain ⟨r1, q1, h1, h2, h3⟩ := comp_drop hx hq'
      refine body x s _ H' σ y r1 _ _ h1 L'.enter rd ?_ ?_
      · intro e H'' M
        have k := L'.keep M
        have kd : H'' D = some (.lst acc) := M.base D _ hacc (hDm s)
        refine ⟨r1.2, ys, acc, q1, L'.leave M (hG _ _), hr'.keep k, k.rd hna' hd', kd, hys.keep k, h2, ?_, Nat.le_succ_of_le hyl, ?_, fun a h => M.dom a (hdm a h)⟩
        · rw [eq, h3, e]
        · refine ⟨fun b o hb n => ?_, fun b vs hb => k.2.1 b vs (hk.2.1 b vs hb), fun b o u hb => k.2.2 b o u (hk.2.2 b o u hb)⟩
          have hbD : b ≠ D := fun z => by rw [z, hD] at hb; cases hb
          exact k.1 b o (hk.1 b o hb n) fun z => z.elim n hbD
      · intro yv e v H'' M rv
        have k := L'.keep M
        have kd : H'' D = some (.lst acc) := M.base D _ hacc (hDm s)
        have L2 := L'.leave M (hG _ _)
        obtain ⟨L3, k3⟩ := L2.wroteX (p := D) (o' := .lst (acc ++ [v])) (.inr rfl) (hDm _) kd h0 (fun _ z => nomatch z) (fun _ _ z => nomatch z)
        have k4 := k.trans k3
        have hal : acc.length = ys.length := by rw [hys.length, List.length_map]
        refine ⟨acc, kd, by rw [line_eq]; omega, r1.2, ys ++ [yv], acc ++ [v], q1, L3, hr'.keep k4, k4.rd hna' hd', upd_same, ?_, h2, ?_, ?_, ?_, ?_⟩
        · rw [List.map_append]
          exact (hys.keep k4).append (.cons (rv.keep k3) .nil)
        · rw [eq, h3, e]
          show (ys ++ yv :: q1.1, q1.2) = (ys ++ [yv] ++ q1.1, q1.2)
          rw [List.append_assoc]; rfl
        · rw [List.length_append]; exact Nat.succ_le_succ hyl
        · refine ⟨fun b o hb n => ?_, fun b vs hb => k4.2.1 b vs (hk.2.1 b vs hb), fun b o u hb => k4.2.2 b o u (hk.2.2 b o u hb)⟩
          have hbD : b ≠ D := fun z => by rw [z, hD] at hb; cases hb
          exact k4.1 b o (hk.1 b o hb n) fun z => z.elim n hbD
        · intro a h
          by_cases z : a = D
          · rw [z, upd_same]; exact fun y => nomatch y
          · rw [upd_ne z]; exact M.dom a (hdm a h)
  · rintro H' ⟨s, ys, acc, q', L', _, _, hacc, hys, hq', eq, _, hk, hdm⟩
    rw [hrs.length, List.length_map, List.drop_length] at hq'
    cases hq'
    rw [List.append_nil] at eq
    subst eq
    exact done D H' hD h0 (fun z => L.xd D (L.m0 D z) hD) L' hk ⟨acc, hacc, hys⟩
theorem x_lcT0 [Py α] [Py β] {xs : List α} {f : α → τ → Option (Option β × τ)} {G : τ → List Sl} {s0 : τ} {q : List β × τ} {v : V} {g : TG} {tt : TT} {te : TE} {ws : List Nat}
    (L : Lo C X H σ (G s0)) (hG : ∀ s s', muts (G s) = muts (G s')) (r : Rep C.K X H (.tuple (xs.map enc)) v) (hm : compL f xs s0 = some q) (hl : xs.length ≤ 16777216)
    (body : ∀ x s, BodyC C X G (enc x) s (f x s) g tt te ws)
    (done : ∀ D H', H D = none → C.H0 D = none → ¬ C.X0 D → Lo C (fun a => X a ∨ a = D) H' σ (G q.2) → Keep X H H' → MRep C.K (fun a => X a ∨ a = D) H' D (ml q.1) → Q (.ref D) H') :
    KLcT C.K g tt te ws σ Q v H := by
  obtain ⟨a, us, rfl, hrd, hrs⟩ := rep_tup r
  refine ⟨a, rfl, ⟨us, hrd⟩, fun D hD => ?_⟩
  have h0 : C.H0 D = none := by
    cases e : C.H0 D with
    | none => rfl
    | some o => exact (L.dom D (by rw [e]; exact fun z => nomatch z) hD).elim
  have hDm : ∀ s, D ∉ muts (G s) := fun s h => L.xd D (L.mx D (hG s s0 ▸ h)) hD
  have sm : Same H (upd H D (.lst [])) := same_upd hD
  have lay := L.lay (p := D) (o := .lst []) hD sm ⟨[], upd_same, .nil⟩
  have L1 : Lo C (fun a => X a ∨ a = D) (upd H D (.lst [])) σ (G s0) := by
    refine ⟨L.len, fun i s hi => ?_, L.nd, fun p hp => .inl (L.mx p hp), fun a h => .inl (L.m0 a h), lay.1.xd, lay.1.base, lay.1.dom, L.own, L.tf⟩
    refine lay.1.at_ i s ?_
    rw [List.getElem?_append_left (List.getElem?_eq_some_iff.mp hi).1]
    exact hi
  refine lc_tup (K := C.K) (a := a) (xs := us) (fun i H' => ∃ s ys acc q', Lo C (fun a => X a ∨ a = D) H' σ (G s) ∧ Reps C.K (fun a => X a ∨ a = D) H' (xs.map enc) us ∧ SqT C.K H' a us ∧ H' D = some (.lst acc) ∧ Reps C.K (fun a => X a ∨ a = D) H' (ys.map enc) acc ∧
      compL f (xs.drop i) s = some q' ∧ q = (ys ++ q'.1, q'.2) ∧ ys.length ≤ i ∧ Keep X H H' ∧ (∀ a, H a ≠ none → H' a ≠ none))
    ⟨s0, [], [], q, L1, (hrs.more hD).keep (.same sm), Keep.sqT (X := fun a => X a ∨ a = D) (.same sm) hrd, upd_same, .nil, hm, rfl, Nat.le_refl _, .same sm, fun a h => ?_⟩ (fun i H' _ ⟨s, ys, acc, q', _, _, h, _⟩ => h) ?_ ?_
  · by_cases z : a = D
    · rw [z, upd_same]; exact fun y => nomatch y
    · rw [upd_ne z]; exact h
  · rintro i y H' hy ⟨s, ys, acc, q', L', hr', hd', hacc, hys, hq', eq, hyl, hk, hdm⟩
    obtain ⟨d, hd, rd⟩ := hr'.get' hy
    rw [List.getElem?_map] at hd
    cases hx : xs[i]? with
    | none => rw [hx] at hd; cases hd
    | some x =>
      rw [hx] at hd
      cases hd
      have hil : i < xs.length := (List.getElem?_eq_some_iff.mp hx).1
      obtain ⟨r1, q1, h1, h2, h3⟩ := comp_drop hx hq'
      refine body x s _ H' σ y r1 _ _ h1 L'.enter rd ?_ ?_
      · intro e H'' M
        have k := L'.keep M
        have kd : H'' D = some (.lst acc) := M.base D _ hacc (hDm s)
        refine ⟨r1.2, ys, acc, q1, L'.leave M (hG _ _), hr'.keep k, k.sqT hd', kd, hys.keep k, h2, ?_, Nat.le_succ_of_le hyl, ?_, fun a h => M.dom a (hdm a h)⟩
        · rw [eq, h3, e]
        · refine ⟨fun b o hb n => ?_, fun b vs hb => k.2.1 b vs (hk.2.1 b vs hb), fun b o u hb => k.2.2 b o u (hk.2.2 b o u hb)⟩
          have hbD : b ≠ D := fun z => by rw [z, hD] at hb; cases hb
          exact k.1 b o (hk.1 b o hb n) fun z => z.elim n hbD
      · intro yv e v H'' M rv
        have k := L'.keep M
        have kd : H'' D = some (.lst acc) := M.base D _ hacc (hDm s)
        have L2 := L'.leave M (hG _ _)
        obtain ⟨L3, k3⟩ := L2.wroteX (p := D) (o' := .lst (acc ++ [v])) (.inr rfl) (hDm _) kd h0 (fun _ z => nomatch z) (fun _ _ z => nomatch z)
        have k4 := k.trans k3
        have hal : acc.length = ys.length := by rw [hys.length, List.length_map]
        refine ⟨acc, kd, by rw [line_eq]; omega, r1.2, ys ++ [yv], acc ++ [v], q1, L3, hr'.keep k4, k4.sqT hd', upd_same, ?_, h2, ?_, ?_, ?_, ?_⟩
        · rw [List.map_append]
          exact (hys.keep k4).append (.cons (rv.keep k3) .nil)
        · rw [eq, h3, e]
          show (ys ++ yv :: q1.1, q1.2) = (ys ++ [yv] ++ q1.1, q1.2)
          rw [List.append_assoc]; rfl
        · rw [List.length_append]; exact Nat.succ_le_succ hyl
        · refine ⟨fun b o hb n => ?_, fun b vs hb => k4.2.1 b vs (hk.2.1 b vs hb), fun b o u hb => k4.2.2 b o u (hk.2.2 b o u hb)⟩
          have hbD : b ≠ D := fun z => by rw [z, hD] at hb; cases hb
          exact k4.1 b o (hk.1 b o hb n) fun z => z.elim n hbD
        · intro a h
          by_cases z : a = D
          · rw [z, upd_same]; exact fun y => nomatch y
          · rw [upd_ne z]; exact M.dom a (hdm a h)
  · rintro H' ⟨s, ys, acc, q', L', _, _, hacc, hys, hq', eq, _, hk, hdm⟩
    rw [hrs.length, List.length_map, List.drop_length] at hq'
    cases hq'
    rw [List.append_nil] at eq
    subst eq
    exact done D H' hD h0 (fun z => L.xd D (L.m0 D z) hD) L' hk ⟨acc, hacc, hys⟩
theorem x_lcR0 [Py β] {lo : Int} {n : Nat} {f : Int → τ → Option (Option β × τ)} {G : τ → List Sl} {s0 : τ} {q : List β × τ} {g : TG} {tt : TT} {te : TE} {ws : List Nat}
    (L : Lo C X H σ (G s0)) (hG : ∀ s s', muts (G s) = muts (G s')) (hm : compL f (rangeL lo n) s0 = some q) (hl : n ≤ 16777216)
    (body : ∀ x s, BodyC C X G (enc x) s (f x s) g tt te ws)
    (done : ∀ D H', H D = none → C.H0 D = none → ¬ C.X0 D → Lo C (fun a => X a ∨ a = D) H' σ (G q.2) → Keep X H H' → MRep C.K (fun a => X a ∨ a = D) H' D (ml q.1) → Q (.ref D) H') :
    KLcR lo n g tt te ws σ Q H := by
  intro D hD
  have h0 : C.H0 D = none := by
    cases e : C.H0 D with
    | none => rfl
    | some o => exact (L.dom D (by rw [e]; exact fun z => nomatch z) hD).elim
  have hDm : ∀ s, D ∉ muts (G s) := fun s h => L.xd D (L.mx D (hG s s0 ▸ h)) hD
  have sm : Same H (upd H D (.lst [])) := same_upd hD
  have lay := L.lay (p := D) (o := .lst []) hD sm ⟨[], upd_same, .nil⟩
  have L1 : Lo C (fun a => X a ∨ a = D) (upd H D (.lst [])) σ (G s0) := by
    refine ⟨L.len, fun i s hi => ?_, L.nd, fun p hp => .inl (L.mx p hp), fun a h => .inl (L.m0 a h), lay.1.xd, lay.1.base, lay.1.dom, L.own, L.tf⟩
    refine lay.1.at_ i s ?_
    rw [List.getElem?_append_left (List.getElem?_eq_some_iff.mp hi).1]
    exact hi
  refine lc_range (lo := lo) (n := n) (fun i H' => ∃ s ys acc q', Lo C (fun a => X a ∨ a = D) H' σ (G s) ∧ H' D = some (.lst acc) ∧ Reps C.K (fun a => X a ∨ a = D) H' (ys.map enc) acc ∧
      compL f ((rangeL lo n).drop i) s = some q' ∧ q = (ys ++ q'.1, q'.2) ∧ ys.length ≤ i ∧ Keep X H H')
    ⟨s0, [], [], q, L1, upd_same, .nil, hm, rfl, Nat.le_refl _, .same sm⟩ ?_ ?_
  · rintro i H' hi ⟨s, ys, acc, q', L', hacc, hys, hq', eq, hyl, hk⟩
    obtain ⟨r1, q1, h1, h2, h3⟩ := comp_drop (rangeL_get hi) hq'
    refine body (lo + (i : Int)) s _ H' σ _ r1 _ _ h1 L'.enter (.int _) ?_ ?_
    · intro e H'' M
      have k := L'.keep M
      have kd : H'' D = some (.lst acc) := M.base D _ hacc (hDm s)
      refine ⟨r1.2, ys, acc, q1, L'.leave M (hG _ _), kd, hys.keep k, h2, ?_, Nat.le_succ_of_le hyl, ?_⟩
      · rw [eq, h3, e]
      · refine ⟨fun b o hb n => ?_, fun b vs hb => k.2.1 b vs (hk.2.1 b vs hb), fun b o u hb => k.2.2 b o u (hk.2.2 b o u hb)⟩
        have hbD : b ≠ D := fun z => by rw [z, hD] at hb; cases hb
        exact k.1 b o (hk.1 b o hb n) fun z => z.elim n hbD
    · intro yv e v H'' M rv
      have k := L'.keep M
      have kd : H'' D = some (.lst acc) := M.base D _ hacc (hDm s)
      have L2 := L'.leave M (hG _ _)
      obtain ⟨L3, k3⟩ := L2.wroteX (p := D) (o' := .lst (acc ++ [v])) (.inr rfl) (hDm _) kd h0 (fun _ z => nomatch z) (fun _ _ z => nomatch z)
      have k4 := k.trans k3
      have hal : acc.length = ys.length := by rw [hys.length, List.length_map]
      refine ⟨acc, kd, by rw [line_eq]; omega, r1.2, ys ++ [yv], acc ++ [v], q1, L3, upd_same, ?_, h2, ?_, ?_, ?_⟩
      · rw [List.map_append]
        exact (hys.keep k4).append (.cons (rv.keep k3) .nil)
      · rw [eq, h3, e]
        show (ys ++ yv :: q1.1, q1.2) = (ys ++ [yv] ++ q1.1, q1.2)
        rw [List.append_assoc]; rfl
      · rw [List.length_append]; exact Nat.succ_le_succ hyl
      · refine ⟨fun b o hb n => ?_, fun b vs hb => k4.2.1 b vs (hk.2.1 b vs hb), fun b o u hb => k4.2.2 b o u (hk.2.2 b o u hb)⟩
        have hbD : b ≠ D := fun z => by rw [z, hD] at hb; cases hb
        exact k4.1 b o (hk.1 b o hb n) fun z => z.elim n hbD
  · rintro H' ⟨s, ys, acc, q', L', hacc, hys, hq', eq, _, hk⟩
    have hl : (rangeL lo n).length = n := by unfold rangeL; rw [List.length_map, List.length_range]
    have : (rangeL lo n).drop n = [] := List.drop_eq_nil_of_le (by omega)
    rw [this] at hq'
    cases hq'
    rw [List.append_nil] at eq
    subst eq
    exact done D H' hD h0 (fun z => L.xd D (L.m0 D z) hD) L' hk ⟨acc, hacc, hys⟩
theorem Lo.addT {D : Addr} {o : MO} {H' : Hp} (L : Lo C X H σ Γ) (hD : H D = none) (h0 : C.H0 D = none) (M : Lo C (fun a => X a ∨ a = D) H' σ Γ') (hm : muts Γ' = muts Γ) (r : MRep C.K (fun a => X a ∨ a = D) H' D o) : Lo C (fun a => X a ∨ a = D) H' σ (Γ' ++ [.tmp D o]) := by
  have hm2 : muts (Γ' ++ [Sl.tmp D o]) = muts Γ' ++ [D] := by unfold muts; rw [List.filterMap_append]; rfl
  have hnm : D ∉ muts Γ' := fun h => L.xd D (L.mx D (hm ▸ h)) hD
  refine ⟨M.len, fun i t hi => ?_, ?_, fun q hq => ?_, M.m0, M.xd, M.base, M.dom, fun q hq => ?_, M.tf⟩
  · by_cases hlt : i < Γ'.length
    · rw [List.getElem?_append_left hlt] at hi
      exact M.at_ i t hi
    · rw [List.getElem?_append_right (by omega)] at hi
      have ht := List.mem_of_getElem? hi
      rw [List.mem_singleton] at ht
      subst ht
      exact r
  · rw [hm2]
    exact List.nodup_append.mpr ⟨M.nd, by simp, fun a ha b hb => by
      rw [List.mem_singleton] at hb
      subst hb
      intro z
      exact hnm (z ▸ ha)⟩
  · rw [hm2, List.mem_append, List.mem_singleton] at hq
    exact hq.elim (M.mx q) .inr
  · rw [hm2, List.mem_append, List.mem_singleton] at hq
    exact hq.elim (M.own q) fun z => .inr (z ▸ h0)
/-- a comprehension's new list, as data -/
theorem lc_data [Py β] {D : Addr} {ys : List β} {H' : Hp} (L : Lo C X H σ Γ) (hD : H D = none) (M : Lo C (fun a => X a ∨ a = D) H' σ Γ') (hm : muts Γ' = muts Γ) (k : Keep X H H') (r : MRep C.K (fun a => X a ∨ a = D) H' D (ml ys))
    (h : Lo C X H' σ Γ' → (∀ d u, Rep C.K X H d u → Rep C.K X H' d u) → Rep C.K X H' (enc ys) (.ref D) → Q (.ref D) H') : Q (.ref D) H' := by
  obtain ⟨vs, h1, h2⟩ := r
  exact h (M.xanti (fun _ h => .inl h) (fun p hp => L.mx p (hm ▸ hp)) L.m0) (fun _ _ q => q.keep k) (.lst (fun z => L.xd D z hD) (.inl h1) (h2.anti fun _ z => .inl z))
/-- .. as the body's own -/
theorem lc_own [Py β] {D : Addr} {ys : List β} {H' : Hp} (L : Lo C X H σ Γ) (hD : H D = none) (h0 : C.H0 D = none) (M : Lo C (fun a => X a ∨ a = D) H' σ Γ') (hm : muts Γ' = muts Γ) (k : Keep X H H') (r : MRep C.K (fun a => X a ∨ a = D) H' D (ml ys))
    (h : Lo C (fun a => X a ∨ a = D) H' σ (Γ' ++ [.tmp D (ml ys)]) → (∀ d u, Rep C.K X H d u → Rep C.K (fun a => X a ∨ a = D) H' d u) → Q (.ref D) H') : Q (.ref D) H' :=
  h (L.addT hD h0 M hm r) fun _ _ q => (q.more hD).keep (k.mono fun _ z => .inl z)
theorem x_lcL [Py α] [Py β] {xs : List α} {f : α → τ → Option (Option β × τ)} {v : V} {G : τ → List Sl} {s0 : τ} {q : List β × τ} {g : TG} {tt : TT} {te : TE} {ws : List Nat} (L : Lo C X H σ (G s0)) (hG : ∀ s s', muts (G s) = muts (G s')) (r : Rep C.K X H (enc xs) v) (hm : compL f xs s0 = some q) (hl : xs.length ≤ 16777216)
    (body : ∀ x s, BodyC C X G (enc x) s (f x s) g tt te ws) (h : ∀ D H', Lo C X H' σ (G q.2) → (∀ d u, Rep C.K X H d u → Rep C.K X H' d u) → Rep C.K X H' (enc q.1) (.ref D) → Q (.ref D) H') : KLcL C.K g tt te ws σ Q v H :=
  x_lcL0 L hG r hm hl body (fun D H' hD h0 hx M k m => lc_data L hD M (hG _ _) k m (h D H'))
theorem x_lcLN [Py α] [Py β] {xs : List α} {f : α → τ → Option (Option β × τ)} {v : V} {G : τ → List Sl} {s0 : τ} {q : List β × τ} {g : TG} {tt : TT} {te : TE} {ws : List Nat} (L : Lo C X H σ (G s0)) (hG : ∀ s s', muts (G s) = muts (G s')) (r : Rep C.K X H (enc xs) v) (hm : compL f xs s0 = some q) (hl : xs.length ≤ 16777216)
    (body : ∀ x s, BodyC C X G (enc x) s (f x s) g tt te ws) (h : ∀ D X' H', C.H0 D = none → ¬ C.X0 D → Lo C X' H' σ (G q.2 ++ [.tmp D (ml q.1)]) → (∀ d u, Rep C.K X H d u → Rep C.K X' H' d u) → Q (.ref D) H') : KLcL C.K g tt te ws σ Q v H :=
  x_lcL0 L hG r hm hl body (fun D H' hD h0 hx M k m => lc_own L hD h0 M (hG _ _) k m (h D _ H' h0 hx))
theorem x_lcT [Py α] [Py β] {xs : List α} {f : α → τ → Option (Option β × τ)} {v : V} {G : τ → List Sl} {s0 : τ} {q : List β × τ} {g : TG} {tt : TT} {te : TE} {ws : List Nat} (L : Lo C X H σ (G s0)) (hG : ∀ s s', muts (G s) = muts (G s')) (r : Rep C.K X H (.tuple (xs.map enc)) v) (hm : compL f xs s0 = some q) (hl : xs.length ≤ 16777216)
    (body : ∀ x s, BodyC C X G (enc x) s (f x s) g tt te ws) (h : ∀ D H', Lo C X H' σ (G q.2) → (∀ d u, Rep C.K X H d u → Rep C.K X H' d u) → Rep C.K X H' (enc q.1) (.ref D) → Q (.ref D) H') : KLcT C.K g tt te ws σ Q v H :=
  x_lcT0 L hG r hm hl body (fun D H' hD h0 hx M k m => lc_data L hD M (hG _ _) k m (h D H'))
theorem x_lcTN [Py α] [Py β] {xs : List α} {f : α → τ → Option (Option β × τ)} {v : V} {G : τ → List Sl} {s0 : τ} {q : List β × τ} {g : TG} {tt : TT} {te : TE} {ws : List Nat} (L : Lo C X H σ (G s0)) (hG : ∀ s s', muts (G s) = muts (G s')) (r : Rep C.K X H (.tuple (xs.map enc)) v) (hm : compL f xs s0 = some q) (hl : xs.length ≤ 16777216)
    (body : ∀ x s, BodyC C X G (enc x) s (f x s) g tt te ws) (h : ∀ D X' H', C.H0 D = none → ¬ C.X0 D → Lo C X' H' σ (G q.2 ++ [.tmp D (ml q.1)]) → (∀ d u, Rep C.K X H d u → Rep C.K X' H' d u) → Q (.ref D) H') : KLcT C.K g tt te ws σ Q v H :=
  x_lcT0 L hG r hm hl body (fun D H' hD h0 hx M k m => lc_own L hD h0 M (hG _ _) k m (h D _ H' h0 hx))
theorem x_lcR [Py β] {lo : Int} {n : Nat} {f : Int → τ → Option (Option β × τ)} {G : τ → List Sl} {s0 : τ} {q : List β × τ} {g : TG} {tt : TT} {te : TE} {ws : List Nat} (L : Lo C X H σ (G s0)) (hG : ∀ s s', muts (G s) = muts (G s')) (hm : compL f (rangeL lo n) s0 = some q) (hl : n ≤ 16777216)
    (body : ∀ x s, BodyC C X G (enc x) s (f x s) g tt te ws) (h : ∀ D H', Lo C X H' σ (G q.2) → (∀ d u, Rep C.K X H d u → Rep C.K X H' d u) → Rep C.K X H' (enc q.1) (.ref D) → Q (.ref D) H') : KLcR lo n g tt te ws σ Q H :=
  x_lcR0 L hG hm hl body (fun D H' hD h0 hx M k m => lc_data L hD M (hG _ _) k m (h D H'))
theorem x_lcRN [Py β] {lo : Int} {n : Nat} {f : Int → τ → Option (Option β × τ)} {G : τ → List Sl} {s0 : τ} {q : List β × τ} {g : TG} {tt : TT} {te : TE} {ws : List Nat} (L : Lo C X H σ (G s0)) (hG : ∀ s s', muts (G s) = muts (G s')) (hm : compL f (rangeL lo n) s0 = some q) (hl : n ≤ 16777216)
    (body : ∀ x s, BodyC C X G (enc x) s (f x s) g tt te ws) (h : ∀ D X' H', C.H0 D = none → ¬ C.X0 D → Lo C X' H' σ (G q.2 ++ [.tmp D (ml q.1)]) → (∀ d u, Rep C.K X H d u → Rep C.K X' H' d u) → Q (.ref D) H') : KLcR lo n g tt te ws σ Q H :=
  x_lcR0 L hG hm hl body (fun D H' hD h0 hx M k m => lc_own L hD h0 M (hG _ _) k m (h D _ H' h0 hx))
/-- one turn of a comprehension -/
def KCt (te : TE) (σ : L2.St) (Qy : VK) (Qn : Hp → Prop) : Bool → Hp → Prop := fun b H => if b = true then te σ H Qy else Qn H
theorem Lo.cset {i : Nat} {u : V} {d : PyData} (L : Lo C X H σ Γ) (r : Rep C.K X H d u) (hi : i < C.n) {σ0 : L2.St} (e : ∀ j, j ≠ i → σ0[j]? = σ[j]?) (el : σ0.length = σ.length) : Lo C X H (σ0.set i (some u)) (Γ.set i (.imm d)) := by
  have e2 : σ0.set i (some u) = σ.set i (some u) := by
    apply List.ext_getElem?
    intro j
    by_cases z : j = i
    · subst z; rw [List.getElem?_set, List.getElem?_set, el, if_pos rfl, if_pos rfl]
    · rw [List.getElem?_set_ne (Ne.symm z), List.getElem?_set_ne (Ne.symm z), e j z]
  rw [e2]; exact L.set r hi
theorem x_cName {i : Nat} {u : V} {d : PyData} {tt : TT} {te : TE} {Qy : VK} {Qn : Hp → Prop} (L : Lo C X H σ Γ) (r : Rep C.K X H d u) (hi : i < C.n) (e : Γ.set i (.imm d) = Γ') (h : ∀ σ2, Lo C X H σ2 Γ' → tt σ2 H (KCt te σ2 Qy Qn)) :
    gName i u (wipe σ [i]) H fun σ2 H2 => wipe σ2 [i] = wipe σ [i] ∧ tt σ2 H2 fun b H3 => if b = true then te σ2 H3 Qy else Qn H3 := by
  subst e
  refine ⟨?_, h _ (L.cset r hi (fun j z => ?_) ?_)⟩
  · show ((σ.set i none).set i (some u)).set i none = σ.set i none
    rw [List.set_set, List.set_set]
  · exact List.getElem?_set_ne (Ne.symm z)
  · exact List.length_set
theorem x_cTup {i j : Nat} {u : V} {d1 d2 : PyData} {tt : TT} {te : TE} {Qy : VK} {Qn : Hp → Prop} (L : Lo C X H σ Γ) (r : Rep C.K X H (.tuple [d1, d2]) u) (hi : i < C.n) (hj : j < C.n) (ne : i ≠ j) (e : (Γ.set i (.imm d1)).set j (.imm d2) = Γ') (h : ∀ σ2, Lo C X H σ2 Γ' → tt σ2 H (KCt te σ2 Qy Qn)) :
    gTup C.K 2 (gCons (gName i) (gCons (gName j) gNil)) u (wipe σ [i, j]) H fun σ2 H2 => wipe σ2 [i, j] = wipe σ [i, j] ∧ tt σ2 H2 fun b H3 => if b = true then te σ2 H3 Qy else Qn H3 := by
  subst e
  obtain ⟨a, vs, rfl, hs, q⟩ := rep_tup r
  cases q with
  | @cons _ _ v1 _ r1 q => cases q with
    | @cons _ _ v2 _ r2 q => cases q with
      | nil =>
        refine ⟨a, _, rfl, hs, rfl, v1, [v2], rfl, v2, [], rfl, rfl, ?_⟩
        have e3 : (((σ.set j none).set i none).set i (some v1)).set j (some v2) = (σ.set i (some v1)).set j (some v2) := by
          rw [List.set_set, List.set_comm none (some v1) ne.symm, List.set_set]
        refine ⟨?_, ?_⟩
        · show (((((σ.set j none).set i none).set i (some v1)).set j (some v2)).set j none).set i none = (σ.set j none).set i none
          rw [e3, List.set_set, List.set_comm _ _ ne.symm, List.set_set, List.set_comm _ _ ne]
        · have q := h _ ((L.set r1 hi).set r2 hj)
          rw [← e3] at q
          exact q
theorem x_yes {te : TE} {Qy : VK} {Qn : Hp → Prop} (h : te σ H Qy) : tYes σ H (KCt te σ Qy Qn) := h
theorem x_ct {te : TE} {Qy : VK} {Qn : Hp → Prop} {c : Bool} {mA mB : Option ρ} {r : ρ} (hm : (if c = true then mA else mB) = some r) (hA : mA = some r → te σ H Qy) (hB : mB = some r → Qn H) : KCt te σ Qy Qn c H := by
  cases c with
  | true => exact hA hm
  | false => exact hB hm
theorem x_cy [Py β] {X' : Addr → Prop} {σ2 : L2.St} {H' : Hp} {K : PySem.W.Frag} {n : Nat} {G : τ → List Sl} {s s' : τ} {Γ2 : List Sl} {y : β} {r : Option β × τ} {v : V} {Qy : VK} (er : r = (some y, s')) (hy : ∀ y, r.1 = some y → ∀ v H', Lo ⟨K, X, H, muts (G s), n⟩ X H' σ (G r.2) → Rep K X H' (enc y) v → Qy v H')
    (L : Lo ⟨K, X, H, muts (G s), n⟩ X H σ (G s)) (M : Lo ⟨K, X, H, muts (G s), n⟩ X' H' σ2 Γ2) (b : Bk (G s) Γ2 (G s')) (q : Rep K X' H' (enc y) v) : Qy v H' := by
  subst er
  exact hy y rfl v H' (L.back M b) (Rep.anti M.m0 q)
theorem x_cn [Py β] {X' : Addr → Prop} {σ2 : L2.St} {H' : Hp} {K : PySem.W.Frag} {n : Nat} {G : τ → List Sl} {s s' : τ} {Γ2 : List Sl} {r : Option β × τ} {Qn : Hp → Prop} (er : r = (none, s')) (hn : r.1 = none → ∀ H', Lo ⟨K, X, H, muts (G s), n⟩ X H' σ (G r.2) → Qn H')
    (L : Lo ⟨K, X, H, muts (G s), n⟩ X H σ (G s)) (M : Lo ⟨K, X, H, muts (G s), n⟩ X' H' σ2 Γ2) (b : Bk (G s) Γ2 (G s')) : Qn H' := by
  subst er
  exact hn rfl H' (L.back M b)
end
open Py (enc)

/-! ### equality of data -/
class PyE (α : Type) [Py α] [DecidableEq α] where
  d : Nat
  eqv : ∀ x y : α, PyData.eqv (enc x) (enc y) = decide (x = y)
  lay : ∀ x : α, PyData.canLay0 (enc x) = true
  dep : ∀ x : α, PyData.depth (enc x) ≤ d
instance : PyE Int := ⟨0, fun x y => by
  show PyData.eqv (.int x) (.int y) = _
  unfold PyData.eqv
  by_cases z : x = y <;> simp [z], fun _ => rfl, fun _ => Nat.le_refl _⟩
instance : PyE Bool := ⟨0, fun x y => by cases x <;> cases y <;> rfl, fun _ => rfl, fun _ => Nat.le_refl _⟩
section
variable {α β γ δ ε : Type} [Py α] [DecidableEq α] [Py β] [DecidableEq β] [Py γ] [DecidableEq γ] [Py δ] [DecidableEq δ] [Py ε] [DecidableEq ε]
theorem eqvAll_nil : PyData.eqvAll [] [] = true := by unfold PyData.eqvAll; rfl
theorem eqvAll_cons {x y : PyData} {xs ys : List PyData} : PyData.eqvAll (x :: xs) (y :: ys) = (PyData.eqv x y && PyData.eqvAll xs ys) := by rw [PyData.eqvAll]
theorem eqv_tup {xs ys : List PyData} : PyData.eqv (.tuple xs) (.tuple ys) = PyData.eqvAll xs ys := by rw [PyData.eqv]
theorem eqv_lst {xs ys : List PyData} : PyData.eqv (.list xs) (.list ys) = PyData.eqvAll xs ys := by rw [PyData.eqv]
theorem layAll_nil : PyData.canLayAll0 [] = true := by unfold PyData.canLayAll0; rfl
theorem layAll_cons {x : PyData} {xs : List PyData} : PyData.canLayAll0 (x :: xs) = (PyData.canLay0 x && PyData.canLayAll0 xs) := by rw [PyData.canLayAll0]
theorem lay_tup {xs : List PyData} : PyData.canLay0 (.tuple xs) = PyData.canLayAll0 xs := by rw [PyData.canLay0]
theorem lay_lst {xs : List PyData} : PyData.canLay0 (.list xs) = PyData.canLayAll0 xs := by rw [PyData.canLay0]
theorem depAll_nil : PyData.depthAll [] = 0 := by unfold PyData.depthAll; rfl
theorem depAll_cons {x : PyData} {xs : List PyData} : PyData.depthAll (x :: xs) = max (PyData.depth x) (PyData.depthAll xs) := by rw [PyData.depthAll]
theorem dep_tup {xs : List PyData} : PyData.depth (.tuple xs) = PyData.depthAll xs + 1 := by rw [PyData.depth]
theorem dep_lst {xs : List PyData} : PyData.depth (.list xs) = PyData.depthAll xs + 1 := by rw [PyData.depth]
instance [PyE α] [PyE β] : PyE (T2 α β) where
  d := max (PyE.d α) (PyE.d β) + 1
  eqv := fun ⟨a, b⟩ ⟨a', b'⟩ => by
    show PyData.eqv (.tuple [enc a, enc b]) (.tuple [enc a', enc b']) = _
    rw [eqv_tup, eqvAll_cons, eqvAll_cons, eqvAll_nil, PyE.eqv, PyE.eqv]
    by_cases h1 : a = a' <;> by_cases h2 : b = b' <;> simp [h1, h2]
  lay := fun ⟨a, b⟩ => by
    show PyData.canLay0 (.tuple [enc a, enc b]) = true
    rw [lay_tup, layAll_cons, layAll_cons, layAll_nil, PyE.lay, PyE.lay]; rfl
  dep := fun ⟨a, b⟩ => by
    show PyData.depth (.tuple [enc a, enc b]) ≤ _
    rw [dep_tup, depAll_cons, depAll_cons, depAll_nil]
    have := PyE.dep a
    have := PyE.dep b
    omega
instance [PyE α] [PyE β] [PyE γ] : PyE (T3 α β γ) where
  d := max (PyE.d α) (max (PyE.d β) (PyE.d γ)) + 1
  eqv := fun ⟨a, b, c⟩ ⟨a', b', c'⟩ => by
    show PyData.eqv (.tuple [enc a, enc b, enc c]) (.tuple [enc a', enc b', enc c']) = _
    rw [eqv_tup, eqvAll_cons, eqvAll_cons, eqvAll_cons, eqvAll_nil, PyE.eqv, PyE.eqv, PyE.eqv]
    by_cases h1 : a = a' <;> by_cases h2 : b = b' <;> by_cases h3 : c = c' <;> simp [h1, h2, h3]
  lay := fun ⟨a, b, c⟩ => by
    show PyData.canLay0 (.tuple [enc a, enc b, enc c]) = true
    rw [lay_tup, layAll_cons, layAll_cons, layAll_cons, layAll_nil, PyE.lay, PyE.lay, PyE.lay]; rfl
  dep := fun ⟨a, b, c⟩ => by
    show PyData.depth (.tuple [enc a, enc b, enc c]) ≤ _
    rw [dep_tup, depAll_cons, depAll_cons, depAll_cons, depAll_nil]
    have := PyE.dep a
    have := PyE.dep b
    have := PyE.dep c
    omega
instance [PyE α] [PyE β] [PyE γ] [PyE δ] : PyE (T4 α β γ δ) where
  d := max (PyE.d α) (max (PyE.d β) (max (PyE.d γ) (PyE.d δ))) + 1
  eqv := fun ⟨a, b, c, d⟩ ⟨a', b', c', d'⟩ => by
    show PyData.eqv (.tuple [enc a, enc b, enc c, enc d]) (.tuple [enc a', enc b', enc c', enc d']) = _
    rw [eqv_tup, eqvAll_cons, eqvAll_cons, eqvAll_cons, eqvAll_cons, eqvAll_nil, PyE.eqv, PyE.eqv, PyE.eqv, PyE.eqv]
    by_cases h1 : a = a' <;> by_cases h2 : b = b' <;> by_cases h3 : c = c' <;> by_cases h4 : d = d' <;> simp [h1, h2, h3, h4]
  lay := fun ⟨a, b, c, d⟩ => by
    show PyData.canLay0 (.tuple [enc a, enc b, enc c, enc d]) = true
    rw [lay_tup, layAll_cons, layAll_cons, layAll_cons, layAll_cons, layAll_nil, PyE.lay, PyE.lay, PyE.lay, PyE.lay]; rfl
  dep := fun ⟨a, b, c, d⟩ => by
    show PyData.depth (.tuple [enc a, enc b, enc c, enc d]) ≤ _
    rw [dep_tup, depAll_cons, depAll_cons, depAll_cons, depAll_cons, depAll_nil]
    have := PyE.dep a
    have := PyE.dep b
    have := PyE.dep c
    have := PyE.dep d
    omega
instance [PyE α] : PyE (List α) where
  d := PyE.d α + 1
  eqv := fun xs ys => by
    show PyData.eqv (.list (xs.map enc)) (.list (ys.map enc)) = _
    rw [eqv_lst]
    induction xs generalizing ys with
    | nil => cases ys with
      | nil => rw [List.map_nil, eqvAll_nil]; rfl
      | cons y ys => rw [List.map_nil, List.map_cons, PyData.eqvAll]; rfl
    | cons x xs ih => cases ys with
      | nil => rw [List.map_nil, List.map_cons, PyData.eqvAll]; rfl
      | cons y ys =>
        rw [List.map_cons, List.map_cons, eqvAll_cons, ih, PyE.eqv]
        by_cases h1 : x = y <;> by_cases h2 : xs = ys <;> simp [h1, h2]
  lay := fun xs => by
    show PyData.canLay0 (.list (xs.map enc)) = true
    rw [lay_lst]
    induction xs with
    | nil => rw [List.map_nil, layAll_nil]
    | cons x xs ih => rw [List.map_cons, layAll_cons, PyE.lay, ih]; rfl
  dep := fun xs => by
    show PyData.depth (.list (xs.map enc)) ≤ _
    rw [dep_lst]
    refine Nat.succ_le_succ ?_
    induction xs with
    | nil => rw [List.map_nil, depAll_nil]; exact Nat.zero_le _
    | cons x xs ih =>
      rw [List.map_cons, depAll_cons]
      have := PyE.dep x
      omega
theorem shaped_of [PyE α] (h : PyE.d α ≤ 64) (x : α) : SeqAt.shaped (enc x) = true := by
  unfold SeqAt.shaped
  have := PyE.dep x
  rw [PyE.lay, Bool.true_and]
  exact decide_eq_true (by omega)
end

section
variable {C : Cn} {X : Addr → Prop} {H : Hp} {σ : L2.St} {Γ Γ' : List Sl} {Q : VK} {α β γ δ ε ρ : Type}
/-! ### what a value stands for, in any shape -/
theorem Lo.dpM [Py α] {xs : List α} {i : Nat} {p : Addr} (L : Lo C X H σ Γ) (g : Γ[i]? = some (.mu p (ml xs))) : Dp C.K H (.ref p) (enc xs) := by
  obtain ⟨vs, hs, q⟩ := L.mrep g
  exact .lst (.inl (.inl hs)) (Reps.dp q)
theorem x_eqd [Py α] [DecidableEq α] [PyE α] {x y : α} {u v : V} (r : Dp C.K H u (enc x)) (q : Dp C.K H v (enc y)) (h64 : PyE.d α ≤ 64) (h : Q (.bl (decide (x = y))) H) : rEqD C.K u v H Q :=
  ⟨_, _, r, q, shaped_of h64 x, shaped_of h64 y, by rw [PyE.eqv]; exact h⟩
theorem x_ned [Py α] [DecidableEq α] [PyE α] {x y : α} {u v : V} (r : Dp C.K H u (enc x)) (q : Dp C.K H v (enc y)) (h64 : PyE.d α ≤ 64) (h : Q (.bl (!decide (x = y))) H) : rNeD C.K u v H Q :=
  ⟨_, _, r, q, shaped_of h64 x, shaped_of h64 y, by rw [PyE.eqv]; exact h⟩
/-- x in xs -/
def memB {α : Type} [DecidableEq α] (x : α) (xs : List α) : Bool := xs.any fun z => decide (z = x)
theorem any_eqv [Py α] [DecidableEq α] [PyE α] {x : α} {xs : List α} : ((xs.map enc).any fun z => PyData.eqv z (enc x)) = memB x xs := by
  unfold memB
  rw [List.any_map]
  congr 1
  funext z
  exact PyE.eqv z x
theorem x_ind [Py α] [DecidableEq α] [PyE α] {x : α} {ys : List α} {u v : V} (r : Dp C.K H u (enc x)) (q : Dp C.K H v (enc ys)) (h64 : PyE.d (List α) ≤ 64) (h : Q (.bl (memB x ys)) H) : rInD C.K u v H Q :=
  ⟨_, _, r, q, shaped_of (Nat.le_trans (Nat.le_succ _) h64) x, shaped_of h64 ys, by rw [any_eqv]; exact h⟩
theorem x_nind [Py α] [DecidableEq α] [PyE α] {x : α} {ys : List α} {u v : V} (r : Dp C.K H u (enc x)) (q : Dp C.K H v (enc ys)) (h64 : PyE.d (List α) ≤ 64) (h : Q (.bl (!memB x ys)) H) : rNotInD C.K u v H Q :=
  ⟨_, _, r, q, shaped_of (Nat.le_trans (Nat.le_succ _) h64) x, shaped_of h64 ys, by rw [any_eqv]; exact h⟩
/-! ### None -/
class NN (α : Type) [Py α] : Prop where
  ne : ∀ x : α, enc x ≠ PyData.none
instance : NN Int := ⟨fun _ z => nomatch z⟩
instance : NN Bool := ⟨fun _ z => nomatch z⟩
instance : NN Str := ⟨fun _ z => nomatch z⟩
instance {α : Type} [Py α] : NN (List α) := ⟨fun _ z => nomatch z⟩
instance {α : Type} [Py α] : NN (T1 α) := ⟨fun _ z => nomatch z⟩
instance {α β : Type} [Py α] [Py β] : NN (T2 α β) := ⟨fun _ z => nomatch z⟩
instance {α β γ : Type} [Py α] [Py β] [Py γ] : NN (T3 α β γ) := ⟨fun _ z => nomatch z⟩
instance {α β γ δ : Type} [Py α] [Py β] [Py γ] [Py δ] : NN (T4 α β γ δ) := ⟨fun _ z => nomatch z⟩
theorem rep_non {K : PySem.W.Frag} {d : PyData} {v : V} (r : Rep K X H d v) (ne : d ≠ .none) : v ≠ .non := by
  cases r <;> intro z <;> first | exact ne rfl | cases z
def rIsNX : R2 := fun x y H Q => y = .non ∧ Q (.bl (decide (x = .non))) H
def rNotNX : R2 := fun x y H Q => y = .non ∧ Q (.bl (!decide (x = .non))) H
theorem op_isNX {Xc : Cx} : OpR Xc (compareOp .Is) rIsNX := op_isN
theorem op_notNX {Xc : Cx} : OpR Xc (compareOp .IsNot) rNotNX := op_notN
theorem dec_none [Py α] [NN α] {K : PySem.W.Frag} {o : Option α} {v : V} (r : Rep K X H (enc o) v) : decide (v = V.non) = o.isNone := by
  cases o with
  | none => cases (show Rep K X H PyData.none v from r); rfl
  | some x => simp [rep_non (show Rep K X H (enc x) v from r) (NN.ne x)]
theorem x_isNO [Py α] [NN α] {o : Option α} {v : V} (r : Rep C.K X H (enc o) v) (h : Q (.bl o.isNone) H) : rIsNX v .non H Q := ⟨rfl, by rw [dec_none r]; exact h⟩
theorem x_notNO [Py α] [NN α] {o : Option α} {v : V} (r : Rep C.K X H (enc o) v) (h : Q (.bl (!o.isNone)) H) : rNotNX v .non H Q := ⟨rfl, by rw [dec_none r]; exact h⟩
theorem x_isNS {v : V} {b : Bool} (e : decide (v = V.non) = b) (h : Q (.bl b) H) : rIsNX v .non H Q := ⟨rfl, by rw [e]; exact h⟩
theorem x_notNS {v : V} {b : Bool} (e : decide (v = V.non) = b) (h : Q (.bl (!b)) H) : rNotNX v .non H Q := ⟨rfl, by rw [e]; exact h⟩
theorem x_isND [Py α] [NN α] {x : α} {v : V} (r : Rep C.K X H (enc x) v) (h : Q (.bl false) H) : rIsNX v .non H Q := ⟨rfl, by rw [show decide (v = V.non) = false from by simp [rep_non r (NN.ne x)]]; exact h⟩
theorem x_notND [Py α] [NN α] {x : α} {v : V} (r : Rep C.K X H (enc x) v) (h : Q (.bl (!false)) H) : rNotNX v .non H Q := ⟨rfl, by rw [show decide (v = V.non) = false from by simp [rep_non r (NN.ne x)]]; exact h⟩
/-- a value that is not None -/
theorem Lo.someS [Py α] {o : Option α} {x : α} {i : Nat} (L : Lo C X H σ Γ) (g : Γ[i]? = some (.imm (enc o))) (e : o = some x) (eΓ : Γ.set i (.imm (enc x)) = Γ') : Lo C X H σ Γ' := by
  subst eΓ
  have hil : i < Γ.length := (List.getElem?_eq_some_iff.mp g).1
  have : Γ.set i (.imm (enc x)) = Γ := by
    apply List.ext_getElem?
    intro j
    by_cases z : j = i
    · subst z; rw [List.getElem?_set_self hil, g, e]; rfl
    · rw [List.getElem?_set_ne (Ne.symm z)]
  rw [this]; exact L
instance [Py α] [NN α] [DecidableEq α] [PyE α] : PyE (Option α) where
  d := PyE.d α
  eqv := fun x y => by
    have hn : ∀ z : α, PyData.eqv .none (enc z) = false ∧ PyData.eqv (enc z) .none = false := fun z => by
      have := NN.ne z
      constructor
      · cases h : enc z <;> first | exact (this h).elim | (unfold PyData.eqv; rfl)
      · cases h : enc z <;> first | exact (this h).elim | (unfold PyData.eqv; rfl)
    cases x with
    | none => cases y with
      | none => show PyData.eqv .none .none = _; unfold PyData.eqv; rfl
      | some y => show PyData.eqv .none (enc y) = _; rw [(hn y).1]; rfl
    | some x => cases y with
      | none => show PyData.eqv (enc x) .none = _; rw [(hn x).2]; rfl
      | some y => show PyData.eqv (enc x) (enc y) = _; rw [PyE.eqv]; by_cases z : x = y <;> simp [z]
  lay := fun x => by
    cases x with
    | none => rfl
    | some x => exact PyE.lay x
  dep := fun x => by
    cases x with
    | none => exact Nat.zero_le _
    | some x => exact PyE.dep x
/-! ### built-ins -/
theorem x_cb {r : List V → Hp → VK → Prop} {t : TA} (h : t σ H fun vs H1 => r vs H1 Q) : tCB r t σ H Q := h
theorem x_call {sp : Sp} {E : XK} {t : TA} (h : t σ H fun vs H1 => sp (vs ++ []) H1 Q E) : tCall sp [] E t σ H Q := h
def rLenX (K : PySem.W.Frag) : List V → Hp → VK → Prop := fun xs H Q => ∃ p ys, xs = [.ref p] ∧ (SqL K H p ys ∨ SqT K H p ys) ∧ Q (.int ys.length) H
theorem call_lenX {Xc : Cx} : CallR Xc (.builtin "len") (rLenX Xc.K) := call_len_seq
def rAbsX : List V → Hp → VK → Prop := fun xs H Q => ∃ i, xs = [.int i] ∧ Q (.int (if i < 0 then -i else i)) H
theorem call_absX {Xc : Cx} : CallR Xc (.builtin "abs") rAbsX := call_abs
def rIntX : List V → Hp → VK → Prop := fun xs H Q => (∃ i, xs = [.int i] ∧ Q (.int i) H) ∨ ∃ k, xs = [.bl k] ∧ Q (.int (if k then 1 else 0)) H
theorem call_intX {Xc : Cx} : CallR Xc (.type "int") rIntX := call_int1
def rMaxX : List V → Hp → VK → Prop := fun xs H Q => ∃ i j, xs = [.int i, .int j] ∧ Q (.int (if j > i then j else i)) H
theorem call_maxX {Xc : Cx} (hc : Xc.calm = true) : CallR Xc (.builtin "max") rMaxX := call_max2 hc
def rMinX : List V → Hp → VK → Prop := fun xs H Q => ∃ i j, xs = [.int i, .int j] ∧ Q (.int (if j < i then j else i)) H
theorem call_minX {Xc : Cx} (hc : Xc.calm = true) : CallR Xc (.builtin "min") rMinX := call_min2 hc
def rListX (K : PySem.W.Frag) : List V → Hp → VK → Prop := fun xs H Q => ∃ p ys, xs = [.ref p] ∧ (SqL K H p ys ∨ SqT K H p ys) ∧ ∀ l, H l = none → Q (.ref l) (upd H l (.lst ys))
theorem call_listX {Xc : Cx} : CallR Xc (.type "list") (rListX Xc.K) := call_list_of
theorem x_lenL [Py α] {xs : List α} {v : V} (r : Rep C.K X H (enc xs) v) (h : Q (.int (xs.length : Int)) H) : rLenX C.K [v] H Q := by
  obtain ⟨a, vs, rfl, _, hs, q⟩ := rep_lst (ds := xs.map enc) r
  refine ⟨a, vs, rfl, .inl (.inl hs), ?_⟩
  rw [q.length, List.length_map]; exact h
theorem x_lenS {ns : List Int} {v : V} (r : SqX C.K X H ns v) (h : Q (.int (ns.length : Int)) H) : rLenX C.K [v] H Q := by
  obtain ⟨a, rfl, hs⟩ := r.sq
  refine ⟨a, _, rfl, .inl hs, ?_⟩
  rw [List.length_map]; exact h
theorem x_lenM [Py α] {xs : List α} {j : Nat} {p : Addr} (L : Lo C X H σ Γ) (g : Γ[j]? = some (.mu p (ml xs))) (h : Q (.int (xs.length : Int)) H) : rLenX C.K [.ref p] H Q := by
  obtain ⟨vs, hs, q⟩ := L.mrep g
  refine ⟨p, vs, rfl, .inl (.inl (.inl hs)), ?_⟩
  rw [q.length, List.length_map]; exact h
theorem x_lenT {ds : List PyData} {n : Int} {v : V} (r : Rep C.K X H (.tuple ds) v) (e : (ds.length : Int) = n) (h : Q (.int n) H) : rLenX C.K [v] H Q := by
  obtain ⟨a, vs, rfl, hs, q⟩ := rep_tup r
  refine ⟨a, vs, rfl, .inr hs, ?_⟩
  rw [q.length, e]; exact h
/-- a value's type -/
def tyName : PyData → String
  | .none => "NoneType"
  | .bool _ => "bool"
  | .int _ => "int"
  | .str _ => "str"
  | .list _ => "list"
  | .tuple _ => "tuple"
  | .dict _ => "dict"
theorem Rep.ty {d : PyData} {v : V} (r : Rep C.K X H d v) : TyX C.K H v (.type (tyName d)) := by
  cases r with
  | non => exact .base .non
  | bl b => exact .base (.bl b)
  | int i => exact .base (.int i)
  | str x => exact .base (.str x)
  | tup h q =>
    rcases h with (h | ⟨o, h⟩) | ⟨o, its, n, hk, hc, _⟩
    · exact .base (.tup h)
    · exact .fTuple h
    · exact .kTuple hk hc
  | lst n h q =>
    rcases h with h | ⟨o, h⟩
    · exact .base (.lst h)
    · exact .base (.frz h)
theorem x_isi {d : PyData} {v : V} {T : String} {b : Bool} (r : Rep C.K X H d v) (e : kitB (tyName d) T = some b) (h : Q (.bl b) H) : rIsi C.K [v, .ty T] H Q :=
  ⟨v, .ty T, _, .type T, b, rfl, .ty T, r.ty, kit_ty e, h⟩
theorem x_isiI {K : PySem.W.Frag} {x : Int} {T : String} {b : Bool} (e : kitB (tyName (PyData.int x)) T = some b) (h : Q (.bl b) H) : rIsi K [(V.int x), .ty T] H Q :=
  x_isi (C := ⟨K, fun _ => False, H, [], 0⟩) (X := fun _ => False) (d := (PyData.int x)) (.int _) e h
theorem x_isiB {K : PySem.W.Frag} {x : Bool} {T : String} {b : Bool} (e : kitB (tyName (PyData.bool x)) T = some b) (h : Q (.bl b) H) : rIsi K [(V.bl x), .ty T] H Q :=
  x_isi (C := ⟨K, fun _ => False, H, [], 0⟩) (X := fun _ => False) (d := (PyData.bool x)) (.bl _) e h
theorem x_isiS {K : PySem.W.Frag} {x : Str} {T : String} {b : Bool} (e : kitB (tyName (PyData.str x)) T = some b) (h : Q (.bl b) H) : rIsi K [(V.str x), .ty T] H Q :=
  x_isi (C := ⟨K, fun _ => False, H, [], 0⟩) (X := fun _ => False) (d := (PyData.str x)) (.str _) e h
theorem x_isiN {K : PySem.W.Frag} {x : Unit} {T : String} {b : Bool} (e : kitB (tyName PyData.none) T = some b) (h : Q (.bl b) H) : rIsi K [V.non, .ty T] H Q :=
  x_isi (C := ⟨K, fun _ => False, H, [], 0⟩) (X := fun _ => False) (d := PyData.none) .non e h
theorem x_isiM {i : Nat} {p : Addr} {ds : List PyData} {T : String} {b : Bool} (L : Lo C X H σ Γ) (g : Γ[i]? = some (.mu p (.lst ds))) (e : kitB "list" T = some b) (h : Q (.bl b) H) : rIsi C.K [.ref p, .ty T] H Q := by
  obtain ⟨vs, hs, q⟩ := L.mrep g
  exact ⟨.ref p, .ty T, _, .type T, b, rfl, .ty T, .base (.lst hs), kit_ty e, h⟩
theorem x_abs {a : Int} (h : Q (.int (iabs a)) H) : rAbsX [V.int a] H Q := ⟨a, rfl, h⟩
theorem x_intb {b : Bool} (h : Q (.int (b2 b)) H) : rIntX [V.bl b] H Q := .inr ⟨b, rfl, h⟩
theorem x_inti {a : Int} (h : Q (.int a) H) : rIntX [V.int a] H Q := .inl ⟨a, rfl, h⟩
def imax (a b : Int) : Int := if b > a then b else a
def imin (a b : Int) : Int := if b < a then b else a
theorem x_max {a b : Int} (h : Q (.int (imax a b)) H) : rMaxX [V.int a, V.int b] H Q := ⟨a, b, rfl, h⟩
theorem x_min {a b : Int} (h : Q (.int (imin a b)) H) : rMinX [V.int a, V.int b] H Q := ⟨a, b, rfl, h⟩
theorem x_all {bs : List Bool} {v : V} (r : Rep C.K X H (enc bs) v) (h : Q (.bl (bs.all id)) H) : rAll C.K [v] H Q := by
  obtain ⟨a, vs, rfl, _, hs, q⟩ := rep_lst (ds := bs.map enc) r
  have e := Reps.toBools q
  subst e
  exact ⟨a, bs, rfl, .inl hs, h⟩
theorem x_sum {ns : List Int} {v : V} (r : Rep C.K X H (enc ns) v) (h : Q (.int ns.sum) H) : rSum C.K [v] H Q := by
  obtain ⟨a, vs, rfl, _, hs, q⟩ := rep_lst (ds := ns.map enc) r
  have e := Reps.toInts q
  subst e
  exact ⟨a, ns, rfl, .inl hs, h⟩
theorem x_any {bs : List Bool} {v : V} (r : Rep C.K X H (enc bs) v) (h : Q (.bl (bs.any id)) H) : rAny C.K [v] H Q := by
  obtain ⟨a, vs, rfl, _, hs, q⟩ := rep_lst (ds := bs.map enc) r
  have e := Reps.toBools q
  subst e
  exact ⟨a, bs, rfl, .inl hs, h⟩
/-! ### slices, sums of lists -/
def slice {α : Type} (xs : List α) (lo hi : Option Int) : List α := (xs.drop (HT.sIx xs.length 0 lo)).take (HT.sIx xs.length xs.length hi - HT.sIx xs.length 0 lo)
def KPart (Q : Option Int → Hp → Prop) : VK := fun x H => ∃ i, x = .int i ∧ Q (some i) H
theorem x_sl {r : V → Option Int → Option Int → Hp → VK → Prop} {te : TE} {tl th : TO} (h : te σ H fun x H1 => tl σ H1 fun l H2 => th σ H2 fun u H3 => r x l u H3 Q) : tSl r te tl th σ H Q := h
theorem x_noP {Q : Option Int → Hp → Prop} (h : Q none H) : tNoPart σ H Q := h
theorem x_part {t : TE} {Q : Option Int → Hp → Prop} (h : t σ H (KPart Q)) : tPart t σ H Q := h
theorem x_partK {i : Int} {Q : Option Int → Hp → Prop} (h : Q (some i) H) : KPart Q (.int i) H := ⟨i, rfl, h⟩
theorem reps_slice {K : PySem.W.Frag} [Py α] {xs : List α} {vs : List V} {lo hi : Option Int} (q : Reps K X H (xs.map enc) vs) : Reps K X H ((slice xs lo hi).map enc) (cutV vs lo hi) := by
  have e : vs.length = xs.length := by rw [q.length, List.length_map]
  unfold slice cutV
  rw [e, List.map_take, List.map_drop]
  exact (q.drop _).take _
/-- a new list, told as data or as the body's own -/
theorem x_new {ds : List PyData} {vs : List V} (L : Lo C X H σ Γ) (q : Reps C.K X H ds vs) (h : ∀ v H1, Lo C X H1 σ Γ → (∀ d u, Rep C.K X H d u → Rep C.K X H1 d u) → Rep C.K X H1 (.list ds) v → Q v H1) : ∀ p, H p = none → Q (.ref p) (upd H p (.lst vs)) := fun p hp => by
  have s : Same H (upd H p (.lst vs)) := same_upd hp
  have r : RRep C.K X H (upd H p (.lst vs)) (.new (.lst ds)) (.ref p) := ⟨p, rfl, hp, vs, upd_same, (q.more hp).keep (.same s)⟩
  exact h _ _ (L.same s) (fun _ _ r => r.keep (.same s)) (r.imm L.xd)
theorem x_newN {ds : List PyData} {vs : List V} (L : Lo C X H σ Γ) (q : Reps C.K X H ds vs) (h : ∀ p X' H1, C.H0 p = none → ¬ C.X0 p → Lo C X' H1 σ (Γ ++ [.tmp p (.lst ds)]) → (∀ d u, Rep C.K X H d u → Rep C.K X' H1 d u) → Q (.ref p) H1) : ∀ p, H p = none → Q (.ref p) (upd H p (.lst vs)) := fun p hp => by
  have s : Same H (upd H p (.lst vs)) := same_upd hp
  obtain ⟨L1, le, h0, hx⟩ := L.lay (o := .lst ds) hp s ⟨vs, upd_same, (q.more hp).keep (.same s)⟩
  exact h p _ _ h0 hx L1 le
theorem x_slL [Py α] {xs : List α} {v : V} {lo hi : Option Int} (L : Lo C X H σ Γ) (r : Rep C.K X H (enc xs) v) (h : ∀ v H1, Lo C X H1 σ Γ → (∀ d u, Rep C.K X H d u → Rep C.K X H1 d u) → Rep C.K X H1 (enc (slice xs lo hi)) v → Q v H1) : rSlL C.K v lo hi H Q := by
  obtain ⟨a, vs, rfl, _, hs, q⟩ := rep_lst (ds := xs.map enc) r
  exact ⟨a, vs, rfl, .inl hs, x_new L (reps_slice q) h⟩
theorem x_slN [Py α] {xs : List α} {v : V} {lo hi : Option Int} (L : Lo C X H σ Γ) (r : Rep C.K X H (enc xs) v) (h : ∀ p X' H1, C.H0 p = none → ¬ C.X0 p → Lo C X' H1 σ (Γ ++ [.tmp p (ml (slice xs lo hi))]) → (∀ d u, Rep C.K X H d u → Rep C.K X' H1 d u) → Q (.ref p) H1) : rSlL C.K v lo hi H Q := by
  obtain ⟨a, vs, rfl, _, hs, q⟩ := rep_lst (ds := xs.map enc) r
  exact ⟨a, vs, rfl, .inl hs, x_newN L (reps_slice q) h⟩
theorem x_slM [Py α] {xs : List α} {i : Nat} {p : Addr} {lo hi : Option Int} (L : Lo C X H σ Γ) (g : Γ[i]? = some (.mu p (ml xs))) (h : ∀ v H1, Lo C X H1 σ Γ → (∀ d u, Rep C.K X H d u → Rep C.K X H1 d u) → Rep C.K X H1 (enc (slice xs lo hi)) v → Q v H1) : rSlL C.K (.ref p) lo hi H Q := by
  obtain ⟨vs, hs, q⟩ := L.mrep g
  exact ⟨p, vs, rfl, .inl (.inl hs), x_new L (reps_slice q) h⟩
theorem x_slMN [Py α] {xs : List α} {i : Nat} {p : Addr} {lo hi : Option Int} (L : Lo C X H σ Γ) (g : Γ[i]? = some (.mu p (ml xs))) (h : ∀ p X' H1, C.H0 p = none → ¬ C.X0 p → Lo C X' H1 σ (Γ ++ [.tmp p (ml (slice xs lo hi))]) → (∀ d u, Rep C.K X H d u → Rep C.K X' H1 d u) → Q (.ref p) H1) : rSlL C.K (.ref p) lo hi H Q := by
  obtain ⟨vs, hs, q⟩ := L.mrep g
  exact ⟨p, vs, rfl, .inl (.inl hs), x_newN L (reps_slice q) h⟩
theorem x_slS {ns : List Int} {v : V} {lo hi : Option Int} (L : Lo C X H σ Γ) (r : SqX C.K X H ns v) (h : ∀ v H1, Lo C X H1 σ Γ → (∀ d u, Rep C.K X H d u → Rep C.K X H1 d u) → Rep C.K X H1 (enc (slice ns lo hi)) v → Q v H1) : rSlL C.K v lo hi H Q := by
  obtain ⟨a, rfl, hs⟩ := r.sq
  refine ⟨a, _, rfl, hs, x_new L (reps_slice (xs := ns) ?_) h⟩
  exact Reps.ints
/-- a part of a tuple -/
theorem x_slT {ds es : List PyData} {v : V} {lo hi : Option Int} (n : Nat) (L : Lo C X H σ Γ) (r : Rep C.K X H (.tuple ds) v) (hn : ds.length = n) (e : (ds.drop (HT.sIx ds.length 0 lo)).take (HT.sIx ds.length ds.length hi - HT.sIx ds.length 0 lo) = es) (ne : ¬ (HT.sIx n 0 lo = 0 ∧ HT.sIx n n hi = n))
    (h : ∀ v H1, Lo C X H1 σ Γ → (∀ d u, Rep C.K X H d u → Rep C.K X H1 d u) → Rep C.K X H1 (.tuple es) v → Q v H1) : rSlT C.K v lo hi H Q := by
  obtain ⟨a, vs, rfl, hs, q⟩ := rep_tup r
  have e2 : vs.length = ds.length := q.length
  refine ⟨a, vs, rfl, hs, by rw [e2, hn]; exact ne, fun p hp => ?_⟩
  have s : Same H (upd H p (.tup (cutV vs lo hi))) := same_upd hp
  have q2 : Reps C.K X H es (cutV vs lo hi) := by
    rw [← e]
    unfold cutV
    rw [e2]
    exact (q.drop _).take _
  exact h _ _ (L.same s) (fun _ _ r => r.keep (.same s)) (.tup (.of upd_same) (q2.keep (.same s)))
/-- xs[::-1] -/
def KRev (K : PySem.W.Frag) (Q : VK) : VK := fun x H => ∃ a xs, x = .ref a ∧ SqL K H a xs ∧ ∀ p, H p = none → Q (.ref p) (upd H p (.lst xs.reverse))
theorem x_revL {K : PySem.W.Frag} {te : TE} (h : te σ H (KRev K Q)) : tRevL K te σ H Q := h
theorem x_revv [Py α] {xs : List α} {v : V} (L : Lo C X H σ Γ) (r : Rep C.K X H (enc xs) v) (h : ∀ v H1, Lo C X H1 σ Γ → (∀ d u, Rep C.K X H d u → Rep C.K X H1 d u) → Rep C.K X H1 (enc xs.reverse) v → Q v H1) : KRev C.K Q v H := by
  obtain ⟨a, vs, rfl, _, hs, q⟩ := rep_lst (ds := xs.map enc) r
  exact ⟨a, vs, rfl, .inl hs, x_new (ds := xs.reverse.map enc) L (by rw [List.map_reverse]; exact q.reverse) h⟩
theorem x_revN [Py α] {xs : List α} {v : V} (L : Lo C X H σ Γ) (r : Rep C.K X H (enc xs) v) (h : ∀ p X' H1, C.H0 p = none → ¬ C.X0 p → Lo C X' H1 σ (Γ ++ [.tmp p (ml xs.reverse)]) → (∀ d u, Rep C.K X H d u → Rep C.K X' H1 d u) → Q (.ref p) H1) : KRev C.K Q v H := by
  obtain ⟨a, vs, rfl, _, hs, q⟩ := rep_lst (ds := xs.map enc) r
  exact ⟨a, vs, rfl, .inl hs, x_newN (ds := xs.reverse.map enc) L (by rw [List.map_reverse]; exact q.reverse) h⟩
/-- list(xs) -/
theorem x_listL [Py α] {xs : List α} {v : V} (L : Lo C X H σ Γ) (r : Rep C.K X H (enc xs) v) (h : ∀ v H1, Lo C X H1 σ Γ → (∀ d u, Rep C.K X H d u → Rep C.K X H1 d u) → Rep C.K X H1 (enc xs) v → Q v H1) : rListX C.K [v] H Q := by
  obtain ⟨a, vs, rfl, _, hs, q⟩ := rep_lst (ds := xs.map enc) r
  exact ⟨a, vs, rfl, .inl (.inl hs), x_new L q h⟩
theorem x_listN [Py α] {xs : List α} {v : V} (L : Lo C X H σ Γ) (r : Rep C.K X H (enc xs) v) (h : ∀ p X' H1, C.H0 p = none → ¬ C.X0 p → Lo C X' H1 σ (Γ ++ [.tmp p (ml xs)]) → (∀ d u, Rep C.K X H d u → Rep C.K X' H1 d u) → Q (.ref p) H1) : rListX C.K [v] H Q := by
  obtain ⟨a, vs, rfl, _, hs, q⟩ := rep_lst (ds := xs.map enc) r
  exact ⟨a, vs, rfl, .inl (.inl hs), x_newN L q h⟩
theorem x_listM [Py α] {xs : List α} {i : Nat} {p : Addr} (L : Lo C X H σ Γ) (g : Γ[i]? = some (.mu p (ml xs))) (h : ∀ v H1, Lo C X H1 σ Γ → (∀ d u, Rep C.K X H d u → Rep C.K X H1 d u) → Rep C.K X H1 (enc xs) v → Q v H1) : rListX C.K [.ref p] H Q := by
  obtain ⟨vs, hs, q⟩ := L.mrep g
  exact ⟨p, vs, rfl, .inl (.inl (.inl hs)), x_new L q h⟩
def rCatR : R2 := fun x y H Q => ∃ l b xs zs, x = .ref l ∧ y = .ref b ∧ Rd H l (.lst xs) ∧ Rd H b (.lst zs) ∧ xs.length + zs.length ≤ sizeLine ∧ ∀ p, H p = none → Q (.ref p) (upd H p (.lst (xs ++ zs)))
theorem op_catR {Xc : Cx} : OpR Xc (binaryOp .Add) rCatR := by
  intro pins s σ H x y v u Q I rx ry h
  obtain ⟨l, b, xs, zs, rfl, rfl, hH, hB, hz, q⟩ := h
  cases rx
  cases ry
  obtain ⟨z, its, n, r, e⟩ := hH.ok I.hok
  obtain ⟨z2, its2, n2, r2, e2⟩ := hB.ok I.hok
  have hl := r.length
  have hl2 := r2.length
  refine PySem.P.add_list e e2 ?_ (by rw [List.size_toArray, List.size_toArray]; omega)
  have ea : its.toArray ++ its2.toArray = (its ++ its2).toArray := by simp
  rw [ea]
  exact ⟨.ref _, _, I.lnew (t' := s.toks) (r.append r2) (by rw [List.length_append]; omega), rfl, q _ I.fresh⟩
theorem len_ok {n : Nat} {k : Unit → Option ρ} {r : ρ} (hm : (lenOk n).bind k = some r) : n ≤ 16777216 ∧ k () = some r := by
  obtain ⟨_, e, hk⟩ := ob hm
  unfold lenOk at e
  split at e
  · exact ⟨by assumption, hk⟩
  · cases e
theorem lenOk_le {n : Nat} {u : Unit} (h : lenOk n = some u) : n ≤ 16777216 := by
  unfold lenOk at h
  split at h
  · assumption
  · cases h
theorem x_cat [Py α] {xs ys : List α} {u v : V} {k : Unit → Option ρ} {r : ρ} (L : Lo C X H σ Γ) (hm : (lenOk (xs.length + ys.length)).bind k = some r) (p : Rep C.K X H (enc xs) u) (q : Rep C.K X H (enc ys) v)
    (h : ∀ v H1, k () = some r → Lo C X H1 σ Γ → (∀ d u, Rep C.K X H d u → Rep C.K X H1 d u) → Rep C.K X H1 (enc (xs ++ ys)) v → Q v H1) : rCatR u v H Q := by
  obtain ⟨hl, hk⟩ := len_ok hm
  obtain ⟨a, vs, rfl, _, hs, q1⟩ := rep_lst (ds := xs.map enc) p
  obtain ⟨b, ws, rfl, _, ht, q2⟩ := rep_lst (ds := ys.map enc) q
  have q3 : Reps C.K X H ((xs ++ ys).map enc) (vs ++ ws) := by rw [List.map_append]; exact q1.append q2
  exact ⟨a, b, vs, ws, rfl, rfl, hs, ht, by rw [line_eq, q1.length, q2.length, List.length_map, List.length_map]; exact hl, x_new L q3 fun v H1 => h v H1 hk⟩
theorem x_catN [Py α] {xs ys : List α} {u v : V} {k : Unit → Option ρ} {r : ρ} (L : Lo C X H σ Γ) (hm : (lenOk (xs.length + ys.length)).bind k = some r) (p : Rep C.K X H (enc xs) u) (q : Rep C.K X H (enc ys) v)
    (h : ∀ p X' H1, k () = some r → C.H0 p = none → ¬ C.X0 p → Lo C X' H1 σ (Γ ++ [.tmp p (ml (xs ++ ys))]) → (∀ d u, Rep C.K X H d u → Rep C.K X' H1 d u) → Q (.ref p) H1) : rCatR u v H Q := by
  obtain ⟨hl, hk⟩ := len_ok hm
  obtain ⟨a, vs, rfl, _, hs, q1⟩ := rep_lst (ds := xs.map enc) p
  obtain ⟨b, ws, rfl, _, ht, q2⟩ := rep_lst (ds := ys.map enc) q
  have q3 : Reps C.K X H ((xs ++ ys).map enc) (vs ++ ws) := by rw [List.map_append]; exact q1.append q2
  exact ⟨a, b, vs, ws, rfl, rfl, hs, ht, by rw [line_eq, q1.length, q2.length, List.length_map, List.length_map]; exact hl, x_newN L q3 fun p X' H1 => h p X' H1 hk⟩
/-! ### methods of lists -/
theorem x_bm {T : String} {r : V → List V → Hp → VK → Prop} {to : TE} {t : TA} (h : to σ H fun x H1 => tyV C.K T x H1 ∧ t σ H1 fun xs H2 => r x xs H2 Q) : tBM C.K T r to t σ H Q := h
theorem x_bm0 {T : String} {r : V → List V → Hp → VK → Prop} {to : TE} (h : to σ H fun x H1 => tyV C.K T x H1 ∧ r x [] H1 Q) : tBM0 C.K T r to σ H Q := h
theorem x_tyM {i : Nat} {p : Addr} {ds : List PyData} {P : Prop} (L : Lo C X H σ Γ) (g : Γ[i]? = some (.mu p (.lst ds))) (h : P) : tyV C.K "list" (.ref p) H ∧ P := by
  obtain ⟨vs, hs, _⟩ := L.mrep g
  exact ⟨.inl ⟨rfl, vs, .inl (.inl hs)⟩, h⟩
/-- the list in a slot is written -/
theorem Lo.write (L : Lo C X H σ Γ) {i : Nat} {p : Addr} {ds es : List PyData} {vs ws : List V} (g : Γ[i]? = some (.mu p (.lst ds))) (hs : H p = some (.lst vs)) (q : Reps C.K X H es ws) :
    Lo C X (upd H p (.lst ws)) σ (Γ.set i (.mu p (.lst es))) ∧ (∀ d u, Rep C.K X H d u → Rep C.K X (upd H p (.lst ws)) d u) := by
  have hX : X p := L.mx p (mem_muts.mpr ⟨i, _, g, rfl⟩)
  have kp : Keep X H (upd H p (.lst ws)) := ⟨fun a u h n => by rw [upd_ne (fun z => n (by rw [z]; exact hX))]; exact h, fun a us h => by rw [upd_ne (fun z => by rw [z, hs] at h; cases h)]; exact h, fun a u w h => by rw [upd_ne (fun z => by rw [z, hs] at h; cases h)]; exact h⟩
  exact L.wrote (H' := upd H p (.lst ws)) (o := .lst es) g rfl (fun a u h n => by rw [upd_ne n]; exact h) (fun a h => by
      by_cases z : a = p
      · rw [z, upd_same]; exact fun y => nomatch y
      · rw [upd_ne z]; exact h) ⟨ws, upd_same, q.keep kp⟩
theorem x_append [Py α] {xs : List α} {x : α} {v : V} {i : Nat} {p : Addr} {k : Unit → Option ρ} {r : ρ} (L : Lo C X H σ Γ) (g : Γ[i]? = some (.mu p (ml xs))) (hm : (lenOk (xs.length + 1)).bind k = some r) (q : Rep C.K X H (enc x) v) (e : Γ.set i (.mu p (ml (xs ++ [x]))) = Γ')
    (h : ∀ H1, k () = some r → Lo C X H1 σ Γ' → (∀ d u, Rep C.K X H d u → Rep C.K X H1 d u) → Q .non H1) : rAppend (.ref p) [v] H Q := by
  subst e
  obtain ⟨hl, hk⟩ := len_ok hm
  obtain ⟨vs, hs, rs⟩ := L.mrep g
  have hlen : vs.length = xs.length := by rw [rs.length, List.length_map]
  obtain ⟨L1, le⟩ := L.write (es := (xs ++ [x]).map enc) (ws := vs ++ [v]) g hs (by rw [List.map_append]; exact rs.append (.cons q .nil))
  exact ⟨p, vs, v, rfl, rfl, hs, by rw [line_eq]; omega, h _ hk L1 le⟩
def rExtendR : V → List V → Hp → VK → Prop := fun x vs H Q => ∃ l b xs zs, x = .ref l ∧ vs = [.ref b] ∧ H l = some (.lst xs) ∧ Rd H b (.lst zs) ∧ xs.length + zs.length ≤ sizeLine ∧ Q .non (upd H l (.lst (xs ++ zs)))
theorem mt_extendR {Xc : Cx} : MtM Xc "list.extend" rExtendR := by
  intro pins s σ H x vs v us Q I rx rv h
  obtain ⟨l, b, xs, zs, rfl, rfl, hH, hB, hz, q⟩ := h
  cases rx
  obtain ⟨u, rfl, ru⟩ := rv.one
  cases ru
  obtain ⟨z, its, n, r, hl, e⟩ := I.lstM hH
  obtain ⟨z2, its2, n2, r2, e2⟩ := hB.ok I.hok
  have hl2 := r2.length
  have hsz : its.toArray.size + its2.toArray.size ≤ sizeLine := by rw [List.size_toArray, List.size_toArray]; omega
  have hlong : ¬ (!its.toArray.isEmpty && Builtin.List.listTooLong (its.toArray.size + its2.toArray.size)) = true := by
    rw [notLongL hsz, Bool.and_false]
    exact Bool.false_ne_true
  refine call_meets F.slot_list_extend ⟨_, e, rfl⟩ F.entry_list_extend (F.args_list_extend_2 _ _)
    (AutoSeq1.list_extend_list_list_0 l its.toArray n b its2.toArray n2 hlong (by rw [List.size_toArray]; omega) (by omega)) ⟨e, e2, ?_⟩
  refine ⟨.non, _, I.lset (its' := its ++ its2) hH e (by simp) (r.append r2) ?_, rfl, q⟩
  rw [List.length_append]
  omega
theorem x_extend [Py α] {xs ys : List α} {v : V} {i : Nat} {p : Addr} {k : Unit → Option ρ} {r : ρ} (L : Lo C X H σ Γ) (g : Γ[i]? = some (.mu p (ml xs))) (hm : (lenOk (xs.length + ys.length)).bind k = some r) (q : Rep C.K X H (enc ys) v) (e : Γ.set i (.mu p (ml (xs ++ ys))) = Γ')
    (h : ∀ H1, k () = some r → Lo C X H1 σ Γ' → (∀ d u, Rep C.K X H d u → Rep C.K X H1 d u) → Q .non H1) : rExtendR (.ref p) [v] H Q := by
  subst e
  obtain ⟨hl, hk⟩ := len_ok hm
  obtain ⟨vs, hs, rs⟩ := L.mrep g
  obtain ⟨b, ws, rfl, _, ht, q2⟩ := rep_lst (ds := ys.map enc) q
  obtain ⟨L1, le⟩ := L.write (es := (xs ++ ys).map enc) (ws := vs ++ ws) g hs (by rw [List.map_append]; exact rs.append q2)
  exact ⟨p, b, vs, ws, rfl, rfl, hs, ht, by rw [line_eq, rs.length, q2.length, List.length_map, List.length_map]; exact hl, h _ hk L1 le⟩
/-! ### what a call asks, and what stands behind it -/
theorem nd0 {Γa : List Sl} (e : muts Γa = []) : (muts Γa).Nodup := by rw [e]; exact List.nodup_nil
theorem nd1 {Γa : List Sl} {p : Addr} (e : muts Γa = [p]) : (muts Γa).Nodup := by rw [e]; simp
theorem Lo.cond0 (L : Lo C X H σ Γ) {Γa : List Sl} {vs : List V} (as : As C.K X H Γa vs) (e : muts Γa = []) : Cond C.K X H Γa vs := L.cond as (nd0 e) (by rw [e]; intro _ h; cases h)
theorem Lo.cond1 (L : Lo C X H σ Γ) {Γa : List Sl} {vs : List V} {i : Nat} {s : Sl} {p : Addr} (as : As C.K X H Γa vs) (e : muts Γa = [p]) (g : Γ[i]? = some s) (es : s.ad = some p) : Cond C.K X H Γa vs := L.cond as (nd1 e) (by
  rw [e]; intro q h
  rw [List.mem_singleton] at h
  subst h
  exact mem_muts.mpr ⟨i, s, g, es⟩)
theorem hp0 {K : PySem.W.Frag} : ∀ q ∈ ([] : List (Addr × MO)), MRep K X H q.1 q.2 := fun _ h => nomatch h
theorem hp1 {K : PySem.W.Frag} {p : Addr} {o : MO} (h : MRep K X H p o) : ∀ q ∈ [(p, o)], MRep K X H q.1 q.2 := fun q hq => by
  rw [List.mem_singleton] at hq
  subst hq
  exact h
theorem Lo.tmp (L : Lo C X H σ Γ) {i : Nat} {p : Addr} {o : MO} (e : Γ[i]? = some (.tmp p o)) : MRep C.K X H p o := L.at_ i _ e
/-- behind a call -/
theorem k0 {v : V} {H' : Hp} {rs : Rs} {ps : List (Addr × MO)} {G : Prop} (L : Lo C X H σ Γ) (F : Fin C.K X H [] ps rs v H') (h : Lo C X H' σ Γ → (∀ d u, Rep C.K X H d u → Rep C.K X H' d u) → G) : G := h (L.after0 F).1 (L.after0 F).2
theorem k0d {v : V} {H' : Hp} {d : PyData} {ps : List (Addr × MO)} {G : Prop} (L : Lo C X H σ Γ) (F : Fin C.K X H [] ps (.imm d) v H') (h : Lo C X H' σ Γ → (∀ d u, Rep C.K X H d u → Rep C.K X H' d u) → Rep C.K X H' d v → G) : G := h (L.after0 F).1 (L.after0 F).2 F.res
/-- .. that tells a new list, as data -/
theorem k0i {v : V} {H' : Hp} {ds : List PyData} {ps : List (Addr × MO)} {G : Prop} (L : Lo C X H σ Γ) (F : Fin C.K X H [] ps (.new (.lst ds)) v H') (h : Lo C X H' σ Γ → (∀ d u, Rep C.K X H d u → Rep C.K X H' d u) → Rep C.K X H' (.list ds) v → G) : G := h (L.after0 F).1 (L.after0 F).2 (RRep.imm F.res L.xd)
/-- .. as the body's own -/
theorem k0N {p : Addr} {H' : Hp} {o : MO} {ps : List (Addr × MO)} {P : Prop} (L : Lo C X H σ Γ) (F : Fin C.K X H [] ps (.new o) (.ref p) H') (h : ∀ X', C.H0 p = none → ¬ C.X0 p → Lo C X' H' σ (Γ ++ [.tmp p o]) → (∀ d u, Rep C.K X H d u → Rep C.K X' H' d u) → P) : P := by
  obtain ⟨p', e, a, b, X', c, d⟩ := L.after0N F
  cases e
  exact h X' a b c d
/-- .. that wrote the object of one slot -/
theorem k1 {v : V} {H' : Hp} {rs : Rs} {p : Addr} {o : MO} {s : Sl} {G : Prop} (L : Lo C X H σ Γ) (F : Fin C.K X H [p] [(p, o)] rs v H') {i : Nat} (e : Γ[i]? = some s) (es : s.ad = some p) (eΓ : Γ.set i (s.to o) = Γ') (h : Lo C X H' σ Γ' → (∀ d u, Rep C.K X H d u → Rep C.K X H' d u) → G) : G := by
  subst eΓ
  exact h (L.after1 F e es).1 (L.after1 F e es).2
theorem k1d {v : V} {H' : Hp} {d : PyData} {p : Addr} {o : MO} {s : Sl} {G : Prop} (L : Lo C X H σ Γ) (F : Fin C.K X H [p] [(p, o)] (.imm d) v H') {i : Nat} (e : Γ[i]? = some s) (es : s.ad = some p) (eΓ : Γ.set i (s.to o) = Γ') (h : Lo C X H' σ Γ' → (∀ d u, Rep C.K X H d u → Rep C.K X H' d u) → Rep C.K X H' d v → G) : G := by
  subst eΓ
  exact h (L.after1 F e es).1 (L.after1 F e es).2 F.res
theorem k1i {v : V} {H' : Hp} {ds : List PyData} {p : Addr} {o : MO} {s : Sl} {G : Prop} (L : Lo C X H σ Γ) (F : Fin C.K X H [p] [(p, o)] (.new (.lst ds)) v H') {i : Nat} (e : Γ[i]? = some s) (es : s.ad = some p) (eΓ : Γ.set i (s.to o) = Γ') (h : Lo C X H' σ Γ' → (∀ d u, Rep C.K X H d u → Rep C.K X H' d u) → Rep C.K X H' (.list ds) v → G) : G := by
  subst eΓ
  exact h (L.after1 F e es).1 (L.after1 F e es).2 (RRep.imm F.res L.xd)
/-- .. and tells a new one, the body's own -/
theorem ints_any {K : PySem.W.Frag} {X Y : Addr → Prop} : ∀ {xs : List Int} {vs : List V}, Reps K X H (xs.map enc) vs → Reps K Y H (xs.map enc) vs
  | [], _, .nil => .nil
  | _ :: _, _, .cons (.int i) t => .cons (.int i) (ints_any t)
theorem k1N {q : Addr} {H' : Hp} {o' : MO} {p : Addr} {xs : List Int} {s : Sl} {P : Prop} (L : Lo C X H σ Γ) (F : Fin C.K X H [p] [(p, ml xs)] (.new o') (.ref q) H') {i : Nat} (e : Γ[i]? = some s) (es : s.ad = some p) (eΓ : Γ.set i (s.to (ml xs)) = Γ') (h : ∀ X', C.H0 q = none → ¬ C.X0 q → Lo C X' H' σ (Γ' ++ [.tmp q o']) → (∀ d u, Rep C.K X H d u → Rep C.K X' H' d u) → P) : P := by
  subst eΓ
  have hpm : p ∈ muts Γ := mem_muts.mpr ⟨i, s, e, es⟩
  have hpx : X p := L.mx p hpm
  obtain ⟨o0, r0⟩ := L.mem hpm
  have kp : Keep X H H' := ⟨fun a u h n => F.base a u h fun z => n (by rw [List.mem_singleton] at z; exact z ▸ hpx), fun a vs h => F.base a _ h fun z => by rw [List.mem_singleton] at z; exact r0.ntup.1 _ (z ▸ h), fun a u w h => F.base a _ h fun z => by rw [List.mem_singleton] at z; exact r0.ntup.2 _ _ (z ▸ h)⟩
  have L' := (L.after1 F e es).1
  have hil : i < Γ.length := (List.getElem?_eq_some_iff.mp e).1
  obtain ⟨q', e', a, b, c, d⟩ := L.afterN F L' kp (by intro q hq; rw [List.mem_singleton] at hq; exact hq ▸ hpm) (muts_to e) fun j t hj => by
    have hs := L'.at_ j t hj
    by_cases z : j = i
    · subst z
      rw [List.getElem?_set_self hil] at hj
      cases hj
      have hp' : (s.to (ml xs)).ad = some p := by
        cases s with
        | unk => cases es
        | scr ns => cases es
        | ref a => cases es
        | imm d => cases es
        | fix _ _ => cases es
        | fixN _ _ => cases es
        | mu p' o1 => exact es
        | tmp p' o1 => exact es
      refine .inr ⟨p, hp', fun q hq => ?_⟩
      obtain ⟨vs, h1, h2⟩ := F.mu (p, ml xs) (by simp)
      have this : MRep C.K (fun a => X a ∨ a = q) H' p (ml xs) := ⟨vs, h1, ints_any h2⟩
      cases s with
      | unk => cases es
      | scr ns => cases es
      | ref a => cases es
      | imm d => cases es
      | fix _ _ => cases es
      | fixN _ _ => cases es
      | mu p' o1 => cases es; exact ⟨hs.1, this⟩
      | tmp p' o1 => cases es; exact this
    · rw [List.getElem?_set_ne (Ne.symm z)] at hj
      cases ea : t.ad with
      | none => exact .inl ⟨rfl, hj⟩
      | some p' =>
        refine .inr ⟨p', rfl, fun q hq => ((L.at_ j t hj).more hq).keep (kp.mono fun a h => .inl h) fun p'' e'' => ?_⟩
        rw [ea] at e''; cases e''
        obtain ⟨o', r'⟩ := (L.at_ j t hj).mrep ea
        have ne : p' ≠ p := fun y => z (ad_unique L.nd hj e (by rw [ea, y]) es)
        cases h : H p' with
        | none => exact (r'.nn h).elim
        | some u => exact F.base p' u h (by simpa using ne)
  cases e'
  exact h _ a b c d
/-- an object of the body's own is told -/
theorem Lo.finM {ps : List (Addr × MO)} {o : MO} {p : Addr} {i : Nat} (L : Lo C X H σ Γ) (hp : ∀ q ∈ ps, MRep C.K X H q.1 q.2) (e : Γ[i]? = some (.mu p o)) (hn : C.H0 p = none) : Fin C.K C.X0 C.H0 C.P0 ps (.new o) (.ref p) H :=
  L.finN hp hn (L.mx p (mem_muts.mpr ⟨i, _, e, rfl⟩)) (L.mrep e)
theorem Lo.finT {ps : List (Addr × MO)} {o : MO} {p : Addr} {i : Nat} (L : Lo C X H σ Γ) (hp : ∀ q ∈ ps, MRep C.K X H q.1 q.2) (e : Γ[i]? = some (.tmp p o)) (hn : C.H0 p = none) : Fin C.K C.X0 C.H0 C.P0 ps (.new o) (.ref p) H :=
  L.finN hp hn (L.mx p (mem_muts.mpr ⟨i, _, e, rfl⟩)) (L.tmp e)
/-! ### the ends of bodies, turns, branches -/
theorem x_fin {K : PySem.W.Frag} {H0 : Hp} {P0 : List Addr} {ps : ρ → List (Addr × MO)} {rs : ρ → Rs} {e r : ρ} {v : V} (hm : some e = some r) (kont : ∀ v H', Fin K X H0 P0 (ps r) (rs r) v H' → Q v H') (F : Fin K X H0 P0 (ps e) (rs e) v H) : Q v H := by
  cases hm; exact kont v H F
theorem x_finP {K : PySem.W.Frag} {H0 : Hp} {P0 : List Addr} {ps : ρ → List (Addr × MO)} {o : ρ → MO} {e r : ρ} {p : Addr} (hm : some e = some r) (kont : ∀ p H', Fin K X H0 P0 (ps r) (.new (o r)) (.ref p) H' → Q (.ref p) H') (F : Fin K X H0 P0 (ps e) (.new (o e)) (.ref p) H) : Q (.ref p) H := by
  cases hm; exact kont p H F
theorem x_finRP {K : PySem.W.Frag} {H0 : Hp} {P0 : List Addr} {ps : ρ → List (Addr × MO)} {o : ρ → MO} {e r : ρ} {v : V} (hm : some e = some r) (kont : ∀ p H', Fin K X H0 P0 (ps r) (.new (o r)) (.ref p) H' → Q (.ref p) H') (F : Fin K X H0 P0 (ps e) (.new (o e)) v H) : Q v H := by
  cases hm
  obtain ⟨p, rfl, _⟩ := F.res
  exact kont p H F
theorem x_finI {K : PySem.W.Frag} {H0 : Hp} {P0 : List Addr} {ps : ρ → List (Addr × MO)} {sc : ρ → Int} {r : ρ} (e : ρ) (hm : some e = some r) (kont : ∀ H', (fun x => Fin K X H0 P0 (ps r) (.imm (PyData.int x)) (V.int x) H') (sc r) → (fun x => Q (V.int x) H') (sc r)) (F : (fun x => Fin K X H0 P0 (ps e) (.imm (PyData.int x)) (V.int x) H) (sc e)) : (fun x => Q (V.int x) H) (sc e) := by
  cases hm; exact kont H F
theorem x_finRI {K : PySem.W.Frag} {H0 : Hp} {P0 : List Addr} {ps : ρ → List (Addr × MO)} {sc : ρ → Int} {e r : ρ} {v : V} (hm : some e = some r) (kont : ∀ H', (fun x => Fin K X H0 P0 (ps r) (.imm (PyData.int x)) (V.int x) H') (sc r) → (fun x => Q (V.int x) H') (sc r)) (F : Fin K X H0 P0 (ps e) (.imm ((fun x => (PyData.int x)) (sc e))) v H) : Q v H := by
  cases hm
  have q := repI (x := sc e) F.res
  subst q
  exact kont H F
theorem x_finB {K : PySem.W.Frag} {H0 : Hp} {P0 : List Addr} {ps : ρ → List (Addr × MO)} {sc : ρ → Bool} {r : ρ} (e : ρ) (hm : some e = some r) (kont : ∀ H', (fun x => Fin K X H0 P0 (ps r) (.imm (PyData.bool x)) (V.bl x) H') (sc r) → (fun x => Q (V.bl x) H') (sc r)) (F : (fun x => Fin K X H0 P0 (ps e) (.imm (PyData.bool x)) (V.bl x) H) (sc e)) : (fun x => Q (V.bl x) H) (sc e) := by
  cases hm; exact kont H F
theorem x_finRB {K : PySem.W.Frag} {H0 : Hp} {P0 : List Addr} {ps : ρ → List (Addr × MO)} {sc : ρ → Bool} {e r : ρ} {v : V} (hm : some e = some r) (kont : ∀ H', (fun x => Fin K X H0 P0 (ps r) (.imm (PyData.bool x)) (V.bl x) H') (sc r) → (fun x => Q (V.bl x) H') (sc r)) (F : Fin K X H0 P0 (ps e) (.imm ((fun x => (PyData.bool x)) (sc e))) v H) : Q v H := by
  cases hm
  have q := repB (x := sc e) F.res
  subst q
  exact kont H F
theorem x_finS {K : PySem.W.Frag} {H0 : Hp} {P0 : List Addr} {ps : ρ → List (Addr × MO)} {sc : ρ → Str} {r : ρ} (e : ρ) (hm : some e = some r) (kont : ∀ H', (fun x => Fin K X H0 P0 (ps r) (.imm (PyData.str x)) (V.str x) H') (sc r) → (fun x => Q (V.str x) H') (sc r)) (F : (fun x => Fin K X H0 P0 (ps e) (.imm (PyData.str x)) (V.str x) H) (sc e)) : (fun x => Q (V.str x) H) (sc e) := by
  cases hm; exact kont H F
theorem x_finRS {K : PySem.W.Frag} {H0 : Hp} {P0 : List Addr} {ps : ρ → List (Addr × MO)} {sc : ρ → Str} {e r : ρ} {v : V} (hm : some e = some r) (kont : ∀ H', (fun x => Fin K X H0 P0 (ps r) (.imm (PyData.str x)) (V.str x) H') (sc r) → (fun x => Q (V.str x) H') (sc r)) (F : Fin K X H0 P0 (ps e) (.imm ((fun x => (PyData.str x)) (sc e))) v H) : Q v H := by
  cases hm
  have q := repS (x := sc e) F.res
  subst q
  exact kont H F
theorem x_finN {K : PySem.W.Frag} {H0 : Hp} {P0 : List Addr} {ps : ρ → List (Addr × MO)} {sc : ρ → Unit} {r : ρ} (e : ρ) (hm : some e = some r) (kont : ∀ H', (fun x => Fin K X H0 P0 (ps r) (.imm PyData.none) V.non H') (sc r) → (fun x => Q V.non H') (sc r)) (F : (fun x => Fin K X H0 P0 (ps e) (.imm PyData.none) V.non H) (sc e)) : (fun x => Q V.non H) (sc e) := by
  cases hm; exact kont H F
theorem x_finRN {K : PySem.W.Frag} {H0 : Hp} {P0 : List Addr} {ps : ρ → List (Addr × MO)} {sc : ρ → Unit} {e r : ρ} {v : V} (hm : some e = some r) (kont : ∀ H', (fun x => Fin K X H0 P0 (ps r) (.imm PyData.none) V.non H') (sc r) → (fun x => Q V.non H') (sc r)) (F : Fin K X H0 P0 (ps e) (.imm ((fun x => PyData.none) (sc e))) v H) : Q v H := by
  cases hm
  have q := repN (x := sc e) F.res
  subst q
  exact kont H F
theorem x_leaf {τ : Type} {C' : Cn} {G : τ → List Sl} {e s : τ} {N : L2.St → Hp → Prop} (hm : some e = some s) (hN : ∀ X' σ' H', Lo C' X' H' σ' (G s) → N σ' H') (L : Lo C' X H σ (G e)) : N σ H := by
  cases hm; exact hN _ _ _ L
theorem x_leafN {τ : Type} {C' : Cn} {G : τ → List Sl} {e : τ} {o : Lp τ ρ} {N : L2.St → Hp → Prop} (hm : some (.nxt e) = some o) (hN : ∀ s, o = .nxt s → ∀ X' σ' H', Lo C' X' H' σ' (G s) → N σ' H') (L : Lo C' X H σ (G e)) : N σ H :=
  hN e (Option.some.inj hm).symm _ _ _ L
theorem x_leafB {τ : Type} {C' : Cn} {G : τ → List Sl} {e : τ} {o : Lp τ ρ} {N : L2.St → Hp → Prop} (hm : some (.brk e) = some o) (hN : ∀ s, o = .brk s → ∀ X' σ' H', Lo C' X' H' σ' (G s) → N σ' H') (L : Lo C' X H σ (G e)) : N σ H :=
  hN e (Option.some.inj hm).symm _ _ _ L
theorem x_leafR {τ : Type} {K : PySem.W.Frag} {H0 : Hp} {P0 : List Addr} {ps : ρ → List (Addr × MO)} {rs : ρ → Rs} {e : ρ} {o : Lp τ ρ} {v : V} {N : VK} (hm : some (.ret e) = some o) (hR : ∀ r, o = .ret r → ∀ v H', Fin K X H0 P0 (ps r) (rs r) v H' → N v H') (F : Fin K X H0 P0 (ps e) (rs e) v H) : N v H :=
  hR e (Option.some.inj hm).symm _ _ F
/-- branches that come together again -/
theorem x_join {τ : Type} {c : Bool} {mA mB : Option τ} {k : τ → Option ρ} {r : ρ} {G : τ → List Sl} {t u : TS} {nx bk ct : L2.St → Hp → Prop} {rt : VK} (L : Lo C X H σ Γ) (hm : (if c = true then mA else mB).bind k = some r)
    (hA : ∀ b, mA = some b → ∀ N : L2.St → Hp → Prop, (∀ X' σ' H', Lo C X' H' σ' (G b) → N σ' H') → t ⟨N, rt, bk, ct⟩ σ H)
    (hB : ∀ b, mB = some b → ∀ N : L2.St → Hp → Prop, (∀ X' σ' H', Lo C X' H' σ' (G b) → N σ' H') → u ⟨N, rt, bk, ct⟩ σ H)
    (h : ∀ b X' σ' H', k b = some r → Lo C X' H' σ' (G b) → nx σ' H') : KIf t u ⟨nx, rt, bk, ct⟩ σ c H := by
  cases c with
  | true =>
    obtain ⟨b, e, hk⟩ := ob hm
    exact hA b e nx fun X' σ' H' L => h b X' σ' H' hk L
  | false =>
    obtain ⟨b, e, hk⟩ := ob hm
    exact hB b e nx fun X' σ' H' L => h b X' σ' H' hk L
/-- a value is given a name of its own -/
theorem x_bset {d : α → PyData} {x0 : α} {i : Nat} {v : V} {k : α → Option ρ} {r : ρ} {N : L2.St → Hp → Prop} {Γf : α → List Sl} (hm : (some x0).bind k = some r) (L : Lo C X H σ Γ) (q : Rep C.K X H (d x0) v) (hi : i < C.n) (e : ∀ x, Γ.set i (.imm (d x)) = Γf x) (h : ∀ x σ', k x = some r → Lo C X H σ' (Γf x) → N σ' H) : gName i v σ H N :=
  h x0 _ hm (by rw [← e]; exact L.set q hi)
end
open Py (enc)
/-! ### defs that raise -/
theorem fn_or {P : Program} {w : World} {K : PySem.W.Frag} {mg : Str → Option Value} {base : Heap} {k : Nat} {f : Addr} {fd : FuncData} {ps : List Str} {sp1 sp2 : Sp} (F1 : FnOk P w K mg base (L2.CX P w) k f fd ps sp1) (F2 : FnOk P w K mg base CX0 k f fd ps sp2) :
    FnOk P w K mg base (L2.CX P w) k f fd ps (fun vs H Q E => sp1 vs H Q E ∨ sp2 vs H Q E) := by
  refine ⟨fun vs H Q E h => h.elim (F1.len vs H Q E) (F2.len vs H Q E), fun A outer s H args us vs Q E hr he hb hv hs => ?_⟩
  rcases hs with h | h
  · exact F1.run A outer s H args us vs Q E hr he hb hv h
  · refine codeAny_mono (F2.run A outer s H args us vs Q E hr he hb hv h) fun r s' q => ?_
    cases r with
    | ok r => cases r <;> first | exact q | exact (show False from q).elim
    | error e => exact (show False from q).elim
theorem Lo.same0 {C : Cn} {X : Addr → Prop} {H : Hp} {σ : L2.St} {Γ : List Sl} (L : Lo C X H σ Γ) (e : C.P0 = []) : Same C.H0 H := fun a o h => L.base a o h (by rw [e]; exact fun z => nomatch z)
section
variable {C : Cn} {X : Addr → Prop} {H : Hp} {σ : L2.St} {Γ Γ' : List Sl} {Q : VK} {α β ρ : Type}
theorem x_callS {sp : Sp} {E : L2.St → XK} {t : TA} (h : t σ H fun vs H1 => sp vs H1 Q (E σ)) : tCallS sp E t σ H Q := h
theorem x_either {S1 S2 : Prop} {A B : Option ρ} {m : Option Unit} {r : ρ} (hm : (if m.isSome = true then A else B) = some r) (h1 : m = some () → A = some r → S1) (h2 : B = some r → S2) : S1 ∨ S2 := by
  cases m with
  | some u => exact .inl (h1 rfl hm)
  | none => exact .inr (h2 hm)
theorem x_catch {K : PySem.W.Frag} {c : Value} {D : Addr} {i : Nat} {ts : Addr → Value → Option Addr → TS} {Wout : WX} {nx bk ct : L2.St → Hp → Prop} {rt : VK} (he : PySem.W.exmOne K (.ref D) c = some true)
    (h : ∀ a, H a = none → ts a (.ref D) none ⟨fun σ' H' => nx (σ'.set i none) H', rt, fun σ' H' => bk (σ'.set i none) H', fun σ' H' => ct (σ'.set i none) H'⟩ (σ.set i (some (.ref a))) H) : wAs K c i ts Wout ⟨nx, rt, bk, ct⟩ (.ref D) none σ H :=
  ⟨true, he, fun _ => h, fun z => nomatch z⟩
theorem x_catch0 {K : PySem.W.Frag} {c : Value} {D : Addr} {ts : Addr → Value → Option Addr → TS} {Wout : WX} {Ds : Ends} (he : PySem.W.exmOne K (.ref D) c = some true)
    (h : ∀ a, H a = none → ts a (.ref D) none Ds σ H) : wOnly K c ts Wout Ds (.ref D) none σ H :=
  ⟨true, he, fun _ => h, fun z => nomatch z⟩
theorem x_vr {i : Nat} {a : Addr} (L : Lo C X H σ Γ) (e : Γ[i]? = some (.ref a)) (h : Q (.ref a) H) : tVar i σ H Q := ⟨_, L.at_ i _ e, h⟩
/-- isinstance of the error that is handled -/
def rIsG (K : PySem.W.Frag) (cls : Value) (d : Option Addr) (a : Addr) : List V → Hp → VK → Prop := fun xs H Q => ∃ (D : Addr) (c : V) (cv : Value) (b : Bool), cls = .ref D ∧ d = none ∧ ExcC K D ∧ xs = [.ref a, c] ∧ (∀ u, RelV c u → u = cv) ∧ PySem.W.kitOne K (.ref D) cv = some b ∧ Q (.bl b) H
theorem call_isG {Xc : Cx} {a : Addr} {oe : Obj} {pn : List (Addr × Obj)} {cls : Value} {d : Option Addr} (hz : Zc cls d oe) (hf : ∃ vs, oe.data = .fields vs) : CallR (Xc.suite a ((a, oe) :: pn)) (.builtin "isinstance") (rIsG Xc.K cls d a) := by
  intro pins s σ H xs us Q I r h
  obtain ⟨D, c, cv, b, rfl, rfl, E, rfl, hc, k, q⟩ := h
  exact call_isE E hz hf pins s σ H _ us Q I r ⟨c, cv, b, rfl, hc, k, q⟩
def rIsGT (K : PySem.W.Frag) (cls : Value) (d : Option Addr) (a : Addr) : List V → Hp → VK → Prop := fun xs H Q => ∃ (D tp : Addr) (cs : List V) (ws : List Value) (b : Bool), cls = .ref D ∧ d = none ∧ ExcC K D ∧ xs = [.ref a, .ref tp] ∧ H tp = some (.tup cs) ∧ Paired ClsV cs ws ∧ PySem.W.kitAny K (.ref D) ws = some b ∧ Q (.bl b) H
theorem call_isGT {Xc : Cx} {a : Addr} {oe : Obj} {pn : List (Addr × Obj)} {cls : Value} {d : Option Addr} (hz : Zc cls d oe) (hf : ∃ vs, oe.data = .fields vs) : CallR (Xc.suite a ((a, oe) :: pn)) (.builtin "isinstance") (rIsGT Xc.K cls d a) := by
  intro pins s σ H xs us Q I r h
  obtain ⟨D, tp, cs, ws, b, rfl, rfl, Ex, rfl, hT, k, e, q⟩ := h
  cases r with
  | cons rx rr =>
    cases rr with
    | cons rt rr =>
      cases rr
      cases rx
      rename_i u2
      cases (show u2 = Value.ref tp from rt)
      obtain ⟨hget, _⟩ := I.pin (a, oe) (List.mem_append.mpr (.inl List.mem_cons_self))
      obtain ⟨vs, hv⟩ := hf
      have J : PySem.W.InstAt s.heap a oe D none := by
        obtain ⟨oc, od, oda, osl⟩ := oe
        obtain ⟨h1, h2⟩ := hz
        dsimp only at h1 h2 hv
        subst h1 h2 hv
        exact ⟨hget, rfl, rfl, trivial⟩
      obtain ⟨_, its, rv, o, h1, h2, n, h3⟩ := (show ObjOk _ _ H s.heap tp (.tup cs) from I.hok tp _ hT)
      have e3 := ClsV.all k rv
      subst e3
      obtain ⟨oc, od, dt, sl⟩ := o
      simp only at h2 h3
      subst h2 h3
      exact PySem.W.kia_tup (PySem.W.handS_kitx_exc Ex.hg Ex.hk Ex.hs Ex.hd Ex.ha Ex.hn Ex.ht Ex.hm) I.kIn J h1 e (fun z => nomatch z) fun tk => ⟨.bl b, H, I.kept (t' := tk) fun _ _ z => z, rfl, q⟩
theorem x_isG {K : PySem.W.Frag} {D a C2 : Addr} {b : Bool} (E : ExcC K D) (k : PySem.W.kitOne K (.ref D) (.ref C2) = some b) (h : Q (.bl b) H) : rIsG K (.ref D) none a [.ref a, .ref C2] H Q :=
  ⟨D, _, _, b, rfl, rfl, E, rfl, fun _ r => r, k, h⟩
theorem x_isGB {K : PySem.W.Frag} {D a : Addr} {T : String} {b : Bool} (E : ExcC K D) (k : PySem.W.kitOne K (.ref D) (.type T) = some b) (h : Q (.bl b) H) : rIsG K (.ref D) none a [.ref a, .ty T] H Q :=
  ⟨D, _, _, b, rfl, rfl, E, rfl, fun _ r => r, k, h⟩
theorem x_isGT {K : PySem.W.Frag} {D a tp : Addr} {cs : List V} {ws : List Value} {b : Bool} (E : ExcC K D) (hT : H tp = some (.tup cs)) (p : Paired ClsV cs ws) (k : PySem.W.kitAny K (.ref D) ws = some b) (h : Q (.bl b) H) : rIsGT K (.ref D) none a [.ref a, .ref tp] H Q :=
  ⟨D, tp, cs, ws, b, rfl, rfl, E, rfl, hT, p, k, h⟩
theorem kit_self {K : PySem.W.Frag} {D : Addr} : PySem.W.kitOne K (.ref D) (.ref D) = some true := by
  unfold PySem.W.kitOne
  rw [if_pos (beq_iff_eq.mpr rfl)]
theorem kit_ref {K : PySem.W.Frag} {D E : Addr} {b : Bool} (hne : (Value.ref D == Value.ref E) = false) (hd : PySem.W.hasDictIn K E = true) (ht : PySem.W.typeIn K (.ref E) = some (.type "type")) (hs : PySem.W.subIn K (.ref D) (.ref E) = some b) : PySem.W.kitOne K (.ref D) (.ref E) = some b := by
  obtain ⟨cd, hc, _⟩ := PySem.W.any_some hd
  have e2 : ((PySem.W.clsIn K E).isSome && PySem.W.typeIn K (.ref E) == some (.type "type")) = true := by rw [hc, ht] <;> rfl
  unfold PySem.W.kitOne
  rw [if_neg (by rw [hne]; exact Bool.false_ne_true)]
  show (if ((PySem.W.clsIn K E).isSome && PySem.W.typeIn K (.ref E) == some (.type "type")) = true then PySem.W.subIn K (.ref D) (.ref E) else none) = some b
  rw [if_pos e2]; exact hs
theorem kit_typ {K : PySem.W.Frag} {D : Addr} {T : String} {b : Bool} (hk : PySem.W.kitMeta T = true) (hs : PySem.W.subIn K (.ref D) (.type T) = some b) : PySem.W.kitOne K (.ref D) (.type T) = some b := by
  unfold PySem.W.kitOne
  rw [if_neg (by intro z; cases (beq_iff_eq.mp z))]
  show (if PySem.W.kitMeta T = true then PySem.W.subIn K (.ref D) (.type T) else none) = some b
  rw [if_pos hk]; exact hs
/-- a tuple of classes -/
theorem x_mkC {vs : List V} (L : Lo C X H σ Γ) (hl : vs.length ≤ 16777216) (h : ∀ p H1, Lo C X H1 σ Γ → H1 p = some (.tup vs) → Q (.ref p) H1) : KTup Q vs H := by
  refine ⟨by rw [line_eq]; exact hl, fun p hp => ?_⟩
  exact h p _ (L.same (same_upd hp)) upd_same
end
open Py (enc)
/-! ### tuples of ints: sets, order -/
class IT (α : Type) [Py α] where
  nums : α → List Int
  enc_eq : ∀ x, enc x = .tuple ((nums x).map .int)
  inj : ∀ x y, nums x = nums y → x = y
instance : IT (T2 Int Int) := ⟨fun x => [x.a, x.b], fun _ => rfl, fun x y h => by cases x; cases y; simp_all⟩
instance : IT (T3 Int Int Int) := ⟨fun x => [x.a, x.b, x.c], fun _ => rfl, fun x y h => by cases x; cases y; simp_all⟩
section
variable {K : PySem.W.Frag} {X : Addr → Prop} {H : Hp} {α : Type}
theorem rep_it [Py α] [IT α] {x : α} {v : V} (r : Rep K X H (enc x) v) : ∃ a, v = .ref a ∧ SqT K H a ((IT.nums x).map V.int) := by
  rw [IT.enc_eq] at r
  obtain ⟨a, vs, rfl, hs, q⟩ := rep_tup r
  rw [Reps.toInts q] at hs
  exact ⟨a, rfl, hs⟩
theorem reps_it [Py α] [IT α] : ∀ {xs : List α} {vs : List V}, Reps K X H (xs.map enc) vs → ∃ ks : List (Addr × List Int), vs = ks.map (fun p => V.ref p.1) ∧ ks.map (·.2) = xs.map IT.nums ∧ ∀ p ∈ ks, SqT K H p.1 (p.2.map V.int)
  | [], _, .nil => ⟨[], rfl, rfl, fun _ h => nomatch h⟩
  | x :: xs, _, .cons r t => by
    obtain ⟨a, rfl, hs⟩ := rep_it r
    obtain ⟨ks, rfl, h2, h3⟩ := reps_it t
    refine ⟨(a, IT.nums x) :: ks, rfl, by rw [List.map_cons, List.map_cons, h2], fun p hp => ?_⟩
    rcases List.mem_cons.mp hp with e | hp
    · subst e; exact hs
    · exact h3 p hp
end
/-- the distinct ones -/
def dset {α : Type} [DecidableEq α] : List α → List α
  | [] => []
  | x :: xs => if x ∈ dset xs then dset xs else x :: dset xs
theorem mem_dset {α : Type} [DecidableEq α] {x : α} : ∀ {xs : List α}, x ∈ dset xs ↔ x ∈ xs
  | [] => Iff.rfl
  | y :: xs => by
    unfold dset
    by_cases h : y ∈ dset xs
    · rw [if_pos h, List.mem_cons, mem_dset]
      exact ⟨.inr, fun z => z.elim (fun e => e ▸ mem_dset.mp h) id⟩
    · rw [if_neg h, List.mem_cons, List.mem_cons, mem_dset]
theorem nodup_dset {α : Type} [DecidableEq α] : ∀ {xs : List α}, (dset xs).Nodup
  | [] => List.nodup_nil
  | y :: xs => by
    unfold dset
    by_cases h : y ∈ dset xs
    · rw [if_pos h]; exact nodup_dset
    · rw [if_neg h]; exact List.nodup_cons.mpr ⟨h, nodup_dset⟩
theorem nodup_le {α : Type} [DecidableEq α] : ∀ {l m : List α}, l.Nodup → (∀ x ∈ l, x ∈ m) → l.length ≤ m.length
  | [], _, _, _ => Nat.zero_le _
  | x :: l, m, h, s => by
    obtain ⟨h1, h2⟩ := List.nodup_cons.mp h
    have hx := s x List.mem_cons_self
    have := nodup_le (l := l) (m := m.erase x) h2 fun y hy => (List.mem_erase_of_ne (fun e => by subst e; exact h1 hy)).mpr (s y (List.mem_cons_of_mem _ hy))
    rw [List.length_erase_of_mem hx] at this
    have hp := List.length_pos_of_mem hx
    rw [List.length_cons]; omega
theorem dset_map {α β : Type} [DecidableEq α] [DecidableEq β] {f : α → β} (hf : ∀ x y, f x = f y → x = y) : ∀ {xs : List α}, (dset (xs.map f)).length = (dset xs).length
  | [] => rfl
  | y :: xs => by
    rw [List.map_cons]
    unfold dset
    have e : f y ∈ dset (xs.map f) ↔ y ∈ dset xs := by
      rw [mem_dset, mem_dset, List.mem_map]
      exact ⟨fun ⟨z, h1, h2⟩ => hf _ _ h2 ▸ h1, fun h => ⟨y, h, rfl⟩⟩
    by_cases h : y ∈ dset xs
    · rw [if_pos h, if_pos (e.mpr h), dset_map hf]
    · rw [if_neg h, if_neg (fun z => h (e.mp z)), List.length_cons, List.length_cons, dset_map hf]
section
variable {X : Cx}
def tLenSetT (K : PySem.W.Frag) (ta : TE) : TE := fun σ H Q => ta σ H fun x H1 => ∃ (l : Addr) (ks : List (Addr × List Int)), x = V.ref l ∧ SqL K H1 l (ks.map fun p => V.ref p.1) ∧ (∀ p ∈ ks, SqT K H1 p.1 (p.2.map V.int)) ∧ ks.length < 64 ∧ Q (.int (dset (ks.map (·.2))).length) H1
theorem pe_lenSetT {a : Expr} {ta : TE} {p p2 q pos : Pos} (hc : X.calm = true) (hu : X.A.units + 64 < cLine) (hg : Gl X "len") (hm : X.mg "len" = none) (hg2 : Gl X "set") (hm2 : X.mg "set" = none) (ha : PE X a ta)
    (na : starEach [a] X.env = (false, eval a X.env) :: starEach [] X.env := by rfl) : PE X (.Call (.Name "len" p) [.Call (.Name "set" p2) [a] [] q] [] pos) (tLenSetT X.K ta) := by
  refine ⟨fun pins s σ H Q I h => ?_⟩
  refine Call_ (ld_blt I hg hm PySem.boot_len ?_)
  refine PyProof.Rows.callWith_builtin1 (PyProof.Rows.args_cons ?_ rfl) rfl rfl
  refine Call_ (ld_blt I hg2 hm2 PyProof.Rows.boot_set ?_)
  refine PyProof.Rows.callWith_type1 (PyProof.Rows.args_cons (thn (ha.run pins s σ H _ I h) fun v s1 ⟨x, H1, I1, r1, q1⟩ => PyProof.Rows.args_nil ?_) na) na rfl
  obtain ⟨l, ks, rfl, hq, hk, hf, q1⟩ := q1
  cases r1
  obtain ⟨its, rv, pl, hz⟩ := I1.list hq
  refine call_set_tups (P := X.prog) (w := X.w) ks (I1.ok.hd hc) pl.isList (by simpa using refs_of_vals rv) (fun p hp => I1.isT (hk p hp)) hf (by omega) fun h' tk L es ep t R g k => ?_
  refine PyProof.Rows.args_nil ?_
  obtain ⟨o, ho, hex, hd⟩ := R.ob
  have e1 : es.size = L.length := by
    have := congrArg List.length R.rows
    rw [Array.length_toList] at this
    rw [this]
    unfold rowsOf
    first | rw [List.length_map] | simp
  have hn : L.length = (dset (ks.map (·.2))).length := by
    refine Nat.le_antisymm ?_ ?_
    · have := nodup_le (m := dset (ks.map (·.2))) R.nd fun x hx => by
        obtain ⟨p, hp, e⟩ := List.mem_map.mp hx
        subst e
        exact mem_dset.mpr (List.mem_map.mpr ⟨p, List.mem_of_mem_take (g.sub p hp), rfl⟩)
      rwa [List.length_map] at this
    · have := nodup_le (m := L.map (·.2)) (nodup_dset (xs := ks.map (·.2))) fun x hx => by
        obtain ⟨p, hp, e⟩ := List.mem_map.mp (mem_dset.mp hx)
        subst e
        exact g.all p (by rw [List.take_length]; exact hp)
      rwa [List.length_map] at this
  have I2 : Inv X pins σ H1 { s1 with heap := h', toks := tk } := I1.kept fun b o e => k b o e
  have hf := R.few
  refine call_len_set ho hex hd (SetTR.fits (s := { s1 with heap := h', toks := tk }) R) (by rw [e1] <;> omega) ⟨.int (dset (ks.map (·.2))).length, H1, I2.tok _, ⟨_, by rw [e1, hn]⟩, q1⟩
end
def fewOk (n : Nat) : Option Unit := if n < 64 then some () else none
section
variable {C : Cn} {X : Addr → Prop} {H : Hp} {σ : L2.St} {Γ Γ' : List Sl} {Q : VK} {α β ρ : Type}
def KSet (K : PySem.W.Frag) (Q : VK) : VK := fun x H1 => ∃ (l : Addr) (ks : List (Addr × List Int)), x = V.ref l ∧ SqL K H1 l (ks.map fun p => V.ref p.1) ∧ (∀ p ∈ ks, SqT K H1 p.1 (p.2.map V.int)) ∧ ks.length < 64 ∧ Q (.int (dset (ks.map (·.2))).length) H1
theorem x_lenSet {K : PySem.W.Frag} {ta : TE} (h : ta σ H (KSet K Q)) : tLenSetT K ta σ H Q := h
theorem x_kset [Py α] [IT α] [DecidableEq α] {xs : List α} {v : V} {k : Unit → Option ρ} {r : ρ} (hm : (fewOk xs.length).bind k = some r) (q : Rep C.K X H (enc xs) v) (h : k () = some r → Q (.int (dset xs).length) H) : KSet C.K Q v H := by
  obtain ⟨_, e, hk⟩ := ob hm
  have h64 : xs.length < 64 := by
    unfold fewOk at e
    split at e
    · assumption
    · cases e
  obtain ⟨a, vs, rfl, _, hs, q⟩ := rep_lst (ds := xs.map enc) q
  obtain ⟨ks, rfl, h2, h3⟩ := reps_it q
  have hl : ks.length = xs.length := by
    have := congrArg List.length h2
    rwa [List.length_map, List.length_map] at this
  refine ⟨a, ks, rfl, .inl hs, h3, by rw [hl]; exact h64, ?_⟩
  rw [h2, dset_map IT.inj]
  exact h hk
/-! order of pairs -/
def ltP (p q : T2 Int Int) : Bool := decide (p.a < q.a) || (decide (p.a = q.a) && decide (p.b < q.b))
def leP (p q : T2 Int Int) : Bool := decide (p.a < q.a) || (decide (p.a = q.a) && decide (p.b ≤ q.b))
def maxP (p q : T2 Int Int) : T2 Int Int := if ltP p q = true then q else p
def minP (p q : T2 Int Int) : T2 Int Int := if ltP q p = true then q else p
theorem lexAt_le {a b c d : Int} : Ob.lexAt (fun j => decide ([a, b].getD j 0 = [c, d].getD j 0)) (fun j => decide ([a, b].getD j 0 ≤ [c, d].getD j 0)) (decide (([a, b] : List Int).length ≤ ([c, d] : List Int).length)) 0 (min ([a, b] : List Int).length ([c, d] : List Int).length) = leP ⟨a, b⟩ ⟨c, d⟩ := by
  show Ob.lexAt _ _ _ 0 2 = _
  rw [Ob.lexAt_succ, Ob.lexAt_succ, Ob.lexAt_zero]
  unfold leP
  simp only [List.getD_eq_getElem?_getD, List.getElem?_cons_zero, List.getElem?_cons_succ, Option.getD_some, decide_eq_true_eq, List.length_cons, List.length_nil]
  rcases Int.lt_trichotomy a c with z | z | z
  · have z1 : ¬ a = c := by omega
    have z2 : a ≤ c := by omega
    simp [z, z1, z2]
  · subst z
    by_cases y : b = d
    · subst y; simp
    · simp [y]
  · have z1 : ¬ a = c := by omega
    have z2 : ¬ a ≤ c := by omega
    have z3 : ¬ a < c := by omega
    simp [z1, z2, z3]
def rLeP (K : PySem.W.Frag) : R2 := rLeT K
theorem op_leP {Xc : Cx} (hu : Xc.A.units < cLine) : OpR Xc (compareOp .LtE) (rLeP Xc.K) := op_leT hu
theorem x_leP {p q : T2 Int Int} {u v : V} (r : Rep C.K X H (enc p) u) (s : Rep C.K X H (enc q) v) (h : Q (.bl (leP p q)) H) : rLeP C.K u v H Q := by
  obtain ⟨a, rfl, ha⟩ := rep_it r
  obtain ⟨b, rfl, hb⟩ := rep_it s
  refine ⟨a, b, [p.a, p.b], [q.a, q.b], rfl, rfl, ha, hb, ?_⟩
  rw [lexAt_le]
  exact h
end
/-! max, min of two pairs -/
section
variable {prog : Program} {w : World} {A : Around} {E : Value → Shared → Prop} {s : Shared}
open PySem.W in
theorem call_max_twoH {a b : Value} {Q : Value → Shared → Prop} (hh : A.handled = none) (bt : Nat → Nat → Bool)
    (hc : CmpIn prog w A.in1 .Gt s.heap (fun i v => #[a, b][i]? = some v) bt)
    (h : ∀ h' tk, (∀ c o, s.heap.get? c = some o → h'.get? c = some o) → Q (if bt 1 0 = true then b else a) { s with heap := h', toks := tk }) :
    wpAny (model prog w) A (call (.builtin "max") [a, b]) Q E s := by
  have hname : (toString "max" ++ toString ".loop" : String) = "max.loop" := by decide
  refine call_function_tree F.kind_max F.plain_max F.entry_max (F.args_max2 _ _) ?_
  show wpAny _ A.in1 (Builtin.Builtins.bindParams "max" ["key", "default"] 0 ⟨[], []⟩ >>= _) _ _ s
  refine wpAny_bind (wpAny_of_eq (show Builtin.Builtins.bindParams "max" ["key", "default"] 0 ⟨[], []⟩ = pure [none, none] from rfl) ?_)
  show wpAny _ A.in1 (newTuple [a, b] >>= _) _ _ s
  refine wpAny_bind (wpAny_newObj_type ?_)
  have hT : (s.heap.push { cls := .type "tuple", data := .seq #[a, b] }).IsTuple s.heap.objs.size #[a, b] := ⟨_, Heap.get?_push_size _ rfl, rfl, 0, rfl⟩
  refine wpAny_bind (iter_tupleW (s := { s with heap := s.heap.push { cls := .type "tuple", data := .seq #[a, b] } }) (by exact hh) hT fun s₂ e W st hfp hwr hold => ?_)
  refine wpAny_bind (wpAny_newObj_type ?_)
  have hSf : s₂.heap.objs.size ∉ _ := fun hm => Nat.lt_irrefl _ (hfp _ hm)
  rw [hname]
  have k0 : ∀ c o, s.heap.get? c = some o → s₂.heap.get? c = some o := fun c o e => hold c o (Heap.get?_push_of_some _ e)
  refine wpAny_pure ⟨plainId_quiet F.plain_max_loop _, codeAny_max_loop_firstH W s.heap (fun c o e => hwr c o (Heap.get?_push_of_some _ e)) bt hc s₂.heap.objs.size hSf (fresh_in k0) [] (show 0 < 2 by decide) (fun c o e => Heap.get?_push_of_some _ (k0 c o e)) (W.frame _ _ _ _ st (Nat.le_refl _) fun c _ o e => Heap.get?_push_of_some _ e) (Heap.get?_push_size _ rfl) fun v s' hP hm => ?_⟩
  have m := Moved.drop_new (tk := s₂.toks) hm (Nat.le_refl _)
  obtain ⟨h', tk, e', hk'⟩ := moved_old e rfl m
  subst e'
  have hv : v = if bt 1 0 = true then b else a := by
    have hP' : #[a, b][argBest bt 1]? = some v := hP
    have e1 : argBest bt 1 = if bt 1 0 = true then 1 else 0 := rfl
    rw [e1] at hP'
    by_cases z : bt 1 0 = true
    · rw [if_pos z] at hP' ⊢; simpa using hP'.symm
    · rw [if_neg z] at hP' ⊢; simpa using hP'.symm
  rw [hv]
  exact h h' tk fun c o e => hk' c o (Heap.get?_push_of_some _ e)
open PySem.W in
theorem call_min_twoH {a b : Value} {Q : Value → Shared → Prop} (hh : A.handled = none) (bt : Nat → Nat → Bool)
    (hc : CmpIn prog w A.in1 .Lt s.heap (fun i v => #[a, b][i]? = some v) bt)
    (h : ∀ h' tk, (∀ c o, s.heap.get? c = some o → h'.get? c = some o) → Q (if bt 1 0 = true then b else a) { s with heap := h', toks := tk }) :
    wpAny (model prog w) A (call (.builtin "min") [a, b]) Q E s := by
  have hname : (toString "min" ++ toString ".loop" : String) = "min.loop" := by decide
  refine call_function_tree F.kind_min F.plain_min F.entry_min (F.args_min2 _ _) ?_
  show wpAny _ A.in1 (Builtin.Builtins.bindParams "min" ["key", "default"] 0 ⟨[], []⟩ >>= _) _ _ s
  refine wpAny_bind (wpAny_of_eq (show Builtin.Builtins.bindParams "min" ["key", "default"] 0 ⟨[], []⟩ = pure [none, none] from rfl) ?_)
  show wpAny _ A.in1 (newTuple [a, b] >>= _) _ _ s
  refine wpAny_bind (wpAny_newObj_type ?_)
  have hT : (s.heap.push { cls := .type "tuple", data := .seq #[a, b] }).IsTuple s.heap.objs.size #[a, b] := ⟨_, Heap.get?_push_size _ rfl, rfl, 0, rfl⟩
  refine wpAny_bind (iter_tupleW (s := { s with heap := s.heap.push { cls := .type "tuple", data := .seq #[a, b] } }) (by exact hh) hT fun s₂ e W st hfp hwr hold => ?_)
  refine wpAny_bind (wpAny_newObj_type ?_)
  have hSf : s₂.heap.objs.size ∉ _ := fun hm => Nat.lt_irrefl _ (hfp _ hm)
  rw [hname]
  have k0 : ∀ c o, s.heap.get? c = some o → s₂.heap.get? c = some o := fun c o e => hold c o (Heap.get?_push_of_some _ e)
  refine wpAny_pure ⟨plainId_quiet F.plain_min_loop _, codeAny_min_loop_firstH W s.heap (fun c o e => hwr c o (Heap.get?_push_of_some _ e)) bt hc s₂.heap.objs.size hSf (fresh_in k0) [] (show 0 < 2 by decide) (fun c o e => Heap.get?_push_of_some _ (k0 c o e)) (W.frame _ _ _ _ st (Nat.le_refl _) fun c _ o e => Heap.get?_push_of_some _ e) (Heap.get?_push_size _ rfl) fun v s' hP hm => ?_⟩
  have m := Moved.drop_new (tk := s₂.toks) hm (Nat.le_refl _)
  obtain ⟨h', tk, e', hk'⟩ := moved_old e rfl m
  subst e'
  have hv : v = if bt 1 0 = true then b else a := by
    have hP' : #[a, b][argBest bt 1]? = some v := hP
    have e1 : argBest bt 1 = if bt 1 0 = true then 1 else 0 := rfl
    rw [e1] at hP'
    by_cases z : bt 1 0 = true
    · rw [if_pos z] at hP' ⊢; simpa using hP'.symm
    · rw [if_neg z] at hP' ⊢; simpa using hP'.symm
  rw [hv]
  exact h h' tk fun c o e => hk' c o (Heap.get?_push_of_some _ e)
end
theorem lexAt_lt {a b c d : Int} : Ob.lexAt (fun j => decide ([a, b].getD j 0 = [c, d].getD j 0)) (fun j => decide ([a, b].getD j 0 < [c, d].getD j 0)) (decide (2 < 2)) 0 (min 2 2) = ltP ⟨a, b⟩ ⟨c, d⟩ := by
  show Ob.lexAt _ _ _ 0 2 = _
  rw [Ob.lexAt_succ, Ob.lexAt_succ, Ob.lexAt_zero]
  unfold ltP
  simp only [List.getD_eq_getElem?_getD, List.getElem?_cons_zero, List.getElem?_cons_succ, Option.getD_some, decide_eq_true_eq]
  rcases Int.lt_trichotomy a c with z | z | z
  · have z1 : ¬ a = c := by omega
    simp [z, z1]
  · subst z
    by_cases y : b = d
    · subst y; simp
    · simp [y]
  · have z1 : ¬ a = c := by omega
    have z3 : ¬ a < c := by omega
    simp [z1, z3]
theorem lexAt_gt {a b c d : Int} : Ob.lexAt (fun j => decide ([a, b].getD j 0 = [c, d].getD j 0)) (fun j => decide ([c, d].getD j 0 < [a, b].getD j 0)) (decide (2 < 2)) 0 (min 2 2) = ltP ⟨c, d⟩ ⟨a, b⟩ := by
  show Ob.lexAt _ _ _ 0 2 = _
  rw [Ob.lexAt_succ, Ob.lexAt_succ, Ob.lexAt_zero]
  unfold ltP
  simp only [List.getD_eq_getElem?_getD, List.getElem?_cons_zero, List.getElem?_cons_succ, Option.getD_some, decide_eq_true_eq]
  rcases Int.lt_trichotomy c a with z | z | z
  · have z1 : ¬ a = c := by omega
    have z2 : ¬ c = a := by omega
    simp [z, z1]
  · subst z
    by_cases y : b = d
    · subst y; simp
    · have : ¬ d = b := fun e => y e.symm
      simp [y]
  · have z1 : ¬ a = c := by omega
    have z2 : ¬ c = a := by omega
    have z3 : ¬ c < a := by omega
    simp [z1, z2, z3]
section
variable {Xc : Cx}
open PySem.W in
theorem cmp_pair {A : Around} {s : Shared} {l1 l2 : Addr} {i1 i2 : List Value} {p q : T2 Int Int} (hu : A.units < cLine) (h1 : s.heap.IsTuple l1 i1.toArray) (h2 : s.heap.IsTuple l2 i2.toArray) (n1 : IntsAre i1 [p.a, p.b]) (n2 : IntsAre i2 [q.a, q.b]) :
    Ob.RcOp .Lt A s (.ref l1) (.ref l2) (ltP p q) ∧ Ob.RcOp .Gt A s (.ref l1) (.ref l2) (ltP q p) := by
  have at1 : ∀ j (h1 : j < i1.toArray.size), ∃ t, i1.toArray[j] = .int ([p.a, p.b].getD j 0) t := fun j h1 => PyProof.Rows.IntsAre.int_at n1 _ _ (by simp at h1; simp [h1])
  have at2 : ∀ j (h1 : j < i2.toArray.size), ∃ t, i2.toArray[j] = .int ([q.a, q.b].getD j 0) t := fun j h1 => PyProof.Rows.IntsAre.int_at n2 _ _ (by simp at h1; simp [h1])
  have e1 : i1.toArray.size = 2 := by rw [List.size_toArray]; exact n1.length
  have e2 : i2.toArray.size = 2 := by rw [List.size_toArray]; exact n2.length
  have he : ∀ j (h1 : j < i1.toArray.size) (h2 : j < i2.toArray.size), SeqAt.EqAt A.in1 s i1.toArray[j] i2.toArray[j] (decide ([p.a, p.b].getD j 0 = [q.a, q.b].getD j 0)) := fun j h1 h2 => by
    obtain ⟨t, et⟩ := at1 j h1
    obtain ⟨t', et'⟩ := at2 j h2
    rw [et, et']
    have z : ([p.a, p.b].getD j 0 == [q.a, q.b].getD j 0) = decide ([p.a, p.b].getD j 0 = [q.a, q.b].getD j 0) := by
      by_cases y : [p.a, p.b].getD j 0 = [q.a, q.b].getD j 0
      · rw [decide_eq_true y]; exact beq_iff_eq.mpr y
      · rw [decide_eq_false y]; exact beq_eq_false_iff_ne.mpr y
    rw [← z]
    exact SeqAt.EqAt.int_int _ _ _ _
  have R1 := Ob.RcOp.tuples_lt (r := fun j => decide ([p.a, p.b].getD j 0 < [q.a, q.b].getD j 0)) h1 h2 hu he fun j h1 h2 _ => by
    obtain ⟨t, et⟩ := at1 j h1
    obtain ⟨t', et'⟩ := at2 j h2
    rw [et, et']
    exact Ob.RcOp.lt_int _ _ _ _
  have R2 := Ob.RcOp.tuples_gt (r := fun j => decide ([q.a, q.b].getD j 0 < [p.a, p.b].getD j 0)) h1 h2 hu he fun j h1 h2 _ => by
    obtain ⟨t, et⟩ := at1 j h1
    obtain ⟨t', et'⟩ := at2 j h2
    rw [et, et']
    exact Ob.RcOp.gt_int _ _ _ _
  rw [e1, e2] at R1 R2
  rw [lexAt_lt] at R1
  rw [show decide (2 > 2) = decide (2 < 2) from rfl, lexAt_gt] at R2
  exact ⟨R1, R2⟩
def rMaxP (K : PySem.W.Frag) : List V → Hp → VK → Prop := fun xs H Q => ∃ (a b : Addr) (p q : T2 Int Int), xs = [.ref a, .ref b] ∧ SqT K H a [.int p.a, .int p.b] ∧ SqT K H b [.int q.a, .int q.b] ∧ Q (if ltP p q = true then .ref b else .ref a) H
open PySem.W in
theorem call_maxP (hu : Xc.A.units + 64 < cLine) (hc : Xc.calm = true) : CallR Xc (.builtin "max") (rMaxP Xc.K) := by
  intro pins s σ H xs us Q I r h
  obtain ⟨a, b, p, q, rfl, ha, hb, k⟩ := h
  obtain ⟨u, w', rfl, e1, e2⟩ := vals2 r
  cases (show u = Value.ref a from e1)
  cases (show w' = Value.ref b from e2)
  obtain ⟨i1, r1, t1, _⟩ := I.tuple ha
  obtain ⟨i2, r2, t2, _⟩ := I.tuple hb
  have n1 : IntsAre i1 [p.a, p.b] := Vals.ints (ns := [p.a, p.b]) r1
  have n2 : IntsAre i2 [q.a, q.b] := Vals.ints (ns := [q.a, q.b]) r2
  have up : ∀ {s' : Shared} {l : Addr} {its : Array Value}, (∀ c o, s.heap.get? c = some o → s'.heap.get? c = some o) → s.heap.IsTuple l its → s'.heap.IsTuple l its := fun hk ⟨o, ho, hc, n, hd⟩ => ⟨o, hk _ _ ho, hc, n, hd⟩
  have hu1 : (Xc.A.in1).units < cLine := by show Xc.A.units + 1 < cLine; omega
  refine call_max_twoH (I.ok.hd hc) (fun i j => if i = j then false else if i = 1 then ltP p q else ltP q p) (fun i j vi vj s' Q E hk hi hj hq => ?_) fun h' tk k' => ⟨_, H, I.kept k', ?_, k⟩
  · have at2 : ∀ {i v}, #[Value.ref a, Value.ref b][i]? = some v → (i = 0 ∧ v = .ref a) ∨ (i = 1 ∧ v = .ref b) := fun {i v} h => by
      match i with
      | 0 => exact .inl ⟨rfl, by simpa using h.symm⟩
      | 1 => exact .inr ⟨rfl, by simpa using h.symm⟩
      | n + 2 => simp at h
    have self : ∀ (x : T2 Int Int), ltP x x = false := fun x => by simp [ltP]
    rcases at2 hi with ⟨rfl, rfl⟩ | ⟨rfl, rfl⟩ <;> rcases at2 hj with ⟨rfl, rfl⟩ | ⟨rfl, rfl⟩
    · have := (cmp_pair (s := s') hu1 (up hk t1) (up hk t1) n1 n1).2
      rw [self] at this
      exact this Xc.prog Xc.w E Q hq
    · exact (cmp_pair (s := s') hu1 (up hk t1) (up hk t2) n1 n2).2 Xc.prog Xc.w E Q hq
    · exact (cmp_pair (s := s') hu1 (up hk t2) (up hk t1) n2 n1).2 Xc.prog Xc.w E Q hq
    · have := (cmp_pair (s := s') hu1 (up hk t2) (up hk t2) n2 n2).2
      rw [self] at this
      exact this Xc.prog Xc.w E Q hq
  · show RelV _ (if ltP p q = true then Value.ref b else Value.ref a)
    split <;> rfl
theorem x_maxP {C : Cn} {X : Addr → Prop} {H : Hp} {Q : VK} {p q : T2 Int Int} {u v : V} (r : Rep C.K X H (enc p) u) (t : Rep C.K X H (enc q) v) (h : ∀ w, Rep C.K X H (enc (maxP p q)) w → Q w H) : rMaxP C.K [u, v] H Q := by
  obtain ⟨a, ea, ha⟩ := rep_it r
  obtain ⟨b, eb, hb⟩ := rep_it t
  subst ea eb
  refine ⟨a, b, p, q, rfl, ha, hb, h _ ?_⟩
  unfold maxP
  by_cases z : ltP p q = true
  · rw [if_pos z, if_pos z]; exact t
  · rw [if_neg z, if_neg z]; exact r
def rMinP (K : PySem.W.Frag) : List V → Hp → VK → Prop := fun xs H Q => ∃ (a b : Addr) (p q : T2 Int Int), xs = [.ref a, .ref b] ∧ SqT K H a [.int p.a, .int p.b] ∧ SqT K H b [.int q.a, .int q.b] ∧ Q (if ltP q p = true then .ref b else .ref a) H
open PySem.W in
theorem call_minP (hu : Xc.A.units + 64 < cLine) (hc : Xc.calm = true) : CallR Xc (.builtin "min") (rMinP Xc.K) := by
  intro pins s σ H xs us Q I r h
  obtain ⟨a, b, p, q, rfl, ha, hb, k⟩ := h
  obtain ⟨u, w', rfl, e1, e2⟩ := vals2 r
  cases (show u = Value.ref a from e1)
  cases (show w' = Value.ref b from e2)
  obtain ⟨i1, r1, t1, _⟩ := I.tuple ha
  obtain ⟨i2, r2, t2, _⟩ := I.tuple hb
  have n1 : IntsAre i1 [p.a, p.b] := Vals.ints (ns := [p.a, p.b]) r1
  have n2 : IntsAre i2 [q.a, q.b] := Vals.ints (ns := [q.a, q.b]) r2
  have up : ∀ {s' : Shared} {l : Addr} {its : Array Value}, (∀ c o, s.heap.get? c = some o → s'.heap.get? c = some o) → s.heap.IsTuple l its → s'.heap.IsTuple l its := fun hk ⟨o, ho, hc, n, hd⟩ => ⟨o, hk _ _ ho, hc, n, hd⟩
  have hu1 : (Xc.A.in1).units < cLine := by show Xc.A.units + 1 < cLine; omega
  refine call_min_twoH (I.ok.hd hc) (fun i j => if i = j then false else if i = 1 then ltP q p else ltP p q) (fun i j vi vj s' Q E hk hi hj hq => ?_) fun h' tk k' => ⟨_, H, I.kept k', ?_, k⟩
  · have at2 : ∀ {i v}, #[Value.ref a, Value.ref b][i]? = some v → (i = 0 ∧ v = .ref a) ∨ (i = 1 ∧ v = .ref b) := fun {i v} h => by
      match i with
      | 0 => exact .inl ⟨rfl, by simpa using h.symm⟩
      | 1 => exact .inr ⟨rfl, by simpa using h.symm⟩
      | n + 2 => simp at h
    have self : ∀ (x : T2 Int Int), ltP x x = false := fun x => by simp [ltP]
    rcases at2 hi with ⟨rfl, rfl⟩ | ⟨rfl, rfl⟩ <;> rcases at2 hj with ⟨rfl, rfl⟩ | ⟨rfl, rfl⟩
    · have := (cmp_pair (s := s') hu1 (up hk t1) (up hk t1) n1 n1).1
      rw [self] at this
      exact this Xc.prog Xc.w E Q hq
    · exact (cmp_pair (s := s') hu1 (up hk t1) (up hk t2) n1 n2).1 Xc.prog Xc.w E Q hq
    · exact (cmp_pair (s := s') hu1 (up hk t2) (up hk t1) n2 n1).1 Xc.prog Xc.w E Q hq
    · have := (cmp_pair (s := s') hu1 (up hk t2) (up hk t2) n2 n2).1
      rw [self] at this
      exact this Xc.prog Xc.w E Q hq
  · show RelV _ (if ltP q p = true then Value.ref b else Value.ref a)
    split <;> rfl
theorem x_minP {C : Cn} {X : Addr → Prop} {H : Hp} {Q : VK} {p q : T2 Int Int} {u v : V} (r : Rep C.K X H (enc p) u) (t : Rep C.K X H (enc q) v) (h : ∀ w, Rep C.K X H (enc (minP p q)) w → Q w H) : rMinP C.K [u, v] H Q := by
  obtain ⟨a, ea, ha⟩ := rep_it r
  obtain ⟨b, eb, hb⟩ := rep_it t
  subst ea eb
  refine ⟨a, b, p, q, rfl, ha, hb, h _ ?_⟩
  unfold minP
  by_cases z : ltP q p = true
  · rw [if_pos z, if_pos z]; exact t
  · rw [if_neg z, if_neg z]; exact r
/-! ### is of bools -/
def rIsBX : R2 := fun x y H Q => ∃ a b : Bool, x = .bl a ∧ y = .bl b ∧ Q (.bl (decide (a = b))) H
def rNotBX : R2 := fun x y H Q => ∃ a b : Bool, x = .bl a ∧ y = .bl b ∧ Q (.bl (!decide (a = b))) H
theorem op_isBX : OpR Xc (compareOp .Is) rIsBX := op_isBl
theorem op_notBX : OpR Xc (compareOp .IsNot) rNotBX := op_notBl
theorem x_isBX {H : Hp} {Q : VK} {a b : Bool} (h : Q (.bl (decide (a = b))) H) : rIsBX (.bl a) (.bl b) H Q := ⟨a, b, rfl, rfl, h⟩
theorem x_notBX {H : Hp} {Q : VK} {a b : Bool} (h : Q (.bl (!decide (a = b))) H) : rNotBX (.bl a) (.bl b) H Q := ⟨a, b, rfl, rfl, h⟩
end
theorem pi_listK {K : PySem.W.Frag} {X : Cx} {tg l : Expr} {tl : TE} (hK : X.K = K) (hl : PE X l tl) : PI X tg l (iList K tl) := by subst hK; exact pi_list hl
theorem pi_tupK {K : PySem.W.Frag} {X : Cx} {tg l : Expr} {tl : TE} (hK : X.K = K) (hl : PE X l tl) : PI X tg l (iTup K tl) := by subst hK; exact pi_tup hl
theorem lookup_relabel_fc {env : Env} : ∀ {names : List (Str × NameKind)} {x : Str}, names.lookup x = some .cell ∨ names.lookup x = some .free →
    (names.map fun (n, k) => if (k == NameKind.free && env.scope.kind == .function && env.kindOf n == some .cell) then (n, NameKind.cell) else (n, k)).lookup x = some .cell ∨ (names.map fun (n, k) => if (k == NameKind.free && env.scope.kind == .function && env.kindOf n == some .cell) then (n, NameKind.cell) else (n, k)).lookup x = some .free
  | [], _, h => by simp at h
  | (n, k) :: r, x, h => by
    have ih := @lookup_relabel_fc env r x
    show List.lookup x ((if (k == NameKind.free && env.scope.kind == .function && env.kindOf n == some .cell) = true then (n, NameKind.cell) else (n, k)) :: _) = _ ∨ List.lookup x ((if (k == NameKind.free && env.scope.kind == .function && env.kindOf n == some .cell) = true then (n, NameKind.cell) else (n, k)) :: _) = _
    cases hx : x == n with
    | true =>
      simp only [List.lookup_cons, hx] at h
      by_cases hc : (k == NameKind.free && env.scope.kind == .function && env.kindOf n == some .cell) = true
      · rw [if_pos hc]; left; simp [List.lookup_cons, hx]
      · rw [if_neg hc]; simp only [List.lookup_cons, hx]; exact h
    | false =>
      simp only [List.lookup_cons, hx] at h
      by_cases hc : (k == NameKind.free && env.scope.kind == .function && env.kindOf n == some .cell) = true
      · rw [if_pos hc]; simp only [List.lookup_cons, hx]; exact ih h
      · rw [if_neg hc]; simp only [List.lookup_cons, hx]; exact ih h
theorem blkOk_in {N : List Str} {scope0 scope : Scope} {own : List (Str × Nat)} {cl : List (Str × Addr)} {C : Addr} {env : Env} (h : blkC N scope0 scope own = true) : BlkOk N (compEnvC scope0 cl C env).scope scope own := by
  have b := blkOk_by h
  exact ⟨b.kind, b.uniq, b.ix, fun y hy e => lookup_relabel_fc (b.free y hy e), b.own⟩
/-! ### chains of two comparisons -/
section
variable {C : Cn} {X : Addr → Prop} {H : Hp} {σ : L2.St} {Γ Γ' : List Sl} {Q : VK} {α β ρ : Type}
def KCh (tc : TE) (r' : R2) (σ : L2.St) (y : V) (Q : VK) : VK := fun z H3 => ∃ k, z = .bl k ∧ (if k = true then tc σ H3 fun w' H4 => r' y w' H4 Q else Q (.bl false) H3)
theorem x_chain {r r' : R2} {ta tb tc : TE} (h : ta σ H fun x H1 => tb σ H1 fun y H2 => r x y H2 (KCh tc r' σ y Q)) : tChain r r' ta tb tc σ H Q := h
theorem x_chP {A B : Bool} {tc : TE} {r' : R2} {y : V} (hu : ∀ Q' : VK, Q' (.bl B) H → tc σ H fun w H4 => r' y w H4 Q') (h : Q (.bl (A && B)) H) : KCh tc r' σ y Q (.bl A) H := by
  refine ⟨A, rfl, ?_⟩
  cases A with
  | true => exact hu Q h
  | false => exact h
/-! ### xs.reverse() -/
theorem x_reverse [Py α] {xs : List α} {i : Nat} {p : Addr} (L : Lo C X H σ Γ) (g : Γ[i]? = some (.mu p (ml xs))) (e : Γ.set i (.mu p (ml xs.reverse)) = Γ')
    (h : ∀ H1, Lo C X H1 σ Γ' → (∀ d u, Rep C.K X H d u → Rep C.K X H1 d u) → Q .non H1) : rReverse (.ref p) [] H Q := by
  subst e
  obtain ⟨vs, hs, rs⟩ := L.mrep g
  obtain ⟨L1, le⟩ := L.write (es := xs.reverse.map enc) (ws := vs.reverse) g hs (by rw [List.map_reverse]; exact rs.reverse)
  exact ⟨p, vs, rfl, rfl, hs, h _ L1 le⟩
/-! ### a list of the body's own is lent to a call that keeps nothing of it -/
abbrev X0 : Addr → Prop := fun _ => False
theorem Rep.x0 {K : PySem.W.Frag} {d : PyData} {v : V} (r : Rep K X H d v) : Rep K X0 H d v := r.anti fun _ h => h.elim
theorem SqX.x0 {K : PySem.W.Frag} {ns : List Int} {v : V} (r : SqX K X H ns v) : SqX K X0 H ns v := r.anti fun _ h => h.elim
theorem Lo.lend (L : Lo C X H σ Γ) {i : Nat} {p : Addr} {ds : List PyData} (e : Γ[i]? = some (.mu p (.lst ds))) : Rep C.K X0 H (.list ds) (.ref p) := by
  obtain ⟨vs, h1, h2⟩ := L.mrep e
  exact .lst (fun h => h) (.inl h1) (h2.anti fun _ h => h.elim)
theorem Lo.condL (L : Lo C X H σ Γ) {Γa : List Sl} {vs : List V} (as : As C.K X0 H Γa vs) (e : muts Γa = []) : Cond C.K X0 H Γa vs := ⟨as, nd0 e, (by rw [e]; intro _ h; cases h), fun _ h => h.elim⟩
/-- data without a list in it -/
class Flat (α : Type) [Py α] : Prop where
  up : ∀ {K : PySem.W.Frag} {X Y : Addr → Prop} {H : Hp} {x : α} {v : V}, Rep K X H (enc x) v → Rep K Y H (enc x) v
instance : Flat Int := ⟨fun r => by cases r; exact .int _⟩
instance : Flat Bool := ⟨fun r => by cases r; exact .bl _⟩
instance : Flat Str := ⟨fun r => by cases r; exact .str _⟩
instance {α β : Type} [Py α] [Py β] [Flat α] [Flat β] : Flat (T2 α β) := ⟨fun r => by
  cases r with | tup h q =>
    cases q with | cons a q => cases q with | cons b q => cases q; exact .tup h (.cons (Flat.up a) (.cons (Flat.up b) .nil))⟩
instance {α β γ : Type} [Py α] [Py β] [Py γ] [Flat α] [Flat β] [Flat γ] : Flat (T3 α β γ) := ⟨fun r => by
  cases r with | tup h q =>
    cases q with | cons a q => cases q with | cons b q => cases q with | cons c q => cases q; exact .tup h (.cons (Flat.up a) (.cons (Flat.up b) (.cons (Flat.up c) .nil)))⟩
theorem k0L {v : V} {H' : Hp} {rs : Rs} {ps : List (Addr × MO)} {G : Prop} (L : Lo C X H σ Γ) (F : Fin C.K X0 H [] ps rs v H') (h : Lo C X H' σ Γ → (∀ d u, Rep C.K X H d u → Rep C.K X H' d u) → G) : G := by
  have s : Same H H' := fun a o e => F.base a o e (by simp)
  exact h (L.same s) fun _ _ r => r.keep (.same s)
theorem k0Ld [Py α] [Flat α] {v : V} {H' : Hp} {x : α} {ps : List (Addr × MO)} {G : Prop} (L : Lo C X H σ Γ) (F : Fin C.K X0 H [] ps (.imm (enc x)) v H') (h : Lo C X H' σ Γ → (∀ d u, Rep C.K X H d u → Rep C.K X H' d u) → Rep C.K X H' (enc x) v → G) : G := by
  have s : Same H H' := fun a o e => F.base a o e (by simp)
  exact h (L.same s) (fun _ _ r => r.keep (.same s)) (Flat.up (show Rep C.K X0 H' (enc x) v from F.res))
end
/-! ### for x in [p, q, ..]: x.clear(), of lists of the body's own; a list parted -/
section
variable {C : Cn} {X : Addr → Prop} {H : Hp} {σ : L2.St} {Γ Γ' : List Sl} {Q : VK} {α : Type}
theorem x_clear {i : Nat} {p : Addr} {ds : List PyData} (L : Lo C X H σ Γ) (g : Γ[i]? = some (.mu p (.lst ds))) (e : Γ.set i (.mu p (.lst [])) = Γ')
    (h : ∀ H1, Lo C X H1 σ Γ' → (∀ d u, Rep C.K X H d u → Rep C.K X H1 d u) → Q .non H1) : rClear (.ref p) [] H Q := by
  subst e
  obtain ⟨vs, hs, rs⟩ := L.mrep g
  obtain ⟨L1, le⟩ := L.write (es := []) (ws := []) g hs .nil
  exact ⟨p, vs, rfl, rfl, hs, h _ L1 le⟩
theorem x_clr1 {i j : Nat} {p : Addr} {ds : List PyData} {N bk ct : L2.St → Hp → Prop} {rt : VK} (L : Lo C X H σ Γ) (hj : j < C.n) (g : Γ[i]? = some (.mu p (.lst ds))) (gj : Γ[j]? = some .unk) (e : Γ.set i (.mu p (.lst [])) = Γ')
    (h : ∀ σ' H', Lo C X H' σ' Γ' → N σ' H') : gName j (.ref p) σ H fun σ2 H2 => tDrop (tBM0 C.K "list" rClear (tVar j)) ⟨N, rt, bk, ct⟩ σ2 H2 := by
  have L1 : Lo C X H (σ.set j (some (.ref p))) Γ := by
    have := L.setS (i := j) (v := some (.ref p)) (s := .unk) rfl trivial hj
    rwa [show Γ.set j .unk = Γ from List.ext_getElem? fun k => by
      rw [List.getElem?_set]
      split
      · next z =>
        subst z
        have := (List.getElem?_eq_some_iff.mp gj).1
        rw [if_pos this, gj]
      · rfl] at this
  show tDrop (tBM0 C.K "list" rClear (tVar j)) ⟨N, rt, bk, ct⟩ (σ.set j (some (.ref p))) H
  refine x_drop (x_bm0 ?_)
  refine ⟨.ref p, ?_, ?_⟩
  · have hl : j < σ.length := by rw [L.len]; exact hj
    rw [List.getElem?_set_self hl]
  · exact x_tyM L1 g (x_clear L1 g e fun H1 L2 _ => h _ _ L2)
theorem x_refs {ps : List Addr} {G : Nat → List Sl} {g : TG} {tb : TS} {nx bk ct : L2.St → Hp → Prop} {rt : VK} (L : Lo C X H σ (G 0)) (hl : ps.length ≤ 16777216) (hG : ∀ k, k < ps.length → muts (G (k + 1)) = muts (G k))
    (body : ∀ k p, ps[k]? = some p → ∀ (H : Hp) (σ : L2.St) (N : L2.St → Hp → Prop), Lo ⟨C.K, X, H, muts (G k), C.n⟩ X H σ (G k) → (∀ X' σ' H', Lo ⟨C.K, X, H, muts (G k), C.n⟩ X' H' σ' (G (k + 1)) → N σ' H') → g (.ref p) σ H fun σ2 H2 => tb ⟨N, rt, nx, N⟩ σ2 H2)
    (done : ∀ σ' H', Lo C X H' σ' (G ps.length) → nx σ' H') : KLst (KForL C.K g tb ⟨nx, rt, bk, ct⟩ σ) (ps.map V.ref) H := by
  refine ⟨by rw [line_eq, List.length_map]; exact hl, fun a ha => ?_⟩
  have s : Same H (upd H a (.lst (ps.map V.ref))) := same_upd ha
  have na : ¬ X a := fun h => L.xd a h ha
  refine ⟨a, rfl, ⟨_, .inl (.inl upd_same)⟩, for_list (K := C.K) (a := a) (xs := ps.map V.ref) (fun i σ' H' => i ≤ ps.length ∧ Lo C X H' σ' (G i) ∧ Rd H' a (.lst (ps.map V.ref))) ⟨Nat.zero_le _, L.same s, .inl upd_same⟩ (fun i σ' H' _ h => .inl h.2.2) ?_ ?_⟩
  · rintro i y σ' H' hy ⟨hi, L', rd⟩
    rw [List.getElem?_map] at hy
    cases hp : ps[i]? with
    | none => rw [hp] at hy; cases hy
    | some p =>
      rw [hp] at hy
      cases hy
      have hk := (List.getElem?_eq_some_iff.mp hp).1
      refine body i p hp H' σ' _ L'.enter fun X' σ'' H'' L'' => ?_
      exact ⟨hk, L'.leave L'' (hG i hk), (L'.keep L'').rd na rd⟩
  · rintro σ' H' ⟨_, L', _⟩
    rw [List.length_map] at L'
    exact done _ _ L'
def un2 {α : Type} : List α → Option (T2 α α)
  | [a, b] => some ⟨a, b⟩
  | _ => none
def un3 {α : Type} : List α → Option (T3 α α α)
  | [a, b, c] => some ⟨a, b, c⟩
  | _ => none
def un4 {α : Type} : List α → Option (T4 α α α α)
  | [a, b, c, d] => some ⟨a, b, c, d⟩
  | _ => none
theorem un2_eq {xs : List α} {q : T2 α α} (h : un2 xs = some q) : xs = [q.a, q.b] := by
  unfold un2 at h
  split at h
  · cases h; rfl
  · cases h
theorem un3_eq {xs : List α} {q : T3 α α α} (h : un3 xs = some q) : xs = [q.a, q.b, q.c] := by
  unfold un3 at h
  split at h
  · cases h; rfl
  · cases h
theorem un4_eq {xs : List α} {q : T4 α α α α} (h : un4 xs = some q) : xs = [q.a, q.b, q.c, q.d] := by
  unfold un4 at h
  split at h
  · cases h; rfl
  · cases h
theorem x_gLst [Py α] {xs ys : List α} {v : V} {n : Nat} {t : TGs} {N : L2.St → Hp → Prop} (r : Rep C.K X H (enc xs) v) (e : xs = ys) (hl : ys.length = n) (h : ∀ vs, Reps C.K X H (ys.map enc) vs → t vs σ H N) : gLst C.K n t v σ H N := by
  subst e
  obtain ⟨a, vs, e, _, rd, q⟩ := rep_lst (ds := xs.map enc) r
  exact ⟨a, vs, e, .inl rd, by rw [q.length, List.length_map]; exact hl, h vs q⟩
end
theorem b2_small (c : Bool) : -(2 ^ 64) < b2 c ∧ b2 c < 2 ^ 64 := by cases c <;> decide
/-! ### data of new lists alone: told lists may be cleared -/
section
variable {C : Cn} {X : Addr → Prop} {H : Hp} {σ : L2.St} {Γ Γ' : List Sl} {Q : VK} {α β τ : Type}
theorem Lo.resl {s s' : Sl} (L : Lo C X H σ Γ) {i : Nat} (g : Γ[i]? = some s) (e : s'.ad = s.ad) (h : ∀ v, SlOk C.K X H v s → SlOk C.K X H v s') : Lo C X H σ (Γ.set i s') := by
  have hil : i < Γ.length := (List.getElem?_eq_some_iff.mp g).1
  have hm : muts (Γ.set i s') = muts Γ := by
    clear L h
    induction Γ generalizing i with
    | nil => simp at hil
    | cons t Γ ih => cases i with
      | zero =>
        simp at g; subst g
        show List.filterMap _ _ = List.filterMap _ _
        rw [List.set_cons_zero, List.filterMap_cons, List.filterMap_cons, e]
      | succ i =>
        have := ih (i := i) (by simpa using g) (by simpa using hil)
        unfold muts at this ⊢
        rw [List.set_cons_succ, List.filterMap_cons, List.filterMap_cons, this]
  refine ⟨L.len, fun j t hj => ?_, by rw [hm]; exact L.nd, fun p hp => L.mx p (hm ▸ hp), L.m0, L.xd, L.base, L.dom, fun p hp => L.own p (hm ▸ hp), L.tf⟩
  by_cases z : j = i
  · subst z
    rw [List.getElem?_set_self hil] at hj
    cases hj
    exact h _ (L.at_ j s g)
  · rw [List.getElem?_set_ne (Ne.symm z)] at hj
    exact L.at_ j t hj
mutual
theorem Rep.old {K : PySem.W.Frag} {Z : Addr → Prop} (hz : ∀ a, ¬ Z a → H a = none) : ∀ {d : PyData} {v : V}, Rep K X H d v → Rep K (fun b => X b ∨ ¬ Z b) H d v
  | _, _, .non => .non
  | _, _, .bl b => .bl b
  | _, _, .int i => .int i
  | _, _, .str x => .str x
  | _, _, .tup q r => .tup q (Reps.old hz r)
  | _, _, .lst n q r => .lst (fun z => z.elim n fun y => rd_nn q (hz _ y)) q (Reps.old hz r)
theorem Reps.old {K : PySem.W.Frag} {Z : Addr → Prop} (hz : ∀ a, ¬ Z a → H a = none) : ∀ {d : List PyData} {v : List V}, Reps K X H d v → Reps K (fun b => X b ∨ ¬ Z b) H d v
  | _, _, .nil => .nil
  | _, _, .cons r t => .cons (Rep.old hz r) (Reps.old hz t)
end
/-- the lists of now and those still to come -/
theorem Lo.mark (L : Lo C X H σ Γ) : ∃ Z : Addr → Prop, (∀ a, Z a ↔ H a = none) ∧ ∀ a, Z a → C.H0 a = none := by
  refine ⟨fun a => H a = none, fun _ => Iff.rfl, fun a h => ?_⟩
  cases e : C.H0 a with
  | none => rfl
  | some o => exact (L.dom a (by rw [e]; exact fun z => nomatch z) h).elim
theorem Lo.fix {Z : Addr → Prop} (L : Lo C X H σ Γ) (hz : ∀ a, Z a ↔ H a = none) {i : Nat} {d : PyData} (g : Γ[i]? = some (.imm d)) : Lo C X H σ (Γ.set i (.fix (fun b => ¬ Z b) d)) :=
  L.resl g rfl fun v ⟨u, e, r⟩ => ⟨u, e, r.old fun a y => (hz a).mp (Classical.not_not.mp y)⟩
theorem Lo.unfix {Z : Addr → Prop} (L : Lo C X H σ Γ) {i : Nat} {d : PyData} (g : Γ[i]? = some (.fix Z d)) : Lo C X H σ (Γ.set i (.imm d)) :=
  L.resl g rfl fun v ⟨u, e, r⟩ => ⟨u, e, r.anti fun _ => .inl⟩
theorem Lo.unZ {Z : Addr → Prop} {p : Addr} {ds : List PyData} (L : Lo C X H σ Γ) {i : Nat} (g : Γ[i]? = some (.mu p (.lstZ Z ds))) : Lo C X H σ (Γ.set i (.mu p (.lst ds))) :=
  L.resl g rfl fun v ⟨e, vs, h, r⟩ => ⟨e, vs, h, r.anti fun _ => .inl⟩
theorem x_vfx {i : Nat} {d : PyData} {Z : Addr → Prop} (L : Lo C X H σ Γ) (e : Γ[i]? = some (.fix Z d)) (h : ∀ v, Rep C.K X H d v → Q v H) : tVar i σ H Q := by
  obtain ⟨u, e1, r⟩ := L.at_ i _ e
  exact ⟨u, e1, h u (r.anti fun _ => .inl)⟩
/-- a slot that does not mind when a new list is written -/
def OldS (Z : Addr → Prop) : Sl → Prop
  | .unk => True
  | .ref _ => True
  | .scr _ => False
  | .imm d => ∀ (K : PySem.W.Frag) (X : Addr → Prop) (H : Hp) (u : V), Rep K X H d u → Rep K (fun _ => True) H d u
  | .fix Z' _ => ∀ a, Z' a → ¬ Z a
  | .mu _ (.lst ds) => ∀ (K : PySem.W.Frag) (X : Addr → Prop) (H : Hp) (us : List V), Reps K X H ds us → Reps K (fun _ => True) H ds us
  | .mu _ .any => True
  | _ => False
theorem OldS.dat [Py α] [Flat α] {Z : Addr → Prop} {x : α} : OldS Z (.imm (enc x)) := fun _ _ _ _ r => Flat.up r
theorem OldS.I {Z : Addr → Prop} {x : Int} : OldS Z (.imm (.int x)) := OldS.dat (x := x)
theorem OldS.B {Z : Addr → Prop} {x : Bool} : OldS Z (.imm (.bool x)) := OldS.dat (x := x)
theorem OldS.S {Z : Addr → Prop} {x : Str} : OldS Z (.imm (.str x)) := OldS.dat (x := x)
theorem Reps.flat [Py α] [Flat α] {K : PySem.W.Frag} {Y : Addr → Prop} : ∀ {xs : List α} {us : List V}, Reps K X H (xs.map enc) us → Reps K Y H (xs.map enc) us
  | [], _, .nil => .nil
  | _ :: _, _, .cons r t => .cons (Flat.up r) (Reps.flat t)
theorem OldS.lst [Py α] [Flat α] {Z : Addr → Prop} {p : Addr} {xs : List α} : OldS Z (.mu p (.lst (xs.map enc))) := fun _ _ _ _ r => r.flat
theorem keepAll {b : Addr} {us : List V} {o : HO} (h : H b = some (.lst us)) : Keep (fun a => a = b) H (upd H b o) :=
  ⟨fun a u e n => by rw [upd_ne n]; exact e, fun a vs e => by rw [upd_ne (fun z => by rw [z, h] at e; cases e)]; exact e, fun a u w e => by rw [upd_ne (fun z => by rw [z, h] at e; cases e)]; exact e⟩
theorem Lo.clrZ {Z : Addr → Prop} {b : Addr} {us : List V} (L : Lo C X H σ Γ) (h0 : C.H0 b = none) (nb : ¬ X b) (zb : Z b) (h : H b = some (.lst us)) (old : ∀ s ∈ Γ, OldS Z s) : Lo C X (upd H b (.lst [])) σ Γ := by
  have k := keepAll (o := .lst []) h
  have hd : ∀ a, H a ≠ none → upd H b (.lst []) a ≠ none := fun a e => by
    by_cases z : a = b
    · rw [z, upd_same]; exact fun y => nomatch y
    · rw [upd_ne z]; exact e
  refine ⟨L.len, fun i s hi => ?_, L.nd, L.mx, L.m0, fun a z => hd a (L.xd a z), fun a u e n => ?_, fun a e => hd a (L.dom a e), L.own, L.tf⟩
  · have hs := L.at_ i s hi
    have ho := old s (List.mem_of_getElem? hi)
    have hx : ∀ p, s.ad = some p → p ≠ b := fun p e z => nb (z ▸ L.mx p (mem_muts.mpr ⟨i, s, hi, e⟩))
    cases s with
    | unk => trivial
    | ref a => exact hs
    | scr ns => exact ho.elim
    | imm d =>
      obtain ⟨u, e, r⟩ := hs
      exact ⟨u, e, ((ho _ _ _ _ r).keep (k.mono fun _ _ => trivial)).anti fun _ _ => trivial⟩
    | fixN Z' d => exact ho.elim
    | fix Z' d =>
      obtain ⟨u, e, r⟩ := hs
      exact ⟨u, e, r.keep (k.mono fun a z => .inr fun y => ho a y (z ▸ zb))⟩
    | mu p o =>
      obtain ⟨e, r⟩ := hs
      refine ⟨e, ?_⟩
      have hp : upd H b (.lst []) p = H p := upd_ne (hx p rfl)
      cases o with
      | lst ds =>
        obtain ⟨vs, hv, r⟩ := r
        exact ⟨vs, hp.trans hv, ((ho _ _ _ _ r).keep (k.mono fun _ _ => trivial)).anti fun _ _ => trivial⟩
      | lstZ _ _ => exact ho.elim
      | any =>
        obtain ⟨vs, hv⟩ := r
        exact ⟨vs, hp.trans hv⟩
    | tmp p o => exact ho.elim
  · rw [upd_ne fun z => by rw [z, h0] at e; cases e]
    exact L.base a u e n
theorem atI_zero {x : α} {xs : List α} : atI (x :: xs) 0 = some x := by
  unfold atI ixN
  simp
/-- for x in xs: x[0].clear(), of a told list of new ones -/
theorem x_dclrs [Py α] [Py β] {γ : Type} [Py γ] {zs : List (T3 (List α) β γ)} {Z : Addr → Prop} {i j : Nat} {p : Addr} {nx bk ct : L2.St → Hp → Prop} {rt : VK} (L : Lo C X H σ Γ) (hZ : ∀ a, Z a → C.H0 a = none) (hj : j < C.n)
    (g : Γ[i]? = some (.mu p (.lstZ Z (zs.map enc)))) (gj : Γ[j]? = some .unk) (old : ∀ s ∈ Γ.set i (.mu p .any), OldS Z s) (e : Γ.set i (.mu p .any) = Γ') (done : ∀ σ' H', Lo C X H' σ' Γ' → nx σ' H') :
    KForL C.K (gName j) (tDrop (tBM0 C.K "list" rClear (tOp (rIxT C.K) (tVar j) (tC (.int 0))))) ⟨nx, rt, bk, ct⟩ σ (.ref p) H := by
  subst e
  have hil : i < Γ.length := (List.getElem?_eq_some_iff.mp g).1
  have ne : i ≠ j := fun z => by subst z; rw [g] at gj; cases gj
  obtain ⟨_, vs, hv, rv⟩ := L.at_ i _ g
  have Xp : X p := L.mx p (mem_muts.mpr ⟨i, _, g, rfl⟩)
  have L1 : Lo C X H σ (Γ.set i (.mu p .any)) := L.resl g rfl fun v ⟨e, vs, h, _⟩ => ⟨e, vs, h⟩
  have gj1 : (Γ.set i (Sl.mu p .any))[j]? = some .unk := by rw [List.getElem?_set_ne ne]; exact gj
  have pieces : ∀ (zs : List (T3 (List α) β γ)) (vs : List V), Reps C.K (NewX X Z H) H (zs.map enc) vs → ∀ y ∈ vs, ∃ a b rest us, y = .ref a ∧ SqT C.K H a (.ref b :: rest) ∧ ¬ X b ∧ Z b ∧ H b = some (.lst us) := by
    intro zs
    induction zs with
    | nil => intro vs r y hy; cases r; cases hy
    | cons z zs ih =>
      intro vs r y hy
      cases r with
      | cons r t =>
        rcases List.mem_cons.mp hy with e | hy
        · subst e
          obtain ⟨a, ws, rfl, hs, q⟩ := rep_tup (ds := [enc z.a, enc z.b, enc z.c]) r
          cases q with
          | cons q1 q2 =>
            obtain ⟨b, us, rfl, nb, rd, _⟩ := rep_lst (ds := z.a.map enc) q1
            refine ⟨a, b, _, us, rfl, hs, fun h => nb (.inl h), Classical.not_not.mp fun h => nb (.inr (.inl h)), ?_⟩
            rcases rd with rd | ⟨o, rd⟩
            · exact rd
            · exact (nb (.inr (.inr ⟨_, _, rd⟩))).elim
        · exact ih _ t y hy
  refine ⟨p, rfl, ⟨vs, .inl (.inl hv)⟩, for_list (K := C.K) (a := p) (xs := vs) (fun k σ' H' => Lo C X H' σ' (Γ.set i (.mu p .any)) ∧ H' p = some (.lst vs) ∧ ∀ y ∈ vs, ∃ a b rest us, y = .ref a ∧ SqT C.K H' a (.ref b :: rest) ∧ ¬ X b ∧ Z b ∧ H' b = some (.lst us))
    ⟨L1, hv, pieces zs vs rv⟩ (fun k σ' H' _ h => .inl (.inl h.2.1)) ?_ fun σ' H' h => done _ _ h.1⟩
  rintro k y σ' H' hy ⟨L', hp, hpc⟩
  obtain ⟨a, b, rest, us, rfl, hs, nb, zb, rd⟩ := hpc y (List.mem_of_getElem? hy)
  have L2 : Lo C X H' (σ'.set j (some (.ref a))) (Γ.set i (.mu p .any)) := by
    have := L'.setS (i := j) (v := some (.ref a)) (s := .unk) rfl trivial hj
    rwa [show (Γ.set i (Sl.mu p .any)).set j .unk = Γ.set i (Sl.mu p .any) from List.ext_getElem? fun k => by
      rw [List.getElem?_set]
      split
      · next z =>
        subst z
        have := (List.getElem?_eq_some_iff.mp gj1).1
        rw [if_pos this, gj1]
      · rfl] at this
  have hl : j < σ'.length := by rw [L'.len]; exact hj
  refine x_drop (x_bm0 ?_)
  refine ⟨.ref a, by rw [List.getElem?_set_self hl], ?_⟩
  refine ⟨a, .ref b :: rest, 0, .ref b, rfl, rfl, hs, atI_zero, ?_⟩
  refine ⟨.inl ⟨rfl, us, .inl (.inl rd)⟩, ?_⟩
  refine ⟨b, us, rfl, rfl, rd, ?_⟩
  have kk := keepAll (o := .lst []) rd
  refine ⟨L2.clrZ (hZ b zb) nb zb rd old, ?_, fun y hy => ?_⟩
  · rw [upd_ne (show p ≠ b from fun z => nb (z ▸ Xp))]; exact hp
  · obtain ⟨a2, b2, rest2, us2, e2, hs2, nb2, zb2, rd2⟩ := hpc y hy
    by_cases z : b2 = b
    · exact ⟨a2, b2, rest2, [], e2, kk.sqT hs2, nb2, zb2, by rw [z, upd_same]⟩
    · exact ⟨a2, b2, rest2, us2, e2, kk.sqT hs2, nb2, zb2, by rw [upd_ne z]; exact rd2⟩
end
/-! ### a comprehension that tells new lists alone -/
section
variable {C : Cn} {X : Addr → Prop} {H H' : Hp} {σ : L2.St} {Γ Γ' : List Sl} {Q : VK} {α β τ ρ : Type}
def BodyCZ [Py β] (Z : Addr → Prop) (C : Cn) (X : Addr → Prop) (G : τ → List Sl) (d : PyData) (s : τ) (o : Option (Option β × τ)) (g : TG) (tt : TT) (te : TE) (vs : List Nat) : Prop :=
  ∀ (X : Addr → Prop) (H : Hp) (σ : L2.St) (u : V) (r : Option β × τ) (Qn : Hp → Prop) (Qy : VK), o = some r → Lo ⟨C.K, X, H, muts (G s), C.n⟩ X H σ (G s) → Rep C.K X H d u → (∀ a, ¬ Z a → H a ≠ none) →
    (r.1 = none → ∀ H', Lo ⟨C.K, X, H, muts (G s), C.n⟩ X H' σ (G r.2) → Qn H') →
    (∀ y, r.1 = some y → ∀ v H', Lo ⟨C.K, X, H, muts (G s), C.n⟩ X H' σ (G r.2) → Rep C.K (NewX X Z H') H' (enc y) v → Qy v H') →
    g u (wipe σ vs) H fun σ2 H2 => wipe σ2 vs = wipe σ vs ∧ tt σ2 H2 fun b H3 => if b = true then te σ2 H3 Qy else Qn H3
theorem x_lcL0Z {Z : Addr → Prop} [Py α] [Py β] {xs : List α} {f : α → τ → Option (Option β × τ)} {G : τ → List Sl} {s0 : τ} {q : List β × τ} {v : V} {g : TG} {tt : TT} {te : TE} {ws : List Nat}
    (L : Lo C X H σ (G s0)) (hG : ∀ s s', muts (G s) = muts (G s')) (r : Rep C.K X H (enc xs) v) (hm : compL f xs s0 = some q) (hl : xs.length ≤ 16777216)
    (hz : ∀ a, ¬ Z a → H a ≠ none) (body : ∀ x s, BodyCZ Z C X G (enc x) s (f x s) g tt te ws)
    (done : ∀ D H', H D = none → C.H0 D = none → ¬ C.X0 D → Lo C (fun a => X a ∨ a = D) H' σ (G q.2) → Keep X H H' → MRep C.K (fun a => X a ∨ a = D) H' D (.lstZ Z (q.1.map enc)) → Q (.ref D) H') :
    KLcL C.K g tt te ws σ Q v H := by
  obtain ⟨a, us, rfl, hna, hrd, hrs⟩ := rep_lst (ds := xs.map enc) r
  refine ⟨a, rfl, ⟨us, .inl hrd⟩, fun D hD => ?_⟩
  have h0 : C.H0 D = none := by
    cases e : C.H0 D with
    | none => rfl
    | some o => exact (L.dom D (by rw [e]; exact fun z => nomatch z) hD).elim
  have hDm : ∀ s, D ∉ muts (G s) := fun s h => L.xd D (L.mx D (hG s s0 ▸ h)) hD
  have sm : Same H (upd H D (.lst [])) := same_upd hD
  have lay := L.lay (p := D) (o := .lst []) hD sm ⟨[], upd_same, .nil⟩
  have L1 : Lo C (fun a => X a ∨ a = D) (upd H D (.lst [])) σ (G s0) := by
    refine ⟨L.len, fun i s hi => ?_, L.nd, fun p hp => .inl (L.mx p hp), fun a h => .inl (L.m0 a h), lay.1.xd, lay.1.base, lay.1.dom, L.own, L.tf⟩
    refine lay.1.at_ i s ?_
    rw [List.getElem?_append_left (List.getElem?_eq_some_iff.mp hi).1]
    exact hi
  have hna' : ¬ (X a ∨ a = D) := fun h => h.elim hna fun e => by
    subst e
    exact rd_nn hrd hD
  refine lc_list (K := C.K) (a := a) (xs := us) (fun i H' => ∃ s ys acc q', Lo C (fun a => X a ∨ a = D) H' σ (G s) ∧ Reps C.K (fun a => X a ∨ a = D) H' (xs.map enc) us ∧ Rd H' a (.lst us) ∧ H' D = some (.lst acc) ∧ Reps C.K (NewX (fun a => X a ∨ a = D) Z H') H' (ys.map enc) acc ∧
      compL f (xs.drop i) s = some q' ∧ q = (ys ++ q'.1, q'.2) ∧ ys.length ≤ i ∧ Keep X H H' ∧ (∀ a, H a ≠ none → H' a ≠ none))
    ⟨s0, [], [], q, L1, (hrs.more hD).keep (.same sm), Keep.rd (.same sm) hna hrd, upd_same, .nil, hm, rfl, Nat.le_refl _, .same sm, fun a h => ?_⟩ (fun i H' _ ⟨s, ys, acc, q', _, _, h, _⟩ => .inl h) ?_ ?_
  · by_cases z : a = D
    · rw [z, upd_same]; exact fun y => nomatch y
    · rw [upd_ne z]; exact h
  · rintro i y H' hy ⟨s, ys, acc, q', L', hr', hd', hacc, hys, hq', eq, hyl, hk, hdm⟩
    obtain ⟨d, hd, rd⟩ := hr'.get' hy
    rw [List.getElem?_map] at hd
    cases hx : xs[i]? with
    | none => rw [hx] at hd; cases hd
    | some x =>
      rw [hx] at hd
      cases hd
      have hil : i < xs.length := (List.getElem?_eq_some_iff.mp hx).1
      obtain ⟨r1, q1, h1, h2, h3⟩ := comp_drop hx hq'
      refine body x s _ H' σ y r1 _ _ h1 L'.enter rd (fun a z => hdm a (hz a z)) ?_ ?_
      · intro e H'' M
        have k := L'.keep M
        have kd : H'' D = some (.lst acc) := M.base D _ hacc (hDm s)
        refine ⟨r1.2, ys, acc, q1, L'.leave M (hG _ _), hr'.keep k, k.rd hna' hd', kd, hys.keepF k, h2, ?_, Nat.le_succ_of_le hyl, ?_, fun a h => M.dom a (hdm a h)⟩
        · rw [eq, h3, e]
        · refine ⟨fun b o hb n => ?_, fun b vs hb => k.2.1 b vs (hk.2.1 b vs hb), fun b o u hb => k.2.2 b o u (hk.2.2 b o u hb)⟩
          have hbD : b ≠ D := fun z => by rw [z, hD] at hb; cases hb
          exact k.1 b o (hk.1 b o hb n) fun z => z.elim n hbD
      · intro yv e v H'' M rv
        have k := L'.keep M
        have kd : H'' D = some (.lst acc) := M.base D _ hacc (hDm s)
        have L2 := L'.leave M (hG _ _)
        obtain ⟨L3, k3⟩ := L2.wroteX (p := D) (o' := .lst (acc ++ [v])) (.inr rfl) (hDm _) kd h0 (fun _ z => nomatch z) (fun _ _ z => nomatch z)
        have k4 := k.trans k3
        have hal : acc.length = ys.length := by rw [hys.length, List.length_map]
        refine ⟨acc, kd, by rw [line_eq]; omega, r1.2, ys ++ [yv], acc ++ [v], q1, L3, hr'.keep k4, k4.rd hna' hd', upd_same, ?_, h2, ?_, ?_, ?_, ?_⟩
        · rw [List.map_append]
          exact (hys.keepF k4).append (.cons (rv.keepF k3) .nil)
        · rw [eq, h3, e]
          show (ys ++ yv :: q1.1, q1.2) = (ys ++ [yv] ++ q1.1, q1.2)
          rw [List.append_assoc]; rfl
        · rw [List.length_append]; exact Nat.succ_le_succ hyl
        · refine ⟨fun b o hb n => ?_, fun b vs hb => k4.2.1 b vs (hk.2.1 b vs hb), fun b o u hb => k4.2.2 b o u (hk.2.2 b o u hb)⟩
          have hbD : b ≠ D := fun z => by rw [z, hD] at hb; cases hb
          exact k4.1 b o (hk.1 b o hb n) fun z => z.elim n hbD
        · intro a h
          by_cases z : a = D
          · rw [z, upd_same]; exact fun y => nomatch y
          · rw [upd_ne z]; exact M.dom a (hdm a h)
  · rintro H' ⟨s, ys, acc, q', L', _, _, hacc, hys, hq', eq, _, hk, hdm⟩
    rw [hrs.length, List.length_map, List.drop_length] at hq'
    cases hq'
    rw [List.append_nil] at eq
    subst eq
    exact done D H' hD h0 (fun z => L.xd D (L.m0 D z) hD) L' hk ⟨acc, hacc, hys⟩

theorem x_lcLZ [Py α] [Py β] {Z : Addr → Prop} {xs : List α} {f : α → τ → Option (Option β × τ)} {v : V} {G : τ → List Sl} {s0 : τ} {q : List β × τ} {g : TG} {tt : TT} {te : TE} {ws : List Nat} (hz : ∀ a, ¬ Z a → H a ≠ none) (L : Lo C X H σ (G s0)) (hG : ∀ s s', muts (G s) = muts (G s')) (r : Rep C.K X H (enc xs) v) (hm : compL f xs s0 = some q) (hl : xs.length ≤ 16777216)
    (body : ∀ x s, BodyCZ Z C X G (enc x) s (f x s) g tt te ws) (h : ∀ D H', Lo C X H' σ (G q.2) → (∀ d u, Rep C.K X H d u → Rep C.K X H' d u) → Rep C.K (NewX X Z H') H' (enc q.1) (.ref D) → Q (.ref D) H') : KLcL C.K g tt te ws σ Q v H :=
  x_lcL0Z L hG r hm hl hz body (fun D H' hD h0 hx M k m => by
    obtain ⟨vs, h1, h2⟩ := m
    exact h D H' (M.xanti (fun _ h => .inl h) (fun p hp => L.mx p (hG q.2 s0 ▸ hp)) L.m0) (fun _ _ q => q.keep k)
      (.lst (fun z => z.elim (fun z => L.xd D z hD) fun z => z.elim (fun z => hz D z hD) fun ⟨_, _, z⟩ => by rw [h1] at z; cases z) (.inl h1) (h2.anti fun _ z => z.imp .inl id)))
theorem x_lcLNZ [Py α] [Py β] {Z : Addr → Prop} {xs : List α} {f : α → τ → Option (Option β × τ)} {v : V} {G : τ → List Sl} {s0 : τ} {q : List β × τ} {g : TG} {tt : TT} {te : TE} {ws : List Nat} (hz : ∀ a, ¬ Z a → H a ≠ none) (L : Lo C X H σ (G s0)) (hG : ∀ s s', muts (G s) = muts (G s')) (r : Rep C.K X H (enc xs) v) (hm : compL f xs s0 = some q) (hl : xs.length ≤ 16777216)
    (body : ∀ x s, BodyCZ Z C X G (enc x) s (f x s) g tt te ws) (h : ∀ D X' H', C.H0 D = none → ¬ C.X0 D → Lo C X' H' σ (G q.2 ++ [.tmp D (.lstZ Z (q.1.map enc))]) → (∀ d u, Rep C.K X H d u → Rep C.K X' H' d u) → Q (.ref D) H') : KLcL C.K g tt te ws σ Q v H :=
  x_lcL0Z L hG r hm hl hz body (fun D H' hD h0 hx M k m => h D _ H' h0 hx (L.addT hD h0 M (hG _ _) m) fun _ _ q => (q.more hD).keep (k.mono fun _ z => .inl z))
theorem x_cyZ [Py β] {Z X' : Addr → Prop} {σ2 : L2.St} {H' : Hp} {K : PySem.W.Frag} {n : Nat} {G : τ → List Sl} {s s' : τ} {Γ2 : List Sl} {y : β} {r : Option β × τ} {v : V} {Qy : VK} (er : r = (some y, s')) (hy : ∀ y, r.1 = some y → ∀ v H', Lo ⟨K, X, H, muts (G s), n⟩ X H' σ (G r.2) → Rep K (NewX X Z H') H' (enc y) v → Qy v H')
    (L : Lo ⟨K, X, H, muts (G s), n⟩ X H σ (G s)) (M : Lo ⟨K, X, H, muts (G s), n⟩ X' H' σ2 Γ2) (b : Bk (G s) Γ2 (G s')) (q : Rep K (NewX X' Z H') H' (enc y) v) : Qy v H' := by
  subst er
  exact hy y rfl v H' (L.back M b) (q.anti fun a z => z.imp (M.m0 a) id)
theorem x_mkTZ {Y : Hp → Addr → Prop} {ds : List PyData} {vs : List V} (L : Lo C X H σ Γ) (q : Reps C.K (Y H) H ds vs) (hk : ∀ H1, Same H H1 → Reps C.K (Y H) H ds vs → Reps C.K (Y H1) H1 ds vs) (hl : vs.length ≤ 16777216) (h : ∀ v H1, Lo C X H1 σ Γ → (∀ d u, Rep C.K X H d u → Rep C.K X H1 d u) → Rep C.K (Y H1) H1 (.tuple ds) v → Q v H1) : KTup Q vs H := by
  refine ⟨by rw [line_eq]; exact hl, fun p hp => ?_⟩
  have s : Same H (upd H p (.tup vs)) := same_upd hp
  exact h _ _ (L.same s) (fun _ _ r => r.keep (.same s)) (.tup (.inl (.inl upd_same)) (hk _ s q))
theorem x_mkTN {Z : Addr → Prop} {ds : List PyData} {vs : List V} (L : Lo C X H σ Γ) (q : Reps C.K (NewX X Z H) H ds vs) (hl : vs.length ≤ 16777216) (h : ∀ v H1, Lo C X H1 σ Γ → (∀ d u, Rep C.K X H d u → Rep C.K X H1 d u) → Rep C.K (NewX X Z H1) H1 (.tuple ds) v → Q v H1) : KTup Q vs H :=
  x_mkTZ (Y := NewX X Z) L q (fun _ s r => r.keepF (.same s)) hl h
theorem x_cTup3 {i j l : Nat} {u : V} {d1 d2 d3 : PyData} {tt : TT} {te : TE} {Qy : VK} {Qn : Hp → Prop} (L : Lo C X H σ Γ) (r : Rep C.K X H (.tuple [d1, d2, d3]) u) (hi : i < C.n) (hj : j < C.n) (hl : l < C.n) (n1 : i ≠ j) (n2 : i ≠ l) (n3 : j ≠ l) (e : ((Γ.set i (.imm d1)).set j (.imm d2)).set l (.imm d3) = Γ') (h : ∀ σ2, Lo C X H σ2 Γ' → tt σ2 H (KCt te σ2 Qy Qn)) :
    gTup C.K 3 (gCons (gName i) (gCons (gName j) (gCons (gName l) gNil))) u (wipe σ [i, j, l]) H fun σ2 H2 => wipe σ2 [i, j, l] = wipe σ [i, j, l] ∧ tt σ2 H2 fun b H3 => if b = true then te σ2 H3 Qy else Qn H3 := by
  subst e
  obtain ⟨a, vs, rfl, hs, q⟩ := rep_tup r
  cases q with
  | @cons _ _ v1 _ r1 q => cases q with
    | @cons _ _ v2 _ r2 q => cases q with
      | @cons _ _ v3 _ r3 q => cases q with
        | nil =>
          refine ⟨a, _, rfl, hs, rfl, v1, [v2, v3], rfl, v2, [v3], rfl, v3, [], rfl, rfl, ?_⟩
          have w : ∀ (τ : L2.St), wipe τ [i, j, l] = ((τ.set l none).set j none).set i none := fun _ => rfl
          have e3 : (((wipe σ [i, j, l]).set i (some v1)).set j (some v2)).set l (some v3) = ((σ.set i (some v1)).set j (some v2)).set l (some v3) := by
            rw [w]
            apply List.ext_getElem?
            intro k
            simp only [List.getElem?_set, List.length_set]
            repeat' split
            all_goals first | rfl | omega
          refine ⟨?_, ?_⟩
          · rw [e3, w, w]
            apply List.ext_getElem?
            intro k
            simp only [List.getElem?_set, List.length_set]
            repeat' split
            all_goals first | rfl | omega
          · have q := h _ (((L.set r1 hi).set r2 hj).set r3 hl)
            rw [← e3] at q
            exact q
theorem k0NZ {Z : Addr → Prop} {p : Addr} {H' : Hp} {ds : List PyData} {ps : List (Addr × MO)} {P : Prop} (hz : ∀ a, Z a ↔ H a = none) (L : Lo C X H σ Γ) (F : Fin C.K X H [] ps (.new (.lstZ (fun a => H a = none) ds)) (.ref p) H') (h : ∀ X', C.H0 p = none → ¬ C.X0 p → Lo C X' H' σ (Γ ++ [.tmp p (.lstZ Z ds)]) → (∀ d u, Rep C.K X H d u → Rep C.K X' H' d u) → P) : P := by
  have e : Z = fun a => H a = none := funext fun a => propext (hz a)
  subst e
  exact k0N L F h
theorem k0iZ {v : V} {H' : Hp} {ds : List PyData} {ps : List (Addr × MO)} {G : Prop} {Z : Addr → Prop} (L : Lo C X H σ Γ) (F : Fin C.K X H [] ps (.new (.lstZ Z ds)) v H') (h : Lo C X H' σ Γ → (∀ d u, Rep C.K X H d u → Rep C.K X H' d u) → Rep C.K X H' (.list ds) v → G) : G :=
  k0i L ⟨F.base, F.dom, F.mu, (by
    obtain ⟨p, e, hp, vs, h1, h2⟩ := F.res
    exact ⟨p, e, hp, vs, h1, h2.anti fun _ => .inl⟩ : RRep C.K X H H' (.new (.lst ds)) v)⟩ h
/-- a list of the body's own is lent to a call that tells new lists alone -/
theorem k0LZ {v : V} {H' : Hp} {ds : List PyData} {ps : List (Addr × MO)} {G : Prop} (L : Lo C X H σ Γ) (F : Fin C.K X0 H [] ps (.new (.lstZ (fun a => H a = none) ds)) v H') (h : Lo C X H' σ Γ → (∀ d u, Rep C.K X H d u → Rep C.K X H' d u) → Rep C.K X H' (.list ds) v → G) : G := by
  have s : Same H H' := fun a o e => F.base a o e (by simp)
  obtain ⟨p, rfl, hp, vs, h1, h2⟩ := F.res
  refine h (L.same s) (fun _ _ r => r.keep (.same s)) (.lst (fun z => L.xd p z hp) (.inl h1) (h2.anti fun a z => .inr (.inl (L.xd a z))))
end

/-! ### xs[::h], h a sign -/
def tStep (K : PySem.W.Frag) (te ts : TE) : TE := fun σ H Q => te σ H fun x H1 => tPart ts σ H1 fun o H2 => ∃ a xs i, x = .ref a ∧ o = some i ∧ SqL K H2 a xs ∧ (i = 1 ∨ i = -1) ∧ ∀ p, H2 p = none → Q (.ref p) (upd H2 p (.lst (if i = 1 then xs else xs.reverse)))
theorem pe_step {X : Cx} {e f : Expr} {te ts : TE} {p3 pos : Pos} (he : PE X e te) (hf : PE X f ts) : PE X (.Subscript e (.Slice none none (some f) p3) pos) (tStep X.K te ts) := by
  refine ⟨fun pins s σ H Q I h => ?_⟩
  refine Subscript_ (thn (he.run pins s σ H _ I h) fun v s1 ⟨x, H1, I1, r1, q1⟩ => ?_)
  refine wpAny_Slice (thn (po_none.run pins s1 σ H1 (fun o H2 => o = none ∧ H2 = H1) I1 ⟨rfl, rfl⟩) fun vl s2 ⟨l, H2, I2, pl, el, e2⟩ => ?_)
  subst el e2
  refine thn (po_none.run pins s2 σ H2 (fun o H3 => o = none ∧ H3 = H2) I2 ⟨rfl, rfl⟩) fun vu s3 ⟨u, H3, I3, pu, eu, e3⟩ => ?_
  subst eu e3
  refine thn ((po_some hf).run pins s3 σ H3 (fun o H4 => ∃ a xs i, x = .ref a ∧ o = some i ∧ SqL X.K H4 a xs ∧ (i = 1 ∨ i = -1) ∧ ∀ p, H4 p = none → Q (.ref p) (upd H4 p (.lst (if i = 1 then xs else xs.reverse)))) I3 q1) fun vs s4 ⟨o, H4, I4, ps, a, xs, i, ex, eo, hx, hi, q⟩ => ?_
  subst ex eo
  cases r1
  have I5 : Inv X pins σ H4 { s4 with heap := s4.heap.push { cls := .type "slice", data := .fields #[vl, vu, vs] } } := I4.kept (t' := s4.toks) fun b ob q => Heap.get?_push_of_some _ q
  obtain ⟨its, r, ht, hz⟩ := I5.list hx
  have hlen := r.length
  show wpAny (model X.prog X.w) X.A (subscriptTail e (.Slice none none (some f) p3) (.ref a) (.ref s4.heap.objs.size)) (EP X pins σ Q) X.xe { s4 with heap := s4.heap.push { cls := .type "slice", data := .fields #[vl, vu, vs] } }
  refine tail_any (ops := [.ref a, .ref s4.heap.objs.size]) ht.isList.typeIs (PySem.slot_list_getitem.lookup) ?_ (by with_unfolding_all rfl)
  refine wpAny_getItem_list_slice ht.isList (Heap.IsSliceOf.new _ vl vu vs) pl pu ps (by rcases hi with e | e <;> subst e <;> decide) ?_ (by rw [List.size_toArray]; omega)
  rcases hi with e | e
  · subst e
    rw [show slicePick its.toArray none none (some 1) = its.toArray from slicePick_all its.toArray]
    rw [if_pos rfl] at q
    refine ⟨.ref _, _, I5.laid (t' := s4.toks) (o := .lst xs) (fun b ob q => Heap.get?_push_of_some _ q) (Nat.le_refl _) ?_, rfl, q _ (I5.hok.fresh (Nat.le_refl _))⟩
    exact ⟨hz, _, 0, r, Heap.get?_push_size _ rfl⟩
  · subst e
    rw [PySem.W.krv_pick]
    rw [if_neg (by decide)] at q
    refine ⟨.ref _, _, I5.laid (t' := s4.toks) (o := .lst xs.reverse) (fun b ob q => Heap.get?_push_of_some _ q) (Nat.le_refl _) ?_, rfl, q _ (I5.hok.fresh (Nat.le_refl _))⟩
    exact ⟨by rw [List.length_reverse]; exact hz, _, 0, r.reverse, Heap.get?_push_size _ rfl⟩
/-- .. of data: a new list -/
def stepG {α : Type} (xs : List α) (i : Int) : Option (List α) := if i = 1 then some xs else if i = -1 then some xs.reverse else none
section
variable {C : Cn} {X : Addr → Prop} {H : Hp} {σ : L2.St} {Γ Γ' : List Sl} {Q : VK} {α ρ : Type}
theorem x_step {te ts : TE} (h : te σ H fun x H1 => ts σ H1 fun y H2 => ∃ i, y = .int i ∧ (∃ a xs j, x = .ref a ∧ some i = some j ∧ SqL C.K H2 a xs ∧ (j = 1 ∨ j = -1) ∧ ∀ p, H2 p = none → Q (.ref p) (upd H2 p (.lst (if j = 1 then xs else xs.reverse))))) : tStep C.K te ts σ H Q := h
theorem x_stepL [Py α] {xs : List α} {i : Int} {v : V} {k : List α → Option ρ} {res : ρ} (L : Lo C X H σ Γ) (hm : (stepG xs i).bind k = some res) (r : Rep C.K X H (enc xs) v)
    (h : ∀ ys w H1, k ys = some res → Lo C X H1 σ Γ → (∀ d u, Rep C.K X H d u → Rep C.K X H1 d u) → Rep C.K X H1 (enc ys) w → Q w H1) :
    ∃ i', V.int i = .int i' ∧ (∃ a xs j, v = .ref a ∧ some i' = some j ∧ SqL C.K H a xs ∧ (j = 1 ∨ j = -1) ∧ ∀ p, H p = none → Q (.ref p) (upd H p (.lst (if j = 1 then xs else xs.reverse)))) := by
  obtain ⟨ys, hy, hk⟩ := ob hm
  obtain ⟨a, us, rfl, na, rd, q⟩ := rep_lst (ds := xs.map enc) r
  have hi : i = 1 ∨ i = -1 := by
    unfold stepG at hy
    split at hy
    · exact .inl (by assumption)
    · split at hy
      · exact .inr (by assumption)
      · cases hy
  refine ⟨i, rfl, a, us, i, rfl, rfl, .inl rd, hi, fun p hp => ?_⟩
  have fin : ∀ (zs : List α) (ws : List V), Reps C.K X H (zs.map enc) ws → ys = zs → Q (.ref p) (upd H p (.lst ws)) := fun zs ws rz e => by
    subst e
    have s : Same H (upd H p (.lst ws)) := same_upd hp
    have rr : RRep C.K X H (upd H p (.lst ws)) (.new (.lst (ys.map enc))) (.ref p) := ⟨p, rfl, hp, ws, upd_same, (rz.more hp).keep (.same s)⟩
    exact h ys _ _ hk (L.same s) (fun _ _ r => r.keep (.same s)) (rr.imm L.xd)
  rcases hi with e | e
  · subst e
    rw [if_pos rfl]
    refine fin xs us q ?_
    unfold stepG at hy
    rw [if_pos rfl] at hy
    exact (Option.some.inj hy).symm
  · subst e
    rw [if_neg (by decide)]
    refine fin xs.reverse us.reverse (by rw [List.map_reverse]; exact q.reverse) ?_
    unfold stepG at hy
    rw [if_neg (by decide), if_pos rfl] at hy
    exact (Option.some.inj hy).symm
/-- a list of which nothing is known any more -/
theorem x_tyA {i : Nat} {p : Addr} {P : Prop} (L : Lo C X H σ Γ) (g : Γ[i]? = some (.mu p .any)) (h : P) : tyV C.K "list" (.ref p) H ∧ P := by
  obtain ⟨vs, hs⟩ := L.mrep g
  exact ⟨.inl ⟨rfl, vs, .inl (.inl hs)⟩, h⟩
theorem x_clearA {i : Nat} {p : Addr} (L : Lo C X H σ Γ) (g : Γ[i]? = some (.mu p .any)) (e : Γ.set i (.mu p (.lst [])) = Γ')
    (h : ∀ H1, Lo C X H1 σ Γ' → (∀ d u, Rep C.K X H d u → Rep C.K X H1 d u) → Q .non H1) : rClear (.ref p) [] H Q := by
  subst e
  obtain ⟨vs, hs⟩ := L.mrep g
  have hX : X p := L.mx p (mem_muts.mpr ⟨i, _, g, rfl⟩)
  have kp : Keep X H (upd H p (.lst [])) := ⟨fun a u h n => by rw [upd_ne (fun z => n (by rw [z]; exact hX))]; exact h, fun a us h => by rw [upd_ne (fun z => by rw [z, hs] at h; cases h)]; exact h, fun a u w h => by rw [upd_ne (fun z => by rw [z, hs] at h; cases h)]; exact h⟩
  obtain ⟨L1, le⟩ := L.wrote (H' := upd H p (.lst [])) (o := .lst []) g rfl (fun a u h n => by rw [upd_ne n]; exact h) (fun a h => by
      by_cases z : a = p
      · rw [z, upd_same]; exact fun y => nomatch y
      · rw [upd_ne z]; exact h) ⟨[], upd_same, .nil⟩
  exact ⟨p, vs, rfl, rfl, hs, h _ L1 le⟩
end
/-! ### a told tuple of new lists -/
section
variable {C : Cn} {X : Addr → Prop} {H : Hp} {σ : L2.St} {Γ Γ' : List Sl} {Q : VK} {α β τ : Type}
theorem Lo.unfixN {Z : Addr → Prop} (L : Lo C X H σ Γ) {i : Nat} {d : PyData} (g : Γ[i]? = some (.fixN Z d)) : Lo C X H σ (Γ.set i (.imm d)) :=
  L.resl g rfl fun v ⟨u, e, r⟩ => ⟨u, e, r.anti fun _ => .inl⟩
theorem x_vfn {i : Nat} {d : PyData} {Z : Addr → Prop} (L : Lo C X H σ Γ) (e : Γ[i]? = some (.fixN Z d)) (h : ∀ v, Rep C.K X H d v → Q v H) : tVar i σ H Q := by
  obtain ⟨u, e1, r⟩ := L.at_ i _ e
  exact ⟨u, e1, h u (r.anti fun _ => .inl)⟩
theorem x_setZ {Z : Addr → Prop} {d : PyData} {i : Nat} {v : V} {N : L2.St → Hp → Prop} (L : Lo C X H σ Γ) (r : Rep C.K (NewX X Z H) H d v) (hi : i < C.n) (e : Γ.set i (.fixN Z d) = Γ') (h : ∀ σ', Lo C X H σ' Γ' → N σ' H) : gName i v σ H N := by
  subst e
  exact h _ (L.setS (i := i) (v := some v) (s := .fixN Z d) rfl ⟨v, rfl, r⟩ hi)
theorem x_mkTS {ds : List PyData} {vs : List V} (L : Lo C X H σ Γ) (q : Reps C.K X H ds vs) (hl : vs.length ≤ 16777216) (h : ∀ v H1, Same H H1 → Lo C X H1 σ Γ → (∀ d u, Rep C.K X H d u → Rep C.K X H1 d u) → Rep C.K X H1 (.tuple ds) v → Q v H1) : KTup Q vs H := by
  refine ⟨by rw [line_eq]; exact hl, fun p hp => ?_⟩
  have s : Same H (upd H p (.tup vs)) := same_upd hp
  exact h _ _ s (L.same s) (fun _ _ r => r.keep (.same s)) (.tup (.inl (.inl upd_same)) (q.keep (.same s)))
theorem x_listZ [Py α] [Flat α] {Z : Addr → Prop} {xs : List α} {v : V} (hz : ∀ a, ¬ Z a → H a ≠ none) (L : Lo C X H σ Γ) (r : Rep C.K X H (enc xs) v) (h : ∀ v H1, Lo C X H1 σ Γ → (∀ d u, Rep C.K X H d u → Rep C.K X H1 d u) → Rep C.K (NewX X Z H1) H1 (enc xs) v → Q v H1) : rListX C.K [v] H Q := by
  obtain ⟨a, vs, rfl, _, hs, q⟩ := rep_lst (ds := xs.map enc) r
  refine ⟨a, vs, rfl, .inl (.inl hs), fun p hp => ?_⟩
  have s : Same H (upd H p (.lst vs)) := same_upd hp
  refine h _ _ (L.same s) (fun _ _ r => r.keep (.same s)) (.lst (fun z => z.elim (fun z => L.xd p z hp) fun z => z.elim (fun z => hz p z hp) fun ⟨_, _, z⟩ => by rw [upd_same] at z; cases z) (.inl upd_same) ?_)
  exact (q.keep (.same s)).flat
theorem k0dN {v : V} {H' : Hp} {d : PyData} {ps : List (Addr × MO)} {P : Prop} {Z : Addr → Prop} (hz : ∀ a, Z a ↔ H a = none) (L : Lo C X H σ Γ) (F : Fin C.K X H [] ps (.immN (fun a => H a = none) d) v H') (h : Lo C X H' σ Γ → (∀ d u, Rep C.K X H d u → Rep C.K X H' d u) → Rep C.K (NewX X Z H') H' d v → P) : P := by
  have e : Z = fun a => H a = none := funext fun a => propext (hz a)
  subst e
  have s : Same H H' := fun a o e => F.base a o e (by simp)
  exact h (L.same s) (fun _ _ r => r.keep (.same s)) F.res
/-- x[0].clear() -/
theorem x_dclr1 [Py α] [Py β] {γ : Type} [Py γ] {z : T3 (List α) β γ} {Z : Addr → Prop} {i : Nat} {nx bk ct : L2.St → Hp → Prop} {rt : VK} (L : Lo C X H σ Γ) (hZ : ∀ a, Z a → C.H0 a = none)
    (g : Γ[i]? = some (.fixN Z (enc z))) (old : ∀ s ∈ Γ.set i .unk, OldS Z s) (e : Γ.set i .unk = Γ') (done : ∀ H', Lo C X H' σ Γ' → nx σ H') :
    tDrop (tBM0 C.K "list" rClear (tOp (rIxT C.K) (tVar i) (tC (.int 0)))) ⟨nx, rt, bk, ct⟩ σ H := by
  subst e
  have L1 : Lo C X H σ (Γ.set i .unk) := L.resl g rfl fun _ _ => trivial
  obtain ⟨u, eu, r⟩ := L.at_ i _ g
  obtain ⟨a, ws, rfl, hs, q⟩ := rep_tup (ds := [enc z.a, enc z.b, enc z.c]) r
  cases q with
  | cons q1 q2 =>
    obtain ⟨b, us, rfl, nb, rd, _⟩ := rep_lst (ds := z.a.map enc) q1
    have rd' : H b = some (.lst us) := by
      rcases rd with rd | ⟨o, rd⟩
      · exact rd
      · exact (nb (.inr (.inr ⟨_, _, rd⟩))).elim
    have zb : Z b := Classical.not_not.mp fun h => nb (.inr (.inl h))
    refine x_drop (x_bm0 ?_)
    refine ⟨.ref a, eu, ?_⟩
    refine ⟨a, .ref b :: _, 0, .ref b, rfl, rfl, hs, atI_zero, ?_⟩
    refine ⟨.inl ⟨rfl, us, .inl (.inl rd')⟩, ?_⟩
    exact ⟨b, us, rfl, rfl, rd', done _ (L1.clrZ (hZ b zb) (fun h => nb (.inl h)) zb rd' old)⟩
end
/-! ### texts -/
structure Ch where
  c : Nat
  deriving DecidableEq
def chS (x : Ch) : Str := ⟨#[x.c]⟩
instance : Py Ch := ⟨fun x => .str (chS x)⟩
def chs (x : Str) : List Ch := x.cps.toList.map Ch.mk
def strI (i : Int) : Option Str := if i.natAbs.log2 < 1920 then some (Str.ofString (toString i)) else none
def intT (a : Str) : Option Int := if a.length ≤ 640 then PySem.intText? a else none
def ixS (z : Str) (i : Int) : Option Str := (lenOk z.length).bind fun _ => (atI z.cps.toList i).map fun c => (⟨#[c]⟩ : Str)
def partS (a b : Str) : T3 Str Str Str := ⟨(Txt.partition a b).1, (Txt.partition a b).2.1, (Txt.partition a b).2.2⟩
def inS (x : Ch) (z : Str) : Bool := decide (x.c ∈ z.cps.toList)
def rAddS : R2 := fun x y H Q => ∃ i j, x = .str i ∧ y = .str j ∧ i.length + j.length ≤ sizeLine ∧ Q (.str (i ++ j)) H
theorem op_addSX {Xc : Cx} : OpR Xc (binaryOp .Add) rAddS := op_add_str
def rStrI : List V → Hp → VK → Prop := fun xs H Q => ∃ i : Int, xs = [.int i] ∧ i.natAbs.log2 < 1920 ∧ Q (.str (toString i)) H
theorem call_strX {Xc : Cx} : CallR Xc (.type "str") rStrI := call_str_int
def rIntT : List V → Hp → VK → Prop := fun xs H Q => ∃ a n, xs = [.str a] ∧ PySem.intText? a = some n ∧ a.length ≤ 640 ∧ Q (.int n) H
theorem call_intT {Xc : Cx} : CallR Xc (.type "int") rIntT := call_int_str
def rLenStr (K : PySem.W.Frag) : List V → Hp → VK → Prop := fun xs H Q => ∃ x n, xs = [x] ∧ LenV K x H n ∧ Q (.int n) H
theorem call_lenStr {Xc : Cx} : CallR Xc (.builtin "len") (rLenStr Xc.K) := call_len
def rPart : V → List V → Hp → VK → Prop := fun x xs H Q => ∃ a b, x = .str a ∧ xs = [.str b] ∧ (b.length == 0) = false ∧ a.length ≤ sizeLine ∧
    ∀ p, H p = none → Q (.ref p) (upd H p (.tup [.str (Txt.partition a b).1, .str (Txt.partition a b).2.1, .str (Txt.partition a b).2.2]))
theorem mt_part {Xc : Cx} : MtR Xc "str.partition" rPart := mt_partition
def rStarts : V → List V → Hp → VK → Prop := fun x xs H Q => ∃ a b, x = .str a ∧ xs = [.str b] ∧ Q (.bl (Txt.startswith a b)) H
theorem mt_starts {Xc : Cx} : MtR Xc "str.startswith" rStarts := mt_startswith
def KForY (g : TG) (tb : TS) (D : Ends) (σ : L2.St) (v : V) (H : Hp) : Prop := ∃ x, v = V.str x ∧ ∃ W : Nat → Nat → L2.St → Hp → Prop, (∃ m, W 0 m σ H) ∧ ∀ i m σ H, W i m σ H →
      ((Its x).stop i H ∧ D.nx σ H) ∨ ((Its x).go i H ∧ ∃ N : L2.St → Hp → Prop, (∀ σ' H', N σ' H' → ∃ m', m' < m ∧ W (i + 1) m' σ' H') ∧ ∀ x' H', (Its x).yld i H x' H' → g x' σ H' fun σ2 H2 => tb { D with nx := N, ct := N, bk := D.nx } σ2 H2)
section
variable {C : Cn} {X : Addr → Prop} {H : Hp} {σ : L2.St} {Γ Γ' : List Sl} {Q : VK} {α β τ ρ : Type}
theorem x_strI {i : Int} {k : Str → Option ρ} {r : ρ} (hm : (strI i).bind k = some r) (h : ∀ z, k z = some r → Q (.str z) H) : rStrI [V.int i] H Q := by
  obtain ⟨z, hz, hk⟩ := ob hm
  unfold strI at hz
  split at hz
  · cases hz; exact ⟨i, rfl, by assumption, h _ hk⟩
  · cases hz
theorem x_intT {a : Str} {k : Int → Option ρ} {r : ρ} (hm : (intT a).bind k = some r) (h : ∀ z, k z = some r → Q (.int z) H) : rIntT [V.str a] H Q := by
  obtain ⟨z, hz, hk⟩ := ob hm
  unfold intT at hz
  split at hz
  · exact ⟨a, z, rfl, hz, by assumption, h _ hk⟩
  · cases hz
theorem x_addS {a b : Str} {k : Unit → Option ρ} {r : ρ} (hm : (lenOk (a.length + b.length)).bind k = some r) (h : k () = some r → Q (.str (a ++ b)) H) : rAddS (.str a) (.str b) H Q := by
  obtain ⟨_, hz, hk⟩ := ob hm
  exact ⟨a, b, rfl, rfl, by rw [line_eq]; exact lenOk_le hz, h hk⟩
theorem x_ixStr {z : Str} {i : Int} {k : Str → Option ρ} {r : ρ} (hm : (ixS z i).bind k = some r) (h : ∀ y, k y = some r → Q (.str y) H) : rIxS (.str z) (.int i) H Q := by
  obtain ⟨y, hy, hk⟩ := ob hm
  obtain ⟨_, hl, hy⟩ := ob hy
  cases e : atI z.cps.toList i with
  | none => rw [e] at hy; cases hy
  | some c =>
    rw [e] at hy
    cases hy
    exact ⟨z, i, c, rfl, rfl, by rw [line_eq]; exact lenOk_le hl, e, h _ hk⟩
theorem x_slStr {z : Str} {lo hi : Option Int} {k : Unit → Option ρ} {r : ρ} (hm : (lenOk z.length).bind k = some r) (h : k () = some r → Q (.str (cutS z lo hi)) H) : rSlS (.str z) lo hi H Q := by
  obtain ⟨_, hz, hk⟩ := ob hm
  exact ⟨z, rfl, by rw [line_eq]; exact lenOk_le hz, h hk⟩
theorem x_lenStr {K : PySem.W.Frag} {z : Str} {k : Unit → Option ρ} {r : ρ} (hm : (lenOk z.length).bind k = some r) (h : k () = some r → Q (.int (z.length : Int)) H) : rLenStr K [V.str z] H Q := by
  obtain ⟨_, hz, hk⟩ := ob hm
  exact ⟨_, z.length, rfl, ⟨by rw [line_eq]; exact lenOk_le hz, rfl⟩, h hk⟩
theorem x_m1 {r : V → List V → Hp → VK → Prop} {to te : TE} (h : to σ H fun x H1 => (∃ a, x = .str a) ∧ te σ H1 fun y H2 => r x [y] H2 Q) : tM1 r to te σ H Q := h
theorem x_isS {a : Str} {P : Prop} (h : P) : (∃ b, V.str a = .str b) ∧ P := ⟨⟨a, rfl⟩, h⟩
theorem x_partition {a b : Str} {k : Unit → Option ρ} {r : ρ} (L : Lo C X H σ Γ) (hm : (lenOk a.length).bind k = some r) (hb : (b.length == 0) = false)
    (h : ∀ v H1, k () = some r → Lo C X H1 σ Γ → (∀ d u, Rep C.K X H d u → Rep C.K X H1 d u) → Rep C.K X H1 (enc (partS a b)) v → Q v H1) :
    rPart (.str a) [.str b] H Q := by
  obtain ⟨_, hz, hk⟩ := ob hm
  refine ⟨a, b, rfl, rfl, hb, by rw [line_eq]; exact lenOk_le hz, fun p hp => ?_⟩
  have s : Same H (upd H p (.tup [.str (Txt.partition a b).1, .str (Txt.partition a b).2.1, .str (Txt.partition a b).2.2])) := same_upd hp
  exact h _ _ hk (L.same s) (fun _ _ r => r.keep (.same s)) (.tup (.inl (.inl upd_same)) (.cons (.str _) (.cons (.str _) (.cons (.str _) .nil))))
theorem x_starts {a b : Str} (h : Q (.bl (Txt.startswith a b)) H) : rStarts (.str a) [.str b] H Q := ⟨a, b, rfl, rfl, h⟩
theorem x_inS {x : Ch} {z : Str} (h : Q (.bl (inS x z)) H) : rInS (.str (chS x)) (.str z) H Q := ⟨x.c, z, rfl, rfl, h⟩
theorem x_ninS {x : Ch} {z : Str} (h : Q (.bl (!inS x z)) H) : rNotInS (.str (chS x)) (.str z) H Q := ⟨x.c, z, rfl, rfl, h⟩
theorem x_tforY {te : TE} {g : TG} {tb : TS} {D : Ends} (h : te σ H (KForY g tb D σ)) : tFor (iStr te) g tb D σ H := h
theorem for_chs {x : Str} {g : TG} {tb : TS} {D : Ends} {σ : L2.St} {H : Hp} (Pv : Nat → L2.St → Hp → Prop) (h0 : Pv 0 σ H)
    (hs : ∀ i c σ H, x.cps[i]? = some c → Pv i σ H → g (.str ⟨#[c]⟩) σ H fun σ2 H2 => tb { D with nx := Pv (i + 1), ct := Pv (i + 1), bk := D.nx } σ2 H2) (hd : ∀ σ H, Pv x.cps.size σ H → D.nx σ H) :
    ∃ W : Nat → Nat → L2.St → Hp → Prop, (∃ m, W 0 m σ H) ∧ ∀ i m σ H, W i m σ H →
      ((Its x).stop i H ∧ D.nx σ H) ∨ ((Its x).go i H ∧ ∃ N : L2.St → Hp → Prop, (∀ σ' H', N σ' H' → ∃ m', m' < m ∧ W (i + 1) m' σ' H') ∧ ∀ x' H', (Its x).yld i H x' H' → g x' σ H' fun σ2 H2 => tb { D with nx := N, ct := N, bk := D.nx } σ2 H2) := by
  refine ⟨fun i m σ H => m = x.cps.size - i ∧ i ≤ x.cps.size ∧ Pv i σ H, ⟨x.cps.size, by simp, Nat.zero_le _, h0⟩, ?_⟩
  rintro i m σ H ⟨rfl, hi, p⟩
  by_cases hlt : i < x.cps.size
  · refine .inr ⟨hlt, Pv (i + 1), fun σ' H' p' => ⟨x.cps.size - (i + 1), by omega, rfl, hlt, p'⟩, ?_⟩
    rintro v H' ⟨rfl, c, hc, rfl⟩
    exact hs i c σ _ hc p
  · have : i = x.cps.size := by omega
    subst this
    exact .inl ⟨Nat.le_refl _, hd σ H p⟩
theorem x_forY {x : Str} {f : Ch → τ → Option (Lp τ ρ)} {G : τ → List Sl} {ps : ρ → List (Addr × MO)} {rs : ρ → Rs} {s0 : τ} {o : Lp τ ρ} {g : TG} {tb : TS} {nx bk ct : L2.St → Hp → Prop} {rt : VK}
    (L : Lo C X H σ (G s0)) (hG : ∀ s s', muts (G s) = muts (G s')) (hm : loopL f (chs x) s0 = some o)
    (body : ∀ x s, Body C X G ps rs (enc x) s (f x s) g tb)
    (done : ∀ s, o = .nxt s → ∀ σ' H', Lo C X H' σ' (G s) → nx σ' H') (brk : ∀ s, o = .brk s → ∀ σ' H', Lo C X H' σ' (G s) → nx σ' H')
    (ret : ∀ q, o = .ret q → ∀ v H', Fin C.K C.X0 C.H0 C.P0 (ps q) (rs q) v H' → rt v H') :
    KForY g tb ⟨nx, rt, bk, ct⟩ σ (.str x) H := by
  have hlen : (chs x).length = x.cps.size := by unfold chs; rw [List.length_map, Array.length_toList]
  refine ⟨x, rfl, for_chs (fun i σ' H' => ∃ s, Lo C X H' σ' (G s) ∧ loopL f ((chs x).drop i) s = some o) ⟨s0, L, hm⟩ ?_ ?_⟩
  · rintro i c σ' H' hc ⟨s, L', hm'⟩
    have hx : (chs x)[i]? = some ⟨c⟩ := by unfold chs; rw [List.getElem?_map, Array.getElem?_toList, hc]; rfl
    obtain ⟨o1, h1, h2, h3, h4⟩ := loop_drop hx hm'
    refine body ⟨c⟩ s H' σ' _ _ _ _ _ o1 h1 L'.enter (.str _) ?_ ?_ ?_ ?_
    · intro s' e X' σ'' H'' L''
      exact ⟨s', L'.leave L'' (hG _ _), h2 s' e⟩
    · intro s' e X' σ'' H'' L''
      exact ⟨s', L'.leave L'' (hG _ _), h2 s' e⟩
    · intro s' e X' σ'' H'' L''
      exact brk s' (h3 s' e) _ _ (L'.leave L'' (hG _ _))
    · intro q e v' H'' F
      exact ret q (h4 q e) v' H'' (F.leave L')
  · rintro σ' H' ⟨s, L', hm'⟩
    have : (chs x).drop x.cps.size = [] := List.drop_eq_nil_of_le (by omega)
    rw [this] at hm'
    exact done s (Option.some.inj hm').symm _ _ L'
theorem x_foY {x : Str} {f : Ch → τ → Option τ} {G : τ → List Sl} {s0 : τ} {g : TG} {tb : TS} {nx bk ct : L2.St → Hp → Prop} {rt : VK} {k : τ → Option ρ} {res : ρ}
    (L : Lo C X H σ (G s0)) (hG : ∀ s s', muts (G s) = muts (G s')) (hm : (foldO f (chs x) s0).bind k = some res)
    (body : ∀ x s, BodyO C X G (enc x) s (f x s) g tb) (done : ∀ s σ' H', k s = some res → Lo C X H' σ' (G s) → nx σ' H') : KForY g tb ⟨nx, rt, bk, ct⟩ σ (.str x) H := by
  obtain ⟨s1, h1, h2⟩ := ob hm
  exact x_forY (ρ := Empty) (o := .nxt s1) (ps := fun _ => []) (rs := fun _ => .imm .none) L hG (foldO_loop h1) (fun x s => (body x s).body) (fun s e σ' H' L' => by cases e; exact done _ _ _ h2 L') (fun s e => nomatch e) (fun q => nomatch q)
end
def m__law_cell (a__law_script : (List Int)) (a__law_k : Int) : Option Int :=
 if (decide (a__law_k < (a__law_script.length : Int))) = true then
 ((ix a__law_script a__law_k).bind fun x1 =>
 some x1)
 else
 (some 0)
def m__law_bag (a__law_cell_here : Int) : Option (List Int) :=
 if (decide (1000000000000000000 ≤ a__law_cell_here)) = true then
 (some ([a__law_cell_here, (a__law_cell_here % 2147483647)]))
 else
 (some ([0, ((((a__law_cell_here % 2147483647) * 69621) + 7) % 2147483647)]))
def m__law_draw (a__law_bag_here : (List Int)) (a__law_many : Int) : Option (Int × (List Int)) :=
 (ix a__law_bag_here 0).bind fun x1 =>
 if (decide (0 < x1)) = true then
 ((ix a__law_bag_here 0).bind fun x2 =>
 (modG x2 a__law_many).bind fun z1 =>
 (ix a__law_bag_here 0).bind fun x3 =>
 (divG x3 a__law_many).bind fun z2 =>
 (setI a__law_bag_here 0 z2).bind fun y1 =>
 some ((z1, y1)))
 else
 ((ix a__law_bag_here 1).bind fun x4 =>
 (setI a__law_bag_here 1 ((((x4 * 48271) + 4099) % 2147483647))).bind fun y2 =>
 (ix y2 1).bind fun x5 =>
 (ix y2 1).bind fun x6 =>
 (mulG x5 (((x6 / 65536) + 7))).bind fun z3 =>
 (modG (((z3 % 2147483629) / 32)) a__law_many).bind fun z4 =>
 some ((z4, y2)))
def m__law_great (a__law_bag_here : (List Int)) : Option (Int × (List Int)) :=
 (m__law_draw a__law_bag_here 100).bind fun z1 =>
 (foldO (fun (x1 : Int) (s1 : ((List Int) × Int)) =>
 ((m__law_draw s1.1 10000000).bind fun z2 =>
 (some (((s1.2 * 10000000) + z2.1))).bind fun (number_1 : Int) =>
 some ((z2.2, number_1)))) (rangeL 0 4) ((z1.2, z1.1))).bind fun (s2 : ((List Int) × Int)) =>
 some ((s2.2, s2.1))
def m__law_signed (a__law_bag_here : (List Int)) : Option (Int × (List Int)) :=
 (m__law_draw a__law_bag_here 2).bind fun z1 =>
 if (decide (z1.1 = 0)) = true then
 ((m__law_great z1.2).bind fun z2 =>
 some ((z2.1, z2.2)))
 else
 ((m__law_great z1.2).bind fun z3 =>
 some (((-z3.1), z3.2)))
def m__law_gcd (a__law_one : Int) (a__law_two : Int) : Option Int :=
 (some ((iabs a__law_one))).bind fun (one_1 : Int) =>
 (some ((iabs a__law_two))).bind fun (two_1 : Int) =>
 (loopW (ρ := Empty) (fun (s1 : (Int × Int)) =>
 (if (decide (0 < s1.2)) = true then
 ((modG s1.1 s1.2).bind fun z1 =>
 some (.nxt ((s1.2, z1))))
 else
 (some (.brk ((s1.1, s1.2)))))) (two_1.natAbs + 2) ((one_1, two_1))).bind fun o => o.out (fun (e : Empty) => e.elim) fun (s2 : (Int × Int)) =>
 some s2.1
def m__law_lowest_b (a__law_top : Int) (a__law_bottom : Int) : Option (T2 Int Int) :=
 if (decide (a__law_bottom < 0)) = true then
 (none)
 else
 ((m__law_gcd a__law_top a__law_bottom).bind fun z1 =>
 (divG a__law_top z1).bind fun z2 =>
 (divG a__law_bottom z1).bind fun z3 =>
 some ((T2.mk z2 z3)))
def m__law_lowest (a__law_top : Int) (a__law_bottom : Int) : Option (T2 Int Int) :=
 if (decide (a__law_bottom < 0)) = true then
 ((m__law_lowest_b ((-a__law_top)) ((-a__law_bottom))).bind fun z1 =>
 some z1)
 else
 ((m__law_gcd a__law_top a__law_bottom).bind fun z2 =>
 (divG a__law_top z2).bind fun z3 =>
 (divG a__law_bottom z2).bind fun z4 =>
 some ((T2.mk z3 z4)))
def m__law_rat (a__law_bag_here : (List Int)) : Option ((T2 Int Int) × (List Int)) :=
 (m__law_draw a__law_bag_here 4).bind fun z1 =>
 if (decide (z1.1 = 0)) = true then
 ((m__law_signed z1.2).bind fun z2 =>
 (m__law_great z2.2).bind fun z3 =>
 (m__law_lowest z2.1 ((1 + (z3.1 / 2)))).bind fun z4 =>
 some ((z4, z3.2)))
 else
 (if (decide (z1.1 = 1)) = true then
 ((m__law_draw z1.2 20001).bind fun z5 =>
 (m__law_draw z5.2 500).bind fun z6 =>
 (m__law_lowest ((z5.1 - 10000)) ((1 + z6.1))).bind fun z7 =>
 some ((z7, z6.2)))
 else
 ((m__law_draw z1.2 25).bind fun z8 =>
 (m__law_draw z8.2 6).bind fun z9 =>
 (m__law_lowest ((z8.1 - 12)) ((1 + z9.1))).bind fun z10 =>
 some ((z10, z9.2))))
def m_show_ratio (a_one : (T2 Int Int)) : Option Str :=
 if (decide (a_one.b = 1)) = true then
 ((strI a_one.a).bind fun x1 =>
 some x1)
 else
 ((strI a_one.a).bind fun x2 =>
 (lenOk (x2.length + (("/" : Str)).length)).bind fun _ =>
 (strI a_one.b).bind fun x3 =>
 (lenOk (((x2 ++ ("/" : Str))).length + x3.length)).bind fun _ =>
 some (((x2 ++ ("/" : Str)) ++ x3)))
def m__law_figures (a__law_number : Int) : Option Str :=
 (some (("" : Str))).bind fun (found_1 : Str) =>
 (some ((iabs a__law_number))).bind fun (rest_1 : Int) =>
 (loopW (ρ := Empty) (fun (s1 : (Str × Int)) =>
 (if (decide (0 < s1.2)) = true then
 ((ixS (("0123456789" : Str)) ((s1.2 % 10))).bind fun x2 =>
 (lenOk (x2.length + s1.1.length)).bind fun _ =>
 (some ((x2 ++ s1.1))).bind fun (found_2 : Str) =>
 (some ((s1.2 / 10))).bind fun (rest_2 : Int) =>
 some (.nxt ((found_2, rest_2))))
 else
 (some (.brk ((s1.1, s1.2)))))) (rest_1.natAbs + 2) ((found_1, rest_1))).bind fun o => o.out (fun (e : Empty) => e.elim) fun (s2 : (Str × Int)) =>
 if (decide (s2.1 = ("" : Str))) = true then
 (some (("0" : Str)))
 else
 (some s2.1)
def m__law_written (a__law_one : (T2 Int Int)) : Option Str :=
 (m__law_figures a__law_one.a).bind fun z1 =>
 (if (decide (a__law_one.a < 0)) = true then
 ((lenOk ((("-" : Str)).length + z1.length)).bind fun _ =>
 (some ((("-" : Str) ++ z1))).bind fun (found_1 : Str) =>
 some found_1)
 else
 (some z1)).bind fun (s1 : Str) =>
 (if (decide (1 < a__law_one.b)) = true then
 ((lenOk (s1.length + (("/" : Str)).length)).bind fun _ =>
 (m__law_figures a__law_one.b).bind fun z2 =>
 (lenOk (((s1 ++ ("/" : Str))).length + z2.length)).bind fun _ =>
 (some (((s1 ++ ("/" : Str)) ++ z2))).bind fun (found_2 : Str) =>
 some found_2)
 else
 (some s1)).bind fun (s2 : Str) =>
 some s2
def m__law_point (a__law_a : Int) (a__law_b : Int) (a__law_n : Int) : Option (T3 Int Int Int) :=
 (m__law_gcd a__law_a a__law_n).bind fun z1 =>
 (m__law_gcd z1 a__law_b).bind fun z2 =>
 (if (decide (a__law_n < 0)) = true then
 ((some ((-z2))).bind fun (both_1 : Int) =>
 some both_1)
 else
 (some z2)).bind fun (s1 : Int) =>
 (divG a__law_a s1).bind fun z3 =>
 (divG a__law_b s1).bind fun z4 =>
 (divG a__law_n s1).bind fun z5 =>
 some ((T3.mk z3 z4 z5))
def m_read_whole (a_text : Str) : Option Int :=
 (lenOk a_text.length).bind fun _ =>
 (if (!(((decide (1 ≤ (a_text.length : Int))) && (decide ((a_text.length : Int) ≤ 30))))) = true then some true else
 ((ixS a_text 0).bind fun x2 =>
 some (((decide (x2 = ("0" : Str))) && (!decide (a_text = ("0" : Str))))))).bind fun b1 =>
 if b1 = true then
 (none)
 else
 ((foldO (fun (x3 : Ch) (s1 : Unit) =>
 (if (!inS x3 (("0123456789" : Str))) = true then
 (none)
 else
 (some (())))) (chs a_text) (())).bind fun (s2 : Unit) =>
 (intT a_text).bind fun x4 =>
 some x4)
def m_greatest_divisor (a_a : Int) (a_b : Int) : Option Int :=
 (some ((iabs a_a))).bind fun (one_1 : Int) =>
 (some ((iabs a_b))).bind fun (other_1 : Int) =>
 (loopW (ρ := Empty) (fun (s1 : (Int × Int)) =>
 (if (decide (0 < s1.2)) = true then
 ((modG s1.1 s1.2).bind fun z1 =>
 some (.nxt ((s1.2, z1))))
 else
 (some (.brk ((s1.1, s1.2)))))) (other_1.natAbs + 2) ((one_1, other_1))).bind fun o => o.out (fun (e : Empty) => e.elim) fun (s2 : (Int × Int)) =>
 some s2.1
def m_ratio (a_top : Int) (a_bottom : Int) : Option (T2 Int Int) :=
 if (decide (a_bottom = 0)) = true then
 (none)
 else
 ((m_greatest_divisor a_top a_bottom).bind fun z1 =>
 (if (decide (a_bottom < 0)) = true then
 ((some ((-z1))).bind fun (divisor_1 : Int) =>
 some divisor_1)
 else
 (some z1)).bind fun (s1 : Int) =>
 (divG a_top s1).bind fun z2 =>
 (divG a_bottom s1).bind fun z3 =>
 some ((T2.mk z2 z3)))
def m_read_ratio (a_text : Str) : Option (T2 Int Int) :=
 (if (Txt.startswith a_text (("-" : Str))) = true then
 ((lenOk a_text.length).bind fun _ =>
 (some ((cutS a_text (some 1) none))).bind fun (rest_1 : Str) =>
 some rest_1)
 else
 (some a_text)).bind fun (s1 : Str) =>
 (lenOk s1.length).bind fun _ =>
 (m_read_whole (((partS s1 (("/" : Str)))).a)).bind fun z1 =>
 (some ((T2.mk z1 1))).bind fun (found_1 : (T2 Int Int)) =>
 if (decide (((partS s1 (("/" : Str)))).b = ("/" : Str))) = true then
 ((m_read_whole (((partS s1 (("/" : Str)))).c)).bind fun z2 =>
 (some ((T2.mk found_1.a z2))).bind fun (found_2 : (T2 Int Int)) =>
 (if (decide (found_2.b < 2)) = true then some true else
 ((m_ratio found_2.a found_2.b).bind fun z4 =>
 some ((!decide (z4 = found_2))))).bind fun b1 =>
 if b1 = true then
 (none)
 else
 (if (decide (s1 = a_text)) = true then
 (some found_2)
 else
 (if (decide (found_2.a = 0)) = true then
 (none)
 else
 (some ((T2.mk ((-found_2.a)) found_2.b))))))
 else
 (if (decide (s1 = a_text)) = true then
 (some found_1)
 else
 (if (decide (found_1.a = 0)) = true then
 (none)
 else
 (some ((T2.mk ((-found_1.a)) found_1.b)))))
def m_point (a_a : Int) (a_b : Int) (a_n : Int) : Option (T3 Int Int Int) :=
 if (decide (a_n = 0)) = true then
 (none)
 else
 ((m_greatest_divisor a_a a_n).bind fun z1 =>
 (m_greatest_divisor z1 a_b).bind fun z2 =>
 (if (decide (a_n < 0)) = true then
 ((some ((-z2))).bind fun (divisor_1 : Int) =>
 some divisor_1)
 else
 (some z2)).bind fun (s1 : Int) =>
 (divG a_a s1).bind fun z3 =>
 (divG a_b s1).bind fun z4 =>
 (divG a_n s1).bind fun z5 =>
 some ((T3.mk z3 z4 z5)))
def m_at (a_x : (T2 Int Int)) (a_y : (T2 Int Int)) : Option (T3 Int Int Int) :=
 (mulG a_x.a a_y.b).bind fun z1 =>
 (mulG a_y.a a_x.b).bind fun z2 =>
 (mulG a_x.b a_y.b).bind fun z3 =>
 (m_point z1 z2 z3).bind fun z4 =>
 some z4
def m_read_point (a_text : Str) : Option (T3 Int Int Int) :=
 (lenOk a_text.length).bind fun _ =>
 if (!decide (((partS a_text (("," : Str)))).b = ("," : Str))) = true then
 (none)
 else
 ((m_read_ratio (((partS a_text (("," : Str)))).a)).bind fun z1 =>
 (m_read_ratio (((partS a_text (("," : Str)))).c)).bind fun z2 =>
 (m_at z1 z2).bind fun z3 =>
 some z3)
def m__law_whole (a__law_found : Int) : Option Bool :=
 some ((true && (!false)))
def m__law_same (a__law_found : (T3 Int Int Int)) (a__law_due : (T3 Int Int Int)) : Option Bool :=
 if ((!true) || (!decide (3 = 3))) = true then
 (some false)
 else
 ((mapO (fun (x1 : Int) =>
 ((m__law_whole x1).bind fun z1 =>
 some z1)) [a__law_found.a, a__law_found.b, a__law_found.c]).bind fun ys1 =>
 some (((ys1.all id) && (decide (a__law_found = a__law_due)))))
def m_x_of (a_p : (T3 Int Int Int)) : Option (T2 Int Int) :=
 (m_ratio a_p.a a_p.c).bind fun z1 =>
 some z1
def m_y_of (a_p : (T3 Int Int Int)) : Option (T2 Int Int) :=
 (m_ratio a_p.b a_p.c).bind fun z1 =>
 some z1
def m_show_point (a_p : (T3 Int Int Int)) : Option Str :=
 (m_x_of a_p).bind fun z1 =>
 (m_show_ratio z1).bind fun z2 =>
 (lenOk (z2.length + (("," : Str)).length)).bind fun _ =>
 (m_y_of a_p).bind fun z3 =>
 (m_show_ratio z3).bind fun z4 =>
 (lenOk (((z2 ++ ("," : Str))).length + z4.length)).bind fun _ =>
 some (((z2 ++ ("," : Str)) ++ z4))
def m_law (a__law_script : (List Int)) : Option Bool :=
 (m__law_cell a__law_script 0).bind fun z1 =>
 (lenOk (([z1]).length + ((slice a__law_script (some 1) (some 63))).length)).bind fun _ =>
 (loopL (ρ := Bool) (fun (x1 : Int) (s1 : Unit) =>
 ((m__law_bag x1).bind fun z2 =>
 (m__law_rat z2).bind fun z3 =>
 (m__law_rat z3.2).bind fun z4 =>
 (m_show_ratio z3.1).bind fun z5 =>
 (if (!true) = true then some true else
 ((m_show_ratio z3.1).bind fun z8 =>
 (m__law_written z3.1).bind fun z9 =>
 some ((!decide (z8 = z9))))).bind fun b1 =>
 if b1 = true then
 (some (.ret false))
 else
 ((mulG z3.1.a z4.1.b).bind fun z10 =>
 (mulG z4.1.a z3.1.b).bind fun z11 =>
 (mulG z3.1.b z4.1.b).bind fun z12 =>
 (m__law_point z10 z11 z12).bind fun z13 =>
 (m__law_written z3.1).bind fun z14 =>
 (lenOk (z14.length + (("," : Str)).length)).bind fun _ =>
 (m__law_written z4.1).bind fun z15 =>
 (lenOk (((z14 ++ ("," : Str))).length + z15.length)).bind fun _ =>
 (some (((z14 ++ ("," : Str)) ++ z15))).bind fun (text_1 : Str) =>
 (m_read_point text_1).bind fun z16 =>
 (m__law_same z16 z13).bind fun z17 =>
 (if (!z17) = true then some true else
 ((m_show_point z16).bind fun z19 =>
 some ((!decide (z19 = text_1))))).bind fun b2 =>
 if b2 = true then
 (some (.ret false))
 else
 (some (.nxt (())))))) ([z1] ++ (slice a__law_script (some 1) (some 63))) (())).bind fun o => o.out (fun r => some r) fun (s2 : Unit) =>
 some true
/-! ### plain: loops, sizes -/
theorem foldO_inv {α τ : Type} {f : α → τ → Option τ} (I : Nat → τ → Prop) : ∀ {xs : List α} {s : τ} (k : Nat), (∀ j x s, I j s → ∃ s', f x s = some s' ∧ I (j + 1) s') → I k s → ∃ s', foldO f xs s = some s' ∧ I (k + xs.length) s'
  | [], s, k, _, h => ⟨s, rfl, h⟩
  | x :: xs, s, k, hf, h => by
    obtain ⟨s1, e1, h1⟩ := hf k x s h
    obtain ⟨s2, e2, h2⟩ := foldO_inv I (xs := xs) (k + 1) hf h1
    refine ⟨s2, ?_, by rw [List.length_cons, Nat.add_comm xs.length 1, ← Nat.add_assoc]; exact h2⟩
    show (f x s).bind _ = _
    rw [e1]; exact e2
/-- .. without a count -/
theorem foldO_inv' {α τ : Type} {f : α → τ → Option τ} (I : τ → Prop) {xs : List α} {s : τ} (hf : ∀ x s, I s → ∃ s', f x s = some s' ∧ I s') (h : I s) : ∃ s', foldO f xs s = some s' ∧ I s' :=
  foldO_inv (fun _ => I) 0 (fun _ => hf) h
/-- a loop that is never left early -/
theorem loopL_inv {α τ ρ : Type} {f : α → τ → Option (Lp τ ρ)} (I : τ → Prop) : ∀ {xs : List α} {s : τ}, (∀ x s, x ∈ xs → I s → ∃ s', f x s = some (.nxt s') ∧ I s') → I s → ∃ s', loopL f xs s = some (.nxt s') ∧ I s'
  | [], s, _, h => ⟨s, rfl, h⟩
  | x :: xs, s, hf, h => by
    obtain ⟨s1, e1, h1⟩ := hf x s List.mem_cons_self h
    obtain ⟨s2, e2, h2⟩ := loopL_inv I (xs := xs) (fun y s hy => hf y s (List.mem_cons_of_mem _ hy)) h1
    refine ⟨s2, ?_, h2⟩
    show (f x s).bind _ = _
    rw [e1]; exact e2
theorem log2_le {a n : Nat} (h : a < 2 ^ n) : a.log2 ≤ n := by
  by_cases z : a = 0
  · subst z; simp
  · exact Nat.le_of_lt ((Nat.log2_lt z).mpr h)
theorem mulG_ok (n m : Nat) {a b : Int} (ha : a.natAbs < 2 ^ n) (hb : b.natAbs < 2 ^ m) (h : n + m < 1000000) : mulG a b = some (a * b) := by
  unfold mulG
  rw [if_pos (Nat.lt_of_le_of_lt (Nat.add_le_add (log2_le ha) (log2_le hb)) h)]
theorem modG_pos {a b : Int} (h : 0 < b) : modG a b = some (a % b) := by
  unfold modG
  rw [if_pos (by omega), Int.fmod_eq_emod_of_nonneg _ (by omega)]
theorem divG_pos (n : Nat) {a b : Int} (h : 0 < b) (hb : b.natAbs < 2 ^ n) (hn : n < 9000) : divG a b = some (a / b) := by
  unfold divG
  rw [if_pos ⟨by omega, Nat.lt_of_le_of_lt (log2_le hb) hn⟩, Int.fdiv_eq_ediv_of_nonneg _ (by omega)]
theorem lenOk_ok {n : Nat} (h : n ≤ 16777216) : lenOk n = some () := by unfold lenOk; rw [if_pos h]
theorem slice_len {α : Type} (xs : List α) (lo hi : Option Int) : (slice xs lo hi).length ≤ xs.length := by
  unfold slice
  rw [List.length_take, List.length_drop]
  omega
theorem ix_lt {α : Type} {xs : List α} {k : Nat} (h : k < xs.length) : ix xs (k : Int) = some xs[k] := by
  unfold ix atI ixN
  have h1 : ¬ ((k : Int) < 0) := by omega
  simp [h]
theorem iabs_eq (i : Int) : iabs i = (i.natAbs : Int) := by unfold iabs; split <;> omega
theorem loopL_bind {α τ ρ β : Type} {f : α → τ → Option (Lp τ ρ)} {xs : List α} {s : τ} {g : Lp τ ρ → Option β} {v : β} (I : τ → Prop) (hf : ∀ x s, x ∈ xs → I s → ∃ s', f x s = some (.nxt s') ∧ I s') (h0 : I s) (hg : ∀ s', I s' → g (.nxt s') = some v) : (loopL f xs s).bind g = some v := by
  obtain ⟨s1, e, h⟩ := loopL_inv I hf h0
  rw [e]; exact hg s1 h
theorem foldO_bind {α τ β : Type} {f : α → τ → Option τ} {xs : List α} {s : τ} {g : τ → Option β} {v : β} (I : τ → Prop) (hf : ∀ x s, I s → ∃ s', f x s = some s' ∧ I s') (h0 : I s) (hg : ∀ s', I s' → g s' = some v) : (foldO f xs s).bind g = some v := by
  obtain ⟨s1, e, h⟩ := foldO_inv' I hf h0
  rw [e]; exact hg s1 h
/-! ### plain: the bag -/
def Bag (xs : List Int) : Prop := ∃ a b : Int, xs = [a, b] ∧ 0 ≤ a ∧ 0 ≤ b ∧ b < 2147483647
theorem draw_ok {xs : List Int} {many : Int} (h : Bag xs) (hm : 0 < many) (hM : many < 18446744073709551616) : ∃ r ys, m__law_draw xs many = some (r, ys) ∧ Bag ys ∧ 0 ≤ r ∧ r < many := by
  obtain ⟨a, b, rfl, h1, h2, h3⟩ := h
  unfold m__law_draw
  have i0 : ∀ x y : Int, ix [x, y] 0 = some x := fun _ _ => rfl
  have i1 : ∀ x y : Int, ix [x, y] 1 = some y := fun _ _ => rfl
  have s0 : ∀ x y z : Int, setI [x, y] 0 z = some [z, y] := fun _ _ _ => rfl
  have s1 : ∀ x y z : Int, setI [x, y] 1 z = some [x, z] := fun _ _ _ => rfl
  simp only [i0, i1, s0, s1, Option.bind_some]
  by_cases z : 0 < a
  · rw [if_pos (by simpa using z), modG_pos hm, divG_pos 64 hm (by omega) (by decide)]
    exact ⟨_, _, rfl, ⟨_, _, rfl, Int.ediv_nonneg h1 (by omega), h2, h3⟩, Int.emod_nonneg _ (by omega), Int.emod_lt_of_pos _ hm⟩
  · rw [if_neg (by simpa using z)]
    have e1 : 0 ≤ (b * 48271 + 4099) % 2147483647 := Int.emod_nonneg _ (by decide)
    have e2 : (b * 48271 + 4099) % 2147483647 < 2147483647 := Int.emod_lt_of_pos _ (by decide)
    rw [mulG_ok 64 64 (by omega) (by omega) (by decide)]
    simp only [Option.bind_some]
    rw [modG_pos hm]
    exact ⟨_, _, rfl, ⟨_, _, rfl, h1, e1, e2⟩, Int.emod_nonneg _ (by omega), Int.emod_lt_of_pos _ hm⟩
theorem bag_ok (n : Int) : ∃ xs, m__law_bag n = some xs ∧ Bag xs := by
  unfold m__law_bag
  by_cases z : 1000000000000000000 ≤ n
  · rw [if_pos (by simpa using z)]
    exact ⟨_, rfl, _, _, rfl, by omega, by omega, by omega⟩
  · rw [if_neg (by simpa using z)]
    exact ⟨_, rfl, _, _, rfl, by omega, by omega, by omega⟩
theorem great_ok {xs : List Int} (h : Bag xs) : ∃ r ys, m__law_great xs = some (r, ys) ∧ Bag ys ∧ 0 ≤ r ∧ r < 1000000000000000000000000000000 := by
  unfold m__law_great
  obtain ⟨r0, y0, e0, b0, l0, u0⟩ := draw_ok h (many := 100) (by decide) (by decide)
  obtain ⟨r1, y1, e1, b1, l1, u1⟩ := draw_ok b0 (many := 10000000) (by decide) (by decide)
  obtain ⟨r2, y2, e2, b2, l2, u2⟩ := draw_ok b1 (many := 10000000) (by decide) (by decide)
  obtain ⟨r3, y3, e3, b3, l3, u3⟩ := draw_ok b2 (many := 10000000) (by decide) (by decide)
  obtain ⟨r4, y4, e4, b4, l4, u4⟩ := draw_ok b3 (many := 10000000) (by decide) (by decide)
  have hr : rangeL 0 4 = [0, 1, 2, 3] := rfl
  simp only [e0, e1, e2, e3, e4, hr, foldO, Option.bind_some]
  exact ⟨_, _, rfl, b4, by omega, by omega⟩
theorem signed_ok {xs : List Int} (h : Bag xs) : ∃ r ys, m__law_signed xs = some (r, ys) ∧ Bag ys ∧ r.natAbs < 1000000000000000000000000000000 := by
  unfold m__law_signed
  obtain ⟨r0, y0, e0, b0, l0, u0⟩ := draw_ok h (many := 2) (by decide) (by decide)
  obtain ⟨r1, y1, e1, b1, l1, u1⟩ := great_ok b0
  simp only [e0, e1, Option.bind_some]
  by_cases z : r0 = 0
  · rw [if_pos (by simpa using z)]; exact ⟨_, _, rfl, b1, by omega⟩
  · rw [if_neg (by simpa using z)]; exact ⟨_, _, rfl, b1, by omega⟩
theorem gcd_loop {β : Type} : ∀ (n : Nat) (a b : Int), 0 ≤ a → 0 ≤ b → b.natAbs < n →
    loopW (ρ := β) (fun (s : Int × Int) => if (decide (0 < s.2)) = true then ((modG s.1 s.2).bind fun z => some (.nxt (s.2, z))) else (some (.brk (s.1, s.2)))) n (a, b) = some (.brk ((Int.gcd a b : Int), 0))
  | 0, a, b, _, _, h => by omega
  | n + 1, a, b, ha, hb, h => by
    unfold loopW
    by_cases z : 0 < b
    · have h1 := Int.emod_nonneg a (show b ≠ 0 by omega)
      have h2 := Int.emod_lt_of_pos a z
      rw [if_pos (by simpa using z), modG_pos z]
      simp only [Option.bind_some]
      rw [gcd_loop n b (a % b) (by omega) h1 (by omega)]
      congr 4
      rw [Int.gcd_comm, Int.emod_def, Int.gcd_comm]
      rw [show a - b * (a / b) = a + b * (-(a / b)) by rw [Int.mul_neg, Int.sub_eq_add_neg]]
      rw [Int.gcd_add_mul_left_right, Int.gcd_comm]
    · have e : b = 0 := by omega
      subst e
      rw [if_neg (by simp)]
      simp only [Option.bind_some]
      rw [Int.gcd_zero_right]
      congr 3
      omega
theorem gcd_pos {a b : Int} (h : 0 < b) : (0 : Int) < (Int.gcd a b : Int) := by
  have := Int.gcd_pos_of_ne_zero_right (a := a) (b := b) (by omega)
  omega
theorem gcd_le {a b : Int} (h : 0 < b) : (Int.gcd a b : Int) ≤ b := Int.le_of_dvd h (Int.gcd_dvd_right a b)
theorem gcd_ok (a b : Int) : m__law_gcd a b = some (Int.gcd a b : Int) := by
  unfold m__law_gcd
  simp only [Option.bind_some, iabs_eq]
  rw [gcd_loop _ _ _ (by omega) (by omega) (by omega)]
  simp only [Option.bind_some, Lp.out]
  congr 2
/-- lowest terms -/
structure Low (t b : Int) (r : T2 Int Int) : Prop where
  pos : 0 < r.b
  le : r.b ≤ b
  abs : r.a.natAbs ≤ t.natAbs
  eq : r.a * b = t * r.b
  one : Int.gcd r.a r.b = 1
theorem low_mk {t b : Int} (h : 0 < b) : Low t b ⟨t / (Int.gcd t b : Int), b / (Int.gcd t b : Int)⟩ := by
  have hg := gcd_pos (a := t) h
  have h1 : (Int.gcd t b : Int) * (t / (Int.gcd t b : Int)) = t := Int.mul_ediv_cancel' (Int.gcd_dvd_left t b)
  have h2 : (Int.gcd t b : Int) * (b / (Int.gcd t b : Int)) = b := Int.mul_ediv_cancel' (Int.gcd_dvd_right t b)
  have hp : 0 < b / (Int.gcd t b : Int) := by
    rcases Int.lt_trichotomy (b / (Int.gcd t b : Int)) 0 with z | z | z
    · have := Int.mul_neg_of_pos_of_neg hg z; omega
    · rw [z, Int.mul_zero] at h2; omega
    · exact z
  refine ⟨hp, Int.ediv_le_self _ (by omega), ?_, ?_, ?_⟩
  · exact Int.natAbs_ediv_le_natAbs _ _
  · show t / _ * b = t * (b / _)
    generalize hG : (Int.gcd t b : Int) = g at *
    generalize hx : t / g = x at *
    generalize hy : b / g = y at *
    rw [← h1, ← h2]
    rw [← Int.mul_assoc, Int.mul_comm x g]
  · show Int.gcd (t / _) (b / _) = 1
    exact Int.gcd_ediv_gcd_ediv_gcd (by omega)
theorem lowest_ok {t b : Int} (h : 0 < b) (hb : b.natAbs < 2 ^ 8000) : ∃ r, m__law_lowest t b = some r ∧ Low t b r := by
  unfold m__law_lowest
  have hg := gcd_pos (a := t) h
  have hl := gcd_le (a := t) h
  rw [if_neg (by simp; omega), gcd_ok]
  simp only [Option.bind_some]
  have hs : (Int.gcd t b : Int).natAbs < 2 ^ 8000 := Nat.lt_of_le_of_lt (by omega) hb
  rw [divG_pos 8000 hg hs (by decide), divG_pos 8000 hg hs (by decide)]
  exact ⟨_, rfl, low_mk h⟩
/-! ### plain: sizes -/
theorem pow_le {a n m : Nat} (h : a < 2 ^ n) (hn : n ≤ m) : a < 2 ^ m := Nat.lt_of_lt_of_le h (Nat.pow_le_pow_right (by decide) hn)
theorem sz_mul {a b : Int} {n m : Nat} (ha : a.natAbs < 2 ^ n) (hb : b.natAbs < 2 ^ m) : (a * b).natAbs < 2 ^ (n + m) := by
  rw [Int.natAbs_mul, Nat.pow_add]
  exact Nat.mul_lt_mul'' ha hb
theorem sz_add {a b : Int} {n : Nat} (ha : a.natAbs < 2 ^ n) (hb : b.natAbs < 2 ^ n) : (a + b).natAbs < 2 ^ (n + 1) := by
  rw [Nat.pow_succ]; omega
theorem sz_sub {a b : Int} {n : Nat} (ha : a.natAbs < 2 ^ n) (hb : b.natAbs < 2 ^ n) : (a - b).natAbs < 2 ^ (n + 1) := by
  rw [Nat.pow_succ]; omega
/-! ### plain: ratios -/
structure Rt (n : Nat) (r : T2 Int Int) : Prop where
  pos : 0 < r.b
  sa : r.a.natAbs < 2 ^ n
  sb : r.b.natAbs < 2 ^ n
  one : Int.gcd r.a r.b = 1
theorem Rt.mono {n m : Nat} {r : T2 Int Int} (h : Rt n r) (hn : n ≤ m) : Rt m r := ⟨h.pos, pow_le h.sa hn, pow_le h.sb hn, h.one⟩
theorem Low.rt {t b : Int} {r : T2 Int Int} {n : Nat} (w : Low t b r) (ht : t.natAbs < 2 ^ n) (hb : b.natAbs < 2 ^ n) : Rt n r :=
  ⟨w.pos, Nat.lt_of_le_of_lt w.abs ht, Nat.lt_of_le_of_lt (by have := w.pos; have := w.le; omega) hb, w.one⟩
theorem gcd_dvd {a b d : Int} (h : b ∣ a * d) (g : Int.gcd a b = 1) : b ∣ d := by
  rw [← Int.natAbs_dvd_natAbs, Int.natAbs_mul] at h
  rw [← Int.natAbs_dvd_natAbs]
  exact Nat.Coprime.dvd_of_dvd_mul_left (by rw [Nat.Coprime, Nat.gcd_comm]; exact g) h
theorem rt_same {r q : T2 Int Int} (h1 : 0 < r.b) (h2 : 0 < q.b) (g1 : Int.gcd r.a r.b = 1) (g2 : Int.gcd q.a q.b = 1) (e : r.a * q.b = q.a * r.b) : r = q := by
  obtain ⟨a, b⟩ := r
  obtain ⟨c, d⟩ := q
  simp only at *
  have d1 : b ∣ d := by
    have : b ∣ a * d := ⟨c, by rw [e, Int.mul_comm]⟩
    exact gcd_dvd this g1
  have d2 : d ∣ b := by
    have : d ∣ c * b := ⟨a, by rw [← e, Int.mul_comm]⟩
    exact gcd_dvd this g2
  have l1 := Int.le_of_dvd h2 d1
  have l2 := Int.le_of_dvd h1 d2
  have eb : b = d := by omega
  subst eb
  have : a = c := Int.eq_of_mul_eq_mul_right (by omega) e
  rw [this]
theorem Low.is {t b : Int} {r q : T2 Int Int} {n : Nat} (w : Low t b r) (hb : 0 < b) (h : Rt n q) (e : q.a * b = t * q.b) : r = q := by
  refine rt_same w.pos h.pos w.one h.one ?_
  have h1 := w.eq
  refine Int.eq_of_mul_eq_mul_right (show b ≠ 0 by omega) ?_
  grind
/-! ### plain: points -/
def g3 (a b n : Int) : Nat := Int.gcd (Int.gcd a n : Int) b
theorem g3_pos {a b n : Int} (h : n ≠ 0) : 0 < g3 a b n := by
  unfold g3
  have := Int.gcd_pos_of_ne_zero_right (a := a) (b := n) h
  exact Int.gcd_pos_of_ne_zero_left _ (by omega)
theorem g3_a {a b n : Int} : (g3 a b n : Int) ∣ a := Int.dvd_trans (Int.gcd_dvd_left _ _) (Int.gcd_dvd_left _ _)
theorem g3_n {a b n : Int} : (g3 a b n : Int) ∣ n := Int.dvd_trans (Int.gcd_dvd_left _ _) (Int.gcd_dvd_right _ _)
theorem g3_b {a b n : Int} : (g3 a b n : Int) ∣ b := Int.gcd_dvd_right _ _
theorem g3_le {a b n : Int} (h : 0 < n) : (g3 a b n : Int) ≤ n := Int.le_of_dvd h g3_n
theorem g3_mul (k a b n : Int) : g3 (k * a) (k * b) (k * n) = k.natAbs * g3 a b n := by
  unfold g3
  rw [Int.gcd_mul_left, Int.natCast_mul]
  rcases Int.natAbs_eq k with e | e
  · rw [← e, Int.gcd_mul_left]
  · have : (k.natAbs : Int) = -k := by omega
    rw [this, Int.neg_mul, Int.gcd_comm, Int.gcd_neg, Int.gcd_comm, Int.gcd_mul_left]
theorem g3_dvd {a b n d x : Int} (h : g3 a b n = 1) (ha : d ∣ a * x) (hb : d ∣ b * x) (hn : d ∣ n * x) : d ∣ x := by
  have h1 : g3 (x * a) (x * b) (x * n) = x.natAbs := by rw [g3_mul, h, Nat.mul_one]
  have h2 : d ∣ (g3 (x * a) (x * b) (x * n) : Int) := by
    unfold g3
    exact Int.dvd_coe_gcd (Int.dvd_coe_gcd (by rw [Int.mul_comm]; exact ha) (by rw [Int.mul_comm]; exact hn)) (by rw [Int.mul_comm]; exact hb)
  rw [h1] at h2
  exact Int.dvd_natAbs.mp h2
structure Low3 (a b n : Int) (r : T3 Int Int Int) : Prop where
  pos : 0 < r.c
  le : r.c ≤ n
  sa : r.a.natAbs ≤ a.natAbs
  sb : r.b.natAbs ≤ b.natAbs
  ea : r.a * n = a * r.c
  eb : r.b * n = b * r.c
  one : g3 r.a r.b r.c = 1
structure Pt (n : Nat) (r : T3 Int Int Int) : Prop where
  pos : 0 < r.c
  sa : r.a.natAbs < 2 ^ n
  sb : r.b.natAbs < 2 ^ n
  sc : r.c.natAbs < 2 ^ n
  one : g3 r.a r.b r.c = 1
theorem Pt.mono {n m : Nat} {r : T3 Int Int Int} (h : Pt n r) (hn : n ≤ m) : Pt m r := ⟨h.pos, pow_le h.sa hn, pow_le h.sb hn, pow_le h.sc hn, h.one⟩
theorem Low3.pt {a b n : Int} {r : T3 Int Int Int} {k : Nat} (w : Low3 a b n r) (ha : a.natAbs < 2 ^ k) (hb : b.natAbs < 2 ^ k) (hn : n.natAbs < 2 ^ k) : Pt k r :=
  ⟨w.pos, Nat.lt_of_le_of_lt w.sa ha, Nat.lt_of_le_of_lt w.sb hb, Nat.lt_of_le_of_lt (by have := w.pos; have := w.le; omega) hn, w.one⟩
theorem low3_mk {a b n : Int} (h : 0 < n) : Low3 a b n ⟨a / (g3 a b n : Int), b / (g3 a b n : Int), n / (g3 a b n : Int)⟩ := by
  have hg : (0 : Int) < (g3 a b n : Int) := by have := g3_pos (a := a) (b := b) (n := n) (by omega); omega
  have h1 : (g3 a b n : Int) * (a / (g3 a b n : Int)) = a := Int.mul_ediv_cancel' g3_a
  have h2 : (g3 a b n : Int) * (b / (g3 a b n : Int)) = b := Int.mul_ediv_cancel' g3_b
  have h3 : (g3 a b n : Int) * (n / (g3 a b n : Int)) = n := Int.mul_ediv_cancel' g3_n
  have hp : 0 < n / (g3 a b n : Int) := by
    rcases Int.lt_trichotomy (n / (g3 a b n : Int)) 0 with z | z | z
    · have := Int.mul_neg_of_pos_of_neg hg z; omega
    · rw [z, Int.mul_zero] at h3; omega
    · exact z
  have h4 := g3_mul (g3 a b n : Int) (a / (g3 a b n : Int)) (b / (g3 a b n : Int)) (n / (g3 a b n : Int))
  rw [h1, h2, h3] at h4
  have h5 : g3 (a / (g3 a b n : Int)) (b / (g3 a b n : Int)) (n / (g3 a b n : Int)) = 1 := by
    have e : ((g3 a b n : Nat) : Int).natAbs = g3 a b n := Int.natAbs_natCast _
    rw [e] at h4
    exact Nat.eq_of_mul_eq_mul_left (show 0 < g3 a b n by omega) (by rw [Nat.mul_one]; exact h4.symm)
  refine ⟨hp, Int.ediv_le_self _ (by omega), Int.natAbs_ediv_le_natAbs _ _, Int.natAbs_ediv_le_natAbs _ _, ?_, ?_, h5⟩
  · show a / _ * n = a * (n / _)
    generalize hG : (g3 a b n : Int) = g at *
    generalize hx : a / g = x at *
    generalize hy : n / g = y at *
    rw [← h1, ← h3]; grind
  · show b / _ * n = b * (n / _)
    generalize hG : (g3 a b n : Int) = g at *
    generalize hx : b / g = x at *
    generalize hy : n / g = y at *
    rw [← h2, ← h3]; grind
theorem pt_same {p q : T3 Int Int Int} (h1 : 0 < p.c) (h2 : 0 < q.c) (g1 : g3 p.a p.b p.c = 1) (g2 : g3 q.a q.b q.c = 1) (ea : p.a * q.c = q.a * p.c) (eb : p.b * q.c = q.b * p.c) : p = q := by
  obtain ⟨a, b, c⟩ := p
  obtain ⟨x, y, z⟩ := q
  simp only at *
  have d1 : c ∣ z := g3_dvd g1 ⟨x, by rw [ea, Int.mul_comm]⟩ ⟨y, by rw [eb, Int.mul_comm]⟩ ⟨z, rfl⟩
  have d2 : z ∣ c := g3_dvd g2 ⟨a, by rw [← ea, Int.mul_comm]⟩ ⟨b, by rw [← eb, Int.mul_comm]⟩ ⟨c, rfl⟩
  have l1 := Int.le_of_dvd h2 d1
  have l2 := Int.le_of_dvd h1 d2
  have e : c = z := by omega
  subst e
  have e1 : a = x := Int.eq_of_mul_eq_mul_right (by omega) ea
  have e2 : b = y := Int.eq_of_mul_eq_mul_right (by omega) eb
  rw [e1, e2]
theorem Low3.is' {a b n : Int} {r q : T3 Int Int Int} (w : Low3 a b n r) (hn : 0 < n) (h : 0 < q.c) (g : g3 q.a q.b q.c = 1) (ea : q.a * n = a * q.c) (eb : q.b * n = b * q.c) : r = q := by
  refine pt_same w.pos h w.one g ?_ ?_
  · have h1 := w.ea
    refine Int.eq_of_mul_eq_mul_right (show n ≠ 0 by omega) ?_
    grind
  · have h1 := w.eb
    refine Int.eq_of_mul_eq_mul_right (show n ≠ 0 by omega) ?_
    grind
theorem Low3.is {a b n : Int} {r q : T3 Int Int Int} {k : Nat} (w : Low3 a b n r) (hn : 0 < n) (h : Pt k q) (ea : q.a * n = a * q.c) (eb : q.b * n = b * q.c) : r = q := w.is' hn h.pos h.one ea eb
theorem Low3.both {a b n : Int} {r q : T3 Int Int Int} (w : Low3 a b n r) (v : Low3 a b n q) (hn : 0 < n) : r = q := w.is' hn v.pos v.one v.ea v.eb
theorem lawpt_ok {a b n : Int} (h : 0 < n) (hn : n.natAbs < 2 ^ 8000) : ∃ r, m__law_point a b n = some r ∧ Low3 a b n r := by
  unfold m__law_point
  have hg : (0 : Int) < (g3 a b n : Int) := by have := g3_pos (a := a) (b := b) (n := n) (by omega); omega
  have hl := g3_le (a := a) (b := b) h
  have hs : (g3 a b n : Int).natAbs < 2 ^ 8000 := Nat.lt_of_le_of_lt (by omega) hn
  rw [gcd_ok]
  simp only [Option.bind_some]
  rw [gcd_ok]
  simp only [Option.bind_some]
  rw [if_neg (by simp; omega)]
  simp only [Option.bind_some]
  have e3 : ((Int.gcd (Int.gcd a n : Int) b : Nat) : Int) = (g3 a b n : Int) := rfl
  rw [e3, divG_pos 8000 hg hs (by decide), divG_pos 8000 hg hs (by decide), divG_pos 8000 hg hs (by decide)]
  exact ⟨_, rfl, low3_mk h⟩
theorem divisor_ok (a b : Int) : m_greatest_divisor a b = some (Int.gcd a b : Int) := by
  unfold m_greatest_divisor
  simp only [Option.bind_some, iabs_eq]
  rw [gcd_loop _ _ _ (by omega) (by omega) (by omega)]
  simp only [Option.bind_some, Lp.out]
  congr 2
theorem divG_mul {u s : Int} (n : Nat) (h : s ≠ 0) (hb : s.natAbs < 2 ^ n) (hn : n < 9000) : divG (u * s) s = some u := by
  unfold divG
  rw [if_pos ⟨h, Nat.lt_of_le_of_lt (log2_le hb) hn⟩, Int.mul_fdiv_cancel _ h]
theorem pos_l {v s : Int} (hs : 0 < s) (h : 0 < v * s) : 0 < v := by
  rcases Int.lt_or_le 0 v with z | z
  · exact z
  · have := Int.mul_le_mul_of_nonneg_right z (Int.le_of_lt hs)
    rw [Int.zero_mul] at this; omega
theorem ratio_ok {t b : Int} (h : 0 < b) (hb : b.natAbs < 2 ^ 8000) : ∃ r, m_ratio t b = some r ∧ Low t b r := by
  unfold m_ratio
  have hg := gcd_pos (a := t) h
  have hl := gcd_le (a := t) h
  have hs : (Int.gcd t b : Int).natAbs < 2 ^ 8000 := Nat.lt_of_le_of_lt (by omega) hb
  rw [if_neg (by simp; omega), divisor_ok]
  simp only [Option.bind_some]
  rw [if_neg (by simp; omega)]
  simp only [Option.bind_some]
  rw [divG_pos 8000 hg hs (by decide), divG_pos 8000 hg hs (by decide)]
  exact ⟨_, rfl, low_mk h⟩
theorem point_ok {a b n : Int} (h : 0 < n) (hn : n.natAbs < 2 ^ 8000) : ∃ r, m_point a b n = some r ∧ Low3 a b n r := by
  unfold m_point
  have hg : (0 : Int) < (g3 a b n : Int) := by have := g3_pos (a := a) (b := b) (n := n) (by omega); omega
  have hl := g3_le (a := a) (b := b) h
  have hs : (g3 a b n : Int).natAbs < 2 ^ 8000 := Nat.lt_of_le_of_lt (by omega) hn
  rw [if_neg (by simp; omega), divisor_ok]
  simp only [Option.bind_some]
  rw [divisor_ok]
  simp only [Option.bind_some]
  rw [if_neg (by simp; omega)]
  simp only [Option.bind_some]
  have e3 : ((Int.gcd (Int.gcd a n : Int) b : Nat) : Int) = (g3 a b n : Int) := rfl
  rw [e3, divG_pos 8000 hg hs (by decide), divG_pos 8000 hg hs (by decide), divG_pos 8000 hg hs (by decide)]
  exact ⟨_, rfl, low3_mk h⟩
/-- the law's loop over its cells -/
theorem cell0_ok (ns : List Int) : ∃ c, m__law_cell ns 0 = some c := by
  unfold m__law_cell
  by_cases z : 0 < ns.length
  · rw [if_pos (by simpa using z)]
    have := ix_lt z
    rw [show ((0 : Nat) : Int) = 0 from rfl] at this
    rw [this]; exact ⟨_, rfl⟩
  · rw [if_neg (by simpa using z)]; exact ⟨_, rfl⟩
/-! ### plain: lists by place -/
theorem foldO_at {α τ : Type} {f : α → τ → Option τ} (I : Nat → τ → Prop) : ∀ {xs : List α} {s : τ} (k : Nat), (∀ j x s, xs[j]? = some x → I (k + j) s → ∃ s', f x s = some s' ∧ I (k + j + 1) s') → I k s → ∃ s', foldO f xs s = some s' ∧ I (k + xs.length) s'
  | [], s, k, _, h => ⟨s, rfl, h⟩
  | x :: xs, s, k, hf, h => by
    obtain ⟨s1, e1, h1⟩ := hf 0 x s rfl h
    obtain ⟨s2, e2, h2⟩ := foldO_at I (xs := xs) (s := s1) (k + 1) (fun j y s hy hi => by
      have := hf (j + 1) y s (by simpa using hy) (by rw [show k + (j + 1) = k + 1 + j by omega]; exact hi)
      rwa [show k + (j + 1) + 1 = k + 1 + j + 1 by omega] at this) (by simpa using h1)
    refine ⟨s2, ?_, by rw [List.length_cons, show k + (xs.length + 1) = k + 1 + xs.length by omega]; exact h2⟩
    show (f x s).bind _ = _
    rw [e1]; exact e2
theorem rangeL_len (lo : Int) (n : Nat) : (rangeL lo n).length = n := by unfold rangeL; rw [List.length_map, List.length_range]
theorem rangeL_at {lo : Int} {n j : Nat} {x : Int} (h : (rangeL lo n)[j]? = some x) : x = lo + (j : Int) ∧ j < n := by
  have hl : j < n := by
    have := (List.getElem?_eq_some_iff.mp h).1
    rwa [rangeL_len] at this
  rw [rangeL_get hl] at h
  exact ⟨(Option.some.inj h).symm, hl⟩
theorem foldO_range {τ : Type} {f : Int → τ → Option τ} {lo : Int} {n : Nat} {s : τ} (I : Nat → τ → Prop) (hf : ∀ j s, j < n → I j s → ∃ s', f (lo + (j : Int)) s = some s' ∧ I (j + 1) s') (h : I 0 s) : ∃ s', foldO f (rangeL lo n) s = some s' ∧ I n s' := by
  obtain ⟨s', e, h'⟩ := foldO_at I (xs := rangeL lo n) (s := s) (f := f) 0 (fun j x s hx hi => by
    obtain ⟨e, hl⟩ := rangeL_at hx
    subst e
    rw [Nat.zero_add] at hi ⊢
    exact hf j s hl hi) h
  rw [Nat.zero_add, rangeL_len] at h'
  exact ⟨s', e, h'⟩
theorem ix_neg {α : Type} {xs : List α} {k : Nat} (h : k < xs.length) : ix xs (-1 - (k : Int)) = some (xs[xs.length - 1 - k]'(by omega)) := by
  unfold ix atI ixN
  rw [if_neg (by omega), if_pos (by omega)]
  simp only [Option.bind_some]
  rw [show (-1 - (k : Int) + (xs.length : Int)).toNat = xs.length - 1 - k by omega]
  exact List.getElem?_eq_getElem _
theorem slice_from {α : Type} {xs : List α} {k : Nat} (h : k ≤ xs.length) : slice xs (some (k : Int)) none = xs.drop k := by
  unfold slice
  rw [HT.sIx_nat, HT.sIx_none, Nat.min_eq_left h]
  exact List.take_of_length_le (by rw [List.length_drop]; omega)
theorem slice_to {α : Type} {xs : List α} {k : Nat} (h : k ≤ xs.length) : slice xs none (some (k : Int)) = xs.take k := by
  unfold slice
  rw [HT.sIx_nat, HT.sIx_none, Nat.min_eq_left h]
  rfl
theorem mapO_all {α β : Type} {f : α → Option β} {g : α → β} : ∀ {xs : List α}, (∀ x ∈ xs, f x = some (g x)) → mapO f xs = some (xs.map g)
  | [], _ => rfl
  | x :: xs, h => by
    show (f x).bind _ = _
    rw [h x List.mem_cons_self]
    simp only [Option.bind_some]
    rw [mapO_all fun y hy => h y (List.mem_cons_of_mem _ hy)]
    rfl
theorem rat_ok {xs : List Int} (h : Bag xs) : ∃ r ys, m__law_rat xs = some (r, ys) ∧ Bag ys ∧ Rt 100 r ∧ r.a.natAbs < 10 ^ 30 ∧ r.b < 10 ^ 30 := by
  unfold m__law_rat
  obtain ⟨r0, y0, e0, b0, l0, u0⟩ := draw_ok h (many := 4) (by decide) (by decide)
  simp only [e0, Option.bind_some]
  by_cases z : r0 = 0
  · rw [if_pos (by simpa using z)]
    obtain ⟨r1, y1, e1, b1, u1⟩ := signed_ok b0
    obtain ⟨r2, y2, e2, b2, l2, u2⟩ := great_ok b1
    obtain ⟨q, e3, w⟩ := lowest_ok (t := r1) (b := 1 + r2 / 2) (by omega) (pow_le (n := 200) (by omega) (by decide))
    simp only [e1, e2, e3, Option.bind_some]
    exact ⟨_, _, rfl, b2, w.rt (by omega) (by omega), by have := w.abs; omega, by have := w.le; omega⟩
  · rw [if_neg (by simpa using z)]
    by_cases z : r0 = 1
    · rw [if_pos (by simpa using z)]
      obtain ⟨r1, y1, e1, b1, l1, u1⟩ := draw_ok b0 (many := 20001) (by decide) (by decide)
      obtain ⟨r2, y2, e2, b2, l2, u2⟩ := draw_ok b1 (many := 500) (by decide) (by decide)
      obtain ⟨q, e3, w⟩ := lowest_ok (t := r1 - 10000) (b := 1 + r2) (by omega) (pow_le (n := 200) (by omega) (by decide))
      simp only [e1, e2, e3, Option.bind_some]
      exact ⟨_, _, rfl, b2, w.rt (by omega) (by omega), by have := w.abs; omega, by have := w.le; omega⟩
    · rw [if_neg (by simpa using z)]
      obtain ⟨r1, y1, e1, b1, l1, u1⟩ := draw_ok b0 (many := 25) (by decide) (by decide)
      obtain ⟨r2, y2, e2, b2, l2, u2⟩ := draw_ok b1 (many := 6) (by decide) (by decide)
      obtain ⟨q, e3, w⟩ := lowest_ok (t := r1 - 12) (b := 1 + r2) (by omega) (pow_le (n := 200) (by omega) (by decide))
      simp only [e1, e2, e3, Option.bind_some]
      exact ⟨_, _, rfl, b2, w.rt (by omega) (by omega), by have := w.abs; omega, by have := w.le; omega⟩
section
open TL
/-! ### plain k67: numbers as texts -/
def numS (n : Nat) : Str := Str.ofString (toString ((n : Nat) : Int))
theorem tl_numS (n : Nat) : tl (numS n) = numL n := tl_num n
theorem numS_len {n k : Nat} (hk : 0 < k) (h : n < 10 ^ k) : (numS n).length ≤ k := by
  rw [len_tl, tl_numS]; exact numL_len hk h
def sgS (i : Int) : Str := if i < 0 then ("-" : Str) ++ numS i.natAbs else numS i.natAbs
theorem tl_min : tl ("-" : Str) = [45] := by decide +kernel
theorem tl_sl : tl ("/" : Str) = [47] := by decide +kernel
theorem tl_co : tl ("," : Str) = [44] := by decide +kernel
theorem str_of (i : Int) : (Str.ofString (toString i)) = sgS i := by
  unfold sgS
  cases i with
  | ofNat n => rw [if_neg (by simp)]; rfl
  | negSucc n =>
    rw [if_pos (by exact Int.negSucc_lt_zero n)]
    apply ext_tl
    rw [tl_append, tl_min, tl_numS, ← tl_num, tl_ofString, tl_ofString]
    show List.map Char.toNat ("-" ++ Nat.repr (n + 1)).toList = [45] ++ List.map Char.toNat (Nat.repr (n + 1)).toList
    rw [String.toList_append, List.map_append]
    rfl
theorem strI_ok {i : Int} (h : i.natAbs < 10 ^ 30) : strI i = some (sgS i) := by
  unfold strI
  rw [if_pos (Nat.lt_of_le_of_lt (log2_le (n := 100) (Nat.lt_trans h (by decide))) (by decide)), str_of]
theorem digit_at {r : Int} (h0 : 0 ≤ r) (h1 : r < 10) : ixS ("0123456789" : Str) r = some ⟨#[48 + r.toNat]⟩ := by
  obtain ⟨k, rfl⟩ : ∃ k : Nat, r = (k : Int) := ⟨r.toNat, by omega⟩
  rw [Int.toNat_natCast]
  have hk : k < 10 := by omega
  clear h0 h1
  revert k
  decide +kernel
theorem fig_loop {β : Type} : ∀ (n : Nat) (f : Str) (r : Nat) (k : Nat), r < n → r < 10 ^ k → f.length + k ≤ 1000 →
    loopW (ρ := β) (fun (s1 : (Str × Int)) =>
     (if (decide (0 < s1.2)) = true then
     ((ixS (("0123456789" : Str)) ((s1.2 % 10))).bind fun x2 =>
     (lenOk (x2.length + s1.1.length)).bind fun _ =>
     (some ((x2 ++ s1.1))).bind fun (found_2 : Str) =>
     (some ((s1.2 / 10))).bind fun (rest_2 : Int) =>
     some (.nxt ((found_2, rest_2))))
     else
     (some (.brk ((s1.1, s1.2)))))) n (f, (r : Int)) = some (.brk (⟨((if r = 0 then [] else numL r) ++ tl f).toArray⟩, 0))
  | 0, f, r, k, h, _, _ => by omega
  | n + 1, f, r, k, h, hr, hl => by
    unfold loopW
    by_cases z : r = 0
    · subst z
      rw [if_neg (by simp), if_pos rfl, List.nil_append, mk_tl]; rfl
    · obtain ⟨k, rfl⟩ : ∃ j, k = j + 1 := by
        cases k with
        | zero => rw [Nat.pow_zero] at hr; omega
        | succ j => exact ⟨j, rfl⟩
      rw [if_pos (by simp; omega)]
      simp only
      rw [show ((r : Int) % 10) = ((r % 10 : Nat) : Int) by omega, digit_at (by omega) (by omega), Option.bind_some, Int.toNat_natCast]
      have l1 : ((⟨#[48 + r % 10]⟩ : Str)).length = 1 := rfl
      rw [l1, lenOk_ok (by omega), Option.bind_some, Option.bind_some, Option.bind_some, Option.bind_some]
      show loopW _ n (_, _) = _
      rw [show ((r : Int) / 10) = ((r / 10 : Nat) : Int) by omega]
      have la : ((⟨#[48 + r % 10]⟩ : Str) ++ f).length = 1 + f.length := by rw [len_tl, tl_append, List.length_append, ← len_tl, ← len_tl, l1]
      rw [fig_loop n _ (r / 10) k (by omega) (by rw [Nat.pow_succ] at hr; omega) (by rw [la]; omega), tl_append]
      congr 4
      rw [if_neg z]
      have t1 : tl (⟨#[48 + r % 10]⟩ : Str) = [48 + r % 10] := rfl
      rw [t1]
      by_cases y : r < 10
      · rw [if_pos (by omega), numL_lt y, Nat.mod_eq_of_lt y]; rfl
      · rw [if_neg (by omega), numL_step (n := r) (by omega), List.append_assoc]
theorem figures_ok {i : Int} (h : i.natAbs < 10 ^ 30) : m__law_figures i = some (numS i.natAbs) := by
  unfold m__law_figures
  rw [Option.bind_some, Option.bind_some, iabs_eq]
  rw [fig_loop _ _ i.natAbs 30 (by omega) h (by decide +kernel)]
  rw [Option.bind_some]
  show (if _ then _ else _) = _
  have t0 : tl ("" : Str) = [] := by decide +kernel
  rw [t0, List.append_nil]
  by_cases z : i.natAbs = 0
  · rw [z, if_pos rfl, if_pos (by decide +kernel)]
    exact congrArg some (ext_tl (by rw [tl_numS, numL_lt (by decide)]; decide +kernel))
  · rw [if_neg z, if_neg ?_]
    · exact congrArg some (ext_tl (by rw [tl_numS]))
    · rw [decide_eq_true_eq]
      intro e
      have := congrArg tl e
      rw [t0] at this
      exact numL_ne _ this
/-- a ratio as a text -/
def wr (r : T2 Int Int) : Str := if r.b = 1 then sgS r.a else sgS r.a ++ ("/" : Str) ++ numS r.b.natAbs
structure R30 (r : T2 Int Int) : Prop where
  rt : Rt 100 r
  sa : r.a.natAbs < 10 ^ 30
  sb : r.b < 10 ^ 30
theorem sgS_len {i : Int} (h : i.natAbs < 10 ^ 30) : (sgS i).length ≤ 31 := by
  have := numS_len (k := 30) (by decide) h
  unfold sgS
  split
  · rw [len_tl, tl_append, List.length_append, tl_min, ← len_tl]; simp only [List.length_cons, List.length_nil]; omega
  · omega
theorem app_len (a b : Str) : (a ++ b).length = a.length + b.length := by rw [len_tl, tl_append, List.length_append, ← len_tl, ← len_tl]
theorem sl_len : ("/" : Str).length = 1 := by decide +kernel
theorem co_len : ("," : Str).length = 1 := by decide +kernel
theorem mi_len : ("-" : Str).length = 1 := by decide +kernel
theorem wr_len {r : T2 Int Int} (h : R30 r) : (wr r).length ≤ 62 := by
  have h1 := sgS_len h.sa
  have h2 := numS_len (n := r.b.natAbs) (k := 30) (by decide) (by have := h.sb; have := h.rt.pos; omega)
  unfold wr
  split
  · omega
  · rw [app_len, app_len, sl_len]; omega
theorem sg_pos {i : Int} (h : 0 ≤ i) : sgS i = numS i.natAbs := if_neg (by omega)
theorem show_ok {r : T2 Int Int} (h : R30 r) : m_show_ratio r = some (wr r) := by
  unfold m_show_ratio wr
  have hp := h.rt.pos
  have h1 := sgS_len h.sa
  have h2 := numS_len (n := r.b.natAbs) (k := 30) (by decide) (by have := h.sb; omega)
  by_cases z : r.b = 1
  · rw [if_pos (decide_eq_true z), if_pos z, strI_ok h.sa]; rfl
  · rw [if_neg (by simpa using z), if_neg z, strI_ok h.sa, Option.bind_some, lenOk_ok (by rw [sl_len]; omega), Option.bind_some, strI_ok (by have := h.sb; omega), Option.bind_some, sg_pos (i := r.b) (by omega), lenOk_ok (by rw [app_len, sl_len]; omega), Option.bind_some]
theorem written_ok {r : T2 Int Int} (h : R30 r) : m__law_written r = some (wr r) := by
  unfold m__law_written wr
  have hp := h.rt.pos
  have h0 := numS_len (n := r.a.natAbs) (k := 30) (by decide) h.sa
  have h1 := sgS_len h.sa
  have h2 := numS_len (n := r.b.natAbs) (k := 30) (by decide) (by have := h.sb; omega)
  rw [figures_ok h.sa, Option.bind_some]
  have e : (if (decide (r.a < 0)) = true then ((lenOk ((("-" : Str)).length + (numS r.a.natAbs).length)).bind fun _ => (some ((("-" : Str) ++ numS r.a.natAbs))).bind fun (found_1 : Str) => some found_1) else (some (numS r.a.natAbs))) = some (sgS r.a) := by
    unfold sgS
    by_cases z : r.a < 0
    · rw [if_pos (decide_eq_true z), if_pos z, lenOk_ok (by rw [mi_len]; omega)]; rfl
    · rw [if_neg (by simpa using z), if_neg z]
  refine (congrArg (fun o => Option.bind o _) e).trans ?_
  rw [Option.bind_some]
  by_cases z : r.b = 1
  · rw [if_neg (by simp; omega), if_pos z]; rfl
  · rw [if_pos (by simp; omega), if_neg z, lenOk_ok (by rw [sl_len]; omega), Option.bind_some, figures_ok (by have := h.sb; omega), Option.bind_some, lenOk_ok (by rw [app_len, sl_len]; omega)]; rfl
/-! ### read again -/
theorem tl_wr_free {r : T2 Int Int} (h : R30 r) : 44 ∉ tl (wr r) := by
  have fr : ∀ n, 44 ∉ numL n := fun n => numL_free (.inl (by decide))
  have fs : 44 ∉ tl (sgS r.a) := by
    unfold sgS
    split
    · rw [tl_append, tl_min, tl_numS]
      intro m
      rcases List.mem_append.mp m with m | m
      · simp at m
      · exact fr _ m
    · rw [tl_numS]; exact fr _
  unfold wr
  split
  · exact fs
  · rw [tl_append, tl_append, tl_sl, tl_numS]
    intro m
    rcases List.mem_append.mp m with m | m
    · rcases List.mem_append.mp m with m | m
      · exact fs m
      · simp at m
    · exact fr _ m
theorem numL_head : ∀ (n : Nat), 0 < n → ∃ c cs, numL n = c :: cs ∧ c ≠ 48 := by
  intro n
  induction n using Nat.strongRecOn with
  | _ n ih =>
    intro h
    by_cases z : n < 10
    · exact ⟨48 + n, [], numL_lt z, by omega⟩
    · obtain ⟨c, cs, e, ne⟩ := ih (n / 10) (by omega) (by omega)
      exact ⟨c, cs ++ [48 + n % 10], by rw [numL_step (by omega), e]; rfl, ne⟩
theorem tl_zero : tl ("0" : Str) = [48] := by decide +kernel
theorem tl_figs : tl ("0123456789" : Str) = [48, 49, 50, 51, 52, 53, 54, 55, 56, 57] := by decide +kernel
theorem in_figs {c : Nat} (h1 : 48 ≤ c) (h2 : c ≤ 57) : inS ⟨c⟩ ("0123456789" : Str) = true := by
  unfold inS
  rw [decide_eq_true_eq]
  show c ∈ tl ("0123456789" : Str)
  rw [tl_figs]
  simp only [List.mem_cons, List.not_mem_nil, or_false]
  omega
theorem foldO_unit {α : Type} {f : α → Unit → Option Unit} : ∀ {xs : List α}, (∀ x ∈ xs, f x () = some ()) → foldO f xs () = some ()
  | [], _ => rfl
  | x :: xs, h => by
    show (f x ()).bind _ = _
    rw [h x List.mem_cons_self]
    exact foldO_unit fun y hy => h y (List.mem_cons_of_mem _ hy)
theorem whole_ok {n : Nat} (h : n < 10 ^ 30) : m_read_whole (numS n) = some (n : Int) := by
  unfold m_read_whole
  have hl := numS_len (n := n) (k := 30) (by decide) h
  have h1 : 1 ≤ (numS n).length := by
    rw [len_tl, tl_numS]
    have := numL_ne n
    cases e : numL n with
    | nil => exact absurd e this
    | cons c cs => simp
  rw [lenOk_ok (by omega), Option.bind_some, if_neg (by simp; omega)]
  obtain ⟨c, cs, e, hc⟩ : ∃ c cs, numL n = c :: cs ∧ (c = 48 → n = 0) := by
    by_cases z : n = 0
    · subst z; exact ⟨48, [], numL_lt (by decide), fun _ => rfl⟩
    · obtain ⟨c, cs, e, ne⟩ := numL_head n (by omega)
      exact ⟨c, cs, e, fun y => absurd y ne⟩
  have hx : ixS (numS n) 0 = some ⟨#[c]⟩ := by
    unfold ixS
    rw [lenOk_ok (by omega), Option.bind_some]
    show (atI (tl (numS n)) 0).map _ = _
    rw [tl_numS, e, atI_zero]; rfl
  have hb : (decide ((⟨#[c]⟩ : Str) = ("0" : Str)) && (!decide (numS n = ("0" : Str)))) = false := by
    by_cases z : (⟨#[c]⟩ : Str) = ("0" : Str)
    · have := congrArg tl z
      rw [tl_zero] at this
      have ec : c = 48 := by
        have : [c] = [48] := this
        simpa using this
      have en := hc ec
      subst en
      have : numS 0 = ("0" : Str) := ext_tl (by rw [tl_numS, tl_zero, numL_lt (by decide)])
      rw [decide_eq_true this]; simp
    · rw [decide_eq_false z]; rfl
  rw [hx, Option.bind_some, hb, Option.bind_some, if_neg (by decide)]
  rw [foldO_unit fun x hx => by
    unfold chs at hx
    obtain ⟨d, hd, e⟩ := List.mem_map.mp hx
    subst e
    have hd' : d ∈ numL n := by rw [← tl_numS]; exact hd
    obtain ⟨d1, d2⟩ := numL_digits n d hd'
    rw [in_figs d1 d2]; rfl]
  rw [Option.bind_some]
  unfold intT
  rw [if_pos (by omega)]
  show (PySem.intText? (Str.ofString (toString ((n : Nat) : Int)))).bind _ = _
  rw [int_num (by rw [← tl_numS, ← len_tl]; omega)]; rfl
theorem starts_neg (x : Str) : Txt.startswith (("-" : Str) ++ x) ("-" : Str) = true := by
  show (decide (0 + ("-" : Str).length ≤ (("-" : Str) ++ x).length) && Builtin.Str.subAt (("-" : Str) ++ x) ("-" : Str) 0) = true
  rw [PySem.StrLaws.subAt_eq, app_len, mi_len, decide_eq_true (by omega), Bool.true_and]
  show (((tl (("-" : Str) ++ x)).drop 0).take 1 == tl ("-" : Str)) = true
  rw [tl_append, tl_min]; simp
theorem starts_num {x : Str} {c : Nat} {cs : List Nat} (h : tl x = c :: cs) (hc : c ≠ 45) : Txt.startswith x ("-" : Str) = false := by
  show (decide (0 + ("-" : Str).length ≤ x.length) && Builtin.Str.subAt x ("-" : Str) 0) = false
  rw [PySem.StrLaws.subAt_eq, mi_len]
  show (_ && (((tl x).drop 0).take 1 == tl ("-" : Str))) = false
  rw [h, tl_min, Bool.and_eq_false_iff]
  right
  simp [hc]
theorem cut_one (x : Str) : cutS (("-" : Str) ++ x) (some 1) none = x := by
  apply ext_tl
  unfold cutS
  show ((tl (("-" : Str) ++ x)).drop _).take _ = tl x
  rw [show (some (1 : Int)) = some ((1 : Nat) : Int) from rfl, HT.sIx_nat, HT.sIx_none, app_len, mi_len, Nat.min_eq_left (by omega), tl_append, tl_min]
  show (tl x).take (1 + x.length - 1) = tl x
  rw [List.take_of_length_le (by rw [← len_tl]; omega)]
theorem num_first (n : Nat) (x : Str) : ∃ c cs, tl (numS n ++ x) = c :: cs ∧ c ≠ 45 := by
  rw [tl_append, tl_numS]
  cases e : numL n with
  | nil => exact absurd e (numL_ne n)
  | cons c cs =>
    have := numL_digits n c (by rw [e]; exact List.mem_cons_self)
    exact ⟨c, cs ++ tl x, rfl, by omega⟩
/-- the text behind its sign -/
def bare (r : T2 Int Int) : Str := if r.b = 1 then numS r.a.natAbs else numS r.a.natAbs ++ ("/" : Str) ++ numS r.b.natAbs
theorem wr_neg {r : T2 Int Int} (h : r.a < 0) : wr r = ("-" : Str) ++ bare r := by
  unfold wr bare sgS
  rw [if_pos h]
  split
  · rfl
  · apply ext_tl; simp only [tl_append, List.append_assoc]
theorem wr_pos {r : T2 Int Int} (h : ¬ r.a < 0) : wr r = bare r := by
  unfold wr bare sgS
  rw [if_neg h]
theorem bare_len {r : T2 Int Int} (h : R30 r) : (bare r).length ≤ 61 := by
  have h1 := numS_len (k := 30) (by decide) h.sa
  have h2 := numS_len (n := r.b.natAbs) (k := 30) (by decide) (by have := h.sb; have := h.rt.pos; omega)
  unfold bare
  split
  · omega
  · rw [app_len, app_len, sl_len]; omega
theorem sl_free (n : Nat) : 47 ∉ tl (numS n) := by rw [tl_numS]; exact numL_free (.inl (by decide))
theorem ratio_self {a b : Int} (hb : 0 < b) (sb : b.natAbs < 2 ^ 100) (sa : a.natAbs < 2 ^ 100) (g : Int.gcd a b = 1) : m_ratio a b = some ⟨a, b⟩ := by
  obtain ⟨r, e, w⟩ := ratio_ok (t := a) hb (pow_le sb (by decide))
  rw [e, w.is hb (q := ⟨a, b⟩) (n := 100) ⟨hb, sa, sb, g⟩ (by show a * b = a * b; rfl)]
theorem emp_ne : decide (Str.empty = (("/" : Str))) = false := by decide +kernel
theorem ratio_read {r : T2 Int Int} (h : R30 r) : m_read_ratio (wr r) = some r := by
  unfold m_read_ratio
  have hp := h.rt.pos
  have hsb := h.sb
  have hbl := bare_len h
  have hbb : r.b.natAbs < 10 ^ 30 := by omega
  have eb : ((r.b.natAbs : Nat) : Int) = r.b := by omega
  have e1 : (if (Txt.startswith (wr r) (("-" : Str))) = true then ((lenOk (wr r).length).bind fun _ => (some ((cutS (wr r) (some 1) none))).bind fun (rest_1 : Str) => some rest_1) else (some (wr r))) = some (bare r) := by
    by_cases z : r.a < 0
    · rw [wr_neg z, if_pos (starts_neg _), lenOk_ok (by rw [app_len, mi_len]; omega), Option.bind_some, cut_one]; rfl
    · rw [wr_pos z, if_neg]
      have : ∃ c cs, tl (bare r) = c :: cs ∧ c ≠ 45 := by
        unfold bare
        split
        · obtain ⟨c, cs, e, n⟩ := num_first r.a.natAbs ⟨#[]⟩
          rw [tl_append, show tl (⟨#[]⟩ : Str) = [] from rfl, List.append_nil] at e
          exact ⟨c, cs, e, n⟩
        · obtain ⟨c, cs, e, n⟩ := num_first r.a.natAbs (("/" : Str) ++ numS r.b.natAbs)
          exact ⟨c, cs, by rw [← e]; simp only [tl_append, List.append_assoc], n⟩
      obtain ⟨c, cs, e, n⟩ := this
      rw [starts_num e n]; decide
  refine (congrArg (fun o => Option.bind o _) e1).trans ?_
  rw [Option.bind_some, lenOk_ok (by omega), Option.bind_some]
  have es : ∀ {α : Type} (u v : α), (if (decide (bare r = wr r)) = true then u else v) = if r.a < 0 then v else u := fun u v => by
    by_cases z : r.a < 0
    · rw [if_neg, if_pos z]
      rw [decide_eq_true_eq, wr_neg z]
      intro e
      have := congrArg Str.length e
      rw [app_len, mi_len] at this
      omega
    · rw [if_pos (decide_eq_true (wr_pos z).symm), if_neg z]
  by_cases z : r.b = 1
  · have ep : partS (bare r) ("/" : Str) = ⟨numS r.a.natAbs, Str.empty, Str.empty⟩ := by
      unfold partS bare
      rw [if_pos z, partition_none tl_sl (sl_free _)]
    rw [ep]
    simp only
    rw [whole_ok h.sa, Option.bind_some, Option.bind_some, if_neg (by rw [emp_ne]; decide), es]
    by_cases y : r.a < 0
    · rw [if_pos y, if_neg (by simp; omega)]
      refine congrArg some ?_
      obtain ⟨a, b⟩ := r
      simp only at y z
      subst z
      show (T2.mk (-((a.natAbs : Nat) : Int)) 1 : T2 Int Int) = _
      rw [show -((a.natAbs : Nat) : Int) = a by omega]
    · rw [if_neg y]
      refine congrArg some ?_
      obtain ⟨a, b⟩ := r
      simp only at y z
      subst z
      show (T2.mk ((a.natAbs : Nat) : Int) 1 : T2 Int Int) = _
      rw [show ((a.natAbs : Nat) : Int) = a by omega]
  · have ep : partS (bare r) ("/" : Str) = ⟨numS r.a.natAbs, ("/" : Str), numS r.b.natAbs⟩ := by
      unfold partS bare
      rw [if_neg z, partition_app tl_sl (sl_free _)]
    rw [ep]
    simp only
    have g : Int.gcd ((r.a.natAbs : Nat) : Int) r.b = 1 := by
      have := h.rt.one
      rw [← this]
      show Nat.gcd (((r.a.natAbs : Nat) : Int)).natAbs r.b.natAbs = Nat.gcd r.a.natAbs r.b.natAbs
      rw [Int.natAbs_natCast]
    rw [whole_ok h.sa, Option.bind_some, Option.bind_some, if_pos (by decide +kernel), whole_ok hbb, Option.bind_some, Option.bind_some]
    simp only
    rw [eb, if_neg (by simp; omega), ratio_self hp h.rt.sb (by rw [Int.natAbs_natCast]; exact h.rt.sa) g, Option.bind_some, Option.bind_some, if_neg (by simp), es]
    by_cases y : r.a < 0
    · rw [if_pos y, if_neg (by simp; omega), show -((r.a.natAbs : Nat) : Int) = r.a by omega]
    · rw [if_neg y, show ((r.a.natAbs : Nat) : Int) = r.a by omega]
theorem at_low {x y : T2 Int Int} (hx : R30 x) (hy : R30 y) : ∃ r, m_at x y = some r ∧ Low3 (x.a * y.b) (y.a * x.b) (x.b * y.b) r := by
  unfold m_at
  have a := hx.rt
  have b := hy.rt
  obtain ⟨r, e, w⟩ := point_ok (a := x.a * y.b) (b := y.a * x.b) (Int.mul_pos a.pos b.pos) (pow_le (sz_mul a.sb b.sb) (by decide))
  rw [mulG_ok _ _ a.sa b.sb (by decide), Option.bind_some, mulG_ok _ _ b.sa a.sb (by decide), Option.bind_some, mulG_ok _ _ a.sb b.sb (by decide), Option.bind_some, e]
  exact ⟨r, rfl, w⟩
theorem place_of {x : T2 Int Int} {p c n : Int} (hx : Rt 100 x) (hc : 0 < c) (sc : c.natAbs < 2 ^ 7000) (hn : n ≠ 0) (e : p * (x.b * n) = x.a * n * c) : m_ratio p c = some x := by
  obtain ⟨r, er, w⟩ := ratio_ok (t := p) hc (pow_le sc (by decide))
  rw [er, w.is hc hx ?_]
  refine Int.eq_of_mul_eq_mul_right hn ?_
  have : p * x.b * n = p * (x.b * n) := by rw [Int.mul_assoc]
  rw [this, e, Int.mul_right_comm]
theorem showpt_ok {x y : T2 Int Int} (hx : R30 x) (hy : R30 y) {r : T3 Int Int Int} (w : Low3 (x.a * y.b) (y.a * x.b) (x.b * y.b) r) : m_show_point r = some (wr x ++ ("," : Str) ++ wr y) := by
  unfold m_show_point m_x_of m_y_of
  have a := hx.rt
  have b := hy.rt
  have sc : r.c.natAbs < 2 ^ 7000 := (w.pt (k := 7000) (pow_le (sz_mul a.sa b.sb) (by decide)) (pow_le (sz_mul b.sa a.sb) (by decide)) (pow_le (sz_mul a.sb b.sb) (by decide))).sc
  have h1 := wr_len hx
  have h2 := wr_len hy
  have ex := w.ea
  have ey := w.eb
  rw [place_of a w.pos sc (n := y.b) (by have := b.pos; omega) ex, Option.bind_some, Option.bind_some, show_ok hx, Option.bind_some, lenOk_ok (by rw [co_len]; omega), Option.bind_some]
  rw [place_of b w.pos sc (n := x.b) (by have := a.pos; omega) (by rw [Int.mul_comm y.b]; exact ey), Option.bind_some, Option.bind_some, show_ok hy, Option.bind_some, lenOk_ok (by rw [app_len, co_len]; omega), Option.bind_some]
theorem readpt_ok {x y : T2 Int Int} (hx : R30 x) (hy : R30 y) {r : T3 Int Int Int} (e : m_at x y = some r) : m_read_point (wr x ++ ("," : Str) ++ wr y) = some r := by
  unfold m_read_point
  have h1 := wr_len hx
  have h2 := wr_len hy
  have ep : partS (wr x ++ ("," : Str) ++ wr y) ("," : Str) = ⟨wr x, ("," : Str), wr y⟩ := by
    unfold partS
    rw [partition_app tl_co (tl_wr_free hx)]
  rw [lenOk_ok (by rw [app_len, app_len, co_len]; omega), Option.bind_some, ep]
  simp only
  rw [if_neg (by simp), ratio_read hx, Option.bind_some, ratio_read hy, Option.bind_some, e]; rfl
theorem same_ok (p : T3 Int Int Int) : m__law_same p p = some true := by
  unfold m__law_same
  rw [if_neg (by decide)]
  simp only [mapO, m__law_whole, Option.bind_some]
  simp
theorem law_true : ∀ ns : List Int, ns.length ≤ 63 → m_law ns = some true := by
  intro ns hl
  unfold m_law
  obtain ⟨c, hc⟩ := cell0_ok ns
  have hs := slice_len ns (some 1) (some 63)
  rw [hc, Option.bind_some, lenOk_ok (by simp only [List.length_cons, List.length_nil]; omega), Option.bind_some]
  refine loopL_bind (fun _ => True) ?_ trivial fun _ _ => rfl
  intro t _ _ _
  refine ⟨(), ?_, trivial⟩
  obtain ⟨g, eg, bg⟩ := bag_ok t
  obtain ⟨x, y1, e1, b1, r1, s1, t1⟩ := rat_ok bg
  obtain ⟨y, y2, e2, b2, r2, s2, t2⟩ := rat_ok b1
  have hx : R30 x := ⟨r1, s1, t1⟩
  have hy : R30 y := ⟨r2, s2, t2⟩
  have h1 := wr_len hx
  have h2 := wr_len hy
  rw [eg, Option.bind_some, e1, Option.bind_some]
  simp only
  rw [e2, Option.bind_some]
  simp only
  obtain ⟨r, er, w⟩ := at_low hx hy
  obtain ⟨q, eq, wq⟩ := lawpt_ok (a := x.a * y.b) (b := y.a * x.b) (Int.mul_pos r1.pos r2.pos) (pow_le (sz_mul r1.sb r2.sb) (by decide))
  have hqr : q = r := wq.both w (Int.mul_pos r1.pos r2.pos)
  subst hqr
  rw [show_ok hx, Option.bind_some, if_neg (by decide), Option.bind_some, written_ok hx, Option.bind_some, Option.bind_some, if_neg (by simp)]
  rw [mulG_ok _ _ r1.sa r2.sb (by decide), Option.bind_some, mulG_ok _ _ r2.sa r1.sb (by decide), Option.bind_some, mulG_ok _ _ r1.sb r2.sb (by decide), Option.bind_some, eq, Option.bind_some, Option.bind_some]
  rw [lenOk_ok (by rw [co_len]; omega), Option.bind_some, written_ok hy, Option.bind_some, lenOk_ok (by rw [app_len, co_len]; omega), Option.bind_some, Option.bind_some]
  rw [readpt_ok hx hy er, Option.bind_some, same_ok, Option.bind_some, if_neg (by decide), showpt_ok hx hy w, Option.bind_some, Option.bind_some, if_neg (by simp)]
end
def top (i : Nat) : Stmt := PySem.Challenge.pw_slidecut_k67_points_written_and_read.main.body.getD i (.Pass ⟨0, 0, 0, 0⟩)
abbrev s__law_cell : Stmt := top 22
abbrev s__law_bag : Stmt := top 23
abbrev s__law_draw : Stmt := top 24
abbrev s__law_great : Stmt := top 25
abbrev s__law_signed : Stmt := top 26
abbrev s__law_gcd : Stmt := top 27
abbrev s__law_lowest : Stmt := top 28
abbrev s__law_rat : Stmt := top 31
abbrev s_show_ratio : Stmt := top 16
abbrev s__law_figures : Stmt := top 33
abbrev s__law_written : Stmt := top 34
abbrev s__law_point : Stmt := top 32
abbrev s_read_whole : Stmt := top 18
abbrev s_greatest_divisor : Stmt := top 6
abbrev s_ratio : Stmt := top 7
abbrev s_read_ratio : Stmt := top 19
abbrev s_point : Stmt := top 9
abbrev s_at : Stmt := top 12
abbrev s_read_point : Stmt := top 20
abbrev s__law_whole : Stmt := top 29
abbrev s__law_same : Stmt := top 30
abbrev s_x_of : Stmt := top 10
abbrev s_y_of : Stmt := top 11
abbrev s_show_point : Stmt := top 17
abbrev s_law : Stmt := top 35
structure Txt (K : PySem.W.Frag) (mg : Str → Option Value) where
  A__law_cell : Addr
  D__law_cell : FuncData
  F__law_cell : Fun K "_law_cell" "_law_cell" s__law_cell A__law_cell D__law_cell
  g__law_cell : mg "_law_cell" = some (.ref A__law_cell)
  b__law_cell : Binds K D__law_cell ["_law_script", "_law_k"] []
  A__law_bag : Addr
  D__law_bag : FuncData
  F__law_bag : Fun K "_law_bag" "_law_bag" s__law_bag A__law_bag D__law_bag
  g__law_bag : mg "_law_bag" = some (.ref A__law_bag)
  b__law_bag : Binds K D__law_bag ["_law_cell_here"] []
  A__law_draw : Addr
  D__law_draw : FuncData
  F__law_draw : Fun K "_law_draw" "_law_draw" s__law_draw A__law_draw D__law_draw
  g__law_draw : mg "_law_draw" = some (.ref A__law_draw)
  b__law_draw : Binds K D__law_draw ["_law_bag_here", "_law_many"] []
  A__law_great : Addr
  D__law_great : FuncData
  F__law_great : Fun K "_law_great" "_law_great" s__law_great A__law_great D__law_great
  g__law_great : mg "_law_great" = some (.ref A__law_great)
  b__law_great : Binds K D__law_great ["_law_bag_here"] []
  A__law_signed : Addr
  D__law_signed : FuncData
  F__law_signed : Fun K "_law_signed" "_law_signed" s__law_signed A__law_signed D__law_signed
  g__law_signed : mg "_law_signed" = some (.ref A__law_signed)
  b__law_signed : Binds K D__law_signed ["_law_bag_here"] []
  A__law_gcd : Addr
  D__law_gcd : FuncData
  F__law_gcd : Fun K "_law_gcd" "_law_gcd" s__law_gcd A__law_gcd D__law_gcd
  g__law_gcd : mg "_law_gcd" = some (.ref A__law_gcd)
  b__law_gcd : Binds K D__law_gcd ["_law_one", "_law_two"] []
  A__law_lowest : Addr
  D__law_lowest : FuncData
  F__law_lowest : Fun K "_law_lowest" "_law_lowest" s__law_lowest A__law_lowest D__law_lowest
  g__law_lowest : mg "_law_lowest" = some (.ref A__law_lowest)
  b__law_lowest : Binds K D__law_lowest ["_law_top", "_law_bottom"] []
  A__law_rat : Addr
  D__law_rat : FuncData
  F__law_rat : Fun K "_law_rat" "_law_rat" s__law_rat A__law_rat D__law_rat
  g__law_rat : mg "_law_rat" = some (.ref A__law_rat)
  b__law_rat : Binds K D__law_rat ["_law_bag_here"] []
  A_show_ratio : Addr
  D_show_ratio : FuncData
  F_show_ratio : Fun K "show_ratio" "show_ratio" s_show_ratio A_show_ratio D_show_ratio
  g_show_ratio : mg "show_ratio" = some (.ref A_show_ratio)
  b_show_ratio : Binds K D_show_ratio ["one"] []
  A__law_figures : Addr
  D__law_figures : FuncData
  F__law_figures : Fun K "_law_figures" "_law_figures" s__law_figures A__law_figures D__law_figures
  g__law_figures : mg "_law_figures" = some (.ref A__law_figures)
  b__law_figures : Binds K D__law_figures ["_law_number"] []
  A__law_written : Addr
  D__law_written : FuncData
  F__law_written : Fun K "_law_written" "_law_written" s__law_written A__law_written D__law_written
  g__law_written : mg "_law_written" = some (.ref A__law_written)
  b__law_written : Binds K D__law_written ["_law_one"] []
  A__law_point : Addr
  D__law_point : FuncData
  F__law_point : Fun K "_law_point" "_law_point" s__law_point A__law_point D__law_point
  g__law_point : mg "_law_point" = some (.ref A__law_point)
  b__law_point : Binds K D__law_point ["_law_a", "_law_b", "_law_n"] []
  A_read_whole : Addr
  D_read_whole : FuncData
  F_read_whole : Fun K "read_whole" "read_whole" s_read_whole A_read_whole D_read_whole
  g_read_whole : mg "read_whole" = some (.ref A_read_whole)
  b_read_whole : Binds K D_read_whole ["text"] []
  A_greatest_divisor : Addr
  D_greatest_divisor : FuncData
  F_greatest_divisor : Fun K "greatest_divisor" "greatest_divisor" s_greatest_divisor A_greatest_divisor D_greatest_divisor
  g_greatest_divisor : mg "greatest_divisor" = some (.ref A_greatest_divisor)
  b_greatest_divisor : Binds K D_greatest_divisor ["a", "b"] []
  A_ratio : Addr
  D_ratio : FuncData
  F_ratio : Fun K "ratio" "ratio" s_ratio A_ratio D_ratio
  g_ratio : mg "ratio" = some (.ref A_ratio)
  b_ratio : Binds K D_ratio ["top", "bottom"] []
  A_read_ratio : Addr
  D_read_ratio : FuncData
  F_read_ratio : Fun K "read_ratio" "read_ratio" s_read_ratio A_read_ratio D_read_ratio
  g_read_ratio : mg "read_ratio" = some (.ref A_read_ratio)
  b_read_ratio : Binds K D_read_ratio ["text"] []
  A_point : Addr
  D_point : FuncData
  F_point : Fun K "point" "point" s_point A_point D_point
  g_point : mg "point" = some (.ref A_point)
  b_point : Binds K D_point ["a", "b", "n"] []
  A_at : Addr
  D_at : FuncData
  F_at : Fun K "at" "at" s_at A_at D_at
  g_at : mg "at" = some (.ref A_at)
  b_at : Binds K D_at ["x", "y"] []
  A_read_point : Addr
  D_read_point : FuncData
  F_read_point : Fun K "read_point" "read_point" s_read_point A_read_point D_read_point
  g_read_point : mg "read_point" = some (.ref A_read_point)
  b_read_point : Binds K D_read_point ["text"] []
  A__law_whole : Addr
  D__law_whole : FuncData
  F__law_whole : Fun K "_law_whole" "_law_whole" s__law_whole A__law_whole D__law_whole
  g__law_whole : mg "_law_whole" = some (.ref A__law_whole)
  b__law_whole : Binds K D__law_whole ["_law_found"] []
  A__law_same : Addr
  D__law_same : FuncData
  F__law_same : Fun K "_law_same" "_law_same" s__law_same A__law_same D__law_same
  g__law_same : mg "_law_same" = some (.ref A__law_same)
  b__law_same : Binds K D__law_same ["_law_found", "_law_due"] []
  A_x_of : Addr
  D_x_of : FuncData
  F_x_of : Fun K "x_of" "x_of" s_x_of A_x_of D_x_of
  g_x_of : mg "x_of" = some (.ref A_x_of)
  b_x_of : Binds K D_x_of ["p"] []
  A_y_of : Addr
  D_y_of : FuncData
  F_y_of : Fun K "y_of" "y_of" s_y_of A_y_of D_y_of
  g_y_of : mg "y_of" = some (.ref A_y_of)
  b_y_of : Binds K D_y_of ["p"] []
  A_show_point : Addr
  D_show_point : FuncData
  F_show_point : Fun K "show_point" "show_point" s_show_point A_show_point D_show_point
  g_show_point : mg "show_point" = some (.ref A_show_point)
  b_show_point : Binds K D_show_point ["p"] []
  A_law : Addr
  D_law : FuncData
  F_law : Fun K "law" "law" s_law A_law D_law
  g_law : mg "law" = some (.ref A_law)
  b_law : Binds K D_law ["_law_script"] []
  z_abs : mg "abs" = none
  z_all : mg "all" = none
  z_bool : mg "bool" = none
  z_int : mg "int" = none
  z_isinstance : mg "isinstance" = none
  z_len : mg "len" = none
  z_range : mg "range" = none
  z_str : mg "str" = none
  z_tuple : mg "tuple" = none
  t_FIGURES : Tok
  c_FIGURES : mg "FIGURES" = some (.str "0123456789" t_FIGURES)
  t_MOST_FIGURES : Tok
  c_MOST_FIGURES : mg "MOST_FIGURES" = some (.int (30) t_MOST_FIGURES)
section
variable {P : Program} {w : World} {K : PySem.W.Frag} {mg : Str → Option Value} {base : Heap}
abbrev sp__law_cell (K : PySem.W.Frag) : Sp := fun vs H Q _ => ∃ (X : Addr → Prop)  (a__law_script : (List Int)) (a__law_k : Int) (r : Int), m__law_cell a__law_script a__law_k = some r ∧ Cond K X H [.scr a__law_script, .imm (.int a__law_k)] vs ∧ ∀ H', Fin K X H [] [] (.imm (.int r)) (.int r) H' → Q (.int r) H'
theorem mk__law_cell {K : PySem.W.Frag} {X : Addr → Prop} {H : Hp} {vs : List V} {Q : VK} {E : XK}  {a__law_script : (List Int)} {a__law_k : Int} {r : Int} (hm : m__law_cell a__law_script a__law_k = some r) (c : Cond K X H [.scr a__law_script, .imm (.int a__law_k)] vs) (k : ∀ H', Fin K X H [] [] (.imm (.int r)) (.int r) H' → Q (.int r) H') : sp__law_cell K vs H Q E := ⟨X, a__law_script, a__law_k, r, hm, c, k⟩
abbrev n__law_cell : List Str := ["_law_script", "_law_k"]
theorem sc__law_cell : FnScope n__law_cell ["_law_script", "_law_k"] (defScope s__law_cell) := ⟨rfl, rfl, rfl, by decide +kernel, rfl, by decide +kernel, by decide +kernel⟩
theorem ok__law_cell (T : Txt K mg) : FnOk P w K mg base CX0 1 T.A__law_cell T.D__law_cell ["_law_script", "_law_k"] (sp__law_cell K) := by
  refine Fun.ok T.F__law_cell sc__law_cell (fun vs H Q E h => ?_) (fun cdv A outer s H vs Q E hr h => ?_)
  · obtain ⟨X, a__law_script, a__law_k, r, hm, c, kont⟩ := h
    exact c.len
  · obtain ⟨X, a__law_script, a__law_k, r, hm, c, kont⟩ := h
    refine ⟨_, (pss_cons (ps_if (pt_cmpR op_lt (pv 1) (pe_callB (r := rLenX K) call_lenX (by rfl) T.z_len (by decide +kernel) (pa_cons (pv 0) pa_nil)) (nomark _)) (pss_one (ps_ret (pe_ix (r := rIxL K) ix_list (pv 0) (pv 1) (fun _ _ => rfl)))) pss_nil)
      (pss_one (ps_ret pe_int))), ?_⟩
    have L0 : Lo ⟨K, X, H, muts [.scr a__law_script, .imm (.int a__law_k)], n__law_cell.length⟩ X H (L2.start n__law_cell vs) [.scr a__law_script, .imm (.int a__law_k)] := c.start n__law_cell (show (2 : Nat) ≤ 2 by decide)
    unfold m__law_cell at hm
    refine x_seq (x_ifS (x_test (x_op (x_vI (x := a__law_k) L0 rfl (x_cb (x_cons (x_vscr L0 rfl fun v1 r1 => x_nil (x_lenS r1 (x_r0 (x_kb (x_if hm (fun hm1 => ?_) fun hm1 => ?_)))))))))))
    · exact x_ret (x_op (x_vscr L0 rfl fun v2 r2 => x_vI (x := a__law_k) L0 rfl (x_ixS hm1 r2 fun x1 _ hm2 => x_finI (Q := Q) (ps := (fun (r : Int) => [])) (sc := fun (r : Int) => r) x1 hm2 kont (L0.fin hp0 (.int _)))))
    · refine x_next ?_
      exact x_ret (x_c (x_finI (Q := Q) (ps := (fun (r : Int) => [])) (sc := fun (r : Int) => r) 0 hm1 kont (L0.fin hp0 (.int _))))
abbrev sp__law_bag (K : PySem.W.Frag) : Sp := fun vs H Q _ => ∃ (X : Addr → Prop)  (a__law_cell_here : Int) (r : (List Int)), m__law_bag a__law_cell_here = some r ∧ Cond K X H [.imm (.int a__law_cell_here)] vs ∧ ∀ p H', Fin K X H [] [] (.new (ml (r : (List Int)))) (.ref p) H' → Q (.ref p) H'
theorem mk__law_bag {K : PySem.W.Frag} {X : Addr → Prop} {H : Hp} {vs : List V} {Q : VK} {E : XK}  {a__law_cell_here : Int} {r : (List Int)} (hm : m__law_bag a__law_cell_here = some r) (c : Cond K X H [.imm (.int a__law_cell_here)] vs) (k : ∀ p H', Fin K X H [] [] (.new (ml (r : (List Int)))) (.ref p) H' → Q (.ref p) H') : sp__law_bag K vs H Q E := ⟨X, a__law_cell_here, r, hm, c, k⟩
abbrev n__law_bag : List Str := ["_law_cell_here"]
theorem sc__law_bag : FnScope n__law_bag ["_law_cell_here"] (defScope s__law_bag) := ⟨rfl, rfl, rfl, by decide +kernel, rfl, by decide +kernel, by decide +kernel⟩
theorem ok__law_bag (T : Txt K mg) : FnOk P w K mg base CX0 1 T.A__law_bag T.D__law_bag ["_law_cell_here"] (sp__law_bag K) := by
  refine Fun.ok T.F__law_bag sc__law_bag (fun vs H Q E h => ?_) (fun cdv A outer s H vs Q E hr h => ?_)
  · obtain ⟨X, a__law_cell_here, r, hm, c, kont⟩ := h
    exact c.len
  · obtain ⟨X, a__law_cell_here, r, hm, c, kont⟩ := h
    refine ⟨_, (pss_cons (ps_if (pt_cmpR op_ge (pv 0) (pe_op op_pow pe_int pe_int) (nomark _)) (pss_one (ps_ret (pe_lst (pa_cons (pv 0) (pa_cons (pe_op op_mod (pv 0) pe_int) pa_nil))))) pss_nil)
      (pss_one (ps_ret (pe_lst (pa_cons pe_int (pa_cons (pe_op op_mod (pe_op op_add (pe_op op_mul (pe_op op_mod (pv 0) pe_int) pe_int) pe_int) pe_int) pa_nil)))))), ?_⟩
    have L0 : Lo ⟨K, X, H, muts [.imm (.int a__law_cell_here)], n__law_bag.length⟩ X H (L2.start n__law_bag vs) [.imm (.int a__law_cell_here)] := c.start n__law_bag (show (1 : Nat) ≤ 1 by decide)
    unfold m__law_bag at hm
    refine x_seq (x_ifS (x_test (x_op (x_vI (x := a__law_cell_here) L0 rfl (x_op (x_c (x_c (x_powc (n := 1000000000000000000) ⟨by decide, by decide, by decide⟩ (by decide +kernel) (x_r0 (x_kb (x_if hm (fun hm1 => ?_) fun hm1 => ?_)))))))))))
    · exact x_ret (x_lst (x_cons (x_vI (x := a__law_cell_here) L0 rfl (x_cons (x_op (x_vI (x := a__law_cell_here) L0 rfl (x_c (x_modc (by decide) (x_nil (x_mkN L0 (.cons (.int _) (.cons (.int _) .nil)) (show (2 : Nat) ≤ 16777216 by decide) fun p1 _ _ h01 hx1 L1 le1 => x_finP (Q := Q) (ps := (fun (r : (List Int)) => [])) (o := fun (r : (List Int)) => ml (r : (List Int))) (e := [a__law_cell_here, (a__law_cell_here % 2147483647)]) hm1 kont (L1.finT (p := p1) (i := 1) (o := (ml ([a__law_cell_here, (a__law_cell_here % 2147483647)] : (List Int)))) hp0 rfl h01)))))))))))
    · refine x_next ?_
      exact x_ret (x_lst (x_cons (x_c (x_cons (x_op (x_op (x_op (x_op (x_vI (x := a__law_cell_here) L0 rfl (x_c (x_modc (by decide) (x_c (x_mulR (by decide) (x_c (x_r0 (x_c (x_modc (by decide) (x_nil (x_mkN L0 (.cons (.int _) (.cons (.int _) .nil)) (show (2 : Nat) ≤ 16777216 by decide) fun p2 _ _ h02 hx2 L2 le2 => x_finP (Q := Q) (ps := (fun (r : (List Int)) => [])) (o := fun (r : (List Int)) => ml (r : (List Int))) (e := [0, ((((a__law_cell_here % 2147483647) * 69621) + 7) % 2147483647)]) hm1 kont (L2.finT (p := p2) (i := 1) (o := (ml ([0, ((((a__law_cell_here % 2147483647) * 69621) + 7) % 2147483647)] : (List Int)))) hp0 rfl h02))))))))))))))))))))
abbrev sp__law_draw (K : PySem.W.Frag) : Sp := fun vs H Q _ => ∃ (X : Addr → Prop) (p__law_bag_here : Addr) (a__law_bag_here : (List Int)) (a__law_many : Int) (r : (Int × (List Int))), m__law_draw a__law_bag_here a__law_many = some r ∧ Cond K X H [.mu p__law_bag_here (ml (a__law_bag_here : (List Int))), .imm (.int a__law_many)] vs ∧ ∀ H', Fin K X H [p__law_bag_here] [(p__law_bag_here, ml (r.2 : (List Int)))] (.imm (.int r.1)) (.int r.1) H' → Q (.int r.1) H'
theorem mk__law_draw {K : PySem.W.Frag} {X : Addr → Prop} {H : Hp} {vs : List V} {Q : VK} {E : XK} {p__law_bag_here : Addr} {a__law_bag_here : (List Int)} {a__law_many : Int} {r : (Int × (List Int))} (hm : m__law_draw a__law_bag_here a__law_many = some r) (c : Cond K X H [.mu p__law_bag_here (ml (a__law_bag_here : (List Int))), .imm (.int a__law_many)] vs) (k : ∀ H', Fin K X H [p__law_bag_here] [(p__law_bag_here, ml (r.2 : (List Int)))] (.imm (.int r.1)) (.int r.1) H' → Q (.int r.1) H') : sp__law_draw K vs H Q E := ⟨X, p__law_bag_here, a__law_bag_here, a__law_many, r, hm, c, k⟩
abbrev n__law_draw : List Str := ["_law_bag_here", "_law_many", "_law_found"]
theorem sc__law_draw : FnScope n__law_draw ["_law_bag_here", "_law_many"] (defScope s__law_draw) := ⟨rfl, rfl, rfl, by decide +kernel, rfl, by decide +kernel, by decide +kernel⟩
theorem ok__law_draw (T : Txt K mg) : FnOk P w K mg base CX0 1 T.A__law_draw T.D__law_draw ["_law_bag_here", "_law_many"] (sp__law_draw K) := by
  refine Fun.ok T.F__law_draw sc__law_draw (fun vs H Q E h => ?_) (fun cdv A outer s H vs Q E hr h => ?_)
  · obtain ⟨X, p__law_bag_here, a__law_bag_here, a__law_many, r, hm, c, kont⟩ := h
    exact c.len
  · obtain ⟨X, p__law_bag_here, a__law_bag_here, a__law_many, r, hm, c, kont⟩ := h
    refine ⟨_, (pss_cons (ps_if (pt_cmpR op_gt (pe_ix (r := rIxL K) ix_list (pv 0) pe_int (fun _ _ => rfl)) pe_int (nomark _)) (pss_cons (ps_set (i := 2) sc__law_draw.nd rfl (Or.inl rfl) (pe_op op_modN (pe_ix (r := rIxL K) ix_list (pv 0) pe_int (fun _ _ => rfl)) (pv 1)))
      (pss_cons (ps_asg (pe_op op_divG (pe_ix (r := rIxL K) ix_list (pv 0) pe_int (fun _ _ => rfl)) (pv 1)) (pg_sub (pv 0) pe_int set_list))
      (pss_one (ps_ret (pv 2))))) pss_nil)
      (pss_cons (ps_asg (pe_op op_mod (pe_op op_add (pe_op op_mul (pe_ix (r := rIxL K) ix_list (pv 0) pe_int (fun _ _ => rfl)) pe_int) pe_int) pe_int) (pg_sub (pv 0) pe_int set_list))
      (pss_one (ps_ret (pe_op op_modN (pe_op op_fdiv (pe_op op_mod (pe_op op_mulW (pe_ix (r := rIxL K) ix_list (pv 0) pe_int (fun _ _ => rfl)) (pe_op op_add (pe_op op_fdiv (pe_ix (r := rIxL K) ix_list (pv 0) pe_int (fun _ _ => rfl)) pe_int) pe_int)) pe_int) pe_int) (pv 1)))))), ?_⟩
    have L0 : Lo ⟨K, X, H, muts [.mu p__law_bag_here (ml (a__law_bag_here : (List Int))), .imm (.int a__law_many)], n__law_draw.length⟩ X H (L2.start n__law_draw vs) [.mu p__law_bag_here (ml (a__law_bag_here : (List Int))), .imm (.int a__law_many), .unk] := c.start n__law_draw (show (2 : Nat) ≤ 3 by decide)
    unfold m__law_draw at hm
    refine x_seq (x_ifS (x_test (x_op (x_op (x_vm L0 rfl (x_c (x_ixMI (xs := a__law_bag_here) (j := 0) L0 rfl hm fun x1 _ hm1 => x_c (x_r0 (x_kb (x_if hm1 (fun hm2 => ?_) fun hm2 => ?_))))))))))
    · refine x_seq (x_asg (x_op (x_op (x_vm L0 rfl (x_c (x_ixMI (xs := a__law_bag_here) (j := 0) L0 rfl hm2 fun x2 _ hm3 => x_vI (x := a__law_many) L0 rfl (x_mod hm3 fun z1 _ hm4 => x_set (d := (.int z1)) (Γ' := [.mu p__law_bag_here (ml (a__law_bag_here : (List Int))), .imm (.int a__law_many), .imm (.int z1)]) L0 (.int _) (show (2 : Nat) < 3 by decide) rfl fun _ L1 => ?_)))))))
      refine x_seq (x_asg (x_op (x_op (x_vm L1 rfl (x_c (x_ixMI (xs := a__law_bag_here) (j := 0) L1 rfl hm4 fun x3 _ hm5 => x_vI (x := a__law_many) L1 rfl (x_div hm5 fun z2 _ hm6 => x_gSub (x_vm L1 rfl (x_c (x_setI (xs := a__law_bag_here) (x := z2) (j := 0) L1 rfl hm6 (.int _) fun y1 _ _ hm7 L2 => have L3 : Lo _ _ _ _ [.mu p__law_bag_here (ml (y1 : (List Int))), .imm (.int a__law_many), .imm (.int z1)] := L2; ?_))))))))))
      exact x_ret (x_vI (x := z1) L3 rfl (x_finI (Q := Q) (ps := (fun (r : (Int × (List Int))) => [(p__law_bag_here, ml (r.2 : (List Int)))])) (sc := fun (r : (Int × (List Int))) => r.1) ((z1, y1)) hm7 kont (L3.fin (hp1 (L3.mrep (i := 0) rfl)) (.int _))))
    · refine x_next ?_
      refine x_seq (x_asg (x_op (x_op (x_op (x_op (x_vm L0 rfl (x_c (x_ixMI (xs := a__law_bag_here) (j := 0) L0 rfl hm2 fun x4 _ hm8 => x_c (x_mulR (by decide) (x_c (x_r0 (x_c (x_modc (by decide) (x_gSub (x_vm L0 rfl (x_c (x_setI (xs := a__law_bag_here) (x := (((x4 * 48271) + 4099) % 2147483647)) (j := 0) L0 rfl hm8 (.int _) fun y2 _ _ hm9 L4 => have L5 : Lo _ _ _ _ [.mu p__law_bag_here (ml (y2 : (List Int))), .imm (.int a__law_many), .unk] := L4; ?_)))))))))))))))))
      exact x_ret (x_op (x_op (x_op (x_op (x_op (x_vm L5 rfl (x_c (x_ixMI (xs := y2) (j := 0) L5 rfl hm9 fun x5 _ hm10 => x_op (x_op (x_op (x_vm L5 rfl (x_c (x_ixMI (xs := y2) (j := 0) L5 rfl hm10 fun x6 _ hm11 => x_c (x_divc ⟨by decide, by decide⟩ (x_c (x_r0 (x_mul hm11 fun z3 _ hm12 => x_c (x_modc (by decide) (x_c (x_divc ⟨by decide, by decide⟩ (x_vI (x := a__law_many) L5 rfl (x_mod hm12 fun z4 _ hm13 => x_finI (Q := Q) (ps := (fun (r : (Int × (List Int))) => [(p__law_bag_here, ml (r.2 : (List Int)))])) (sc := fun (r : (Int × (List Int))) => r.1) ((z4, y2)) hm13 kont (L5.fin (hp1 (L5.mrep (i := 0) rfl)) (.int _))))))))))))))))))))))))
abbrev sp__law_great (K : PySem.W.Frag) : Sp := fun vs H Q _ => ∃ (X : Addr → Prop) (p__law_bag_here : Addr) (a__law_bag_here : (List Int)) (r : (Int × (List Int))), m__law_great a__law_bag_here = some r ∧ Cond K X H [.mu p__law_bag_here (ml (a__law_bag_here : (List Int)))] vs ∧ ∀ H', Fin K X H [p__law_bag_here] [(p__law_bag_here, ml (r.2 : (List Int)))] (.imm (.int r.1)) (.int r.1) H' → Q (.int r.1) H'
theorem mk__law_great {K : PySem.W.Frag} {X : Addr → Prop} {H : Hp} {vs : List V} {Q : VK} {E : XK} {p__law_bag_here : Addr} {a__law_bag_here : (List Int)} {r : (Int × (List Int))} (hm : m__law_great a__law_bag_here = some r) (c : Cond K X H [.mu p__law_bag_here (ml (a__law_bag_here : (List Int)))] vs) (k : ∀ H', Fin K X H [p__law_bag_here] [(p__law_bag_here, ml (r.2 : (List Int)))] (.imm (.int r.1)) (.int r.1) H' → Q (.int r.1) H') : sp__law_great K vs H Q E := ⟨X, p__law_bag_here, a__law_bag_here, r, hm, c, k⟩
abbrev n__law_great : List Str := ["_law_bag_here", "_law_number", "_law_k"]
theorem sc__law_great : FnScope n__law_great ["_law_bag_here"] (defScope s__law_great) := ⟨rfl, rfl, rfl, by decide +kernel, rfl, by decide +kernel, by decide +kernel⟩
theorem ok__law_great (T : Txt K mg) : FnOk P w K mg base CX0 2 T.A__law_great T.D__law_great ["_law_bag_here"] (sp__law_great K) := by
  refine Fun.ok T.F__law_great sc__law_great (fun vs H Q E h => ?_) (fun cdv A outer s H vs Q E hr h => ?_)
  · obtain ⟨X, p__law_bag_here, a__law_bag_here, r, hm, c, kont⟩ := h
    exact c.len
  · obtain ⟨X, p__law_bag_here, a__law_bag_here, r, hm, c, kont⟩ := h
    refine ⟨_, (pss_cons (ps_set (i := 1) sc__law_great.nd rfl (Or.inl rfl) (pe_call (ok__law_draw T) hr (by rfl) T.g__law_draw T.F__law_draw.kp T.b__law_draw .nil pass0 (pa_cons (pv 0) (pa_cons pe_int pa_nil))))
      (pss_cons (ps_for PassesOwn.never rfl (pi_range1 (by rfl) T.z_range (pa_cons pe_int pa_nil)) (pg_name (i := 2) sc__law_great.nd rfl (Or.inl rfl)) (pss_one (ps_set (i := 1) sc__law_great.nd rfl (Or.inl rfl) (pe_op op_add (pe_op op_mul (pv 1) (pe_op op_pow pe_int pe_int)) (pe_call (ok__law_draw T) hr (by rfl) T.g__law_draw T.F__law_draw.kp T.b__law_draw .nil pass0 (pa_cons (pv 0) (pa_cons (pe_op op_pow pe_int pe_int) pa_nil)))))))
      (pss_one (ps_ret (pv 1))))), ?_⟩
    have L0 : Lo ⟨K, X, H, muts [.mu p__law_bag_here (ml (a__law_bag_here : (List Int)))], n__law_great.length⟩ X H (L2.start n__law_great vs) [.mu p__law_bag_here (ml (a__law_bag_here : (List Int))), .unk, .unk] := c.start n__law_great (show (1 : Nat) ≤ 3 by decide)
    unfold m__law_great at hm
    refine x_seq (x_asg (x_call (x_cons (x_vm L0 rfl (x_cons (x_c (x_nil (obE hm fun z1 hz1 hm1 => mk__law_draw hz1 (L0.cond1 (i := 0) (.m (L0.mrep (i := 0) rfl) (.im (.int _) .nil)) rfl rfl rfl) fun _ F1 => k1 L0 F1 (i := 0) (Γ' := [.mu p__law_bag_here (ml (z1.2 : (List Int))), .unk, .unk]) rfl rfl rfl fun L1 le1 => x_set (d := (.int z1.1)) (Γ' := [.mu p__law_bag_here (ml (z1.2 : (List Int))), .imm (.int z1.1), .unk]) L1 (.int _) (show (1 : Nat) < 3 by decide) rfl fun _ L2 => ?_))))))))
    refine x_seq (x_tforR1 (x_cons (x_c (x_nil (x_r1c (n := 4) (by decide) (x_foR (G := (fun (s1 : ((List Int) × Int)) => [.mu p__law_bag_here (ml (s1.1 : (List Int))), .imm (.int s1.2), .unk])) (s0 := (z1.2, z1.1)) (L2.weak (Γ' := [.mu p__law_bag_here (ml (z1.2 : (List Int))), .imm (.int z1.1), .unk]) (.k (.k (.k .e)))) (fun _ _ => rfl) hm1 (fun x1 s1 H1 _ u1 _ _ _ _ _ hm2 L3 r1 hN1 hC1 => ?_) (fun s2 _ _ hm3 L4 => ?_)))))))
    · refine x_set (d := (.int x1)) (Γ' := [.mu p__law_bag_here (ml (s1.1 : (List Int))), .imm (.int s1.2), .imm (.int x1)]) L3 r1 (show (2 : Nat) < 3 by decide) rfl fun _ L5 => ?_
      refine x_asg (x_op (x_op (x_vI (x := s1.2) L5 rfl (x_op (x_c (x_c (x_powc (n := 10000000) ⟨by decide, by decide, by decide⟩ (by decide +kernel) (x_mulR (by decide) (x_call (x_cons (x_vm L5 rfl (x_cons (x_op (x_c (x_c (x_powc (n := 10000000) ⟨by decide, by decide, by decide⟩ (by decide +kernel) (x_nil (obE hm2 fun z2 hz2 hm5 => mk__law_draw hz2 (L5.cond1 (i := 0) (.m (L5.mrep (i := 0) rfl) (.im (.int _) .nil)) rfl rfl rfl) fun _ F3 => k1 L5 F3 (i := 0) (Γ' := [.mu p__law_bag_here (ml (z2.2 : (List Int))), .imm (.int s1.2), .imm (.int x1)]) rfl rfl rfl fun L6 le2 => x_r0 (x_bset (x0 := ((s1.2 * 10000000) + z2.1)) (d := fun number_1 => (.int number_1)) (Γf := fun number_1 => [.mu p__law_bag_here (ml (z2.2 : (List Int))), .imm (.int number_1), .imm (.int x1)]) hm5 L6 (.int _) (show (1 : Nat) < 3 by decide) (fun _ => rfl) fun number_1 _ hm6 L7 => ?_)))))))))))))))))))
      exact x_leaf (G := (fun (s1 : ((List Int) × Int)) => [.mu p__law_bag_here (ml (s1.1 : (List Int))), .imm (.int s1.2), .unk])) (e := (z2.2, number_1)) hm6 hN1 (L7.weak (Γ' := [.mu p__law_bag_here (ml (z2.2 : (List Int))), .imm (.int number_1), .unk]) (.k (.k (.d .e))))
    exact x_ret (x_vI (x := s2.2) L4 rfl (x_finI (Q := Q) (ps := (fun (r : (Int × (List Int))) => [(p__law_bag_here, ml (r.2 : (List Int)))])) (sc := fun (r : (Int × (List Int))) => r.1) ((s2.2, s2.1)) hm3 kont (L4.fin (hp1 (L4.mrep (i := 0) rfl)) (.int _))))
abbrev sp__law_signed (K : PySem.W.Frag) : Sp := fun vs H Q _ => ∃ (X : Addr → Prop) (p__law_bag_here : Addr) (a__law_bag_here : (List Int)) (r : (Int × (List Int))), m__law_signed a__law_bag_here = some r ∧ Cond K X H [.mu p__law_bag_here (ml (a__law_bag_here : (List Int)))] vs ∧ ∀ H', Fin K X H [p__law_bag_here] [(p__law_bag_here, ml (r.2 : (List Int)))] (.imm (.int r.1)) (.int r.1) H' → Q (.int r.1) H'
theorem mk__law_signed {K : PySem.W.Frag} {X : Addr → Prop} {H : Hp} {vs : List V} {Q : VK} {E : XK} {p__law_bag_here : Addr} {a__law_bag_here : (List Int)} {r : (Int × (List Int))} (hm : m__law_signed a__law_bag_here = some r) (c : Cond K X H [.mu p__law_bag_here (ml (a__law_bag_here : (List Int)))] vs) (k : ∀ H', Fin K X H [p__law_bag_here] [(p__law_bag_here, ml (r.2 : (List Int)))] (.imm (.int r.1)) (.int r.1) H' → Q (.int r.1) H') : sp__law_signed K vs H Q E := ⟨X, p__law_bag_here, a__law_bag_here, r, hm, c, k⟩
abbrev n__law_signed : List Str := ["_law_bag_here"]
theorem sc__law_signed : FnScope n__law_signed ["_law_bag_here"] (defScope s__law_signed) := ⟨rfl, rfl, rfl, by decide +kernel, rfl, by decide +kernel, by decide +kernel⟩
theorem ok__law_signed (T : Txt K mg) : FnOk P w K mg base CX0 3 T.A__law_signed T.D__law_signed ["_law_bag_here"] (sp__law_signed K) := by
  refine Fun.ok T.F__law_signed sc__law_signed (fun vs H Q E h => ?_) (fun cdv A outer s H vs Q E hr h => ?_)
  · obtain ⟨X, p__law_bag_here, a__law_bag_here, r, hm, c, kont⟩ := h
    exact c.len
  · obtain ⟨X, p__law_bag_here, a__law_bag_here, r, hm, c, kont⟩ := h
    refine ⟨_, (pss_cons (ps_if (pt_cmpR op_eq (pe_call (ok__law_draw T) (hr.mono (by decide)) (by rfl) T.g__law_draw T.F__law_draw.kp T.b__law_draw .nil pass0 (pa_cons (pv 0) (pa_cons pe_int pa_nil))) pe_int (nomark _)) (pss_one (ps_ret (pe_call (ok__law_great T) hr (by rfl) T.g__law_great T.F__law_great.kp T.b__law_great .nil pass0 (pa_cons (pv 0) pa_nil)))) pss_nil)
      (pss_one (ps_ret (pe_un un_neg (pe_call (ok__law_great T) hr (by rfl) T.g__law_great T.F__law_great.kp T.b__law_great .nil pass0 (pa_cons (pv 0) pa_nil)))))), ?_⟩
    have L0 : Lo ⟨K, X, H, muts [.mu p__law_bag_here (ml (a__law_bag_here : (List Int)))], n__law_signed.length⟩ X H (L2.start n__law_signed vs) [.mu p__law_bag_here (ml (a__law_bag_here : (List Int)))] := c.start n__law_signed (show (1 : Nat) ≤ 1 by decide)
    unfold m__law_signed at hm
    refine x_seq (x_ifS (x_test (x_op (x_call (x_cons (x_vm L0 rfl (x_cons (x_c (x_nil (obE hm fun z1 hz1 hm1 => mk__law_draw hz1 (L0.cond1 (i := 0) (.m (L0.mrep (i := 0) rfl) (.im (.int _) .nil)) rfl rfl rfl) fun _ F1 => k1 L0 F1 (i := 0) (Γ' := [.mu p__law_bag_here (ml (z1.2 : (List Int)))]) rfl rfl rfl fun L1 le1 => x_c (x_eqi (x_kb (x_if hm1 (fun hm2 => ?_) fun hm2 => ?_)))))))))))))
    · exact x_ret (x_call (x_cons (x_vm L1 rfl (x_nil (obE hm2 fun z2 hz2 hm3 => mk__law_great hz2 (L1.cond1 (i := 0) (.m (L1.mrep (i := 0) rfl) .nil) rfl rfl rfl) fun _ F2 => k1 L1 F2 (i := 0) (Γ' := [.mu p__law_bag_here (ml (z2.2 : (List Int)))]) rfl rfl rfl fun L2 le2 => x_finI (Q := Q) (ps := (fun (r : (Int × (List Int))) => [(p__law_bag_here, ml (r.2 : (List Int)))])) (sc := fun (r : (Int × (List Int))) => r.1) ((z2.1, z2.2)) hm3 kont (L2.fin (hp1 (L2.mrep (i := 0) rfl)) (.int _)))))))
    · refine x_next ?_
      exact x_ret (x_un (x_call (x_cons (x_vm L1 rfl (x_nil (obE hm2 fun z3 hz3 hm4 => mk__law_great hz3 (L1.cond1 (i := 0) (.m (L1.mrep (i := 0) rfl) .nil) rfl rfl rfl) fun _ F3 => k1 L1 F3 (i := 0) (Γ' := [.mu p__law_bag_here (ml (z3.2 : (List Int)))]) rfl rfl rfl fun L3 le3 => x_u (x_finI (Q := Q) (ps := (fun (r : (Int × (List Int))) => [(p__law_bag_here, ml (r.2 : (List Int)))])) (sc := fun (r : (Int × (List Int))) => r.1) (((-z3.1), z3.2)) hm4 kont (L3.fin (hp1 (L3.mrep (i := 0) rfl)) (.int _)))))))))
abbrev sp__law_gcd (K : PySem.W.Frag) : Sp := fun vs H Q _ => ∃ (X : Addr → Prop)  (a__law_one : Int) (a__law_two : Int) (r : Int), m__law_gcd a__law_one a__law_two = some r ∧ Cond K X H [.imm (.int a__law_one), .imm (.int a__law_two)] vs ∧ ∀ H', Fin K X H [] [] (.imm (.int r)) (.int r) H' → Q (.int r) H'
theorem mk__law_gcd {K : PySem.W.Frag} {X : Addr → Prop} {H : Hp} {vs : List V} {Q : VK} {E : XK}  {a__law_one : Int} {a__law_two : Int} {r : Int} (hm : m__law_gcd a__law_one a__law_two = some r) (c : Cond K X H [.imm (.int a__law_one), .imm (.int a__law_two)] vs) (k : ∀ H', Fin K X H [] [] (.imm (.int r)) (.int r) H' → Q (.int r) H') : sp__law_gcd K vs H Q E := ⟨X, a__law_one, a__law_two, r, hm, c, k⟩
abbrev n__law_gcd : List Str := ["_law_one", "_law_two", "_law_rest"]
theorem sc__law_gcd : FnScope n__law_gcd ["_law_one", "_law_two"] (defScope s__law_gcd) := ⟨rfl, rfl, rfl, by decide +kernel, rfl, by decide +kernel, by decide +kernel⟩
theorem ok__law_gcd (T : Txt K mg) : FnOk P w K mg base CX0 1 T.A__law_gcd T.D__law_gcd ["_law_one", "_law_two"] (sp__law_gcd K) := by
  refine Fun.ok T.F__law_gcd sc__law_gcd (fun vs H Q E h => ?_) (fun cdv A outer s H vs Q E hr h => ?_)
  · obtain ⟨X, a__law_one, a__law_two, r, hm, c, kont⟩ := h
    exact c.len
  · obtain ⟨X, a__law_one, a__law_two, r, hm, c, kont⟩ := h
    refine ⟨_, (pss_cons (ps_set (i := 0) sc__law_gcd.nd rfl (Or.inl rfl) (pe_callB call_absX (by rfl) T.z_abs (by decide +kernel) (pa_cons (pv 0) pa_nil)))
      (pss_cons (ps_set (i := 1) sc__law_gcd.nd rfl (Or.inl rfl) (pe_callB call_absX (by rfl) T.z_abs (by decide +kernel) (pa_cons (pv 1) pa_nil)))
      (pss_cons (ps_while PassesOwn.never (pt_cmpR op_gt (pv 1) pe_int (nomark _)) (pss_cons (ps_set (i := 2) sc__law_gcd.nd rfl (Or.inl rfl) (pe_op op_modN (pv 0) (pv 1)))
      (pss_cons (ps_set (i := 0) sc__law_gcd.nd rfl (Or.inl rfl) (pv 1))
      (pss_one (ps_set (i := 1) sc__law_gcd.nd rfl (Or.inl rfl) (pv 2))))))
      (pss_one (ps_ret (pv 0)))))), ?_⟩
    have L0 : Lo ⟨K, X, H, muts [.imm (.int a__law_one), .imm (.int a__law_two)], n__law_gcd.length⟩ X H (L2.start n__law_gcd vs) [.imm (.int a__law_one), .imm (.int a__law_two), .unk] := c.start n__law_gcd (show (2 : Nat) ≤ 3 by decide)
    unfold m__law_gcd at hm
    refine x_seq (x_asg (x_cb (x_cons (x_vI (x := a__law_one) L0 rfl (x_nil (x_abs (x_bset (x0 := (iabs a__law_one)) (d := fun one_1 => (.int one_1)) (Γf := fun one_1 => [.imm (.int one_1), .imm (.int a__law_two), .unk]) hm L0 (.int _) (show (0 : Nat) < 3 by decide) (fun _ => rfl) fun one_1 _ hm1 L1 => ?_)))))))
    refine x_seq (x_asg (x_cb (x_cons (x_vI (x := a__law_two) L1 rfl (x_nil (x_abs (x_bset (x0 := (iabs a__law_two)) (d := fun two_1 => (.int two_1)) (Γf := fun two_1 => [.imm (.int one_1), .imm (.int two_1), .unk]) hm1 L1 (.int _) (show (1 : Nat) < 3 by decide) (fun _ => rfl) fun two_1 _ hm2 L2 => ?_)))))))
    refine x_seq (x_wh (n := two_1.natAbs + 2) (G := (fun (s1 : (Int × Int)) => [.imm (.int s1.1), .imm (.int s1.2), .unk])) (s0 := (one_1, two_1)) (ρ := Empty) (ps := fun _ => []) (rs := fun _ => .imm .none) (L2.weak (Γ' := [.imm (.int one_1), .imm (.int two_1), .unk]) (.k (.k (.k .e)))) (fun _ _ => rfl) hm2 (fun s1 H1 _ _ _ _ _ _ hm3 L3 hN1 hC1 hB1 hR1 _ hQ1 => ?_) (fun s2 _ _ hm4 L4 => ?_) (fun q => q.elim))
    · refine x_test (x_op (x_vI (x := s1.2) L3 rfl (x_c (x_r0 (x_kb (hQ1 _ _ (x_whIf hm3 (fun hm6 => ?_) fun hm6 => ?_)))))))
      · refine x_seq (x_asg (x_op (x_vI (x := s1.1) L3 rfl (x_vI (x := s1.2) L3 rfl (x_mod hm6 fun z1 _ hm7 => x_set (d := (.int z1)) (Γ' := [.imm (.int s1.1), .imm (.int s1.2), .imm (.int z1)]) L3 (.int _) (show (2 : Nat) < 3 by decide) rfl fun _ L5 => ?_)))))
        refine x_seq (x_asg (x_vI (x := s1.2) L5 rfl (x_set (d := (.int s1.2)) (Γ' := [.imm (.int s1.2), .imm (.int s1.2), .imm (.int z1)]) L5 (.int _) (show (0 : Nat) < 3 by decide) rfl fun _ L6 => ?_)))
        refine x_asg (x_vI (x := z1) L6 rfl (x_set (d := (.int z1)) (Γ' := [.imm (.int s1.2), .imm (.int z1), .imm (.int z1)]) L6 (.int _) (show (1 : Nat) < 3 by decide) rfl fun _ L7 => ?_))
        exact x_leafN (G := (fun (s1 : (Int × Int)) => [.imm (.int s1.1), .imm (.int s1.2), .unk])) (e := (s1.2, z1)) hm7 hN1 (L7.weak (Γ' := [.imm (.int s1.2), .imm (.int z1), .unk]) (.k (.k (.d .e))))
      · exact x_leafB (G := (fun (s1 : (Int × Int)) => [.imm (.int s1.1), .imm (.int s1.2), .unk])) (e := (s1.1, s1.2)) hm6 hB1 (L3.weak (Γ' := [.imm (.int s1.1), .imm (.int s1.2), .unk]) (.k (.k (.k .e))))
    exact x_ret (x_vI (x := s2.1) L4 rfl (x_finI (Q := Q) (ps := (fun (r : Int) => [])) (sc := fun (r : Int) => r) s2.1 hm4 kont (L4.fin hp0 (.int _))))
abbrev n__law_lowest : List Str := ["_law_top", "_law_bottom", "_law_both"]
theorem sc__law_lowest : FnScope n__law_lowest ["_law_top", "_law_bottom"] (defScope s__law_lowest) := ⟨rfl, rfl, rfl, by decide +kernel, rfl, by decide +kernel, by decide +kernel⟩
abbrev sp__law_lowest_b (K : PySem.W.Frag) : Sp := fun vs H Q _ => ∃ (X : Addr → Prop)  (a__law_top : Int) (a__law_bottom : Int) (r : (T2 Int Int)), m__law_lowest_b a__law_top a__law_bottom = some r ∧ Cond K X H [.imm (.int a__law_top), .imm (.int a__law_bottom)] vs ∧ ∀ v H', Fin K X H [] [] (.imm (enc (r : (T2 Int Int)))) v H' → Q v H'
theorem mk__law_lowest_b {K : PySem.W.Frag} {X : Addr → Prop} {H : Hp} {vs : List V} {Q : VK} {E : XK}  {a__law_top : Int} {a__law_bottom : Int} {r : (T2 Int Int)} (hm : m__law_lowest_b a__law_top a__law_bottom = some r) (c : Cond K X H [.imm (.int a__law_top), .imm (.int a__law_bottom)] vs) (k : ∀ v H', Fin K X H [] [] (.imm (enc (r : (T2 Int Int)))) v H' → Q v H') : sp__law_lowest_b K vs H Q E := ⟨X, a__law_top, a__law_bottom, r, hm, c, k⟩
theorem ok__law_lowest_b (T : Txt K mg) : FnOk P w K mg base CX0 2 T.A__law_lowest T.D__law_lowest ["_law_top", "_law_bottom"] (sp__law_lowest_b K) := by
  refine Fun.ok T.F__law_lowest sc__law_lowest (fun vs H Q E h => ?_) (fun cdv A outer s H vs Q E hr h => ?_)
  · obtain ⟨X, a__law_top, a__law_bottom, r, hm, c, kont⟩ := h
    exact c.len
  · obtain ⟨X, a__law_top, a__law_bottom, r, hm, c, kont⟩ := h
    refine ⟨_, (pss_cons (ps_if (pt_cmpR op_lt (pv 1) pe_int (nomark _)) (pss_one ps_never) pss_nil)
      (pss_cons (ps_set (i := 2) sc__law_lowest.nd rfl (Or.inl rfl) (pe_call (ok__law_gcd T) (hr.mono (by decide)) (by rfl) T.g__law_gcd T.F__law_gcd.kp T.b__law_gcd .nil pass0 (pa_cons (pv 0) (pa_cons (pv 1) pa_nil))))
      (pss_one (ps_ret (pe_tup (pa_cons (pe_op op_divG (pv 0) (pv 2)) (pa_cons (pe_op op_divG (pv 1) (pv 2)) pa_nil))))))), ?_⟩
    have L0 : Lo ⟨K, X, H, muts [.imm (.int a__law_top), .imm (.int a__law_bottom)], n__law_lowest.length⟩ X H (L2.start n__law_lowest vs) [.imm (.int a__law_top), .imm (.int a__law_bottom), .unk] := c.start n__law_lowest (show (2 : Nat) ≤ 3 by decide)
    unfold m__law_lowest_b at hm
    refine x_seq (x_ifS (x_test (x_op (x_vI (x := a__law_bottom) L0 rfl (x_c (x_r0 (x_kb (x_if hm (fun hm1 => ?_) fun hm1 => ?_))))))))
    · exact (nomatch hm1)
    · refine x_next ?_
      refine x_seq (x_asg (x_call (x_cons (x_vI (x := a__law_top) L0 rfl (x_cons (x_vI (x := a__law_bottom) L0 rfl (x_nil (obE hm1 fun z1 hz1 hm2 => mk__law_gcd hz1 (L0.cond0 (.im (.int _) (.im (.int _) .nil)) rfl) fun _ F1 => k0 L0 F1 fun L1 le1 => x_set (d := (.int z1)) (Γ' := [.imm (.int a__law_top), .imm (.int a__law_bottom), .imm (.int z1)]) L1 (.int _) (show (2 : Nat) < 3 by decide) rfl fun _ L2 => ?_))))))))
      exact x_ret (x_tup (x_cons (x_op (x_vI (x := a__law_top) L2 rfl (x_vI (x := z1) L2 rfl (x_div hm2 fun z2 _ hm3 => x_cons (x_op (x_vI (x := a__law_bottom) L2 rfl (x_vI (x := z1) L2 rfl (x_div hm3 fun z3 _ hm4 => x_nil (x_mkT L2 (.cons (.int _) (.cons (.int _) .nil)) (show (2 : Nat) ≤ 16777216 by decide) fun v2 _ L3 le2 r1 => have r2 : Rep _ _ _ (enc ((T2.mk z2 z3) : (T2 Int Int))) v2 := r1; x_fin (Q := Q) (ps := (fun (r : (T2 Int Int)) => [])) (rs := (fun (r : (T2 Int Int)) => (.imm (enc (r : (T2 Int Int)))))) (e := (T2.mk z2 z3)) hm4 kont (L3.fin hp0 r2))))))))))))
abbrev sp__law_lowest (K : PySem.W.Frag) : Sp := fun vs H Q _ => ∃ (X : Addr → Prop)  (a__law_top : Int) (a__law_bottom : Int) (r : (T2 Int Int)), m__law_lowest a__law_top a__law_bottom = some r ∧ Cond K X H [.imm (.int a__law_top), .imm (.int a__law_bottom)] vs ∧ ∀ v H', Fin K X H [] [] (.imm (enc (r : (T2 Int Int)))) v H' → Q v H'
theorem mk__law_lowest {K : PySem.W.Frag} {X : Addr → Prop} {H : Hp} {vs : List V} {Q : VK} {E : XK}  {a__law_top : Int} {a__law_bottom : Int} {r : (T2 Int Int)} (hm : m__law_lowest a__law_top a__law_bottom = some r) (c : Cond K X H [.imm (.int a__law_top), .imm (.int a__law_bottom)] vs) (k : ∀ v H', Fin K X H [] [] (.imm (enc (r : (T2 Int Int)))) v H' → Q v H') : sp__law_lowest K vs H Q E := ⟨X, a__law_top, a__law_bottom, r, hm, c, k⟩
theorem ok__law_lowest (T : Txt K mg) : FnOk P w K mg base CX0 3 T.A__law_lowest T.D__law_lowest ["_law_top", "_law_bottom"] (sp__law_lowest K) := by
  refine Fun.ok T.F__law_lowest sc__law_lowest (fun vs H Q E h => ?_) (fun cdv A outer s H vs Q E hr h => ?_)
  · obtain ⟨X, a__law_top, a__law_bottom, r, hm, c, kont⟩ := h
    exact c.len
  · obtain ⟨X, a__law_top, a__law_bottom, r, hm, c, kont⟩ := h
    refine ⟨_, (pss_cons (ps_if (pt_cmpR op_lt (pv 1) pe_int (nomark _)) (pss_one (ps_ret (pe_call (ok__law_lowest_b T) (hr.mono (by decide)) (by rfl) T.g__law_lowest T.F__law_lowest.kp T.b__law_lowest .nil pass0 (pa_cons (pe_un un_neg (pv 0)) (pa_cons (pe_un un_neg (pv 1)) pa_nil))))) pss_nil)
      (pss_cons (ps_set (i := 2) sc__law_lowest.nd rfl (Or.inl rfl) (pe_call (ok__law_gcd T) (hr.mono (by decide)) (by rfl) T.g__law_gcd T.F__law_gcd.kp T.b__law_gcd .nil pass0 (pa_cons (pv 0) (pa_cons (pv 1) pa_nil))))
      (pss_one (ps_ret (pe_tup (pa_cons (pe_op op_divG (pv 0) (pv 2)) (pa_cons (pe_op op_divG (pv 1) (pv 2)) pa_nil))))))), ?_⟩
    have L0 : Lo ⟨K, X, H, muts [.imm (.int a__law_top), .imm (.int a__law_bottom)], n__law_lowest.length⟩ X H (L2.start n__law_lowest vs) [.imm (.int a__law_top), .imm (.int a__law_bottom), .unk] := c.start n__law_lowest (show (2 : Nat) ≤ 3 by decide)
    unfold m__law_lowest at hm
    refine x_seq (x_ifS (x_test (x_op (x_vI (x := a__law_bottom) L0 rfl (x_c (x_r0 (x_kb (x_if hm (fun hm1 => ?_) fun hm1 => ?_))))))))
    · exact x_ret (x_call (x_cons (x_un (x_vI (x := a__law_top) L0 rfl (x_u (x_cons (x_un (x_vI (x := a__law_bottom) L0 rfl (x_u (x_nil (obE hm1 fun z1 hz1 hm2 => mk__law_lowest_b hz1 (L0.cond0 (.im (.int _) (.im (.int _) .nil)) rfl) fun v1 _ F1 => k0d L0 F1 fun L1 le1 r1 => x_fin (Q := Q) (ps := (fun (r : (T2 Int Int)) => [])) (rs := (fun (r : (T2 Int Int)) => (.imm (enc (r : (T2 Int Int)))))) (e := z1) hm2 kont (L1.fin hp0 r1))))))))))))
    · refine x_next ?_
      refine x_seq (x_asg (x_call (x_cons (x_vI (x := a__law_top) L0 rfl (x_cons (x_vI (x := a__law_bottom) L0 rfl (x_nil (obE hm1 fun z2 hz2 hm3 => mk__law_gcd hz2 (L0.cond0 (.im (.int _) (.im (.int _) .nil)) rfl) fun _ F2 => k0 L0 F2 fun L2 le2 => x_set (d := (.int z2)) (Γ' := [.imm (.int a__law_top), .imm (.int a__law_bottom), .imm (.int z2)]) L2 (.int _) (show (2 : Nat) < 3 by decide) rfl fun _ L3 => ?_))))))))
      exact x_ret (x_tup (x_cons (x_op (x_vI (x := a__law_top) L3 rfl (x_vI (x := z2) L3 rfl (x_div hm3 fun z3 _ hm4 => x_cons (x_op (x_vI (x := a__law_bottom) L3 rfl (x_vI (x := z2) L3 rfl (x_div hm4 fun z4 _ hm5 => x_nil (x_mkT L3 (.cons (.int _) (.cons (.int _) .nil)) (show (2 : Nat) ≤ 16777216 by decide) fun v3 _ L4 le3 r2 => have r3 : Rep _ _ _ (enc ((T2.mk z3 z4) : (T2 Int Int))) v3 := r2; x_fin (Q := Q) (ps := (fun (r : (T2 Int Int)) => [])) (rs := (fun (r : (T2 Int Int)) => (.imm (enc (r : (T2 Int Int)))))) (e := (T2.mk z3 z4)) hm5 kont (L4.fin hp0 r3))))))))))))
abbrev sp__law_rat (K : PySem.W.Frag) : Sp := fun vs H Q _ => ∃ (X : Addr → Prop) (p__law_bag_here : Addr) (a__law_bag_here : (List Int)) (r : ((T2 Int Int) × (List Int))), m__law_rat a__law_bag_here = some r ∧ Cond K X H [.mu p__law_bag_here (ml (a__law_bag_here : (List Int)))] vs ∧ ∀ v H', Fin K X H [p__law_bag_here] [(p__law_bag_here, ml (r.2 : (List Int)))] (.imm (enc (r.1 : (T2 Int Int)))) v H' → Q v H'
theorem mk__law_rat {K : PySem.W.Frag} {X : Addr → Prop} {H : Hp} {vs : List V} {Q : VK} {E : XK} {p__law_bag_here : Addr} {a__law_bag_here : (List Int)} {r : ((T2 Int Int) × (List Int))} (hm : m__law_rat a__law_bag_here = some r) (c : Cond K X H [.mu p__law_bag_here (ml (a__law_bag_here : (List Int)))] vs) (k : ∀ v H', Fin K X H [p__law_bag_here] [(p__law_bag_here, ml (r.2 : (List Int)))] (.imm (enc (r.1 : (T2 Int Int)))) v H' → Q v H') : sp__law_rat K vs H Q E := ⟨X, p__law_bag_here, a__law_bag_here, r, hm, c, k⟩
abbrev n__law_rat : List Str := ["_law_bag_here", "_law_way"]
theorem sc__law_rat : FnScope n__law_rat ["_law_bag_here"] (defScope s__law_rat) := ⟨rfl, rfl, rfl, by decide +kernel, rfl, by decide +kernel, by decide +kernel⟩
theorem ok__law_rat (T : Txt K mg) : FnOk P w K mg base CX0 4 T.A__law_rat T.D__law_rat ["_law_bag_here"] (sp__law_rat K) := by
  refine Fun.ok T.F__law_rat sc__law_rat (fun vs H Q E h => ?_) (fun cdv A outer s H vs Q E hr h => ?_)
  · obtain ⟨X, p__law_bag_here, a__law_bag_here, r, hm, c, kont⟩ := h
    exact c.len
  · obtain ⟨X, p__law_bag_here, a__law_bag_here, r, hm, c, kont⟩ := h
    refine ⟨_, (pss_cons (ps_set (i := 1) sc__law_rat.nd rfl (Or.inl rfl) (pe_call (ok__law_draw T) (hr.mono (by decide)) (by rfl) T.g__law_draw T.F__law_draw.kp T.b__law_draw .nil pass0 (pa_cons (pv 0) (pa_cons pe_int pa_nil))))
      (pss_cons (ps_if (pt_cmpR op_eq (pv 1) pe_int (nomark _)) (pss_one (ps_ret (pe_call (ok__law_lowest T) hr (by rfl) T.g__law_lowest T.F__law_lowest.kp T.b__law_lowest .nil pass0 (pa_cons (pe_call (ok__law_signed T) hr (by rfl) T.g__law_signed T.F__law_signed.kp T.b__law_signed .nil pass0 (pa_cons (pv 0) pa_nil)) (pa_cons (pe_op op_add pe_int (pe_op op_fdiv (pe_call (ok__law_great T) (hr.mono (by decide)) (by rfl) T.g__law_great T.F__law_great.kp T.b__law_great .nil pass0 (pa_cons (pv 0) pa_nil)) pe_int)) pa_nil))))) pss_nil)
      (pss_cons (ps_if (pt_cmpR op_eq (pv 1) pe_int (nomark _)) (pss_one (ps_ret (pe_call (ok__law_lowest T) hr (by rfl) T.g__law_lowest T.F__law_lowest.kp T.b__law_lowest .nil pass0 (pa_cons (pe_op op_sub (pe_call (ok__law_draw T) (hr.mono (by decide)) (by rfl) T.g__law_draw T.F__law_draw.kp T.b__law_draw .nil pass0 (pa_cons (pv 0) (pa_cons pe_int pa_nil))) pe_int) (pa_cons (pe_op op_add pe_int (pe_call (ok__law_draw T) (hr.mono (by decide)) (by rfl) T.g__law_draw T.F__law_draw.kp T.b__law_draw .nil pass0 (pa_cons (pv 0) (pa_cons pe_int pa_nil)))) pa_nil))))) pss_nil)
      (pss_one (ps_ret (pe_call (ok__law_lowest T) hr (by rfl) T.g__law_lowest T.F__law_lowest.kp T.b__law_lowest .nil pass0 (pa_cons (pe_op op_sub (pe_call (ok__law_draw T) (hr.mono (by decide)) (by rfl) T.g__law_draw T.F__law_draw.kp T.b__law_draw .nil pass0 (pa_cons (pv 0) (pa_cons pe_int pa_nil))) pe_int) (pa_cons (pe_op op_add pe_int (pe_call (ok__law_draw T) (hr.mono (by decide)) (by rfl) T.g__law_draw T.F__law_draw.kp T.b__law_draw .nil pass0 (pa_cons (pv 0) (pa_cons pe_int pa_nil)))) pa_nil)))))))), ?_⟩
    have L0 : Lo ⟨K, X, H, muts [.mu p__law_bag_here (ml (a__law_bag_here : (List Int)))], n__law_rat.length⟩ X H (L2.start n__law_rat vs) [.mu p__law_bag_here (ml (a__law_bag_here : (List Int))), .unk] := c.start n__law_rat (show (1 : Nat) ≤ 2 by decide)
    unfold m__law_rat at hm
    refine x_seq (x_asg (x_call (x_cons (x_vm L0 rfl (x_cons (x_c (x_nil (obE hm fun z1 hz1 hm1 => mk__law_draw hz1 (L0.cond1 (i := 0) (.m (L0.mrep (i := 0) rfl) (.im (.int _) .nil)) rfl rfl rfl) fun _ F1 => k1 L0 F1 (i := 0) (Γ' := [.mu p__law_bag_here (ml (z1.2 : (List Int))), .unk]) rfl rfl rfl fun L1 le1 => x_set (d := (.int z1.1)) (Γ' := [.mu p__law_bag_here (ml (z1.2 : (List Int))), .imm (.int z1.1)]) L1 (.int _) (show (1 : Nat) < 2 by decide) rfl fun _ L2 => ?_))))))))
    refine x_seq (x_ifS (x_test (x_op (x_vI (x := z1.1) L2 rfl (x_c (x_eqi (x_kb (x_if hm1 (fun hm2 => ?_) fun hm2 => ?_))))))))
    · exact x_ret (x_call (x_cons (x_call (x_cons (x_vm L2 rfl (x_nil (obE hm2 fun z2 hz2 hm3 => mk__law_signed hz2 (L2.cond1 (i := 0) (.m (L2.mrep (i := 0) rfl) .nil) rfl rfl rfl) fun _ F2 => k1 L2 F2 (i := 0) (Γ' := [.mu p__law_bag_here (ml (z2.2 : (List Int))), .imm (.int z1.1)]) rfl rfl rfl fun L3 le2 => x_cons (x_op (x_c (x_op (x_call (x_cons (x_vm L3 rfl (x_nil (obE hm3 fun z3 hz3 hm4 => mk__law_great hz3 (L3.cond1 (i := 0) (.m (L3.mrep (i := 0) rfl) .nil) rfl rfl rfl) fun _ F3 => k1 L3 F3 (i := 0) (Γ' := [.mu p__law_bag_here (ml (z3.2 : (List Int))), .imm (.int z1.1)]) rfl rfl rfl fun L4 le3 => x_c (x_divc ⟨by decide, by decide⟩ (x_r0 (x_nil (obE hm4 fun z4 hz4 hm5 => mk__law_lowest hz4 (L4.cond0 (.im (.int _) (.im (.int _) .nil)) rfl) fun v4 _ F4 => k0d L4 F4 fun L5 le4 r1 => x_fin (Q := Q) (ps := (fun (r : ((T2 Int Int) × (List Int))) => [(p__law_bag_here, ml (r.2 : (List Int)))])) (rs := (fun (r : ((T2 Int Int) × (List Int))) => (.imm (enc (r.1 : (T2 Int Int)))))) (e := (z4, z3.2)) hm5 kont (L5.fin (hp1 (L5.mrep (i := 0) rfl)) r1))))))))))))))))))))
    · refine x_next ?_
      refine x_seq (x_ifS (x_test (x_op (x_vI (x := z1.1) L2 rfl (x_c (x_eqi (x_kb (x_if hm2 (fun hm6 => ?_) fun hm6 => ?_))))))))
      · exact x_ret (x_call (x_cons (x_op (x_call (x_cons (x_vm L2 rfl (x_cons (x_c (x_nil (obE hm6 fun z5 hz5 hm7 => mk__law_draw hz5 (L2.cond1 (i := 0) (.m (L2.mrep (i := 0) rfl) (.im (.int _) .nil)) rfl rfl rfl) fun _ F5 => k1 L2 F5 (i := 0) (Γ' := [.mu p__law_bag_here (ml (z5.2 : (List Int))), .imm (.int z1.1)]) rfl rfl rfl fun L6 le5 => x_c (x_r0 (x_cons (x_op (x_c (x_call (x_cons (x_vm L6 rfl (x_cons (x_c (x_nil (obE hm7 fun z6 hz6 hm8 => mk__law_draw hz6 (L6.cond1 (i := 0) (.m (L6.mrep (i := 0) rfl) (.im (.int _) .nil)) rfl rfl rfl) fun _ F6 => k1 L6 F6 (i := 0) (Γ' := [.mu p__law_bag_here (ml (z6.2 : (List Int))), .imm (.int z1.1)]) rfl rfl rfl fun L7 le6 => x_r0 (x_nil (obE hm8 fun z7 hz7 hm9 => mk__law_lowest hz7 (L7.cond0 (.im (.int _) (.im (.int _) .nil)) rfl) fun v7 _ F7 => k0d L7 F7 fun L8 le7 r2 => x_fin (Q := Q) (ps := (fun (r : ((T2 Int Int) × (List Int))) => [(p__law_bag_here, ml (r.2 : (List Int)))])) (rs := (fun (r : ((T2 Int Int) × (List Int))) => (.imm (enc (r.1 : (T2 Int Int)))))) (e := (z7, z6.2)) hm9 kont (L8.fin (hp1 (L8.mrep (i := 0) rfl)) r2))))))))))))))))))))))))
      · refine x_next ?_
        exact x_ret (x_call (x_cons (x_op (x_call (x_cons (x_vm L2 rfl (x_cons (x_c (x_nil (obE hm6 fun z8 hz8 hm10 => mk__law_draw hz8 (L2.cond1 (i := 0) (.m (L2.mrep (i := 0) rfl) (.im (.int _) .nil)) rfl rfl rfl) fun _ F8 => k1 L2 F8 (i := 0) (Γ' := [.mu p__law_bag_here (ml (z8.2 : (List Int))), .imm (.int z1.1)]) rfl rfl rfl fun L9 le8 => x_c (x_r0 (x_cons (x_op (x_c (x_call (x_cons (x_vm L9 rfl (x_cons (x_c (x_nil (obE hm10 fun z9 hz9 hm11 => mk__law_draw hz9 (L9.cond1 (i := 0) (.m (L9.mrep (i := 0) rfl) (.im (.int _) .nil)) rfl rfl rfl) fun _ F9 => k1 L9 F9 (i := 0) (Γ' := [.mu p__law_bag_here (ml (z9.2 : (List Int))), .imm (.int z1.1)]) rfl rfl rfl fun L10 le9 => x_r0 (x_nil (obE hm11 fun z10 hz10 hm12 => mk__law_lowest hz10 (L10.cond0 (.im (.int _) (.im (.int _) .nil)) rfl) fun v10 _ F10 => k0d L10 F10 fun L11 le10 r3 => x_fin (Q := Q) (ps := (fun (r : ((T2 Int Int) × (List Int))) => [(p__law_bag_here, ml (r.2 : (List Int)))])) (rs := (fun (r : ((T2 Int Int) × (List Int))) => (.imm (enc (r.1 : (T2 Int Int)))))) (e := (z10, z9.2)) hm12 kont (L11.fin (hp1 (L11.mrep (i := 0) rfl)) r3))))))))))))))))))))))))
abbrev sp_show_ratio (K : PySem.W.Frag) : Sp := fun vs H Q _ => ∃ (X : Addr → Prop)  (a_one : (T2 Int Int)) (r : Str), m_show_ratio a_one = some r ∧ Cond K X H [.imm (enc (a_one : (T2 Int Int)))] vs ∧ ∀ H', Fin K X H [] [] (.imm (.str r)) (.str r) H' → Q (.str r) H'
theorem mk_show_ratio {K : PySem.W.Frag} {X : Addr → Prop} {H : Hp} {vs : List V} {Q : VK} {E : XK}  {a_one : (T2 Int Int)} {r : Str} (hm : m_show_ratio a_one = some r) (c : Cond K X H [.imm (enc (a_one : (T2 Int Int)))] vs) (k : ∀ H', Fin K X H [] [] (.imm (.str r)) (.str r) H' → Q (.str r) H') : sp_show_ratio K vs H Q E := ⟨X, a_one, r, hm, c, k⟩
abbrev n_show_ratio : List Str := ["one"]
theorem sc_show_ratio : FnScope n_show_ratio ["one"] (defScope s_show_ratio) := ⟨rfl, rfl, rfl, by decide +kernel, rfl, by decide +kernel, by decide +kernel⟩
theorem ok_show_ratio (T : Txt K mg) : FnOk P w K mg base CX0 1 T.A_show_ratio T.D_show_ratio ["one"] (sp_show_ratio K) := by
  refine Fun.ok T.F_show_ratio sc_show_ratio (fun vs H Q E h => ?_) (fun cdv A outer s H vs Q E hr h => ?_)
  · obtain ⟨X, a_one, r, hm, c, kont⟩ := h
    exact c.len
  · obtain ⟨X, a_one, r, hm, c, kont⟩ := h
    refine ⟨_, (pss_cons (ps_if (pt_cmpR op_eq (pe_ix (r := rIxT K) ix_tup (pv 0) pe_int (fun _ _ => rfl)) pe_int (nomark _)) (pss_one (ps_ret (pe_callTy call_strX (by rfl) T.z_str (by decide +kernel) (pa_cons (pe_ix (r := rIxT K) ix_tup (pv 0) pe_int (fun _ _ => rfl)) pa_nil)))) pss_nil)
      (pss_one (ps_ret (pe_op op_addSX (pe_op op_addSX (pe_callTy call_strX (by rfl) T.z_str (by decide +kernel) (pa_cons (pe_ix (r := rIxT K) ix_tup (pv 0) pe_int (fun _ _ => rfl)) pa_nil)) pe_str) (pe_callTy call_strX (by rfl) T.z_str (by decide +kernel) (pa_cons (pe_ix (r := rIxT K) ix_tup (pv 0) pe_int (fun _ _ => rfl)) pa_nil)))))), ?_⟩
    have L0 : Lo ⟨K, X, H, muts [.imm (enc (a_one : (T2 Int Int)))], n_show_ratio.length⟩ X H (L2.start n_show_ratio vs) [.imm (enc (a_one : (T2 Int Int)))] := c.start n_show_ratio (show (1 : Nat) ≤ 1 by decide)
    unfold m_show_ratio at hm
    refine x_seq (x_ifS (x_test (x_op (x_op (x_vd (d := (enc (a_one : (T2 Int Int)))) L0 rfl fun v1 r1 => x_c (x_ixTI (x := a_one.b) r1 rfl (x_c (x_eqi (x_kb (x_if hm (fun hm1 => ?_) fun hm1 => ?_))))))))))
    · exact x_ret (x_cb (x_cons (x_op (x_vd (d := (enc (a_one : (T2 Int Int)))) L0 rfl fun v2 r2 => x_c (x_ixTI (x := a_one.a) r2 rfl (x_nil (x_strI (i := a_one.a) hm1 fun x1 hm2 => x_finS (Q := Q) (ps := (fun (r : Str) => [])) (sc := fun (r : Str) => r) x1 hm2 kont (L0.fin hp0 (.str _)))))))))
    · refine x_next ?_
      exact x_ret (x_op (x_op (x_cb (x_cons (x_op (x_vd (d := (enc (a_one : (T2 Int Int)))) L0 rfl fun v3 r3 => x_c (x_ixTI (x := a_one.a) r3 rfl (x_nil (x_strI (i := a_one.a) hm1 fun x2 hm3 => x_c (x_addS (a := x2) (b := ("/" : Str)) hm3 fun hm4 => x_cb (x_cons (x_op (x_vd (d := (enc (a_one : (T2 Int Int)))) L0 rfl fun v4 r4 => x_c (x_ixTI (x := a_one.b) r4 rfl (x_nil (x_strI (i := a_one.b) hm4 fun x3 hm5 => x_addS (a := (x2 ++ ("/" : Str))) (b := x3) hm5 fun hm6 => x_finS (Q := Q) (ps := (fun (r : Str) => [])) (sc := fun (r : Str) => r) (((x2 ++ ("/" : Str)) ++ x3)) hm6 kont (L0.fin hp0 (.str _))))))))))))))))))
abbrev sp__law_figures (K : PySem.W.Frag) : Sp := fun vs H Q _ => ∃ (X : Addr → Prop)  (a__law_number : Int) (r : Str), m__law_figures a__law_number = some r ∧ Cond K X H [.imm (.int a__law_number)] vs ∧ ∀ H', Fin K X H [] [] (.imm (.str r)) (.str r) H' → Q (.str r) H'
theorem mk__law_figures {K : PySem.W.Frag} {X : Addr → Prop} {H : Hp} {vs : List V} {Q : VK} {E : XK}  {a__law_number : Int} {r : Str} (hm : m__law_figures a__law_number = some r) (c : Cond K X H [.imm (.int a__law_number)] vs) (k : ∀ H', Fin K X H [] [] (.imm (.str r)) (.str r) H' → Q (.str r) H') : sp__law_figures K vs H Q E := ⟨X, a__law_number, r, hm, c, k⟩
abbrev n__law_figures : List Str := ["_law_number", "_law_found", "_law_rest"]
theorem sc__law_figures : FnScope n__law_figures ["_law_number"] (defScope s__law_figures) := ⟨rfl, rfl, rfl, by decide +kernel, rfl, by decide +kernel, by decide +kernel⟩
theorem ok__law_figures (T : Txt K mg) : FnOk P w K mg base CX0 1 T.A__law_figures T.D__law_figures ["_law_number"] (sp__law_figures K) := by
  refine Fun.ok T.F__law_figures sc__law_figures (fun vs H Q E h => ?_) (fun cdv A outer s H vs Q E hr h => ?_)
  · obtain ⟨X, a__law_number, r, hm, c, kont⟩ := h
    exact c.len
  · obtain ⟨X, a__law_number, r, hm, c, kont⟩ := h
    refine ⟨_, (pss_cons (ps_set (i := 1) sc__law_figures.nd rfl (Or.inl rfl) pe_str)
      (pss_cons (ps_set (i := 2) sc__law_figures.nd rfl (Or.inl rfl) (pe_callB call_absX (by rfl) T.z_abs (by decide +kernel) (pa_cons (pv 0) pa_nil)))
      (pss_cons (ps_while PassesOwn.never (pt_cmpR op_gt (pv 2) pe_int (nomark _)) (pss_cons (ps_set (i := 1) sc__law_figures.nd rfl (Or.inl rfl) (pe_op op_addSX (pe_ix (r := rIxS) ix_str pe_str (pe_op op_mod (pv 2) pe_int) (fun _ _ => rfl)) (pv 1)))
      (pss_one (ps_set (i := 2) sc__law_figures.nd rfl (Or.inl rfl) (pe_op op_fdiv (pv 2) pe_int)))))
      (pss_cons (ps_if (pt_cmpR op_eq (pv 1) pe_str (nomark _)) (pss_one (ps_ret pe_str)) pss_nil)
      (pss_one (ps_ret (pv 1))))))), ?_⟩
    have L0 : Lo ⟨K, X, H, muts [.imm (.int a__law_number)], n__law_figures.length⟩ X H (L2.start n__law_figures vs) [.imm (.int a__law_number), .unk, .unk] := c.start n__law_figures (show (1 : Nat) ≤ 3 by decide)
    unfold m__law_figures at hm
    refine x_seq (x_asg (x_c (x_bset (x0 := ("" : Str)) (d := fun found_1 => (.str found_1)) (Γf := fun found_1 => [.imm (.int a__law_number), .imm (.str found_1), .unk]) hm L0 (.str _) (show (1 : Nat) < 3 by decide) (fun _ => rfl) fun found_1 _ hm1 L1 => ?_)))
    refine x_seq (x_asg (x_cb (x_cons (x_vI (x := a__law_number) L1 rfl (x_nil (x_abs (x_bset (x0 := (iabs a__law_number)) (d := fun rest_1 => (.int rest_1)) (Γf := fun rest_1 => [.imm (.int a__law_number), .imm (.str found_1), .imm (.int rest_1)]) hm1 L1 (.int _) (show (2 : Nat) < 3 by decide) (fun _ => rfl) fun rest_1 _ hm2 L2 => ?_)))))))
    refine x_seq (x_wh (n := rest_1.natAbs + 2) (G := (fun (s1 : (Str × Int)) => [.imm (.int a__law_number), .imm (.str s1.1), .imm (.int s1.2)])) (s0 := (found_1, rest_1)) (ρ := Empty) (ps := fun _ => []) (rs := fun _ => .imm .none) (L2.weak (Γ' := [.imm (.int a__law_number), .imm (.str found_1), .imm (.int rest_1)]) (.k (.k (.k .e)))) (fun _ _ => rfl) hm2 (fun s1 H1 _ _ _ _ _ _ hm3 L3 hN1 hC1 hB1 hR1 _ hQ1 => ?_) (fun s2 _ _ hm4 L4 => ?_) (fun q => q.elim))
    · refine x_test (x_op (x_vI (x := s1.2) L3 rfl (x_c (x_r0 (x_kb (hQ1 _ _ (x_whIf hm3 (fun hm6 => ?_) fun hm6 => ?_)))))))
      · refine x_seq (x_asg (x_op (x_op (x_c (x_op (x_vI (x := s1.2) L3 rfl (x_c (x_modc (by decide) (x_ixStr (z := ("0123456789" : Str)) (i := (s1.2 % 10)) hm6 fun x2 hm7 => x_vS (x := s1.1) L3 rfl (x_addS (a := x2) (b := s1.1) hm7 fun hm8 => x_bset (x0 := (x2 ++ s1.1)) (d := fun found_2 => (.str found_2)) (Γf := fun found_2 => [.imm (.int a__law_number), .imm (.str found_2), .imm (.int s1.2)]) hm8 L3 (.str _) (show (1 : Nat) < 3 by decide) (fun _ => rfl) fun found_2 _ hm9 L5 => ?_))))))))))
        refine x_asg (x_op (x_vI (x := s1.2) L5 rfl (x_c (x_divc ⟨by decide, by decide⟩ (x_bset (x0 := (s1.2 / 10)) (d := fun rest_2 => (.int rest_2)) (Γf := fun rest_2 => [.imm (.int a__law_number), .imm (.str found_2), .imm (.int rest_2)]) hm9 L5 (.int _) (show (2 : Nat) < 3 by decide) (fun _ => rfl) fun rest_2 _ hm10 L6 => ?_)))))
        exact x_leafN (G := (fun (s1 : (Str × Int)) => [.imm (.int a__law_number), .imm (.str s1.1), .imm (.int s1.2)])) (e := (found_2, rest_2)) hm10 hN1 (L6.weak (Γ' := [.imm (.int a__law_number), .imm (.str found_2), .imm (.int rest_2)]) (.k (.k (.k .e))))
      · exact x_leafB (G := (fun (s1 : (Str × Int)) => [.imm (.int a__law_number), .imm (.str s1.1), .imm (.int s1.2)])) (e := (s1.1, s1.2)) hm6 hB1 (L3.weak (Γ' := [.imm (.int a__law_number), .imm (.str s1.1), .imm (.int s1.2)]) (.k (.k (.k .e))))
    refine x_seq (x_ifS (x_test (x_op (x_vS (x := s2.1) L4 rfl (x_c (x_eqs (x_kb (x_if hm4 (fun hm11 => ?_) fun hm11 => ?_))))))))
    · exact x_ret (x_c (x_finS (Q := Q) (ps := (fun (r : Str) => [])) (sc := fun (r : Str) => r) (("0" : Str)) hm11 kont (L4.fin hp0 (.str _))))
    · refine x_next ?_
      exact x_ret (x_vS (x := s2.1) L4 rfl (x_finS (Q := Q) (ps := (fun (r : Str) => [])) (sc := fun (r : Str) => r) s2.1 hm11 kont (L4.fin hp0 (.str _))))
abbrev sp__law_written (K : PySem.W.Frag) : Sp := fun vs H Q _ => ∃ (X : Addr → Prop)  (a__law_one : (T2 Int Int)) (r : Str), m__law_written a__law_one = some r ∧ Cond K X H [.imm (enc (a__law_one : (T2 Int Int)))] vs ∧ ∀ H', Fin K X H [] [] (.imm (.str r)) (.str r) H' → Q (.str r) H'
theorem mk__law_written {K : PySem.W.Frag} {X : Addr → Prop} {H : Hp} {vs : List V} {Q : VK} {E : XK}  {a__law_one : (T2 Int Int)} {r : Str} (hm : m__law_written a__law_one = some r) (c : Cond K X H [.imm (enc (a__law_one : (T2 Int Int)))] vs) (k : ∀ H', Fin K X H [] [] (.imm (.str r)) (.str r) H' → Q (.str r) H') : sp__law_written K vs H Q E := ⟨X, a__law_one, r, hm, c, k⟩
abbrev n__law_written : List Str := ["_law_one", "_law_found"]
theorem sc__law_written : FnScope n__law_written ["_law_one"] (defScope s__law_written) := ⟨rfl, rfl, rfl, by decide +kernel, rfl, by decide +kernel, by decide +kernel⟩
theorem ok__law_written (T : Txt K mg) : FnOk P w K mg base CX0 2 T.A__law_written T.D__law_written ["_law_one"] (sp__law_written K) := by
  refine Fun.ok T.F__law_written sc__law_written (fun vs H Q E h => ?_) (fun cdv A outer s H vs Q E hr h => ?_)
  · obtain ⟨X, a__law_one, r, hm, c, kont⟩ := h
    exact c.len
  · obtain ⟨X, a__law_one, r, hm, c, kont⟩ := h
    refine ⟨_, (pss_cons (ps_set (i := 1) sc__law_written.nd rfl (Or.inl rfl) (pe_call (ok__law_figures T) hr (by rfl) T.g__law_figures T.F__law_figures.kp T.b__law_figures .nil pass0 (pa_cons (pe_ix (r := rIxT K) ix_tup (pv 0) pe_int (fun _ _ => rfl)) pa_nil)))
      (pss_cons (ps_if (pt_cmpR op_lt (pe_ix (r := rIxT K) ix_tup (pv 0) pe_int (fun _ _ => rfl)) pe_int (nomark _)) (pss_one (ps_set (i := 1) sc__law_written.nd rfl (Or.inl rfl) (pe_op op_addSX pe_str (pv 1)))) pss_nil)
      (pss_cons (ps_if (pt_cmpR op_gt (pe_ix (r := rIxT K) ix_tup (pv 0) pe_int (fun _ _ => rfl)) pe_int (nomark _)) (pss_one (ps_set (i := 1) sc__law_written.nd rfl (Or.inl rfl) (pe_op op_addSX (pe_op op_addSX (pv 1) pe_str) (pe_call (ok__law_figures T) hr (by rfl) T.g__law_figures T.F__law_figures.kp T.b__law_figures .nil pass0 (pa_cons (pe_ix (r := rIxT K) ix_tup (pv 0) pe_int (fun _ _ => rfl)) pa_nil))))) pss_nil)
      (pss_one (ps_ret (pv 1)))))), ?_⟩
    have L0 : Lo ⟨K, X, H, muts [.imm (enc (a__law_one : (T2 Int Int)))], n__law_written.length⟩ X H (L2.start n__law_written vs) [.imm (enc (a__law_one : (T2 Int Int))), .unk] := c.start n__law_written (show (1 : Nat) ≤ 2 by decide)
    unfold m__law_written at hm
    refine x_seq (x_asg (x_call (x_cons (x_op (x_vd (d := (enc (a__law_one : (T2 Int Int)))) L0 rfl fun v1 r1 => x_c (x_ixTI (x := a__law_one.a) r1 rfl (x_nil (obE hm fun z1 hz1 hm1 => mk__law_figures hz1 (L0.cond0 (.im (.int _) .nil) rfl) fun _ F1 => k0 L0 F1 fun L1 le1 => x_set (d := (.str z1)) (Γ' := [.imm (enc (a__law_one : (T2 Int Int))), .imm (.str z1)]) L1 (.str _) (show (1 : Nat) < 2 by decide) rfl fun _ L2 => ?_))))))))
    refine x_seq (x_ifS (x_test (x_op (x_op (x_vd (d := (enc (a__law_one : (T2 Int Int)))) L2 rfl fun v3 r2 => x_c (x_ixTI (x := a__law_one.a) r2 rfl (x_c (x_r0 (x_kb (x_join (G := (fun (s1 : Str) => [.imm (enc (a__law_one : (T2 Int Int))), .imm (.str s1)])) L2 hm1 (fun _ hm2 _ hN1 => ?_) (fun _ hm2 _ hN1 => ?_) fun s1 X1 _ _ hm3 L3 => ?_))))))))))
    · refine x_asg (x_op (x_c (x_vS (x := z1) L2 rfl (x_addS (a := ("-" : Str)) (b := z1) hm2 fun hm4 => x_bset (x0 := (("-" : Str) ++ z1)) (d := fun found_1 => (.str found_1)) (Γf := fun found_1 => [.imm (enc (a__law_one : (T2 Int Int))), .imm (.str found_1)]) hm4 L2 (.str _) (show (1 : Nat) < 2 by decide) (fun _ => rfl) fun found_1 _ hm5 L4 => ?_))))
      exact x_leaf (G := (fun (s1 : Str) => [.imm (enc (a__law_one : (T2 Int Int))), .imm (.str s1)])) (e := found_1) hm5 hN1 (L4.weak (Γ' := [.imm (enc (a__law_one : (T2 Int Int))), .imm (.str found_1)]) (.k (.k .e)))
    · refine x_next ?_
      exact x_leaf (G := (fun (s1 : Str) => [.imm (enc (a__law_one : (T2 Int Int))), .imm (.str s1)])) (e := z1) hm2 hN1 (L2.weak (Γ' := [.imm (enc (a__law_one : (T2 Int Int))), .imm (.str z1)]) (.k (.k .e)))
    refine x_seq (x_ifS (x_test (x_op (x_op (x_vd (d := (enc (a__law_one : (T2 Int Int)))) L3 rfl fun v4 r3 => x_c (x_ixTI (x := a__law_one.b) r3 rfl (x_c (x_r0 (x_kb (x_join (G := (fun (s2 : Str) => [.imm (enc (a__law_one : (T2 Int Int))), .imm (.str s2)])) L3 hm3 (fun _ hm6 _ hN2 => ?_) (fun _ hm6 _ hN2 => ?_) fun s2 X2 _ _ hm7 L5 => ?_))))))))))
    · refine x_asg (x_op (x_op (x_vS (x := s1) L3 rfl (x_c (x_addS (a := s1) (b := ("/" : Str)) hm6 fun hm8 => x_call (x_cons (x_op (x_vd (d := (enc (a__law_one : (T2 Int Int)))) L3 rfl fun v5 r4 => x_c (x_ixTI (x := a__law_one.b) r4 rfl (x_nil (obE hm8 fun z2 hz2 hm9 => mk__law_figures hz2 (L3.cond0 (.im (.int _) .nil) rfl) fun _ F2 => k0 L3 F2 fun L6 le2 => x_addS (a := (s1 ++ ("/" : Str))) (b := z2) hm9 fun hm10 => x_bset (x0 := ((s1 ++ ("/" : Str)) ++ z2)) (d := fun found_2 => (.str found_2)) (Γf := fun found_2 => [.imm (enc (a__law_one : (T2 Int Int))), .imm (.str found_2)]) hm10 L6 (.str _) (show (1 : Nat) < 2 by decide) (fun _ => rfl) fun found_2 _ hm11 L7 => ?_)))))))))))
      exact x_leaf (G := (fun (s2 : Str) => [.imm (enc (a__law_one : (T2 Int Int))), .imm (.str s2)])) (e := found_2) hm11 hN2 (L7.weak (Γ' := [.imm (enc (a__law_one : (T2 Int Int))), .imm (.str found_2)]) (.k (.k .e)))
    · refine x_next ?_
      exact x_leaf (G := (fun (s2 : Str) => [.imm (enc (a__law_one : (T2 Int Int))), .imm (.str s2)])) (e := s1) hm6 hN2 (L3.weak (Γ' := [.imm (enc (a__law_one : (T2 Int Int))), .imm (.str s1)]) (.k (.k .e)))
    exact x_ret (x_vS (x := s2) L5 rfl (x_finS (Q := Q) (ps := (fun (r : Str) => [])) (sc := fun (r : Str) => r) s2 hm7 kont (L5.fin hp0 (.str _))))
abbrev sp__law_point (K : PySem.W.Frag) : Sp := fun vs H Q _ => ∃ (X : Addr → Prop)  (a__law_a : Int) (a__law_b : Int) (a__law_n : Int) (r : (T3 Int Int Int)), m__law_point a__law_a a__law_b a__law_n = some r ∧ Cond K X H [.imm (.int a__law_a), .imm (.int a__law_b), .imm (.int a__law_n)] vs ∧ ∀ v H', Fin K X H [] [] (.imm (enc (r : (T3 Int Int Int)))) v H' → Q v H'
theorem mk__law_point {K : PySem.W.Frag} {X : Addr → Prop} {H : Hp} {vs : List V} {Q : VK} {E : XK}  {a__law_a : Int} {a__law_b : Int} {a__law_n : Int} {r : (T3 Int Int Int)} (hm : m__law_point a__law_a a__law_b a__law_n = some r) (c : Cond K X H [.imm (.int a__law_a), .imm (.int a__law_b), .imm (.int a__law_n)] vs) (k : ∀ v H', Fin K X H [] [] (.imm (enc (r : (T3 Int Int Int)))) v H' → Q v H') : sp__law_point K vs H Q E := ⟨X, a__law_a, a__law_b, a__law_n, r, hm, c, k⟩
abbrev n__law_point : List Str := ["_law_a", "_law_b", "_law_n", "_law_both"]
theorem sc__law_point : FnScope n__law_point ["_law_a", "_law_b", "_law_n"] (defScope s__law_point) := ⟨rfl, rfl, rfl, by decide +kernel, rfl, by decide +kernel, by decide +kernel⟩
theorem ok__law_point (T : Txt K mg) : FnOk P w K mg base CX0 2 T.A__law_point T.D__law_point ["_law_a", "_law_b", "_law_n"] (sp__law_point K) := by
  refine Fun.ok T.F__law_point sc__law_point (fun vs H Q E h => ?_) (fun cdv A outer s H vs Q E hr h => ?_)
  · obtain ⟨X, a__law_a, a__law_b, a__law_n, r, hm, c, kont⟩ := h
    exact c.len
  · obtain ⟨X, a__law_a, a__law_b, a__law_n, r, hm, c, kont⟩ := h
    refine ⟨_, (pss_cons (ps_set (i := 3) sc__law_point.nd rfl (Or.inl rfl) (pe_call (ok__law_gcd T) hr (by rfl) T.g__law_gcd T.F__law_gcd.kp T.b__law_gcd .nil pass0 (pa_cons (pe_call (ok__law_gcd T) hr (by rfl) T.g__law_gcd T.F__law_gcd.kp T.b__law_gcd .nil pass0 (pa_cons (pv 0) (pa_cons (pv 2) pa_nil))) (pa_cons (pv 1) pa_nil))))
      (pss_cons (ps_if (pt_cmpR op_lt (pv 2) pe_int (nomark _)) (pss_one (ps_set (i := 3) sc__law_point.nd rfl (Or.inl rfl) (pe_un un_neg (pv 3)))) pss_nil)
      (pss_one (ps_ret (pe_tup (pa_cons (pe_op op_divG (pv 0) (pv 3)) (pa_cons (pe_op op_divG (pv 1) (pv 3)) (pa_cons (pe_op op_divG (pv 2) (pv 3)) pa_nil)))))))), ?_⟩
    have L0 : Lo ⟨K, X, H, muts [.imm (.int a__law_a), .imm (.int a__law_b), .imm (.int a__law_n)], n__law_point.length⟩ X H (L2.start n__law_point vs) [.imm (.int a__law_a), .imm (.int a__law_b), .imm (.int a__law_n), .unk] := c.start n__law_point (show (3 : Nat) ≤ 4 by decide)
    unfold m__law_point at hm
    refine x_seq (x_asg (x_call (x_cons (x_call (x_cons (x_vI (x := a__law_a) L0 rfl (x_cons (x_vI (x := a__law_n) L0 rfl (x_nil (obE hm fun z1 hz1 hm1 => mk__law_gcd hz1 (L0.cond0 (.im (.int _) (.im (.int _) .nil)) rfl) fun _ F1 => k0 L0 F1 fun L1 le1 => x_cons (x_vI (x := a__law_b) L1 rfl (x_nil (obE hm1 fun z2 hz2 hm2 => mk__law_gcd hz2 (L1.cond0 (.im (.int _) (.im (.int _) .nil)) rfl) fun _ F2 => k0 L1 F2 fun L2 le2 => x_set (d := (.int z2)) (Γ' := [.imm (.int a__law_a), .imm (.int a__law_b), .imm (.int a__law_n), .imm (.int z2)]) L2 (.int _) (show (3 : Nat) < 4 by decide) rfl fun _ L3 => ?_)))))))))))))
    refine x_seq (x_ifS (x_test (x_op (x_vI (x := a__law_n) L3 rfl (x_c (x_r0 (x_kb (x_join (G := (fun (s1 : Int) => [.imm (.int a__law_a), .imm (.int a__law_b), .imm (.int a__law_n), .imm (.int s1)])) L3 hm2 (fun _ hm3 _ hN1 => ?_) (fun _ hm3 _ hN1 => ?_) fun s1 X1 _ _ hm4 L4 => ?_))))))))
    · refine x_asg (x_un (x_vI (x := z2) L3 rfl (x_u (x_bset (x0 := (-z2)) (d := fun both_1 => (.int both_1)) (Γf := fun both_1 => [.imm (.int a__law_a), .imm (.int a__law_b), .imm (.int a__law_n), .imm (.int both_1)]) hm3 L3 (.int _) (show (3 : Nat) < 4 by decide) (fun _ => rfl) fun both_1 _ hm5 L5 => ?_))))
      exact x_leaf (G := (fun (s1 : Int) => [.imm (.int a__law_a), .imm (.int a__law_b), .imm (.int a__law_n), .imm (.int s1)])) (e := both_1) hm5 hN1 (L5.weak (Γ' := [.imm (.int a__law_a), .imm (.int a__law_b), .imm (.int a__law_n), .imm (.int both_1)]) (.k (.k (.k (.k .e)))))
    · refine x_next ?_
      exact x_leaf (G := (fun (s1 : Int) => [.imm (.int a__law_a), .imm (.int a__law_b), .imm (.int a__law_n), .imm (.int s1)])) (e := z2) hm3 hN1 (L3.weak (Γ' := [.imm (.int a__law_a), .imm (.int a__law_b), .imm (.int a__law_n), .imm (.int z2)]) (.k (.k (.k (.k .e)))))
    exact x_ret (x_tup (x_cons (x_op (x_vI (x := a__law_a) L4 rfl (x_vI (x := s1) L4 rfl (x_div hm4 fun z3 _ hm6 => x_cons (x_op (x_vI (x := a__law_b) L4 rfl (x_vI (x := s1) L4 rfl (x_div hm6 fun z4 _ hm7 => x_cons (x_op (x_vI (x := a__law_n) L4 rfl (x_vI (x := s1) L4 rfl (x_div hm7 fun z5 _ hm8 => x_nil (x_mkT L4 (.cons (.int _) (.cons (.int _) (.cons (.int _) .nil))) (show (3 : Nat) ≤ 16777216 by decide) fun v3 _ L6 le3 r1 => have r2 : Rep _ _ _ (enc ((T3.mk z3 z4 z5) : (T3 Int Int Int))) v3 := r1; x_fin (Q := Q) (ps := (fun (r : (T3 Int Int Int)) => [])) (rs := (fun (r : (T3 Int Int Int)) => (.imm (enc (r : (T3 Int Int Int)))))) (e := (T3.mk z3 z4 z5)) hm8 kont (L6.fin hp0 r2))))))))))))))))
abbrev sp_read_whole (K : PySem.W.Frag) : Sp := fun vs H Q _ => ∃ (X : Addr → Prop)  (a_text : Str) (r : Int), m_read_whole a_text = some r ∧ Cond K X H [.imm (.str a_text)] vs ∧ ∀ H', Fin K X H [] [] (.imm (.int r)) (.int r) H' → Q (.int r) H'
theorem mk_read_whole {K : PySem.W.Frag} {X : Addr → Prop} {H : Hp} {vs : List V} {Q : VK} {E : XK}  {a_text : Str} {r : Int} (hm : m_read_whole a_text = some r) (c : Cond K X H [.imm (.str a_text)] vs) (k : ∀ H', Fin K X H [] [] (.imm (.int r)) (.int r) H' → Q (.int r) H') : sp_read_whole K vs H Q E := ⟨X, a_text, r, hm, c, k⟩
abbrev n_read_whole : List Str := ["text", "sign"]
theorem sc_read_whole : FnScope n_read_whole ["text"] (defScope s_read_whole) := ⟨rfl, rfl, rfl, by decide +kernel, rfl, by decide +kernel, by decide +kernel⟩
theorem ok_read_whole (T : Txt K mg) : FnOk P w K mg base CX0 1 T.A_read_whole T.D_read_whole ["text"] (sp_read_whole K) := by
  refine Fun.ok T.F_read_whole sc_read_whole (fun vs H Q E h => ?_) (fun cdv A outer s H vs Q E hr h => ?_)
  · obtain ⟨X, a_text, r, hm, c, kont⟩ := h
    exact c.len
  · obtain ⟨X, a_text, r, hm, c, kont⟩ := h
    refine ⟨_, (pss_cons (ps_if (PW.pt (pw_or (pt_not (pt_chain op_le op_le pe_int (pe_callB (r := rLenStr K) call_lenStr (by rfl) T.z_len (by decide +kernel) (pa_cons (pv 0) pa_nil)) (pe_glob (v := .int (30)) (u := .int (30) T.t_MOST_FIGURES) rfl T.c_MOST_FIGURES ⟨_, rfl⟩))) (pw_or1 (PW.pt (pw_and (pt_cmpR op_eq (pe_ix (r := rIxS) ix_str (pv 0) pe_int (fun _ _ => rfl)) pe_str (nomark _)) (pw_and1 (pt_cmpR op_ne (pv 0) pe_str (nomark _)))))))) (pss_one ps_never) pss_nil)
      (pss_cons (ps_for PassesOwn.never rfl (pi_str (pv 0)) (pg_name (i := 1) sc_read_whole.nd rfl (Or.inl rfl)) (pss_one (ps_if (pt_cmpR op_notInS (pv 1) (pe_glob (v := .str "0123456789") (u := .str "0123456789" T.t_FIGURES) rfl T.c_FIGURES ⟨_, rfl⟩) (by rfl)) (pss_one ps_never) pss_nil)))
      (pss_one (ps_ret (pe_callTy call_intT (by rfl) T.z_int (by decide +kernel) (pa_cons (pv 0) pa_nil)))))), ?_⟩
    have L0 : Lo ⟨K, X, H, muts [.imm (.str a_text)], n_read_whole.length⟩ X H (L2.start n_read_whole vs) [.imm (.str a_text), .unk] := c.start n_read_whole (show (1 : Nat) ≤ 2 by decide)
    unfold m_read_whole at hm
    refine x_seq (x_ifS (x_or (x_not (x_test (x_chain (x_c (x_cb (x_cons (x_vS (x := a_text) L0 rfl (x_nil (x_lenStr (z := a_text) hm fun hm1 => x_r0 (x_chP (B := (decide ((a_text.length : Int) ≤ 30))) (fun _ hq => x_c (x_r0 (hq))) (x_kb (x_kn (x_orB L0 hm1 (fun _ hm3 _ hq => x_and (x_test (x_op (x_op (x_vS (x := a_text) L0 rfl (x_c (x_ixStr (z := a_text) (i := 0) hm3 fun x2 hm4 => x_c (x_eqs (x_kb (x_andP (B := (!decide (a_text = ("0" : Str)))) (fun _ hq => x_test (x_op (x_vS (x := a_text) L0 rfl (x_c (x_nes (x_kb (hq))))))) (x_lfT hm4 hq L0))))))))))) fun b1 _ hm5 L1 => x_if hm5 (fun hm6 => ?_) fun hm6 => ?_)))))))))))))))
    · exact (nomatch hm6)
    · refine x_next ?_
      refine x_seq (x_tforY (x_vS (x := a_text) L1 rfl (x_foY (G := (fun (s1 : Unit) => [.imm (.str a_text), .unk])) (s0 := ()) (x := a_text) (L1.weak (Γ' := [.imm (.str a_text), .unk]) (.k (.k .e))) (fun _ _ => rfl) hm6 (fun x3 s1 H1 _ u1 _ _ _ _ _ hm7 L2 r1 hN1 hC1 => ?_) (fun s2 _ _ hm8 L3 => ?_))))
      · refine x_set (d := (.str ((chS x3)))) (Γ' := [.imm (.str a_text), .imm (.str ((chS x3)))]) L2 r1 (show (1 : Nat) < 2 by decide) rfl fun _ L4 => ?_
        refine x_ifS (x_test (x_op (x_vS (x := (chS x3)) L4 rfl (x_c (x_ninS (x := x3) (z := ("0123456789" : Str)) (x_kb (x_if hm7 (fun hm10 => ?_) fun hm10 => ?_)))))))
        · exact (nomatch hm10)
        · refine x_next ?_
          exact x_leaf (G := (fun (s1 : Unit) => [.imm (.str a_text), .unk])) (e := ()) hm10 hN1 (L4.weak (Γ' := [.imm (.str a_text), .unk]) (.k (.d .e)))
      exact x_ret (x_cb (x_cons (x_vS (x := a_text) L3 rfl (x_nil (x_intT (a := a_text) hm8 fun x4 hm11 => x_finI (Q := Q) (ps := (fun (r : Int) => [])) (sc := fun (r : Int) => r) x4 hm11 kont (L3.fin hp0 (.int _)))))))
abbrev sp_greatest_divisor (K : PySem.W.Frag) : Sp := fun vs H Q _ => ∃ (X : Addr → Prop)  (a_a : Int) (a_b : Int) (r : Int), m_greatest_divisor a_a a_b = some r ∧ Cond K X H [.imm (.int a_a), .imm (.int a_b)] vs ∧ ∀ H', Fin K X H [] [] (.imm (.int r)) (.int r) H' → Q (.int r) H'
theorem mk_greatest_divisor {K : PySem.W.Frag} {X : Addr → Prop} {H : Hp} {vs : List V} {Q : VK} {E : XK}  {a_a : Int} {a_b : Int} {r : Int} (hm : m_greatest_divisor a_a a_b = some r) (c : Cond K X H [.imm (.int a_a), .imm (.int a_b)] vs) (k : ∀ H', Fin K X H [] [] (.imm (.int r)) (.int r) H' → Q (.int r) H') : sp_greatest_divisor K vs H Q E := ⟨X, a_a, a_b, r, hm, c, k⟩
abbrev n_greatest_divisor : List Str := ["a", "b", "one", "other"]
theorem sc_greatest_divisor : FnScope n_greatest_divisor ["a", "b"] (defScope s_greatest_divisor) := ⟨rfl, rfl, rfl, by decide +kernel, rfl, by decide +kernel, by decide +kernel⟩
theorem ok_greatest_divisor (T : Txt K mg) : FnOk P w K mg base CX0 1 T.A_greatest_divisor T.D_greatest_divisor ["a", "b"] (sp_greatest_divisor K) := by
  refine Fun.ok T.F_greatest_divisor sc_greatest_divisor (fun vs H Q E h => ?_) (fun cdv A outer s H vs Q E hr h => ?_)
  · obtain ⟨X, a_a, a_b, r, hm, c, kont⟩ := h
    exact c.len
  · obtain ⟨X, a_a, a_b, r, hm, c, kont⟩ := h
    refine ⟨_, (pss_cons (ps_set (i := 2) sc_greatest_divisor.nd rfl (Or.inl rfl) (pe_callB call_absX (by rfl) T.z_abs (by decide +kernel) (pa_cons (pv 0) pa_nil)))
      (pss_cons (ps_set (i := 3) sc_greatest_divisor.nd rfl (Or.inl rfl) (pe_callB call_absX (by rfl) T.z_abs (by decide +kernel) (pa_cons (pv 1) pa_nil)))
      (pss_cons (ps_while PassesOwn.never (pt_cmpR op_gt (pv 3) pe_int (nomark _)) (pss_one (ps_par (i := 2) (j := 3) (by rfl) sc_greatest_divisor.nd rfl rfl (by decide) rfl rfl (pa_cons (pv 3) (pa_cons (pe_op op_modN (pv 2) (pv 3)) pa_nil)) (by rfl))))
      (pss_one (ps_ret (pv 2)))))), ?_⟩
    have L0 : Lo ⟨K, X, H, muts [.imm (.int a_a), .imm (.int a_b)], n_greatest_divisor.length⟩ X H (L2.start n_greatest_divisor vs) [.imm (.int a_a), .imm (.int a_b), .unk, .unk] := c.start n_greatest_divisor (show (2 : Nat) ≤ 4 by decide)
    unfold m_greatest_divisor at hm
    refine x_seq (x_asg (x_cb (x_cons (x_vI (x := a_a) L0 rfl (x_nil (x_abs (x_bset (x0 := (iabs a_a)) (d := fun one_1 => (.int one_1)) (Γf := fun one_1 => [.imm (.int a_a), .imm (.int a_b), .imm (.int one_1), .unk]) hm L0 (.int _) (show (2 : Nat) < 4 by decide) (fun _ => rfl) fun one_1 _ hm1 L1 => ?_)))))))
    refine x_seq (x_asg (x_cb (x_cons (x_vI (x := a_b) L1 rfl (x_nil (x_abs (x_bset (x0 := (iabs a_b)) (d := fun other_1 => (.int other_1)) (Γf := fun other_1 => [.imm (.int a_a), .imm (.int a_b), .imm (.int one_1), .imm (.int other_1)]) hm1 L1 (.int _) (show (3 : Nat) < 4 by decide) (fun _ => rfl) fun other_1 _ hm2 L2 => ?_)))))))
    refine x_seq (x_wh (n := other_1.natAbs + 2) (G := (fun (s1 : (Int × Int)) => [.imm (.int a_a), .imm (.int a_b), .imm (.int s1.1), .imm (.int s1.2)])) (s0 := (one_1, other_1)) (ρ := Empty) (ps := fun _ => []) (rs := fun _ => .imm .none) (L2.weak (Γ' := [.imm (.int a_a), .imm (.int a_b), .imm (.int one_1), .imm (.int other_1)]) (.k (.k (.k (.k .e))))) (fun _ _ => rfl) hm2 (fun s1 H1 _ _ _ _ _ _ hm3 L3 hN1 hC1 hB1 hR1 _ hQ1 => ?_) (fun s2 _ _ hm4 L4 => ?_) (fun q => q.elim))
    · refine x_test (x_op (x_vI (x := s1.2) L3 rfl (x_c (x_r0 (x_kb (hQ1 _ _ (x_whIf hm3 (fun hm6 => ?_) fun hm6 => ?_)))))))
      · refine x_par (x_cons (x_vI (x := s1.2) L3 rfl (x_cons (x_op (x_vI (x := s1.1) L3 rfl (x_vI (x := s1.2) L3 rfl (x_mod hm6 fun z1 _ hm7 => x_nil (x_par2 (x := (.int s1.2)) (y := (.int z1)) (Γ' := [.imm (.int a_a), .imm (.int a_b), .imm (.int s1.2), .imm (.int z1)]) L3 (.int _) (.int _) (show (2 : Nat) < 4 by decide) (show (3 : Nat) < 4 by decide) rfl fun _ L5 => ?_))))))))
        exact x_leafN (G := (fun (s1 : (Int × Int)) => [.imm (.int a_a), .imm (.int a_b), .imm (.int s1.1), .imm (.int s1.2)])) (e := (s1.2, z1)) hm7 hN1 (L5.weak (Γ' := [.imm (.int a_a), .imm (.int a_b), .imm (.int s1.2), .imm (.int z1)]) (.k (.k (.k (.k .e)))))
      · exact x_leafB (G := (fun (s1 : (Int × Int)) => [.imm (.int a_a), .imm (.int a_b), .imm (.int s1.1), .imm (.int s1.2)])) (e := (s1.1, s1.2)) hm6 hB1 (L3.weak (Γ' := [.imm (.int a_a), .imm (.int a_b), .imm (.int s1.1), .imm (.int s1.2)]) (.k (.k (.k (.k .e)))))
    exact x_ret (x_vI (x := s2.1) L4 rfl (x_finI (Q := Q) (ps := (fun (r : Int) => [])) (sc := fun (r : Int) => r) s2.1 hm4 kont (L4.fin hp0 (.int _))))
abbrev sp_ratio (K : PySem.W.Frag) : Sp := fun vs H Q _ => ∃ (X : Addr → Prop)  (a_top : Int) (a_bottom : Int) (r : (T2 Int Int)), m_ratio a_top a_bottom = some r ∧ Cond K X H [.imm (.int a_top), .imm (.int a_bottom)] vs ∧ ∀ v H', Fin K X H [] [] (.imm (enc (r : (T2 Int Int)))) v H' → Q v H'
theorem mk_ratio {K : PySem.W.Frag} {X : Addr → Prop} {H : Hp} {vs : List V} {Q : VK} {E : XK}  {a_top : Int} {a_bottom : Int} {r : (T2 Int Int)} (hm : m_ratio a_top a_bottom = some r) (c : Cond K X H [.imm (.int a_top), .imm (.int a_bottom)] vs) (k : ∀ v H', Fin K X H [] [] (.imm (enc (r : (T2 Int Int)))) v H' → Q v H') : sp_ratio K vs H Q E := ⟨X, a_top, a_bottom, r, hm, c, k⟩
abbrev n_ratio : List Str := ["top", "bottom", "divisor"]
theorem sc_ratio : FnScope n_ratio ["top", "bottom"] (defScope s_ratio) := ⟨rfl, rfl, rfl, by decide +kernel, rfl, by decide +kernel, by decide +kernel⟩
theorem ok_ratio (T : Txt K mg) : FnOk P w K mg base CX0 2 T.A_ratio T.D_ratio ["top", "bottom"] (sp_ratio K) := by
  refine Fun.ok T.F_ratio sc_ratio (fun vs H Q E h => ?_) (fun cdv A outer s H vs Q E hr h => ?_)
  · obtain ⟨X, a_top, a_bottom, r, hm, c, kont⟩ := h
    exact c.len
  · obtain ⟨X, a_top, a_bottom, r, hm, c, kont⟩ := h
    refine ⟨_, (pss_cons (ps_if (pt_cmpR op_eq (pv 1) pe_int (nomark _)) (pss_one ps_never) pss_nil)
      (pss_cons (ps_set (i := 2) sc_ratio.nd rfl (Or.inl rfl) (pe_call (ok_greatest_divisor T) hr (by rfl) T.g_greatest_divisor T.F_greatest_divisor.kp T.b_greatest_divisor .nil pass0 (pa_cons (pv 0) (pa_cons (pv 1) pa_nil))))
      (pss_cons (ps_if (pt_cmpR op_lt (pv 1) pe_int (nomark _)) (pss_one (ps_set (i := 2) sc_ratio.nd rfl (Or.inl rfl) (pe_un un_neg (pv 2)))) pss_nil)
      (pss_one (ps_ret (pe_tup (pa_cons (pe_op op_divG (pv 0) (pv 2)) (pa_cons (pe_op op_divG (pv 1) (pv 2)) pa_nil)))))))), ?_⟩
    have L0 : Lo ⟨K, X, H, muts [.imm (.int a_top), .imm (.int a_bottom)], n_ratio.length⟩ X H (L2.start n_ratio vs) [.imm (.int a_top), .imm (.int a_bottom), .unk] := c.start n_ratio (show (2 : Nat) ≤ 3 by decide)
    unfold m_ratio at hm
    refine x_seq (x_ifS (x_test (x_op (x_vI (x := a_bottom) L0 rfl (x_c (x_eqi (x_kb (x_if hm (fun hm1 => ?_) fun hm1 => ?_))))))))
    · exact (nomatch hm1)
    · refine x_next ?_
      refine x_seq (x_asg (x_call (x_cons (x_vI (x := a_top) L0 rfl (x_cons (x_vI (x := a_bottom) L0 rfl (x_nil (obE hm1 fun z1 hz1 hm2 => mk_greatest_divisor hz1 (L0.cond0 (.im (.int _) (.im (.int _) .nil)) rfl) fun _ F1 => k0 L0 F1 fun L1 le1 => x_set (d := (.int z1)) (Γ' := [.imm (.int a_top), .imm (.int a_bottom), .imm (.int z1)]) L1 (.int _) (show (2 : Nat) < 3 by decide) rfl fun _ L2 => ?_))))))))
      refine x_seq (x_ifS (x_test (x_op (x_vI (x := a_bottom) L2 rfl (x_c (x_r0 (x_kb (x_join (G := (fun (s1 : Int) => [.imm (.int a_top), .imm (.int a_bottom), .imm (.int s1)])) L2 hm2 (fun _ hm3 _ hN1 => ?_) (fun _ hm3 _ hN1 => ?_) fun s1 X1 _ _ hm4 L3 => ?_))))))))
      · refine x_asg (x_un (x_vI (x := z1) L2 rfl (x_u (x_bset (x0 := (-z1)) (d := fun divisor_1 => (.int divisor_1)) (Γf := fun divisor_1 => [.imm (.int a_top), .imm (.int a_bottom), .imm (.int divisor_1)]) hm3 L2 (.int _) (show (2 : Nat) < 3 by decide) (fun _ => rfl) fun divisor_1 _ hm5 L4 => ?_))))
        exact x_leaf (G := (fun (s1 : Int) => [.imm (.int a_top), .imm (.int a_bottom), .imm (.int s1)])) (e := divisor_1) hm5 hN1 (L4.weak (Γ' := [.imm (.int a_top), .imm (.int a_bottom), .imm (.int divisor_1)]) (.k (.k (.k .e))))
      · refine x_next ?_
        exact x_leaf (G := (fun (s1 : Int) => [.imm (.int a_top), .imm (.int a_bottom), .imm (.int s1)])) (e := z1) hm3 hN1 (L2.weak (Γ' := [.imm (.int a_top), .imm (.int a_bottom), .imm (.int z1)]) (.k (.k (.k .e))))
      exact x_ret (x_tup (x_cons (x_op (x_vI (x := a_top) L3 rfl (x_vI (x := s1) L3 rfl (x_div hm4 fun z2 _ hm6 => x_cons (x_op (x_vI (x := a_bottom) L3 rfl (x_vI (x := s1) L3 rfl (x_div hm6 fun z3 _ hm7 => x_nil (x_mkT L3 (.cons (.int _) (.cons (.int _) .nil)) (show (2 : Nat) ≤ 16777216 by decide) fun v2 _ L5 le2 r1 => have r2 : Rep _ _ _ (enc ((T2.mk z2 z3) : (T2 Int Int))) v2 := r1; x_fin (Q := Q) (ps := (fun (r : (T2 Int Int)) => [])) (rs := (fun (r : (T2 Int Int)) => (.imm (enc (r : (T2 Int Int)))))) (e := (T2.mk z2 z3)) hm7 kont (L5.fin hp0 r2))))))))))))
abbrev sp_read_ratio (K : PySem.W.Frag) : Sp := fun vs H Q _ => ∃ (X : Addr → Prop)  (a_text : Str) (r : (T2 Int Int)), m_read_ratio a_text = some r ∧ Cond K X H [.imm (.str a_text)] vs ∧ ∀ v H', Fin K X H [] [] (.imm (enc (r : (T2 Int Int)))) v H' → Q v H'
theorem mk_read_ratio {K : PySem.W.Frag} {X : Addr → Prop} {H : Hp} {vs : List V} {Q : VK} {E : XK}  {a_text : Str} {r : (T2 Int Int)} (hm : m_read_ratio a_text = some r) (c : Cond K X H [.imm (.str a_text)] vs) (k : ∀ v H', Fin K X H [] [] (.imm (enc (r : (T2 Int Int)))) v H' → Q v H') : sp_read_ratio K vs H Q E := ⟨X, a_text, r, hm, c, k⟩
abbrev n_read_ratio : List Str := ["text", "rest", "top", "stroke", "bottom", "found"]
theorem sc_read_ratio : FnScope n_read_ratio ["text"] (defScope s_read_ratio) := ⟨rfl, rfl, rfl, by decide +kernel, rfl, by decide +kernel, by decide +kernel⟩
theorem ok_read_ratio (T : Txt K mg) : FnOk P w K mg base CX0 3 T.A_read_ratio T.D_read_ratio ["text"] (sp_read_ratio K) := by
  refine Fun.ok T.F_read_ratio sc_read_ratio (fun vs H Q E h => ?_) (fun cdv A outer s H vs Q E hr h => ?_)
  · obtain ⟨X, a_text, r, hm, c, kont⟩ := h
    exact c.len
  · obtain ⟨X, a_text, r, hm, c, kont⟩ := h
    refine ⟨_, (pss_cons (ps_set (i := 1) sc_read_ratio.nd rfl (Or.inl rfl) (pv 0))
      (pss_cons (ps_if (pt_val (pe_m1 PySem.F.slot_str_startswith PySem.F.type_str_startswith mt_starts (pv 0) pe_str)) (pss_one (ps_set (i := 1) sc_read_ratio.nd rfl (Or.inl rfl) (pe_slice (r := rSlS) sl_str (pv 0) (po_some pe_int) po_none))) pss_nil)
      (pss_cons (ps_asg (pe_m1 PySem.F.slot_str_partition PySem.F.type_str_partition mt_part (pv 1) pe_str) (pg_tup rfl (pgs_cons (pg_name (i := 2) sc_read_ratio.nd rfl (Or.inl rfl)) (pgs_cons (pg_name (i := 3) sc_read_ratio.nd rfl (Or.inl rfl)) (pgs_cons (pg_name (i := 4) sc_read_ratio.nd rfl (Or.inl rfl)) pgs_nil)))))
      (pss_cons (ps_set (i := 5) sc_read_ratio.nd rfl (Or.inl rfl) (pe_tup (pa_cons (pe_call (ok_read_whole T) (hr.mono (by decide)) (by rfl) T.g_read_whole T.F_read_whole.kp T.b_read_whole .nil pass0 (pa_cons (pv 2) pa_nil)) (pa_cons pe_int pa_nil))))
      (pss_cons (ps_if (pt_cmpR op_eq (pv 3) pe_str (nomark _)) (pss_cons (ps_set (i := 5) sc_read_ratio.nd rfl (Or.inl rfl) (pe_tup (pa_cons (pe_ix (r := rIxT K) ix_tup (pv 5) pe_int (fun _ _ => rfl)) (pa_cons (pe_call (ok_read_whole T) (hr.mono (by decide)) (by rfl) T.g_read_whole T.F_read_whole.kp T.b_read_whole .nil pass0 (pa_cons (pv 4) pa_nil)) pa_nil))))
      (pss_one (ps_if (PW.pt (pw_or (pt_cmpR op_lt (pe_ix (r := rIxT K) ix_tup (pv 5) pe_int (fun _ _ => rfl)) pe_int (nomark _)) (pw_or1 (pt_cmpR (r := rNeD K) (op_neD hr.units) (pe_call (ok_ratio T) hr (by rfl) T.g_ratio T.F_ratio.kp T.b_ratio .nil pass0 (pa_cons (pe_ix (r := rIxT K) ix_tup (pv 5) pe_int (fun _ _ => rfl)) (pa_cons (pe_ix (r := rIxT K) ix_tup (pv 5) pe_int (fun _ _ => rfl)) pa_nil))) (pv 5) (nomark _))))) (pss_one ps_never) pss_nil))) pss_nil)
      (pss_cons (ps_if (pt_cmpR op_eq (pv 1) (pv 0) (nomark _)) (pss_one (ps_ret (pv 5))) pss_nil)
      (pss_cons (ps_if (pt_cmpR op_eq (pe_ix (r := rIxT K) ix_tup (pv 5) pe_int (fun _ _ => rfl)) pe_int (nomark _)) (pss_one ps_never) pss_nil)
      (pss_one (ps_ret (pe_tup (pa_cons (pe_un un_neg (pe_ix (r := rIxT K) ix_tup (pv 5) pe_int (fun _ _ => rfl))) (pa_cons (pe_ix (r := rIxT K) ix_tup (pv 5) pe_int (fun _ _ => rfl)) pa_nil)))))))))))), ?_⟩
    have L0 : Lo ⟨K, X, H, muts [.imm (.str a_text)], n_read_ratio.length⟩ X H (L2.start n_read_ratio vs) [.imm (.str a_text), .unk, .unk, .unk, .unk, .unk] := c.start n_read_ratio (show (1 : Nat) ≤ 6 by decide)
    unfold m_read_ratio at hm
    refine x_seq (x_asg (x_vS (x := a_text) L0 rfl (x_set (d := (.str a_text)) (Γ' := [.imm (.str a_text), .imm (.str a_text), .unk, .unk, .unk, .unk]) L0 (.str _) (show (1 : Nat) < 6 by decide) rfl fun _ L1 => ?_)))
    refine x_seq (x_ifS (x_tB (x_m1 (x_vS (x := a_text) L1 rfl (x_isS (x_c (x_starts (a := a_text) (b := ("-" : Str)) (x_kb (x_join (G := (fun (s1 : Str) => [.imm (.str a_text), .imm (.str s1), .unk, .unk, .unk, .unk])) L1 hm (fun _ hm1 _ hN1 => ?_) (fun _ hm1 _ hN1 => ?_) fun s1 X1 _ _ hm2 L2 => ?_)))))))))
    · refine x_asg (x_sl (x_vS (x := a_text) L1 rfl (x_part (x_c (x_partK (x_noP (x_slStr (z := a_text) hm1 fun hm3 => x_bset (x0 := (cutS a_text (some 1) none)) (d := fun rest_1 => (.str rest_1)) (Γf := fun rest_1 => [.imm (.str a_text), .imm (.str rest_1), .unk, .unk, .unk, .unk]) hm3 L1 (.str _) (show (1 : Nat) < 6 by decide) (fun _ => rfl) fun rest_1 _ hm4 L3 => ?_)))))))
      exact x_leaf (G := (fun (s1 : Str) => [.imm (.str a_text), .imm (.str s1), .unk, .unk, .unk, .unk])) (e := rest_1) hm4 hN1 (L3.weak (Γ' := [.imm (.str a_text), .imm (.str rest_1), .unk, .unk, .unk, .unk]) (.k (.k (.k (.k (.k (.k .e)))))))
    · refine x_next ?_
      exact x_leaf (G := (fun (s1 : Str) => [.imm (.str a_text), .imm (.str s1), .unk, .unk, .unk, .unk])) (e := a_text) hm1 hN1 (L1.weak (Γ' := [.imm (.str a_text), .imm (.str a_text), .unk, .unk, .unk, .unk]) (.k (.k (.k (.k (.k (.k .e)))))))
    refine x_seq (x_asg (x_m1 (x_vS (x := s1) L2 rfl (x_isS (x_c (x_partition (a := s1) (b := ("/" : Str)) L2 hm2 (by decide +kernel) fun v1 _ hm5 L4 le1 r1 => have r2 : Rep _ _ _ (enc ((partS s1 (("/" : Str))) : (T3 Str Str Str))) v1 := r1; x_gTup r2 rfl fun vs1 rs1 => x_gCons rs1 fun v2 _ r3 rs2 => x_set (d := (.str (((partS s1 (("/" : Str)))).a))) (Γ' := [.imm (.str a_text), .imm (.str s1), .imm (.str (((partS s1 (("/" : Str)))).a)), .unk, .unk, .unk]) L4 r3 (show (2 : Nat) < 6 by decide) rfl fun _ L5 => x_gCons rs2 fun v3 _ r4 rs3 => x_set (d := (.str (((partS s1 (("/" : Str)))).b))) (Γ' := [.imm (.str a_text), .imm (.str s1), .imm (.str (((partS s1 (("/" : Str)))).a)), .imm (.str (((partS s1 (("/" : Str)))).b)), .unk, .unk]) L5 r4 (show (3 : Nat) < 6 by decide) rfl fun _ L6 => x_gCons rs3 fun v4 _ r5 rs4 => x_set (d := (.str (((partS s1 (("/" : Str)))).c))) (Γ' := [.imm (.str a_text), .imm (.str s1), .imm (.str (((partS s1 (("/" : Str)))).a)), .imm (.str (((partS s1 (("/" : Str)))).b)), .imm (.str (((partS s1 (("/" : Str)))).c)), .unk]) L6 r5 (show (4 : Nat) < 6 by decide) rfl fun _ L7 => x_gNil rs4 (?_)))))))
    refine x_seq (x_asg (x_tup (x_cons (x_call (x_cons (x_vS (x := ((partS s1 (("/" : Str)))).a) L7 rfl (x_nil (obE hm5 fun z1 hz1 hm6 => mk_read_whole hz1 (L7.cond0 (.im (.str _) .nil) rfl) fun _ F1 => k0 L7 F1 fun L8 le2 => x_cons (x_c (x_nil (x_mkT L8 (.cons (.int _) (.cons (.int _) .nil)) (show (2 : Nat) ≤ 16777216 by decide) fun v6 _ L9 le3 r6 => have r7 : Rep _ _ _ (enc ((T2.mk z1 1) : (T2 Int Int))) v6 := r6; x_bset (x0 := (T2.mk z1 1)) (d := fun found_1 => (enc (found_1 : (T2 Int Int)))) (Γf := fun found_1 => [.imm (.str a_text), .imm (.str s1), .imm (.str (((partS s1 (("/" : Str)))).a)), .imm (.str (((partS s1 (("/" : Str)))).b)), .imm (.str (((partS s1 (("/" : Str)))).c)), .imm (enc (found_1 : (T2 Int Int)))]) hm6 L9 r7 (show (5 : Nat) < 6 by decide) (fun _ => rfl) fun found_1 _ hm7 L10 => ?_)))))))))))
    refine x_seq (x_ifS (x_test (x_op (x_vS (x := ((partS s1 (("/" : Str)))).b) L10 rfl (x_c (x_eqs (x_kb (x_if hm7 (fun hm8 => ?_) fun hm8 => ?_))))))))
    · refine x_seq (x_asg (x_tup (x_cons (x_op (x_vd (d := (enc (found_1 : (T2 Int Int)))) L10 rfl fun v7 r8 => x_c (x_ixTI (x := found_1.a) r8 rfl (x_cons (x_call (x_cons (x_vS (x := ((partS s1 (("/" : Str)))).c) L10 rfl (x_nil (obE hm8 fun z2 hz2 hm9 => mk_read_whole hz2 (L10.cond0 (.im (.str _) .nil) rfl) fun _ F2 => k0 L10 F2 fun L11 le4 => x_nil (x_mkT L11 (.cons (.int _) (.cons (.int _) .nil)) (show (2 : Nat) ≤ 16777216 by decide) fun v9 _ L12 le5 r9 => have r10 : Rep _ _ _ (enc ((T2.mk found_1.a z2) : (T2 Int Int))) v9 := r9; x_bset (x0 := (T2.mk found_1.a z2)) (d := fun found_2 => (enc (found_2 : (T2 Int Int)))) (Γf := fun found_2 => [.imm (.str a_text), .imm (.str s1), .imm (.str (((partS s1 (("/" : Str)))).a)), .imm (.str (((partS s1 (("/" : Str)))).b)), .imm (.str (((partS s1 (("/" : Str)))).c)), .imm (enc (found_2 : (T2 Int Int)))]) hm9 L12 r10 (show (5 : Nat) < 6 by decide) (fun _ => rfl) fun found_2 _ hm10 L13 => ?_)))))))))))))
      refine x_ifS (x_or (x_test (x_op (x_op (x_vd (d := (enc (found_2 : (T2 Int Int)))) L13 rfl fun v10 r11 => x_c (x_ixTI (x := found_2.b) r11 rfl (x_c (x_r0 (x_kb (x_orB L13 hm10 (fun _ hm12 _ hq => x_test (x_op (x_call (x_cons (x_op (x_vd (d := (enc (found_2 : (T2 Int Int)))) L13 rfl fun v15 r16 => x_c (x_ixTI (x := found_2.a) r16 rfl (x_cons (x_op (x_vd (d := (enc (found_2 : (T2 Int Int)))) L13 rfl fun v16 r17 => x_c (x_ixTI (x := found_2.b) r17 rfl (x_nil (obE hm12 fun z4 hz4 hm13 => mk_ratio hz4 (L13.cond0 (.im (.int _) (.im (.int _) .nil)) rfl) fun v17 _ F4 => k0d L13 F4 fun L15 le7 r18 => x_vd (d := (enc (found_2 : (T2 Int Int)))) L15 rfl fun v18 r19 => x_ned (x := z4) (y := found_2) r18.dp r19.dp (by decide) (x_kb (x_lfT hm13 hq L15))))))))))))))) fun b1 _ hm14 L16 => x_if hm14 (fun hm15 => ?_) fun hm15 => ?_))))))))))
      · exact (nomatch hm15)
      · refine x_next ?_
        refine x_seq (x_ifS (x_test (x_op (x_vS (x := s1) L16 rfl (x_vS (x := a_text) L16 rfl (x_eqs (x_kb (x_if hm15 (fun hm16 => ?_) fun hm16 => ?_))))))))
        · exact x_ret (x_vd (d := (enc (found_2 : (T2 Int Int)))) L16 rfl fun v19 r20 => x_fin (Q := Q) (ps := (fun (r : (T2 Int Int)) => [])) (rs := (fun (r : (T2 Int Int)) => (.imm (enc (r : (T2 Int Int)))))) (e := found_2) hm16 kont (L16.fin hp0 r20))
        · refine x_next ?_
          refine x_seq (x_ifS (x_test (x_op (x_op (x_vd (d := (enc (found_2 : (T2 Int Int)))) L16 rfl fun v20 r21 => x_c (x_ixTI (x := found_2.a) r21 rfl (x_c (x_eqi (x_kb (x_if hm16 (fun hm17 => ?_) fun hm17 => ?_))))))))))
          · exact (nomatch hm17)
          · refine x_next ?_
            exact x_ret (x_tup (x_cons (x_un (x_op (x_vd (d := (enc (found_2 : (T2 Int Int)))) L16 rfl fun v21 r22 => x_c (x_ixTI (x := found_2.a) r22 rfl (x_u (x_cons (x_op (x_vd (d := (enc (found_2 : (T2 Int Int)))) L16 rfl fun v22 r23 => x_c (x_ixTI (x := found_2.b) r23 rfl (x_nil (x_mkT L16 (.cons (.int _) (.cons (.int _) .nil)) (show (2 : Nat) ≤ 16777216 by decide) fun v23 _ L17 le8 r24 => have r25 : Rep _ _ _ (enc ((T2.mk ((-found_2.a)) found_2.b) : (T2 Int Int))) v23 := r24; x_fin (Q := Q) (ps := (fun (r : (T2 Int Int)) => [])) (rs := (fun (r : (T2 Int Int)) => (.imm (enc (r : (T2 Int Int)))))) (e := (T2.mk ((-found_2.a)) found_2.b)) hm17 kont (L17.fin hp0 r25))))))))))))))
    · refine x_next ?_
      refine x_seq (x_ifS (x_test (x_op (x_vS (x := s1) L10 rfl (x_vS (x := a_text) L10 rfl (x_eqs (x_kb (x_if hm8 (fun hm18 => ?_) fun hm18 => ?_))))))))
      · exact x_ret (x_vd (d := (enc (found_1 : (T2 Int Int)))) L10 rfl fun v24 r26 => x_fin (Q := Q) (ps := (fun (r : (T2 Int Int)) => [])) (rs := (fun (r : (T2 Int Int)) => (.imm (enc (r : (T2 Int Int)))))) (e := found_1) hm18 kont (L10.fin hp0 r26))
      · refine x_next ?_
        refine x_seq (x_ifS (x_test (x_op (x_op (x_vd (d := (enc (found_1 : (T2 Int Int)))) L10 rfl fun v25 r27 => x_c (x_ixTI (x := found_1.a) r27 rfl (x_c (x_eqi (x_kb (x_if hm18 (fun hm19 => ?_) fun hm19 => ?_))))))))))
        · exact (nomatch hm19)
        · refine x_next ?_
          exact x_ret (x_tup (x_cons (x_un (x_op (x_vd (d := (enc (found_1 : (T2 Int Int)))) L10 rfl fun v26 r28 => x_c (x_ixTI (x := found_1.a) r28 rfl (x_u (x_cons (x_op (x_vd (d := (enc (found_1 : (T2 Int Int)))) L10 rfl fun v27 r29 => x_c (x_ixTI (x := found_1.b) r29 rfl (x_nil (x_mkT L10 (.cons (.int _) (.cons (.int _) .nil)) (show (2 : Nat) ≤ 16777216 by decide) fun v28 _ L18 le9 r30 => have r31 : Rep _ _ _ (enc ((T2.mk ((-found_1.a)) found_1.b) : (T2 Int Int))) v28 := r30; x_fin (Q := Q) (ps := (fun (r : (T2 Int Int)) => [])) (rs := (fun (r : (T2 Int Int)) => (.imm (enc (r : (T2 Int Int)))))) (e := (T2.mk ((-found_1.a)) found_1.b)) hm19 kont (L18.fin hp0 r31))))))))))))))
abbrev sp_point (K : PySem.W.Frag) : Sp := fun vs H Q _ => ∃ (X : Addr → Prop)  (a_a : Int) (a_b : Int) (a_n : Int) (r : (T3 Int Int Int)), m_point a_a a_b a_n = some r ∧ Cond K X H [.imm (.int a_a), .imm (.int a_b), .imm (.int a_n)] vs ∧ ∀ v H', Fin K X H [] [] (.imm (enc (r : (T3 Int Int Int)))) v H' → Q v H'
theorem mk_point {K : PySem.W.Frag} {X : Addr → Prop} {H : Hp} {vs : List V} {Q : VK} {E : XK}  {a_a : Int} {a_b : Int} {a_n : Int} {r : (T3 Int Int Int)} (hm : m_point a_a a_b a_n = some r) (c : Cond K X H [.imm (.int a_a), .imm (.int a_b), .imm (.int a_n)] vs) (k : ∀ v H', Fin K X H [] [] (.imm (enc (r : (T3 Int Int Int)))) v H' → Q v H') : sp_point K vs H Q E := ⟨X, a_a, a_b, a_n, r, hm, c, k⟩
abbrev n_point : List Str := ["a", "b", "n", "divisor"]
theorem sc_point : FnScope n_point ["a", "b", "n"] (defScope s_point) := ⟨rfl, rfl, rfl, by decide +kernel, rfl, by decide +kernel, by decide +kernel⟩
theorem ok_point (T : Txt K mg) : FnOk P w K mg base CX0 2 T.A_point T.D_point ["a", "b", "n"] (sp_point K) := by
  refine Fun.ok T.F_point sc_point (fun vs H Q E h => ?_) (fun cdv A outer s H vs Q E hr h => ?_)
  · obtain ⟨X, a_a, a_b, a_n, r, hm, c, kont⟩ := h
    exact c.len
  · obtain ⟨X, a_a, a_b, a_n, r, hm, c, kont⟩ := h
    refine ⟨_, (pss_cons (ps_if (pt_cmpR op_eq (pv 2) pe_int (nomark _)) (pss_one ps_never) pss_nil)
      (pss_cons (ps_set (i := 3) sc_point.nd rfl (Or.inl rfl) (pe_call (ok_greatest_divisor T) hr (by rfl) T.g_greatest_divisor T.F_greatest_divisor.kp T.b_greatest_divisor .nil pass0 (pa_cons (pe_call (ok_greatest_divisor T) hr (by rfl) T.g_greatest_divisor T.F_greatest_divisor.kp T.b_greatest_divisor .nil pass0 (pa_cons (pv 0) (pa_cons (pv 2) pa_nil))) (pa_cons (pv 1) pa_nil))))
      (pss_cons (ps_if (pt_cmpR op_lt (pv 2) pe_int (nomark _)) (pss_one (ps_set (i := 3) sc_point.nd rfl (Or.inl rfl) (pe_un un_neg (pv 3)))) pss_nil)
      (pss_one (ps_ret (pe_tup (pa_cons (pe_op op_divG (pv 0) (pv 3)) (pa_cons (pe_op op_divG (pv 1) (pv 3)) (pa_cons (pe_op op_divG (pv 2) (pv 3)) pa_nil))))))))), ?_⟩
    have L0 : Lo ⟨K, X, H, muts [.imm (.int a_a), .imm (.int a_b), .imm (.int a_n)], n_point.length⟩ X H (L2.start n_point vs) [.imm (.int a_a), .imm (.int a_b), .imm (.int a_n), .unk] := c.start n_point (show (3 : Nat) ≤ 4 by decide)
    unfold m_point at hm
    refine x_seq (x_ifS (x_test (x_op (x_vI (x := a_n) L0 rfl (x_c (x_eqi (x_kb (x_if hm (fun hm1 => ?_) fun hm1 => ?_))))))))
    · exact (nomatch hm1)
    · refine x_next ?_
      refine x_seq (x_asg (x_call (x_cons (x_call (x_cons (x_vI (x := a_a) L0 rfl (x_cons (x_vI (x := a_n) L0 rfl (x_nil (obE hm1 fun z1 hz1 hm2 => mk_greatest_divisor hz1 (L0.cond0 (.im (.int _) (.im (.int _) .nil)) rfl) fun _ F1 => k0 L0 F1 fun L1 le1 => x_cons (x_vI (x := a_b) L1 rfl (x_nil (obE hm2 fun z2 hz2 hm3 => mk_greatest_divisor hz2 (L1.cond0 (.im (.int _) (.im (.int _) .nil)) rfl) fun _ F2 => k0 L1 F2 fun L2 le2 => x_set (d := (.int z2)) (Γ' := [.imm (.int a_a), .imm (.int a_b), .imm (.int a_n), .imm (.int z2)]) L2 (.int _) (show (3 : Nat) < 4 by decide) rfl fun _ L3 => ?_)))))))))))))
      refine x_seq (x_ifS (x_test (x_op (x_vI (x := a_n) L3 rfl (x_c (x_r0 (x_kb (x_join (G := (fun (s1 : Int) => [.imm (.int a_a), .imm (.int a_b), .imm (.int a_n), .imm (.int s1)])) L3 hm3 (fun _ hm4 _ hN1 => ?_) (fun _ hm4 _ hN1 => ?_) fun s1 X1 _ _ hm5 L4 => ?_))))))))
      · refine x_asg (x_un (x_vI (x := z2) L3 rfl (x_u (x_bset (x0 := (-z2)) (d := fun divisor_1 => (.int divisor_1)) (Γf := fun divisor_1 => [.imm (.int a_a), .imm (.int a_b), .imm (.int a_n), .imm (.int divisor_1)]) hm4 L3 (.int _) (show (3 : Nat) < 4 by decide) (fun _ => rfl) fun divisor_1 _ hm6 L5 => ?_))))
        exact x_leaf (G := (fun (s1 : Int) => [.imm (.int a_a), .imm (.int a_b), .imm (.int a_n), .imm (.int s1)])) (e := divisor_1) hm6 hN1 (L5.weak (Γ' := [.imm (.int a_a), .imm (.int a_b), .imm (.int a_n), .imm (.int divisor_1)]) (.k (.k (.k (.k .e)))))
      · refine x_next ?_
        exact x_leaf (G := (fun (s1 : Int) => [.imm (.int a_a), .imm (.int a_b), .imm (.int a_n), .imm (.int s1)])) (e := z2) hm4 hN1 (L3.weak (Γ' := [.imm (.int a_a), .imm (.int a_b), .imm (.int a_n), .imm (.int z2)]) (.k (.k (.k (.k .e)))))
      exact x_ret (x_tup (x_cons (x_op (x_vI (x := a_a) L4 rfl (x_vI (x := s1) L4 rfl (x_div hm5 fun z3 _ hm7 => x_cons (x_op (x_vI (x := a_b) L4 rfl (x_vI (x := s1) L4 rfl (x_div hm7 fun z4 _ hm8 => x_cons (x_op (x_vI (x := a_n) L4 rfl (x_vI (x := s1) L4 rfl (x_div hm8 fun z5 _ hm9 => x_nil (x_mkT L4 (.cons (.int _) (.cons (.int _) (.cons (.int _) .nil))) (show (3 : Nat) ≤ 16777216 by decide) fun v3 _ L6 le3 r1 => have r2 : Rep _ _ _ (enc ((T3.mk z3 z4 z5) : (T3 Int Int Int))) v3 := r1; x_fin (Q := Q) (ps := (fun (r : (T3 Int Int Int)) => [])) (rs := (fun (r : (T3 Int Int Int)) => (.imm (enc (r : (T3 Int Int Int)))))) (e := (T3.mk z3 z4 z5)) hm9 kont (L6.fin hp0 r2))))))))))))))))
abbrev sp_at (K : PySem.W.Frag) : Sp := fun vs H Q _ => ∃ (X : Addr → Prop)  (a_x : (T2 Int Int)) (a_y : (T2 Int Int)) (r : (T3 Int Int Int)), m_at a_x a_y = some r ∧ Cond K X H [.imm (enc (a_x : (T2 Int Int))), .imm (enc (a_y : (T2 Int Int)))] vs ∧ ∀ v H', Fin K X H [] [] (.imm (enc (r : (T3 Int Int Int)))) v H' → Q v H'
theorem mk_at {K : PySem.W.Frag} {X : Addr → Prop} {H : Hp} {vs : List V} {Q : VK} {E : XK}  {a_x : (T2 Int Int)} {a_y : (T2 Int Int)} {r : (T3 Int Int Int)} (hm : m_at a_x a_y = some r) (c : Cond K X H [.imm (enc (a_x : (T2 Int Int))), .imm (enc (a_y : (T2 Int Int)))] vs) (k : ∀ v H', Fin K X H [] [] (.imm (enc (r : (T3 Int Int Int)))) v H' → Q v H') : sp_at K vs H Q E := ⟨X, a_x, a_y, r, hm, c, k⟩
abbrev n_at : List Str := ["x", "y"]
theorem sc_at : FnScope n_at ["x", "y"] (defScope s_at) := ⟨rfl, rfl, rfl, by decide +kernel, rfl, by decide +kernel, by decide +kernel⟩
theorem ok_at (T : Txt K mg) : FnOk P w K mg base CX0 3 T.A_at T.D_at ["x", "y"] (sp_at K) := by
  refine Fun.ok T.F_at sc_at (fun vs H Q E h => ?_) (fun cdv A outer s H vs Q E hr h => ?_)
  · obtain ⟨X, a_x, a_y, r, hm, c, kont⟩ := h
    exact c.len
  · obtain ⟨X, a_x, a_y, r, hm, c, kont⟩ := h
    refine ⟨_, (pss_one (ps_ret (pe_call (ok_point T) hr (by rfl) T.g_point T.F_point.kp T.b_point .nil pass0 (pa_cons (pe_op op_mulW (pe_ix (r := rIxT K) ix_tup (pv 0) pe_int (fun _ _ => rfl)) (pe_ix (r := rIxT K) ix_tup (pv 1) pe_int (fun _ _ => rfl))) (pa_cons (pe_op op_mulW (pe_ix (r := rIxT K) ix_tup (pv 1) pe_int (fun _ _ => rfl)) (pe_ix (r := rIxT K) ix_tup (pv 0) pe_int (fun _ _ => rfl))) (pa_cons (pe_op op_mulW (pe_ix (r := rIxT K) ix_tup (pv 0) pe_int (fun _ _ => rfl)) (pe_ix (r := rIxT K) ix_tup (pv 1) pe_int (fun _ _ => rfl))) pa_nil)))))), ?_⟩
    have L0 : Lo ⟨K, X, H, muts [.imm (enc (a_x : (T2 Int Int))), .imm (enc (a_y : (T2 Int Int)))], n_at.length⟩ X H (L2.start n_at vs) [.imm (enc (a_x : (T2 Int Int))), .imm (enc (a_y : (T2 Int Int)))] := c.start n_at (show (2 : Nat) ≤ 2 by decide)
    unfold m_at at hm
    exact x_ret (x_call (x_cons (x_op (x_op (x_vd (d := (enc (a_x : (T2 Int Int)))) L0 rfl fun v1 r1 => x_c (x_ixTI (x := a_x.a) r1 rfl (x_op (x_vd (d := (enc (a_y : (T2 Int Int)))) L0 rfl fun v2 r2 => x_c (x_ixTI (x := a_y.b) r2 rfl (x_mul hm fun z1 _ hm1 => x_cons (x_op (x_op (x_vd (d := (enc (a_y : (T2 Int Int)))) L0 rfl fun v3 r3 => x_c (x_ixTI (x := a_y.a) r3 rfl (x_op (x_vd (d := (enc (a_x : (T2 Int Int)))) L0 rfl fun v4 r4 => x_c (x_ixTI (x := a_x.b) r4 rfl (x_mul hm1 fun z2 _ hm2 => x_cons (x_op (x_op (x_vd (d := (enc (a_x : (T2 Int Int)))) L0 rfl fun v5 r5 => x_c (x_ixTI (x := a_x.b) r5 rfl (x_op (x_vd (d := (enc (a_y : (T2 Int Int)))) L0 rfl fun v6 r6 => x_c (x_ixTI (x := a_y.b) r6 rfl (x_mul hm2 fun z3 _ hm3 => x_nil (obE hm3 fun z4 hz1 hm4 => mk_point hz1 (L0.cond0 (.im (.int _) (.im (.int _) (.im (.int _) .nil))) rfl) fun v7 _ F1 => k0d L0 F1 fun L1 le1 r7 => x_fin (Q := Q) (ps := (fun (r : (T3 Int Int Int)) => [])) (rs := (fun (r : (T3 Int Int Int)) => (.imm (enc (r : (T3 Int Int Int)))))) (e := z4) hm4 kont (L1.fin hp0 r7))))))))))))))))))))))))))))
abbrev sp_read_point (K : PySem.W.Frag) : Sp := fun vs H Q _ => ∃ (X : Addr → Prop)  (a_text : Str) (r : (T3 Int Int Int)), m_read_point a_text = some r ∧ Cond K X H [.imm (.str a_text)] vs ∧ ∀ v H', Fin K X H [] [] (.imm (enc (r : (T3 Int Int Int)))) v H' → Q v H'
theorem mk_read_point {K : PySem.W.Frag} {X : Addr → Prop} {H : Hp} {vs : List V} {Q : VK} {E : XK}  {a_text : Str} {r : (T3 Int Int Int)} (hm : m_read_point a_text = some r) (c : Cond K X H [.imm (.str a_text)] vs) (k : ∀ v H', Fin K X H [] [] (.imm (enc (r : (T3 Int Int Int)))) v H' → Q v H') : sp_read_point K vs H Q E := ⟨X, a_text, r, hm, c, k⟩
abbrev n_read_point : List Str := ["text", "x", "comma", "y"]
theorem sc_read_point : FnScope n_read_point ["text"] (defScope s_read_point) := ⟨rfl, rfl, rfl, by decide +kernel, rfl, by decide +kernel, by decide +kernel⟩
theorem ok_read_point (T : Txt K mg) : FnOk P w K mg base CX0 4 T.A_read_point T.D_read_point ["text"] (sp_read_point K) := by
  refine Fun.ok T.F_read_point sc_read_point (fun vs H Q E h => ?_) (fun cdv A outer s H vs Q E hr h => ?_)
  · obtain ⟨X, a_text, r, hm, c, kont⟩ := h
    exact c.len
  · obtain ⟨X, a_text, r, hm, c, kont⟩ := h
    refine ⟨_, (pss_cons (ps_asg (pe_m1 PySem.F.slot_str_partition PySem.F.type_str_partition mt_part (pv 0) pe_str) (pg_tup rfl (pgs_cons (pg_name (i := 1) sc_read_point.nd rfl (Or.inl rfl)) (pgs_cons (pg_name (i := 2) sc_read_point.nd rfl (Or.inl rfl)) (pgs_cons (pg_name (i := 3) sc_read_point.nd rfl (Or.inl rfl)) pgs_nil)))))
      (pss_cons (ps_if (pt_cmpR op_ne (pv 2) pe_str (nomark _)) (pss_one ps_never) pss_nil)
      (pss_one (ps_ret (pe_call (ok_at T) hr (by rfl) T.g_at T.F_at.kp T.b_at .nil pass0 (pa_cons (pe_call (ok_read_ratio T) hr (by rfl) T.g_read_ratio T.F_read_ratio.kp T.b_read_ratio .nil pass0 (pa_cons (pv 1) pa_nil)) (pa_cons (pe_call (ok_read_ratio T) hr (by rfl) T.g_read_ratio T.F_read_ratio.kp T.b_read_ratio .nil pass0 (pa_cons (pv 3) pa_nil)) pa_nil))))))), ?_⟩
    have L0 : Lo ⟨K, X, H, muts [.imm (.str a_text)], n_read_point.length⟩ X H (L2.start n_read_point vs) [.imm (.str a_text), .unk, .unk, .unk] := c.start n_read_point (show (1 : Nat) ≤ 4 by decide)
    unfold m_read_point at hm
    refine x_seq (x_asg (x_m1 (x_vS (x := a_text) L0 rfl (x_isS (x_c (x_partition (a := a_text) (b := ("," : Str)) L0 hm (by decide +kernel) fun v1 _ hm1 L1 le1 r1 => have r2 : Rep _ _ _ (enc ((partS a_text (("," : Str))) : (T3 Str Str Str))) v1 := r1; x_gTup r2 rfl fun vs1 rs1 => x_gCons rs1 fun v2 _ r3 rs2 => x_set (d := (.str (((partS a_text (("," : Str)))).a))) (Γ' := [.imm (.str a_text), .imm (.str (((partS a_text (("," : Str)))).a)), .unk, .unk]) L1 r3 (show (1 : Nat) < 4 by decide) rfl fun _ L2 => x_gCons rs2 fun v3 _ r4 rs3 => x_set (d := (.str (((partS a_text (("," : Str)))).b))) (Γ' := [.imm (.str a_text), .imm (.str (((partS a_text (("," : Str)))).a)), .imm (.str (((partS a_text (("," : Str)))).b)), .unk]) L2 r4 (show (2 : Nat) < 4 by decide) rfl fun _ L3 => x_gCons rs3 fun v4 _ r5 rs4 => x_set (d := (.str (((partS a_text (("," : Str)))).c))) (Γ' := [.imm (.str a_text), .imm (.str (((partS a_text (("," : Str)))).a)), .imm (.str (((partS a_text (("," : Str)))).b)), .imm (.str (((partS a_text (("," : Str)))).c))]) L3 r5 (show (3 : Nat) < 4 by decide) rfl fun _ L4 => x_gNil rs4 (?_)))))))
    refine x_seq (x_ifS (x_test (x_op (x_vS (x := ((partS a_text (("," : Str)))).b) L4 rfl (x_c (x_nes (x_kb (x_if hm1 (fun hm2 => ?_) fun hm2 => ?_))))))))
    · exact (nomatch hm2)
    · refine x_next ?_
      exact x_ret (x_call (x_cons (x_call (x_cons (x_vS (x := ((partS a_text (("," : Str)))).a) L4 rfl (x_nil (obE hm2 fun z1 hz1 hm3 => mk_read_ratio hz1 (L4.cond0 (.im (.str _) .nil) rfl) fun v5 _ F1 => k0d L4 F1 fun L5 le2 r6 => x_cons (x_call (x_cons (x_vS (x := ((partS a_text (("," : Str)))).c) L5 rfl (x_nil (obE hm3 fun z2 hz2 hm4 => mk_read_ratio hz2 (L5.cond0 (.im (.str _) .nil) rfl) fun v6 _ F2 => k0d L5 F2 fun L6 le3 r7 => have r8 := le3 _ _ r6; x_nil (obE hm4 fun z3 hz3 hm5 => mk_at hz3 (L6.cond0 (.im r8 (.im r7 .nil)) rfl) fun v7 _ F3 => k0d L6 F3 fun L7 le4 r9 => x_fin (Q := Q) (ps := (fun (r : (T3 Int Int Int)) => [])) (rs := (fun (r : (T3 Int Int Int)) => (.imm (enc (r : (T3 Int Int Int)))))) (e := z3) hm5 kont (L7.fin hp0 r9))))))))))))))
abbrev sp__law_whole (K : PySem.W.Frag) : Sp := fun vs H Q _ => ∃ (X : Addr → Prop)  (a__law_found : Int) (r : Bool), m__law_whole a__law_found = some r ∧ Cond K X H [.imm (.int a__law_found)] vs ∧ ∀ H', Fin K X H [] [] (.imm (.bool r)) (.bl r) H' → Q (.bl r) H'
theorem mk__law_whole {K : PySem.W.Frag} {X : Addr → Prop} {H : Hp} {vs : List V} {Q : VK} {E : XK}  {a__law_found : Int} {r : Bool} (hm : m__law_whole a__law_found = some r) (c : Cond K X H [.imm (.int a__law_found)] vs) (k : ∀ H', Fin K X H [] [] (.imm (.bool r)) (.bl r) H' → Q (.bl r) H') : sp__law_whole K vs H Q E := ⟨X, a__law_found, r, hm, c, k⟩
abbrev n__law_whole : List Str := ["_law_found"]
theorem sc__law_whole : FnScope n__law_whole ["_law_found"] (defScope s__law_whole) := ⟨rfl, rfl, rfl, by decide +kernel, rfl, by decide +kernel, by decide +kernel⟩
theorem ok__law_whole (T : Txt K mg) : FnOk P w K mg base CX0 1 T.A__law_whole T.D__law_whole ["_law_found"] (sp__law_whole K) := by
  refine Fun.ok T.F__law_whole sc__law_whole (fun vs H Q E h => ?_) (fun cdv A outer s H vs Q E hr h => ?_)
  · obtain ⟨X, a__law_found, r, hm, c, kont⟩ := h
    exact c.len
  · obtain ⟨X, a__law_found, r, hm, c, kont⟩ := h
    refine ⟨_, (pss_one (ps_ret (pe_and (pe_callB (r := rIsi K) call_isi (by rfl) T.z_isinstance (by decide +kernel) (pa_cons (pv 0) (pa_cons (pe_bltn (v := .ty "int") (u := .type "int") (by rfl) T.z_int (by decide +kernel) rfl) pa_nil))) (pe_one (pe_not (pe_callB (r := rIsi K) call_isi (by rfl) T.z_isinstance (by decide +kernel) (pa_cons (pv 0) (pa_cons (pe_bltn (v := .ty "bool") (u := .type "bool") (by rfl) T.z_bool (by decide +kernel) rfl) pa_nil)))))))), ?_⟩
    have L0 : Lo ⟨K, X, H, muts [.imm (.int a__law_found)], n__law_whole.length⟩ X H (L2.start n__law_whole vs) [.imm (.int a__law_found)] := c.start n__law_whole (show (1 : Nat) ≤ 1 by decide)
    unfold m__law_whole at hm
    exact x_ret (x_andV (x_cb (x_cons (x_vI (x := a__law_found) L0 rfl (x_cons (x_c (x_nil (x_isiI (x := a__law_found) (T := "int") (b := true) (show kitB "int" "int" = some true by decide +kernel) (x_kb (x_andVP (B := (!false)) (fun _ hq => x_notV (x_cb (x_cons (x_vI (x := a__law_found) L0 rfl (x_cons (x_c (x_nil (x_isiI (x := a__law_found) (T := "bool") (b := false) (show kitB "int" "bool" = some false by decide +kernel) (x_kb (x_knV (hq))))))))))) (x_finB (Q := Q) (ps := (fun (r : Bool) => [])) (sc := fun (r : Bool) => r) ((true && (!false))) hm kont (L0.fin hp0 (.bl _)))))))))))))
abbrev sp__law_same (K : PySem.W.Frag) : Sp := fun vs H Q _ => ∃ (X : Addr → Prop)  (a__law_found : (T3 Int Int Int)) (a__law_due : (T3 Int Int Int)) (r : Bool), m__law_same a__law_found a__law_due = some r ∧ Cond K X H [.imm (enc (a__law_found : (T3 Int Int Int))), .imm (enc (a__law_due : (T3 Int Int Int)))] vs ∧ ∀ H', Fin K X H [] [] (.imm (.bool r)) (.bl r) H' → Q (.bl r) H'
theorem mk__law_same {K : PySem.W.Frag} {X : Addr → Prop} {H : Hp} {vs : List V} {Q : VK} {E : XK}  {a__law_found : (T3 Int Int Int)} {a__law_due : (T3 Int Int Int)} {r : Bool} (hm : m__law_same a__law_found a__law_due = some r) (c : Cond K X H [.imm (enc (a__law_found : (T3 Int Int Int))), .imm (enc (a__law_due : (T3 Int Int Int)))] vs) (k : ∀ H', Fin K X H [] [] (.imm (.bool r)) (.bl r) H' → Q (.bl r) H') : sp__law_same K vs H Q E := ⟨X, a__law_found, a__law_due, r, hm, c, k⟩
abbrev n__law_same : List Str := ["_law_found", "_law_due", "_law_number"]
theorem sc__law_same : FnScope n__law_same ["_law_found", "_law_due"] (defScope s__law_same) := ⟨rfl, rfl, rfl, by decide +kernel, rfl, by decide +kernel, by decide +kernel⟩
theorem ok__law_same (T : Txt K mg) : FnOk P w K mg base CX0 2 T.A__law_same T.D__law_same ["_law_found", "_law_due"] (sp__law_same K) := by
  refine Fun.ok T.F__law_same sc__law_same (fun vs H Q E h => ?_) (fun cdv A outer s H vs Q E hr h => ?_)
  · obtain ⟨X, a__law_found, a__law_due, r, hm, c, kont⟩ := h
    exact c.len
  · obtain ⟨X, a__law_found, a__law_due, r, hm, c, kont⟩ := h
    refine ⟨_, (pss_cons (ps_if (PW.pt (pw_or (pt_not (pt_val (pe_callB (r := rIsi K) call_isi (by rfl) T.z_isinstance (by decide +kernel) (pa_cons (pv 0) (pa_cons (pe_bltn (v := .ty "tuple") (u := .type "tuple") (by rfl) T.z_tuple (by decide +kernel) rfl) pa_nil))))) (pw_or1 (pt_cmpR op_ne (pe_callB (r := rLenX K) call_lenX (by rfl) T.z_len (by decide +kernel) (pa_cons (pv 0) pa_nil)) (pe_callB (r := rLenX K) call_lenX (by rfl) T.z_len (by decide +kernel) (pa_cons (pv 1) pa_nil)) (nomark _))))) (pss_one (ps_ret pe_bl)) pss_nil)
      (pss_one (ps_ret (pe_and (pe_callB (r := rAll K) (cr_all rfl) (by rfl) T.z_all (by decide +kernel) (pa_cons (pe_lc (own := [("_law_number", 2)]) (g := gName 2) (tt := tYes) rfl sc__law_same.nd (pi_tup (pv 0)) (blkOk_by (N := n__law_same) (sc := defScope s__law_same) (by decide +kernel)) (fun _ _ _ _ _ => (pg_name (i := 2) sc__law_same.nd rfl (Or.inl rfl))) (fun _ _ _ _ _ => pts_nil) (fun _ _ _ _ _ => (pe_call (ok__law_whole T) hr (by rfl) T.g__law_whole T.F__law_whole.kp T.b__law_whole .nil pass0 (pa_cons (pv 2) pa_nil)))) pa_nil)) (pe_one (pe_cmpR (r := rEqD K) (op_eqD hr.units) (pv 0) (pv 1) (nomark _))))))), ?_⟩
    have L0 : Lo ⟨K, X, H, muts [.imm (enc (a__law_found : (T3 Int Int Int))), .imm (enc (a__law_due : (T3 Int Int Int)))], n__law_same.length⟩ X H (L2.start n__law_same vs) [.imm (enc (a__law_found : (T3 Int Int Int))), .imm (enc (a__law_due : (T3 Int Int Int))), .unk] := c.start n__law_same (show (2 : Nat) ≤ 3 by decide)
    unfold m__law_same at hm
    refine x_seq (x_ifS (x_or (x_not (x_tB (x_cb (x_cons (x_vd (d := (enc (a__law_found : (T3 Int Int Int)))) L0 rfl fun v1 r1 => x_cons (x_c (x_nil (x_isi (T := "tuple") (b := true) r1 (show kitB "tuple" "tuple" = some true by decide +kernel) (x_kb (x_kn (x_orP (B := (!decide (3 = 3))) (fun _ hq => x_test (x_op (x_cb (x_cons (x_vd (d := (enc (a__law_found : (T3 Int Int Int)))) L0 rfl fun v2 r2 => x_nil (x_lenT (n := 3) r2 rfl (x_cb (x_cons (x_vd (d := (enc (a__law_due : (T3 Int Int Int)))) L0 rfl fun v3 r3 => x_nil (x_lenT (n := 3) r3 rfl (x_nei (x_kb (hq))))))))))))) (x_if hm (fun hm1 => ?_) fun hm1 => ?_))))))))))))))
    · exact x_ret (x_c (x_finB (Q := Q) (ps := (fun (r : Bool) => [])) (sc := fun (r : Bool) => r) false hm1 kont (L0.fin hp0 (.bl _))))
    · refine x_next ?_
      exact x_ret (x_andV (x_cb (x_cons (x_lct (x_vd (d := (enc (a__law_found : (T3 Int Int Int)))) L0 rfl fun v4 r4 => obE hm1 fun ys1 hy1 hm2 => x_lcT (G := (fun (s1 : Unit) => [.imm (enc (a__law_found : (T3 Int Int Int))), .imm (enc (a__law_due : (T3 Int Int Int))), .unk])) (s0 := ()) (xs := [a__law_found.a, a__law_found.b, a__law_found.c]) L0 (fun _ _ => rfl) r4 (mapO_comp hy1) (show (3 : Nat) ≤ 16777216 by decide) (fun x1 s1 _ H1 _ u1 _ _ _ hF1 L1 r5 hn1 hy2 => obE hF1 fun y1 hm3 he1 => x_cName (d := (.int x1)) (Γ' := [.imm (enc (a__law_found : (T3 Int Int Int))), .imm (enc (a__law_due : (T3 Int Int Int))), .imm (.int x1)]) L1 r5 (show (2 : Nat) < 3 by decide) rfl fun _ L2 => x_yes (x_call (x_cons (x_vI (x := x1) L2 rfl (x_nil (obE hm3 fun z1 hz2 hm4 => mk__law_whole hz2 (L2.cond0 (.im (.int _) .nil) rfl) fun _ F1 => k0 L2 F1 fun L3 le1 => x_cy (G := (fun (s1 : Unit) => [.imm (enc (a__law_found : (T3 Int Int Int))), .imm (enc (a__law_due : (T3 Int Int Int))), .unk])) (s := s1) (s' := ()) (y := z1) (by cases hm4; cases he1; rfl) hy2 L1 L3 (.i rfl (.i rfl (.i rfl .e))) (.bl _))))))) fun p1 _ L4 le2 r6 => have L5 : Lo _ _ _ _ [.imm (enc (a__law_found : (T3 Int Int Int))), .imm (enc (a__law_due : (T3 Int Int Int))), .unk] := L4; have r7 : Rep _ _ _ (enc (ys1 : (List Bool))) (.ref p1) := r6; x_nil (x_all (bs := ys1) r7 (x_kb (x_andVP (B := (decide (a__law_found = a__law_due))) (fun _ hq => x_op (x_vd (d := (enc (a__law_found : (T3 Int Int Int)))) L5 rfl fun v6 r8 => x_vd (d := (enc (a__law_due : (T3 Int Int Int)))) L5 rfl fun v7 r9 => x_eqd (x := a__law_found) (y := a__law_due) r8.dp r9.dp (by decide) (hq))) (x_finB (Q := Q) (ps := (fun (r : Bool) => [])) (sc := fun (r : Bool) => r) (((ys1.all id) && (decide (a__law_found = a__law_due)))) hm2 kont (L5.fin hp0 (.bl _)))))))))))
abbrev sp_x_of (K : PySem.W.Frag) : Sp := fun vs H Q _ => ∃ (X : Addr → Prop)  (a_p : (T3 Int Int Int)) (r : (T2 Int Int)), m_x_of a_p = some r ∧ Cond K X H [.imm (enc (a_p : (T3 Int Int Int)))] vs ∧ ∀ v H', Fin K X H [] [] (.imm (enc (r : (T2 Int Int)))) v H' → Q v H'
theorem mk_x_of {K : PySem.W.Frag} {X : Addr → Prop} {H : Hp} {vs : List V} {Q : VK} {E : XK}  {a_p : (T3 Int Int Int)} {r : (T2 Int Int)} (hm : m_x_of a_p = some r) (c : Cond K X H [.imm (enc (a_p : (T3 Int Int Int)))] vs) (k : ∀ v H', Fin K X H [] [] (.imm (enc (r : (T2 Int Int)))) v H' → Q v H') : sp_x_of K vs H Q E := ⟨X, a_p, r, hm, c, k⟩
abbrev n_x_of : List Str := ["p"]
theorem sc_x_of : FnScope n_x_of ["p"] (defScope s_x_of) := ⟨rfl, rfl, rfl, by decide +kernel, rfl, by decide +kernel, by decide +kernel⟩
theorem ok_x_of (T : Txt K mg) : FnOk P w K mg base CX0 3 T.A_x_of T.D_x_of ["p"] (sp_x_of K) := by
  refine Fun.ok T.F_x_of sc_x_of (fun vs H Q E h => ?_) (fun cdv A outer s H vs Q E hr h => ?_)
  · obtain ⟨X, a_p, r, hm, c, kont⟩ := h
    exact c.len
  · obtain ⟨X, a_p, r, hm, c, kont⟩ := h
    refine ⟨_, (pss_one (ps_ret (pe_call (ok_ratio T) hr (by rfl) T.g_ratio T.F_ratio.kp T.b_ratio .nil pass0 (pa_cons (pe_ix (r := rIxT K) ix_tup (pv 0) pe_int (fun _ _ => rfl)) (pa_cons (pe_ix (r := rIxT K) ix_tup (pv 0) pe_int (fun _ _ => rfl)) pa_nil))))), ?_⟩
    have L0 : Lo ⟨K, X, H, muts [.imm (enc (a_p : (T3 Int Int Int)))], n_x_of.length⟩ X H (L2.start n_x_of vs) [.imm (enc (a_p : (T3 Int Int Int)))] := c.start n_x_of (show (1 : Nat) ≤ 1 by decide)
    unfold m_x_of at hm
    exact x_ret (x_call (x_cons (x_op (x_vd (d := (enc (a_p : (T3 Int Int Int)))) L0 rfl fun v1 r1 => x_c (x_ixTI (x := a_p.a) r1 rfl (x_cons (x_op (x_vd (d := (enc (a_p : (T3 Int Int Int)))) L0 rfl fun v2 r2 => x_c (x_ixTI (x := a_p.c) r2 rfl (x_nil (obE hm fun z1 hz1 hm1 => mk_ratio hz1 (L0.cond0 (.im (.int _) (.im (.int _) .nil)) rfl) fun v3 _ F1 => k0d L0 F1 fun L1 le1 r3 => x_fin (Q := Q) (ps := (fun (r : (T2 Int Int)) => [])) (rs := (fun (r : (T2 Int Int)) => (.imm (enc (r : (T2 Int Int)))))) (e := z1) hm1 kont (L1.fin hp0 r3))))))))))))
abbrev sp_y_of (K : PySem.W.Frag) : Sp := fun vs H Q _ => ∃ (X : Addr → Prop)  (a_p : (T3 Int Int Int)) (r : (T2 Int Int)), m_y_of a_p = some r ∧ Cond K X H [.imm (enc (a_p : (T3 Int Int Int)))] vs ∧ ∀ v H', Fin K X H [] [] (.imm (enc (r : (T2 Int Int)))) v H' → Q v H'
theorem mk_y_of {K : PySem.W.Frag} {X : Addr → Prop} {H : Hp} {vs : List V} {Q : VK} {E : XK}  {a_p : (T3 Int Int Int)} {r : (T2 Int Int)} (hm : m_y_of a_p = some r) (c : Cond K X H [.imm (enc (a_p : (T3 Int Int Int)))] vs) (k : ∀ v H', Fin K X H [] [] (.imm (enc (r : (T2 Int Int)))) v H' → Q v H') : sp_y_of K vs H Q E := ⟨X, a_p, r, hm, c, k⟩
abbrev n_y_of : List Str := ["p"]
theorem sc_y_of : FnScope n_y_of ["p"] (defScope s_y_of) := ⟨rfl, rfl, rfl, by decide +kernel, rfl, by decide +kernel, by decide +kernel⟩
theorem ok_y_of (T : Txt K mg) : FnOk P w K mg base CX0 3 T.A_y_of T.D_y_of ["p"] (sp_y_of K) := by
  refine Fun.ok T.F_y_of sc_y_of (fun vs H Q E h => ?_) (fun cdv A outer s H vs Q E hr h => ?_)
  · obtain ⟨X, a_p, r, hm, c, kont⟩ := h
    exact c.len
  · obtain ⟨X, a_p, r, hm, c, kont⟩ := h
    refine ⟨_, (pss_one (ps_ret (pe_call (ok_ratio T) hr (by rfl) T.g_ratio T.F_ratio.kp T.b_ratio .nil pass0 (pa_cons (pe_ix (r := rIxT K) ix_tup (pv 0) pe_int (fun _ _ => rfl)) (pa_cons (pe_ix (r := rIxT K) ix_tup (pv 0) pe_int (fun _ _ => rfl)) pa_nil))))), ?_⟩
    have L0 : Lo ⟨K, X, H, muts [.imm (enc (a_p : (T3 Int Int Int)))], n_y_of.length⟩ X H (L2.start n_y_of vs) [.imm (enc (a_p : (T3 Int Int Int)))] := c.start n_y_of (show (1 : Nat) ≤ 1 by decide)
    unfold m_y_of at hm
    exact x_ret (x_call (x_cons (x_op (x_vd (d := (enc (a_p : (T3 Int Int Int)))) L0 rfl fun v1 r1 => x_c (x_ixTI (x := a_p.b) r1 rfl (x_cons (x_op (x_vd (d := (enc (a_p : (T3 Int Int Int)))) L0 rfl fun v2 r2 => x_c (x_ixTI (x := a_p.c) r2 rfl (x_nil (obE hm fun z1 hz1 hm1 => mk_ratio hz1 (L0.cond0 (.im (.int _) (.im (.int _) .nil)) rfl) fun v3 _ F1 => k0d L0 F1 fun L1 le1 r3 => x_fin (Q := Q) (ps := (fun (r : (T2 Int Int)) => [])) (rs := (fun (r : (T2 Int Int)) => (.imm (enc (r : (T2 Int Int)))))) (e := z1) hm1 kont (L1.fin hp0 r3))))))))))))
abbrev sp_show_point (K : PySem.W.Frag) : Sp := fun vs H Q _ => ∃ (X : Addr → Prop)  (a_p : (T3 Int Int Int)) (r : Str), m_show_point a_p = some r ∧ Cond K X H [.imm (enc (a_p : (T3 Int Int Int)))] vs ∧ ∀ H', Fin K X H [] [] (.imm (.str r)) (.str r) H' → Q (.str r) H'
theorem mk_show_point {K : PySem.W.Frag} {X : Addr → Prop} {H : Hp} {vs : List V} {Q : VK} {E : XK}  {a_p : (T3 Int Int Int)} {r : Str} (hm : m_show_point a_p = some r) (c : Cond K X H [.imm (enc (a_p : (T3 Int Int Int)))] vs) (k : ∀ H', Fin K X H [] [] (.imm (.str r)) (.str r) H' → Q (.str r) H') : sp_show_point K vs H Q E := ⟨X, a_p, r, hm, c, k⟩
abbrev n_show_point : List Str := ["p"]
theorem sc_show_point : FnScope n_show_point ["p"] (defScope s_show_point) := ⟨rfl, rfl, rfl, by decide +kernel, rfl, by decide +kernel, by decide +kernel⟩
theorem ok_show_point (T : Txt K mg) : FnOk P w K mg base CX0 4 T.A_show_point T.D_show_point ["p"] (sp_show_point K) := by
  refine Fun.ok T.F_show_point sc_show_point (fun vs H Q E h => ?_) (fun cdv A outer s H vs Q E hr h => ?_)
  · obtain ⟨X, a_p, r, hm, c, kont⟩ := h
    exact c.len
  · obtain ⟨X, a_p, r, hm, c, kont⟩ := h
    refine ⟨_, (pss_one (ps_ret (pe_op op_addSX (pe_op op_addSX (pe_call (ok_show_ratio T) (hr.mono (by decide)) (by rfl) T.g_show_ratio T.F_show_ratio.kp T.b_show_ratio .nil pass0 (pa_cons (pe_call (ok_x_of T) hr (by rfl) T.g_x_of T.F_x_of.kp T.b_x_of .nil pass0 (pa_cons (pv 0) pa_nil)) pa_nil)) pe_str) (pe_call (ok_show_ratio T) (hr.mono (by decide)) (by rfl) T.g_show_ratio T.F_show_ratio.kp T.b_show_ratio .nil pass0 (pa_cons (pe_call (ok_y_of T) hr (by rfl) T.g_y_of T.F_y_of.kp T.b_y_of .nil pass0 (pa_cons (pv 0) pa_nil)) pa_nil))))), ?_⟩
    have L0 : Lo ⟨K, X, H, muts [.imm (enc (a_p : (T3 Int Int Int)))], n_show_point.length⟩ X H (L2.start n_show_point vs) [.imm (enc (a_p : (T3 Int Int Int)))] := c.start n_show_point (show (1 : Nat) ≤ 1 by decide)
    unfold m_show_point at hm
    exact x_ret (x_op (x_op (x_call (x_cons (x_call (x_cons (x_vd (d := (enc (a_p : (T3 Int Int Int)))) L0 rfl fun v1 r1 => x_nil (obE hm fun z1 hz1 hm1 => mk_x_of hz1 (L0.cond0 (.im r1 .nil) rfl) fun v2 _ F1 => k0d L0 F1 fun L1 le1 r2 => x_nil (obE hm1 fun z2 hz2 hm2 => mk_show_ratio hz2 (L1.cond0 (.im r2 .nil) rfl) fun _ F2 => k0 L1 F2 fun L2 le2 => x_c (x_addS (a := z2) (b := ("," : Str)) hm2 fun hm3 => x_call (x_cons (x_call (x_cons (x_vd (d := (enc (a_p : (T3 Int Int Int)))) L2 rfl fun v4 r3 => x_nil (obE hm3 fun z3 hz3 hm4 => mk_y_of hz3 (L2.cond0 (.im r3 .nil) rfl) fun v5 _ F3 => k0d L2 F3 fun L3 le3 r4 => x_nil (obE hm4 fun z4 hz4 hm5 => mk_show_ratio hz4 (L3.cond0 (.im r4 .nil) rfl) fun _ F4 => k0 L3 F4 fun L4 le4 => x_addS (a := (z2 ++ ("," : Str))) (b := z4) hm5 fun hm6 => x_finS (Q := Q) (ps := (fun (r : Str) => [])) (sc := fun (r : Str) => r) (((z2 ++ ("," : Str)) ++ z4)) hm6 kont (L4.fin hp0 (.str _))))))))))))))))))
abbrev sp_law (K : PySem.W.Frag) : Sp := fun vs H Q _ => ∃ (X : Addr → Prop)  (a__law_script : (List Int)) (r : Bool), m_law a__law_script = some r ∧ Cond K X H [.scr a__law_script] vs ∧ ∀ H', Fin K X H [] [] (.imm (.bool r)) (.bl r) H' → Q (.bl r) H'
theorem mk_law {K : PySem.W.Frag} {X : Addr → Prop} {H : Hp} {vs : List V} {Q : VK} {E : XK}  {a__law_script : (List Int)} {r : Bool} (hm : m_law a__law_script = some r) (c : Cond K X H [.scr a__law_script] vs) (k : ∀ H', Fin K X H [] [] (.imm (.bool r)) (.bl r) H' → Q (.bl r) H') : sp_law K vs H Q E := ⟨X, a__law_script, r, hm, c, k⟩
abbrev n_law : List Str := ["_law_script", "_law_cell_here", "_law_bag_here", "_law_one", "_law_two", "_law_here", "_law_text", "_law_found"]
theorem sc_law : FnScope n_law ["_law_script"] (defScope s_law) := ⟨rfl, rfl, rfl, by decide +kernel, rfl, by decide +kernel, by decide +kernel⟩
theorem ok_law (T : Txt K mg) : FnOk P w K mg base CX0 5 T.A_law T.D_law ["_law_script"] (sp_law K) := by
  refine Fun.ok T.F_law sc_law (fun vs H Q E h => ?_) (fun cdv A outer s H vs Q E hr h => ?_)
  · obtain ⟨X, a__law_script, r, hm, c, kont⟩ := h
    exact c.len
  · obtain ⟨X, a__law_script, r, hm, c, kont⟩ := h
    refine ⟨_, (pss_cons (ps_for PassesOwn.never rfl (pi_list (pe_op op_catR (pe_lst (pa_cons (pe_call (ok__law_cell T) (hr.mono (by decide)) (by rfl) T.g__law_cell T.F__law_cell.kp T.b__law_cell .nil pass0 (pa_cons (pv 0) (pa_cons pe_int pa_nil))) pa_nil)) (pe_slice (r := rSlL K) sl_list (pv 0) (po_some pe_int) (po_some pe_int)))) (pg_name (i := 1) sc_law.nd rfl (Or.inl rfl)) (pss_cons (ps_set (i := 2) sc_law.nd rfl (Or.inl rfl) (pe_call (ok__law_bag T) (hr.mono (by decide)) (by rfl) T.g__law_bag T.F__law_bag.kp T.b__law_bag .nil pass0 (pa_cons (pv 1) pa_nil)))
      (pss_cons (ps_set (i := 3) sc_law.nd rfl (Or.inl rfl) (pe_call (ok__law_rat T) hr (by rfl) T.g__law_rat T.F__law_rat.kp T.b__law_rat .nil pass0 (pa_cons (pv 2) pa_nil)))
      (pss_cons (ps_set (i := 4) sc_law.nd rfl (Or.inl rfl) (pe_call (ok__law_rat T) hr (by rfl) T.g__law_rat T.F__law_rat.kp T.b__law_rat .nil pass0 (pa_cons (pv 2) pa_nil)))
      (pss_cons (ps_if (PW.pt (pw_or (pt_not (pt_val (pe_callB (r := rIsi K) call_isi (by rfl) T.z_isinstance (by decide +kernel) (pa_cons (pe_call (ok_show_ratio T) (hr.mono (by decide)) (by rfl) T.g_show_ratio T.F_show_ratio.kp T.b_show_ratio .nil pass0 (pa_cons (pv 3) pa_nil)) (pa_cons (pe_bltn (v := .ty "str") (u := .type "str") (by rfl) T.z_str (by decide +kernel) rfl) pa_nil))))) (pw_or1 (pt_cmpR op_ne (pe_call (ok_show_ratio T) (hr.mono (by decide)) (by rfl) T.g_show_ratio T.F_show_ratio.kp T.b_show_ratio .nil pass0 (pa_cons (pv 3) pa_nil)) (pe_call (ok__law_written T) (hr.mono (by decide)) (by rfl) T.g__law_written T.F__law_written.kp T.b__law_written .nil pass0 (pa_cons (pv 3) pa_nil)) (nomark _))))) (pss_one (ps_ret pe_bl)) pss_nil)
      (pss_cons (ps_set (i := 5) sc_law.nd rfl (Or.inl rfl) (pe_call (ok__law_point T) (hr.mono (by decide)) (by rfl) T.g__law_point T.F__law_point.kp T.b__law_point .nil pass0 (pa_cons (pe_op op_mulW (pe_ix (r := rIxT K) ix_tup (pv 3) pe_int (fun _ _ => rfl)) (pe_ix (r := rIxT K) ix_tup (pv 4) pe_int (fun _ _ => rfl))) (pa_cons (pe_op op_mulW (pe_ix (r := rIxT K) ix_tup (pv 4) pe_int (fun _ _ => rfl)) (pe_ix (r := rIxT K) ix_tup (pv 3) pe_int (fun _ _ => rfl))) (pa_cons (pe_op op_mulW (pe_ix (r := rIxT K) ix_tup (pv 3) pe_int (fun _ _ => rfl)) (pe_ix (r := rIxT K) ix_tup (pv 4) pe_int (fun _ _ => rfl))) pa_nil)))))
      (pss_cons (ps_set (i := 6) sc_law.nd rfl (Or.inl rfl) (pe_op op_addSX (pe_op op_addSX (pe_call (ok__law_written T) (hr.mono (by decide)) (by rfl) T.g__law_written T.F__law_written.kp T.b__law_written .nil pass0 (pa_cons (pv 3) pa_nil)) pe_str) (pe_call (ok__law_written T) (hr.mono (by decide)) (by rfl) T.g__law_written T.F__law_written.kp T.b__law_written .nil pass0 (pa_cons (pv 4) pa_nil))))
      (pss_cons (ps_set (i := 7) sc_law.nd rfl (Or.inl rfl) (pe_call (ok_read_point T) hr (by rfl) T.g_read_point T.F_read_point.kp T.b_read_point .nil pass0 (pa_cons (pv 6) pa_nil)))
      (pss_one (ps_if (PW.pt (pw_or (pt_not (pt_val (pe_call (ok__law_same T) (hr.mono (by decide)) (by rfl) T.g__law_same T.F__law_same.kp T.b__law_same .nil pass0 (pa_cons (pv 7) (pa_cons (pv 5) pa_nil))))) (pw_or1 (pt_cmpR op_ne (pe_call (ok_show_point T) hr (by rfl) T.g_show_point T.F_show_point.kp T.b_show_point .nil pass0 (pa_cons (pv 7) pa_nil)) (pv 6) (nomark _))))) (pss_one (ps_ret pe_bl)) pss_nil))))))))))
      (pss_one (ps_ret pe_bl))), ?_⟩
    have L0 : Lo ⟨K, X, H, muts [.scr a__law_script], n_law.length⟩ X H (L2.start n_law vs) [.scr a__law_script, .unk, .unk, .unk, .unk, .unk, .unk, .unk] := c.start n_law (show (1 : Nat) ≤ 8 by decide)
    unfold m_law at hm
    refine x_seq (x_tforL (x_op (x_lst (x_cons (x_call (x_cons (x_vscr L0 rfl fun v1 r1 => x_cons (x_c (x_nil (obE hm fun z1 hz1 hm1 => mk__law_cell hz1 (L0.cond0 (.s r1 (.im (.int _) .nil)) rfl) fun _ F1 => k0 L0 F1 fun L1 le1 => x_nil (x_mkL L1 (.cons (.int _) .nil) (show (1 : Nat) ≤ 16777216 by decide) fun v3 _ L2 le2 r2 => have r3 : Rep _ _ _ (enc ([z1] : (List Int))) v3 := r2; x_sl (x_vscr L2 rfl fun v4 r4 => x_part (x_c (x_partK (x_part (x_c (x_partK (x_slS L2 r4 fun v5 _ L3 le3 r5 => have r6 := le3 _ _ r3; have r7 : Rep _ _ _ (enc ((slice a__law_script (some 1) (some 63)) : (List Int))) v5 := r5; x_cat L3 hm1 r6 r7 fun v6 _ hm2 L4 le4 r8 => have r9 : Rep _ _ _ (enc (([z1] ++ (slice a__law_script (some 1) (some 63))) : (List Int))) v6 := r8; x_flL (G := (fun (s1 : Unit) => [.scr a__law_script, .unk, .unk, .unk, .unk, .unk, .unk, .unk])) (s0 := ()) (xs := ([z1] ++ (slice a__law_script (some 1) (some 63)))) (ps := (fun (r : Bool) => [])) (rs := (fun (r : Bool) => (.imm (.bool r)))) (L4.weak (Γ' := [.scr a__law_script, .unk, .unk, .unk, .unk, .unk, .unk, .unk]) (.k (.k (.k (.k (.k (.k (.k (.k .e))))))))) (fun _ _ => rfl) r9 hm2 (fun x1 s1 H1 _ u1 _ _ _ _ _ hm3 L5 r10 hN1 hC1 hB1 hR1 => ?_) (fun s2 _ _ hm4 L6 => ?_) (fun _ _ _ hm5 F2 => x_finRB (Q := Q) (ps := (fun (r : Bool) => [])) (sc := fun (r : Bool) => r) hm5 kont F2)))))))))))))))))))
    · refine x_set (d := (.int x1)) (Γ' := [.scr a__law_script, .imm (.int x1), .unk, .unk, .unk, .unk, .unk, .unk]) L5 r10 (show (1 : Nat) < 8 by decide) rfl fun _ L7 => ?_
      refine x_seq (x_asg (x_call (x_cons (x_vI (x := x1) L7 rfl (x_nil (obE hm3 fun z2 hz2 hm6 => mk__law_bag hz2 (L7.cond0 (.im (.int _) .nil) rfl) fun p1 _ F3 => k0N L7 F3 fun _ h01 hx1 L8 le5 => x_setN (Γ := [.scr a__law_script, .imm (.int x1), .unk, .unk, .unk, .unk, .unk, .unk]) (p := p1) (o := (ml (z2 : (List Int)))) (Γ' := [.scr a__law_script, .imm (.int x1), .mu p1 (ml (z2 : (List Int))), .unk, .unk, .unk, .unk, .unk]) L8 (show (2 : Nat) < 8 by decide) (show (2 : Nat) < 8 by decide) rfl fun _ L9 => ?_))))))
      refine x_seq (x_asg (x_call (x_cons (x_vm L9 rfl (x_nil (obE hm6 fun z3 hz3 hm7 => mk__law_rat hz3 (L9.cond1 (i := 2) (.m (L9.mrep (i := 2) rfl) .nil) rfl rfl rfl) fun v7 _ F4 => k1d L9 F4 (i := 2) (Γ' := [.scr a__law_script, .imm (.int x1), .mu p1 (ml (z3.2 : (List Int))), .unk, .unk, .unk, .unk, .unk]) rfl rfl rfl fun L10 le6 r12 => x_set (d := (enc (z3.1 : (T2 Int Int)))) (Γ' := [.scr a__law_script, .imm (.int x1), .mu p1 (ml (z3.2 : (List Int))), .imm (enc (z3.1 : (T2 Int Int))), .unk, .unk, .unk, .unk]) L10 r12 (show (3 : Nat) < 8 by decide) rfl fun _ L11 => ?_))))))
      refine x_seq (x_asg (x_call (x_cons (x_vm L11 rfl (x_nil (obE hm7 fun z4 hz4 hm8 => mk__law_rat hz4 (L11.cond1 (i := 2) (.m (L11.mrep (i := 2) rfl) .nil) rfl rfl rfl) fun v8 _ F5 => k1d L11 F5 (i := 2) (Γ' := [.scr a__law_script, .imm (.int x1), .mu p1 (ml (z4.2 : (List Int))), .imm (enc (z3.1 : (T2 Int Int))), .unk, .unk, .unk, .unk]) rfl rfl rfl fun L12 le7 r13 => x_set (d := (enc (z4.1 : (T2 Int Int)))) (Γ' := [.scr a__law_script, .imm (.int x1), .mu p1 (ml (z4.2 : (List Int))), .imm (enc (z3.1 : (T2 Int Int))), .imm (enc (z4.1 : (T2 Int Int))), .unk, .unk, .unk]) L12 r13 (show (4 : Nat) < 8 by decide) rfl fun _ L13 => ?_))))))
      refine x_seq (x_ifS (x_or (x_not (x_tB (x_cb (x_cons (x_call (x_cons (x_vd (d := (enc (z3.1 : (T2 Int Int)))) L13 rfl fun v9 r14 => x_nil (obE hm8 fun z5 hz5 hm9 => mk_show_ratio hz5 (L13.cond0 (.im r14 .nil) rfl) fun _ F6 => k0 L13 F6 fun L14 le8 => x_cons (x_c (x_nil (x_isiS (x := z5) (T := "str") (b := true) (show kitB "str" "str" = some true by decide +kernel) (x_kb (x_kn (x_orB L14 hm9 (fun _ hm12 _ hq => x_test (x_op (x_call (x_cons (x_vd (d := (enc (z3.1 : (T2 Int Int)))) L14 rfl fun v15 r17 => x_nil (obE hm12 fun z8 hz8 hm13 => mk_show_ratio hz8 (L14.cond0 (.im r17 .nil) rfl) fun _ F9 => k0 L14 F9 fun L17 le11 => x_call (x_cons (x_vd (d := (enc (z3.1 : (T2 Int Int)))) L17 rfl fun v17 r18 => x_nil (obE hm13 fun z9 hz9 hm14 => mk__law_written hz9 (L17.cond0 (.im r18 .nil) rfl) fun _ F10 => k0 L17 F10 fun L18 le12 => x_nes (x_kb (x_lfT hm14 hq L18))))))))))) fun b1 _ hm15 L19 => x_if hm15 (fun hm16 => ?_) fun hm16 => ?_))))))))))))))))
      · exact x_ret (x_c (x_leafR (ps := (fun (r : Bool) => [])) (rs := (fun (r : Bool) => (.imm (.bool r)))) (e := false) hm16 hR1 (L19.fin hp0 (.bl _))))
      · refine x_next ?_
        refine x_seq (x_asg (x_call (x_cons (x_op (x_op (x_vd (d := (enc (z3.1 : (T2 Int Int)))) L19 rfl fun v19 r19 => x_c (x_ixTI (x := z3.1.a) r19 rfl (x_op (x_vd (d := (enc (z4.1 : (T2 Int Int)))) L19 rfl fun v20 r20 => x_c (x_ixTI (x := z4.1.b) r20 rfl (x_mul hm16 fun z10 _ hm17 => x_cons (x_op (x_op (x_vd (d := (enc (z4.1 : (T2 Int Int)))) L19 rfl fun v21 r21 => x_c (x_ixTI (x := z4.1.a) r21 rfl (x_op (x_vd (d := (enc (z3.1 : (T2 Int Int)))) L19 rfl fun v22 r22 => x_c (x_ixTI (x := z3.1.b) r22 rfl (x_mul hm17 fun z11 _ hm18 => x_cons (x_op (x_op (x_vd (d := (enc (z3.1 : (T2 Int Int)))) L19 rfl fun v23 r23 => x_c (x_ixTI (x := z3.1.b) r23 rfl (x_op (x_vd (d := (enc (z4.1 : (T2 Int Int)))) L19 rfl fun v24 r24 => x_c (x_ixTI (x := z4.1.b) r24 rfl (x_mul hm18 fun z12 _ hm19 => x_nil (obE hm19 fun z13 hz10 hm20 => mk__law_point hz10 (L19.cond0 (.im (.int _) (.im (.int _) (.im (.int _) .nil))) rfl) fun v25 _ F11 => k0d L19 F11 fun L20 le13 r25 => x_set (d := (enc (z13 : (T3 Int Int Int)))) (Γ' := [.scr a__law_script, .imm (.int x1), .mu p1 (ml (z4.2 : (List Int))), .imm (enc (z3.1 : (T2 Int Int))), .imm (enc (z4.1 : (T2 Int Int))), .imm (enc (z13 : (T3 Int Int Int))), .unk, .unk]) L20 r25 (show (5 : Nat) < 8 by decide) rfl fun _ L21 => ?_))))))))))))))))))))))))))))
        refine x_seq (x_asg (x_op (x_op (x_call (x_cons (x_vd (d := (enc (z3.1 : (T2 Int Int)))) L21 rfl fun v26 r26 => x_nil (obE hm20 fun z14 hz11 hm21 => mk__law_written hz11 (L21.cond0 (.im r26 .nil) rfl) fun _ F12 => k0 L21 F12 fun L22 le14 => x_c (x_addS (a := z14) (b := ("," : Str)) hm21 fun hm22 => x_call (x_cons (x_vd (d := (enc (z4.1 : (T2 Int Int)))) L22 rfl fun v28 r27 => x_nil (obE hm22 fun z15 hz12 hm23 => mk__law_written hz12 (L22.cond0 (.im r27 .nil) rfl) fun _ F13 => k0 L22 F13 fun L23 le15 => x_addS (a := (z14 ++ ("," : Str))) (b := z15) hm23 fun hm24 => x_bset (x0 := ((z14 ++ ("," : Str)) ++ z15)) (d := fun text_1 => (.str text_1)) (Γf := fun text_1 => [.scr a__law_script, .imm (.int x1), .mu p1 (ml (z4.2 : (List Int))), .imm (enc (z3.1 : (T2 Int Int))), .imm (enc (z4.1 : (T2 Int Int))), .imm (enc (z13 : (T3 Int Int Int))), .imm (.str text_1), .unk]) hm24 L23 (.str _) (show (6 : Nat) < 8 by decide) (fun _ => rfl) fun text_1 _ hm25 L24 => ?_)))))))))))
        refine x_seq (x_asg (x_call (x_cons (x_vS (x := text_1) L24 rfl (x_nil (obE hm25 fun z16 hz13 hm26 => mk_read_point hz13 (L24.cond0 (.im (.str _) .nil) rfl) fun v30 _ F14 => k0d L24 F14 fun L25 le16 r28 => x_set (d := (enc (z16 : (T3 Int Int Int)))) (Γ' := [.scr a__law_script, .imm (.int x1), .mu p1 (ml (z4.2 : (List Int))), .imm (enc (z3.1 : (T2 Int Int))), .imm (enc (z4.1 : (T2 Int Int))), .imm (enc (z13 : (T3 Int Int Int))), .imm (.str text_1), .imm (enc (z16 : (T3 Int Int Int)))]) L25 r28 (show (7 : Nat) < 8 by decide) rfl fun _ L26 => ?_))))))
        refine x_ifS (x_or (x_not (x_tB (x_call (x_cons (x_vd (d := (enc (z16 : (T3 Int Int Int)))) L26 rfl fun v31 r29 => x_cons (x_vd (d := (enc (z13 : (T3 Int Int Int)))) L26 rfl fun v32 r30 => x_nil (obE hm26 fun z17 hz14 hm27 => mk__law_same hz14 (L26.cond0 (.im r29 (.im r30 .nil)) rfl) fun _ F15 => k0 L26 F15 fun L27 le17 => x_kb (x_kn (x_orB L27 hm27 (fun _ hm29 _ hq => x_test (x_op (x_call (x_cons (x_vd (d := (enc (z16 : (T3 Int Int Int)))) L27 rfl fun v36 r32 => x_nil (obE hm29 fun z19 hz16 hm30 => mk_show_point hz16 (L27.cond0 (.im r32 .nil) rfl) fun _ F17 => k0 L27 F17 fun L29 le19 => x_vS (x := text_1) L29 rfl (x_nes (x_kb (x_lfT hm30 hq L29))))))))) fun b2 _ hm31 L30 => x_if hm31 (fun hm32 => ?_) fun hm32 => ?_))))))))))
        · exact x_ret (x_c (x_leafR (ps := (fun (r : Bool) => [])) (rs := (fun (r : Bool) => (.imm (.bool r)))) (e := false) hm32 hR1 (L30.fin hp0 (.bl _))))
        · refine x_next ?_
          exact x_leafN (G := (fun (s1 : Unit) => [.scr a__law_script, .unk, .unk, .unk, .unk, .unk, .unk, .unk])) (e := ()) hm32 hN1 (L30.weak (Γ' := [.scr a__law_script, .unk, .unk, .unk, .unk, .unk, .unk, .unk]) (.k (.d (.d (.d (.d (.d (.d (.d .e)))))))))
    exact x_ret (x_c (x_finB (Q := Q) (ps := (fun (r : Bool) => [])) (sc := fun (r : Bool) => r) true hm4 kont (L6.fin hp0 (.bl _))))
end
theorem all_mk {l : PySem.W.OpenLaw} {w : World} {K : PySem.W.Frag} {h : Heap} {mg : Str → Option Value} {fa : Addr} (X : K.In h) (G : h.Ns mainGlobals mg) (hfa : mg "law" = some (.ref fa))
    {f0 : Addr} {od0 an0 : Option Addr} {sl0 : Array (Option Value)} {oc0 kV0 dc0 pm0 cd0 ct0 : Value}
    (a0 : PySem.W.nsIn K mainGlobals "_law_cell" = some (some (.ref f0))) (l0 : K.lookup f0 = some ⟨oc0, od0, .func (PySem.W.fnOf "_law_cell" "_law_cell" (defArgs s__law_cell) (defBody s__law_cell) (defScope s__law_cell) .none kV0 dc0 pm0 an0 cd0 ct0), sl0⟩) (c0 : PySem.W.codeIn K cd0 "_law_cell" = true) (k0 : PySem.W.keepIn K (.ref f0) = true)
    {f1 : Addr} {od1 an1 : Option Addr} {sl1 : Array (Option Value)} {oc1 kV1 dc1 pm1 cd1 ct1 : Value}
    (a1 : PySem.W.nsIn K mainGlobals "_law_bag" = some (some (.ref f1))) (l1 : K.lookup f1 = some ⟨oc1, od1, .func (PySem.W.fnOf "_law_bag" "_law_bag" (defArgs s__law_bag) (defBody s__law_bag) (defScope s__law_bag) .none kV1 dc1 pm1 an1 cd1 ct1), sl1⟩) (c1 : PySem.W.codeIn K cd1 "_law_bag" = true) (k1 : PySem.W.keepIn K (.ref f1) = true)
    {f2 : Addr} {od2 an2 : Option Addr} {sl2 : Array (Option Value)} {oc2 kV2 dc2 pm2 cd2 ct2 : Value}
    (a2 : PySem.W.nsIn K mainGlobals "_law_draw" = some (some (.ref f2))) (l2 : K.lookup f2 = some ⟨oc2, od2, .func (PySem.W.fnOf "_law_draw" "_law_draw" (defArgs s__law_draw) (defBody s__law_draw) (defScope s__law_draw) .none kV2 dc2 pm2 an2 cd2 ct2), sl2⟩) (c2 : PySem.W.codeIn K cd2 "_law_draw" = true) (k2 : PySem.W.keepIn K (.ref f2) = true)
    {f3 : Addr} {od3 an3 : Option Addr} {sl3 : Array (Option Value)} {oc3 kV3 dc3 pm3 cd3 ct3 : Value}
    (a3 : PySem.W.nsIn K mainGlobals "_law_great" = some (some (.ref f3))) (l3 : K.lookup f3 = some ⟨oc3, od3, .func (PySem.W.fnOf "_law_great" "_law_great" (defArgs s__law_great) (defBody s__law_great) (defScope s__law_great) .none kV3 dc3 pm3 an3 cd3 ct3), sl3⟩) (c3 : PySem.W.codeIn K cd3 "_law_great" = true) (k3 : PySem.W.keepIn K (.ref f3) = true)
    {f4 : Addr} {od4 an4 : Option Addr} {sl4 : Array (Option Value)} {oc4 kV4 dc4 pm4 cd4 ct4 : Value}
    (a4 : PySem.W.nsIn K mainGlobals "_law_signed" = some (some (.ref f4))) (l4 : K.lookup f4 = some ⟨oc4, od4, .func (PySem.W.fnOf "_law_signed" "_law_signed" (defArgs s__law_signed) (defBody s__law_signed) (defScope s__law_signed) .none kV4 dc4 pm4 an4 cd4 ct4), sl4⟩) (c4 : PySem.W.codeIn K cd4 "_law_signed" = true) (k4 : PySem.W.keepIn K (.ref f4) = true)
    {f5 : Addr} {od5 an5 : Option Addr} {sl5 : Array (Option Value)} {oc5 kV5 dc5 pm5 cd5 ct5 : Value}
    (a5 : PySem.W.nsIn K mainGlobals "_law_gcd" = some (some (.ref f5))) (l5 : K.lookup f5 = some ⟨oc5, od5, .func (PySem.W.fnOf "_law_gcd" "_law_gcd" (defArgs s__law_gcd) (defBody s__law_gcd) (defScope s__law_gcd) .none kV5 dc5 pm5 an5 cd5 ct5), sl5⟩) (c5 : PySem.W.codeIn K cd5 "_law_gcd" = true) (k5 : PySem.W.keepIn K (.ref f5) = true)
    {f6 : Addr} {od6 an6 : Option Addr} {sl6 : Array (Option Value)} {oc6 kV6 dc6 pm6 cd6 ct6 : Value}
    (a6 : PySem.W.nsIn K mainGlobals "_law_lowest" = some (some (.ref f6))) (l6 : K.lookup f6 = some ⟨oc6, od6, .func (PySem.W.fnOf "_law_lowest" "_law_lowest" (defArgs s__law_lowest) (defBody s__law_lowest) (defScope s__law_lowest) .none kV6 dc6 pm6 an6 cd6 ct6), sl6⟩) (c6 : PySem.W.codeIn K cd6 "_law_lowest" = true) (k6 : PySem.W.keepIn K (.ref f6) = true)
    {f7 : Addr} {od7 an7 : Option Addr} {sl7 : Array (Option Value)} {oc7 kV7 dc7 pm7 cd7 ct7 : Value}
    (a7 : PySem.W.nsIn K mainGlobals "_law_rat" = some (some (.ref f7))) (l7 : K.lookup f7 = some ⟨oc7, od7, .func (PySem.W.fnOf "_law_rat" "_law_rat" (defArgs s__law_rat) (defBody s__law_rat) (defScope s__law_rat) .none kV7 dc7 pm7 an7 cd7 ct7), sl7⟩) (c7 : PySem.W.codeIn K cd7 "_law_rat" = true) (k7 : PySem.W.keepIn K (.ref f7) = true)
    {f8 : Addr} {od8 an8 : Option Addr} {sl8 : Array (Option Value)} {oc8 kV8 dc8 pm8 cd8 ct8 : Value}
    (a8 : PySem.W.nsIn K mainGlobals "show_ratio" = some (some (.ref f8))) (l8 : K.lookup f8 = some ⟨oc8, od8, .func (PySem.W.fnOf "show_ratio" "show_ratio" (defArgs s_show_ratio) (defBody s_show_ratio) (defScope s_show_ratio) .none kV8 dc8 pm8 an8 cd8 ct8), sl8⟩) (c8 : PySem.W.codeIn K cd8 "show_ratio" = true) (k8 : PySem.W.keepIn K (.ref f8) = true)
    {f9 : Addr} {od9 an9 : Option Addr} {sl9 : Array (Option Value)} {oc9 kV9 dc9 pm9 cd9 ct9 : Value}
    (a9 : PySem.W.nsIn K mainGlobals "_law_figures" = some (some (.ref f9))) (l9 : K.lookup f9 = some ⟨oc9, od9, .func (PySem.W.fnOf "_law_figures" "_law_figures" (defArgs s__law_figures) (defBody s__law_figures) (defScope s__law_figures) .none kV9 dc9 pm9 an9 cd9 ct9), sl9⟩) (c9 : PySem.W.codeIn K cd9 "_law_figures" = true) (k9 : PySem.W.keepIn K (.ref f9) = true)
    {f10 : Addr} {od10 an10 : Option Addr} {sl10 : Array (Option Value)} {oc10 kV10 dc10 pm10 cd10 ct10 : Value}
    (a10 : PySem.W.nsIn K mainGlobals "_law_written" = some (some (.ref f10))) (l10 : K.lookup f10 = some ⟨oc10, od10, .func (PySem.W.fnOf "_law_written" "_law_written" (defArgs s__law_written) (defBody s__law_written) (defScope s__law_written) .none kV10 dc10 pm10 an10 cd10 ct10), sl10⟩) (c10 : PySem.W.codeIn K cd10 "_law_written" = true) (k10 : PySem.W.keepIn K (.ref f10) = true)
    {f11 : Addr} {od11 an11 : Option Addr} {sl11 : Array (Option Value)} {oc11 kV11 dc11 pm11 cd11 ct11 : Value}
    (a11 : PySem.W.nsIn K mainGlobals "_law_point" = some (some (.ref f11))) (l11 : K.lookup f11 = some ⟨oc11, od11, .func (PySem.W.fnOf "_law_point" "_law_point" (defArgs s__law_point) (defBody s__law_point) (defScope s__law_point) .none kV11 dc11 pm11 an11 cd11 ct11), sl11⟩) (c11 : PySem.W.codeIn K cd11 "_law_point" = true) (k11 : PySem.W.keepIn K (.ref f11) = true)
    {f12 : Addr} {od12 an12 : Option Addr} {sl12 : Array (Option Value)} {oc12 kV12 dc12 pm12 cd12 ct12 : Value}
    (a12 : PySem.W.nsIn K mainGlobals "read_whole" = some (some (.ref f12))) (l12 : K.lookup f12 = some ⟨oc12, od12, .func (PySem.W.fnOf "read_whole" "read_whole" (defArgs s_read_whole) (defBody s_read_whole) (defScope s_read_whole) .none kV12 dc12 pm12 an12 cd12 ct12), sl12⟩) (c12 : PySem.W.codeIn K cd12 "read_whole" = true) (k12 : PySem.W.keepIn K (.ref f12) = true)
    {f13 : Addr} {od13 an13 : Option Addr} {sl13 : Array (Option Value)} {oc13 kV13 dc13 pm13 cd13 ct13 : Value}
    (a13 : PySem.W.nsIn K mainGlobals "greatest_divisor" = some (some (.ref f13))) (l13 : K.lookup f13 = some ⟨oc13, od13, .func (PySem.W.fnOf "greatest_divisor" "greatest_divisor" (defArgs s_greatest_divisor) (defBody s_greatest_divisor) (defScope s_greatest_divisor) .none kV13 dc13 pm13 an13 cd13 ct13), sl13⟩) (c13 : PySem.W.codeIn K cd13 "greatest_divisor" = true) (k13 : PySem.W.keepIn K (.ref f13) = true)
    {f14 : Addr} {od14 an14 : Option Addr} {sl14 : Array (Option Value)} {oc14 kV14 dc14 pm14 cd14 ct14 : Value}
    (a14 : PySem.W.nsIn K mainGlobals "ratio" = some (some (.ref f14))) (l14 : K.lookup f14 = some ⟨oc14, od14, .func (PySem.W.fnOf "ratio" "ratio" (defArgs s_ratio) (defBody s_ratio) (defScope s_ratio) .none kV14 dc14 pm14 an14 cd14 ct14), sl14⟩) (c14 : PySem.W.codeIn K cd14 "ratio" = true) (k14 : PySem.W.keepIn K (.ref f14) = true)
    {f15 : Addr} {od15 an15 : Option Addr} {sl15 : Array (Option Value)} {oc15 kV15 dc15 pm15 cd15 ct15 : Value}
    (a15 : PySem.W.nsIn K mainGlobals "read_ratio" = some (some (.ref f15))) (l15 : K.lookup f15 = some ⟨oc15, od15, .func (PySem.W.fnOf "read_ratio" "read_ratio" (defArgs s_read_ratio) (defBody s_read_ratio) (defScope s_read_ratio) .none kV15 dc15 pm15 an15 cd15 ct15), sl15⟩) (c15 : PySem.W.codeIn K cd15 "read_ratio" = true) (k15 : PySem.W.keepIn K (.ref f15) = true)
    {f16 : Addr} {od16 an16 : Option Addr} {sl16 : Array (Option Value)} {oc16 kV16 dc16 pm16 cd16 ct16 : Value}
    (a16 : PySem.W.nsIn K mainGlobals "point" = some (some (.ref f16))) (l16 : K.lookup f16 = some ⟨oc16, od16, .func (PySem.W.fnOf "point" "point" (defArgs s_point) (defBody s_point) (defScope s_point) .none kV16 dc16 pm16 an16 cd16 ct16), sl16⟩) (c16 : PySem.W.codeIn K cd16 "point" = true) (k16 : PySem.W.keepIn K (.ref f16) = true)
    {f17 : Addr} {od17 an17 : Option Addr} {sl17 : Array (Option Value)} {oc17 kV17 dc17 pm17 cd17 ct17 : Value}
    (a17 : PySem.W.nsIn K mainGlobals "at" = some (some (.ref f17))) (l17 : K.lookup f17 = some ⟨oc17, od17, .func (PySem.W.fnOf "at" "at" (defArgs s_at) (defBody s_at) (defScope s_at) .none kV17 dc17 pm17 an17 cd17 ct17), sl17⟩) (c17 : PySem.W.codeIn K cd17 "at" = true) (k17 : PySem.W.keepIn K (.ref f17) = true)
    {f18 : Addr} {od18 an18 : Option Addr} {sl18 : Array (Option Value)} {oc18 kV18 dc18 pm18 cd18 ct18 : Value}
    (a18 : PySem.W.nsIn K mainGlobals "read_point" = some (some (.ref f18))) (l18 : K.lookup f18 = some ⟨oc18, od18, .func (PySem.W.fnOf "read_point" "read_point" (defArgs s_read_point) (defBody s_read_point) (defScope s_read_point) .none kV18 dc18 pm18 an18 cd18 ct18), sl18⟩) (c18 : PySem.W.codeIn K cd18 "read_point" = true) (k18 : PySem.W.keepIn K (.ref f18) = true)
    {f19 : Addr} {od19 an19 : Option Addr} {sl19 : Array (Option Value)} {oc19 kV19 dc19 pm19 cd19 ct19 : Value}
    (a19 : PySem.W.nsIn K mainGlobals "_law_whole" = some (some (.ref f19))) (l19 : K.lookup f19 = some ⟨oc19, od19, .func (PySem.W.fnOf "_law_whole" "_law_whole" (defArgs s__law_whole) (defBody s__law_whole) (defScope s__law_whole) .none kV19 dc19 pm19 an19 cd19 ct19), sl19⟩) (c19 : PySem.W.codeIn K cd19 "_law_whole" = true) (k19 : PySem.W.keepIn K (.ref f19) = true)
    {f20 : Addr} {od20 an20 : Option Addr} {sl20 : Array (Option Value)} {oc20 kV20 dc20 pm20 cd20 ct20 : Value}
    (a20 : PySem.W.nsIn K mainGlobals "_law_same" = some (some (.ref f20))) (l20 : K.lookup f20 = some ⟨oc20, od20, .func (PySem.W.fnOf "_law_same" "_law_same" (defArgs s__law_same) (defBody s__law_same) (defScope s__law_same) .none kV20 dc20 pm20 an20 cd20 ct20), sl20⟩) (c20 : PySem.W.codeIn K cd20 "_law_same" = true) (k20 : PySem.W.keepIn K (.ref f20) = true)
    {f21 : Addr} {od21 an21 : Option Addr} {sl21 : Array (Option Value)} {oc21 kV21 dc21 pm21 cd21 ct21 : Value}
    (a21 : PySem.W.nsIn K mainGlobals "x_of" = some (some (.ref f21))) (l21 : K.lookup f21 = some ⟨oc21, od21, .func (PySem.W.fnOf "x_of" "x_of" (defArgs s_x_of) (defBody s_x_of) (defScope s_x_of) .none kV21 dc21 pm21 an21 cd21 ct21), sl21⟩) (c21 : PySem.W.codeIn K cd21 "x_of" = true) (k21 : PySem.W.keepIn K (.ref f21) = true)
    {f22 : Addr} {od22 an22 : Option Addr} {sl22 : Array (Option Value)} {oc22 kV22 dc22 pm22 cd22 ct22 : Value}
    (a22 : PySem.W.nsIn K mainGlobals "y_of" = some (some (.ref f22))) (l22 : K.lookup f22 = some ⟨oc22, od22, .func (PySem.W.fnOf "y_of" "y_of" (defArgs s_y_of) (defBody s_y_of) (defScope s_y_of) .none kV22 dc22 pm22 an22 cd22 ct22), sl22⟩) (c22 : PySem.W.codeIn K cd22 "y_of" = true) (k22 : PySem.W.keepIn K (.ref f22) = true)
    {f23 : Addr} {od23 an23 : Option Addr} {sl23 : Array (Option Value)} {oc23 kV23 dc23 pm23 cd23 ct23 : Value}
    (a23 : PySem.W.nsIn K mainGlobals "show_point" = some (some (.ref f23))) (l23 : K.lookup f23 = some ⟨oc23, od23, .func (PySem.W.fnOf "show_point" "show_point" (defArgs s_show_point) (defBody s_show_point) (defScope s_show_point) .none kV23 dc23 pm23 an23 cd23 ct23), sl23⟩) (c23 : PySem.W.codeIn K cd23 "show_point" = true) (k23 : PySem.W.keepIn K (.ref f23) = true)
    {f24 : Addr} {od24 an24 : Option Addr} {sl24 : Array (Option Value)} {oc24 kV24 dc24 pm24 cd24 ct24 : Value}
    (a24 : PySem.W.nsIn K mainGlobals "law" = some (some (.ref f24))) (l24 : K.lookup f24 = some ⟨oc24, od24, .func (PySem.W.fnOf "law" "law" (defArgs s_law) (defBody s_law) (defScope s_law) .none kV24 dc24 pm24 an24 cd24 ct24), sl24⟩) (c24 : PySem.W.codeIn K cd24 "law" = true) (k24 : PySem.W.keepIn K (.ref f24) = true)
    (z_abs : PySem.W.nsIn K mainGlobals "abs" = some none)
    (z_all : PySem.W.nsIn K mainGlobals "all" = some none)
    (z_bool : PySem.W.nsIn K mainGlobals "bool" = some none)
    (z_int : PySem.W.nsIn K mainGlobals "int" = some none)
    (z_isinstance : PySem.W.nsIn K mainGlobals "isinstance" = some none)
    (z_len : PySem.W.nsIn K mainGlobals "len" = some none)
    (z_range : PySem.W.nsIn K mainGlobals "range" = some none)
    (z_str : PySem.W.nsIn K mainGlobals "str" = some none)
    (z_tuple : PySem.W.nsIn K mainGlobals "tuple" = some none)
    {t_FIGURES : Tok} (c_FIGURES : PySem.W.nsIn K mainGlobals "FIGURES" = some (some (.str "0123456789" t_FIGURES)))
    {t_MOST_FIGURES : Tok} (c_MOST_FIGURES : PySem.W.nsIn K mainGlobals "MOST_FIGURES" = some (some (.int (30) t_MOST_FIGURES)))
    : ∃ fd : FuncData, (∀ (s : Shared) (v : Value), BindsTo s fd ⟨[v], []⟩ [("_law_script", v)]) ∧ ∀ base : Heap, K.In base → base.Ns mainGlobals mg → FnOk l.prog w K mg base CX0 5 fa fd ["_law_script"] (sp_law K) := by
  have e := hfa.symm.trans (PySem.W.mg_of X G a24)
  cases e
  let T : Txt K mg := {
    A__law_cell := f0, D__law_cell := PySem.W.fnOf "_law_cell" "_law_cell" (defArgs s__law_cell) (defBody s__law_cell) (defScope s__law_cell) .none kV0 dc0 pm0 an0 cd0 ct0, F__law_cell := fun_mk (st := s__law_cell) l0 c0 k0, g__law_cell := PySem.W.mg_of X G a0, b__law_cell := (fun_mk (st := s__law_cell) l0 c0 k0).binds (ps := ["_law_script", "_law_k"]) fun _ _ _ _ _ _ us hl => match us, hl with | [_, _], _ => rfl,
    A__law_bag := f1, D__law_bag := PySem.W.fnOf "_law_bag" "_law_bag" (defArgs s__law_bag) (defBody s__law_bag) (defScope s__law_bag) .none kV1 dc1 pm1 an1 cd1 ct1, F__law_bag := fun_mk (st := s__law_bag) l1 c1 k1, g__law_bag := PySem.W.mg_of X G a1, b__law_bag := (fun_mk (st := s__law_bag) l1 c1 k1).binds (ps := ["_law_cell_here"]) fun _ _ _ _ _ _ us hl => match us, hl with | [_], _ => rfl,
    A__law_draw := f2, D__law_draw := PySem.W.fnOf "_law_draw" "_law_draw" (defArgs s__law_draw) (defBody s__law_draw) (defScope s__law_draw) .none kV2 dc2 pm2 an2 cd2 ct2, F__law_draw := fun_mk (st := s__law_draw) l2 c2 k2, g__law_draw := PySem.W.mg_of X G a2, b__law_draw := (fun_mk (st := s__law_draw) l2 c2 k2).binds (ps := ["_law_bag_here", "_law_many"]) fun _ _ _ _ _ _ us hl => match us, hl with | [_, _], _ => rfl,
    A__law_great := f3, D__law_great := PySem.W.fnOf "_law_great" "_law_great" (defArgs s__law_great) (defBody s__law_great) (defScope s__law_great) .none kV3 dc3 pm3 an3 cd3 ct3, F__law_great := fun_mk (st := s__law_great) l3 c3 k3, g__law_great := PySem.W.mg_of X G a3, b__law_great := (fun_mk (st := s__law_great) l3 c3 k3).binds (ps := ["_law_bag_here"]) fun _ _ _ _ _ _ us hl => match us, hl with | [_], _ => rfl,
    A__law_signed := f4, D__law_signed := PySem.W.fnOf "_law_signed" "_law_signed" (defArgs s__law_signed) (defBody s__law_signed) (defScope s__law_signed) .none kV4 dc4 pm4 an4 cd4 ct4, F__law_signed := fun_mk (st := s__law_signed) l4 c4 k4, g__law_signed := PySem.W.mg_of X G a4, b__law_signed := (fun_mk (st := s__law_signed) l4 c4 k4).binds (ps := ["_law_bag_here"]) fun _ _ _ _ _ _ us hl => match us, hl with | [_], _ => rfl,
    A__law_gcd := f5, D__law_gcd := PySem.W.fnOf "_law_gcd" "_law_gcd" (defArgs s__law_gcd) (defBody s__law_gcd) (defScope s__law_gcd) .none kV5 dc5 pm5 an5 cd5 ct5, F__law_gcd := fun_mk (st := s__law_gcd) l5 c5 k5, g__law_gcd := PySem.W.mg_of X G a5, b__law_gcd := (fun_mk (st := s__law_gcd) l5 c5 k5).binds (ps := ["_law_one", "_law_two"]) fun _ _ _ _ _ _ us hl => match us, hl with | [_, _], _ => rfl,
    A__law_lowest := f6, D__law_lowest := PySem.W.fnOf "_law_lowest" "_law_lowest" (defArgs s__law_lowest) (defBody s__law_lowest) (defScope s__law_lowest) .none kV6 dc6 pm6 an6 cd6 ct6, F__law_lowest := fun_mk (st := s__law_lowest) l6 c6 k6, g__law_lowest := PySem.W.mg_of X G a6, b__law_lowest := (fun_mk (st := s__law_lowest) l6 c6 k6).binds (ps := ["_law_top", "_law_bottom"]) fun _ _ _ _ _ _ us hl => match us, hl with | [_, _], _ => rfl,
    A__law_rat := f7, D__law_rat := PySem.W.fnOf "_law_rat" "_law_rat" (defArgs s__law_rat) (defBody s__law_rat) (defScope s__law_rat) .none kV7 dc7 pm7 an7 cd7 ct7, F__law_rat := fun_mk (st := s__law_rat) l7 c7 k7, g__law_rat := PySem.W.mg_of X G a7, b__law_rat := (fun_mk (st := s__law_rat) l7 c7 k7).binds (ps := ["_law_bag_here"]) fun _ _ _ _ _ _ us hl => match us, hl with | [_], _ => rfl,
    A_show_ratio := f8, D_show_ratio := PySem.W.fnOf "show_ratio" "show_ratio" (defArgs s_show_ratio) (defBody s_show_ratio) (defScope s_show_ratio) .none kV8 dc8 pm8 an8 cd8 ct8, F_show_ratio := fun_mk (st := s_show_ratio) l8 c8 k8, g_show_ratio := PySem.W.mg_of X G a8, b_show_ratio := (fun_mk (st := s_show_ratio) l8 c8 k8).binds (ps := ["one"]) fun _ _ _ _ _ _ us hl => match us, hl with | [_], _ => rfl,
    A__law_figures := f9, D__law_figures := PySem.W.fnOf "_law_figures" "_law_figures" (defArgs s__law_figures) (defBody s__law_figures) (defScope s__law_figures) .none kV9 dc9 pm9 an9 cd9 ct9, F__law_figures := fun_mk (st := s__law_figures) l9 c9 k9, g__law_figures := PySem.W.mg_of X G a9, b__law_figures := (fun_mk (st := s__law_figures) l9 c9 k9).binds (ps := ["_law_number"]) fun _ _ _ _ _ _ us hl => match us, hl with | [_], _ => rfl,
    A__law_written := f10, D__law_written := PySem.W.fnOf "_law_written" "_law_written" (defArgs s__law_written) (defBody s__law_written) (defScope s__law_written) .none kV10 dc10 pm10 an10 cd10 ct10, F__law_written := fun_mk (st := s__law_written) l10 c10 k10, g__law_written := PySem.W.mg_of X G a10, b__law_written := (fun_mk (st := s__law_written) l10 c10 k10).binds (ps := ["_law_one"]) fun _ _ _ _ _ _ us hl => match us, hl with | [_], _ => rfl,
    A__law_point := f11, D__law_point := PySem.W.fnOf "_law_point" "_law_point" (defArgs s__law_point) (defBody s__law_point) (defScope s__law_point) .none kV11 dc11 pm11 an11 cd11 ct11, F__law_point := fun_mk (st := s__law_point) l11 c11 k11, g__law_point := PySem.W.mg_of X G a11, b__law_point := (fun_mk (st := s__law_point) l11 c11 k11).binds (ps := ["_law_a", "_law_b", "_law_n"]) fun _ _ _ _ _ _ us hl => match us, hl with | [_, _, _], _ => rfl,
    A_read_whole := f12, D_read_whole := PySem.W.fnOf "read_whole" "read_whole" (defArgs s_read_whole) (defBody s_read_whole) (defScope s_read_whole) .none kV12 dc12 pm12 an12 cd12 ct12, F_read_whole := fun_mk (st := s_read_whole) l12 c12 k12, g_read_whole := PySem.W.mg_of X G a12, b_read_whole := (fun_mk (st := s_read_whole) l12 c12 k12).binds (ps := ["text"]) fun _ _ _ _ _ _ us hl => match us, hl with | [_], _ => rfl,
    A_greatest_divisor := f13, D_greatest_divisor := PySem.W.fnOf "greatest_divisor" "greatest_divisor" (defArgs s_greatest_divisor) (defBody s_greatest_divisor) (defScope s_greatest_divisor) .none kV13 dc13 pm13 an13 cd13 ct13, F_greatest_divisor := fun_mk (st := s_greatest_divisor) l13 c13 k13, g_greatest_divisor := PySem.W.mg_of X G a13, b_greatest_divisor := (fun_mk (st := s_greatest_divisor) l13 c13 k13).binds (ps := ["a", "b"]) fun _ _ _ _ _ _ us hl => match us, hl with | [_, _], _ => rfl,
    A_ratio := f14, D_ratio := PySem.W.fnOf "ratio" "ratio" (defArgs s_ratio) (defBody s_ratio) (defScope s_ratio) .none kV14 dc14 pm14 an14 cd14 ct14, F_ratio := fun_mk (st := s_ratio) l14 c14 k14, g_ratio := PySem.W.mg_of X G a14, b_ratio := (fun_mk (st := s_ratio) l14 c14 k14).binds (ps := ["top", "bottom"]) fun _ _ _ _ _ _ us hl => match us, hl with | [_, _], _ => rfl,
    A_read_ratio := f15, D_read_ratio := PySem.W.fnOf "read_ratio" "read_ratio" (defArgs s_read_ratio) (defBody s_read_ratio) (defScope s_read_ratio) .none kV15 dc15 pm15 an15 cd15 ct15, F_read_ratio := fun_mk (st := s_read_ratio) l15 c15 k15, g_read_ratio := PySem.W.mg_of X G a15, b_read_ratio := (fun_mk (st := s_read_ratio) l15 c15 k15).binds (ps := ["text"]) fun _ _ _ _ _ _ us hl => match us, hl with | [_], _ => rfl,
    A_point := f16, D_point := PySem.W.fnOf "point" "point" (defArgs s_point) (defBody s_point) (defScope s_point) .none kV16 dc16 pm16 an16 cd16 ct16, F_point := fun_mk (st := s_point) l16 c16 k16, g_point := PySem.W.mg_of X G a16, b_point := (fun_mk (st := s_point) l16 c16 k16).binds (ps := ["a", "b", "n"]) fun _ _ _ _ _ _ us hl => match us, hl with | [_, _, _], _ => rfl,
    A_at := f17, D_at := PySem.W.fnOf "at" "at" (defArgs s_at) (defBody s_at) (defScope s_at) .none kV17 dc17 pm17 an17 cd17 ct17, F_at := fun_mk (st := s_at) l17 c17 k17, g_at := PySem.W.mg_of X G a17, b_at := (fun_mk (st := s_at) l17 c17 k17).binds (ps := ["x", "y"]) fun _ _ _ _ _ _ us hl => match us, hl with | [_, _], _ => rfl,
    A_read_point := f18, D_read_point := PySem.W.fnOf "read_point" "read_point" (defArgs s_read_point) (defBody s_read_point) (defScope s_read_point) .none kV18 dc18 pm18 an18 cd18 ct18, F_read_point := fun_mk (st := s_read_point) l18 c18 k18, g_read_point := PySem.W.mg_of X G a18, b_read_point := (fun_mk (st := s_read_point) l18 c18 k18).binds (ps := ["text"]) fun _ _ _ _ _ _ us hl => match us, hl with | [_], _ => rfl,
    A__law_whole := f19, D__law_whole := PySem.W.fnOf "_law_whole" "_law_whole" (defArgs s__law_whole) (defBody s__law_whole) (defScope s__law_whole) .none kV19 dc19 pm19 an19 cd19 ct19, F__law_whole := fun_mk (st := s__law_whole) l19 c19 k19, g__law_whole := PySem.W.mg_of X G a19, b__law_whole := (fun_mk (st := s__law_whole) l19 c19 k19).binds (ps := ["_law_found"]) fun _ _ _ _ _ _ us hl => match us, hl with | [_], _ => rfl,
    A__law_same := f20, D__law_same := PySem.W.fnOf "_law_same" "_law_same" (defArgs s__law_same) (defBody s__law_same) (defScope s__law_same) .none kV20 dc20 pm20 an20 cd20 ct20, F__law_same := fun_mk (st := s__law_same) l20 c20 k20, g__law_same := PySem.W.mg_of X G a20, b__law_same := (fun_mk (st := s__law_same) l20 c20 k20).binds (ps := ["_law_found", "_law_due"]) fun _ _ _ _ _ _ us hl => match us, hl with | [_, _], _ => rfl,
    A_x_of := f21, D_x_of := PySem.W.fnOf "x_of" "x_of" (defArgs s_x_of) (defBody s_x_of) (defScope s_x_of) .none kV21 dc21 pm21 an21 cd21 ct21, F_x_of := fun_mk (st := s_x_of) l21 c21 k21, g_x_of := PySem.W.mg_of X G a21, b_x_of := (fun_mk (st := s_x_of) l21 c21 k21).binds (ps := ["p"]) fun _ _ _ _ _ _ us hl => match us, hl with | [_], _ => rfl,
    A_y_of := f22, D_y_of := PySem.W.fnOf "y_of" "y_of" (defArgs s_y_of) (defBody s_y_of) (defScope s_y_of) .none kV22 dc22 pm22 an22 cd22 ct22, F_y_of := fun_mk (st := s_y_of) l22 c22 k22, g_y_of := PySem.W.mg_of X G a22, b_y_of := (fun_mk (st := s_y_of) l22 c22 k22).binds (ps := ["p"]) fun _ _ _ _ _ _ us hl => match us, hl with | [_], _ => rfl,
    A_show_point := f23, D_show_point := PySem.W.fnOf "show_point" "show_point" (defArgs s_show_point) (defBody s_show_point) (defScope s_show_point) .none kV23 dc23 pm23 an23 cd23 ct23, F_show_point := fun_mk (st := s_show_point) l23 c23 k23, g_show_point := PySem.W.mg_of X G a23, b_show_point := (fun_mk (st := s_show_point) l23 c23 k23).binds (ps := ["p"]) fun _ _ _ _ _ _ us hl => match us, hl with | [_], _ => rfl,
    A_law := fa, D_law := PySem.W.fnOf "law" "law" (defArgs s_law) (defBody s_law) (defScope s_law) .none kV24 dc24 pm24 an24 cd24 ct24, F_law := fun_mk (st := s_law) l24 c24 k24, g_law := PySem.W.mg_of X G a24, b_law := (fun_mk (st := s_law) l24 c24 k24).binds (ps := ["_law_script"]) fun _ _ _ _ _ _ us hl => match us, hl with | [_], _ => rfl,
    z_abs := PySem.W.mg_none_of X G z_abs,
    z_all := PySem.W.mg_none_of X G z_all,
    z_bool := PySem.W.mg_none_of X G z_bool,
    z_int := PySem.W.mg_none_of X G z_int,
    z_isinstance := PySem.W.mg_none_of X G z_isinstance,
    z_len := PySem.W.mg_none_of X G z_len,
    z_range := PySem.W.mg_none_of X G z_range,
    z_str := PySem.W.mg_none_of X G z_str,
    z_tuple := PySem.W.mg_none_of X G z_tuple,
    t_FIGURES := t_FIGURES, c_FIGURES := PySem.W.mg_of X G c_FIGURES,
    t_MOST_FIGURES := t_MOST_FIGURES, c_MOST_FIGURES := PySem.W.mg_of X G c_MOST_FIGURES }
  exact ⟨_, fun s v => .of_eq rfl, fun base _ _ => ok_law (P := l.prog) (w := w) (base := base) T⟩
theorem walk {l : PySem.W.OpenLaw} {q : Program} {loose : List Str} {XP : (Str → Option Value) → Heap → Prop} {YP : World → Heap → Prop} {d : DefRec} {K : Params → PySem.W.Frag} (hn : l.most = some 63) (hdf : d.params.defaults = [])
    (hY : ∀ (w : World) (h : Heap), YP w h → (K w.params).In h)
    (F : ∀ (w : World) (mg : Str → Option Value) (fa : Addr) (h : Heap), (K w.params).In h → h.Ns mainGlobals mg → mg d.name = some (.ref fa) →
      ∃ fd : FuncData, (∀ (s : Shared) (u : Value), BindsTo s fd ⟨[u], []⟩ [("_law_script", u)]) ∧ ∀ base : Heap, (K w.params).In base → base.Ns mainGlobals mg → FnOk l.prog w (K w.params) mg base CX0 5 fa fd ["_law_script"] (sp_law (K w.params))) :
    PySem.W.WalkO q loose XP YP l.row.toRowW d [] (fun f vs => PySem.call f vs) :=
  L2.walk_of (n := 63) (k := 5) (x := "_law_script") (CX := fun _ => CX0) (sp := fun w => sp_law (K w.params)) hn (by decide) hdf ⟨rfl, by decide, by decide⟩ hY F (fun _ H a ns hl _ hS => mk_law (X := fun _ => False) (law_true ns hl) ⟨.s (.of hS) .nil, List.nodup_nil, fun _ h => (nomatch h), fun _ h => h.elim⟩ fun _ _ => rfl) fun _ _ _ _ _ z => z
end Sc
open PySem PySem.W PyProof.Rows
set_option maxRecDepth 100000 in
set_option maxHeartbeats 0 in
theorem PySem.Challenge.cw_slidecut_k67_points_written_and_read_holds : PySem.Challenge.rw_slidecut_k67_points_written_and_read.Holds := by
  w_on; o_law; k_head; (case hw => w_witness2)
  k_fill
  refine Sc.walk (l := PySem.Challenge.rw_slidecut_k67_points_written_and_read) rfl rfl (fun w h Y => PySem.W.kIn_of Y) ?F
  case F =>
    intro w mg fa h KX G hmg
    refine' Sc.all_mk KX G hmg ?a0 ?l0 ?c0 ?k0 ?a1 ?l1 ?c1 ?k1 ?a2 ?l2 ?c2 ?k2 ?a3 ?l3 ?c3 ?k3 ?a4 ?l4 ?c4 ?k4 ?a5 ?l5 ?c5 ?k5 ?a6 ?l6 ?c6 ?k6 ?a7 ?l7 ?c7 ?k7 ?a8 ?l8 ?c8 ?k8 ?a9 ?l9 ?c9 ?k9 ?a10 ?l10 ?c10 ?k10 ?a11 ?l11 ?c11 ?k11 ?a12 ?l12 ?c12 ?k12 ?a13 ?l13 ?c13 ?k13 ?a14 ?l14 ?c14 ?k14 ?a15 ?l15 ?c15 ?k15 ?a16 ?l16 ?c16 ?k16 ?a17 ?l17 ?c17 ?k17 ?a18 ?l18 ?c18 ?k18 ?a19 ?l19 ?c19 ?k19 ?a20 ?l20 ?c20 ?k20 ?a21 ?l21 ?c21 ?k21 ?a22 ?l22 ?c22 ?k22 ?a23 ?l23 ?c23 ?k23 ?a24 ?l24 ?c24 ?k24 ?z_abs ?z_all ?z_bool ?z_int ?z_isinstance ?z_len ?z_range ?z_str ?z_tuple ?c_FIGURES ?c_MOST_FIGURES
    (case a0 => k_is)
    (case l0 => k_is)
    (case c0 => k_is)
    (case k0 => k_is)
    (case a1 => k_is)
    (case l1 => k_is)
    (case c1 => k_is)
    (case k1 => k_is)
    (case a2 => k_is)
    (case l2 => k_is)
    (case c2 => k_is)
    (case k2 => k_is)
    (case a3 => k_is)
    (case l3 => k_is)
    (case c3 => k_is)
    (case k3 => k_is)
    (case a4 => k_is)
    (case l4 => k_is)
    (case c4 => k_is)
    (case k4 => k_is)
    (case a5 => k_is)
    (case l5 => k_is)
    (case c5 => k_is)
    (case k5 => k_is)
    (case a6 => k_is)
    (case l6 => k_is)
    (case c6 => k_is)
    (case k6 => k_is)
    (case a7 => k_is)
    (case l7 => k_is)
    (case c7 => k_is)
    (case k7 => k_is)
    (case a8 => k_is)
    (case l8 => k_is)
    (case c8 => k_is)
    (case k8 => k_is)
    (case a9 => k_is)
    (case l9 => k_is)
    (case c9 => k_is)
    (case k9 => k_is)
    (case a10 => k_is)
    (case l10 => k_is)
    (case c10 => k_is)
    (case k10 => k_is)
    (case a11 => k_is)
    (case l11 => k_is)
    (case c11 => k_is)
    (case k11 => k_is)
    (case a12 => k_is)
    (case l12 => k_is)
    (case c12 => k_is)
    (case k12 => k_is)
    (case a13 => k_is)
    (case l13 => k_is)
    (case c13 => k_is)
    (case k13 => k_is)
    (case a14 => k_is)
    (case l14 => k_is)
    (case c14 => k_is)
    (case k14 => k_is)
    (case a15 => k_is)
    (case l15 => k_is)
    (case c15 => k_is)
    (case k15 => k_is)
    (case a16 => k_is)
    (case l16 => k_is)
    (case c16 => k_is)
    (case k16 => k_is)
    (case a17 => k_is)
    (case l17 => k_is)
    (case c17 => k_is)
    (case k17 => k_is)
    (case a18 => k_is)
    (case l18 => k_is)
    (case c18 => k_is)
    (case k18 => k_is)
    (case a19 => k_is)
    (case l19 => k_is)
    (case c19 => k_is)
    (case k19 => k_is)
    (case a20 => k_is)
    (case l20 => k_is)
    (case c20 => k_is)
    (case k20 => k_is)
    (case a21 => k_is)
    (case l21 => k_is)
    (case c21 => k_is)
    (case k21 => k_is)
    (case a22 => k_is)
    (case l22 => k_is)
    (case c22 => k_is)
    (case k22 => k_is)
    (case a23 => k_is)
    (case l23 => k_is)
    (case c23 => k_is)
    (case k23 => k_is)
    (case a24 => k_is)
    (case l24 => k_is)
    (case c24 => k_is)
    (case k24 => k_is)
    (case z_abs => k_is)
    (case z_all => k_is)
    (case z_bool => k_is)
    (case z_int => k_is)
    (case z_isinstance => k_is)
    (case z_len => k_is)
    (case z_range => k_is)
    (case z_str => k_is)
    (case z_tuple => k_is)
    (case c_FIGURES => k_is)
    (case c_MOST_FIGURES => k_is)
#print axioms PySem.Challenge.cw_slidecut_k67_points_written_and_read_holds
