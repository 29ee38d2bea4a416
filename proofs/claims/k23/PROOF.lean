import PyProof.Rows.All
import Wide.All
import OpenK.AllK
import Wide.FinOn
import HandS.ForMost
import HandS.Wide
import HandS.IsInst
import HandS.Style
import HandS.Deep
import HandS.TryOnly
import HandS.ExcOwn
import HandS.ExcIs
import HandS.WordsExc
import KE.DataMinMax
import HandS.TupLe
import HandS.TupSets
import PySem.Challenge.RW_slidecut_k23_pieces_and_where_they_lay
set_option Elab.async false
set_option maxRecDepth 100000
set_option maxHeartbeats 4000000
set_option linter.unusedVariables false
namespace Sc
open PySem PySem.Spec PyProof.Rows L2

/-! ### data in the heap -/
mutual
/-- v stands for the data d; no list of it is one of X -/
inductive Rep (K : PySem.W.Frag) (X : Addr → Prop) (H : Hp) : PyData → V → Prop
  | non : Rep K X H .none .non
  | bl (b : Bool) : Rep K X H (.bool b) (.bl b)
  | int (i : Int) : Rep K X H (.int i) (.int i)
  | str (x : Str) : Rep K X H (.str x) (.str x)
  | tup {a : Addr} {ds : List PyData} {vs : List V} : SqT K H a vs → Reps K X H ds vs → Rep K X H (.tuple ds) (.ref a)
  | lst {a : Addr} {ds : List PyData} {vs : List V} : ¬ X a → Rd H a (.lst vs) → Reps K X H ds vs → Rep K X H (.list ds) (.ref a)
inductive Reps (K : PySem.W.Frag) (X : Addr → Prop) (H : Hp) : List PyData → List V → Prop
  | nil : Reps K X H [] []
  | cons {d : PyData} {ds : List PyData} {v : V} {vs : List V} : Rep K X H d v → Reps K X H ds vs → Reps K X H (d :: ds) (v :: vs)
end

/-- what may not be written stands as it stood -/
def Keep (X : Addr → Prop) (H H' : Hp) : Prop :=
  (∀ a o, H a = some o → ¬ X a → H' a = some o) ∧ (∀ a vs, H a = some (.tup vs) → H' a = some (.tup vs)) ∧ (∀ a o u, H a = some (.frz o u) → H' a = some (.frz o u))
theorem Keep.refl {X : Addr → Prop} {H : Hp} : Keep X H H := ⟨fun _ _ h _ => h, fun _ _ h => h, fun _ _ _ h => h⟩
theorem Keep.same {X : Addr → Prop} {H H' : Hp} (s : Same H H') : Keep X H H' := ⟨fun _ _ h _ => s _ _ h, fun _ _ h => s _ _ h, fun _ _ _ h => s _ _ h⟩
theorem Keep.rd {X : Addr → Prop} {H H' : Hp} (k : Keep X H H') {a : Addr} {o : HO} (n : ¬ X a) (h : Rd H a o) : Rd H' a o := by
  rcases h with h | ⟨u, h⟩
  · exact .inl (k.1 _ _ h n)
  · exact .inr ⟨u, k.2.2 _ _ _ h⟩
theorem Keep.sqT {X : Addr → Prop} {K : PySem.W.Frag} {H H' : Hp} (k : Keep X H H') {a : Addr} {vs : List V} (h : SqT K H a vs) : SqT K H' a vs := by
  rcases h with (h | ⟨o, h⟩) | h
  · exact .inl (.inl (k.2.1 _ _ h))
  · exact .inl (.inr ⟨o, k.2.2 _ _ _ h⟩)
  · exact .inr h
theorem Keep.mono {X Y : Addr → Prop} {H H' : Hp} (k : Keep X H H') (h : ∀ a, X a → Y a) : Keep Y H H' := ⟨fun a o e n => k.1 a o e fun z => n (h a z), k.2.1, k.2.2⟩
theorem Keep.trans {X : Addr → Prop} {H H1 H2 : Hp} (k : Keep X H H1) (j : Keep X H1 H2) : Keep X H H2 := ⟨fun a o e n => j.1 a o (k.1 a o e n) n, fun a v e => j.2.1 a v (k.2.1 a v e), fun a o u e => j.2.2 a o u (k.2.2 a o u e)⟩

section
variable {K : PySem.W.Frag} {X Y : Addr → Prop} {H H' : Hp}
mutual
theorem Rep.keep (k : Keep X H H') : ∀ {d : PyData} {v : V}, Rep K X H d v → Rep K X H' d v
  | _, _, .non => .non
  | _, _, .bl b => .bl b
  | _, _, .int i => .int i
  | _, _, .str x => .str x
  | _, _, .tup h r => .tup (k.sqT h) (Reps.keep k r)
  | _, _, .lst n h r => .lst n (k.rd n h) (Reps.keep k r)
theorem Reps.keep (k : Keep X H H') : ∀ {d : List PyData} {v : List V}, Reps K X H d v → Reps K X H' d v
  | _, _, .nil => .nil
  | _, _, .cons r t => .cons (Rep.keep k r) (Reps.keep k t)
end
mutual
theorem Rep.anti (h : ∀ a, Y a → X a) : ∀ {d : PyData} {v : V}, Rep K X H d v → Rep K Y H d v
  | _, _, .non => .non
  | _, _, .bl b => .bl b
  | _, _, .int i => .int i
  | _, _, .str x => .str x
  | _, _, .tup q r => .tup q (Reps.anti h r)
  | _, _, .lst n q r => .lst (fun z => n (h _ z)) q (Reps.anti h r)
theorem Reps.anti (h : ∀ a, Y a → X a) : ∀ {d : List PyData} {v : List V}, Reps K X H d v → Reps K Y H d v
  | _, _, .nil => .nil
  | _, _, .cons r t => .cons (Rep.anti h r) (Reps.anti h t)
end
theorem rd_nn {a : Addr} {o : HO} (h : Rd H a o) : H a ≠ none := by
  rcases h with h | ⟨u, h⟩ <;> rw [h] <;> exact fun z => nomatch z
mutual
/-- a new address may be forbidden -/
theorem Rep.more {p : Addr} (hp : H p = none) : ∀ {d : PyData} {v : V}, Rep K X H d v → Rep K (fun a => X a ∨ a = p) H d v
  | _, _, .non => .non
  | _, _, .bl b => .bl b
  | _, _, .int i => .int i
  | _, _, .str x => .str x
  | _, _, .tup q r => .tup q (Reps.more hp r)
  | _, _, .lst n q r => .lst (fun z => z.elim n fun e => rd_nn q (e ▸ hp)) q (Reps.more hp r)
theorem Reps.more {p : Addr} (hp : H p = none) : ∀ {d : List PyData} {v : List V}, Reps K X H d v → Reps K (fun a => X a ∨ a = p) H d v
  | _, _, .nil => .nil
  | _, _, .cons r t => .cons (Rep.more hp r) (Reps.more hp t)
end
mutual
theorem Rep.dp : ∀ {d : PyData} {v : V}, Rep K X H d v → Dp K H v d
  | _, _, .non => .non
  | _, _, .bl b => .bl b
  | _, _, .int i => .int i
  | _, _, .str x => .str x
  | _, _, .tup q r => .tup q (Reps.dp r)
  | _, _, .lst n q r => .lst (.inl q) (Reps.dp r)
theorem Reps.dp : ∀ {d : List PyData} {v : List V}, Reps K X H d v → DpAll K H v d
  | _, _, .nil => .nil
  | _, _, .cons r t => .cons (Rep.dp r) (Reps.dp t)
end
theorem Reps.length : ∀ {ds : List PyData} {vs : List V}, Reps K X H ds vs → vs.length = ds.length
  | _, _, .nil => rfl
  | _, _, .cons _ t => congrArg (· + 1) (Reps.length t)
theorem Reps.get : ∀ {ds : List PyData} {vs : List V} {i : Nat} {d : PyData}, Reps K X H ds vs → ds[i]? = some d → ∃ v, vs[i]? = some v ∧ Rep K X H d v
  | _, _, _, _, .nil, e => by simp at e
  | _, _, 0, _, .cons r _, e => by simp at e; subst e; exact ⟨_, rfl, r⟩
  | _, _, i + 1, d, .cons _ t, e => by
    obtain ⟨v, h1, h2⟩ := Reps.get (i := i) t (by simpa using e)
    exact ⟨v, by simpa using h1, h2⟩
theorem Reps.get' : ∀ {ds : List PyData} {vs : List V} {i : Nat} {v : V}, Reps K X H ds vs → vs[i]? = some v → ∃ d, ds[i]? = some d ∧ Rep K X H d v
  | _, _, _, _, .nil, e => by simp at e
  | _, _, 0, _, .cons r _, e => by simp at e; subst e; exact ⟨_, rfl, r⟩
  | _, _, i + 1, d, .cons _ t, e => by
    obtain ⟨v, h1, h2⟩ := Reps.get' (i := i) t (by simpa using e)
    exact ⟨v, by simpa using h1, h2⟩
theorem Reps.append : ∀ {d1 d2 : List PyData} {v1 v2 : List V}, Reps K X H d1 v1 → Reps K X H d2 v2 → Reps K X H (d1 ++ d2) (v1 ++ v2)
  | _, _, _, _, .nil, s => s
  | _, _, _, _, .cons r t, s => .cons r (Reps.append t s)
theorem Reps.take : ∀ {d1 : List PyData} {v1 : List V} (n : Nat), Reps K X H d1 v1 → Reps K X H (d1.take n) (v1.take n)
  | _, _, 0, _ => .nil
  | _, _, _ + 1, .nil => .nil
  | _, _, n + 1, .cons r t => .cons r (Reps.take n t)
theorem Reps.drop : ∀ {d1 : List PyData} {v1 : List V} (n : Nat), Reps K X H d1 v1 → Reps K X H (d1.drop n) (v1.drop n)
  | _, _, 0, h => h
  | _, _, _ + 1, .nil => .nil
  | _, _, n + 1, .cons _ t => Reps.drop n t
theorem Reps.set {d : PyData} {v : V} (q : Rep K X H d v) : ∀ {d1 : List PyData} {v1 : List V} (n : Nat), Reps K X H d1 v1 → Reps K X H (d1.set n d) (v1.set n v)
  | _, _, _, .nil => .nil
  | _, _, 0, .cons _ t => .cons q t
  | _, _, n + 1, .cons r t => .cons r (Reps.set q n t)
theorem Reps.reverse {ds : List PyData} {vs : List V} (h : Reps K X H ds vs) : Reps K X H ds.reverse vs.reverse := by
  induction ds generalizing vs with
  | nil => cases h; exact .nil
  | cons d ds ih => cases h with | cons r t => rw [List.reverse_cons, List.reverse_cons]; exact (ih t).append (.cons r .nil)
theorem Reps.ints : ∀ {ns : List Int}, Reps K X H (ns.map PyData.int) (ns.map V.int)
  | [] => .nil
  | n :: ns => .cons (.int n) Reps.ints
theorem Reps.toInts : ∀ {ns : List Int} {vs : List V}, Reps K X H (ns.map PyData.int) vs → vs = ns.map V.int
  | [], _, .nil => rfl
  | n :: ns, _, .cons (.int _) t => by rw [List.map_cons, Reps.toInts t]
theorem Reps.toBools : ∀ {ns : List Bool} {vs : List V}, Reps K X H (ns.map PyData.bool) vs → vs = ns.map V.bl
  | [], _, .nil => rfl
  | n :: ns, _, .cons (.bl _) t => by rw [List.map_cons, Reps.toBools t]
end

/-! ### Lean data as Python data -/
class Py (α : Type) where
  enc : α → PyData
open Py (enc)
instance : Py Int := ⟨.int⟩
instance : Py Bool := ⟨.bool⟩
instance : Py Unit := ⟨fun _ => .none⟩
instance : Py Str := ⟨.str⟩
structure T1 (α : Type) where
  a : α
  deriving DecidableEq
structure T2 (α β : Type) where
  a : α
  b : β
  deriving DecidableEq
structure T3 (α β γ : Type) where
  a : α
  b : β
  c : γ
  deriving DecidableEq
structure T4 (α β γ δ : Type) where
  a : α
  b : β
  c : γ
  d : δ
  deriving DecidableEq
structure T5 (α β γ δ ε : Type) where
  a : α
  b : β
  c : γ
  d : δ
  e : ε
  deriving DecidableEq
section
variable {α β γ δ ε : Type}
instance [Py α] : Py (T1 α) := ⟨fun x => .tuple [enc x.a]⟩
instance [Py α] [Py β] : Py (T2 α β) := ⟨fun x => .tuple [enc x.a, enc x.b]⟩
instance [Py α] [Py β] [Py γ] : Py (T3 α β γ) := ⟨fun x => .tuple [enc x.a, enc x.b, enc x.c]⟩
instance [Py α] [Py β] [Py γ] [Py δ] : Py (T4 α β γ δ) := ⟨fun x => .tuple [enc x.a, enc x.b, enc x.c, enc x.d]⟩
instance [Py α] [Py β] [Py γ] [Py δ] [Py ε] : Py (T5 α β γ δ ε) := ⟨fun x => .tuple [enc x.a, enc x.b, enc x.c, enc x.d, enc x.e]⟩
instance [Py α] : Py (List α) := ⟨fun xs => .list (xs.map enc)⟩
instance [Py α] : Py (Option α) := ⟨fun x => match x with | none => .none | some y => enc y⟩
end

/-- the script -/
def SqX (K : PySem.W.Frag) (X : Addr → Prop) (H : Hp) (ns : List Int) (v : V) : Prop := ∃ a, v = .ref a ∧ ((¬ X a ∧ Rd H a (.lst (ns.map V.int))) ∨ ∀ H', SqL K H' a (ns.map V.int))
section
variable {K : PySem.W.Frag} {X Y : Addr → Prop} {H H' : Hp} {ns : List Int} {v : V}
theorem SqX.keep (k : Keep X H H') (h : SqX K X H ns v) : SqX K X H' ns v := by
  obtain ⟨a, e, h⟩ := h
  exact ⟨a, e, h.imp (fun z => ⟨z.1, k.rd z.1 z.2⟩) id⟩
theorem SqX.anti (g : ∀ a, Y a → X a) (h : SqX K X H ns v) : SqX K Y H ns v := by
  obtain ⟨a, e, h⟩ := h
  exact ⟨a, e, h.imp (fun z => ⟨fun y => z.1 (g _ y), z.2⟩) id⟩
theorem SqX.more {p : Addr} (hp : H p = none) (h : SqX K X H ns v) : SqX K (fun a => X a ∨ a = p) H ns v := by
  obtain ⟨a, e, h⟩ := h
  exact ⟨a, e, h.imp (fun z => ⟨fun y => y.elim z.1 fun e => rd_nn z.2 (e ▸ hp), z.2⟩) id⟩
theorem SqX.sq (h : SqX K X H ns v) : ∃ a, v = .ref a ∧ SqL K H a (ns.map V.int) := by
  obtain ⟨a, e, h⟩ := h
  exact ⟨a, e, h.elim (fun z => .inl z.2) fun z => z H⟩
theorem SqX.of {a : Addr} (h : SqL K H a (ns.map V.int)) : SqX K (fun _ => False) H ns (.ref a) := ⟨a, rfl, h.elim (fun z => .inl ⟨id, z⟩) fun z => .inr fun _ => .inr z⟩
end

/-! ### the state of a def's body -/
/-- an object that the body may write -/
inductive MO where
  | lst (ds : List PyData)
  | lstZ (Z : Addr → Prop) (ds : List PyData)
  | any
/-- an object of a list -/
abbrev ml {α : Type} [Py α] (xs : List α) : MO := .lst (xs.map enc)
/-- a slot: nothing known, data, an object that may be written; tmp: such an object in no slot -/
inductive Sl where
  | unk
  | scr (ns : List Int)
  | ref (a : Addr)
  | imm (d : PyData)
  | fix (Z : Addr → Prop) (d : PyData)
  | fixN (Z : Addr → Prop) (d : PyData)
  | mu (p : Addr) (o : MO)
  | tmp (p : Addr) (o : MO)
def Sl.ad : Sl → Option Addr
  | .mu p _ => some p
  | .tmp p _ => some p
  | _ => none
def muts (Γ : List Sl) : List Addr := Γ.filterMap Sl.ad
/-- a set of addresses that a new list is not in -/
def Frz (H : Hp) (b : Addr) : Prop := ∃ o u, H b = some (.frz o u)
abbrev NewX (X Z : Addr → Prop) (H : Hp) : Addr → Prop := fun b => X b ∨ ¬ Z b ∨ Frz H b
mutual
theorem Rep.keepF {K : PySem.W.Frag} {X Z : Addr → Prop} {H H' : Hp} (k : Keep X H H') : ∀ {d : PyData} {v : V}, Rep K (NewX X Z H) H d v → Rep K (NewX X Z H') H' d v
  | _, _, .non => .non
  | _, _, .bl b => .bl b
  | _, _, .int i => .int i
  | _, _, .str x => .str x
  | _, _, .tup h r => .tup (k.sqT h) (Reps.keepF k r)
  | _, _, .lst n h r => by
    rcases h with h | ⟨o, h⟩
    · have h' := k.1 _ _ h fun z => n (.inl z)
      exact .lst (fun z => z.elim (fun z => n (.inl z)) fun z => z.elim (fun z => n (.inr (.inl z))) fun ⟨o, u, z⟩ => by rw [h'] at z; cases z) (.inl h') (Reps.keepF k r)
    · exact (n (.inr (.inr ⟨_, _, h⟩))).elim
theorem Reps.keepF {K : PySem.W.Frag} {X Z : Addr → Prop} {H H' : Hp} (k : Keep X H H') : ∀ {d : List PyData} {v : List V}, Reps K (NewX X Z H) H d v → Reps K (NewX X Z H') H' d v
  | _, _, .nil => .nil
  | _, _, .cons r t => .cons (Rep.keepF k r) (Reps.keepF k t)
end
/-- the object at p is o -/
def MRep (K : PySem.W.Frag) (X : Addr → Prop) (H : Hp) (p : Addr) : MO → Prop
  | .lst ds => ∃ vs, H p = some (.lst vs) ∧ Reps K X H ds vs
  | .lstZ Z ds => ∃ vs, H p = some (.lst vs) ∧ Reps K (NewX X Z H) H ds vs
  | .any => ∃ vs, H p = some (.lst vs)
def SlOk (K : PySem.W.Frag) (X : Addr → Prop) (H : Hp) (v : Option (Option V)) : Sl → Prop
  | .unk => True
  | .scr ns => ∃ u, v = some (some u) ∧ SqX K X H ns u
  | .ref a => v = some (some (.ref a))
  | .imm d => ∃ u, v = some (some u) ∧ Rep K X H d u
  | .fix Z d => ∃ u, v = some (some u) ∧ Rep K (fun b => X b ∨ ¬ Z b) H d u
  | .fixN Z d => ∃ u, v = some (some u) ∧ Rep K (NewX X Z H) H d u
  | .mu p o => v = some (some (.ref p)) ∧ MRep K X H p o
  | .tmp p o => MRep K X H p o
/-- the known ones: the written part, what may be written at the entry, the heap there, whose objects the body may change -/
structure Cn where
  K : PySem.W.Frag
  X0 : Addr → Prop
  H0 : Hp
  P0 : List Addr
  n : Nat
structure Lo (C : Cn) (X : Addr → Prop) (H : Hp) (σ : L2.St) (Γ : List Sl) : Prop where
  len : σ.length = C.n
  at_ : ∀ (i : Nat) (s : Sl), Γ[i]? = some s → SlOk C.K X H σ[i]? s
  nd : (muts Γ).Nodup
  mx : ∀ p ∈ muts Γ, X p
  m0 : ∀ a, C.X0 a → X a
  xd : ∀ a, X a → H a ≠ none
  base : ∀ a o, C.H0 a = some o → a ∉ C.P0 → H a = some o
  dom : ∀ a, C.H0 a ≠ none → H a ≠ none
  own : ∀ p ∈ muts Γ, p ∈ C.P0 ∨ C.H0 p = none
  tf : ∀ a ∈ C.P0, (∀ vs, C.H0 a ≠ some (.tup vs)) ∧ (∀ o u, C.H0 a ≠ some (.frz o u))

theorem MRep.keep {K : PySem.W.Frag} {X : Addr → Prop} {H H' : Hp} {p : Addr} (k : Keep X H H') (e : H' p = H p) : ∀ {o : MO}, MRep K X H p o → MRep K X H' p o
  | .lst _, ⟨vs, h, r⟩ => ⟨vs, e.trans h, r.keep k⟩
  | .lstZ _ _, ⟨vs, h, r⟩ => ⟨vs, e.trans h, r.keepF k⟩
  | .any, ⟨vs, h⟩ => ⟨vs, e.trans h⟩
theorem MRep.anti {K : PySem.W.Frag} {X Y : Addr → Prop} {H : Hp} {p : Addr} (h : ∀ a, Y a → X a) : ∀ {o : MO}, MRep K X H p o → MRep K Y H p o
  | .lst _, ⟨vs, q, r⟩ => ⟨vs, q, r.anti h⟩
  | .lstZ _ _, ⟨vs, q, r⟩ => ⟨vs, q, r.anti fun a z => z.imp (h a) id⟩
  | .any, h => h
theorem MRep.more {K : PySem.W.Frag} {X : Addr → Prop} {H : Hp} {p q : Addr} (h : H q = none) : ∀ {o : MO}, MRep K X H p o → MRep K (fun a => X a ∨ a = q) H p o
  | .lst _, ⟨vs, e, r⟩ => ⟨vs, e, r.more h⟩
  | .lstZ _ _, ⟨vs, e, r⟩ => ⟨vs, e, (r.more h).anti fun a z => z.elim (fun z => z.elim (fun z => .inl (.inl z)) .inr) fun z => .inl (.inr z)⟩
  | .any, h => h
theorem MRep.nn {K : PySem.W.Frag} {X : Addr → Prop} {H : Hp} {p : Addr} : ∀ {o : MO}, MRep K X H p o → H p ≠ none
  | .lst _, ⟨vs, e, r⟩ => by rw [e]; exact fun z => nomatch z
  | .lstZ _ _, ⟨vs, e, r⟩ => by rw [e]; exact fun z => nomatch z
  | .any, ⟨vs, e⟩ => by rw [e]; exact fun z => nomatch z
theorem MRep.ntup {K : PySem.W.Frag} {X : Addr → Prop} {H : Hp} {p : Addr} : ∀ {o : MO}, MRep K X H p o → (∀ vs, H p ≠ some (.tup vs)) ∧ (∀ u w, H p ≠ some (.frz u w))
  | .lst _, ⟨vs, e, r⟩ => by
    rw [e]
    constructor
    · intro _ z; cases z
    · intro _ _ z; cases z
  | .lstZ _ _, ⟨vs, e, r⟩ => by
    rw [e]
    constructor
    · intro _ z; cases z
    · intro _ _ z; cases z
  | .any, ⟨vs, e⟩ => by
    rw [e]
    constructor
    · intro _ z; cases z
    · intro _ _ z; cases z

theorem mem_muts {Γ : List Sl} {p : Addr} : p ∈ muts Γ ↔ ∃ (i : Nat) (s : Sl), Γ[i]? = some s ∧ s.ad = some p := by
  unfold muts
  rw [List.mem_filterMap]
  constructor
  · rintro ⟨s, hs, e⟩
    obtain ⟨i, hi⟩ := List.getElem?_of_mem hs
    exact ⟨i, s, hi, e⟩
  · rintro ⟨i, s, hi, e⟩
    exact ⟨s, List.mem_of_getElem? hi, e⟩

section
variable {C : Cn} {X : Addr → Prop} {H H' : Hp} {σ : L2.St} {Γ : List Sl}
theorem SlOk.mrep {K : PySem.W.Frag} {v : Option (Option V)} {s : Sl} {p : Addr} (h : SlOk K X H v s) (e : s.ad = some p) : ∃ o, MRep K X H p o := by
  cases s with
  | unk => cases e
  | scr ns => cases e
  | ref a => cases e
  | imm d => cases e
  | fix Z d => cases e
  | fixN Z d => cases e
  | mu q o => cases e; exact ⟨o, h.2⟩
  | tmp q o => cases e; exact ⟨o, h⟩
theorem SlOk.keep {K : PySem.W.Frag} {v : Option (Option V)} (k : Keep X H H') : ∀ {s : Sl}, (∀ p, s.ad = some p → H' p = H p) → SlOk K X H v s → SlOk K X H' v s
  | .unk, _, _ => trivial
  | .scr _, _, ⟨u, e, r⟩ => ⟨u, e, r.keep k⟩
  | .ref _, _, e => e
  | .imm _, _, ⟨u, e, r⟩ => ⟨u, e, r.keep k⟩
  | .fix _ _, _, ⟨u, e, r⟩ => ⟨u, e, r.keep (k.mono fun _ => .inl)⟩
  | .fixN _ _, _, ⟨u, e, r⟩ => ⟨u, e, r.keepF k⟩
  | .mu p _, g, ⟨e, r⟩ => ⟨e, r.keep k (g p rfl)⟩
  | .tmp p _, g, r => MRep.keep k (g p rfl) r
theorem SlOk.anti {K : PySem.W.Frag} {Y : Addr → Prop} {v : Option (Option V)} (h : ∀ a, Y a → X a) : ∀ {s : Sl}, SlOk K X H v s → SlOk K Y H v s
  | .unk, _ => trivial
  | .scr _, ⟨u, e, r⟩ => ⟨u, e, r.anti h⟩
  | .ref _, e => e
  | .imm _, ⟨u, e, r⟩ => ⟨u, e, r.anti h⟩
  | .fix _ _, ⟨u, e, r⟩ => ⟨u, e, r.anti fun a z => z.imp (h a) id⟩
  | .fixN _ _, ⟨u, e, r⟩ => ⟨u, e, r.anti fun a z => z.imp (h a) id⟩
  | .mu p _, ⟨e, r⟩ => ⟨e, r.anti h⟩
  | .tmp p _, r => MRep.anti h r
theorem SlOk.more {K : PySem.W.Frag} {v : Option (Option V)} {q : Addr} (h : H q = none) : ∀ {s : Sl}, SlOk K X H v s → SlOk K (fun a => X a ∨ a = q) H v s
  | .unk, _ => trivial
  | .scr _, ⟨u, e, r⟩ => ⟨u, e, r.more h⟩
  | .ref _, e => e
  | .imm _, ⟨u, e, r⟩ => ⟨u, e, r.more h⟩
  | .fix _ _, ⟨u, e, r⟩ => ⟨u, e, (r.more h).anti fun a z => z.elim (fun z => z.elim (fun z => .inl (.inl z)) .inr) fun z => .inl (.inr z)⟩
  | .fixN _ _, ⟨u, e, r⟩ => ⟨u, e, (r.more h).anti fun a z => z.elim (fun z => z.elim (fun z => .inl (.inl z)) .inr) fun z => .inl (.inr z)⟩
  | .mu p _, ⟨e, r⟩ => ⟨e, r.more h⟩
  | .tmp p _, r => MRep.more h r
theorem Lo.mem (L : Lo C X H σ Γ) {p : Addr} (h : p ∈ muts Γ) : ∃ o, MRep C.K X H p o := by
  obtain ⟨i, s, hi, e⟩ := mem_muts.mp h
  exact (L.at_ i s hi).mrep e
theorem Lo.same (L : Lo C X H σ Γ) (s : Same H H') : Lo C X H' σ Γ := by
  have hd : ∀ a, H a ≠ none → H' a = H a := fun a h => by
    cases e : H a with
    | none => exact (h e).elim
    | some o => exact s a o e
  refine ⟨L.len, fun i t hi => (L.at_ i t hi).keep (.same s) fun p e => hd p ?_, L.nd, L.mx, L.m0, fun a h => ?_, fun a o e n => s _ _ (L.base a o e n), fun a h => ?_, L.own, L.tf⟩
  · obtain ⟨o, r⟩ := (L.at_ i t hi).mrep e
    exact r.nn
  · rw [hd a (L.xd a h)]; exact L.xd a h
  · rw [hd a (L.dom a h)]; exact L.dom a h
theorem nodup_setS {s0 : Sl} (e0 : s0.ad = none) : ∀ {Γ : List Sl} {i : Nat}, (muts Γ).Nodup → (muts (Γ.set i s0)).Nodup
  | [], _, h => h
  | s :: Γ, 0, h => by
    refine List.Sublist.nodup ?_ h
    show (List.filterMap Sl.ad (s0 :: Γ)).Sublist (List.filterMap Sl.ad (s :: Γ))
    rw [List.filterMap_cons, e0]
    show (List.filterMap Sl.ad Γ).Sublist _
    rw [List.filterMap_cons]
    cases s.ad with
    | none => exact List.Sublist.refl _
    | some p => exact List.sublist_cons_self _ _
  | s :: Γ, i + 1, h => by
    have h' : (List.filterMap Sl.ad (s :: Γ)).Nodup := h
    show (List.filterMap Sl.ad (s :: Γ.set i s0)).Nodup
    rw [List.filterMap_cons] at h' ⊢
    cases e : s.ad with
    | none =>
      rw [e] at h'
      exact nodup_setS e0 (i := i) h'
    | some p =>
      rw [e] at h'
      obtain ⟨n1, n2⟩ := List.nodup_cons.mp h'
      refine List.nodup_cons.mpr ⟨fun hp => n1 ?_, nodup_setS e0 (i := i) n2⟩
      obtain ⟨t, ht, et⟩ := List.mem_filterMap.mp hp
      rcases List.mem_or_eq_of_mem_set ht with q | q
      · exact List.mem_filterMap.mpr ⟨t, q, et⟩
      · subst q; rw [e0] at et; cases et
theorem nodup_set {Γ : List Sl} {i : Nat} {d : PyData} (h : (muts Γ).Nodup) : (muts (Γ.set i (.imm d))).Nodup := nodup_setS rfl h
theorem muts_setS {s0 : Sl} (e0 : s0.ad = none) {Γ : List Sl} {i : Nat} {p : Addr} (hp : p ∈ muts (Γ.set i s0)) : p ∈ muts Γ := by
  obtain ⟨j, s, hj, e⟩ := mem_muts.mp hp
  by_cases z : j = i
  · subst z
    by_cases hi : j < Γ.length
    · rw [List.getElem?_set_self hi] at hj
      cases hj; rw [e0] at e; cases e
    · rw [List.getElem?_eq_none_iff.mpr (by rw [List.length_set]; omega)] at hj
      cases hj
  · rw [List.getElem?_set_ne (Ne.symm z)] at hj
    exact mem_muts.mpr ⟨j, s, hj, e⟩
theorem muts_set_imm {Γ : List Sl} {i : Nat} {d : PyData} {p : Addr} (hp : p ∈ muts (Γ.set i (.imm d))) : p ∈ muts Γ := by
  obtain ⟨j, s, hj, e⟩ := mem_muts.mp hp
  by_cases z : j = i
  · subst z
    by_cases hi : j < Γ.length
    · rw [List.getElem?_set_self hi] at hj
      cases hj; cases e
    · rw [List.getElem?_eq_none_iff.mpr (by rw [List.length_set]; omega)] at hj
      cases hj
  · rw [List.getElem?_set_ne (Ne.symm z)] at hj
    exact mem_muts.mpr ⟨j, s, hj, e⟩
/-- a value is stored -/
theorem Lo.set (L : Lo C X H σ Γ) {i : Nat} {v : V} {d : PyData} (r : Rep C.K X H d v) (hi : i < C.n) : Lo C X H (σ.set i (some v)) (Γ.set i (.imm d)) := by
  refine ⟨by rw [List.length_set]; exact L.len, fun j s hj => ?_, nodup_set L.nd, fun p hp => L.mx p (muts_set_imm hp), L.m0, L.xd, L.base, L.dom, fun p hp => L.own p (muts_set_imm hp), L.tf⟩
  by_cases z : j = i
  · subst z
    have hlt : j < Γ.length := by
      have h2 := (List.getElem?_eq_some_iff.mp hj).1
      rw [List.length_set] at h2; exact h2
    rw [List.getElem?_set_self hlt] at hj
    cases hj
    exact ⟨v, List.getElem?_set_self (by rw [L.len]; exact hi), r⟩
  · rw [List.getElem?_set_ne (Ne.symm z)] at hj
    rw [List.getElem?_set_ne (Ne.symm z)]
    exact L.at_ j s hj
end

section
variable {C : Cn} {X : Addr → Prop} {H H' : Hp} {σ : L2.St} {Γ Γ' : List Sl}
/-- a value that is no data is stored, or none -/
theorem Lo.setS (L : Lo C X H σ Γ) {i : Nat} {v : Option V} {s : Sl} (e : s.ad = none) (r : SlOk C.K X H (some v) s) (hi : i < C.n) : Lo C X H (σ.set i v) (Γ.set i s) := by
  refine ⟨by rw [List.length_set]; exact L.len, fun j t hj => ?_, nodup_setS e L.nd, fun p hp => L.mx p (muts_setS e hp), L.m0, L.xd, L.base, L.dom, fun p hp => L.own p (muts_setS e hp), L.tf⟩
  by_cases z : j = i
  · subst z
    have hlt : j < Γ.length := by
      have h2 := (List.getElem?_eq_some_iff.mp hj).1
      rw [List.length_set] at h2; exact h2
    rw [List.getElem?_set_self hlt] at hj
    cases hj
    rw [List.getElem?_set_self (by rw [L.len]; exact hi)]
    exact r
  · rw [List.getElem?_set_ne (Ne.symm z)] at hj
    rw [List.getElem?_set_ne (Ne.symm z)]
    exact L.at_ j t hj
end
/-- a weaker description: slots forgotten, the last ones dropped -/
def Wk : List Sl → List Sl → Prop
  | _, [] => True
  | [], s' :: Γ' => s' = .unk ∧ Wk [] Γ'
  | s :: Γ, s' :: Γ' => (s' = s ∨ s' = .unk) ∧ Wk Γ Γ'
theorem Wk.e {Γ : List Sl} : Wk Γ [] := by cases Γ <;> exact trivial
theorem Wk.k {s : Sl} {Γ Γ' : List Sl} (h : Wk Γ Γ') : Wk (s :: Γ) (s :: Γ') := ⟨.inl rfl, h⟩
theorem Wk.d {s : Sl} {Γ Γ' : List Sl} (h : Wk Γ Γ') : Wk (s :: Γ) (.unk :: Γ') := ⟨.inr rfl, h⟩
theorem Wk.get : ∀ {Γ Γ' : List Sl}, Wk Γ Γ' → ∀ {i : Nat} {s : Sl}, Γ'[i]? = some s → s = .unk ∨ Γ[i]? = some s
  | _, [], _, _, _, e => by simp at e
  | [], s' :: Γ', ⟨h, t⟩, 0, s, e => by simp at e; subst e; exact .inl h
  | [], s' :: Γ', ⟨h, t⟩, i + 1, s, e => by
    rcases Wk.get t (i := i) (s := s) (by simpa using e) with z | z
    · exact .inl z
    · simp at z
  | s0 :: Γ, s' :: Γ', ⟨h, t⟩, 0, s, e => by
    simp at e; subst e
    rcases h with h | h
    · subst h; exact .inr rfl
    · exact .inl h
  | s0 :: Γ, s' :: Γ', ⟨h, t⟩, i + 1, s, e => by
    rcases Wk.get t (i := i) (s := s) (by simpa using e) with z | z
    · exact .inl z
    · exact .inr (by simpa using z)
theorem Wk.sub : ∀ {Γ Γ' : List Sl}, Wk Γ Γ' → (muts Γ').Sublist (muts Γ)
  | _, [], _ => List.nil_sublist _
  | [], s' :: Γ', ⟨h, t⟩ => by
    subst h
    exact Wk.sub (Γ := []) (Γ' := Γ') t
  | s0 :: Γ, s' :: Γ', ⟨h, t⟩ => by
    have ih := Wk.sub t
    unfold muts at ih ⊢
    rw [List.filterMap_cons, List.filterMap_cons]
    rcases h with h | h
    · subst h
      cases s'.ad with
      | none => exact ih
      | some p => exact ih.cons_cons _
    · subst h
      show (List.filterMap Sl.ad Γ').Sublist _
      cases s0.ad with
      | none => exact ih
      | some p => exact ih.cons _

/-- what a def tells: data, or a new object of the caller's own -/
inductive Rs where
  | imm (d : PyData)
  | immN (Z : Addr → Prop) (d : PyData)
  | new (o : MO)
def RRep (K : PySem.W.Frag) (X : Addr → Prop) (H H' : Hp) : Rs → V → Prop
  | .imm d, v => Rep K X H' d v
  | .immN Z d, v => Rep K (NewX X Z H') H' d v
  | .new o, v => ∃ p, v = .ref p ∧ H p = none ∧ MRep K (fun a => X a ∨ a = p) H' p o
structure Fin (K : PySem.W.Frag) (X : Addr → Prop) (H : Hp) (P0 : List Addr) (ps : List (Addr × MO)) (rs : Rs) (v : V) (H' : Hp) : Prop where
  base : ∀ a o, H a = some o → a ∉ P0 → H' a = some o
  dom : ∀ a, H a ≠ none → H' a ≠ none
  mu : ∀ q ∈ ps, MRep K X H' q.1 q.2
  res : RRep K X H H' rs v
def As (K : PySem.W.Frag) (X : Addr → Prop) (H : Hp) : List Sl → List V → Prop
  | [], vs => vs = []
  | s :: Γ, vs => ∃ v r, vs = v :: r ∧ SlOk K X H (some (some v)) s ∧ As K X H Γ r
theorem As.nil {K : PySem.W.Frag} {X : Addr → Prop} {H : Hp} : As K X H [] [] := rfl
theorem As.im {K : PySem.W.Frag} {X : Addr → Prop} {H : Hp} {d : PyData} {v : V} {Γ : List Sl} {vs : List V} (r : Rep K X H d v) (t : As K X H Γ vs) : As K X H (.imm d :: Γ) (v :: vs) := ⟨v, vs, rfl, ⟨v, rfl, r⟩, t⟩
theorem As.m {K : PySem.W.Frag} {X : Addr → Prop} {H : Hp} {p : Addr} {o : MO} {Γ : List Sl} {vs : List V} (r : MRep K X H p o) (t : As K X H Γ vs) : As K X H (.mu p o :: Γ) (.ref p :: vs) := ⟨_, vs, rfl, ⟨rfl, r⟩, t⟩
theorem As.s {K : PySem.W.Frag} {X : Addr → Prop} {H : Hp} {ns : List Int} {v : V} {Γ : List Sl} {vs : List V} (r : SqX K X H ns v) (t : As K X H Γ vs) : As K X H (.scr ns :: Γ) (v :: vs) := ⟨v, vs, rfl, ⟨v, rfl, r⟩, t⟩
/-- what a def asks of its arguments -/
structure Cond (K : PySem.W.Frag) (X : Addr → Prop) (H : Hp) (Γ : List Sl) (vs : List V) : Prop where
  as : As K X H Γ vs
  nd : (muts Γ).Nodup
  mx : ∀ p ∈ muts Γ, X p
  xd : ∀ a, X a → H a ≠ none
theorem As.len {K : PySem.W.Frag} {X : Addr → Prop} {H : Hp} : ∀ {Γ : List Sl} {vs : List V}, As K X H Γ vs → vs.length = Γ.length
  | [], _, h => by subst h; rfl
  | s :: Γ, _, ⟨v, r, e, _, t⟩ => by subst e; exact congrArg (· + 1) (As.len t)
theorem As.get {K : PySem.W.Frag} {X : Addr → Prop} {H : Hp} : ∀ {Γ : List Sl} {vs : List V}, As K X H Γ vs → ∀ {i : Nat} {s : Sl}, Γ[i]? = some s → ∃ v, vs[i]? = some v ∧ SlOk K X H (some (some v)) s
  | [], _, h, _, _, e => by simp at e
  | s :: Γ, _, ⟨v, r, e, h, t⟩, 0, s', e' => by subst e; simp at e'; subst e'; exact ⟨v, rfl, h⟩
  | s :: Γ, _, ⟨v, r, e, h, t⟩, i + 1, s', e' => by
    subst e
    obtain ⟨u, h1, h2⟩ := As.get t (i := i) (s := s') (by simpa using e')
    exact ⟨u, by simpa using h1, h2⟩
theorem Cond.len {K : PySem.W.Frag} {X : Addr → Prop} {H : Hp} {Γ : List Sl} {vs : List V} (c : Cond K X H Γ vs) : vs.length = Γ.length := c.as.len
theorem muts_unk : ∀ {Γ : List Sl} (n : Nat), muts (Γ ++ List.replicate n .unk) = muts Γ := fun {Γ} n => by
  unfold muts
  rw [List.filterMap_append]
  have : ∀ n, List.filterMap Sl.ad (List.replicate n Sl.unk) = [] := fun n => by
    induction n with
    | zero => rfl
    | succ n ih => rw [List.replicate_succ, List.filterMap_cons]; exact ih
  rw [this, List.append_nil]
theorem Cond.start {K : PySem.W.Frag} {X : Addr → Prop} {H : Hp} {Γ : List Sl} {vs : List V} (c : Cond K X H Γ vs) (N : List Str) (hn : Γ.length ≤ N.length) :
    Lo ⟨K, X, H, muts Γ, N.length⟩ X H (L2.start N vs) (Γ ++ List.replicate (N.length - Γ.length) .unk) := by
  refine ⟨?_, fun i s hi => ?_, by rw [muts_unk]; exact c.nd, fun p hp => c.mx p (by rw [muts_unk] at hp; exact hp), fun _ h => h, c.xd, fun _ _ h _ => h, fun _ h => h, fun p hp => .inl (by rw [muts_unk] at hp; exact hp), fun a ha => ?_⟩
  · show (vs.map some ++ List.replicate (N.length - vs.length) none).length = N.length
    rw [List.length_append, List.length_map, List.length_replicate, c.len]
    omega
  · by_cases h : i < Γ.length
    · rw [List.getElem?_append_left h] at hi
      obtain ⟨v, h1, h2⟩ := c.as.get hi
      have h3 : (L2.start N vs)[i]? = some (some v) := by
        show (vs.map some ++ List.replicate (N.length - vs.length) none)[i]? = _
        rw [List.getElem?_append_left (by rw [List.length_map, c.len]; exact h), List.getElem?_map, h1]
        rfl
      rw [h3]; exact h2
    · rw [List.getElem?_append_right (by omega)] at hi
      have := List.mem_of_getElem? hi
      rw [List.mem_replicate] at this
      rw [this.2]; trivial
  · obtain ⟨i, s, hi, e⟩ := mem_muts.mp (show a ∈ muts Γ from ha)
    obtain ⟨v, _, h2⟩ := c.as.get hi
    obtain ⟨o, r⟩ := h2.mrep e
    exact r.ntup

section
variable {C : Cn} {X : Addr → Prop} {H H' : Hp} {σ : L2.St} {Γ Γ' : List Sl}
theorem Lo.weak (L : Lo C X H σ Γ) (w : Wk Γ Γ') : Lo C X H σ Γ' := by
  refine ⟨L.len, fun i s hi => ?_, w.sub.nodup L.nd, fun p hp => L.mx p (w.sub.mem hp), L.m0, L.xd, L.base, L.dom, fun p hp => L.own p (w.sub.mem hp), L.tf⟩
  rcases w.get hi with z | z
  · subst z; trivial
  · exact L.at_ i s z
/-- an enclosing view is entered and left -/
abbrev Cn.at_ (C : Cn) (X : Addr → Prop) (H : Hp) (Γ : List Sl) : Cn := ⟨C.K, X, H, muts Γ, C.n⟩
theorem Lo.enter (L : Lo C X H σ Γ) : Lo (C.at_ X H Γ) X H σ Γ :=
  ⟨L.len, L.at_, L.nd, L.mx, fun _ h => h, L.xd, fun _ _ h _ => h, fun _ h => h, fun _ hp => .inl hp, fun a ha => by
    obtain ⟨o, r⟩ := L.mem (p := a) ha
    exact r.ntup⟩
theorem Lo.nown (L : Lo C X H σ Γ) {a : Addr} {o : HO} (h : C.H0 a = some o) (n : a ∉ C.P0) : a ∉ muts Γ := fun hp => by
  rcases L.own a hp with z | z
  · exact n z
  · rw [z] at h; cases h
theorem Lo.leave {X' : Addr → Prop} {σ' : L2.St} (L : Lo C X H σ Γ) (M : Lo (C.at_ X H Γ) X' H' σ' Γ') (hs : muts Γ' = muts Γ) : Lo C X H' σ' Γ' := by
  have sub : ∀ a, X a → X' a := M.m0
  refine ⟨M.len, fun i s hi => (M.at_ i s hi).anti sub, M.nd, fun p hp => L.mx p (hs ▸ hp), L.m0, fun a h => M.xd a (sub a h), fun a o e n => M.base a o (L.base a o e n) (L.nown e n), fun a h => M.dom a (L.dom a h), fun p hp => L.own p (hs ▸ hp), L.tf⟩
theorem Lo.keep {X' : Addr → Prop} {σ' : L2.St} (L : Lo C X H σ Γ) (M : Lo (C.at_ X H Γ) X' H' σ' Γ') : Keep X H H' := by
  refine ⟨fun a o e n => M.base a o e fun h => n (L.mx a h), fun a vs e => M.base a _ e fun h => ?_, fun a o u e => M.base a _ e fun h => ?_⟩
  · obtain ⟨o, r⟩ := L.mem (p := a) h
    exact r.ntup.1 _ e
  · obtain ⟨o', r⟩ := L.mem (p := a) h
    exact r.ntup.2 _ _ e
theorem Fin.leave {ps : List (Addr × MO)} {rs : Rs} {v : V} (L : Lo C X H σ Γ) (F : Fin C.K X H (muts Γ) ps rs v H') : Fin C.K C.X0 C.H0 C.P0 ps rs v H' := by
  refine ⟨fun a o e n => F.base a o (L.base a o e n) (L.nown e n), fun a h => F.dom a (L.dom a h), fun q hq => (F.mu q hq).anti L.m0, ?_⟩
  cases rs with
  | imm d => exact Rep.anti L.m0 F.res
  | immN Z d => exact Rep.anti (fun a z => z.imp (L.m0 a) id) F.res
  | new o =>
    obtain ⟨p, e, h, r⟩ := F.res
    refine ⟨p, e, ?_, r.anti fun a h => h.elim (fun z => .inl (L.m0 a z)) .inr⟩
    cases e : C.H0 p with
    | none => rfl
    | some o => exact (L.dom p (by rw [e]; exact fun z => nomatch z) h).elim
/-- the end of a def: data is told -/
theorem Lo.fin {ps : List (Addr × MO)} {d : PyData} {v : V} (L : Lo C X H σ Γ) (hp : ∀ q ∈ ps, MRep C.K X H q.1 q.2) (r : Rep C.K X H d v) : Fin C.K C.X0 C.H0 C.P0 ps (.imm d) v H :=
  ⟨L.base, L.dom, fun q hq => (hp q hq).anti L.m0, Rep.anti L.m0 r⟩
theorem Lo.finZ {ps : List (Addr × MO)} {Z : Addr → Prop} {d : PyData} {v : V} (L : Lo C X H σ Γ) (hp : ∀ q ∈ ps, MRep C.K X H q.1 q.2) (r : Rep C.K (NewX X Z H) H d v) : Fin C.K C.X0 C.H0 C.P0 ps (.immN Z d) v H :=
  ⟨L.base, L.dom, fun q hq => (hp q hq).anti L.m0, Rep.anti (fun a z => z.imp (L.m0 a) id) r⟩
/-- .. an object that the body has made -/
theorem Lo.finN {ps : List (Addr × MO)} {o : MO} {p : Addr} (L : Lo C X H σ Γ) (hp : ∀ q ∈ ps, MRep C.K X H q.1 q.2) (hn : C.H0 p = none) (hx : X p) (r : MRep C.K X H p o) : Fin C.K C.X0 C.H0 C.P0 ps (.new o) (.ref p) H :=
  ⟨L.base, L.dom, fun q hq => (hp q hq).anti L.m0, p, rfl, hn, r.anti fun a h => h.elim (L.m0 a) fun e => e ▸ hx⟩
theorem Lo.mrep (L : Lo C X H σ Γ) {i : Nat} {p : Addr} {o : MO} (e : Γ[i]? = some (.mu p o)) : MRep C.K X H p o := (L.at_ i _ e).2

/-- behind a call that wrote nothing of ours -/
theorem Lo.after0 {rs : Rs} {v : V} {ps : List (Addr × MO)} (L : Lo C X H σ Γ) (F : Fin C.K X H [] ps rs v H') : Lo C X H' σ Γ ∧ ∀ d u, Rep C.K X H d u → Rep C.K X H' d u := by
  have s : Same H H' := fun a o e => F.base a o e (by simp)
  exact ⟨L.same s, fun _ _ r => r.keep (.same s)⟩
theorem Lo.cond (L : Lo C X H σ Γ) {Γa : List Sl} {vs : List V} (as : As C.K X H Γa vs) (nd : (muts Γa).Nodup) (sub : ∀ p ∈ muts Γa, p ∈ muts Γ) : Cond C.K X H Γa vs := ⟨as, nd, fun p h => L.mx p (sub p h), L.xd⟩
theorem Lo.get (L : Lo C X H σ Γ) {i : Nat} {d : PyData} (e : Γ[i]? = some (.imm d)) : ∃ u, σ[i]? = some (some u) ∧ Rep C.K X H d u := L.at_ i _ e

theorem ad_unique {Γ : List Sl} (nd : (muts Γ).Nodup) : ∀ {i j : Nat} {s t : Sl} {p : Addr}, Γ[i]? = some s → Γ[j]? = some t → s.ad = some p → t.ad = some p → i = j := by
  induction Γ with
  | nil => intro i j s t p h; simp at h
  | cons s0 Γ ih =>
    intro i j s t p hi hj es et
    have nd' : (List.filterMap Sl.ad (s0 :: Γ)).Nodup := nd
    have tl : (muts Γ).Nodup := by
      rw [List.filterMap_cons] at nd'
      cases e : s0.ad with
      | none => rw [e] at nd'; exact nd'
      | some q => rw [e] at nd'; exact (List.nodup_cons.mp nd').2
    have no : ∀ (k : Nat) (r : Sl), s0.ad = some p → Γ[k]? = some r → r.ad = some p → False := fun k r e0 hk er => by
      rw [List.filterMap_cons, e0] at nd'
      exact (List.nodup_cons.mp nd').1 (List.mem_filterMap.mpr ⟨r, List.mem_of_getElem? hk, er⟩)
    cases i with
    | zero =>
      cases j with
      | zero => rfl
      | succ j =>
        simp at hi hj; subst hi
        exact (no j t es hj et).elim
    | succ i =>
      cases j with
      | zero =>
        simp at hi hj; subst hj
        exact (no i s et hi es).elim
      | succ j =>
        simp at hi hj
        rw [ih tl hi hj es et]
/-- another object at the same place -/
def Sl.to (o : MO) : Sl → Sl
  | .mu p _ => .mu p o
  | .tmp p _ => .tmp p o
  | s => s
theorem muts_to {o : MO} : ∀ {Γ : List Sl} {i : Nat} {s : Sl}, Γ[i]? = some s → muts (Γ.set i (s.to o)) = muts Γ
  | [], _, _, h => by simp at h
  | s0 :: Γ, 0, s, h => by
    simp at h; subst h
    show List.filterMap Sl.ad (s0.to o :: Γ) = List.filterMap Sl.ad (s0 :: Γ)
    rw [List.filterMap_cons, List.filterMap_cons]
    have : (s0.to o).ad = s0.ad := by cases s0 <;> rfl
    rw [this]
  | s0 :: Γ, i + 1, s, h => by
    have ih := muts_to (o := o) (Γ := Γ) (i := i) (s := s) (by simpa using h)
    show List.filterMap Sl.ad (s0 :: Γ.set i (s.to o)) = List.filterMap Sl.ad (s0 :: Γ)
    rw [List.filterMap_cons, List.filterMap_cons]
    have ih' : List.filterMap Sl.ad (Γ.set i (s.to o)) = List.filterMap Sl.ad Γ := ih
    rw [ih']
/-- the object at p is written (or turned by a call): all else keeps -/
theorem Lo.wrote (L : Lo C X H σ Γ) {i : Nat} {p : Addr} {s : Sl} {o : MO} (e : Γ[i]? = some s) (es : s.ad = some p) (hk : ∀ a u, H a = some u → a ≠ p → H' a = some u) (hd : ∀ a, H a ≠ none → H' a ≠ none) (r : MRep C.K X H' p o) :
    Lo C X H' σ (Γ.set i (s.to o)) ∧ ∀ d u, Rep C.K X H d u → Rep C.K X H' d u := by
  have hpm : p ∈ muts Γ := mem_muts.mpr ⟨i, s, e, es⟩
  have hpx : X p := L.mx p hpm
  obtain ⟨o0, r0⟩ := L.mem hpm
  have kp : Keep X H H' := ⟨fun a u h n => hk a u h fun z => n (z ▸ hpx), fun a vs h => hk a _ h fun z => r0.ntup.1 _ (z ▸ h), fun a u w h => hk a _ h fun z => r0.ntup.2 _ _ (z ▸ h)⟩
  have hil : i < Γ.length := (List.getElem?_eq_some_iff.mp e).1
  refine ⟨⟨L.len, fun j t hj => ?_, by rw [muts_to e]; exact L.nd, fun q hq => L.mx q (by rw [muts_to e] at hq; exact hq), L.m0, fun a h => hd a (L.xd a h), fun a u h n => ?_, fun a h => hd a (L.dom a h), fun q hq => L.own q (by rw [muts_to e] at hq; exact hq), L.tf⟩, fun _ _ q => q.keep kp⟩
  · by_cases z : j = i
    · subst z
      rw [List.getElem?_set_self hil] at hj
      have := L.at_ j s e
      cases hj
      cases s with
      | unk => cases es
      | scr ns => cases es
      | ref a => cases es
      | imm d => cases es
      | fix Z d => cases es
      | fixN Z d => cases es
      | mu q o1 => cases es; exact ⟨this.1, r⟩
      | tmp q o1 => cases es; exact r
    · rw [List.getElem?_set_ne (Ne.symm z)] at hj
      refine (L.at_ j t hj).keep kp fun q eq => ?_
      have ne : q ≠ p := fun y => z (ad_unique L.nd hj e (by rw [eq, y]) es)
      obtain ⟨o1, r1⟩ := L.mem (mem_muts.mpr ⟨j, t, hj, eq⟩)
      cases hq : H q with
      | none => exact (r1.nn hq).elim
      | some u => exact hk q u hq ne
  · have h1 := L.base a u h n
    exact hk a u h1 fun z => by
      subst z
      exact L.nown h n hpm
/-- behind a call that wrote one object -/
theorem Lo.after1 {rs : Rs} {v : V} {p : Addr} {o : MO} {s : Sl} (L : Lo C X H σ Γ) (F : Fin C.K X H [p] [(p, o)] rs v H') {i : Nat} (e : Γ[i]? = some s) (es : s.ad = some p) :
    Lo C X H' σ (Γ.set i (s.to o)) ∧ ∀ d u, Rep C.K X H d u → Rep C.K X H' d u :=
  L.wrote e es (fun a u h n => F.base a u h (by simpa using n)) F.dom (F.mu (p, o) (by simp))
/-- a new object is laid: forbidden from now on -/
theorem Lo.lay (L : Lo C X H σ Γ) {p : Addr} {o : MO} {H1 : Hp} (hn : H p = none) (s : Same H H1) (r : MRep C.K (fun a => X a ∨ a = p) H1 p o) :
    Lo C (fun a => X a ∨ a = p) H1 σ (Γ ++ [.tmp p o]) ∧ (∀ d u, Rep C.K X H d u → Rep C.K (fun a => X a ∨ a = p) H1 d u) ∧ C.H0 p = none ∧ ¬ C.X0 p := by
  have h0 : C.H0 p = none := by
    cases e : C.H0 p with
    | none => rfl
    | some o => exact (L.dom p (by rw [e]; exact fun z => nomatch z) hn).elim
  have hd : ∀ a, H a ≠ none → H1 a = H a := fun a h => by
    cases e : H a with
    | none => exact (h e).elim
    | some o => exact s a o e
  have hm : muts (Γ ++ [Sl.tmp p o]) = muts Γ ++ [p] := by unfold muts; rw [List.filterMap_append]; rfl
  have hnm : p ∉ muts Γ := fun h => L.xd p (L.mx p h) hn
  refine ⟨⟨L.len, fun i t hi => ?_, ?_, fun q hq => ?_, fun a h => .inl (L.m0 a h), fun a h => ?_, fun a u h n => s a u (L.base a u h n), fun a h => ?_, fun q hq => ?_, L.tf⟩, fun _ _ q => (q.more hn).keep (.same s), h0, fun z => L.xd p (L.m0 p z) hn⟩
  · by_cases hlt : i < Γ.length
    · rw [List.getElem?_append_left hlt] at hi
      refine ((L.at_ i t hi).more hn).keep (.same s) fun q e => hd q ?_
      obtain ⟨o', r'⟩ := (L.at_ i t hi).mrep e
      exact r'.nn
    · rw [List.getElem?_append_right (by omega)] at hi
      have ht := List.mem_of_getElem? hi
      rw [List.mem_singleton] at ht
      subst ht
      exact r
  · rw [hm]
    exact List.nodup_append.mpr ⟨L.nd, by simp, fun a ha b hb => by
      rw [List.mem_singleton] at hb
      subst hb
      intro z
      exact hnm (z ▸ ha)⟩
  · rw [hm, List.mem_append, List.mem_singleton] at hq
    exact hq.elim (fun z => .inl (L.mx q z)) .inr
  · rcases h with h | h
    · rw [hd a (L.xd a h)]; exact L.xd a h
    · subst h; exact r.nn
  · rw [hd a (L.dom a h)]; exact L.dom a h
  · rw [hm, List.mem_append, List.mem_singleton] at hq
    exact hq.elim (L.own q) fun z => .inr (z ▸ h0)
/-- the last object is given a name -/
theorem Lo.name {p : Addr} {o : MO} (L : Lo C X H σ (Γ ++ [.tmp p o])) {i : Nat} (hi : i < C.n) (hl : i < Γ.length) : Lo C X H (σ.set i (some (.ref p))) (Γ.set i (.mu p o)) := by
  have hm : muts (Γ ++ [Sl.tmp p o]) = muts Γ ++ [p] := by unfold muts; rw [List.filterMap_append]; rfl
  have nd := L.nd
  rw [hm] at nd
  obtain ⟨nd1, _, nd2⟩ := List.nodup_append.mp nd
  have hnp : p ∉ muts Γ := fun h => nd2 p h p (by simp) rfl
  have sub : ∀ q, q ∈ muts (Γ.set i (.mu p o)) → q ∈ muts (Γ ++ [Sl.tmp p o]) := fun q hq => by
    rw [hm, List.mem_append, List.mem_singleton]
    obtain ⟨j, s, hj, e⟩ := mem_muts.mp hq
    by_cases z : j = i
    · subst z
      rw [List.getElem?_set_self hl] at hj
      cases hj; cases e; exact .inr rfl
    · rw [List.getElem?_set_ne (Ne.symm z)] at hj
      exact .inl (mem_muts.mpr ⟨j, s, hj, e⟩)
  have ndp : ∀ {Γ : List Sl} {i : Nat}, (muts Γ).Nodup → p ∉ muts Γ → (muts (Γ.set i (.mu p o))).Nodup := by
    intro Γ
    induction Γ with
    | nil => intro i h _; exact h
    | cons s0 Γ ih =>
      intro i h hn
      have h' : (List.filterMap Sl.ad (s0 :: Γ)).Nodup := h
      have hn' : p ∉ List.filterMap Sl.ad (s0 :: Γ) := hn
      have hg : p ∉ muts Γ := fun z => hn' (by rw [List.filterMap_cons]; cases s0.ad with | none => exact z | some q => exact List.mem_cons_of_mem _ z)
      have hgn : (muts Γ).Nodup := by
        rw [List.filterMap_cons] at h'
        cases e : s0.ad with
        | none => rw [e] at h'; exact h'
        | some q => rw [e] at h'; exact (List.nodup_cons.mp h').2
      cases i with
      | zero => exact List.nodup_cons.mpr ⟨hg, hgn⟩
      | succ i =>
        have ih' := ih (i := i) hgn hg
        show (List.filterMap Sl.ad (s0 :: Γ.set i (.mu p o))).Nodup
        rw [List.filterMap_cons] at h' hn' ⊢
        cases e : s0.ad with
        | none => exact ih'
        | some q =>
          rw [e] at h' hn'
          refine List.nodup_cons.mpr ⟨fun z => ?_, ih'⟩
          obtain ⟨t, ht, et⟩ := List.mem_filterMap.mp (show q ∈ List.filterMap Sl.ad (Γ.set i (.mu p o)) from z)
          rcases List.mem_or_eq_of_mem_set ht with y | y
          · exact (List.nodup_cons.mp h').1 (List.mem_filterMap.mpr ⟨t, y, et⟩)
          · subst y
            cases et
            exact hn' List.mem_cons_self
  refine ⟨by rw [List.length_set]; exact L.len, fun j t hj => ?_, ndp nd1 hnp, fun q hq => L.mx q (sub q hq), L.m0, L.xd, L.base, L.dom, fun q hq => L.own q (sub q hq), L.tf⟩
  by_cases z : j = i
  · subst z
    rw [List.getElem?_set_self hl] at hj
    cases hj
    refine ⟨List.getElem?_set_self (by rw [L.len]; exact hi), ?_⟩
    exact L.at_ Γ.length (.tmp p o) (by rw [List.getElem?_append_right (Nat.le_refl _)]; simp)
  · rw [List.getElem?_set_ne (Ne.symm z)] at hj
    rw [List.getElem?_set_ne (Ne.symm z)]
    refine L.at_ j t ?_
    rw [List.getElem?_append_left (List.getElem?_eq_some_iff.mp hj).1]
    exact hj
/-- an object that is written no more is data -/
theorem Lo.freeze {p : Addr} {ds : List PyData} (L : Lo C X H σ Γ) {i : Nat} (e : Γ[i]? = some (.mu p (.lst ds))) (hx : ¬ C.X0 p) : Lo C (fun a => X a ∧ a ≠ p) H σ (Γ.set i (.imm (.list ds))) := by
  have hil : i < Γ.length := (List.getElem?_eq_some_iff.mp e).1
  refine ⟨L.len, fun j t hj => ?_, nodup_set L.nd, fun q hq => ⟨L.mx q (muts_set_imm hq), fun z => ?_⟩, fun a h => ⟨L.m0 a h, fun z => hx (z ▸ h)⟩, fun a h => L.xd a h.1, L.base, L.dom, fun q hq => L.own q (muts_set_imm hq), L.tf⟩
  · by_cases z : j = i
    · subst z
      rw [List.getElem?_set_self hil] at hj
      cases hj
      obtain ⟨h1, vs, h2, h3⟩ := L.at_ j _ e
      exact ⟨.ref p, h1, .lst (fun y => y.2 rfl) (.inl h2) (h3.anti fun a h => h.1)⟩
    · rw [List.getElem?_set_ne (Ne.symm z)] at hj
      exact (L.at_ j t hj).anti fun a h => h.1
  · subst z
    obtain ⟨j, s, hj, es⟩ := mem_muts.mp hq
    by_cases y : j = i
    · subst y
      rw [List.getElem?_set_self hil] at hj
      cases hj; cases es
    · rw [List.getElem?_set_ne (Ne.symm y)] at hj
      exact y (ad_unique L.nd hj e es rfl)
theorem RRep.imm {K : PySem.W.Frag} {X : Addr → Prop} {H H' : Hp} {ds : List PyData} {v : V} (r : RRep K X H H' (.new (.lst ds)) v) (xd : ∀ a, X a → H a ≠ none) : Rep K X H' (.list ds) v := by
  obtain ⟨p, e, hn, vs, h2, h3⟩ := r
  subst e
  exact .lst (fun z => xd p z hn) (.inl h2) (h3.anti fun _ z => .inl z)
end
open Py (enc)

/-! ### what may fail -/
/-- .. in the middle of a term -/
theorem obE {α β : Type} {m : Option α} {k : α → Option β} {r : β} {P : Prop} (h : m.bind k = some r) (f : ∀ x, m = some x → k x = some r → P) : P := by
  obtain ⟨x, a, b⟩ := Option.bind_eq_some_iff.mp h
  exact f x a b
theorem ob {α β : Type} {m : Option α} {k : α → Option β} {r : β} (h : m.bind k = some r) : ∃ x, m = some x ∧ k x = some r := Option.bind_eq_some_iff.mp h
/-- a product, a quotient, a rest, where they are told -/
def mulG (a b : Int) : Option Int := if a.natAbs.log2 + b.natAbs.log2 < 1000000 then some (a * b) else none
def divG (a b : Int) : Option Int := if b ≠ 0 ∧ b.natAbs.log2 < 9000 then some (a.fdiv b) else none
def modG (a b : Int) : Option Int := if b ≠ 0 then some (a.fmod b) else none
def lenOk (n : Nat) : Option Unit := if n ≤ 16777216 then some () else none
def guard (b : Bool) : Option Unit := if b = true then some () else none
def iabs (i : Int) : Int := if i < 0 then -i else i
def b2 (b : Bool) : Int := if b = true then 1 else 0
def ix {α : Type} (xs : List α) (i : Int) : Option α := atI xs i
theorem line_eq : sizeLine = 16777216 := sizeLine_eq

section
variable {Xc : Cx}
def cMulG (i j : Int) : Prop := i.natAbs.log2 + j.natAbs.log2 < 1000000
def cDivG (i j : Int) : Prop := j ≠ 0 ∧ j.natAbs.log2 < 9000
theorem op_divG : OpR Xc (binaryOp .FloorDiv) (rI cDivG fun i j => .int (i.fdiv j)) := opI fun i j _ _ _ _ _ hc q => floordiv_int hc.1 q (.inl (PyProof.noPylong_of_log2 hc.2))
end


/-- continuations by name, so that goals stay as they are -/
def KB (Q : Bool → Hp → Prop) : VK := fun x H => ∃ k, x = .bl k ∧ Q k H
def KNot (Q : Bool → Hp → Prop) : Bool → Hp → Prop := fun c H => Q (!c) H
def KAnd (u : TT) (σ : L2.St) (Q : Bool → Hp → Prop) : Bool → Hp → Prop := fun c H => if c = true then u σ H Q else Q false H
def KOr (u : TT) (σ : L2.St) (Q : Bool → Hp → Prop) : Bool → Hp → Prop := fun c H => if c = true then Q true H else u σ H Q
def KNotV (Q : VK) : Bool → Hp → Prop := fun c H => Q (.bl (!c)) H
def KAndV (u : TE) (σ : L2.St) (Q : VK) : Bool → Hp → Prop := fun c H => if c = true then u σ H Q else Q (.bl false) H
def KOrV (u : TE) (σ : L2.St) (Q : VK) : Bool → Hp → Prop := fun c H => if c = true then Q (.bl true) H else u σ H Q
def KIf (t u : TS) (D : Ends) (σ : L2.St) : Bool → Hp → Prop := fun c H => if c = true then t D σ H else u D σ H
def KIfE (t u : TE) (σ : L2.St) (Q : VK) : Bool → Hp → Prop := fun c H => if c = true then t σ H Q else u σ H Q
def KTup (Q : VK) : List V → Hp → Prop := fun xs H => xs.length ≤ sizeLine ∧ ∀ p, H p = none → Q (.ref p) (upd H p (.tup xs))
def KLst (Q : VK) : List V → Hp → Prop := fun xs H => xs.length ≤ sizeLine ∧ ∀ p, H p = none → Q (.ref p) (upd H p (.lst xs))
def KPar (i j : Nat) (σ : L2.St) (N : L2.St → Hp → Prop) : List V → Hp → Prop := fun vs H => ∃ v w, vs = [v, w] ∧ N ((σ.set i (some v)).set j (some w)) H

section
variable {C : Cn} {X : Addr → Prop} {H : Hp} {σ : L2.St} {Γ Γ' : List Sl} {Q : VK} {α β γ δ ε ρ : Type}
/-! ### expressions, from the left -/
theorem x_op {r : R2} {ta tb : TE} (h : ta σ H fun x H1 => tb σ H1 fun y H2 => r x y H2 Q) : tOp r ta tb σ H Q := h
theorem x_un {r : V → Hp → VK → Prop} {ta : TE} (h : ta σ H fun x H1 => r x H1 Q) : tUn r ta σ H Q := h
theorem x_c {v : V} (h : Q v H) : tC v σ H Q := h
theorem x_cons {ta : TE} {tr : TA} {Q : List V → Hp → Prop} (h : ta σ H fun x H1 => tr σ H1 fun xs H2 => Q (x :: xs) H2) : tCons ta tr σ H Q := h
theorem x_nil {Q : List V → Hp → Prop} (h : Q [] H) : tNil σ H Q := h
/-- a name of the def: data, an object that may be written, the script -/
theorem x_vd {i : Nat} {d : PyData} (L : Lo C X H σ Γ) (e : Γ[i]? = some (.imm d)) (h : ∀ v, Rep C.K X H d v → Q v H) : tVar i σ H Q := by
  obtain ⟨u, h1, h2⟩ := L.get e
  exact ⟨u, h1, h u h2⟩
theorem x_vm {i : Nat} {p : Addr} {o : MO} (L : Lo C X H σ Γ) (e : Γ[i]? = some (.mu p o)) (h : Q (.ref p) H) : tVar i σ H Q := ⟨_, (L.at_ i _ e).1, h⟩
theorem x_vscr {i : Nat} {ns : List Int} (L : Lo C X H σ Γ) (e : Γ[i]? = some (.scr ns)) (h : ∀ v, SqX C.K X H ns v → Q v H) : tVar i σ H Q := by
  obtain ⟨u, h1, h2⟩ := L.at_ i _ e
  exact ⟨u, h1, h u h2⟩
theorem repI {K : PySem.W.Frag} {x : Int} {u : V} (h : Rep K X H (PyData.int x) u) : u = (V.int x) := by cases h; rfl
theorem x_vI {i : Nat} {x : Int} (L : Lo C X H σ Γ) (e : Γ[i]? = some (.imm (PyData.int x))) (h : Q (V.int x) H) : tVar i σ H Q :=
  x_vd L e fun v r => by rw [repI (x := x) r]; exact h
theorem repB {K : PySem.W.Frag} {x : Bool} {u : V} (h : Rep K X H (PyData.bool x) u) : u = (V.bl x) := by cases h; rfl
theorem x_vB {i : Nat} {x : Bool} (L : Lo C X H σ Γ) (e : Γ[i]? = some (.imm (PyData.bool x))) (h : Q (V.bl x) H) : tVar i σ H Q :=
  x_vd L e fun v r => by rw [repB (x := x) r]; exact h
theorem repS {K : PySem.W.Frag} {x : Str} {u : V} (h : Rep K X H (PyData.str x) u) : u = (V.str x) := by cases h; rfl
theorem x_vS {i : Nat} {x : Str} (L : Lo C X H σ Γ) (e : Γ[i]? = some (.imm (PyData.str x))) (h : Q (V.str x) H) : tVar i σ H Q :=
  x_vd L e fun v r => by rw [repS (x := x) r]; exact h
theorem repN {K : PySem.W.Frag} {x : Unit} {u : V} (h : Rep K X H PyData.none u) : u = V.non := by cases h; rfl
theorem x_vN {i : Nat} {x : Unit} (L : Lo C X H σ Γ) (e : Γ[i]? = some (.imm PyData.none)) (h : Q V.non H) : tVar i σ H Q :=
  x_vd L e fun v r => by rw [repN (x := x) r]; exact h
/-! ### whole numbers -/
theorem x_r0 {g : Int → Int → V} {a b : Int} (h : Q (g a b) H) : rI0 g (.int a) (.int b) H Q := ⟨a, b, rfl, rfl, h⟩
theorem x_mulL {a b : Int} (hc : -(2 ^ 64) < a ∧ a < 2 ^ 64) (h : Q (.int (a * b)) H) : rI CMul (fun i j => .int (i * j)) (.int a) (.int b) H Q := ⟨a, b, rfl, rfl, .inl hc, h⟩
theorem x_mulR {a b : Int} (hc : -(2 ^ 64) < b ∧ b < 2 ^ 64) (h : Q (.int (a * b)) H) : rI CMul (fun i j => .int (i * j)) (.int a) (.int b) H Q := ⟨a, b, rfl, rfl, .inr hc, h⟩
theorem x_mulc {a b n : Int} (hc : a.natAbs.log2 + b.natAbs.log2 < 1000000) (e : a * b = n) (h : Q (.int n) H) : rI CMulW (fun i j => .int (i * j)) (.int a) (.int b) H Q := by subst e; exact ⟨a, b, rfl, rfl, hc, h⟩
theorem room65 {k : Nat} {A : Around} (r : Room k A) : A.units + 65 < cLine := by have := r.un; omega
theorem x_divc {a b : Int} (hc : CDiv a b) (h : Q (.int (a / b)) H) : rI CDiv (fun i j => .int (i / j)) (.int a) (.int b) H Q := ⟨a, b, rfl, rfl, hc, h⟩
theorem x_divW {a b : Int} (hc : CDivW a b) (h : Q (.int (a / b)) H) : rI CDivW (fun i j => .int (i / j)) (.int a) (.int b) H Q := ⟨a, b, rfl, rfl, hc, h⟩
theorem x_modc {a b : Int} (hc : 0 < b) (h : Q (.int (a % b)) H) : rI (fun _ j => 0 < j) (fun i j => .int (i % j)) (.int a) (.int b) H Q := ⟨a, b, rfl, rfl, hc, h⟩
theorem x_powc {a b n : Int} (hc : CPow a b) (e : a ^ b.toNat = n) (h : Q (.int n) H) : rI CPow (fun i j => .int (i ^ j.toNat)) (.int a) (.int b) H Q := by subst e; exact ⟨a, b, rfl, rfl, hc, h⟩
theorem x_mul {a b : Int} {k : Int → Option ρ} {r : ρ} (hm : (mulG a b).bind k = some r) (h : ∀ z, mulG a b = some z → k z = some r → Q (.int z) H) : rI CMulW (fun i j => .int (i * j)) (.int a) (.int b) H Q := by
  obtain ⟨z, hz, hk⟩ := ob hm
  have hz' := hz
  unfold mulG at hz'
  split at hz'
  · rename_i hc
    have e : a * b = z := Option.some.inj hz'
    subst e
    exact ⟨a, b, rfl, rfl, hc, h _ hz hk⟩
  · cases hz'
theorem x_div {a b : Int} {k : Int → Option ρ} {r : ρ} (hm : (divG a b).bind k = some r) (h : ∀ z, divG a b = some z → k z = some r → Q (.int z) H) : rI cDivG (fun i j => .int (i.fdiv j)) (.int a) (.int b) H Q := by
  obtain ⟨z, hz, hk⟩ := ob hm
  have hz' := hz
  unfold divG at hz'
  split at hz'
  · rename_i hc
    have e : a.fdiv b = z := Option.some.inj hz'
    subst e
    exact ⟨a, b, rfl, rfl, hc, h _ hz hk⟩
  · cases hz'
theorem x_mod {a b : Int} {k : Int → Option ρ} {r : ρ} (hm : (modG a b).bind k = some r) (h : ∀ z, modG a b = some z → k z = some r → Q (.int z) H) : rI (fun _ j => j ≠ 0) (fun i j => .int (i.fmod j)) (.int a) (.int b) H Q := by
  obtain ⟨z, hz, hk⟩ := ob hm
  have hz' := hz
  unfold modG at hz'
  split at hz'
  · rename_i hc
    have e : a.fmod b = z := Option.some.inj hz'
    subst e
    exact ⟨a, b, rfl, rfl, hc, h _ hz hk⟩
  · cases hz'
theorem x_u {g : Int → V} {a : Int} (h : Q (g a) H) : rU g (.int a) H Q := ⟨a, rfl, h⟩
theorem x_eqi {a b : Int} (h : Q (.bl (decide (a = b))) H) : rEq (.int a) (.int b) H Q := by
  refine ⟨rfl, ?_⟩
  have e : decide (V.int a = V.int b) = decide (a = b) := by by_cases z : a = b <;> simp [z]
  rw [e]; exact h
theorem x_nei {a b : Int} (h : Q (.bl (!decide (a = b))) H) : rNe (.int a) (.int b) H Q := by
  refine ⟨rfl, ?_⟩
  have e : decide (V.int a = V.int b) = decide (a = b) := by by_cases z : a = b <;> simp [z]
  rw [e]; exact h
theorem x_eqb {a b : Bool} (h : Q (.bl (decide (a = b))) H) : rEq (.bl a) (.bl b) H Q := by
  refine ⟨rfl, ?_⟩
  have e : decide (V.bl a = V.bl b) = decide (a = b) := by by_cases z : a = b <;> simp [z]
  rw [e]; exact h
theorem x_neb {a b : Bool} (h : Q (.bl (!decide (a = b))) H) : rNe (.bl a) (.bl b) H Q := by
  refine ⟨rfl, ?_⟩
  have e : decide (V.bl a = V.bl b) = decide (a = b) := by by_cases z : a = b <;> simp [z]
  rw [e]; exact h
theorem x_eqs {a b : Str} (h : Q (.bl (decide (a = b))) H) : rEq (.str a) (.str b) H Q := by
  refine ⟨rfl, ?_⟩
  have e : decide (V.str a = V.str b) = decide (a = b) := by by_cases z : a = b <;> simp [z]
  rw [e]; exact h
theorem x_nes {a b : Str} (h : Q (.bl (!decide (a = b))) H) : rNe (.str a) (.str b) H Q := by
  refine ⟨rfl, ?_⟩
  have e : decide (V.str a = V.str b) = decide (a = b) := by by_cases z : a = b <;> simp [z]
  rw [e]; exact h
/-- an item of a tuple -/
theorem rep_tup {K : PySem.W.Frag} {ds : List PyData} {v : V} (r : Rep K X H (.tuple ds) v) : ∃ a vs, v = .ref a ∧ SqT K H a vs ∧ Reps K X H ds vs := by
  cases r with | tup h q => exact ⟨_, _, rfl, h, q⟩
theorem rep_lst {K : PySem.W.Frag} {ds : List PyData} {v : V} (r : Rep K X H (.list ds) v) : ∃ a vs, v = .ref a ∧ ¬ X a ∧ Rd H a (.lst vs) ∧ Reps K X H ds vs := by
  cases r with | lst n h q => exact ⟨_, _, rfl, n, h, q⟩
theorem atI_reps {K : PySem.W.Frag} {ds : List PyData} {vs : List V} {i : Int} {d : PyData} (q : Reps K X H ds vs) (e : atI ds i = some d) : ∃ u, atI vs i = some u ∧ Rep K X H d u := by
  unfold atI at e ⊢
  rw [q.length]
  cases h : ixN ds.length i with
  | none => rw [h] at e; cases e
  | some j => rw [h] at e; exact q.get e
theorem x_ixT {ds : List PyData} {d : PyData} {i : Int} {v : V} (r : Rep C.K X H (.tuple ds) v) (e : atI ds i = some d) (h : ∀ u, Rep C.K X H d u → Q u H) : rIxT C.K v (.int i) H Q := by
  obtain ⟨a, vs, rfl, hs, q⟩ := rep_tup r
  obtain ⟨u, h1, h2⟩ := atI_reps q e
  exact ⟨a, vs, i, u, rfl, rfl, hs, h1, h u h2⟩
theorem x_ixTI {ds : List PyData} {x : Int} {i : Int} {v : V} (r : Rep C.K X H (.tuple ds) v) (e : atI ds i = some (PyData.int x)) (h : Q (V.int x) H) : rIxT C.K v (.int i) H Q :=
  x_ixT r e fun u q => by rw [repI (x := x) q]; exact h
theorem x_ixTB {ds : List PyData} {x : Bool} {i : Int} {v : V} (r : Rep C.K X H (.tuple ds) v) (e : atI ds i = some (PyData.bool x)) (h : Q (V.bl x) H) : rIxT C.K v (.int i) H Q :=
  x_ixT r e fun u q => by rw [repB (x := x) q]; exact h
theorem x_ixTS {ds : List PyData} {x : Str} {i : Int} {v : V} (r : Rep C.K X H (.tuple ds) v) (e : atI ds i = some (PyData.str x)) (h : Q (V.str x) H) : rIxT C.K v (.int i) H Q :=
  x_ixT r e fun u q => by rw [repS (x := x) q]; exact h
theorem x_ixTN {ds : List PyData} {x : Unit} {i : Int} {v : V} (r : Rep C.K X H (.tuple ds) v) (e : atI ds i = some PyData.none) (h : Q V.non H) : rIxT C.K v (.int i) H Q :=
  x_ixT r e fun u q => by rw [repN (x := x) q]; exact h
theorem atI_map {f : α → β} {xs : List α} {i : Int} : atI (xs.map f) i = (atI xs i).map f := by
  unfold atI
  rw [List.length_map]
  cases ixN xs.length i with
  | none => rfl
  | some j => exact List.getElem?_map ..
/-- an item of a list -/
theorem x_ixL [Py α] {xs : List α} {i : Int} {v : V} {k : α → Option ρ} {r : ρ} (hm : (ix xs i).bind k = some r) (q : Rep C.K X H (enc xs) v) (h : ∀ x u, ix xs i = some x → k x = some r → Rep C.K X H (enc x) u → Q u H) : rIxL C.K v (.int i) H Q := by
  obtain ⟨x, hx, hk⟩ := ob hm
  obtain ⟨a, vs, rfl, _, hs, q⟩ := rep_lst (ds := xs.map enc) q
  have e : atI (xs.map enc) i = some (enc x) := by rw [atI_map]; unfold ix at hx; rw [hx]; rfl
  obtain ⟨u, h1, h2⟩ := atI_reps q e
  exact ⟨a, vs, i, u, rfl, rfl, .inl hs, h1, h x u hx hk h2⟩
theorem x_ixLI {xs : List Int} {i : Int} {v : V} {k : Int → Option ρ} {r : ρ} (hm : (ix xs i).bind k = some r) (q : Rep C.K X H (enc xs) v) (h : ∀ x, ix xs i = some x → k x = some r → Q (V.int x) H) : rIxL C.K v (.int i) H Q :=
  x_ixL hm q fun x u h1 h2 r => by rw [repI (x := x) r]; exact h x h1 h2
theorem x_ixLB {xs : List Bool} {i : Int} {v : V} {k : Bool → Option ρ} {r : ρ} (hm : (ix xs i).bind k = some r) (q : Rep C.K X H (enc xs) v) (h : ∀ x, ix xs i = some x → k x = some r → Q (V.bl x) H) : rIxL C.K v (.int i) H Q :=
  x_ixL hm q fun x u h1 h2 r => by rw [repB (x := x) r]; exact h x h1 h2
theorem x_ixLS {xs : List Str} {i : Int} {v : V} {k : Str → Option ρ} {r : ρ} (hm : (ix xs i).bind k = some r) (q : Rep C.K X H (enc xs) v) (h : ∀ x, ix xs i = some x → k x = some r → Q (V.str x) H) : rIxL C.K v (.int i) H Q :=
  x_ixL hm q fun x u h1 h2 r => by rw [repS (x := x) r]; exact h x h1 h2
theorem x_ixLN {xs : List Unit} {i : Int} {v : V} {k : Unit → Option ρ} {r : ρ} (hm : (ix xs i).bind k = some r) (q : Rep C.K X H (enc xs) v) (h : ∀ x, ix xs i = some x → k x = some r → Q V.non H) : rIxL C.K v (.int i) H Q :=
  x_ixL hm q fun x u h1 h2 r => by rw [repN (x := x) r]; exact h x h1 h2
/-- .. of a list that may be written -/
theorem x_ixM [Py α] {xs : List α} {i : Int} {j : Nat} {p : Addr} {k : α → Option ρ} {r : ρ} (L : Lo C X H σ Γ) (g : Γ[j]? = some (.mu p (ml xs))) (hm : (ix xs i).bind k = some r) (h : ∀ x u, ix xs i = some x → k x = some r → Rep C.K X H (enc x) u → Q u H) : rIxL C.K (.ref p) (.int i) H Q := by
  obtain ⟨x, hx, hk⟩ := ob hm
  obtain ⟨vs, hs, q⟩ := L.mrep g
  have e : atI (xs.map enc) i = some (enc x) := by rw [atI_map]; unfold ix at hx; rw [hx]; rfl
  obtain ⟨u, h1, h2⟩ := atI_reps q e
  exact ⟨p, vs, i, u, rfl, rfl, .inl (.inl hs), h1, h x u hx hk h2⟩
theorem x_ixMI {xs : List Int} {i : Int} {j : Nat} {p : Addr} {k : Int → Option ρ} {r : ρ} (L : Lo C X H σ Γ) (g : Γ[j]? = some (.mu p (ml xs))) (hm : (ix xs i).bind k = some r) (h : ∀ x, ix xs i = some x → k x = some r → Q (V.int x) H) : rIxL C.K (.ref p) (.int i) H Q :=
  x_ixM L g hm fun x u h1 h2 r => by rw [repI (x := x) r]; exact h x h1 h2
theorem x_ixMB {xs : List Bool} {i : Int} {j : Nat} {p : Addr} {k : Bool → Option ρ} {r : ρ} (L : Lo C X H σ Γ) (g : Γ[j]? = some (.mu p (ml xs))) (hm : (ix xs i).bind k = some r) (h : ∀ x, ix xs i = some x → k x = some r → Q (V.bl x) H) : rIxL C.K (.ref p) (.int i) H Q :=
  x_ixM L g hm fun x u h1 h2 r => by rw [repB (x := x) r]; exact h x h1 h2
theorem x_ixMS {xs : List Str} {i : Int} {j : Nat} {p : Addr} {k : Str → Option ρ} {r : ρ} (L : Lo C X H σ Γ) (g : Γ[j]? = some (.mu p (ml xs))) (hm : (ix xs i).bind k = some r) (h : ∀ x, ix xs i = some x → k x = some r → Q (V.str x) H) : rIxL C.K (.ref p) (.int i) H Q :=
  x_ixM L g hm fun x u h1 h2 r => by rw [repS (x := x) r]; exact h x h1 h2
theorem x_ixMN {xs : List Unit} {i : Int} {j : Nat} {p : Addr} {k : Unit → Option ρ} {r : ρ} (L : Lo C X H σ Γ) (g : Γ[j]? = some (.mu p (ml xs))) (hm : (ix xs i).bind k = some r) (h : ∀ x, ix xs i = some x → k x = some r → Q V.non H) : rIxL C.K (.ref p) (.int i) H Q :=
  x_ixM L g hm fun x u h1 h2 r => by rw [repN (x := x) r]; exact h x h1 h2
/-- .. of the script -/
theorem x_ixS {ns : List Int} {i : Int} {v : V} {k : Int → Option ρ} {r : ρ} (hm : (ix ns i).bind k = some r) (q : SqX C.K X H ns v) (h : ∀ x, ix ns i = some x → k x = some r → Q (.int x) H) : rIxL C.K v (.int i) H Q := by
  obtain ⟨x, hx, hk⟩ := ob hm
  obtain ⟨a, rfl, hs⟩ := q.sq
  have e : atI (ns.map V.int) i = some (.int x) := by rw [atI_map]; unfold ix at hx; rw [hx]; rfl
  exact ⟨a, _, i, _, rfl, rfl, hs, e, h x hx hk⟩
/-! ### displays -/
theorem x_tup {t : TA} (h : t σ H (KTup Q)) : tTup t σ H Q := h
theorem x_lst {t : TA} (h : t σ H (KLst Q)) : tLst t σ H Q := h
theorem same_upd {p : Addr} {o : HO} (h : H p = none) : Same H (upd H p o) := fun b u e => by rw [upd_ne (ne_of_none e h)]; exact e
theorem x_mkT {ds : List PyData} {vs : List V} (L : Lo C X H σ Γ) (q : Reps C.K X H ds vs) (hl : vs.length ≤ 16777216) (h : ∀ v H1, Lo C X H1 σ Γ → (∀ d u, Rep C.K X H d u → Rep C.K X H1 d u) → Rep C.K X H1 (.tuple ds) v → Q v H1) : KTup Q vs H := by
  refine ⟨by rw [line_eq]; exact hl, fun p hp => ?_⟩
  have s : Same H (upd H p (.tup vs)) := same_upd hp
  exact h _ _ (L.same s) (fun _ _ r => r.keep (.same s)) (.tup (.of upd_same) (q.keep (.same s)))
/-- a new list, told as data -/
theorem x_mkL {ds : List PyData} {vs : List V} (L : Lo C X H σ Γ) (q : Reps C.K X H ds vs) (hl : vs.length ≤ 16777216) (h : ∀ v H1, Lo C X H1 σ Γ → (∀ d u, Rep C.K X H d u → Rep C.K X H1 d u) → Rep C.K X H1 (.list ds) v → Q v H1) : KLst Q vs H := by
  refine ⟨by rw [line_eq]; exact hl, fun p hp => ?_⟩
  have s : Same H (upd H p (.lst vs)) := same_upd hp
  have r : RRep C.K X H (upd H p (.lst vs)) (.new (.lst ds)) (.ref p) := ⟨p, rfl, hp, vs, upd_same, (q.more hp).keep (.same s)⟩
  exact h _ _ (L.same s) (fun _ _ r => r.keep (.same s)) (r.imm L.xd)
/-- a new list of the body's own -/
theorem x_mkN {ds : List PyData} {vs : List V} (L : Lo C X H σ Γ) (q : Reps C.K X H ds vs) (hl : vs.length ≤ 16777216) (h : ∀ p X' H1, C.H0 p = none → ¬ C.X0 p → Lo C X' H1 σ (Γ ++ [.tmp p (.lst ds)]) → (∀ d u, Rep C.K X H d u → Rep C.K X' H1 d u) → Q (.ref p) H1) : KLst Q vs H := by
  refine ⟨by rw [line_eq]; exact hl, fun p hp => ?_⟩
  have s : Same H (upd H p (.lst vs)) := same_upd hp
  obtain ⟨L1, le, h0, hx⟩ := L.lay (o := .lst ds) hp s ⟨vs, upd_same, (q.more hp).keep (.same s)⟩
  exact h p _ _ h0 hx L1 le
/-- behind a call that tells a new object -/
theorem Lo.afterN {v : V} {o : MO} {ps : List (Addr × MO)} {P0 : List Addr} {H' : Hp} (L : Lo C X H σ Γ) (F : Fin C.K X H P0 ps (.new o) v H') (L' : Lo C X H' σ Γ') (kp : Keep X H H') (sub : ∀ p ∈ P0, p ∈ muts Γ) (hm : muts Γ' = muts Γ)
    (hat : ∀ (i : Nat) (s : Sl), Γ'[i]? = some s → (s.ad = none ∧ Γ[i]? = some s) ∨ (∃ p, s.ad = some p ∧ ∀ (q : Addr), H q = none → SlOk C.K (fun a => X a ∨ a = q) H' σ[i]? s)) :
    ∃ p, v = .ref p ∧ C.H0 p = none ∧ ¬ C.X0 p ∧ Lo C (fun a => X a ∨ a = p) H' σ (Γ' ++ [.tmp p o]) ∧ ∀ d u, Rep C.K X H d u → Rep C.K (fun a => X a ∨ a = p) H' d u := by
  obtain ⟨p, e, hn, r⟩ := F.res
  subst e
  have h0 : C.H0 p = none := by
    cases e : C.H0 p with
    | none => rfl
    | some o => exact (L.dom p (by rw [e]; exact fun z => nomatch z) hn).elim
  have kp' : Keep (fun a => X a ∨ a = p) H H' := kp.mono fun a h => .inl h
  have hm2 : muts (Γ' ++ [Sl.tmp p o]) = muts Γ' ++ [p] := by unfold muts; rw [List.filterMap_append]; rfl
  have hnm : p ∉ muts Γ' := fun h => L.xd p (L.mx p (hm ▸ h)) hn
  refine ⟨p, rfl, h0, fun z => L.xd p (L.m0 p z) hn, ⟨L.len, fun i t hi => ?_, ?_, fun q hq => ?_, fun a h => .inl (L.m0 a h), fun a h => ?_, L'.base, L'.dom, fun q hq => ?_, L.tf⟩, fun _ _ q => (q.more hn).keep kp'⟩
  · by_cases hlt : i < Γ'.length
    · rw [List.getElem?_append_left hlt] at hi
      rcases hat i t hi with ⟨h1, h2⟩ | ⟨q, h1, h2⟩
      · exact ((L.at_ i t h2).more hn).keep kp' fun q e => by rw [h1] at e; cases e
      · exact h2 p hn
    · rw [List.getElem?_append_right (by omega)] at hi
      have ht := List.mem_of_getElem? hi
      rw [List.mem_singleton] at ht
      subst ht
      exact r
  · rw [hm2]
    exact List.nodup_append.mpr ⟨L'.nd, by simp, fun a ha b hb => by
      rw [List.mem_singleton] at hb
      subst hb
      intro z
      exact hnm (z ▸ ha)⟩
  · rw [hm2, List.mem_append, List.mem_singleton] at hq
    exact hq.elim (fun z => .inl (L'.mx q z)) .inr
  · rcases h with h | h
    · exact L'.xd a h
    · subst h; exact r.nn
  · rw [hm2, List.mem_append, List.mem_singleton] at hq
    exact hq.elim (L'.own q) fun z => .inr (z ▸ h0)
theorem Lo.after0N {v : V} {o : MO} {ps : List (Addr × MO)} {H' : Hp} (L : Lo C X H σ Γ) (F : Fin C.K X H [] ps (.new o) v H') :
    ∃ p, v = .ref p ∧ C.H0 p = none ∧ ¬ C.X0 p ∧ ∃ X', Lo C X' H' σ (Γ ++ [.tmp p o]) ∧ ∀ d u, Rep C.K X H d u → Rep C.K X' H' d u := by
  have s : Same H H' := fun a o e => F.base a o e (by simp)
  have L' := (L.after0 F).1
  obtain ⟨p, a, b, c, d, e⟩ := L.afterN F L' (.same s) (by simp) rfl fun i t hi => by
    cases e : t.ad with
    | none => exact .inl ⟨rfl, hi⟩
    | some p =>
      refine .inr ⟨p, rfl, fun q hq => ((L.at_ i t hi).more hq).keep (.same s) fun p' e' => ?_⟩
      obtain ⟨o', r'⟩ := (L.at_ i t hi).mrep e'
      cases h : H p' with
      | none => exact (r'.nn h).elim
      | some u => exact s _ _ h
  exact ⟨p, a, b, c, _, d, e⟩
/-! ### tests -/
theorem x_test {t : TE} {Q : Bool → Hp → Prop} (h : t σ H (KB Q)) : tTest t σ H Q := h
theorem x_tB {t : TE} {Q : Bool → Hp → Prop} (h : t σ H (KB Q)) : tB t σ H Q := h
theorem x_kb {b : Bool} {Q : Bool → Hp → Prop} (h : Q b H) : KB Q (.bl b) H := ⟨b, rfl, h⟩
theorem x_not {t : TT} {Q : Bool → Hp → Prop} (h : t σ H (KNot Q)) : tNot t σ H Q := h
theorem x_kn {b : Bool} {Q : Bool → Hp → Prop} (h : Q (!b) H) : KNot Q b H := h
theorem x_notV {t : TE} (h : t σ H (KB (KNotV Q))) : tNotV t σ H Q := h
theorem x_knV {b : Bool} (h : Q (.bl (!b)) H) : KNotV Q b H := h
theorem x_and {t u : TT} {Q : Bool → Hp → Prop} (h : t σ H (KAnd u σ Q)) : tAnd t u σ H Q := h
theorem x_or {t u : TT} {Q : Bool → Hp → Prop} (h : t σ H (KOr u σ Q)) : tOr t u σ H Q := h
theorem x_andV {t u : TE} (h : t σ H (KB (KAndV u σ Q))) : tAndV t u σ H Q := h
theorem x_orV {t u : TE} (h : t σ H (KB (KOrV u σ Q))) : tOrV t u σ H Q := h
theorem x_ifE {t : TT} {ta tb : TE} (h : t σ H (KIfE ta tb σ Q)) : tIf t ta tb σ H Q := h
/-- a second part that can't fail and changes nothing -/
theorem x_andP {A B : Bool} {u : TT} {Q : Bool → Hp → Prop} (hu : ∀ Q' : Bool → Hp → Prop, Q' B H → u σ H Q') (h : Q (A && B) H) : KAnd u σ Q A H := by
  cases A with
  | true => exact hu Q h
  | false => exact h
theorem x_orP {A B : Bool} {u : TT} {Q : Bool → Hp → Prop} (hu : ∀ Q' : Bool → Hp → Prop, Q' B H → u σ H Q') (h : Q (A || B) H) : KOr u σ Q A H := by
  cases A with
  | false => exact hu Q h
  | true => exact h
theorem x_andVP {A B : Bool} {u : TE} (hu : ∀ Q' : VK, Q' (.bl B) H → u σ H Q') (h : Q (.bl (A && B)) H) : KAndV u σ Q A H := by
  cases A with
  | true => exact hu Q h
  | false => exact h
theorem x_orVP {A B : Bool} {u : TE} (hu : ∀ Q' : VK, Q' (.bl B) H → u σ H Q') (h : Q (.bl (A || B)) H) : KOrV u σ Q A H := by
  cases A with
  | false => exact hu Q h
  | true => exact h
/-- .. that may: it runs only then -/
theorem x_andB {A : Bool} {m : Option Bool} {k : Bool → Option ρ} {r : ρ} {u : TT} {Q : Bool → Hp → Prop} (L : Lo C X H σ Γ) (hm : (if A = true then m else some false).bind k = some r)
    (hu : ∀ b, m = some b → ∀ Q' : Bool → Hp → Prop, (∀ H2, Lo C X H2 σ Γ → Q' b H2) → u σ H Q') (h : ∀ b H2, k b = some r → Lo C X H2 σ Γ → Q b H2) : KAnd u σ Q A H := by
  cases A with
  | true =>
    obtain ⟨b, e, hk⟩ := ob hm
    exact hu b e Q fun H2 l => h b H2 hk l
  | false => exact h false H hm L
theorem x_orB {A : Bool} {m : Option Bool} {k : Bool → Option ρ} {r : ρ} {u : TT} {Q : Bool → Hp → Prop} (L : Lo C X H σ Γ) (hm : (if A = true then some true else m).bind k = some r)
    (hu : ∀ b, m = some b → ∀ Q' : Bool → Hp → Prop, (∀ H2, Lo C X H2 σ Γ → Q' b H2) → u σ H Q') (h : ∀ b H2, k b = some r → Lo C X H2 σ Γ → Q b H2) : KOr u σ Q A H := by
  cases A with
  | false =>
    obtain ⟨b, e, hk⟩ := ob hm
    exact hu b e Q fun H2 l => h b H2 hk l
  | true => exact h true H hm L
theorem x_andVB {A : Bool} {m : Option Bool} {k : Bool → Option ρ} {r : ρ} {u : TE} (L : Lo C X H σ Γ) (hm : (if A = true then m else some false).bind k = some r)
    (hu : ∀ b, m = some b → ∀ Q' : VK, (∀ H2, Lo C X H2 σ Γ → Q' (.bl b) H2) → u σ H Q') (h : ∀ b H2, k b = some r → Lo C X H2 σ Γ → Q (.bl b) H2) : KAndV u σ Q A H := by
  cases A with
  | true =>
    obtain ⟨b, e, hk⟩ := ob hm
    exact hu b e Q fun H2 l => h b H2 hk l
  | false => exact h false H hm L
theorem x_orVB {A : Bool} {m : Option Bool} {k : Bool → Option ρ} {r : ρ} {u : TE} (L : Lo C X H σ Γ) (hm : (if A = true then some true else m).bind k = some r)
    (hu : ∀ b, m = some b → ∀ Q' : VK, (∀ H2, Lo C X H2 σ Γ → Q' (.bl b) H2) → u σ H Q') (h : ∀ b H2, k b = some r → Lo C X H2 σ Γ → Q (.bl b) H2) : KOrV u σ Q A H := by
  cases A with
  | false =>
    obtain ⟨b, e, hk⟩ := ob hm
    exact hu b e Q fun H2 l => h b H2 hk l
  | true => exact h true H hm L
theorem x_lfT {B b : Bool} {Q' : Bool → Hp → Prop} (hm : some B = some b) (hQ : ∀ H2, Lo C X H2 σ Γ → Q' b H2) (L : Lo C X H σ Γ) : Q' B H := by cases hm; exact hQ _ L
theorem x_lfV {B b : Bool} {Q' : VK} (hm : some B = some b) (hQ : ∀ H2, Lo C X H2 σ Γ → Q' (.bl b) H2) (L : Lo C X H σ Γ) : Q' (.bl B) H := by cases hm; exact hQ _ L
/-! ### statements -/
section
variable {nx bk ct : L2.St → Hp → Prop} {rt : VK}
theorem x_seq {t u : TS} (h : t ⟨u ⟨nx, rt, bk, ct⟩, rt, bk, ct⟩ σ H) : tSeq t u ⟨nx, rt, bk, ct⟩ σ H := h
theorem x_next (h : nx σ H) : tNext ⟨nx, rt, bk, ct⟩ σ H := h
theorem x_cont (h : ct σ H) : tCont ⟨nx, rt, bk, ct⟩ σ H := h
theorem x_break (h : bk σ H) : tBreak ⟨nx, rt, bk, ct⟩ σ H := h
theorem x_asg {te : TE} {g : TG} (h : te σ H fun x H1 => g x σ H1 nx) : tAsg te g ⟨nx, rt, bk, ct⟩ σ H := h
theorem x_ret {te : TE} (h : te σ H rt) : tRet te ⟨nx, rt, bk, ct⟩ σ H := h
theorem x_retN (h : rt .non H) : tRetN ⟨nx, rt, bk, ct⟩ σ H := h
theorem x_drop {te : TE} (h : te σ H fun _ H1 => nx σ H1) : tDrop te ⟨nx, rt, bk, ct⟩ σ H := h
end
theorem x_ifS {c : TT} {t u : TS} {D : Ends} (h : c σ H (KIf t u D σ)) : tIfS c t u D σ H := h
/-- a branch ends the body: the rest stands in the other one -/
theorem x_if {t u : TS} {D : Ends} {c : Bool} {mA mB : Option ρ} {r : ρ} (hm : (if c = true then mA else mB) = some r) (hA : mA = some r → t D σ H) (hB : mB = some r → u D σ H) : KIf t u D σ c H := by
  cases c with
  | true => exact hA hm
  | false => exact hB hm
theorem x_ifX {t u : TE} {c : Bool} {mA mB : Option ρ} {r : ρ} (hm : (if c = true then mA else mB) = some r) (hA : mA = some r → t σ H Q) (hB : mB = some r → u σ H Q) : KIfE t u σ Q c H := by
  cases c with
  | true => exact hA hm
  | false => exact hB hm
theorem x_set {d : PyData} {i : Nat} {v : V} {N : L2.St → Hp → Prop} (L : Lo C X H σ Γ) (r : Rep C.K X H d v) (hi : i < C.n) (e : Γ.set i (.imm d) = Γ') (h : ∀ σ', Lo C X H σ' Γ' → N σ' H) : gName i v σ H N := by
  subst e
  exact h _ (L.set r hi)
/-- a new object gets a name -/
theorem x_setN {p : Addr} {o : MO} {i : Nat} {N : L2.St → Hp → Prop} (L : Lo C X H σ (Γ ++ [.tmp p o])) (hi : i < C.n) (hl : i < Γ.length) (e : Γ.set i (.mu p o) = Γ') (h : ∀ σ', Lo C X H σ' Γ' → N σ' H) : gName i (.ref p) σ H N := by
  subst e
  exact h _ (L.name hi hl)
/-- two names at once -/
theorem x_par {i j : Nat} {ta : TA} {nx bk ct : L2.St → Hp → Prop} {rt : VK} (h : ta σ H (KPar i j σ nx)) : tPar i j ta ⟨nx, rt, bk, ct⟩ σ H := h
theorem x_par2 {x y : PyData} {i j : Nat} {v w : V} {N : L2.St → Hp → Prop} (L : Lo C X H σ Γ) (r : Rep C.K X H x v) (q : Rep C.K X H y w) (hi : i < C.n) (hj : j < C.n) (e : (Γ.set i (.imm x)).set j (.imm y) = Γ') (h : ∀ σ', Lo C X H σ' Γ' → N σ' H) :
    KPar i j σ N [v, w] H := by
  subst e
  exact ⟨v, w, rfl, h _ ((L.set r hi).set q hj)⟩
def KPar3 (i j l : Nat) (σ : L2.St) (N : L2.St → Hp → Prop) : List V → Hp → Prop := fun vs H => ∃ u v w, vs = [u, v, w] ∧ N (((σ.set i (some u)).set j (some v)).set l (some w)) H
theorem x_par3 {i j l : Nat} {ta : TA} {nx bk ct : L2.St → Hp → Prop} {rt : VK} (h : ta σ H (KPar3 i j l σ nx)) : tPar3 i j l ta ⟨nx, rt, bk, ct⟩ σ H := h
theorem x_par3r {x y z : PyData} {i j l : Nat} {u v w : V} {N : L2.St → Hp → Prop} (L : Lo C X H σ Γ) (r : Rep C.K X H x u) (q : Rep C.K X H y v) (t : Rep C.K X H z w) (hi : i < C.n) (hj : j < C.n) (hl : l < C.n) (e : ((Γ.set i (.imm x)).set j (.imm y)).set l (.imm z) = Γ') (h : ∀ σ', Lo C X H σ' Γ' → N σ' H) :
    KPar3 i j l σ N [u, v, w] H := by
  subst e
  exact ⟨u, v, w, rfl, h _ (((L.set r hi).set q hj).set t hl)⟩
/-- a tuple is parted to names -/
theorem x_gTup {ds : List PyData} {v : V} {n : Nat} {t : TGs} {N : L2.St → Hp → Prop} (r : Rep C.K X H (.tuple ds) v) (hl : ds.length = n) (h : ∀ vs, Reps C.K X H ds vs → t vs σ H N) : gTup C.K n t v σ H N := by
  obtain ⟨a, vs, rfl, hs, q⟩ := rep_tup r
  exact ⟨a, vs, rfl, hs, q.length.trans hl, h vs q⟩
theorem x_gCons {d : PyData} {ds : List PyData} {vs : List V} {t : TG} {u : TGs} {N : L2.St → Hp → Prop} (q : Reps C.K X H (d :: ds) vs) (h : ∀ v r, Rep C.K X H d v → Reps C.K X H ds r → t v σ H fun σ' H' => u r σ' H' N) : gCons t u vs σ H N := by
  cases q with | cons r t => exact ⟨_, _, rfl, h _ _ r t⟩
theorem x_gNil {vs : List V} {N : L2.St → Hp → Prop} (q : Reps C.K X H [] vs) (h : N σ H) : gNil vs σ H N := by
  cases q; exact ⟨rfl, h⟩
/-- an item of a list is written -/
theorem x_gSub {to ti : TE} {t : TSet} {v : V} {N : L2.St → Hp → Prop} (h : to σ H fun o H1 => ti σ H1 fun i H2 => t o i v H2 (N σ)) : gSub to ti t v σ H N := h
def setI (xs : List α) (i : Int) (x : α) : Option (List α) := (ixN xs.length i).map fun j => xs.set j x
theorem x_setI [Py α] {xs : List α} {x : α} {i : Int} {j : Nat} {p : Addr} {v : V} {N : Hp → Prop} {k : List α → Option ρ} {r : ρ} (L : Lo C X H σ Γ) (g : Γ[j]? = some (.mu p (ml xs))) (hm : (setI xs i x).bind k = some r) (q : Rep C.K X H (enc x) v)
    (h : ∀ ys H1, setI xs i x = some ys → k ys = some r → Lo C X H1 σ (Γ.set j (.mu p (ml ys))) → N H1) : rSetL (.ref p) (.int i) v H N := by
  obtain ⟨ys, e, hk⟩ := ob hm
  have e' := e
  unfold setI at e'
  obtain ⟨vs, hs, rs⟩ := L.mrep g
  have hl : vs.length = xs.length := by rw [rs.length, List.length_map]
  cases hj : ixN xs.length i with
  | none => rw [hj] at e'; cases e'
  | some m =>
    rw [hj] at e'
    have e2 : xs.set m x = ys := Option.some.inj e'
    refine ⟨p, vs, i, m, rfl, rfl, hs, by rw [hl]; exact hj, ?_⟩
    have hX : X p := L.mx p (mem_muts.mpr ⟨j, _, g, rfl⟩)
    have kp : Keep X H (upd H p (.lst (vs.set m v))) := ⟨fun a u h n => by rw [upd_ne (fun z => n (by rw [z]; exact hX))]; exact h, fun a us h => by rw [upd_ne (fun z => by rw [z, hs] at h; cases h)]; exact h, fun a u w h => by rw [upd_ne (fun z => by rw [z, hs] at h; cases h)]; exact h⟩
    have := L.wrote (H' := upd H p (.lst (vs.set m v))) (o := ml ys) g rfl (fun a u h n => by rw [upd_ne n]; exact h) (fun a h => by
      by_cases z : a = p
      · rw [z, upd_same]; exact fun y => nomatch y
      · rw [upd_ne z]; exact h) ⟨_, upd_same, by rw [← e2, List.map_set]; exact (rs.set q m).keep kp⟩
    exact h ys _ e hk this.1
end
open Py (enc)

/-- how a loop's turn ends: the next one, out of the loop, out of the def -/
inductive Lp (τ ρ : Type) where
  | nxt (s : τ)
  | brk (s : τ)
  | ret (r : ρ)
def loopL {α τ ρ : Type} (f : α → τ → Option (Lp τ ρ)) : List α → τ → Option (Lp τ ρ)
  | [], s => some (.nxt s)
  | x :: xs, s => (f x s).bind fun o => match o with
    | .nxt s' => loopL f xs s'
    | .brk s' => some (.brk s')
    | .ret r => some (.ret r)
/-- a loop that is left by its end alone -/
def foldO {α τ : Type} (f : α → τ → Option τ) : List α → τ → Option τ
  | [], s => some s
  | x :: xs, s => (f x s).bind fun s' => foldO f xs s'
def loopW {τ ρ : Type} (f : τ → Option (Lp τ ρ)) : Nat → τ → Option (Lp τ ρ)
  | 0, _ => none
  | n + 1, s => (f s).bind fun o => match o with
    | .nxt s' => loopW f n s'
    | .brk s' => some (.brk s')
    | .ret r => some (.ret r)
/-- a while without a break or a return -/
def whileO {τ : Type} (c : τ → Bool) (f : τ → Option τ) : Nat → τ → Option τ
  | 0, _ => none
  | n + 1, s => if c s = true then (f s).bind fun s' => whileO c f n s' else some s
def rangeL (lo : Int) (n : Nat) : List Int := (List.range n).map fun (k : Nat) => lo + (k : Int)

/-- what a loop told -/
def Lp.out {τ ρ ρ' : Type} (o : Lp τ ρ) (j : ρ → Option ρ') (k : τ → Option ρ') : Option ρ' := match o with
  | .nxt s => k s
  | .brk s => k s
  | .ret r => j r
/-- the rest of a loop, of a comprehension, by name -/
def KForL (K : PySem.W.Frag) (g : TG) (tb : TS) (D : Ends) (σ : L2.St) (v : V) (H : Hp) : Prop := ∃ a, v = V.ref a ∧ (∃ xs, SqL K H a xs) ∧ ∃ W : Nat → Nat → L2.St → Hp → Prop, (∃ m, W 0 m σ H) ∧ ∀ i m σ H, W i m σ H →
      ((Itl K a).stop i H ∧ D.nx σ H) ∨ ((Itl K a).go i H ∧ ∃ N : L2.St → Hp → Prop, (∀ σ' H', N σ' H' → ∃ m', m' < m ∧ W (i + 1) m' σ' H') ∧ ∀ x H', (Itl K a).yld i H x H' → g x σ H' fun σ2 H2 => tb { D with nx := N, ct := N, bk := D.nx } σ2 H2)
def KForT (K : PySem.W.Frag) (g : TG) (tb : TS) (D : Ends) (σ : L2.St) (v : V) (H : Hp) : Prop := ∃ a, v = V.ref a ∧ (∃ xs, SqT K H a xs) ∧ ∃ W : Nat → Nat → L2.St → Hp → Prop, (∃ m, W 0 m σ H) ∧ ∀ i m σ H, W i m σ H →
      ((Itt K a).stop i H ∧ D.nx σ H) ∨ ((Itt K a).go i H ∧ ∃ N : L2.St → Hp → Prop, (∀ σ' H', N σ' H' → ∃ m', m' < m ∧ W (i + 1) m' σ' H') ∧ ∀ x H', (Itt K a).yld i H x H' → g x σ H' fun σ2 H2 => tb { D with nx := N, ct := N, bk := D.nx } σ2 H2)
def KForR (lo : Int) (n : Nat) (g : TG) (tb : TS) (D : Ends) (σ : L2.St) (H : Hp) : Prop := ∃ W : Nat → Nat → L2.St → Hp → Prop, (∃ m, W 0 m σ H) ∧ ∀ i m σ H, W i m σ H →
      ((Itr lo n).stop i H ∧ D.nx σ H) ∨ ((Itr lo n).go i H ∧ ∃ N : L2.St → Hp → Prop, (∀ σ' H', N σ' H' → ∃ m', m' < m ∧ W (i + 1) m' σ' H') ∧ ∀ x H', (Itr lo n).yld i H x H' → g x σ H' fun σ2 H2 => tb { D with nx := N, ct := N, bk := D.nx } σ2 H2)
def KWh (tb : TS) (D : Ends) (σ : L2.St) : Bool → Hp → Prop := fun b H => if b = true then tb D σ H else D.bk σ H
def KRng1 (R : Int → Nat → Hp → Prop) : List V → Hp → Prop := fun vs H => ∃ j : Int, vs = [.int j] ∧ -(2 ^ 62) ≤ j ∧ j < 2 ^ 62 ∧ R 0 j.toNat H
def KRng2 (R : Int → Nat → Hp → Prop) : List V → Hp → Prop := fun vs H => ∃ i j : Int, vs = [.int i, .int j] ∧ (-(2 ^ 62) ≤ i ∧ i < 2 ^ 62 ∧ -(2 ^ 62) ≤ j ∧ j < 2 ^ 62) ∧ R i (j - i).toNat H
theorem x_whIf {tb : TS} {nx bk ct : L2.St → Hp → Prop} {rt : VK} {σ : L2.St} {H : Hp} {ρ : Type} {c : Bool} {mA mB : Option ρ} {r : ρ} (hm : (if c = true then mA else mB) = some r) (hA : mA = some r → tb ⟨nx, rt, bk, ct⟩ σ H) (hB : mB = some r → bk σ H) : KWh tb ⟨nx, rt, bk, ct⟩ σ c H := by
  cases c with
  | true => exact hA hm
  | false => exact hB hm
section
variable {C : Cn} {X : Addr → Prop} {H : Hp} {σ : L2.St} {Γ Γ' : List Sl} {Q : VK} {α β τ ρ : Type}
theorem loop_drop {f : α → τ → Option (Lp τ ρ)} {xs : List α} {i : Nat} {x : α} {s : τ} {o : Lp τ ρ} (hx : xs[i]? = some x) (h : loopL f (xs.drop i) s = some o) :
    ∃ o1, f x s = some o1 ∧ (∀ s', o1 = .nxt s' → loopL f (xs.drop (i + 1)) s' = some o) ∧ (∀ s', o1 = .brk s' → o = .brk s') ∧ (∀ r, o1 = .ret r → o = .ret r) := by
  obtain ⟨hl, hx⟩ := List.getElem?_eq_some_iff.mp hx
  rw [List.drop_eq_getElem_cons hl, hx] at h
  obtain ⟨o1, h1, h2⟩ := ob h
  refine ⟨o1, h1, fun s' e => ?_, fun s' e => ?_, fun r e => ?_⟩
  · subst e; exact h2
  · subst e; exact (Option.some.inj h2).symm
  · subst e; exact (Option.some.inj h2).symm
/-- what a loop's body shows of one turn -/
def Body (C : Cn) (X : Addr → Prop) (G : τ → List Sl) (ps : ρ → List (Addr × MO)) (rs : ρ → Rs) (d : PyData) (s : τ) (o : Option (Lp τ ρ)) (g : TG) (tb : TS) : Prop :=
  ∀ (H : Hp) (σ : L2.St) (u : V) (nx : L2.St → Hp → Prop) (rt : VK) (bk ct : L2.St → Hp → Prop) (o1 : Lp τ ρ), o = some o1 → Lo ⟨C.K, X, H, muts (G s), C.n⟩ X H σ (G s) → Rep C.K X H d u →
    (∀ s', o1 = .nxt s' → ∀ X' σ' H', Lo ⟨C.K, X, H, muts (G s), C.n⟩ X' H' σ' (G s') → nx σ' H') →
    (∀ s', o1 = .nxt s' → ∀ X' σ' H', Lo ⟨C.K, X, H, muts (G s), C.n⟩ X' H' σ' (G s') → ct σ' H') →
    (∀ s', o1 = .brk s' → ∀ X' σ' H', Lo ⟨C.K, X, H, muts (G s), C.n⟩ X' H' σ' (G s') → bk σ' H') →
    (∀ r, o1 = .ret r → ∀ v H', Fin C.K X H (muts (G s)) (ps r) (rs r) v H' → rt v H') → g u σ H fun σ2 H2 => tb ⟨nx, rt, bk, ct⟩ σ2 H2
theorem x_for [Py α] {xs : List α} {f : α → τ → Option (Lp τ ρ)} {G : τ → List Sl} {ps : ρ → List (Addr × MO)} {rs : ρ → Rs} {s0 : τ} {o : Lp τ ρ} {v : V} {g : TG} {tb : TS} {nx bk ct : L2.St → Hp → Prop} {rt : VK}
    (L : Lo C X H σ (G s0)) (hG : ∀ s s', muts (G s) = muts (G s')) (r : Rep C.K X H (enc xs) v) (hm : loopL f xs s0 = some o)
    (body : ∀ x s, Body C X G ps rs (enc x) s (f x s) g tb)
    (done : ∀ s, o = .nxt s → ∀ σ' H', Lo C X H' σ' (G s) → nx σ' H') (brk : ∀ s, o = .brk s → ∀ σ' H', Lo C X H' σ' (G s) → nx σ' H')
    (ret : ∀ q, o = .ret q → ∀ v H', Fin C.K C.X0 C.H0 C.P0 (ps q) (rs q) v H' → rt v H') :
    KForL C.K g tb ⟨nx, rt, bk, ct⟩ σ v H := by
  obtain ⟨a, vs, rfl, hna, hrd, hrs⟩ := rep_lst (ds := xs.map enc) r
  refine ⟨a, rfl, ⟨vs, .inl hrd⟩, for_list (K := C.K) (a := a) (xs := vs) (fun i σ' H' => ∃ s, Lo C X H' σ' (G s) ∧ Rep C.K X H' (enc xs) (.ref a) ∧ Rd H' a (.lst vs) ∧ loopL f (xs.drop i) s = some o)
    ⟨s0, L, r, hrd, hm⟩ (fun i σ' H' _ ⟨s, _, _, h, _⟩ => .inl h) ?_ ?_⟩
  · rintro i y σ' H' hy ⟨s, L', r', hd', hm'⟩
    obtain ⟨a', vs', e', _, hrd', hrs'⟩ := rep_lst (ds := xs.map enc) r'
    cases e'
    have ev : vs' = vs := by
      rcases hd' with h1 | ⟨_, h1⟩ <;> rcases hrd' with h2 | ⟨_, h2⟩ <;> rw [h1] at h2 <;> cases h2 <;> rfl
    subst ev
    obtain ⟨d, hd, rd⟩ := hrs'.get' hy
    rw [List.getElem?_map] at hd
    cases hx : xs[i]? with
    | none => rw [hx] at hd; cases hd
    | some x =>
      rw [hx] at hd
      cases hd
      obtain ⟨o1, h1, h2, h3, h4⟩ := loop_drop hx hm'
      refine body x s H' σ' y _ _ _ _ o1 h1 L'.enter rd ?_ ?_ ?_ ?_
      · intro s' e X' σ'' H'' L''
        have k := L'.keep L''
        exact ⟨s', L'.leave L'' (hG _ _), r'.keep k, k.rd hna hrd', h2 s' e⟩
      · intro s' e X' σ'' H'' L''
        have k := L'.keep L''
        exact ⟨s', L'.leave L'' (hG _ _), r'.keep k, k.rd hna hrd', h2 s' e⟩
      · intro s' e X' σ'' H'' L''
        exact brk s' (h3 s' e) _ _ (L'.leave L'' (hG _ _))
      · intro q e v' H'' F
        exact ret q (h4 q e) v' H'' (F.leave L')
  · rintro σ' H' ⟨s, L', _, _, hm'⟩
    rw [hrs.length, List.length_map, List.drop_length] at hm'
    exact done s (Option.some.inj hm').symm _ _ L'
/-- .. over a tuple of such items -/
theorem x_forT [Py α] {xs : List α} {f : α → τ → Option (Lp τ ρ)} {G : τ → List Sl} {ps : ρ → List (Addr × MO)} {rs : ρ → Rs} {s0 : τ} {o : Lp τ ρ} {v : V} {g : TG} {tb : TS} {nx bk ct : L2.St → Hp → Prop} {rt : VK}
    (L : Lo C X H σ (G s0)) (hG : ∀ s s', muts (G s) = muts (G s')) (r : Rep C.K X H (.tuple (xs.map enc)) v) (hm : loopL f xs s0 = some o)
    (body : ∀ x s, Body C X G ps rs (enc x) s (f x s) g tb)
    (done : ∀ s, o = .nxt s → ∀ σ' H', Lo C X H' σ' (G s) → nx σ' H') (brk : ∀ s, o = .brk s → ∀ σ' H', Lo C X H' σ' (G s) → nx σ' H')
    (ret : ∀ q, o = .ret q → ∀ v H', Fin C.K C.X0 C.H0 C.P0 (ps q) (rs q) v H' → rt v H') :
    KForT C.K g tb ⟨nx, rt, bk, ct⟩ σ v H := by
  obtain ⟨a, vs, rfl, hrd, hrs⟩ := rep_tup r
  refine ⟨a, rfl, ⟨vs, hrd⟩, for_tup (K := C.K) (a := a) (xs := vs) (fun i σ' H' => ∃ s, Lo C X H' σ' (G s) ∧ SqT C.K H' a vs ∧ Reps C.K X H' (xs.map enc) vs ∧ loopL f (xs.drop i) s = some o)
    ⟨s0, L, hrd, hrs, hm⟩ (fun i σ' H' _ ⟨s, _, h, _⟩ => h) ?_ ?_⟩
  · rintro i y σ' H' hy ⟨s, L', hrd', hrs', hm'⟩
    obtain ⟨d, hd, rd⟩ := hrs'.get' hy
    rw [List.getElem?_map] at hd
    cases hx : xs[i]? with
    | none => rw [hx] at hd; cases hd
    | some x =>
      rw [hx] at hd
      cases hd
      obtain ⟨o1, h1, h2, h3, h4⟩ := loop_drop hx hm'
      refine body x s H' σ' y _ _ _ _ o1 h1 L'.enter rd ?_ ?_ ?_ ?_
      · intro s' e X' σ'' H'' L''
        have k := L'.keep L''
        exact ⟨s', L'.leave L'' (hG _ _), k.sqT hrd', hrs'.keep k, h2 s' e⟩
      · intro s' e X' σ'' H'' L''
        have k := L'.keep L''
        exact ⟨s', L'.leave L'' (hG _ _), k.sqT hrd', hrs'.keep k, h2 s' e⟩
      · intro s' e X' σ'' H'' L''
        exact brk s' (h3 s' e) _ _ (L'.leave L'' (hG _ _))
      · intro q e v' H'' F
        exact ret q (h4 q e) v' H'' (F.leave L')
  · rintro σ' H' ⟨s, L', _, _, hm'⟩
    rw [hrs.length, List.length_map, List.drop_length] at hm'
    exact done s (Option.some.inj hm').symm _ _ L'
theorem rangeL_get {lo : Int} {n i : Nat} (h : i < n) : (rangeL lo n)[i]? = some (lo + (i : Int)) := by
  unfold rangeL
  rw [List.getElem?_map, List.getElem?_range h]
  rfl
/-- .. over a range -/
theorem x_forR {f : Int → τ → Option (Lp τ ρ)} {G : τ → List Sl} {ps : ρ → List (Addr × MO)} {rs : ρ → Rs} {s0 : τ} {o : Lp τ ρ} {lo : Int} {n : Nat} {g : TG} {tb : TS} {nx bk ct : L2.St → Hp → Prop} {rt : VK}
    (L : Lo C X H σ (G s0)) (hG : ∀ s s', muts (G s) = muts (G s')) (hm : loopL f (rangeL lo n) s0 = some o)
    (body : ∀ x s, Body C X G ps rs (enc x) s (f x s) g tb)
    (done : ∀ s, o = .nxt s → ∀ σ' H', Lo C X H' σ' (G s) → nx σ' H') (brk : ∀ s, o = .brk s → ∀ σ' H', Lo C X H' σ' (G s) → nx σ' H')
    (ret : ∀ q, o = .ret q → ∀ v H', Fin C.K C.X0 C.H0 C.P0 (ps q) (rs q) v H' → rt v H') :
    KForR lo n g tb ⟨nx, rt, bk, ct⟩ σ H := by
  refine for_range (fun i σ' H' => ∃ s, Lo C X H' σ' (G s) ∧ loopL f ((rangeL lo n).drop i) s = some o) ⟨s0, L, hm⟩ ?_ ?_
  · rintro i σ' H' hi ⟨s, L', hm'⟩
    obtain ⟨o1, h1, h2, h3, h4⟩ := loop_drop (rangeL_get hi) hm'
    refine body (lo + (i : Int)) s H' σ' _ _ _ _ _ o1 h1 L'.enter (.int _) ?_ ?_ ?_ ?_
    · intro s' e X' σ'' H'' L''
      exact ⟨s', L'.leave L'' (hG _ _), h2 s' e⟩
    · intro s' e X' σ'' H'' L''
      exact ⟨s', L'.leave L'' (hG _ _), h2 s' e⟩
    · intro s' e X' σ'' H'' L''
      exact brk s' (h3 s' e) _ _ (L'.leave L'' (hG _ _))
    · intro q e v' H'' F
      exact ret q (h4 q e) v' H'' (F.leave L')
  · rintro σ' H' ⟨s, L', hm'⟩
    have hl : (rangeL lo n).length = n := by unfold rangeL; rw [List.length_map, List.length_range]
    have : (rangeL lo n).drop n = [] := List.drop_eq_nil_of_le (by omega)
    rw [this] at hm'
    exact done s (Option.some.inj hm').symm _ _ L'
/-- .. over the script -/
theorem x_forS {xs : List Int} {f : Int → τ → Option (Lp τ ρ)} {G : τ → List Sl} {ps : ρ → List (Addr × MO)} {rs : ρ → Rs} {s0 : τ} {o : Lp τ ρ} {v : V} {g : TG} {tb : TS} {nx bk ct : L2.St → Hp → Prop} {rt : VK}
    (L : Lo C X H σ (G s0)) (hG : ∀ s s', muts (G s) = muts (G s')) (r : SqX C.K X H xs v) (hm : loopL f xs s0 = some o)
    (body : ∀ x s, Body C X G ps rs (enc x) s (f x s) g tb)
    (done : ∀ s, o = .nxt s → ∀ σ' H', Lo C X H' σ' (G s) → nx σ' H') (brk : ∀ s, o = .brk s → ∀ σ' H', Lo C X H' σ' (G s) → nx σ' H')
    (ret : ∀ q, o = .ret q → ∀ v H', Fin C.K C.X0 C.H0 C.P0 (ps q) (rs q) v H' → rt v H') :
    KForL C.K g tb ⟨nx, rt, bk, ct⟩ σ v H := by
  obtain ⟨a, rfl, hs⟩ := r.sq
  refine ⟨a, rfl, ⟨_, hs⟩, for_list (K := C.K) (a := a) (xs := xs.map V.int) (fun i σ' H' => ∃ s, Lo C X H' σ' (G s) ∧ SqX C.K X H' xs (.ref a) ∧ loopL f (xs.drop i) s = some o)
    ⟨s0, L, r, hm⟩ (fun i σ' H' _ ⟨s, _, h, _⟩ => by obtain ⟨a', e, h⟩ := h.sq; cases e; exact h) ?_ ?_⟩
  · rintro i y σ' H' hy ⟨s, L', r', hm'⟩
    rw [List.getElem?_map] at hy
    cases hx : xs[i]? with
    | none => rw [hx] at hy; cases hy
    | some x =>
      rw [hx] at hy
      cases hy
      obtain ⟨o1, h1, h2, h3, h4⟩ := loop_drop hx hm'
      refine body x s H' σ' _ _ _ _ _ o1 h1 L'.enter (.int _) ?_ ?_ ?_ ?_
      · intro s' e X' σ'' H'' L''
        exact ⟨s', L'.leave L'' (hG _ _), r'.keep (L'.keep L''), h2 s' e⟩
      · intro s' e X' σ'' H'' L''
        exact ⟨s', L'.leave L'' (hG _ _), r'.keep (L'.keep L''), h2 s' e⟩
      · intro s' e X' σ'' H'' L''
        exact brk s' (h3 s' e) _ _ (L'.leave L'' (hG _ _))
      · intro q e v' H'' F
        exact ret q (h4 q e) v' H'' (F.leave L')
  · rintro σ' H' ⟨s, L', _, hm'⟩
    rw [List.length_map, List.drop_length] at hm'
    exact done s (Option.some.inj hm').symm _ _ L'
/-- a while: f runs the test, too, and tells brk where it is not so -/
theorem x_while {f : τ → Option (Lp τ ρ)} {G : τ → List Sl} {ps : ρ → List (Addr × MO)} {rs : ρ → Rs} {s0 : τ} {o : Lp τ ρ} {n : Nat} {c : TT} {tb : TS} {nx bk ct : L2.St → Hp → Prop} {rt : VK}
    (L : Lo C X H σ (G s0)) (hG : ∀ s s', muts (G s) = muts (G s')) (hm : loopW f n s0 = some o)
    (body : ∀ s, ∀ (H : Hp) (σ : L2.St) (nx : L2.St → Hp → Prop) (rt : VK) (bk ct : L2.St → Hp → Prop) (o1 : Lp τ ρ), f s = some o1 → Lo ⟨C.K, X, H, muts (G s), C.n⟩ X H σ (G s) →
      (∀ s', o1 = .nxt s' → ∀ X' σ' H', Lo ⟨C.K, X, H, muts (G s), C.n⟩ X' H' σ' (G s') → nx σ' H') →
      (∀ s', o1 = .nxt s' → ∀ X' σ' H', Lo ⟨C.K, X, H, muts (G s), C.n⟩ X' H' σ' (G s') → ct σ' H') →
      (∀ s', o1 = .brk s' → ∀ X' σ' H', Lo ⟨C.K, X, H, muts (G s), C.n⟩ X' H' σ' (G s') → bk σ' H') →
      (∀ r, o1 = .ret r → ∀ v H', Fin C.K X H (muts (G s)) (ps r) (rs r) v H' → rt v H') →
      ∀ Qc : Bool → Hp → Prop, (∀ b H1, KWh tb ⟨nx, rt, bk, ct⟩ σ b H1 → Qc b H1) → c σ H Qc)
    (done : ∀ s, o = .brk s → ∀ σ' H', Lo C X H' σ' (G s) → nx σ' H')
    (ret : ∀ q, o = .ret q → ∀ v H', Fin C.K C.X0 C.H0 C.P0 (ps q) (rs q) v H' → rt v H') : tWhile c tb ⟨nx, rt, bk, ct⟩ σ H := by
  refine ⟨fun m σ' H' => ∃ s, Lo C X H' σ' (G s) ∧ loopW f m s = some o, ⟨n, s0, L, hm⟩, ?_⟩
  rintro m σ' H' ⟨s, L', hm'⟩
  cases m with
  | zero => cases hm'
  | succ m =>
    obtain ⟨o1, h1, h2⟩ := ob hm'
    refine body s H' σ' (fun σ' H' => ∃ s, Lo C X H' σ' (G s) ∧ loopW f m s = some o) rt nx (fun σ' H' => ∃ s, Lo C X H' σ' (G s) ∧ loopW f m s = some o) o1 h1 L'.enter ?_ ?_ ?_ ?_ _ ?_
    · intro s' e X' σ'' H'' L''
      subst e
      exact ⟨s', L'.leave L'' (hG _ _), h2⟩
    · intro s' e X' σ'' H'' L''
      subst e
      exact ⟨s', L'.leave L'' (hG _ _), h2⟩
    · intro s' e X' σ'' H'' L''
      subst e
      exact done s' (Option.some.inj h2).symm _ _ (L'.leave L'' (hG _ _))
    · intro q e v' H'' F
      subst e
      exact ret q (Option.some.inj h2).symm v' H'' (F.leave L')
    · intro b H1 q
      cases b with
      | true => exact ⟨fun σ' H' => ∃ s, Lo C X H' σ' (G s) ∧ loopW f m s = some o, fun σ1 H1 ⟨s1, L1, h⟩ => ⟨m, Nat.lt_succ_self _, s1, L1, h⟩, q⟩
      | false => exact q


/-! ### loops, with what stands behind them -/
def BodyO (C : Cn) (X : Addr → Prop) (G : τ → List Sl) (d : PyData) (s : τ) (o : Option τ) (g : TG) (tb : TS) : Prop :=
  ∀ (H : Hp) (σ : L2.St) (u : V) (nx : L2.St → Hp → Prop) (rt : VK) (bk ct : L2.St → Hp → Prop) (s1 : τ), o = some s1 → Lo ⟨C.K, X, H, muts (G s), C.n⟩ X H σ (G s) → Rep C.K X H d u →
    (∀ X' σ' H', Lo ⟨C.K, X, H, muts (G s), C.n⟩ X' H' σ' (G s1) → nx σ' H') →
    (∀ X' σ' H', Lo ⟨C.K, X, H, muts (G s), C.n⟩ X' H' σ' (G s1) → ct σ' H') → g u σ H fun σ2 H2 => tb ⟨nx, rt, bk, ct⟩ σ2 H2
theorem foldO_loop {f : α → τ → Option τ} : ∀ {xs : List α} {s s' : τ}, foldO f xs s = some s' → loopL (ρ := Empty) (fun x s => (f x s).bind fun s => some (.nxt s)) xs s = some (.nxt s')
  | [], s, s', h => by cases h; rfl
  | x :: xs, s, s', h => by
    obtain ⟨t, h1, h2⟩ := ob h
    show ((f x s).bind fun s => some (Lp.nxt (ρ := Empty) s)).bind _ = _
    rw [h1]
    exact foldO_loop h2
theorem BodyO.body {G : τ → List Sl} {d : PyData} {s : τ} {o : Option τ} {g : TG} {tb : TS} (b : BodyO C X G d s o g tb) : Body (ρ := Empty) C X G (fun _ => []) (fun _ => .imm .none) d s (o.bind fun s => some (.nxt s)) g tb := by
  intro H σ u nx rt bk ct o1 hm L r hN hC hB hR
  obtain ⟨s1, h1, h2⟩ := ob hm
  cases h2
  exact b H σ u nx rt bk ct s1 h1 L r (hN s1 rfl) (hC s1 rfl)
theorem x_foL [Py α] {xs : List α} {f : α → τ → Option τ} {G : τ → List Sl} {s0 : τ} {v : V} {g : TG} {tb : TS} {nx bk ct : L2.St → Hp → Prop} {rt : VK} {k : τ → Option ρ} {res : ρ}
    (L : Lo C X H σ (G s0)) (hG : ∀ s s', muts (G s) = muts (G s')) (r : Rep C.K X H (enc xs) v) (hm : (foldO f xs s0).bind k = some res)
    (body : ∀ x s, BodyO C X G (enc x) s (f x s) g tb) (done : ∀ s σ' H', k s = some res → Lo C X H' σ' (G s) → nx σ' H') : KForL C.K g tb ⟨nx, rt, bk, ct⟩ σ v H := by
  obtain ⟨s1, h1, h2⟩ := ob hm
  exact x_for (ρ := Empty) (o := .nxt s1) (ps := fun _ => []) (rs := fun _ => .imm .none) L hG r (foldO_loop h1) (fun x s => (body x s).body) (fun s e σ' H' L' => by cases e; exact done _ _ _ h2 L') (fun s e => nomatch e) (fun q => nomatch q)
theorem x_flL [Py α] {xs : List α} {f : α → τ → Option (Lp τ ρ)} {G : τ → List Sl} {ps : ρ → List (Addr × MO)} {rs : ρ → Rs} {s0 : τ} {v : V} {g : TG} {tb : TS} {nx bk ct : L2.St → Hp → Prop} {rt : VK} {k : τ → Option β} {j : ρ → Option β} {res : β}
    (L : Lo C X H σ (G s0)) (hG : ∀ s s', muts (G s) = muts (G s')) (r : Rep C.K X H (enc xs) v) (hm : (loopL f xs s0).bind (fun o => o.out j k) = some res)
    (body : ∀ x s, Body C X G ps rs (enc x) s (f x s) g tb) (done : ∀ s σ' H', k s = some res → Lo C X H' σ' (G s) → nx σ' H')
    (ret : ∀ q v H', j q = some res → Fin C.K C.X0 C.H0 C.P0 (ps q) (rs q) v H' → rt v H') : KForL C.K g tb ⟨nx, rt, bk, ct⟩ σ v H := by
  obtain ⟨o, h1, h2⟩ := ob hm
  exact x_for L hG r h1 body (fun s e σ' H' L' => done _ _ _ (by rw [e] at h2; exact h2) L') (fun s e σ' H' L' => done _ _ _ (by rw [e] at h2; exact h2) L') (fun q e v H' F => ret _ _ _ (by rw [e] at h2; exact h2) F)
theorem x_foT [Py α] {xs : List α} {f : α → τ → Option τ} {G : τ → List Sl} {s0 : τ} {v : V} {g : TG} {tb : TS} {nx bk ct : L2.St → Hp → Prop} {rt : VK} {k : τ → Option ρ} {res : ρ}
    (L : Lo C X H σ (G s0)) (hG : ∀ s s', muts (G s) = muts (G s')) (r : Rep C.K X H (.tuple (xs.map enc)) v) (hm : (foldO f xs s0).bind k = some res)
    (body : ∀ x s, BodyO C X G (enc x) s (f x s) g tb) (done : ∀ s σ' H', k s = some res → Lo C X H' σ' (G s) → nx σ' H') : KForT C.K g tb ⟨nx, rt, bk, ct⟩ σ v H := by
  obtain ⟨s1, h1, h2⟩ := ob hm
  exact x_forT (ρ := Empty) (o := .nxt s1) (ps := fun _ => []) (rs := fun _ => .imm .none) L hG r (foldO_loop h1) (fun x s => (body x s).body) (fun s e σ' H' L' => by cases e; exact done _ _ _ h2 L') (fun s e => nomatch e) (fun q => nomatch q)
theorem x_flT [Py α] {xs : List α} {f : α → τ → Option (Lp τ ρ)} {G : τ → List Sl} {ps : ρ → List (Addr × MO)} {rs : ρ → Rs} {s0 : τ} {v : V} {g : TG} {tb : TS} {nx bk ct : L2.St → Hp → Prop} {rt : VK} {k : τ → Option β} {j : ρ → Option β} {res : β}
    (L : Lo C X H σ (G s0)) (hG : ∀ s s', muts (G s) = muts (G s')) (r : Rep C.K X H (.tuple (xs.map enc)) v) (hm : (loopL f xs s0).bind (fun o => o.out j k) = some res)
    (body : ∀ x s, Body C X G ps rs (enc x) s (f x s) g tb) (done : ∀ s σ' H', k s = some res → Lo C X H' σ' (G s) → nx σ' H')
    (ret : ∀ q v H', j q = some res → Fin C.K C.X0 C.H0 C.P0 (ps q) (rs q) v H' → rt v H') : KForT C.K g tb ⟨nx, rt, bk, ct⟩ σ v H := by
  obtain ⟨o, h1, h2⟩ := ob hm
  exact x_forT L hG r h1 body (fun s e σ' H' L' => done _ _ _ (by rw [e] at h2; exact h2) L') (fun s e σ' H' L' => done _ _ _ (by rw [e] at h2; exact h2) L') (fun q e v H' F => ret _ _ _ (by rw [e] at h2; exact h2) F)
theorem x_foS {xs : List Int} {f : Int → τ → Option τ} {G : τ → List Sl} {s0 : τ} {v : V} {g : TG} {tb : TS} {nx bk ct : L2.St → Hp → Prop} {rt : VK} {k : τ → Option ρ} {res : ρ}
    (L : Lo C X H σ (G s0)) (hG : ∀ s s', muts (G s) = muts (G s')) (r : SqX C.K X H xs v) (hm : (foldO f xs s0).bind k = some res)
    (body : ∀ x s, BodyO C X G (enc x) s (f x s) g tb) (done : ∀ s σ' H', k s = some res → Lo C X H' σ' (G s) → nx σ' H') : KForL C.K g tb ⟨nx, rt, bk, ct⟩ σ v H := by
  obtain ⟨s1, h1, h2⟩ := ob hm
  exact x_forS (ρ := Empty) (o := .nxt s1) (ps := fun _ => []) (rs := fun _ => .imm .none) L hG r (foldO_loop h1) (fun x s => (body x s).body) (fun s e σ' H' L' => by cases e; exact done _ _ _ h2 L') (fun s e => nomatch e) (fun q => nomatch q)
theorem x_flS {xs : List Int} {f : Int → τ → Option (Lp τ ρ)} {G : τ → List Sl} {ps : ρ → List (Addr × MO)} {rs : ρ → Rs} {s0 : τ} {v : V} {g : TG} {tb : TS} {nx bk ct : L2.St → Hp → Prop} {rt : VK} {k : τ → Option β} {j : ρ → Option β} {res : β}
    (L : Lo C X H σ (G s0)) (hG : ∀ s s', muts (G s) = muts (G s')) (r : SqX C.K X H xs v) (hm : (loopL f xs s0).bind (fun o => o.out j k) = some res)
    (body : ∀ x s, Body C X G ps rs (enc x) s (f x s) g tb) (done : ∀ s σ' H', k s = some res → Lo C X H' σ' (G s) → nx σ' H')
    (ret : ∀ q v H', j q = some res → Fin C.K C.X0 C.H0 C.P0 (ps q) (rs q) v H' → rt v H') : KForL C.K g tb ⟨nx, rt, bk, ct⟩ σ v H := by
  obtain ⟨o, h1, h2⟩ := ob hm
  exact x_forS L hG r h1 body (fun s e σ' H' L' => done _ _ _ (by rw [e] at h2; exact h2) L') (fun s e σ' H' L' => done _ _ _ (by rw [e] at h2; exact h2) L') (fun q e v H' F => ret _ _ _ (by rw [e] at h2; exact h2) F)
theorem x_foR {f : Int → τ → Option τ} {G : τ → List Sl} {s0 : τ} {lo : Int} {n : Nat} {g : TG} {tb : TS} {nx bk ct : L2.St → Hp → Prop} {rt : VK} {k : τ → Option ρ} {res : ρ}
    (L : Lo C X H σ (G s0)) (hG : ∀ s s', muts (G s) = muts (G s')) (hm : (foldO f (rangeL lo n) s0).bind k = some res)
    (body : ∀ x s, BodyO C X G (enc x) s (f x s) g tb) (done : ∀ s σ' H', k s = some res → Lo C X H' σ' (G s) → nx σ' H') : KForR lo n g tb ⟨nx, rt, bk, ct⟩ σ H := by
  obtain ⟨s1, h1, h2⟩ := ob hm
  exact x_forR (ρ := Empty) (o := .nxt s1) (ps := fun _ => []) (rs := fun _ => .imm .none) L hG (foldO_loop h1) (fun x s => (body x s).body) (fun s e σ' H' L' => by cases e; exact done _ _ _ h2 L') (fun s e => nomatch e) (fun q => nomatch q)
theorem x_flR {f : Int → τ → Option (Lp τ ρ)} {G : τ → List Sl} {ps : ρ → List (Addr × MO)} {rs : ρ → Rs} {s0 : τ} {lo : Int} {n : Nat} {g : TG} {tb : TS} {nx bk ct : L2.St → Hp → Prop} {rt : VK} {k : τ → Option β} {j : ρ → Option β} {res : β}
    (L : Lo C X H σ (G s0)) (hG : ∀ s s', muts (G s) = muts (G s')) (hm : (loopL f (rangeL lo n) s0).bind (fun o => o.out j k) = some res)
    (body : ∀ x s, Body C X G ps rs (enc x) s (f x s) g tb) (done : ∀ s σ' H', k s = some res → Lo C X H' σ' (G s) → nx σ' H')
    (ret : ∀ q v H', j q = some res → Fin C.K C.X0 C.H0 C.P0 (ps q) (rs q) v H' → rt v H') : KForR lo n g tb ⟨nx, rt, bk, ct⟩ σ H := by
  obtain ⟨o, h1, h2⟩ := ob hm
  exact x_forR L hG h1 body (fun s e σ' H' L' => done _ _ _ (by rw [e] at h2; exact h2) L') (fun s e σ' H' L' => done _ _ _ (by rw [e] at h2; exact h2) L') (fun q e v H' F => ret _ _ _ (by rw [e] at h2; exact h2) F)
def BodyW (C : Cn) (X : Addr → Prop) (G : τ → List Sl) (ps : ρ → List (Addr × MO)) (rs : ρ → Rs) (s : τ) (o : Option (Lp τ ρ)) (c : TT) (tb : TS) : Prop :=
  ∀ (H : Hp) (σ : L2.St) (nx : L2.St → Hp → Prop) (rt : VK) (bk ct : L2.St → Hp → Prop) (o1 : Lp τ ρ), o = some o1 → Lo ⟨C.K, X, H, muts (G s), C.n⟩ X H σ (G s) →
    (∀ s', o1 = .nxt s' → ∀ X' σ' H', Lo ⟨C.K, X, H, muts (G s), C.n⟩ X' H' σ' (G s') → nx σ' H') →
    (∀ s', o1 = .nxt s' → ∀ X' σ' H', Lo ⟨C.K, X, H, muts (G s), C.n⟩ X' H' σ' (G s') → ct σ' H') →
    (∀ s', o1 = .brk s' → ∀ X' σ' H', Lo ⟨C.K, X, H, muts (G s), C.n⟩ X' H' σ' (G s') → bk σ' H') →
    (∀ r, o1 = .ret r → ∀ v H', Fin C.K X H (muts (G s)) (ps r) (rs r) v H' → rt v H') →
    ∀ Qc : Bool → Hp → Prop, (∀ b H1, KWh tb ⟨nx, rt, bk, ct⟩ σ b H1 → Qc b H1) → c σ H Qc
theorem x_wh {f : τ → Option (Lp τ ρ)} {G : τ → List Sl} {ps : ρ → List (Addr × MO)} {rs : ρ → Rs} {s0 : τ} {n : Nat} {c : TT} {tb : TS} {nx bk ct : L2.St → Hp → Prop} {rt : VK} {k : τ → Option β} {j : ρ → Option β} {res : β}
    (L : Lo C X H σ (G s0)) (hG : ∀ s s', muts (G s) = muts (G s')) (hm : (loopW f n s0).bind (fun o => o.out j k) = some res)
    (body : ∀ s, BodyW C X G ps rs s (f s) c tb) (done : ∀ s σ' H', k s = some res → Lo C X H' σ' (G s) → nx σ' H')
    (ret : ∀ q v H', j q = some res → Fin C.K C.X0 C.H0 C.P0 (ps q) (rs q) v H' → rt v H') : tWhile c tb ⟨nx, rt, bk, ct⟩ σ H := by
  obtain ⟨o, h1, h2⟩ := ob hm
  refine x_while L hG h1 body (fun s e σ' H' L' => done _ _ _ (by rw [e] at h2; exact h2) L') (fun q e v H' F => ret _ _ _ (by rw [e] at h2; exact h2) F)
/-- the heads of loops -/
theorem x_tforL {te : TE} {g : TG} {tb : TS} {D : Ends} {K : PySem.W.Frag} (h : te σ H (KForL K g tb D σ)) : tFor (iList K te) g tb D σ H := h
theorem x_tforT {te : TE} {g : TG} {tb : TS} {D : Ends} {K : PySem.W.Frag} (h : te σ H (KForT K g tb D σ)) : tFor (iTup K te) g tb D σ H := h
theorem x_tforR1 {ta : TA} {g : TG} {tb : TS} {D : Ends} (h : ta σ H (KRng1 fun lo n H => KForR lo n g tb D σ H)) : tFor (iRng1 ta) g tb D σ H := h
theorem x_tforR2 {ta : TA} {g : TG} {tb : TS} {D : Ends} (h : ta σ H (KRng2 fun lo n H => KForR lo n g tb D σ H)) : tFor (iRng2 ta) g tb D σ H := h
def rngOk (j : Int) : Option Unit := if -(2 ^ 62) ≤ j ∧ j < 2 ^ 62 then some () else none
theorem rng_ok {j : Int} {k : Unit → Option ρ} {r : ρ} (hm : (rngOk j).bind k = some r) : (-(2 ^ 62) ≤ j ∧ j < 2 ^ 62) ∧ k () = some r := by
  obtain ⟨_, e, hk⟩ := ob hm
  unfold rngOk at e
  split at e
  · exact ⟨by assumption, hk⟩
  · cases e
theorem x_r1 {j : Int} {k : Unit → Option ρ} {r : ρ} {R : Int → Nat → Hp → Prop} (hm : (rngOk j).bind k = some r) (h : k () = some r → R 0 j.toNat H) : KRng1 R [.int j] H := by
  obtain ⟨⟨a, b⟩, hk⟩ := rng_ok hm
  exact ⟨j, rfl, a, b, h hk⟩
theorem x_r1c {j : Int} {n : Nat} {R : Int → Nat → Hp → Prop} (hj : (-(2 ^ 62) ≤ j ∧ j < 2 ^ 62) ∧ j.toNat = n) (h : R 0 n H) : KRng1 R [.int j] H := ⟨j, rfl, hj.1.1, hj.1.2, by rw [hj.2]; exact h⟩
theorem x_r2 {i j : Int} {k : Unit → Option ρ} {r : ρ} {R : Int → Nat → Hp → Prop} (hm : ((rngOk i).bind fun _ => rngOk j).bind k = some r) (h : k () = some r → R i (j - i).toNat H) : KRng2 R [.int i, .int j] H := by
  obtain ⟨u, e, hk⟩ := ob hm
  obtain ⟨⟨a, b⟩, e2⟩ := rng_ok e
  obtain ⟨⟨c, d⟩, _⟩ := rng_ok (k := fun _ => some ()) (r := ()) (by rw [e2]; rfl)
  exact ⟨i, j, rfl, ⟨a, b, c, d⟩, h hk⟩
/-! ### comprehensions -/
def compL {α β τ : Type} (f : α → τ → Option (Option β × τ)) : List α → τ → Option (List β × τ)
  | [], s => some ([], s)
  | x :: xs, s => (f x s).bind fun r => (compL f xs r.2).bind fun q => some ((match r.1 with | some y => y :: q.1 | none => q.1), q.2)
def mapO {α β : Type} (f : α → Option β) : List α → Option (List β)
  | [] => some []
  | x :: xs => (f x).bind fun y => (mapO f xs).bind fun ys => some (y :: ys)
def filO {α β : Type} (f : α → Option (Option β)) : List α → Option (List β)
  | [] => some []
  | x :: xs => (f x).bind fun y => (filO f xs).bind fun ys => some (match y with | some z => z :: ys | none => ys)
def mapS {α β τ : Type} (f : α → τ → Option (β × τ)) : List α → τ → Option (List β × τ)
  | [], s => some ([], s)
  | x :: xs, s => (f x s).bind fun r => (mapS f xs r.2).bind fun q => some (r.1 :: q.1, q.2)
theorem mapO_comp {f : α → Option β} : ∀ {xs : List α} {ys : List β}, mapO f xs = some ys → compL (τ := Unit) (fun x s => (f x).bind fun y => some (some y, s)) xs () = some (ys, ())
  | [], ys, h => by cases h; rfl
  | x :: xs, ys, h => by
    obtain ⟨y, h1, h⟩ := ob h
    obtain ⟨zs, h2, h⟩ := ob h
    cases h
    show ((f x).bind fun y => some (some y, ())).bind _ = _
    rw [h1]
    show (compL (τ := Unit) (fun x s => (f x).bind fun y => some (some y, s)) xs ()).bind _ = _
    rw [mapO_comp h2]
    rfl
theorem filO_comp {f : α → Option (Option β)} : ∀ {xs : List α} {ys : List β}, filO f xs = some ys → compL (τ := Unit) (fun x s => (f x).bind fun y => some (y, s)) xs () = some (ys, ())
  | [], ys, h => by cases h; rfl
  | x :: xs, ys, h => by
    obtain ⟨y, h1, h⟩ := ob h
    obtain ⟨zs, h2, h⟩ := ob h
    cases h
    show ((f x).bind fun y => some (y, ())).bind _ = _
    rw [h1]
    show (compL (τ := Unit) (fun x s => (f x).bind fun y => some (y, s)) xs ()).bind _ = _
    rw [filO_comp h2]
    cases y <;> rfl
theorem mapS_comp {f : α → τ → Option (β × τ)} : ∀ {xs : List α} {s : τ} {q : List β × τ}, mapS f xs s = some q → compL (fun x s => (f x s).bind fun y => some (some y.1, y.2)) xs s = some q
  | [], s, q, h => by cases h; rfl
  | x :: xs, s, q, h => by
    obtain ⟨y, h1, h⟩ := ob h
    obtain ⟨zs, h2, h⟩ := ob h
    cases h
    show ((f x s).bind fun y => some (some y.1, y.2)).bind _ = _
    rw [h1]
    show (compL (fun x s => (f x s).bind fun y => some (some y.1, y.2)) xs y.2).bind _ = _
    rw [mapS_comp h2]
    rfl
/-- what is known behind a block of its own names -/
def Bk : List Sl → List Sl → List Sl → Prop
  | [], _, [] => True
  | s :: Γ, s2 :: Γ2, s' :: Γ' => ((s' = s ∧ s.ad = none) ∨ (∃ p o o', s = .mu p o ∧ s2 = .mu p o' ∧ s' = .mu p o') ∨ (∃ p o o', s = .tmp p o ∧ s2 = .tmp p o' ∧ s' = .tmp p o')) ∧ Bk Γ Γ2 Γ'
  | _, _, _ => False
theorem Bk.e {Γ2 : List Sl} : Bk [] Γ2 [] := trivial
theorem Bk.i {s s2 : Sl} {Γ Γ2 Γ' : List Sl} (e : s.ad = none) (h : Bk Γ Γ2 Γ') : Bk (s :: Γ) (s2 :: Γ2) (s :: Γ') := ⟨.inl ⟨rfl, e⟩, h⟩
theorem Bk.m {p : Addr} {o o' : MO} {Γ Γ2 Γ' : List Sl} (h : Bk Γ Γ2 Γ') : Bk (.mu p o :: Γ) (.mu p o' :: Γ2) (.mu p o' :: Γ') := ⟨.inr (.inl ⟨p, o, o', rfl, rfl, rfl⟩), h⟩
theorem Bk.t {p : Addr} {o o' : MO} {Γ Γ2 Γ' : List Sl} (h : Bk Γ Γ2 Γ') : Bk (.tmp p o :: Γ) (.tmp p o' :: Γ2) (.tmp p o' :: Γ') := ⟨.inr (.inr ⟨p, o, o', rfl, rfl, rfl⟩), h⟩
theorem Bk.get : ∀ {Γ Γ2 Γ' : List Sl}, Bk Γ Γ2 Γ' → ∀ {i : Nat} {s' : Sl}, Γ'[i]? = some s' → (Γ[i]? = some s' ∧ s'.ad = none) ∨ (∃ p o o', Γ[i]? = some (.mu p o) ∧ Γ2[i]? = some (.mu p o') ∧ s' = .mu p o') ∨ (∃ p o o', Γ[i]? = some (.tmp p o) ∧ Γ2[i]? = some (.tmp p o') ∧ s' = .tmp p o')
  | [], _, [], _, _, _, e => by simp at e
  | [], _, _ :: _, h, _, _, _ => h.elim
  | s :: Γ, [], Γ', h, _, _, _ => by cases Γ' <;> exact h.elim
  | s :: Γ, s2 :: Γ2, [], h, _, _, _ => h.elim
  | s :: Γ, s2 :: Γ2, s0 :: Γ', ⟨h, t⟩, 0, s', e => by
    simp at e; subst e
    rcases h with ⟨h, h2⟩ | ⟨p, o, o', h1, h2, h3⟩ | ⟨p, o, o', h1, h2, h3⟩
    · subst h; exact .inl ⟨rfl, h2⟩
    · subst h1 h2 h3; exact .inr (.inl ⟨p, o, o', rfl, rfl, rfl⟩)
    · subst h1 h2 h3; exact .inr (.inr ⟨p, o, o', rfl, rfl, rfl⟩)
  | s :: Γ, s2 :: Γ2, s0 :: Γ', ⟨h, t⟩, i + 1, s', e => by
    have := Bk.get t (i := i) (s' := s') (by simpa using e)
    simpa using this
theorem Bk.muts : ∀ {Γ Γ2 Γ' : List Sl}, Bk Γ Γ2 Γ' → muts Γ' = muts Γ
  | [], _, [], _ => rfl
  | [], _, _ :: _, h => h.elim
  | s :: Γ, [], Γ', h => by cases Γ' <;> exact h.elim
  | s :: Γ, s2 :: Γ2, [], h => h.elim
  | s :: Γ, s2 :: Γ2, s0 :: Γ', ⟨h, t⟩ => by
    have ih := Bk.muts t
    unfold Sc.muts at ih ⊢
    rw [List.filterMap_cons, List.filterMap_cons, ih]
    have : s0.ad = s.ad := by
      rcases h with ⟨h, h2⟩ | ⟨p, o, o', h1, h2, h3⟩ | ⟨p, o, o', h1, h2, h3⟩
      · rw [h]
      · rw [h1, h3]; rfl
      · rw [h1, h3]; rfl
    rw [this]
theorem Lo.back {X' : Addr → Prop} {H' : Hp} {σ2 : L2.St} {Γ2 : List Sl} (L : Lo C X H σ Γ) (M : Lo (C.at_ X H Γ) X' H' σ2 Γ2) (b : Bk Γ Γ2 Γ') : Lo C X H' σ Γ' := by
  have sub : ∀ a, X a → X' a := M.m0
  have hm := b.muts
  refine ⟨L.len, fun i s hi => ?_, by rw [hm]; exact L.nd, fun p hp => L.mx p (hm ▸ hp), L.m0, fun a h => M.xd a (sub a h), fun a o e n => M.base a o (L.base a o e n) (L.nown e n), fun a h => M.dom a (L.dom a h), fun p hp => L.own p (hm ▸ hp), L.tf⟩
  rcases b.get hi with ⟨h1, h2⟩ | ⟨p, o, o', h1, h2, h3⟩ | ⟨p, o, o', h1, h2, h3⟩
  · exact (L.at_ i s h1).keep (L.keep M) fun p e => by rw [h2] at e; cases e
  · subst h3
    exact ⟨(L.at_ i _ h1).1, (M.at_ i _ h2).2.anti sub⟩
  · subst h3
    exact MRep.anti sub (M.at_ i _ h2)
theorem Lo.xanti {Y : Addr → Prop} (L : Lo C X H σ Γ) (h : ∀ a, Y a → X a) (hm : ∀ p ∈ muts Γ, Y p) (h0 : ∀ a, C.X0 a → Y a) : Lo C Y H σ Γ :=
  ⟨L.len, fun i s hi => (L.at_ i s hi).anti h, L.nd, hm, h0, fun a z => L.xd a (h a z), L.base, L.dom, L.own, L.tf⟩
/-- the object at p, of no slot, is written -/
theorem Lo.wroteX {p : Addr} {o o' : HO} (L : Lo C X H σ Γ) (hX : X p) (hn : p ∉ muts Γ) (h : H p = some o) (h0 : C.H0 p = none) (nt : ∀ vs, o ≠ .tup vs) (nf : ∀ u w, o ≠ .frz u w) :
    Lo C X (upd H p o') σ Γ ∧ Keep X H (upd H p o') := by
  have kp : Keep X H (upd H p o') := ⟨fun a u e n => by rw [upd_ne (fun z => n (by rw [z]; exact hX))]; exact e, fun a vs e => by rw [upd_ne (fun z => by rw [z, h] at e; exact nt vs (Option.some.inj e))]; exact e, fun a u w e => by rw [upd_ne (fun z => by rw [z, h] at e; exact nf u w (Option.some.inj e))]; exact e⟩
  have hd : ∀ a, H a ≠ none → upd H p o' a ≠ none := fun a e => by
    by_cases z : a = p
    · rw [z, upd_same]; exact fun y => nomatch y
    · rw [upd_ne z]; exact e
  refine ⟨⟨L.len, fun i s hi => (L.at_ i s hi).keep kp fun q e => upd_ne fun z => hn ?_, L.nd, L.mx, L.m0, fun a z => hd a (L.xd a z), fun a u e n => ?_, fun a e => hd a (L.dom a e), L.own, L.tf⟩, kp⟩
  · subst z; exact mem_muts.mpr ⟨i, s, hi, e⟩
  · rw [upd_ne fun z => by rw [z, h0] at e; cases e]
    exact L.base a u e n
theorem comp_drop {f : α → τ → Option (Option β × τ)} {xs : List α} {i : Nat} {x : α} {s : τ} {q : List β × τ} (hx : xs[i]? = some x) (h : compL f (xs.drop i) s = some q) :
    ∃ r q', f x s = some r ∧ compL f (xs.drop (i + 1)) r.2 = some q' ∧ q = ((match r.1 with | some y => y :: q'.1 | none => q'.1), q'.2) := by
  obtain ⟨hl, hx⟩ := List.getElem?_eq_some_iff.mp hx
  rw [List.drop_eq_getElem_cons hl, hx] at h
  obtain ⟨r, h1, h2⟩ := ob h
  obtain ⟨q', h3, h4⟩ := ob h2
  exact ⟨r, q', h1, h3, (Option.some.inj h4).symm⟩
/-- the rest of a comprehension, by name -/
def KLcL (K : PySem.W.Frag) (g : TG) (tt : TT) (te : TE) (ws : List Nat) (σ : L2.St) (Q : VK) (v : V) (H : Hp) : Prop := ∃ a, v = V.ref a ∧ (∃ xs, SqL K H a xs) ∧ ∀ D, H D = none → ∃ W : Nat → Nat → Hp → Prop, (∃ m, W 0 m (upd H D (.lst []))) ∧ ∀ i m H, W i m H →
      ((Itl K a).stop i H ∧ Q (.ref D) H) ∨ ((Itl K a).go i H ∧ ∃ Nx : Hp → Prop, (∀ H', Nx H' → ∃ m', m' < m ∧ W (i + 1) m' H') ∧ ∀ x H', (Itl K a).yld i H x H' → g x (wipe σ ws) H' fun σ2 H2 => wipe σ2 ws = wipe σ ws ∧ tt σ2 H2 fun b H3 =>
        if b = true then te σ2 H3 fun y H4 => ∃ acc, H4 D = some (.lst acc) ∧ acc.length < sizeLine ∧ Nx (upd H4 D (.lst (acc ++ [y]))) else Nx H3)
def KLcT (K : PySem.W.Frag) (g : TG) (tt : TT) (te : TE) (ws : List Nat) (σ : L2.St) (Q : VK) (v : V) (H : Hp) : Prop := ∃ a, v = V.ref a ∧ (∃ xs, SqT K H a xs) ∧ ∀ D, H D = none → ∃ W : Nat → Nat → Hp → Prop, (∃ m, W 0 m (upd H D (.lst []))) ∧ ∀ i m H, W i m H →
      ((Itt K a).stop i H ∧ Q (.ref D) H) ∨ ((Itt K a).go i H ∧ ∃ Nx : Hp → Prop, (∀ H', Nx H' → ∃ m', m' < m ∧ W (i + 1) m' H') ∧ ∀ x H', (Itt K a).yld i H x H' → g x (wipe σ ws) H' fun σ2 H2 => wipe σ2 ws = wipe σ ws ∧ tt σ2 H2 fun b H3 =>
        if b = true then te σ2 H3 fun y H4 => ∃ acc, H4 D = some (.lst acc) ∧ acc.length < sizeLine ∧ Nx (upd H4 D (.lst (acc ++ [y]))) else Nx H3)
def KLcR (lo : Int) (n : Nat) (g : TG) (tt : TT) (te : TE) (ws : List Nat) (σ : L2.St) (Q : VK) (H : Hp) : Prop := ∀ D, H D = none → ∃ W : Nat → Nat → Hp → Prop, (∃ m, W 0 m (upd H D (.lst []))) ∧ ∀ i m H, W i m H →
      ((Itr lo n).stop i H ∧ Q (.ref D) H) ∨ ((Itr lo n).go i H ∧ ∃ Nx : Hp → Prop, (∀ H', Nx H' → ∃ m', m' < m ∧ W (i + 1) m' H') ∧ ∀ x H', (Itr lo n).yld i H x H' → g x (wipe σ ws) H' fun σ2 H2 => wipe σ2 ws = wipe σ ws ∧ tt σ2 H2 fun b H3 =>
        if b = true then te σ2 H3 fun y H4 => ∃ acc, H4 D = some (.lst acc) ∧ acc.length < sizeLine ∧ Nx (upd H4 D (.lst (acc ++ [y]))) else Nx H3)
theorem x_lcl {K : PySem.W.Frag} {tl te : TE} {g : TG} {tt : TT} {ws : List Nat} (h : tl σ H (KLcL K g tt te ws σ Q)) : tLc (iList K tl) g tt te ws σ H Q := h
theorem x_lct {K : PySem.W.Frag} {tl te : TE} {g : TG} {tt : TT} {ws : List Nat} (h : tl σ H (KLcT K g tt te ws σ Q)) : tLc (iTup K tl) g tt te ws σ H Q := h
theorem x_lcr1 {ta : TA} {te : TE} {g : TG} {tt : TT} {ws : List Nat} (h : ta σ H (KRng1 fun lo n H => KLcR lo n g tt te ws σ Q H)) : tLc (iRng1 ta) g tt te ws σ H Q := h
theorem x_lcr2 {ta : TA} {te : TE} {g : TG} {tt : TT} {ws : List Nat} (h : ta σ H (KRng2 fun lo n H => KLcR lo n g tt te ws σ Q H)) : tLc (iRng2 ta) g tt te ws σ H Q := h
/-- what a comprehension's block shows of one turn -/
def BodyC [Py β] (C : Cn) (X : Addr → Prop) (G : τ → List Sl) (d : PyData) (s : τ) (o : Option (Option β × τ)) (g : TG) (tt : TT) (te : TE) (vs : List Nat) : Prop :=
  ∀ (X : Addr → Prop) (H : Hp) (σ : L2.St) (u : V) (r : Option β × τ) (Qn : Hp → Prop) (Qy : VK), o = some r → Lo ⟨C.K, X, H, muts (G s), C.n⟩ X H σ (G s) → Rep C.K X H d u →
    (r.1 = none → ∀ H', Lo ⟨C.K, X, H, muts (G s), C.n⟩ X H' σ (G r.2) → Qn H') →
    (∀ y, r.1 = some y → ∀ v H', Lo ⟨C.K, X, H, muts (G s), C.n⟩ X H' σ (G r.2) → Rep C.K X H' (enc y) v → Qy v H') →
    g u (wipe σ vs) H fun σ2 H2 => wipe σ2 vs = wipe σ vs ∧ tt σ2 H2 fun b H3 => if b = true then te σ2 H3 Qy else Qn H3
theorem x_lcL0 [Py α] [Py β] {xs : List α} {f : α → τ → Option (Option β × τ)} {G : τ → List Sl} {s0 : τ} {q : List β × τ} {v : V} {g : TG} {tt : TT} {te : TE} {ws : List Nat}
    (L : Lo C X H σ (G s0)) (hG : ∀ s s', muts (G s) = muts (G s')) (r : Rep C.K X H (enc xs) v) (hm : compL f xs s0 = some q) (hl : xs.length ≤ 16777216)
    (body : ∀ x s, BodyC C X G (enc x) s (f x s) g tt te ws)
    (done : ∀ D H', H D = none → C.H0 D = none → ¬ C.X0 D → Lo C (fun a => X a ∨ a = D) H' σ (G q.2) → Keep X H H' → MRep C.K (fun a => X a ∨ a = D) H' D (ml q.1) → Q (.ref D) H') :
    KLcL C.K g tt te ws σ Q v H := by
  obtain ⟨a, us, rfl, hna, hrd, hrs⟩ := rep_lst (ds := xs.map enc) r
  refine ⟨a, rfl, ⟨us, .inl hrd⟩, fun D hD => ?_⟩
  have h0 : C.H0 D = none := by
    cases e : C.H0 D with
    | none => rfl
    | some o => exact (L.dom D (by rw [e]; exact fun z => nomatch z) hD).elim
  have hDm : ∀ s, D ∉ muts (G s) := fun s h => L.xd D (L.mx D (hG s s0 ▸ h)) hD
  have sm : Same H (upd H D (.lst [])) := same_upd hD
  have lay := L.lay (p := D) (o := .lst []) hD sm ⟨[], upd_same, .nil⟩
  have L1 : Lo C (fun a => X a ∨ a = D) (upd H D (.lst [])) σ (G s0) := by
    refine ⟨L.len, fun i s hi => ?_, L.nd, fun p hp => .inl (L.mx p hp), fun a h => .inl (L.m0 a h), lay.1.xd, lay.1.base, lay.1.dom, L.own, L.tf⟩
    refine lay.1.at_ i s ?_
    rw [List.getElem?_append_left (List.getElem?_eq_some_iff.mp hi).1]
    exact hi
  have hna' : ¬ (X a ∨ a = D) := fun h => h.elim hna fun e => by
    subst e
    exact rd_nn hrd hD
  refine lc_list (K := C.K) (a := a) (xs := us) (fun i H' => ∃ s ys acc q', Lo C (fun a => X a ∨ a = D) H' σ (G s) ∧ Reps C.K (fun a => X a ∨ a = D) H' (xs.map enc) us ∧ Rd H' a (.lst us) ∧ H' D = some (.lst acc) ∧ Reps C.K (fun a => X a ∨ a = D) H' (ys.map enc) acc ∧
      compL f (xs.drop i) s = some q' ∧ q = (ys ++ q'.1, q'.2) ∧ ys.length ≤ i ∧ Keep X H H' ∧ (∀ a, H a ≠ none → H' a ≠ none))
    ⟨s0, [], [], q, L1, (hrs.more hD).keep (.same sm), Keep.rd (.same sm) hna hrd, upd_same, .nil, hm, rfl, Nat.le_refl _, .same sm, fun a h => ?_⟩ (fun i H' _ ⟨s, ys, acc, q', _, _, h, _⟩ => .inl h) ?_ ?_
  · by_cases z : a = D
    · rw [z, upd_same]; exact fun y => nomatch y
    · rw [upd_ne z]; exact h
  · rintro i y H' hy ⟨s, ys, acc, q', L', hr', hd', hacc, hys, hq', eq, hyl, hk, hdm⟩
    obtain ⟨d, hd, rd⟩ := hr'.get' hy
    rw [List.getElem?_map] at hd
    cases hx : xs[i]? with
    | none => rw [hx] at hd; cases hd
    | some x =>
      rw [hx] at hd
      cases hd
      have hil : i < xs.length := (List.getElem?_eq_some_iff.mp hx).1
      obtain ⟨r1, q1, h1, h2, h3⟩ := comp_drop hx hq'
      refine body x s _ H' σ y r1 _ _ h1 L'.enter rd ?_ ?_
      · intro e H'' M
        have k := L'.keep M
        have kd : H'' D = some (.lst acc) := M.base D _ hacc (hDm s)
        refine ⟨r1.2, ys, acc, q1, L'.leave M (hG _ _), hr'.keep k, k.rd hna' hd', kd, hys.keep k, h2, ?_, Nat.le_succ_of_le hyl, ?_, fun a h => M.dom a (hdm a h)⟩
        · rw [eq, h3, e]
        · refine ⟨fun b o hb n => ?_, fun b vs hb => k.2.1 b vs (hk.2.1 b vs hb), fun b o u hb => k.2.2 b o u (hk.2.2 b o u hb)⟩
          have hbD : b ≠ D := fun z => by rw [z, hD] at hb; cases hb
          exact k.1 b o (hk.1 b o hb n) fun z => z.elim n hbD
      · intro yv e v H'' M rv
        have k := L'.keep M
        have kd : H'' D = some (.lst acc) := M.base D _ hacc (hDm s)
        have L2 := L'.leave M (hG _ _)
        obtain ⟨L3, k3⟩ := L2.wroteX (p := D) (o' := .lst (acc ++ [v])) (.inr rfl) (hDm _) kd h0 (fun _ z => nomatch z) (fun _ _ z => nomatch z)
        have k4 := k.trans k3
        have hal : acc.length = ys.length := by rw [hys.length, List.length_map]
        refine ⟨acc, kd, by rw [line_eq]; omega, r1.2, ys ++ [yv], acc ++ [v], q1, L3, hr'.keep k4, k4.rd hna' hd', upd_same, ?_, h2, ?_, ?_, ?_, ?_⟩
        · rw [List.map_append]
          exact (hys.keep k4).append (.cons (rv.keep k3) .nil)
        · rw [eq, h3, e]
          show (ys ++ yv :: q1.1, q1.2) = (ys ++ [yv] ++ q1.1, q1.2)
          rw [List.append_assoc]; rfl
        · rw [List.length_append]; exact Nat.succ_le_succ hyl
        · refine ⟨fun b o hb n => ?_, fun b vs hb => k4.2.1 b vs (hk.2.1 b vs hb), fun b o u hb => k4.2.2 b o u (hk.2.2 b o u hb)⟩
          have hbD : b ≠ D := fun z => by rw [z, hD] at hb; cases hb
          exact k4.1 b o (hk.1 b o hb n) fun z => z.elim n hbD
        · intro a h
          by_cases z : a = D
          · rw [z, upd_same]; exact fun y => nomatch y
          · rw [upd_ne z]; exact M.dom a (hdm a h)
  · rintro H' ⟨s, ys, acc, q', L', _, _, hacc, hys, hq', eq, _, hk, hdm⟩
    rw [hrs.length, List.length_map, List.drop_length] at hq'
    cases hq'
    rw [List.append_nil] at eq
    subst eq
    exact done D H' hD h0 (fun z => L.xd D (L.m0 D z) hD) L' hk ⟨acc, hacc, hys⟩
theorem x_lcT0 [Py α] [Py β] {xs : List α} {f : α → τ → Option (Option β × τ)} {G : τ → List Sl} {s0 : τ} {q : List β × τ} {v : V} {g : TG} {tt : TT} {te : TE} {ws : List Nat}
    (L : Lo C X H σ (G s0)) (hG : ∀ s s', muts (G s) = muts (G s')) (r : Rep C.K X H (.tuple (xs.map enc)) v) (hm : compL f xs s0 = some q) (hl : xs.length ≤ 16777216)
    (body : ∀ x s, BodyC C X G (enc x) s (f x s) g tt te ws)
    (done : ∀ D H', H D = none → C.H0 D = none → ¬ C.X0 D → Lo C (fun a => X a ∨ a = D) H' σ (G q.2) → Keep X H H' → MRep C.K (fun a => X a ∨ a = D) H' D (ml q.1) → Q (.ref D) H') :
    KLcT C.K g tt te ws σ Q v H := by
  obtain ⟨a, us, rfl, hrd, hrs⟩ := rep_tup r
  refine ⟨a, rfl, ⟨us, hrd⟩, fun D hD => ?_⟩
  have h0 : C.H0 D = none := by
    cases e : C.H0 D with
    | none => rfl
    | some o => exact (L.dom D (by rw [e]; exact fun z => nomatch z) hD).elim
  have hDm : ∀ s, D ∉ muts (G s) := fun s h => L.xd D (L.mx D (hG s s0 ▸ h)) hD
  have sm : Same H (upd H D (.lst [])) := same_upd hD
  have lay := L.lay (p := D) (o := .lst []) hD sm ⟨[], upd_same, .nil⟩
  have L1 : Lo C (fun a => X a ∨ a = D) (upd H D (.lst [])) σ (G s0) := by
    refine ⟨L.len, fun i s hi => ?_, L.nd, fun p hp => .inl (L.mx p hp), fun a h => .inl (L.m0 a h), lay.1.xd, lay.1.base, lay.1.dom, L.own, L.tf⟩
    refine lay.1.at_ i s ?_
    rw [List.getElem?_append_left (List.getElem?_eq_some_iff.mp hi).1]
    exact hi
  refine lc_tup (K := C.K) (a := a) (xs := us) (fun i H' => ∃ s ys acc q', Lo C (fun a => X a ∨ a = D) H' σ (G s) ∧ Reps C.K (fun a => X a ∨ a = D) H' (xs.map enc) us ∧ SqT C.K H' a us ∧ H' D = some (.lst acc) ∧ Reps C.K (fun a => X a ∨ a = D) H' (ys.map enc) acc ∧
      compL f (xs.drop i) s = some q' ∧ q = (ys ++ q'.1, q'.2) ∧ ys.length ≤ i ∧ Keep X H H' ∧ (∀ a, H a ≠ none → H' a ≠ none))
    ⟨s0, [], [], q, L1, (hrs.more hD).keep (.same sm), Keep.sqT (X := fun a => X a ∨ a = D) (.same sm) hrd, upd_same, .nil, hm, rfl, Nat.le_refl _, .same sm, fun a h => ?_⟩ (fun i H' _ ⟨s, ys, acc, q', _, _, h, _⟩ => h) ?_ ?_
  · by_cases z : a = D
    · rw [z, upd_same]; exact fun y => nomatch y
    · rw [upd_ne z]; exact h
  · rintro i y H' hy ⟨s, ys, acc, q', L', hr', hd', hacc, hys, hq', eq, hyl, hk, hdm⟩
    obtain ⟨d, hd, rd⟩ := hr'.get' hy
    rw [List.getElem?_map] at hd
    cases hx : xs[i]? with
    | none => rw [hx] at hd; cases hd
    | some x =>
      rw [hx] at hd
      cases hd
      have hil : i < xs.length := (List.getElem?_eq_some_iff.mp hx).1
      obtain ⟨r1, q1, h1, h2, h3⟩ := comp_drop hx hq'
      refine body x s _ H' σ y r1 _ _ h1 L'.enter rd ?_ ?_
      · intro e H'' M
        have k := L'.keep M
        have kd : H'' D = some (.lst acc) := M.base D _ hacc (hDm s)
        refine ⟨r1.2, ys, acc, q1, L'.leave M (hG _ _), hr'.keep k, k.sqT hd', kd, hys.keep k, h2, ?_, Nat.le_succ_of_le hyl, ?_, fun a h => M.dom a (hdm a h)⟩
        · rw [eq, h3, e]
        · refine ⟨fun b o hb n => ?_, fun b vs hb => k.2.1 b vs (hk.2.1 b vs hb), fun b o u hb => k.2.2 b o u (hk.2.2 b o u hb)⟩
          have hbD : b ≠ D := fun z => by rw [z, hD] at hb; cases hb
          exact k.1 b o (hk.1 b o hb n) fun z => z.elim n hbD
      · intro yv e v H'' M rv
        have k := L'.keep M
        have kd : H'' D = some (.lst acc) := M.base D _ hacc (hDm s)
        have L2 := L'.leave M (hG _ _)
        obtain ⟨L3, k3⟩ := L2.wroteX (p := D) (o' := .lst (acc ++ [v])) (.inr rfl) (hDm _) kd h0 (fun _ z => nomatch z) (fun _ _ z => nomatch z)
        have k4 := k.trans k3
        have hal : acc.length = ys.length := by rw [hys.length, List.length_map]
        refine ⟨acc, kd, by rw [line_eq]; omega, r1.2, ys ++ [yv], acc ++ [v], q1, L3, hr'.keep k4, k4.sqT hd', upd_same, ?_, h2, ?_, ?_, ?_, ?_⟩
        · rw [List.map_append]
          exact (hys.keep k4).append (.cons (rv.keep k3) .nil)
        · rw [eq, h3, e]
          show (ys ++ yv :: q1.1, q1.2) = (ys ++ [yv] ++ q1.1, q1.2)
          rw [List.append_assoc]; rfl
        · rw [List.length_append]; exact Nat.succ_le_succ hyl
        · refine ⟨fun b o hb n => ?_, fun b vs hb => k4.2.1 b vs (hk.2.1 b vs hb), fun b o u hb => k4.2.2 b o u (hk.2.2 b o u hb)⟩
          have hbD : b ≠ D := fun z => by rw [z, hD] at hb; cases hb
          exact k4.1 b o (hk.1 b o hb n) fun z => z.elim n hbD
        · intro a h
          by_cases z : a = D
          · rw [z, upd_same]; exact fun y => nomatch y
          · rw [upd_ne z]; exact M.dom a (hdm a h)
  · rintro H' ⟨s, ys, acc, q', L', _, _, hacc, hys, hq', eq, _, hk, hdm⟩
    rw [hrs.length, List.length_map, List.drop_length] at hq'
    cases hq'
    rw [List.append_nil] at eq
    subst eq
    exact done D H' hD h0 (fun z => L.xd D (L.m0 D z) hD) L' hk ⟨acc, hacc, hys⟩
theorem x_lcR0 [Py β] {lo : Int} {n : Nat} {f : Int → τ → Option (Option β × τ)} {G : τ → List Sl} {s0 : τ} {q : List β × τ} {g : TG} {tt : TT} {te : TE} {ws : List Nat}
    (L : Lo C X H σ (G s0)) (hG : ∀ s s', muts (G s) = muts (G s')) (hm : compL f (rangeL lo n) s0 = some q) (hl : n ≤ 16777216)
    (body : ∀ x s, BodyC C X G (enc x) s (f x s) g tt te ws)
    (done : ∀ D H', H D = none → C.H0 D = none → ¬ C.X0 D → Lo C (fun a => X a ∨ a = D) H' σ (G q.2) → Keep X H H' → MRep C.K (fun a => X a ∨ a = D) H' D (ml q.1) → Q (.ref D) H') :
    KLcR lo n g tt te ws σ Q H := by
  intro D hD
  have h0 : C.H0 D = none := by
    cases e : C.H0 D with
    | none => rfl
    | some o => exact (L.dom D (by rw [e]; exact fun z => nomatch z) hD).elim
  have hDm : ∀ s, D ∉ muts (G s) := fun s h => L.xd D (L.mx D (hG s s0 ▸ h)) hD
  have sm : Same H (upd H D (.lst [])) := same_upd hD
  have lay := L.lay (p := D) (o := .lst []) hD sm ⟨[], upd_same, .nil⟩
  have L1 : Lo C (fun a => X a ∨ a = D) (upd H D (.lst [])) σ (G s0) := by
    refine ⟨L.len, fun i s hi => ?_, L.nd, fun p hp => .inl (L.mx p hp), fun a h => .inl (L.m0 a h), lay.1.xd, lay.1.base, lay.1.dom, L.own, L.tf⟩
    refine lay.1.at_ i s ?_
    rw [List.getElem?_append_left (List.getElem?_eq_some_iff.mp hi).1]
    exact hi
  refine lc_range (lo := lo) (n := n) (fun i H' => ∃ s ys acc q', Lo C (fun a => X a ∨ a = D) H' σ (G s) ∧ H' D = some (.lst acc) ∧ Reps C.K (fun a => X a ∨ a = D) H' (ys.map enc) acc ∧
      compL f ((rangeL lo n).drop i) s = some q' ∧ q = (ys ++ q'.1, q'.2) ∧ ys.length ≤ i ∧ Keep X H H')
    ⟨s0, [], [], q, L1, upd_same, .nil, hm, rfl, Nat.le_refl _, .same sm⟩ ?_ ?_
  · rintro i H' hi ⟨s, ys, acc, q', L', hacc, hys, hq', eq, hyl, hk⟩
    obtain ⟨r1, q1, h1, h2, h3⟩ := comp_drop (rangeL_get hi) hq'
    refine body (lo + (i : Int)) s _ H' σ _ r1 _ _ h1 L'.enter (.int _) ?_ ?_
    · intro e H'' M
      have k := L'.keep M
      have kd : H'' D = some (.lst acc) := M.base D _ hacc (hDm s)
      refine ⟨r1.2, ys, acc, q1, L'.leave M (hG _ _), kd, hys.keep k, h2, ?_, Nat.le_succ_of_le hyl, ?_⟩
      · rw [eq, h3, e]
      · refine ⟨fun b o hb n => ?_, fun b vs hb => k.2.1 b vs (hk.2.1 b vs hb), fun b o u hb => k.2.2 b o u (hk.2.2 b o u hb)⟩
        have hbD : b ≠ D := fun z => by rw [z, hD] at hb; cases hb
        exact k.1 b o (hk.1 b o hb n) fun z => z.elim n hbD
    · intro yv e v H'' M rv
      have k := L'.keep M
      have kd : H'' D = some (.lst acc) := M.base D _ hacc (hDm s)
      have L2 := L'.leave M (hG _ _)
      obtain ⟨L3, k3⟩ := L2.wroteX (p := D) (o' := .lst (acc ++ [v])) (.inr rfl) (hDm _) kd h0 (fun _ z => nomatch z) (fun _ _ z => nomatch z)
      have k4 := k.trans k3
      have hal : acc.length = ys.length := by rw [hys.length, List.length_map]
      refine ⟨acc, kd, by rw [line_eq]; omega, r1.2, ys ++ [yv], acc ++ [v], q1, L3, upd_same, ?_, h2, ?_, ?_, ?_⟩
      · rw [List.map_append]
        exact (hys.keep k4).append (.cons (rv.keep k3) .nil)
      · rw [eq, h3, e]
        show (ys ++ yv :: q1.1, q1.2) = (ys ++ [yv] ++ q1.1, q1.2)
        rw [List.append_assoc]; rfl
      · rw [List.length_append]; exact Nat.succ_le_succ hyl
      · refine ⟨fun b o hb n => ?_, fun b vs hb => k4.2.1 b vs (hk.2.1 b vs hb), fun b o u hb => k4.2.2 b o u (hk.2.2 b o u hb)⟩
        have hbD : b ≠ D := fun z => by rw [z, hD] at hb; cases hb
        exact k4.1 b o (hk.1 b o hb n) fun z => z.elim n hbD
  · rintro H' ⟨s, ys, acc, q', L', hacc, hys, hq', eq, _, hk⟩
    have hl : (rangeL lo n).length = n := by unfold rangeL; rw [List.length_map, List.length_range]
    have : (rangeL lo n).drop n = [] := List.drop_eq_nil_of_le (by omega)
    rw [this] at hq'
    cases hq'
    rw [List.append_nil] at eq
    subst eq
    exact done D H' hD h0 (fun z => L.xd D (L.m0 D z) hD) L' hk ⟨acc, hacc, hys⟩
theorem Lo.addT {D : Addr} {o : MO} {H' : Hp} (L : Lo C X H σ Γ) (hD : H D = none) (h0 : C.H0 D = none) (M : Lo C (fun a => X a ∨ a = D) H' σ Γ') (hm : muts Γ' = muts Γ) (r : MRep C.K (fun a => X a ∨ a = D) H' D o) : Lo C (fun a => X a ∨ a = D) H' σ (Γ' ++ [.tmp D o]) := by
  have hm2 : muts (Γ' ++ [Sl.tmp D o]) = muts Γ' ++ [D] := by unfold muts; rw [List.filterMap_append]; rfl
  have hnm : D ∉ muts Γ' := fun h => L.xd D (L.mx D (hm ▸ h)) hD
  refine ⟨M.len, fun i t hi => ?_, ?_, fun q hq => ?_, M.m0, M.xd, M.base, M.dom, fun q hq => ?_, M.tf⟩
  · by_cases hlt : i < Γ'.length
    · rw [List.getElem?_append_left hlt] at hi
      exact M.at_ i t hi
    · rw [List.getElem?_append_right (by omega)] at hi
      have ht := List.mem_of_getElem? hi
      rw [List.mem_singleton] at ht
      subst ht
      exact r
  · rw [hm2]
    exact List.nodup_append.mpr ⟨M.nd, by simp, fun a ha b hb => by
      rw [List.mem_singleton] at hb
      subst hb
      intro z
      exact hnm (z ▸ ha)⟩
  · rw [hm2, List.mem_append, List.mem_singleton] at hq
    exact hq.elim (M.mx q) .inr
  · rw [hm2, List.mem_append, List.mem_singleton] at hq
    exact hq.elim (M.own q) fun z => .inr (z ▸ h0)
/-- a comprehension's new list, as data -/
theorem lc_data [Py β] {D : Addr} {ys : List β} {H' : Hp} (L : Lo C X H σ Γ) (hD : H D = none) (M : Lo C (fun a => X a ∨ a = D) H' σ Γ') (hm : muts Γ' = muts Γ) (k : Keep X H H') (r : MRep C.K (fun a => X a ∨ a = D) H' D (ml ys))
    (h : Lo C X H' σ Γ' → (∀ d u, Rep C.K X H d u → Rep C.K X H' d u) → Rep C.K X H' (enc ys) (.ref D) → Q (.ref D) H') : Q (.ref D) H' := by
  obtain ⟨vs, h1, h2⟩ := r
  exact h (M.xanti (fun _ h => .inl h) (fun p hp => L.mx p (hm ▸ hp)) L.m0) (fun _ _ q => q.keep k) (.lst (fun z => L.xd D z hD) (.inl h1) (h2.anti fun _ z => .inl z))
/-- .. as the body's own -/
theorem lc_own [Py β] {D : Addr} {ys : List β} {H' : Hp} (L : Lo C X H σ Γ) (hD : H D = none) (h0 : C.H0 D = none) (M : Lo C (fun a => X a ∨ a = D) H' σ Γ') (hm : muts Γ' = muts Γ) (k : Keep X H H') (r : MRep C.K (fun a => X a ∨ a = D) H' D (ml ys))
    (h : Lo C (fun a => X a ∨ a = D) H' σ (Γ' ++ [.tmp D (ml ys)]) → (∀ d u, Rep C.K X H d u → Rep C.K (fun a => X a ∨ a = D) H' d u) → Q (.ref D) H') : Q (.ref D) H' :=
  h (L.addT hD h0 M hm r) fun _ _ q => (q.more hD).keep (k.mono fun _ z => .inl z)
theorem x_lcL [Py α] [Py β] {xs : List α} {f : α → τ → Option (Option β × τ)} {v : V} {G : τ → List Sl} {s0 : τ} {q : List β × τ} {g : TG} {tt : TT} {te : TE} {ws : List Nat} (L : Lo C X H σ (G s0)) (hG : ∀ s s', muts (G s) = muts (G s')) (r : Rep C.K X H (enc xs) v) (hm : compL f xs s0 = some q) (hl : xs.length ≤ 16777216)
    (body : ∀ x s, BodyC C X G (enc x) s (f x s) g tt te ws) (h : ∀ D H', Lo C X H' σ (G q.2) → (∀ d u, Rep C.K X H d u → Rep C.K X H' d u) → Rep C.K X H' (enc q.1) (.ref D) → Q (.ref D) H') : KLcL C.K g tt te ws σ Q v H :=
  x_lcL0 L hG r hm hl body (fun D H' hD h0 hx M k m => lc_data L hD M (hG _ _) k m (h D H'))
theorem x_lcLN [Py α] [Py β] {xs : List α} {f : α → τ → Option (Option β × τ)} {v : V} {G : τ → List Sl} {s0 : τ} {q : List β × τ} {g : TG} {tt : TT} {te : TE} {ws : List Nat} (L : Lo C X H σ (G s0)) (hG : ∀ s s', muts (G s) = muts (G s')) (r : Rep C.K X H (enc xs) v) (hm : compL f xs s0 = some q) (hl : xs.length ≤ 16777216)
    (body : ∀ x s, BodyC C X G (enc x) s (f x s) g tt te ws) (h : ∀ D X' H', C.H0 D = none → ¬ C.X0 D → Lo C X' H' σ (G q.2 ++ [.tmp D (ml q.1)]) → (∀ d u, Rep C.K X H d u → Rep C.K X' H' d u) → Q (.ref D) H') : KLcL C.K g tt te ws σ Q v H :=
  x_lcL0 L hG r hm hl body (fun D H' hD h0 hx M k m => lc_own L hD h0 M (hG _ _) k m (h D _ H' h0 hx))
theorem x_lcT [Py α] [Py β] {xs : List α} {f : α → τ → Option (Option β × τ)} {v : V} {G : τ → List Sl} {s0 : τ} {q : List β × τ} {g : TG} {tt : TT} {te : TE} {ws : List Nat} (L : Lo C X H σ (G s0)) (hG : ∀ s s', muts (G s) = muts (G s')) (r : Rep C.K X H (.tuple (xs.map enc)) v) (hm : compL f xs s0 = some q) (hl : xs.length ≤ 16777216)
    (body : ∀ x s, BodyC C X G (enc x) s (f x s) g tt te ws) (h : ∀ D H', Lo C X H' σ (G q.2) → (∀ d u, Rep C.K X H d u → Rep C.K X H' d u) → Rep C.K X H' (enc q.1) (.ref D) → Q (.ref D) H') : KLcT C.K g tt te ws σ Q v H :=
  x_lcT0 L hG r hm hl body (fun D H' hD h0 hx M k m => lc_data L hD M (hG _ _) k m (h D H'))
theorem x_lcTN [Py α] [Py β] {xs : List α} {f : α → τ → Option (Option β × τ)} {v : V} {G : τ → List Sl} {s0 : τ} {q : List β × τ} {g : TG} {tt : TT} {te : TE} {ws : List Nat} (L : Lo C X H σ (G s0)) (hG : ∀ s s', muts (G s) = muts (G s')) (r : Rep C.K X H (.tuple (xs.map enc)) v) (hm : compL f xs s0 = some q) (hl : xs.length ≤ 16777216)
    (body : ∀ x s, BodyC C X G (enc x) s (f x s) g tt te ws) (h : ∀ D X' H', C.H0 D = none → ¬ C.X0 D → Lo C X' H' σ (G q.2 ++ [.tmp D (ml q.1)]) → (∀ d u, Rep C.K X H d u → Rep C.K X' H' d u) → Q (.ref D) H') : KLcT C.K g tt te ws σ Q v H :=
  x_lcT0 L hG r hm hl body (fun D H' hD h0 hx M k m => lc_own L hD h0 M (hG _ _) k m (h D _ H' h0 hx))
theorem x_lcR [Py β] {lo : Int} {n : Nat} {f : Int → τ → Option (Option β × τ)} {G : τ → List Sl} {s0 : τ} {q : List β × τ} {g : TG} {tt : TT} {te : TE} {ws : List Nat} (L : Lo C X H σ (G s0)) (hG : ∀ s s', muts (G s) = muts (G s')) (hm : compL f (rangeL lo n) s0 = some q) (hl : n ≤ 16777216)
    (body : ∀ x s, BodyC C X G (enc x) s (f x s) g tt te ws) (h : ∀ D H', Lo C X H' σ (G q.2) → (∀ d u, Rep C.K X H d u → Rep C.K X H' d u) → Rep C.K X H' (enc q.1) (.ref D) → Q (.ref D) H') : KLcR lo n g tt te ws σ Q H :=
  x_lcR0 L hG hm hl body (fun D H' hD h0 hx M k m => lc_data L hD M (hG _ _) k m (h D H'))
theorem x_lcRN [Py β] {lo : Int} {n : Nat} {f : Int → τ → Option (Option β × τ)} {G : τ → List Sl} {s0 : τ} {q : List β × τ} {g : TG} {tt : TT} {te : TE} {ws : List Nat} (L : Lo C X H σ (G s0)) (hG : ∀ s s', muts (G s) = muts (G s')) (hm : compL f (rangeL lo n) s0 = some q) (hl : n ≤ 16777216)
    (body : ∀ x s, BodyC C X G (enc x) s (f x s) g tt te ws) (h : ∀ D X' H', C.H0 D = none → ¬ C.X0 D → Lo C X' H' σ (G q.2 ++ [.tmp D (ml q.1)]) → (∀ d u, Rep C.K X H d u → Rep C.K X' H' d u) → Q (.ref D) H') : KLcR lo n g tt te ws σ Q H :=
  x_lcR0 L hG hm hl body (fun D H' hD h0 hx M k m => lc_own L hD h0 M (hG _ _) k m (h D _ H' h0 hx))
/-- one turn of a comprehension -/
def KCt (te : TE) (σ : L2.St) (Qy : VK) (Qn : Hp → Prop) : Bool → Hp → Prop := fun b H => if b = true then te σ H Qy else Qn H
theorem Lo.cset {i : Nat} {u : V} {d : PyData} (L : Lo C X H σ Γ) (r : Rep C.K X H d u) (hi : i < C.n) {σ0 : L2.St} (e : ∀ j, j ≠ i → σ0[j]? = σ[j]?) (el : σ0.length = σ.length) : Lo C X H (σ0.set i (some u)) (Γ.set i (.imm d)) := by
  have e2 : σ0.set i (some u) = σ.set i (some u) := by
    apply List.ext_getElem?
    intro j
    by_cases z : j = i
    · subst z; rw [List.getElem?_set, List.getElem?_set, el, if_pos rfl, if_pos rfl]
    · rw [List.getElem?_set_ne (Ne.symm z), List.getElem?_set_ne (Ne.symm z), e j z]
  rw [e2]; exact L.set r hi
theorem x_cName {i : Nat} {u : V} {d : PyData} {tt : TT} {te : TE} {Qy : VK} {Qn : Hp → Prop} (L : Lo C X H σ Γ) (r : Rep C.K X H d u) (hi : i < C.n) (e : Γ.set i (.imm d) = Γ') (h : ∀ σ2, Lo C X H σ2 Γ' → tt σ2 H (KCt te σ2 Qy Qn)) :
    gName i u (wipe σ [i]) H fun σ2 H2 => wipe σ2 [i] = wipe σ [i] ∧ tt σ2 H2 fun b H3 => if b = true then te σ2 H3 Qy else Qn H3 := by
  subst e
  refine ⟨?_, h _ (L.cset r hi (fun j z => ?_) ?_)⟩
  · show ((σ.set i none).set i (some u)).set i none = σ.set i none
    rw [List.set_set, List.set_set]
  · exact List.getElem?_set_ne (Ne.symm z)
  · exact List.length_set
theorem x_cTup {i j : Nat} {u : V} {d1 d2 : PyData} {tt : TT} {te : TE} {Qy : VK} {Qn : Hp → Prop} (L : Lo C X H σ Γ) (r : Rep C.K X H (.tuple [d1, d2]) u) (hi : i < C.n) (hj : j < C.n) (ne : i ≠ j) (e : (Γ.set i (.imm d1)).set j (.imm d2) = Γ') (h : ∀ σ2, Lo C X H σ2 Γ' → tt σ2 H (KCt te σ2 Qy Qn)) :
    gTup C.K 2 (gCons (gName i) (gCons (gName j) gNil)) u (wipe σ [i, j]) H fun σ2 H2 => wipe σ2 [i, j] = wipe σ [i, j] ∧ tt σ2 H2 fun b H3 => if b = true then te σ2 H3 Qy else Qn H3 := by
  subst e
  obtain ⟨a, vs, rfl, hs, q⟩ := rep_tup r
  cases q with
  | @cons _ _ v1 _ r1 q => cases q with
    | @cons _ _ v2 _ r2 q => cases q with
      | nil =>
        refine ⟨a, _, rfl, hs, rfl, v1, [v2], rfl, v2, [], rfl, rfl, ?_⟩
        have e3 : (((σ.set j none).set i none).set i (some v1)).set j (some v2) = (σ.set i (some v1)).set j (some v2) := by
          rw [List.set_set, List.set_comm none (some v1) ne.symm, List.set_set]
        refine ⟨?_, ?_⟩
        · show (((((σ.set j none).set i none).set i (some v1)).set j (some v2)).set j none).set i none = (σ.set j none).set i none
          rw [e3, List.set_set, List.set_comm _ _ ne.symm, List.set_set, List.set_comm _ _ ne]
        · have q := h _ ((L.set r1 hi).set r2 hj)
          rw [← e3] at q
          exact q
theorem x_yes {te : TE} {Qy : VK} {Qn : Hp → Prop} (h : te σ H Qy) : tYes σ H (KCt te σ Qy Qn) := h
theorem x_ct {te : TE} {Qy : VK} {Qn : Hp → Prop} {c : Bool} {mA mB : Option ρ} {r : ρ} (hm : (if c = true then mA else mB) = some r) (hA : mA = some r → te σ H Qy) (hB : mB = some r → Qn H) : KCt te σ Qy Qn c H := by
  cases c with
  | true => exact hA hm
  | false => exact hB hm
theorem x_cy [Py β] {X' : Addr → Prop} {σ2 : L2.St} {H' : Hp} {K : PySem.W.Frag} {n : Nat} {G : τ → List Sl} {s s' : τ} {Γ2 : List Sl} {y : β} {r : Option β × τ} {v : V} {Qy : VK} (er : r = (some y, s')) (hy : ∀ y, r.1 = some y → ∀ v H', Lo ⟨K, X, H, muts (G s), n⟩ X H' σ (G r.2) → Rep K X H' (enc y) v → Qy v H')
    (L : Lo ⟨K, X, H, muts (G s), n⟩ X H σ (G s)) (M : Lo ⟨K, X, H, muts (G s), n⟩ X' H' σ2 Γ2) (b : Bk (G s) Γ2 (G s')) (q : Rep K X' H' (enc y) v) : Qy v H' := by
  subst er
  exact hy y rfl v H' (L.back M b) (Rep.anti M.m0 q)
theorem x_cn [Py β] {X' : Addr → Prop} {σ2 : L2.St} {H' : Hp} {K : PySem.W.Frag} {n : Nat} {G : τ → List Sl} {s s' : τ} {Γ2 : List Sl} {r : Option β × τ} {Qn : Hp → Prop} (er : r = (none, s')) (hn : r.1 = none → ∀ H', Lo ⟨K, X, H, muts (G s), n⟩ X H' σ (G r.2) → Qn H')
    (L : Lo ⟨K, X, H, muts (G s), n⟩ X H σ (G s)) (M : Lo ⟨K, X, H, muts (G s), n⟩ X' H' σ2 Γ2) (b : Bk (G s) Γ2 (G s')) : Qn H' := by
  subst er
  exact hn rfl H' (L.back M b)
end
open Py (enc)

/-! ### equality of data -/
class PyE (α : Type) [Py α] [DecidableEq α] where
  d : Nat
  eqv : ∀ x y : α, PyData.eqv (enc x) (enc y) = decide (x = y)
  lay : ∀ x : α, PyData.canLay0 (enc x) = true
  dep : ∀ x : α, PyData.depth (enc x) ≤ d
instance : PyE Int := ⟨0, fun x y => by
  show PyData.eqv (.int x) (.int y) = _
  unfold PyData.eqv
  by_cases z : x = y <;> simp [z], fun _ => rfl, fun _ => Nat.le_refl _⟩
instance : PyE Bool := ⟨0, fun x y => by cases x <;> cases y <;> rfl, fun _ => rfl, fun _ => Nat.le_refl _⟩
section
variable {α β γ δ ε : Type} [Py α] [DecidableEq α] [Py β] [DecidableEq β] [Py γ] [DecidableEq γ] [Py δ] [DecidableEq δ] [Py ε] [DecidableEq ε]
theorem eqvAll_nil : PyData.eqvAll [] [] = true := by unfold PyData.eqvAll; rfl
theorem eqvAll_cons {x y : PyData} {xs ys : List PyData} : PyData.eqvAll (x :: xs) (y :: ys) = (PyData.eqv x y && PyData.eqvAll xs ys) := by rw [PyData.eqvAll]
theorem eqv_tup {xs ys : List PyData} : PyData.eqv (.tuple xs) (.tuple ys) = PyData.eqvAll xs ys := by rw [PyData.eqv]
theorem eqv_lst {xs ys : List PyData} : PyData.eqv (.list xs) (.list ys) = PyData.eqvAll xs ys := by rw [PyData.eqv]
theorem layAll_nil : PyData.canLayAll0 [] = true := by unfold PyData.canLayAll0; rfl
theorem layAll_cons {x : PyData} {xs : List PyData} : PyData.canLayAll0 (x :: xs) = (PyData.canLay0 x && PyData.canLayAll0 xs) := by rw [PyData.canLayAll0]
theorem lay_tup {xs : List PyData} : PyData.canLay0 (.tuple xs) = PyData.canLayAll0 xs := by rw [PyData.canLay0]
theorem lay_lst {xs : List PyData} : PyData.canLay0 (.list xs) = PyData.canLayAll0 xs := by rw [PyData.canLay0]
theorem depAll_nil : PyData.depthAll [] = 0 := by unfold PyData.depthAll; rfl
theorem depAll_cons {x : PyData} {xs : List PyData} : PyData.depthAll (x :: xs) = max (PyData.depth x) (PyData.depthAll xs) := by rw [PyData.depthAll]
theorem dep_tup {xs : List PyData} : PyData.depth (.tuple xs) = PyData.depthAll xs + 1 := by rw [PyData.depth]
theorem dep_lst {xs : List PyData} : PyData.depth (.list xs) = PyData.depthAll xs + 1 := by rw [PyData.depth]
instance [PyE α] [PyE β] : PyE (T2 α β) where
  d := max (PyE.d α) (PyE.d β) + 1
  eqv := fun ⟨a, b⟩ ⟨a', b'⟩ => by
    show PyData.eqv (.tuple [enc a, enc b]) (.tuple [enc a', enc b']) = _
    rw [eqv_tup, eqvAll_cons, eqvAll_cons, eqvAll_nil, PyE.eqv, PyE.eqv]
    by_cases h1 : a = a' <;> by_cases h2 : b = b' <;> simp [h1, h2]
  lay := fun ⟨a, b⟩ => by
    show PyData.canLay0 (.tuple [enc a, enc b]) = true
    rw [lay_tup, layAll_cons, layAll_cons, layAll_nil, PyE.lay, PyE.lay]; rfl
  dep := fun ⟨a, b⟩ => by
    show PyData.depth (.tuple [enc a, enc b]) ≤ _
    rw [dep_tup, depAll_cons, depAll_cons, depAll_nil]
    have := PyE.dep a
    have := PyE.dep b
    omega
instance [PyE α] [PyE β] [PyE γ] : PyE (T3 α β γ) where
  d := max (PyE.d α) (max (PyE.d β) (PyE.d γ)) + 1
  eqv := fun ⟨a, b, c⟩ ⟨a', b', c'⟩ => by
    show PyData.eqv (.tuple [enc a, enc b, enc c]) (.tuple [enc a', enc b', enc c']) = _
    rw [eqv_tup, eqvAll_cons, eqvAll_cons, eqvAll_cons, eqvAll_nil, PyE.eqv, PyE.eqv, PyE.eqv]
    by_cases h1 : a = a' <;> by_cases h2 : b = b' <;> by_cases h3 : c = c' <;> simp [h1, h2, h3]
  lay := fun ⟨a, b, c⟩ => by
    show PyData.canLay0 (.tuple [enc a, enc b, enc c]) = true
    rw [lay_tup, layAll_cons, layAll_cons, layAll_cons, layAll_nil, PyE.lay, PyE.lay, PyE.lay]; rfl
  dep := fun ⟨a, b, c⟩ => by
    show PyData.depth (.tuple [enc a, enc b, enc c]) ≤ _
    rw [dep_tup, depAll_cons, depAll_cons, depAll_cons, depAll_nil]
    have := PyE.dep a
    have := PyE.dep b
    have := PyE.dep c
    omega
instance [PyE α] [PyE β] [PyE γ] [PyE δ] : PyE (T4 α β γ δ) where
  d := max (PyE.d α) (max (PyE.d β) (max (PyE.d γ) (PyE.d δ))) + 1
  eqv := fun ⟨a, b, c, d⟩ ⟨a', b', c', d'⟩ => by
    show PyData.eqv (.tuple [enc a, enc b, enc c, enc d]) (.tuple [enc a', enc b', enc c', enc d']) = _
    rw [eqv_tup, eqvAll_cons, eqvAll_cons, eqvAll_cons, eqvAll_cons, eqvAll_nil, PyE.eqv, PyE.eqv, PyE.eqv, PyE.eqv]
    by_cases h1 : a = a' <;> by_cases h2 : b = b' <;> by_cases h3 : c = c' <;> by_cases h4 : d = d' <;> simp [h1, h2, h3, h4]
  lay := fun ⟨a, b, c, d⟩ => by
    show PyData.canLay0 (.tuple [enc a, enc b, enc c, enc d]) = true
    rw [lay_tup, layAll_cons, layAll_cons, layAll_cons, layAll_cons, layAll_nil, PyE.lay, PyE.lay, PyE.lay, PyE.lay]; rfl
  dep := fun ⟨a, b, c, d⟩ => by
    show PyData.depth (.tuple [enc a, enc b, enc c, enc d]) ≤ _
    rw [dep_tup, depAll_cons, depAll_cons, depAll_cons, depAll_cons, depAll_nil]
    have := PyE.dep a
    have := PyE.dep b
    have := PyE.dep c
    have := PyE.dep d
    omega
instance [PyE α] : PyE (List α) where
  d := PyE.d α + 1
  eqv := fun xs ys => by
    show PyData.eqv (.list (xs.map enc)) (.list (ys.map enc)) = _
    rw [eqv_lst]
    induction xs generalizing ys with
    | nil => cases ys with
      | nil => rw [List.map_nil, eqvAll_nil]; rfl
      | cons y ys => rw [List.map_nil, List.map_cons, PyData.eqvAll]; rfl
    | cons x xs ih => cases ys with
      | nil => rw [List.map_nil, List.map_cons, PyData.eqvAll]; rfl
      | cons y ys =>
        rw [List.map_cons, List.map_cons, eqvAll_cons, ih, PyE.eqv]
        by_cases h1 : x = y <;> by_cases h2 : xs = ys <;> simp [h1, h2]
  lay := fun xs => by
    show PyData.canLay0 (.list (xs.map enc)) = true
    rw [lay_lst]
    induction xs with
    | nil => rw [List.map_nil, layAll_nil]
    | cons x xs ih => rw [List.map_cons, layAll_cons, PyE.lay, ih]; rfl
  dep := fun xs => by
    show PyData.depth (.list (xs.map enc)) ≤ _
    rw [dep_lst]
    refine Nat.succ_le_succ ?_
    induction xs with
    | nil => rw [List.map_nil, depAll_nil]; exact Nat.zero_le _
    | cons x xs ih =>
      rw [List.map_cons, depAll_cons]
      have := PyE.dep x
      omega
theorem shaped_of [PyE α] (h : PyE.d α ≤ 64) (x : α) : SeqAt.shaped (enc x) = true := by
  unfold SeqAt.shaped
  have := PyE.dep x
  rw [PyE.lay, Bool.true_and]
  exact decide_eq_true (by omega)
end

section
variable {C : Cn} {X : Addr → Prop} {H : Hp} {σ : L2.St} {Γ Γ' : List Sl} {Q : VK} {α β γ δ ε ρ : Type}
/-! ### what a value stands for, in any shape -/
theorem Lo.dpM [Py α] {xs : List α} {i : Nat} {p : Addr} (L : Lo C X H σ Γ) (g : Γ[i]? = some (.mu p (ml xs))) : Dp C.K H (.ref p) (enc xs) := by
  obtain ⟨vs, hs, q⟩ := L.mrep g
  exact .lst (.inl (.inl hs)) (Reps.dp q)
theorem x_eqd [Py α] [DecidableEq α] [PyE α] {x y : α} {u v : V} (r : Dp C.K H u (enc x)) (q : Dp C.K H v (enc y)) (h64 : PyE.d α ≤ 64) (h : Q (.bl (decide (x = y))) H) : rEqD C.K u v H Q :=
  ⟨_, _, r, q, shaped_of h64 x, shaped_of h64 y, by rw [PyE.eqv]; exact h⟩
theorem x_ned [Py α] [DecidableEq α] [PyE α] {x y : α} {u v : V} (r : Dp C.K H u (enc x)) (q : Dp C.K H v (enc y)) (h64 : PyE.d α ≤ 64) (h : Q (.bl (!decide (x = y))) H) : rNeD C.K u v H Q :=
  ⟨_, _, r, q, shaped_of h64 x, shaped_of h64 y, by rw [PyE.eqv]; exact h⟩
/-- x in xs -/
def memB {α : Type} [DecidableEq α] (x : α) (xs : List α) : Bool := xs.any fun z => decide (z = x)
theorem any_eqv [Py α] [DecidableEq α] [PyE α] {x : α} {xs : List α} : ((xs.map enc).any fun z => PyData.eqv z (enc x)) = memB x xs := by
  unfold memB
  rw [List.any_map]
  congr 1
  funext z
  exact PyE.eqv z x
theorem x_ind [Py α] [DecidableEq α] [PyE α] {x : α} {ys : List α} {u v : V} (r : Dp C.K H u (enc x)) (q : Dp C.K H v (enc ys)) (h64 : PyE.d (List α) ≤ 64) (h : Q (.bl (memB x ys)) H) : rInD C.K u v H Q :=
  ⟨_, _, r, q, shaped_of (Nat.le_trans (Nat.le_succ _) h64) x, shaped_of h64 ys, by rw [any_eqv]; exact h⟩
theorem x_nind [Py α] [DecidableEq α] [PyE α] {x : α} {ys : List α} {u v : V} (r : Dp C.K H u (enc x)) (q : Dp C.K H v (enc ys)) (h64 : PyE.d (List α) ≤ 64) (h : Q (.bl (!memB x ys)) H) : rNotInD C.K u v H Q :=
  ⟨_, _, r, q, shaped_of (Nat.le_trans (Nat.le_succ _) h64) x, shaped_of h64 ys, by rw [any_eqv]; exact h⟩
/-! ### None -/
class NN (α : Type) [Py α] : Prop where
  ne : ∀ x : α, enc x ≠ PyData.none
instance : NN Int := ⟨fun _ z => nomatch z⟩
instance : NN Bool := ⟨fun _ z => nomatch z⟩
instance : NN Str := ⟨fun _ z => nomatch z⟩
instance {α : Type} [Py α] : NN (List α) := ⟨fun _ z => nomatch z⟩
instance {α : Type} [Py α] : NN (T1 α) := ⟨fun _ z => nomatch z⟩
instance {α β : Type} [Py α] [Py β] : NN (T2 α β) := ⟨fun _ z => nomatch z⟩
instance {α β γ : Type} [Py α] [Py β] [Py γ] : NN (T3 α β γ) := ⟨fun _ z => nomatch z⟩
instance {α β γ δ : Type} [Py α] [Py β] [Py γ] [Py δ] : NN (T4 α β γ δ) := ⟨fun _ z => nomatch z⟩
theorem rep_non {K : PySem.W.Frag} {d : PyData} {v : V} (r : Rep K X H d v) (ne : d ≠ .none) : v ≠ .non := by
  cases r <;> intro z <;> first | exact ne rfl | cases z
def rIsNX : R2 := fun x y H Q => y = .non ∧ Q (.bl (decide (x = .non))) H
def rNotNX : R2 := fun x y H Q => y = .non ∧ Q (.bl (!decide (x = .non))) H
theorem op_isNX {Xc : Cx} : OpR Xc (compareOp .Is) rIsNX := op_isN
theorem op_notNX {Xc : Cx} : OpR Xc (compareOp .IsNot) rNotNX := op_notN
theorem dec_none [Py α] [NN α] {K : PySem.W.Frag} {o : Option α} {v : V} (r : Rep K X H (enc o) v) : decide (v = V.non) = o.isNone := by
  cases o with
  | none => cases (show Rep K X H PyData.none v from r); rfl
  | some x => simp [rep_non (show Rep K X H (enc x) v from r) (NN.ne x)]
theorem x_isNO [Py α] [NN α] {o : Option α} {v : V} (r : Rep C.K X H (enc o) v) (h : Q (.bl o.isNone) H) : rIsNX v .non H Q := ⟨rfl, by rw [dec_none r]; exact h⟩
theorem x_notNO [Py α] [NN α] {o : Option α} {v : V} (r : Rep C.K X H (enc o) v) (h : Q (.bl (!o.isNone)) H) : rNotNX v .non H Q := ⟨rfl, by rw [dec_none r]; exact h⟩
theorem x_isNS {v : V} {b : Bool} (e : decide (v = V.non) = b) (h : Q (.bl b) H) : rIsNX v .non H Q := ⟨rfl, by rw [e]; exact h⟩
theorem x_notNS {v : V} {b : Bool} (e : decide (v = V.non) = b) (h : Q (.bl (!b)) H) : rNotNX v .non H Q := ⟨rfl, by rw [e]; exact h⟩
theorem x_isND [Py α] [NN α] {x : α} {v : V} (r : Rep C.K X H (enc x) v) (h : Q (.bl false) H) : rIsNX v .non H Q := ⟨rfl, by rw [show decide (v = V.non) = false from by simp [rep_non r (NN.ne x)]]; exact h⟩
theorem x_notND [Py α] [NN α] {x : α} {v : V} (r : Rep C.K X H (enc x) v) (h : Q (.bl (!false)) H) : rNotNX v .non H Q := ⟨rfl, by rw [show decide (v = V.non) = false from by simp [rep_non r (NN.ne x)]]; exact h⟩
/-- a value that is not None -/
theorem Lo.someS [Py α] {o : Option α} {x : α} {i : Nat} (L : Lo C X H σ Γ) (g : Γ[i]? = some (.imm (enc o))) (e : o = some x) (eΓ : Γ.set i (.imm (enc x)) = Γ') : Lo C X H σ Γ' := by
  subst eΓ
  have hil : i < Γ.length := (List.getElem?_eq_some_iff.mp g).1
  have : Γ.set i (.imm (enc x)) = Γ := by
    apply List.ext_getElem?
    intro j
    by_cases z : j = i
    · subst z; rw [List.getElem?_set_self hil, g, e]; rfl
    · rw [List.getElem?_set_ne (Ne.symm z)]
  rw [this]; exact L
instance [Py α] [NN α] [DecidableEq α] [PyE α] : PyE (Option α) where
  d := PyE.d α
  eqv := fun x y => by
    have hn : ∀ z : α, PyData.eqv .none (enc z) = false ∧ PyData.eqv (enc z) .none = false := fun z => by
      have := NN.ne z
      constructor
      · cases h : enc z <;> first | exact (this h).elim | (unfold PyData.eqv; rfl)
      · cases h : enc z <;> first | exact (this h).elim | (unfold PyData.eqv; rfl)
    cases x with
    | none => cases y with
      | none => show PyData.eqv .none .none = _; unfold PyData.eqv; rfl
      | some y => show PyData.eqv .none (enc y) = _; rw [(hn y).1]; rfl
    | some x => cases y with
      | none => show PyData.eqv (enc x) .none = _; rw [(hn x).2]; rfl
      | some y => show PyData.eqv (enc x) (enc y) = _; rw [PyE.eqv]; by_cases z : x = y <;> simp [z]
  lay := fun x => by
    cases x with
    | none => rfl
    | some x => exact PyE.lay x
  dep := fun x => by
    cases x with
    | none => exact Nat.zero_le _
    | some x => exact PyE.dep x
/-! ### built-ins -/
theorem x_cb {r : List V → Hp → VK → Prop} {t : TA} (h : t σ H fun vs H1 => r vs H1 Q) : tCB r t σ H Q := h
theorem x_call {sp : Sp} {E : XK} {t : TA} (h : t σ H fun vs H1 => sp (vs ++ []) H1 Q E) : tCall sp [] E t σ H Q := h
def rLenX (K : PySem.W.Frag) : List V → Hp → VK → Prop := fun xs H Q => ∃ p ys, xs = [.ref p] ∧ (SqL K H p ys ∨ SqT K H p ys) ∧ Q (.int ys.length) H
theorem call_lenX {Xc : Cx} : CallR Xc (.builtin "len") (rLenX Xc.K) := call_len_seq
def rAbsX : List V → Hp → VK → Prop := fun xs H Q => ∃ i, xs = [.int i] ∧ Q (.int (if i < 0 then -i else i)) H
theorem call_absX {Xc : Cx} : CallR Xc (.builtin "abs") rAbsX := call_abs
def rIntX : List V → Hp → VK → Prop := fun xs H Q => (∃ i, xs = [.int i] ∧ Q (.int i) H) ∨ ∃ k, xs = [.bl k] ∧ Q (.int (if k then 1 else 0)) H
theorem call_intX {Xc : Cx} : CallR Xc (.type "int") rIntX := call_int1
def rMaxX : List V → Hp → VK → Prop := fun xs H Q => ∃ i j, xs = [.int i, .int j] ∧ Q (.int (if j > i then j else i)) H
theorem call_maxX {Xc : Cx} (hc : Xc.calm = true) : CallR Xc (.builtin "max") rMaxX := call_max2 hc
def rMinX : List V → Hp → VK → Prop := fun xs H Q => ∃ i j, xs = [.int i, .int j] ∧ Q (.int (if j < i then j else i)) H
theorem call_minX {Xc : Cx} (hc : Xc.calm = true) : CallR Xc (.builtin "min") rMinX := call_min2 hc
def rListX (K : PySem.W.Frag) : List V → Hp → VK → Prop := fun xs H Q => ∃ p ys, xs = [.ref p] ∧ (SqL K H p ys ∨ SqT K H p ys) ∧ ∀ l, H l = none → Q (.ref l) (upd H l (.lst ys))
theorem call_listX {Xc : Cx} : CallR Xc (.type "list") (rListX Xc.K) := call_list_of
theorem x_lenL [Py α] {xs : List α} {v : V} (r : Rep C.K X H (enc xs) v) (h : Q (.int (xs.length : Int)) H) : rLenX C.K [v] H Q := by
  obtain ⟨a, vs, rfl, _, hs, q⟩ := rep_lst (ds := xs.map enc) r
  refine ⟨a, vs, rfl, .inl (.inl hs), ?_⟩
  rw [q.length, List.length_map]; exact h
theorem x_lenS {ns : List Int} {v : V} (r : SqX C.K X H ns v) (h : Q (.int (ns.length : Int)) H) : rLenX C.K [v] H Q := by
  obtain ⟨a, rfl, hs⟩ := r.sq
  refine ⟨a, _, rfl, .inl hs, ?_⟩
  rw [List.length_map]; exact h
theorem x_lenM [Py α] {xs : List α} {j : Nat} {p : Addr} (L : Lo C X H σ Γ) (g : Γ[j]? = some (.mu p (ml xs))) (h : Q (.int (xs.length : Int)) H) : rLenX C.K [.ref p] H Q := by
  obtain ⟨vs, hs, q⟩ := L.mrep g
  refine ⟨p, vs, rfl, .inl (.inl (.inl hs)), ?_⟩
  rw [q.length, List.length_map]; exact h
theorem x_lenT {ds : List PyData} {n : Int} {v : V} (r : Rep C.K X H (.tuple ds) v) (e : (ds.length : Int) = n) (h : Q (.int n) H) : rLenX C.K [v] H Q := by
  obtain ⟨a, vs, rfl, hs, q⟩ := rep_tup r
  refine ⟨a, vs, rfl, .inr hs, ?_⟩
  rw [q.length, e]; exact h
/-- a value's type -/
def tyName : PyData → String
  | .none => "NoneType"
  | .bool _ => "bool"
  | .int _ => "int"
  | .str _ => "str"
  | .list _ => "list"
  | .tuple _ => "tuple"
  | .dict _ => "dict"
theorem Rep.ty {d : PyData} {v : V} (r : Rep C.K X H d v) : TyX C.K H v (.type (tyName d)) := by
  cases r with
  | non => exact .base .non
  | bl b => exact .base (.bl b)
  | int i => exact .base (.int i)
  | str x => exact .base (.str x)
  | tup h q =>
    rcases h with (h | ⟨o, h⟩) | ⟨o, its, n, hk, hc, _⟩
    · exact .base (.tup h)
    · exact .fTuple h
    · exact .kTuple hk hc
  | lst n h q =>
    rcases h with h | ⟨o, h⟩
    · exact .base (.lst h)
    · exact .base (.frz h)
theorem x_isi {d : PyData} {v : V} {T : String} {b : Bool} (r : Rep C.K X H d v) (e : kitB (tyName d) T = some b) (h : Q (.bl b) H) : rIsi C.K [v, .ty T] H Q :=
  ⟨v, .ty T, _, .type T, b, rfl, .ty T, r.ty, kit_ty e, h⟩
theorem x_isiI {K : PySem.W.Frag} {x : Int} {T : String} {b : Bool} (e : kitB (tyName (PyData.int x)) T = some b) (h : Q (.bl b) H) : rIsi K [(V.int x), .ty T] H Q :=
  x_isi (C := ⟨K, fun _ => False, H, [], 0⟩) (X := fun _ => False) (d := (PyData.int x)) (.int _) e h
theorem x_isiB {K : PySem.W.Frag} {x : Bool} {T : String} {b : Bool} (e : kitB (tyName (PyData.bool x)) T = some b) (h : Q (.bl b) H) : rIsi K [(V.bl x), .ty T] H Q :=
  x_isi (C := ⟨K, fun _ => False, H, [], 0⟩) (X := fun _ => False) (d := (PyData.bool x)) (.bl _) e h
theorem x_isiS {K : PySem.W.Frag} {x : Str} {T : String} {b : Bool} (e : kitB (tyName (PyData.str x)) T = some b) (h : Q (.bl b) H) : rIsi K [(V.str x), .ty T] H Q :=
  x_isi (C := ⟨K, fun _ => False, H, [], 0⟩) (X := fun _ => False) (d := (PyData.str x)) (.str _) e h
theorem x_isiN {K : PySem.W.Frag} {x : Unit} {T : String} {b : Bool} (e : kitB (tyName PyData.none) T = some b) (h : Q (.bl b) H) : rIsi K [V.non, .ty T] H Q :=
  x_isi (C := ⟨K, fun _ => False, H, [], 0⟩) (X := fun _ => False) (d := PyData.none) .non e h
theorem x_isiM {i : Nat} {p : Addr} {ds : List PyData} {T : String} {b : Bool} (L : Lo C X H σ Γ) (g : Γ[i]? = some (.mu p (.lst ds))) (e : kitB "list" T = some b) (h : Q (.bl b) H) : rIsi C.K [.ref p, .ty T] H Q := by
  obtain ⟨vs, hs, q⟩ := L.mrep g
  exact ⟨.ref p, .ty T, _, .type T, b, rfl, .ty T, .base (.lst hs), kit_ty e, h⟩
theorem x_abs {a : Int} (h : Q (.int (iabs a)) H) : rAbsX [V.int a] H Q := ⟨a, rfl, h⟩
theorem x_intb {b : Bool} (h : Q (.int (b2 b)) H) : rIntX [V.bl b] H Q := .inr ⟨b, rfl, h⟩
theorem x_inti {a : Int} (h : Q (.int a) H) : rIntX [V.int a] H Q := .inl ⟨a, rfl, h⟩
def imax (a b : Int) : Int := if b > a then b else a
def imin (a b : Int) : Int := if b < a then b else a
theorem x_max {a b : Int} (h : Q (.int (imax a b)) H) : rMaxX [V.int a, V.int b] H Q := ⟨a, b, rfl, h⟩
theorem x_min {a b : Int} (h : Q (.int (imin a b)) H) : rMinX [V.int a, V.int b] H Q := ⟨a, b, rfl, h⟩
theorem x_all {bs : List Bool} {v : V} (r : Rep C.K X H (enc bs) v) (h : Q (.bl (bs.all id)) H) : rAll C.K [v] H Q := by
  obtain ⟨a, vs, rfl, _, hs, q⟩ := rep_lst (ds := bs.map enc) r
  have e := Reps.toBools q
  subst e
  exact ⟨a, bs, rfl, .inl hs, h⟩
theorem x_sum {ns : List Int} {v : V} (r : Rep C.K X H (enc ns) v) (h : Q (.int ns.sum) H) : rSum C.K [v] H Q := by
  obtain ⟨a, vs, rfl, _, hs, q⟩ := rep_lst (ds := ns.map enc) r
  have e := Reps.toInts q
  subst e
  exact ⟨a, ns, rfl, .inl hs, h⟩
theorem x_any {bs : List Bool} {v : V} (r : Rep C.K X H (enc bs) v) (h : Q (.bl (bs.any id)) H) : rAny C.K [v] H Q := by
  obtain ⟨a, vs, rfl, _, hs, q⟩ := rep_lst (ds := bs.map enc) r
  have e := Reps.toBools q
  subst e
  exact ⟨a, bs, rfl, .inl hs, h⟩
/-! ### slices, sums of lists -/
def slice {α : Type} (xs : List α) (lo hi : Option Int) : List α := (xs.drop (HT.sIx xs.length 0 lo)).take (HT.sIx xs.length xs.length hi - HT.sIx xs.length 0 lo)
def KPart (Q : Option Int → Hp → Prop) : VK := fun x H => ∃ i, x = .int i ∧ Q (some i) H
theorem x_sl {r : V → Option Int → Option Int → Hp → VK → Prop} {te : TE} {tl th : TO} (h : te σ H fun x H1 => tl σ H1 fun l H2 => th σ H2 fun u H3 => r x l u H3 Q) : tSl r te tl th σ H Q := h
theorem x_noP {Q : Option Int → Hp → Prop} (h : Q none H) : tNoPart σ H Q := h
theorem x_part {t : TE} {Q : Option Int → Hp → Prop} (h : t σ H (KPart Q)) : tPart t σ H Q := h
theorem x_partK {i : Int} {Q : Option Int → Hp → Prop} (h : Q (some i) H) : KPart Q (.int i) H := ⟨i, rfl, h⟩
theorem reps_slice {K : PySem.W.Frag} [Py α] {xs : List α} {vs : List V} {lo hi : Option Int} (q : Reps K X H (xs.map enc) vs) : Reps K X H ((slice xs lo hi).map enc) (cutV vs lo hi) := by
  have e : vs.length = xs.length := by rw [q.length, List.length_map]
  unfold slice cutV
  rw [e, List.map_take, List.map_drop]
  exact (q.drop _).take _
/-- a new list, told as data or as the body's own -/
theorem x_new {ds : List PyData} {vs : List V} (L : Lo C X H σ Γ) (q : Reps C.K X H ds vs) (h : ∀ v H1, Lo C X H1 σ Γ → (∀ d u, Rep C.K X H d u → Rep C.K X H1 d u) → Rep C.K X H1 (.list ds) v → Q v H1) : ∀ p, H p = none → Q (.ref p) (upd H p (.lst vs)) := fun p hp => by
  have s : Same H (upd H p (.lst vs)) := same_upd hp
  have r : RRep C.K X H (upd H p (.lst vs)) (.new (.lst ds)) (.ref p) := ⟨p, rfl, hp, vs, upd_same, (q.more hp).keep (.same s)⟩
  exact h _ _ (L.same s) (fun _ _ r => r.keep (.same s)) (r.imm L.xd)
theorem x_newN {ds : List PyData} {vs : List V} (L : Lo C X H σ Γ) (q : Reps C.K X H ds vs) (h : ∀ p X' H1, C.H0 p = none → ¬ C.X0 p → Lo C X' H1 σ (Γ ++ [.tmp p (.lst ds)]) → (∀ d u, Rep C.K X H d u → Rep C.K X' H1 d u) → Q (.ref p) H1) : ∀ p, H p = none → Q (.ref p) (upd H p (.lst vs)) := fun p hp => by
  have s : Same H (upd H p (.lst vs)) := same_upd hp
  obtain ⟨L1, le, h0, hx⟩ := L.lay (o := .lst ds) hp s ⟨vs, upd_same, (q.more hp).keep (.same s)⟩
  exact h p _ _ h0 hx L1 le
theorem x_slL [Py α] {xs : List α} {v : V} {lo hi : Option Int} (L : Lo C X H σ Γ) (r : Rep C.K X H (enc xs) v) (h : ∀ v H1, Lo C X H1 σ Γ → (∀ d u, Rep C.K X H d u → Rep C.K X H1 d u) → Rep C.K X H1 (enc (slice xs lo hi)) v → Q v H1) : rSlL C.K v lo hi H Q := by
  obtain ⟨a, vs, rfl, _, hs, q⟩ := rep_lst (ds := xs.map enc) r
  exact ⟨a, vs, rfl, .inl hs, x_new L (reps_slice q) h⟩
theorem x_slN [Py α] {xs : List α} {v : V} {lo hi : Option Int} (L : Lo C X H σ Γ) (r : Rep C.K X H (enc xs) v) (h : ∀ p X' H1, C.H0 p = none → ¬ C.X0 p → Lo C X' H1 σ (Γ ++ [.tmp p (ml (slice xs lo hi))]) → (∀ d u, Rep C.K X H d u → Rep C.K X' H1 d u) → Q (.ref p) H1) : rSlL C.K v lo hi H Q := by
  obtain ⟨a, vs, rfl, _, hs, q⟩ := rep_lst (ds := xs.map enc) r
  exact ⟨a, vs, rfl, .inl hs, x_newN L (reps_slice q) h⟩
theorem x_slM [Py α] {xs : List α} {i : Nat} {p : Addr} {lo hi : Option Int} (L : Lo C X H σ Γ) (g : Γ[i]? = some (.mu p (ml xs))) (h : ∀ v H1, Lo C X H1 σ Γ → (∀ d u, Rep C.K X H d u → Rep C.K X H1 d u) → Rep C.K X H1 (enc (slice xs lo hi)) v → Q v H1) : rSlL C.K (.ref p) lo hi H Q := by
  obtain ⟨vs, hs, q⟩ := L.mrep g
  exact ⟨p, vs, rfl, .inl (.inl hs), x_new L (reps_slice q) h⟩
theorem x_slMN [Py α] {xs : List α} {i : Nat} {p : Addr} {lo hi : Option Int} (L : Lo C X H σ Γ) (g : Γ[i]? = some (.mu p (ml xs))) (h : ∀ p X' H1, C.H0 p = none → ¬ C.X0 p → Lo C X' H1 σ (Γ ++ [.tmp p (ml (slice xs lo hi))]) → (∀ d u, Rep C.K X H d u → Rep C.K X' H1 d u) → Q (.ref p) H1) : rSlL C.K (.ref p) lo hi H Q := by
  obtain ⟨vs, hs, q⟩ := L.mrep g
  exact ⟨p, vs, rfl, .inl (.inl hs), x_newN L (reps_slice q) h⟩
theorem x_slS {ns : List Int} {v : V} {lo hi : Option Int} (L : Lo C X H σ Γ) (r : SqX C.K X H ns v) (h : ∀ v H1, Lo C X H1 σ Γ → (∀ d u, Rep C.K X H d u → Rep C.K X H1 d u) → Rep C.K X H1 (enc (slice ns lo hi)) v → Q v H1) : rSlL C.K v lo hi H Q := by
  obtain ⟨a, rfl, hs⟩ := r.sq
  refine ⟨a, _, rfl, hs, x_new L (reps_slice (xs := ns) ?_) h⟩
  exact Reps.ints
/-- a part of a tuple -/
theorem x_slT {ds es : List PyData} {v : V} {lo hi : Option Int} (n : Nat) (L : Lo C X H σ Γ) (r : Rep C.K X H (.tuple ds) v) (hn : ds.length = n) (e : (ds.drop (HT.sIx ds.length 0 lo)).take (HT.sIx ds.length ds.length hi - HT.sIx ds.length 0 lo) = es) (ne : ¬ (HT.sIx n 0 lo = 0 ∧ HT.sIx n n hi = n))
    (h : ∀ v H1, Lo C X H1 σ Γ → (∀ d u, Rep C.K X H d u → Rep C.K X H1 d u) → Rep C.K X H1 (.tuple es) v → Q v H1) : rSlT C.K v lo hi H Q := by
  obtain ⟨a, vs, rfl, hs, q⟩ := rep_tup r
  have e2 : vs.length = ds.length := q.length
  refine ⟨a, vs, rfl, hs, by rw [e2, hn]; exact ne, fun p hp => ?_⟩
  have s : Same H (upd H p (.tup (cutV vs lo hi))) := same_upd hp
  have q2 : Reps C.K X H es (cutV vs lo hi) := by
    rw [← e]
    unfold cutV
    rw [e2]
    exact (q.drop _).take _
  exact h _ _ (L.same s) (fun _ _ r => r.keep (.same s)) (.tup (.of upd_same) (q2.keep (.same s)))
/-- xs[::-1] -/
def KRev (K : PySem.W.Frag) (Q : VK) : VK := fun x H => ∃ a xs, x = .ref a ∧ SqL K H a xs ∧ ∀ p, H p = none → Q (.ref p) (upd H p (.lst xs.reverse))
theorem x_revL {K : PySem.W.Frag} {te : TE} (h : te σ H (KRev K Q)) : tRevL K te σ H Q := h
theorem x_revv [Py α] {xs : List α} {v : V} (L : Lo C X H σ Γ) (r : Rep C.K X H (enc xs) v) (h : ∀ v H1, Lo C X H1 σ Γ → (∀ d u, Rep C.K X H d u → Rep C.K X H1 d u) → Rep C.K X H1 (enc xs.reverse) v → Q v H1) : KRev C.K Q v H := by
  obtain ⟨a, vs, rfl, _, hs, q⟩ := rep_lst (ds := xs.map enc) r
  exact ⟨a, vs, rfl, .inl hs, x_new (ds := xs.reverse.map enc) L (by rw [List.map_reverse]; exact q.reverse) h⟩
theorem x_revN [Py α] {xs : List α} {v : V} (L : Lo C X H σ Γ) (r : Rep C.K X H (enc xs) v) (h : ∀ p X' H1, C.H0 p = none → ¬ C.X0 p → Lo C X' H1 σ (Γ ++ [.tmp p (ml xs.reverse)]) → (∀ d u, Rep C.K X H d u → Rep C.K X' H1 d u) → Q (.ref p) H1) : KRev C.K Q v H := by
  obtain ⟨a, vs, rfl, _, hs, q⟩ := rep_lst (ds := xs.map enc) r
  exact ⟨a, vs, rfl, .inl hs, x_newN (ds := xs.reverse.map enc) L (by rw [List.map_reverse]; exact q.reverse) h⟩
/-- list(xs) -/
theorem x_listL [Py α] {xs : List α} {v : V} (L : Lo C X H σ Γ) (r : Rep C.K X H (enc xs) v) (h : ∀ v H1, Lo C X H1 σ Γ → (∀ d u, Rep C.K X H d u → Rep C.K X H1 d u) → Rep C.K X H1 (enc xs) v → Q v H1) : rListX C.K [v] H Q := by
  obtain ⟨a, vs, rfl, _, hs, q⟩ := rep_lst (ds := xs.map enc) r
  exact ⟨a, vs, rfl, .inl (.inl hs), x_new L q h⟩
theorem x_listN [Py α] {xs : List α} {v : V} (L : Lo C X H σ Γ) (r : Rep C.K X H (enc xs) v) (h : ∀ p X' H1, C.H0 p = none → ¬ C.X0 p → Lo C X' H1 σ (Γ ++ [.tmp p (ml xs)]) → (∀ d u, Rep C.K X H d u → Rep C.K X' H1 d u) → Q (.ref p) H1) : rListX C.K [v] H Q := by
  obtain ⟨a, vs, rfl, _, hs, q⟩ := rep_lst (ds := xs.map enc) r
  exact ⟨a, vs, rfl, .inl (.inl hs), x_newN L q h⟩
theorem x_listM [Py α] {xs : List α} {i : Nat} {p : Addr} (L : Lo C X H σ Γ) (g : Γ[i]? = some (.mu p (ml xs))) (h : ∀ v H1, Lo C X H1 σ Γ → (∀ d u, Rep C.K X H d u → Rep C.K X H1 d u) → Rep C.K X H1 (enc xs) v → Q v H1) : rListX C.K [.ref p] H Q := by
  obtain ⟨vs, hs, q⟩ := L.mrep g
  exact ⟨p, vs, rfl, .inl (.inl (.inl hs)), x_new L q h⟩
def rCatR : R2 := fun x y H Q => ∃ l b xs zs, x = .ref l ∧ y = .ref b ∧ Rd H l (.lst xs) ∧ Rd H b (.lst zs) ∧ xs.length + zs.length ≤ sizeLine ∧ ∀ p, H p = none → Q (.ref p) (upd H p (.lst (xs ++ zs)))
theorem op_catR {Xc : Cx} : OpR Xc (binaryOp .Add) rCatR := by
  intro pins s σ H x y v u Q I rx ry h
  obtain ⟨l, b, xs, zs, rfl, rfl, hH, hB, hz, q⟩ := h
  cases rx
  cases ry
  obtain ⟨z, its, n, r, e⟩ := hH.ok I.hok
  obtain ⟨z2, its2, n2, r2, e2⟩ := hB.ok I.hok
  have hl := r.length
  have hl2 := r2.length
  refine PySem.P.add_list e e2 ?_ (by rw [List.size_toArray, List.size_toArray]; omega)
  have ea : its.toArray ++ its2.toArray = (its ++ its2).toArray := by simp
  rw [ea]
  exact ⟨.ref _, _, I.lnew (t' := s.toks) (r.append r2) (by rw [List.length_append]; omega), rfl, q _ I.fresh⟩
theorem len_ok {n : Nat} {k : Unit → Option ρ} {r : ρ} (hm : (lenOk n).bind k = some r) : n ≤ 16777216 ∧ k () = some r := by
  obtain ⟨_, e, hk⟩ := ob hm
  unfold lenOk at e
  split at e
  · exact ⟨by assumption, hk⟩
  · cases e
theorem lenOk_le {n : Nat} {u : Unit} (h : lenOk n = some u) : n ≤ 16777216 := by
  unfold lenOk at h
  split at h
  · assumption
  · cases h
theorem x_cat [Py α] {xs ys : List α} {u v : V} {k : Unit → Option ρ} {r : ρ} (L : Lo C X H σ Γ) (hm : (lenOk (xs.length + ys.length)).bind k = some r) (p : Rep C.K X H (enc xs) u) (q : Rep C.K X H (enc ys) v)
    (h : ∀ v H1, k () = some r → Lo C X H1 σ Γ → (∀ d u, Rep C.K X H d u → Rep C.K X H1 d u) → Rep C.K X H1 (enc (xs ++ ys)) v → Q v H1) : rCatR u v H Q := by
  obtain ⟨hl, hk⟩ := len_ok hm
  obtain ⟨a, vs, rfl, _, hs, q1⟩ := rep_lst (ds := xs.map enc) p
  obtain ⟨b, ws, rfl, _, ht, q2⟩ := rep_lst (ds := ys.map enc) q
  have q3 : Reps C.K X H ((xs ++ ys).map enc) (vs ++ ws) := by rw [List.map_append]; exact q1.append q2
  exact ⟨a, b, vs, ws, rfl, rfl, hs, ht, by rw [line_eq, q1.length, q2.length, List.length_map, List.length_map]; exact hl, x_new L q3 fun v H1 => h v H1 hk⟩
theorem x_catN [Py α] {xs ys : List α} {u v : V} {k : Unit → Option ρ} {r : ρ} (L : Lo C X H σ Γ) (hm : (lenOk (xs.length + ys.length)).bind k = some r) (p : Rep C.K X H (enc xs) u) (q : Rep C.K X H (enc ys) v)
    (h : ∀ p X' H1, k () = some r → C.H0 p = none → ¬ C.X0 p → Lo C X' H1 σ (Γ ++ [.tmp p (ml (xs ++ ys))]) → (∀ d u, Rep C.K X H d u → Rep C.K X' H1 d u) → Q (.ref p) H1) : rCatR u v H Q := by
  obtain ⟨hl, hk⟩ := len_ok hm
  obtain ⟨a, vs, rfl, _, hs, q1⟩ := rep_lst (ds := xs.map enc) p
  obtain ⟨b, ws, rfl, _, ht, q2⟩ := rep_lst (ds := ys.map enc) q
  have q3 : Reps C.K X H ((xs ++ ys).map enc) (vs ++ ws) := by rw [List.map_append]; exact q1.append q2
  exact ⟨a, b, vs, ws, rfl, rfl, hs, ht, by rw [line_eq, q1.length, q2.length, List.length_map, List.length_map]; exact hl, x_newN L q3 fun p X' H1 => h p X' H1 hk⟩
/-! ### methods of lists -/
theorem x_bm {T : String} {r : V → List V → Hp → VK → Prop} {to : TE} {t : TA} (h : to σ H fun x H1 => tyV C.K T x H1 ∧ t σ H1 fun xs H2 => r x xs H2 Q) : tBM C.K T r to t σ H Q := h
theorem x_bm0 {T : String} {r : V → List V → Hp → VK → Prop} {to : TE} (h : to σ H fun x H1 => tyV C.K T x H1 ∧ r x [] H1 Q) : tBM0 C.K T r to σ H Q := h
theorem x_tyM {i : Nat} {p : Addr} {ds : List PyData} {P : Prop} (L : Lo C X H σ Γ) (g : Γ[i]? = some (.mu p (.lst ds))) (h : P) : tyV C.K "list" (.ref p) H ∧ P := by
  obtain ⟨vs, hs, _⟩ := L.mrep g
  exact ⟨.inl ⟨rfl, vs, .inl (.inl hs)⟩, h⟩
/-- the list in a slot is written -/
theorem Lo.write (L : Lo C X H σ Γ) {i : Nat} {p : Addr} {ds es : List PyData} {vs ws : List V} (g : Γ[i]? = some (.mu p (.lst ds))) (hs : H p = some (.lst vs)) (q : Reps C.K X H es ws) :
    Lo C X (upd H p (.lst ws)) σ (Γ.set i (.mu p (.lst es))) ∧ (∀ d u, Rep C.K X H d u → Rep C.K X (upd H p (.lst ws)) d u) := by
  have hX : X p := L.mx p (mem_muts.mpr ⟨i, _, g, rfl⟩)
  have kp : Keep X H (upd H p (.lst ws)) := ⟨fun a u h n => by rw [upd_ne (fun z => n (by rw [z]; exact hX))]; exact h, fun a us h => by rw [upd_ne (fun z => by rw [z, hs] at h; cases h)]; exact h, fun a u w h => by rw [upd_ne (fun z => by rw [z, hs] at h; cases h)]; exact h⟩
  exact L.wrote (H' := upd H p (.lst ws)) (o := .lst es) g rfl (fun a u h n => by rw [upd_ne n]; exact h) (fun a h => by
      by_cases z : a = p
      · rw [z, upd_same]; exact fun y => nomatch y
      · rw [upd_ne z]; exact h) ⟨ws, upd_same, q.keep kp⟩
theorem x_append [Py α] {xs : List α} {x : α} {v : V} {i : Nat} {p : Addr} {k : Unit → Option ρ} {r : ρ} (L : Lo C X H σ Γ) (g : Γ[i]? = some (.mu p (ml xs))) (hm : (lenOk (xs.length + 1)).bind k = some r) (q : Rep C.K X H (enc x) v) (e : Γ.set i (.mu p (ml (xs ++ [x]))) = Γ')
    (h : ∀ H1, k () = some r → Lo C X H1 σ Γ' → (∀ d u, Rep C.K X H d u → Rep C.K X H1 d u) → Q .non H1) : rAppend (.ref p) [v] H Q := by
  subst e
  obtain ⟨hl, hk⟩ := len_ok hm
  obtain ⟨vs, hs, rs⟩ := L.mrep g
  have hlen : vs.length = xs.length := by rw [rs.length, List.length_map]
  obtain ⟨L1, le⟩ := L.write (es := (xs ++ [x]).map enc) (ws := vs ++ [v]) g hs (by rw [List.map_append]; exact rs.append (.cons q .nil))
  exact ⟨p, vs, v, rfl, rfl, hs, by rw [line_eq]; omega, h _ hk L1 le⟩
def rExtendR : V → List V → Hp → VK → Prop := fun x vs H Q => ∃ l b xs zs, x = .ref l ∧ vs = [.ref b] ∧ H l = some (.lst xs) ∧ Rd H b (.lst zs) ∧ xs.length + zs.length ≤ sizeLine ∧ Q .non (upd H l (.lst (xs ++ zs)))
theorem mt_extendR {Xc : Cx} : MtM Xc "list.extend" rExtendR := by
  intro pins s σ H x vs v us Q I rx rv h
  obtain ⟨l, b, xs, zs, rfl, rfl, hH, hB, hz, q⟩ := h
  cases rx
  obtain ⟨u, rfl, ru⟩ := rv.one
  cases ru
  obtain ⟨z, its, n, r, hl, e⟩ := I.lstM hH
  obtain ⟨z2, its2, n2, r2, e2⟩ := hB.ok I.hok
  have hl2 := r2.length
  have hsz : its.toArray.size + its2.toArray.size ≤ sizeLine := by rw [List.size_toArray, List.size_toArray]; omega
  have hlong : ¬ (!its.toArray.isEmpty && Builtin.List.listTooLong (its.toArray.size + its2.toArray.size)) = true := by
    rw [notLongL hsz, Bool.and_false]
    exact Bool.false_ne_true
  refine call_meets F.slot_list_extend ⟨_, e, rfl⟩ F.entry_list_extend (F.args_list_extend_2 _ _)
    (AutoSeq1.list_extend_list_list_0 l its.toArray n b its2.toArray n2 hlong (by rw [List.size_toArray]; omega) (by omega)) ⟨e, e2, ?_⟩
  refine ⟨.non, _, I.lset (its' := its ++ its2) hH e (by simp) (r.append r2) ?_, rfl, q⟩
  rw [List.length_append]
  omega
theorem x_extend [Py α] {xs ys : List α} {v : V} {i : Nat} {p : Addr} {k : Unit → Option ρ} {r : ρ} (L : Lo C X H σ Γ) (g : Γ[i]? = some (.mu p (ml xs))) (hm : (lenOk (xs.length + ys.length)).bind k = some r) (q : Rep C.K X H (enc ys) v) (e : Γ.set i (.mu p (ml (xs ++ ys))) = Γ')
    (h : ∀ H1, k () = some r → Lo C X H1 σ Γ' → (∀ d u, Rep C.K X H d u → Rep C.K X H1 d u) → Q .non H1) : rExtendR (.ref p) [v] H Q := by
  subst e
  obtain ⟨hl, hk⟩ := len_ok hm
  obtain ⟨vs, hs, rs⟩ := L.mrep g
  obtain ⟨b, ws, rfl, _, ht, q2⟩ := rep_lst (ds := ys.map enc) q
  obtain ⟨L1, le⟩ := L.write (es := (xs ++ ys).map enc) (ws := vs ++ ws) g hs (by rw [List.map_append]; exact rs.append q2)
  exact ⟨p, b, vs, ws, rfl, rfl, hs, ht, by rw [line_eq, rs.length, q2.length, List.length_map, List.length_map]; exact hl, h _ hk L1 le⟩
/-! ### what a call asks, and what stands behind it -/
theorem nd0 {Γa : List Sl} (e : muts Γa = []) : (muts Γa).Nodup := by rw [e]; exact List.nodup_nil
theorem nd1 {Γa : List Sl} {p : Addr} (e : muts Γa = [p]) : (muts Γa).Nodup := by rw [e]; simp
theorem Lo.cond0 (L : Lo C X H σ Γ) {Γa : List Sl} {vs : List V} (as : As C.K X H Γa vs) (e : muts Γa = []) : Cond C.K X H Γa vs := L.cond as (nd0 e) (by rw [e]; intro _ h; cases h)
theorem Lo.cond1 (L : Lo C X H σ Γ) {Γa : List Sl} {vs : List V} {i : Nat} {s : Sl} {p : Addr} (as : As C.K X H Γa vs) (e : muts Γa = [p]) (g : Γ[i]? = some s) (es : s.ad = some p) : Cond C.K X H Γa vs := L.cond as (nd1 e) (by
  rw [e]; intro q h
  rw [List.mem_singleton] at h
  subst h
  exact mem_muts.mpr ⟨i, s, g, es⟩)
theorem hp0 {K : PySem.W.Frag} : ∀ q ∈ ([] : List (Addr × MO)), MRep K X H q.1 q.2 := fun _ h => nomatch h
theorem hp1 {K : PySem.W.Frag} {p : Addr} {o : MO} (h : MRep K X H p o) : ∀ q ∈ [(p, o)], MRep K X H q.1 q.2 := fun q hq => by
  rw [List.mem_singleton] at hq
  subst hq
  exact h
theorem Lo.tmp (L : Lo C X H σ Γ) {i : Nat} {p : Addr} {o : MO} (e : Γ[i]? = some (.tmp p o)) : MRep C.K X H p o := L.at_ i _ e
/-- behind a call -/
theorem k0 {v : V} {H' : Hp} {rs : Rs} {ps : List (Addr × MO)} {G : Prop} (L : Lo C X H σ Γ) (F : Fin C.K X H [] ps rs v H') (h : Lo C X H' σ Γ → (∀ d u, Rep C.K X H d u → Rep C.K X H' d u) → G) : G := h (L.after0 F).1 (L.after0 F).2
theorem k0d {v : V} {H' : Hp} {d : PyData} {ps : List (Addr × MO)} {G : Prop} (L : Lo C X H σ Γ) (F : Fin C.K X H [] ps (.imm d) v H') (h : Lo C X H' σ Γ → (∀ d u, Rep C.K X H d u → Rep C.K X H' d u) → Rep C.K X H' d v → G) : G := h (L.after0 F).1 (L.after0 F).2 F.res
/-- .. that tells a new list, as data -/
theorem k0i {v : V} {H' : Hp} {ds : List PyData} {ps : List (Addr × MO)} {G : Prop} (L : Lo C X H σ Γ) (F : Fin C.K X H [] ps (.new (.lst ds)) v H') (h : Lo C X H' σ Γ → (∀ d u, Rep C.K X H d u → Rep C.K X H' d u) → Rep C.K X H' (.list ds) v → G) : G := h (L.after0 F).1 (L.after0 F).2 (RRep.imm F.res L.xd)
/-- .. as the body's own -/
theorem k0N {p : Addr} {H' : Hp} {o : MO} {ps : List (Addr × MO)} {P : Prop} (L : Lo C X H σ Γ) (F : Fin C.K X H [] ps (.new o) (.ref p) H') (h : ∀ X', C.H0 p = none → ¬ C.X0 p → Lo C X' H' σ (Γ ++ [.tmp p o]) → (∀ d u, Rep C.K X H d u → Rep C.K X' H' d u) → P) : P := by
  obtain ⟨p', e, a, b, X', c, d⟩ := L.after0N F
  cases e
  exact h X' a b c d
/-- .. that wrote the object of one slot -/
theorem k1 {v : V} {H' : Hp} {rs : Rs} {p : Addr} {o : MO} {s : Sl} {G : Prop} (L : Lo C X H σ Γ) (F : Fin C.K X H [p] [(p, o)] rs v H') {i : Nat} (e : Γ[i]? = some s) (es : s.ad = some p) (eΓ : Γ.set i (s.to o) = Γ') (h : Lo C X H' σ Γ' → (∀ d u, Rep C.K X H d u → Rep C.K X H' d u) → G) : G := by
  subst eΓ
  exact h (L.after1 F e es).1 (L.after1 F e es).2
theorem k1d {v : V} {H' : Hp} {d : PyData} {p : Addr} {o : MO} {s : Sl} {G : Prop} (L : Lo C X H σ Γ) (F : Fin C.K X H [p] [(p, o)] (.imm d) v H') {i : Nat} (e : Γ[i]? = some s) (es : s.ad = some p) (eΓ : Γ.set i (s.to o) = Γ') (h : Lo C X H' σ Γ' → (∀ d u, Rep C.K X H d u → Rep C.K X H' d u) → Rep C.K X H' d v → G) : G := by
  subst eΓ
  exact h (L.after1 F e es).1 (L.after1 F e es).2 F.res
theorem k1i {v : V} {H' : Hp} {ds : List PyData} {p : Addr} {o : MO} {s : Sl} {G : Prop} (L : Lo C X H σ Γ) (F : Fin C.K X H [p] [(p, o)] (.new (.lst ds)) v H') {i : Nat} (e : Γ[i]? = some s) (es : s.ad = some p) (eΓ : Γ.set i (s.to o) = Γ') (h : Lo C X H' σ Γ' → (∀ d u, Rep C.K X H d u → Rep C.K X H' d u) → Rep C.K X H' (.list ds) v → G) : G := by
  subst eΓ
  exact h (L.after1 F e es).1 (L.after1 F e es).2 (RRep.imm F.res L.xd)
/-- .. and tells a new one, the body's own -/
theorem ints_any {K : PySem.W.Frag} {X Y : Addr → Prop} : ∀ {xs : List Int} {vs : List V}, Reps K X H (xs.map enc) vs → Reps K Y H (xs.map enc) vs
  | [], _, .nil => .nil
  | _ :: _, _, .cons (.int i) t => .cons (.int i) (ints_any t)
theorem k1N {q : Addr} {H' : Hp} {o' : MO} {p : Addr} {xs : List Int} {s : Sl} {P : Prop} (L : Lo C X H σ Γ) (F : Fin C.K X H [p] [(p, ml xs)] (.new o') (.ref q) H') {i : Nat} (e : Γ[i]? = some s) (es : s.ad = some p) (eΓ : Γ.set i (s.to (ml xs)) = Γ') (h : ∀ X', C.H0 q = none → ¬ C.X0 q → Lo C X' H' σ (Γ' ++ [.tmp q o']) → (∀ d u, Rep C.K X H d u → Rep C.K X' H' d u) → P) : P := by
  subst eΓ
  have hpm : p ∈ muts Γ := mem_muts.mpr ⟨i, s, e, es⟩
  have hpx : X p := L.mx p hpm
  obtain ⟨o0, r0⟩ := L.mem hpm
  have kp : Keep X H H' := ⟨fun a u h n => F.base a u h fun z => n (by rw [List.mem_singleton] at z; exact z ▸ hpx), fun a vs h => F.base a _ h fun z => by rw [List.mem_singleton] at z; exact r0.ntup.1 _ (z ▸ h), fun a u w h => F.base a _ h fun z => by rw [List.mem_singleton] at z; exact r0.ntup.2 _ _ (z ▸ h)⟩
  have L' := (L.after1 F e es).1
  have hil : i < Γ.length := (List.getElem?_eq_some_iff.mp e).1
  obtain ⟨q', e', a, b, c, d⟩ := L.afterN F L' kp (by intro q hq; rw [List.mem_singleton] at hq; exact hq ▸ hpm) (muts_to e) fun j t hj => by
    have hs := L'.at_ j t hj
    by_cases z : j = i
    · subst z
      rw [List.getElem?_set_self hil] at hj
      cases hj
      have hp' : (s.to (ml xs)).ad = some p := by
        cases s with
        | unk => cases es
        | scr ns => cases es
        | ref a => cases es
        | imm d => cases es
        | fix _ _ => cases es
        | fixN _ _ => cases es
        | mu p' o1 => exact es
        | tmp p' o1 => exact es
      refine .inr ⟨p, hp', fun q hq => ?_⟩
      obtain ⟨vs, h1, h2⟩ := F.mu (p, ml xs) (by simp)
      have this : MRep C.K (fun a => X a ∨ a = q) H' p (ml xs) := ⟨vs, h1, ints_any h2⟩
      cases s with
      | unk => cases es
      | scr ns => cases es
      | ref a => cases es
      | imm d => cases es
      | fix _ _ => cases es
      | fixN _ _ => cases es
      | mu p' o1 => cases es; exact ⟨hs.1, this⟩
      | tmp p' o1 => cases es; exact this
    · rw [List.getElem?_set_ne (Ne.symm z)] at hj
      cases ea : t.ad with
      | none => exact .inl ⟨rfl, hj⟩
      | some p' =>
        refine .inr ⟨p', rfl, fun q hq => ((L.at_ j t hj).more hq).keep (kp.mono fun a h => .inl h) fun p'' e'' => ?_⟩
        rw [ea] at e''; cases e''
        obtain ⟨o', r'⟩ := (L.at_ j t hj).mrep ea
        have ne : p' ≠ p := fun y => z (ad_unique L.nd hj e (by rw [ea, y]) es)
        cases h : H p' with
        | none => exact (r'.nn h).elim
        | some u => exact F.base p' u h (by simpa using ne)
  cases e'
  exact h _ a b c d
/-- an object of the body's own is told -/
theorem Lo.finM {ps : List (Addr × MO)} {o : MO} {p : Addr} {i : Nat} (L : Lo C X H σ Γ) (hp : ∀ q ∈ ps, MRep C.K X H q.1 q.2) (e : Γ[i]? = some (.mu p o)) (hn : C.H0 p = none) : Fin C.K C.X0 C.H0 C.P0 ps (.new o) (.ref p) H :=
  L.finN hp hn (L.mx p (mem_muts.mpr ⟨i, _, e, rfl⟩)) (L.mrep e)
theorem Lo.finT {ps : List (Addr × MO)} {o : MO} {p : Addr} {i : Nat} (L : Lo C X H σ Γ) (hp : ∀ q ∈ ps, MRep C.K X H q.1 q.2) (e : Γ[i]? = some (.tmp p o)) (hn : C.H0 p = none) : Fin C.K C.X0 C.H0 C.P0 ps (.new o) (.ref p) H :=
  L.finN hp hn (L.mx p (mem_muts.mpr ⟨i, _, e, rfl⟩)) (L.tmp e)
/-! ### the ends of bodies, turns, branches -/
theorem x_fin {K : PySem.W.Frag} {H0 : Hp} {P0 : List Addr} {ps : ρ → List (Addr × MO)} {rs : ρ → Rs} {e r : ρ} {v : V} (hm : some e = some r) (kont : ∀ v H', Fin K X H0 P0 (ps r) (rs r) v H' → Q v H') (F : Fin K X H0 P0 (ps e) (rs e) v H) : Q v H := by
  cases hm; exact kont v H F
theorem x_finP {K : PySem.W.Frag} {H0 : Hp} {P0 : List Addr} {ps : ρ → List (Addr × MO)} {o : ρ → MO} {e r : ρ} {p : Addr} (hm : some e = some r) (kont : ∀ p H', Fin K X H0 P0 (ps r) (.new (o r)) (.ref p) H' → Q (.ref p) H') (F : Fin K X H0 P0 (ps e) (.new (o e)) (.ref p) H) : Q (.ref p) H := by
  cases hm; exact kont p H F
theorem x_finRP {K : PySem.W.Frag} {H0 : Hp} {P0 : List Addr} {ps : ρ → List (Addr × MO)} {o : ρ → MO} {e r : ρ} {v : V} (hm : some e = some r) (kont : ∀ p H', Fin K X H0 P0 (ps r) (.new (o r)) (.ref p) H' → Q (.ref p) H') (F : Fin K X H0 P0 (ps e) (.new (o e)) v H) : Q v H := by
  cases hm
  obtain ⟨p, rfl, _⟩ := F.res
  exact kont p H F
theorem x_finI {K : PySem.W.Frag} {H0 : Hp} {P0 : List Addr} {ps : ρ → List (Addr × MO)} {sc : ρ → Int} {r : ρ} (e : ρ) (hm : some e = some r) (kont : ∀ H', (fun x => Fin K X H0 P0 (ps r) (.imm (PyData.int x)) (V.int x) H') (sc r) → (fun x => Q (V.int x) H') (sc r)) (F : (fun x => Fin K X H0 P0 (ps e) (.imm (PyData.int x)) (V.int x) H) (sc e)) : (fun x => Q (V.int x) H) (sc e) := by
  cases hm; exact kont H F
theorem x_finRI {K : PySem.W.Frag} {H0 : Hp} {P0 : List Addr} {ps : ρ → List (Addr × MO)} {sc : ρ → Int} {e r : ρ} {v : V} (hm : some e = some r) (kont : ∀ H', (fun x => Fin K X H0 P0 (ps r) (.imm (PyData.int x)) (V.int x) H') (sc r) → (fun x => Q (V.int x) H') (sc r)) (F : Fin K X H0 P0 (ps e) (.imm ((fun x => (PyData.int x)) (sc e))) v H) : Q v H := by
  cases hm
  have q := repI (x := sc e) F.res
  subst q
  exact kont H F
theorem x_finB {K : PySem.W.Frag} {H0 : Hp} {P0 : List Addr} {ps : ρ → List (Addr × MO)} {sc : ρ → Bool} {r : ρ} (e : ρ) (hm : some e = some r) (kont : ∀ H', (fun x => Fin K X H0 P0 (ps r) (.imm (PyData.bool x)) (V.bl x) H') (sc r) → (fun x => Q (V.bl x) H') (sc r)) (F : (fun x => Fin K X H0 P0 (ps e) (.imm (PyData.bool x)) (V.bl x) H) (sc e)) : (fun x => Q (V.bl x) H) (sc e) := by
  cases hm; exact kont H F
theorem x_finRB {K : PySem.W.Frag} {H0 : Hp} {P0 : List Addr} {ps : ρ → List (Addr × MO)} {sc : ρ → Bool} {e r : ρ} {v : V} (hm : some e = some r) (kont : ∀ H', (fun x => Fin K X H0 P0 (ps r) (.imm (PyData.bool x)) (V.bl x) H') (sc r) → (fun x => Q (V.bl x) H') (sc r)) (F : Fin K X H0 P0 (ps e) (.imm ((fun x => (PyData.bool x)) (sc e))) v H) : Q v H := by
  cases hm
  have q := repB (x := sc e) F.res
  subst q
  exact kont H F
theorem x_finS {K : PySem.W.Frag} {H0 : Hp} {P0 : List Addr} {ps : ρ → List (Addr × MO)} {sc : ρ → Str} {r : ρ} (e : ρ) (hm : some e = some r) (kont : ∀ H', (fun x => Fin K X H0 P0 (ps r) (.imm (PyData.str x)) (V.str x) H') (sc r) → (fun x => Q (V.str x) H') (sc r)) (F : (fun x => Fin K X H0 P0 (ps e) (.imm (PyData.str x)) (V.str x) H) (sc e)) : (fun x => Q (V.str x) H) (sc e) := by
  cases hm; exact kont H F
theorem x_finRS {K : PySem.W.Frag} {H0 : Hp} {P0 : List Addr} {ps : ρ → List (Addr × MO)} {sc : ρ → Str} {e r : ρ} {v : V} (hm : some e = some r) (kont : ∀ H', (fun x => Fin K X H0 P0 (ps r) (.imm (PyData.str x)) (V.str x) H') (sc r) → (fun x => Q (V.str x) H') (sc r)) (F : Fin K X H0 P0 (ps e) (.imm ((fun x => (PyData.str x)) (sc e))) v H) : Q v H := by
  cases hm
  have q := repS (x := sc e) F.res
  subst q
  exact kont H F
theorem x_finN {K : PySem.W.Frag} {H0 : Hp} {P0 : List Addr} {ps : ρ → List (Addr × MO)} {sc : ρ → Unit} {r : ρ} (e : ρ) (hm : some e = some r) (kont : ∀ H', (fun x => Fin K X H0 P0 (ps r) (.imm PyData.none) V.non H') (sc r) → (fun x => Q V.non H') (sc r)) (F : (fun x => Fin K X H0 P0 (ps e) (.imm PyData.none) V.non H) (sc e)) : (fun x => Q V.non H) (sc e) := by
  cases hm; exact kont H F
theorem x_finRN {K : PySem.W.Frag} {H0 : Hp} {P0 : List Addr} {ps : ρ → List (Addr × MO)} {sc : ρ → Unit} {e r : ρ} {v : V} (hm : some e = some r) (kont : ∀ H', (fun x => Fin K X H0 P0 (ps r) (.imm PyData.none) V.non H') (sc r) → (fun x => Q V.non H') (sc r)) (F : Fin K X H0 P0 (ps e) (.imm ((fun x => PyData.none) (sc e))) v H) : Q v H := by
  cases hm
  have q := repN (x := sc e) F.res
  subst q
  exact kont H F
theorem x_leaf {τ : Type} {C' : Cn} {G : τ → List Sl} {e s : τ} {N : L2.St → Hp → Prop} (hm : some e = some s) (hN : ∀ X' σ' H', Lo C' X' H' σ' (G s) → N σ' H') (L : Lo C' X H σ (G e)) : N σ H := by
  cases hm; exact hN _ _ _ L
theorem x_leafN {τ : Type} {C' : Cn} {G : τ → List Sl} {e : τ} {o : Lp τ ρ} {N : L2.St → Hp → Prop} (hm : some (.nxt e) = some o) (hN : ∀ s, o = .nxt s → ∀ X' σ' H', Lo C' X' H' σ' (G s) → N σ' H') (L : Lo C' X H σ (G e)) : N σ H :=
  hN e (Option.some.inj hm).symm _ _ _ L
theorem x_leafB {τ : Type} {C' : Cn} {G : τ → List Sl} {e : τ} {o : Lp τ ρ} {N : L2.St → Hp → Prop} (hm : some (.brk e) = some o) (hN : ∀ s, o = .brk s → ∀ X' σ' H', Lo C' X' H' σ' (G s) → N σ' H') (L : Lo C' X H σ (G e)) : N σ H :=
  hN e (Option.some.inj hm).symm _ _ _ L
theorem x_leafR {τ : Type} {K : PySem.W.Frag} {H0 : Hp} {P0 : List Addr} {ps : ρ → List (Addr × MO)} {rs : ρ → Rs} {e : ρ} {o : Lp τ ρ} {v : V} {N : VK} (hm : some (.ret e) = some o) (hR : ∀ r, o = .ret r → ∀ v H', Fin K X H0 P0 (ps r) (rs r) v H' → N v H') (F : Fin K X H0 P0 (ps e) (rs e) v H) : N v H :=
  hR e (Option.some.inj hm).symm _ _ F
/-- branches that come together again -/
theorem x_join {τ : Type} {c : Bool} {mA mB : Option τ} {k : τ → Option ρ} {r : ρ} {G : τ → List Sl} {t u : TS} {nx bk ct : L2.St → Hp → Prop} {rt : VK} (L : Lo C X H σ Γ) (hm : (if c = true then mA else mB).bind k = some r)
    (hA : ∀ b, mA = some b → ∀ N : L2.St → Hp → Prop, (∀ X' σ' H', Lo C X' H' σ' (G b) → N σ' H') → t ⟨N, rt, bk, ct⟩ σ H)
    (hB : ∀ b, mB = some b → ∀ N : L2.St → Hp → Prop, (∀ X' σ' H', Lo C X' H' σ' (G b) → N σ' H') → u ⟨N, rt, bk, ct⟩ σ H)
    (h : ∀ b X' σ' H', k b = some r → Lo C X' H' σ' (G b) → nx σ' H') : KIf t u ⟨nx, rt, bk, ct⟩ σ c H := by
  cases c with
  | true =>
    obtain ⟨b, e, hk⟩ := ob hm
    exact hA b e nx fun X' σ' H' L => h b X' σ' H' hk L
  | false =>
    obtain ⟨b, e, hk⟩ := ob hm
    exact hB b e nx fun X' σ' H' L => h b X' σ' H' hk L
/-- a value is given a name of its own -/
theorem x_bset {d : α → PyData} {x0 : α} {i : Nat} {v : V} {k : α → Option ρ} {r : ρ} {N : L2.St → Hp → Prop} {Γf : α → List Sl} (hm : (some x0).bind k = some r) (L : Lo C X H σ Γ) (q : Rep C.K X H (d x0) v) (hi : i < C.n) (e : ∀ x, Γ.set i (.imm (d x)) = Γf x) (h : ∀ x σ', k x = some r → Lo C X H σ' (Γf x) → N σ' H) : gName i v σ H N :=
  h x0 _ hm (by rw [← e]; exact L.set q hi)
end
open Py (enc)
/-! ### defs that raise -/
theorem fn_or {P : Program} {w : World} {K : PySem.W.Frag} {mg : Str → Option Value} {base : Heap} {k : Nat} {f : Addr} {fd : FuncData} {ps : List Str} {sp1 sp2 : Sp} (F1 : FnOk P w K mg base (L2.CX P w) k f fd ps sp1) (F2 : FnOk P w K mg base CX0 k f fd ps sp2) :
    FnOk P w K mg base (L2.CX P w) k f fd ps (fun vs H Q E => sp1 vs H Q E ∨ sp2 vs H Q E) := by
  refine ⟨fun vs H Q E h => h.elim (F1.len vs H Q E) (F2.len vs H Q E), fun A outer s H args us vs Q E hr he hb hv hs => ?_⟩
  rcases hs with h | h
  · exact F1.run A outer s H args us vs Q E hr he hb hv h
  · refine codeAny_mono (F2.run A outer s H args us vs Q E hr he hb hv h) fun r s' q => ?_
    cases r with
    | ok r => cases r <;> first | exact q | exact (show False from q).elim
    | error e => exact (show False from q).elim
theorem Lo.same0 {C : Cn} {X : Addr → Prop} {H : Hp} {σ : L2.St} {Γ : List Sl} (L : Lo C X H σ Γ) (e : C.P0 = []) : Same C.H0 H := fun a o h => L.base a o h (by rw [e]; exact fun z => nomatch z)
section
variable {C : Cn} {X : Addr → Prop} {H : Hp} {σ : L2.St} {Γ Γ' : List Sl} {Q : VK} {α β ρ : Type}
theorem x_callS {sp : Sp} {E : L2.St → XK} {t : TA} (h : t σ H fun vs H1 => sp vs H1 Q (E σ)) : tCallS sp E t σ H Q := h
theorem x_either {S1 S2 : Prop} {A B : Option ρ} {m : Option Unit} {r : ρ} (hm : (if m.isSome = true then A else B) = some r) (h1 : m = some () → A = some r → S1) (h2 : B = some r → S2) : S1 ∨ S2 := by
  cases m with
  | some u => exact .inl (h1 rfl hm)
  | none => exact .inr (h2 hm)
theorem x_catch {K : PySem.W.Frag} {c : Value} {D : Addr} {i : Nat} {ts : Addr → Value → Option Addr → TS} {Wout : WX} {nx bk ct : L2.St → Hp → Prop} {rt : VK} (he : PySem.W.exmOne K (.ref D) c = some true)
    (h : ∀ a, H a = none → ts a (.ref D) none ⟨fun σ' H' => nx (σ'.set i none) H', rt, fun σ' H' => bk (σ'.set i none) H', fun σ' H' => ct (σ'.set i none) H'⟩ (σ.set i (some (.ref a))) H) : wAs K c i ts Wout ⟨nx, rt, bk, ct⟩ (.ref D) none σ H :=
  ⟨true, he, fun _ => h, fun z => nomatch z⟩
theorem x_catch0 {K : PySem.W.Frag} {c : Value} {D : Addr} {ts : Addr → Value → Option Addr → TS} {Wout : WX} {Ds : Ends} (he : PySem.W.exmOne K (.ref D) c = some true)
    (h : ∀ a, H a = none → ts a (.ref D) none Ds σ H) : wOnly K c ts Wout Ds (.ref D) none σ H :=
  ⟨true, he, fun _ => h, fun z => nomatch z⟩
theorem x_vr {i : Nat} {a : Addr} (L : Lo C X H σ Γ) (e : Γ[i]? = some (.ref a)) (h : Q (.ref a) H) : tVar i σ H Q := ⟨_, L.at_ i _ e, h⟩
/-- isinstance of the error that is handled -/
def rIsG (K : PySem.W.Frag) (cls : Value) (d : Option Addr) (a : Addr) : List V → Hp → VK → Prop := fun xs H Q => ∃ (D : Addr) (c : V) (cv : Value) (b : Bool), cls = .ref D ∧ d = none ∧ ExcC K D ∧ xs = [.ref a, c] ∧ (∀ u, RelV c u → u = cv) ∧ PySem.W.kitOne K (.ref D) cv = some b ∧ Q (.bl b) H
theorem call_isG {Xc : Cx} {a : Addr} {oe : Obj} {pn : List (Addr × Obj)} {cls : Value} {d : Option Addr} (hz : Zc cls d oe) (hf : ∃ vs, oe.data = .fields vs) : CallR (Xc.suite a ((a, oe) :: pn)) (.builtin "isinstance") (rIsG Xc.K cls d a) := by
  intro pins s σ H xs us Q I r h
  obtain ⟨D, c, cv, b, rfl, rfl, E, rfl, hc, k, q⟩ := h
  exact call_isE E hz hf pins s σ H _ us Q I r ⟨c, cv, b, rfl, hc, k, q⟩
def rIsGT (K : PySem.W.Frag) (cls : Value) (d : Option Addr) (a : Addr) : List V → Hp → VK → Prop := fun xs H Q => ∃ (D tp : Addr) (cs : List V) (ws : List Value) (b : Bool), cls = .ref D ∧ d = none ∧ ExcC K D ∧ xs = [.ref a, .ref tp] ∧ H tp = some (.tup cs) ∧ Paired ClsV cs ws ∧ PySem.W.kitAny K (.ref D) ws = some b ∧ Q (.bl b) H
theorem call_isGT {Xc : Cx} {a : Addr} {oe : Obj} {pn : List (Addr × Obj)} {cls : Value} {d : Option Addr} (hz : Zc cls d oe) (hf : ∃ vs, oe.data = .fields vs) : CallR (Xc.suite a ((a, oe) :: pn)) (.builtin "isinstance") (rIsGT Xc.K cls d a) := by
  intro pins s σ H xs us Q I r h
  obtain ⟨D, tp, cs, ws, b, rfl, rfl, Ex, rfl, hT, k, e, q⟩ := h
  cases r with
  | cons rx rr =>
    cases rr with
    | cons rt rr =>
      cases rr
      cases rx
      rename_i u2
      cases (show u2 = Value.ref tp from rt)
      obtain ⟨hget, _⟩ := I.pin (a, oe) (List.mem_append.mpr (.inl List.mem_cons_self))
      obtain ⟨vs, hv⟩ := hf
      have J : PySem.W.InstAt s.heap a oe D none := by
        obtain ⟨oc, od, oda, osl⟩ := oe
        obtain ⟨h1, h2⟩ := hz
        dsimp only at h1 h2 hv
        subst h1 h2 hv
        exact ⟨hget, rfl, rfl, trivial⟩
      obtain ⟨_, its, rv, o, h1, h2, n, h3⟩ := (show ObjOk _ _ H s.heap tp (.tup cs) from I.hok tp _ hT)
      have e3 := ClsV.all k rv
      subst e3
      obtain ⟨oc, od, dt, sl⟩ := o
      simp only at h2 h3
      subst h2 h3
      exact PySem.W.kia_tup (PySem.W.handS_kitx_exc Ex.hg Ex.hk Ex.hs Ex.hd Ex.ha Ex.hn Ex.ht Ex.hm) I.kIn J h1 e (fun z => nomatch z) fun tk => ⟨.bl b, H, I.kept (t' := tk) fun _ _ z => z, rfl, q⟩
theorem x_isG {K : PySem.W.Frag} {D a C2 : Addr} {b : Bool} (E : ExcC K D) (k : PySem.W.kitOne K (.ref D) (.ref C2) = some b) (h : Q (.bl b) H) : rIsG K (.ref D) none a [.ref a, .ref C2] H Q :=
  ⟨D, _, _, b, rfl, rfl, E, rfl, fun _ r => r, k, h⟩
theorem x_isGB {K : PySem.W.Frag} {D a : Addr} {T : String} {b : Bool} (E : ExcC K D) (k : PySem.W.kitOne K (.ref D) (.type T) = some b) (h : Q (.bl b) H) : rIsG K (.ref D) none a [.ref a, .ty T] H Q :=
  ⟨D, _, _, b, rfl, rfl, E, rfl, fun _ r => r, k, h⟩
theorem x_isGT {K : PySem.W.Frag} {D a tp : Addr} {cs : List V} {ws : List Value} {b : Bool} (E : ExcC K D) (hT : H tp = some (.tup cs)) (p : Paired ClsV cs ws) (k : PySem.W.kitAny K (.ref D) ws = some b) (h : Q (.bl b) H) : rIsGT K (.ref D) none a [.ref a, .ref tp] H Q :=
  ⟨D, tp, cs, ws, b, rfl, rfl, E, rfl, hT, p, k, h⟩
theorem kit_self {K : PySem.W.Frag} {D : Addr} : PySem.W.kitOne K (.ref D) (.ref D) = some true := by
  unfold PySem.W.kitOne
  rw [if_pos (beq_iff_eq.mpr rfl)]
theorem kit_ref {K : PySem.W.Frag} {D E : Addr} {b : Bool} (hne : (Value.ref D == Value.ref E) = false) (hd : PySem.W.hasDictIn K E = true) (ht : PySem.W.typeIn K (.ref E) = some (.type "type")) (hs : PySem.W.subIn K (.ref D) (.ref E) = some b) : PySem.W.kitOne K (.ref D) (.ref E) = some b := by
  obtain ⟨cd, hc, _⟩ := PySem.W.any_some hd
  have e2 : ((PySem.W.clsIn K E).isSome && PySem.W.typeIn K (.ref E) == some (.type "type")) = true := by rw [hc, ht] <;> rfl
  unfold PySem.W.kitOne
  rw [if_neg (by rw [hne]; exact Bool.false_ne_true)]
  show (if ((PySem.W.clsIn K E).isSome && PySem.W.typeIn K (.ref E) == some (.type "type")) = true then PySem.W.subIn K (.ref D) (.ref E) else none) = some b
  rw [if_pos e2]; exact hs
theorem kit_typ {K : PySem.W.Frag} {D : Addr} {T : String} {b : Bool} (hk : PySem.W.kitMeta T = true) (hs : PySem.W.subIn K (.ref D) (.type T) = some b) : PySem.W.kitOne K (.ref D) (.type T) = some b := by
  unfold PySem.W.kitOne
  rw [if_neg (by intro z; cases (beq_iff_eq.mp z))]
  show (if PySem.W.kitMeta T = true then PySem.W.subIn K (.ref D) (.type T) else none) = some b
  rw [if_pos hk]; exact hs
/-- a tuple of classes -/
theorem x_mkC {vs : List V} (L : Lo C X H σ Γ) (hl : vs.length ≤ 16777216) (h : ∀ p H1, Lo C X H1 σ Γ → H1 p = some (.tup vs) → Q (.ref p) H1) : KTup Q vs H := by
  refine ⟨by rw [line_eq]; exact hl, fun p hp => ?_⟩
  exact h p _ (L.same (same_upd hp)) upd_same
end
open Py (enc)
/-! ### tuples of ints: sets, order -/
class IT (α : Type) [Py α] where
  nums : α → List Int
  enc_eq : ∀ x, enc x = .tuple ((nums x).map .int)
  inj : ∀ x y, nums x = nums y → x = y
instance : IT (T2 Int Int) := ⟨fun x => [x.a, x.b], fun _ => rfl, fun x y h => by cases x; cases y; simp_all⟩
instance : IT (T3 Int Int Int) := ⟨fun x => [x.a, x.b, x.c], fun _ => rfl, fun x y h => by cases x; cases y; simp_all⟩
section
variable {K : PySem.W.Frag} {X : Addr → Prop} {H : Hp} {α : Type}
theorem rep_it [Py α] [IT α] {x : α} {v : V} (r : Rep K X H (enc x) v) : ∃ a, v = .ref a ∧ SqT K H a ((IT.nums x).map V.int) := by
  rw [IT.enc_eq] at r
  obtain ⟨a, vs, rfl, hs, q⟩ := rep_tup r
  rw [Reps.toInts q] at hs
  exact ⟨a, rfl, hs⟩
theorem reps_it [Py α] [IT α] : ∀ {xs : List α} {vs : List V}, Reps K X H (xs.map enc) vs → ∃ ks : List (Addr × List Int), vs = ks.map (fun p => V.ref p.1) ∧ ks.map (·.2) = xs.map IT.nums ∧ ∀ p ∈ ks, SqT K H p.1 (p.2.map V.int)
  | [], _, .nil => ⟨[], rfl, rfl, fun _ h => nomatch h⟩
  | x :: xs, _, .cons r t => by
    obtain ⟨a, rfl, hs⟩ := rep_it r
    obtain ⟨ks, rfl, h2, h3⟩ := reps_it t
    refine ⟨(a, IT.nums x) :: ks, rfl, by rw [List.map_cons, List.map_cons, h2], fun p hp => ?_⟩
    rcases List.mem_cons.mp hp with e | hp
    · subst e; exact hs
    · exact h3 p hp
end
/-- the distinct ones -/
def dset {α : Type} [DecidableEq α] : List α → List α
  | [] => []
  | x :: xs => if x ∈ dset xs then dset xs else x :: dset xs
theorem mem_dset {α : Type} [DecidableEq α] {x : α} : ∀ {xs : List α}, x ∈ dset xs ↔ x ∈ xs
  | [] => Iff.rfl
  | y :: xs => by
    unfold dset
    by_cases h : y ∈ dset xs
    · rw [if_pos h, List.mem_cons, mem_dset]
      exact ⟨.inr, fun z => z.elim (fun e => e ▸ mem_dset.mp h) id⟩
    · rw [if_neg h, List.mem_cons, List.mem_cons, mem_dset]
theorem nodup_dset {α : Type} [DecidableEq α] : ∀ {xs : List α}, (dset xs).Nodup
  | [] => List.nodup_nil
  | y :: xs => by
    unfold dset
    by_cases h : y ∈ dset xs
    · rw [if_pos h]; exact nodup_dset
    · rw [if_neg h]; exact List.nodup_cons.mpr ⟨h, nodup_dset⟩
theorem nodup_le {α : Type} [DecidableEq α] : ∀ {l m : List α}, l.Nodup → (∀ x ∈ l, x ∈ m) → l.length ≤ m.length
  | [], _, _, _ => Nat.zero_le _
  | x :: l, m, h, s => by
    obtain ⟨h1, h2⟩ := List.nodup_cons.mp h
    have hx := s x List.mem_cons_self
    have := nodup_le (l := l) (m := m.erase x) h2 fun y hy => (List.mem_erase_of_ne (fun e => by subst e; exact h1 hy)).mpr (s y (List.mem_cons_of_mem _ hy))
    rw [List.length_erase_of_mem hx] at this
    have hp := List.length_pos_of_mem hx
    rw [List.length_cons]; omega
theorem dset_map {α β : Type} [DecidableEq α] [DecidableEq β] {f : α → β} (hf : ∀ x y, f x = f y → x = y) : ∀ {xs : List α}, (dset (xs.map f)).length = (dset xs).length
  | [] => rfl
  | y :: xs => by
    rw [List.map_cons]
    unfold dset
    have e : f y ∈ dset (xs.map f) ↔ y ∈ dset xs := by
      rw [mem_dset, mem_dset, List.mem_map]
      exact ⟨fun ⟨z, h1, h2⟩ => hf _ _ h2 ▸ h1, fun h => ⟨y, h, rfl⟩⟩
    by_cases h : y ∈ dset xs
    · rw [if_pos h, if_pos (e.mpr h), dset_map hf]
    · rw [if_neg h, if_neg (fun z => h (e.mp z)), List.length_cons, List.length_cons, dset_map hf]
section
variable {X : Cx}
def tLenSetT (K : PySem.W.Frag) (ta : TE) : TE := fun σ H Q => ta σ H fun x H1 => ∃ (l : Addr) (ks : List (Addr × List Int)), x = V.ref l ∧ SqL K H1 l (ks.map fun p => V.ref p.1) ∧ (∀ p ∈ ks, SqT K H1 p.1 (p.2.map V.int)) ∧ ks.length < 64 ∧ Q (.int (dset (ks.map (·.2))).length) H1
theorem pe_lenSetT {a : Expr} {ta : TE} {p p2 q pos : Pos} (hc : X.calm = true) (hu : X.A.units + 64 < cLine) (hg : Gl X "len") (hm : X.mg "len" = none) (hg2 : Gl X "set") (hm2 : X.mg "set" = none) (ha : PE X a ta)
    (na : starEach [a] X.env = (false, eval a X.env) :: starEach [] X.env := by rfl) : PE X (.Call (.Name "len" p) [.Call (.Name "set" p2) [a] [] q] [] pos) (tLenSetT X.K ta) := by
  refine ⟨fun pins s σ H Q I h => ?_⟩
  refine Call_ (ld_blt I hg hm PySem.boot_len ?_)
  refine PyProof.Rows.callWith_builtin1 (PyProof.Rows.args_cons ?_ rfl) rfl rfl
  refine Call_ (ld_blt I hg2 hm2 PyProof.Rows.boot_set ?_)
  refine PyProof.Rows.callWith_type1 (PyProof.Rows.args_cons (thn (ha.run pins s σ H _ I h) fun v s1 ⟨x, H1, I1, r1, q1⟩ => PyProof.Rows.args_nil ?_) na) na rfl
  obtain ⟨l, ks, rfl, hq, hk, hf, q1⟩ := q1
  cases r1
  obtain ⟨its, rv, pl, hz⟩ := I1.list hq
  refine call_set_tups (P := X.prog) (w := X.w) ks (I1.ok.hd hc) pl.isList (by simpa using refs_of_vals rv) (fun p hp => I1.isT (hk p hp)) hf (by omega) fun h' tk L es ep t R g k => ?_
  refine PyProof.Rows.args_nil ?_
  obtain ⟨o, ho, hex, hd⟩ := R.ob
  have e1 : es.size = L.length := by
    have := congrArg List.length R.rows
    rw [Array.length_toList] at this
    rw [this]
    unfold rowsOf
    first | rw [List.length_map] | simp
  have hn : L.length = (dset (ks.map (·.2))).length := by
    refine Nat.le_antisymm ?_ ?_
    · have := nodup_le (m := dset (ks.map (·.2))) R.nd fun x hx => by
        obtain ⟨p, hp, e⟩ := List.mem_map.mp hx
        subst e
        exact mem_dset.mpr (List.mem_map.mpr ⟨p, List.mem_of_mem_take (g.sub p hp), rfl⟩)
      rwa [List.length_map] at this
    · have := nodup_le (m := L.map (·.2)) (nodup_dset (xs := ks.map (·.2))) fun x hx => by
        obtain ⟨p, hp, e⟩ := List.mem_map.mp (mem_dset.mp hx)
        subst e
        exact g.all p (by rw [List.take_length]; exact hp)
      rwa [List.length_map] at this
  have I2 : Inv X pins σ H1 { s1 with heap := h', toks := tk } := I1.kept fun b o e => k b o e
  have hf := R.few
  refine call_len_set ho hex hd (SetTR.fits (s := { s1 with heap := h', toks := tk }) R) (by rw [e1] <;> omega) ⟨.int (dset (ks.map (·.2))).length, H1, I2.tok _, ⟨_, by rw [e1, hn]⟩, q1⟩
end
def fewOk (n : Nat) : Option Unit := if n < 64 then some () else none
section
variable {C : Cn} {X : Addr → Prop} {H : Hp} {σ : L2.St} {Γ Γ' : List Sl} {Q : VK} {α β ρ : Type}
def KSet (K : PySem.W.Frag) (Q : VK) : VK := fun x H1 => ∃ (l : Addr) (ks : List (Addr × List Int)), x = V.ref l ∧ SqL K H1 l (ks.map fun p => V.ref p.1) ∧ (∀ p ∈ ks, SqT K H1 p.1 (p.2.map V.int)) ∧ ks.length < 64 ∧ Q (.int (dset (ks.map (·.2))).length) H1
theorem x_lenSet {K : PySem.W.Frag} {ta : TE} (h : ta σ H (KSet K Q)) : tLenSetT K ta σ H Q := h
theorem x_kset [Py α] [IT α] [DecidableEq α] {xs : List α} {v : V} {k : Unit → Option ρ} {r : ρ} (hm : (fewOk xs.length).bind k = some r) (q : Rep C.K X H (enc xs) v) (h : k () = some r → Q (.int (dset xs).length) H) : KSet C.K Q v H := by
  obtain ⟨_, e, hk⟩ := ob hm
  have h64 : xs.length < 64 := by
    unfold fewOk at e
    split at e
    · assumption
    · cases e
  obtain ⟨a, vs, rfl, _, hs, q⟩ := rep_lst (ds := xs.map enc) q
  obtain ⟨ks, rfl, h2, h3⟩ := reps_it q
  have hl : ks.length = xs.length := by
    have := congrArg List.length h2
    rwa [List.length_map, List.length_map] at this
  refine ⟨a, ks, rfl, .inl hs, h3, by rw [hl]; exact h64, ?_⟩
  rw [h2, dset_map IT.inj]
  exact h hk
/-! order of pairs -/
def ltP (p q : T2 Int Int) : Bool := decide (p.a < q.a) || (decide (p.a = q.a) && decide (p.b < q.b))
def leP (p q : T2 Int Int) : Bool := decide (p.a < q.a) || (decide (p.a = q.a) && decide (p.b ≤ q.b))
def maxP (p q : T2 Int Int) : T2 Int Int := if ltP p q = true then q else p
def minP (p q : T2 Int Int) : T2 Int Int := if ltP q p = true then q else p
theorem lexAt_le {a b c d : Int} : Ob.lexAt (fun j => decide ([a, b].getD j 0 = [c, d].getD j 0)) (fun j => decide ([a, b].getD j 0 ≤ [c, d].getD j 0)) (decide (([a, b] : List Int).length ≤ ([c, d] : List Int).length)) 0 (min ([a, b] : List Int).length ([c, d] : List Int).length) = leP ⟨a, b⟩ ⟨c, d⟩ := by
  show Ob.lexAt _ _ _ 0 2 = _
  rw [Ob.lexAt_succ, Ob.lexAt_succ, Ob.lexAt_zero]
  unfold leP
  simp only [List.getD_eq_getElem?_getD, List.getElem?_cons_zero, List.getElem?_cons_succ, Option.getD_some, decide_eq_true_eq, List.length_cons, List.length_nil]
  rcases Int.lt_trichotomy a c with z | z | z
  · have z1 : ¬ a = c := by omega
    have z2 : a ≤ c := by omega
    simp [z, z1, z2]
  · subst z
    by_cases y : b = d
    · subst y; simp
    · simp [y]
  · have z1 : ¬ a = c := by omega
    have z2 : ¬ a ≤ c := by omega
    have z3 : ¬ a < c := by omega
    simp [z1, z2, z3]
def rLeP (K : PySem.W.Frag) : R2 := rLeT K
theorem op_leP {Xc : Cx} (hu : Xc.A.units < cLine) : OpR Xc (compareOp .LtE) (rLeP Xc.K) := op_leT hu
theorem x_leP {p q : T2 Int Int} {u v : V} (r : Rep C.K X H (enc p) u) (s : Rep C.K X H (enc q) v) (h : Q (.bl (leP p q)) H) : rLeP C.K u v H Q := by
  obtain ⟨a, rfl, ha⟩ := rep_it r
  obtain ⟨b, rfl, hb⟩ := rep_it s
  refine ⟨a, b, [p.a, p.b], [q.a, q.b], rfl, rfl, ha, hb, ?_⟩
  rw [lexAt_le]
  exact h
end
/-! max, min of two pairs -/
section
variable {prog : Program} {w : World} {A : Around} {E : Value → Shared → Prop} {s : Shared}
open PySem.W in
theorem call_max_twoH {a b : Value} {Q : Value → Shared → Prop} (hh : A.handled = none) (bt : Nat → Nat → Bool)
    (hc : CmpIn prog w A.in1 .Gt s.heap (fun i v => #[a, b][i]? = some v) bt)
    (h : ∀ h' tk, (∀ c o, s.heap.get? c = some o → h'.get? c = some o) → Q (if bt 1 0 = true then b else a) { s with heap := h', toks := tk }) :
    wpAny (model prog w) A (call (.builtin "max") [a, b]) Q E s := by
  have hname : (toString "max" ++ toString ".loop" : String) = "max.loop" := by decide
  refine call_function_tree F.kind_max F.plain_max F.entry_max (F.args_max2 _ _) ?_
  show wpAny _ A.in1 (Builtin.Builtins.bindParams "max" ["key", "default"] 0 ⟨[], []⟩ >>= _) _ _ s
  refine wpAny_bind (wpAny_of_eq (show Builtin.Builtins.bindParams "max" ["key", "default"] 0 ⟨[], []⟩ = pure [none, none] from rfl) ?_)
  show wpAny _ A.in1 (newTuple [a, b] >>= _) _ _ s
  refine wpAny_bind (wpAny_newObj_type ?_)
  have hT : (s.heap.push { cls := .type "tuple", data := .seq #[a, b] }).IsTuple s.heap.objs.size #[a, b] := ⟨_, Heap.get?_push_size _ rfl, rfl, 0, rfl⟩
  refine wpAny_bind (iter_tupleW (s := { s with heap := s.heap.push { cls := .type "tuple", data := .seq #[a, b] } }) (by exact hh) hT fun s₂ e W st hfp hwr hold => ?_)
  refine wpAny_bind (wpAny_newObj_type ?_)
  have hSf : s₂.heap.objs.size ∉ _ := fun hm => Nat.lt_irrefl _ (hfp _ hm)
  rw [hname]
  have k0 : ∀ c o, s.heap.get? c = some o → s₂.heap.get? c = some o := fun c o e => hold c o (Heap.get?_push_of_some _ e)
  refine wpAny_pure ⟨plainId_quiet F.plain_max_loop _, codeAny_max_loop_firstH W s.heap (fun c o e => hwr c o (Heap.get?_push_of_some _ e)) bt hc s₂.heap.objs.size hSf (fresh_in k0) [] (show 0 < 2 by decide) (fun c o e => Heap.get?_push_of_some _ (k0 c o e)) (W.frame _ _ _ _ st (Nat.le_refl _) fun c _ o e => Heap.get?_push_of_some _ e) (Heap.get?_push_size _ rfl) fun v s' hP hm => ?_⟩
  have m := Moved.drop_new (tk := s₂.toks) hm (Nat.le_refl _)
  obtain ⟨h', tk, e', hk'⟩ := moved_old e rfl m
  subst e'
  have hv : v = if bt 1 0 = true then b else a := by
    have hP' : #[a, b][argBest bt 1]? = some v := hP
    have e1 : argBest bt 1 = if bt 1 0 = true then 1 else 0 := rfl
    rw [e1] at hP'
    by_cases z : bt 1 0 = true
    · rw [if_pos z] at hP' ⊢; simpa using hP'.symm
    · rw [if_neg z] at hP' ⊢; simpa using hP'.symm
  rw [hv]
  exact h h' tk fun c o e => hk' c o (Heap.get?_push_of_some _ e)
open PySem.W in
theorem call_min_twoH {a b : Value} {Q : Value → Shared → Prop} (hh : A.handled = none) (bt : Nat → Nat → Bool)
    (hc : CmpIn prog w A.in1 .Lt s.heap (fun i v => #[a, b][i]? = some v) bt)
    (h : ∀ h' tk, (∀ c o, s.heap.get? c = some o → h'.get? c = some o) → Q (if bt 1 0 = true then b else a) { s with heap := h', toks := tk }) :
    wpAny (model prog w) A (call (.builtin "min") [a, b]) Q E s := by
  have hname : (toString "min" ++ toString ".loop" : String) = "min.loop" := by decide
  refine call_function_tree F.kind_min F.plain_min F.entry_min (F.args_min2 _ _) ?_
  show wpAny _ A.in1 (Builtin.Builtins.bindParams "min" ["key", "default"] 0 ⟨[], []⟩ >>= _) _ _ s
  refine wpAny_bind (wpAny_of_eq (show Builtin.Builtins.bindParams "min" ["key", "default"] 0 ⟨[], []⟩ = pure [none, none] from rfl) ?_)
  show wpAny _ A.in1 (newTuple [a, b] >>= _) _ _ s
  refine wpAny_bind (wpAny_newObj_type ?_)
  have hT : (s.heap.push { cls := .type "tuple", data := .seq #[a, b] }).IsTuple s.heap.objs.size #[a, b] := ⟨_, Heap.get?_push_size _ rfl, rfl, 0, rfl⟩
  refine wpAny_bind (iter_tupleW (s := { s with heap := s.heap.push { cls := .type "tuple", data := .seq #[a, b] } }) (by exact hh) hT fun s₂ e W st hfp hwr hold => ?_)
  refine wpAny_bind (wpAny_newObj_type ?_)
  have hSf : s₂.heap.objs.size ∉ _ := fun hm => Nat.lt_irrefl _ (hfp _ hm)
  rw [hname]
  have k0 : ∀ c o, s.heap.get? c = some o → s₂.heap.get? c = some o := fun c o e => hold c o (Heap.get?_push_of_some _ e)
  refine wpAny_pure ⟨plainId_quiet F.plain_min_loop _, codeAny_min_loop_firstH W s.heap (fun c o e => hwr c o (Heap.get?_push_of_some _ e)) bt hc s₂.heap.objs.size hSf (fresh_in k0) [] (show 0 < 2 by decide) (fun c o e => Heap.get?_push_of_some _ (k0 c o e)) (W.frame _ _ _ _ st (Nat.le_refl _) fun c _ o e => Heap.get?_push_of_some _ e) (Heap.get?_push_size _ rfl) fun v s' hP hm => ?_⟩
  have m := Moved.drop_new (tk := s₂.toks) hm (Nat.le_refl _)
  obtain ⟨h', tk, e', hk'⟩ := moved_old e rfl m
  subst e'
  have hv : v = if bt 1 0 = true then b else a := by
    have hP' : #[a, b][argBest bt 1]? = some v := hP
    have e1 : argBest bt 1 = if bt 1 0 = true then 1 else 0 := rfl
    rw [e1] at hP'
    by_cases z : bt 1 0 = true
    · rw [if_pos z] at hP' ⊢; simpa using hP'.symm
    · rw [if_neg z] at hP' ⊢; simpa using hP'.symm
  rw [hv]
  exact h h' tk fun c o e => hk' c o (Heap.get?_push_of_some _ e)
end
theorem lexAt_lt {a b c d : Int} : Ob.lexAt (fun j => decide ([a, b].getD j 0 = [c, d].getD j 0)) (fun j => decide ([a, b].getD j 0 < [c, d].getD j 0)) (decide (2 < 2)) 0 (min 2 2) = ltP ⟨a, b⟩ ⟨c, d⟩ := by
  show Ob.lexAt _ _ _ 0 2 = _
  rw [Ob.lexAt_succ, Ob.lexAt_succ, Ob.lexAt_zero]
  unfold ltP
  simp only [List.getD_eq_getElem?_getD, List.getElem?_cons_zero, List.getElem?_cons_succ, Option.getD_some, decide_eq_true_eq]
  rcases Int.lt_trichotomy a c with z | z | z
  · have z1 : ¬ a = c := by omega
    simp [z, z1]
  · subst z
    by_cases y : b = d
    · subst y; simp
    · simp [y]
  · have z1 : ¬ a = c := by omega
    have z3 : ¬ a < c := by omega
    simp [z1, z3]
theorem lexAt_gt {a b c d : Int} : Ob.lexAt (fun j => decide ([a, b].getD j 0 = [c, d].getD j 0)) (fun j => decide ([c, d].getD j 0 < [a, b].getD j 0)) (decide (2 < 2)) 0 (min 2 2) = ltP ⟨c, d⟩ ⟨a, b⟩ := by
  show Ob.lexAt _ _ _ 0 2 = _
  rw [Ob.lexAt_succ, Ob.lexAt_succ, Ob.lexAt_zero]
  unfold ltP
  simp only [List.getD_eq_getElem?_getD, List.getElem?_cons_zero, List.getElem?_cons_succ, Option.getD_some, decide_eq_true_eq]
  rcases Int.lt_trichotomy c a with z | z | z
  · have z1 : ¬ a = c := by omega
    have z2 : ¬ c = a := by omega
    simp [z, z1]
  · subst z
    by_cases y : b = d
    · subst y; simp
    · have : ¬ d = b := fun e => y e.symm
      simp [y]
  · have z1 : ¬ a = c := by omega
    have z2 : ¬ c = a := by omega
    have z3 : ¬ c < a := by omega
    simp [z1, z2, z3]
section
variable {Xc : Cx}
open PySem.W in
theorem cmp_pair {A : Around} {s : Shared} {l1 l2 : Addr} {i1 i2 : List Value} {p q : T2 Int Int} (hu : A.units < cLine) (h1 : s.heap.IsTuple l1 i1.toArray) (h2 : s.heap.IsTuple l2 i2.toArray) (n1 : IntsAre i1 [p.a, p.b]) (n2 : IntsAre i2 [q.a, q.b]) :
    Ob.RcOp .Lt A s (.ref l1) (.ref l2) (ltP p q) ∧ Ob.RcOp .Gt A s (.ref l1) (.ref l2) (ltP q p) := by
  have at1 : ∀ j (h1 : j < i1.toArray.size), ∃ t, i1.toArray[j] = .int ([p.a, p.b].getD j 0) t := fun j h1 => PyProof.Rows.IntsAre.int_at n1 _ _ (by simp at h1; simp [h1])
  have at2 : ∀ j (h1 : j < i2.toArray.size), ∃ t, i2.toArray[j] = .int ([q.a, q.b].getD j 0) t := fun j h1 => PyProof.Rows.IntsAre.int_at n2 _ _ (by simp at h1; simp [h1])
  have e1 : i1.toArray.size = 2 := by rw [List.size_toArray]; exact n1.length
  have e2 : i2.toArray.size = 2 := by rw [List.size_toArray]; exact n2.length
  have he : ∀ j (h1 : j < i1.toArray.size) (h2 : j < i2.toArray.size), SeqAt.EqAt A.in1 s i1.toArray[j] i2.toArray[j] (decide ([p.a, p.b].getD j 0 = [q.a, q.b].getD j 0)) := fun j h1 h2 => by
    obtain ⟨t, et⟩ := at1 j h1
    obtain ⟨t', et'⟩ := at2 j h2
    rw [et, et']
    have z : ([p.a, p.b].getD j 0 == [q.a, q.b].getD j 0) = decide ([p.a, p.b].getD j 0 = [q.a, q.b].getD j 0) := by
      by_cases y : [p.a, p.b].getD j 0 = [q.a, q.b].getD j 0
      · rw [decide_eq_true y]; exact beq_iff_eq.mpr y
      · rw [decide_eq_false y]; exact beq_eq_false_iff_ne.mpr y
    rw [← z]
    exact SeqAt.EqAt.int_int _ _ _ _
  have R1 := Ob.RcOp.tuples_lt (r := fun j => decide ([p.a, p.b].getD j 0 < [q.a, q.b].getD j 0)) h1 h2 hu he fun j h1 h2 _ => by
    obtain ⟨t, et⟩ := at1 j h1
    obtain ⟨t', et'⟩ := at2 j h2
    rw [et, et']
    exact Ob.RcOp.lt_int _ _ _ _
  have R2 := Ob.RcOp.tuples_gt (r := fun j => decide ([q.a, q.b].getD j 0 < [p.a, p.b].getD j 0)) h1 h2 hu he fun j h1 h2 _ => by
    obtain ⟨t, et⟩ := at1 j h1
    obtain ⟨t', et'⟩ := at2 j h2
    rw [et, et']
    exact Ob.RcOp.gt_int _ _ _ _
  rw [e1, e2] at R1 R2
  rw [lexAt_lt] at R1
  rw [show decide (2 > 2) = decide (2 < 2) from rfl, lexAt_gt] at R2
  exact ⟨R1, R2⟩
def rMaxP (K : PySem.W.Frag) : List V → Hp → VK → Prop := fun xs H Q => ∃ (a b : Addr) (p q : T2 Int Int), xs = [.ref a, .ref b] ∧ SqT K H a [.int p.a, .int p.b] ∧ SqT K H b [.int q.a, .int q.b] ∧ Q (if ltP p q = true then .ref b else .ref a) H
open PySem.W in
theorem call_maxP (hu : Xc.A.units + 64 < cLine) (hc : Xc.calm = true) : CallR Xc (.builtin "max") (rMaxP Xc.K) := by
  intro pins s σ H xs us Q I r h
  obtain ⟨a, b, p, q, rfl, ha, hb, k⟩ := h
  obtain ⟨u, w', rfl, e1, e2⟩ := vals2 r
  cases (show u = Value.ref a from e1)
  cases (show w' = Value.ref b from e2)
  obtain ⟨i1, r1, t1, _⟩ := I.tuple ha
  obtain ⟨i2, r2, t2, _⟩ := I.tuple hb
  have n1 : IntsAre i1 [p.a, p.b] := Vals.ints (ns := [p.a, p.b]) r1
  have n2 : IntsAre i2 [q.a, q.b] := Vals.ints (ns := [q.a, q.b]) r2
  have up : ∀ {s' : Shared} {l : Addr} {its : Array Value}, (∀ c o, s.heap.get? c = some o → s'.heap.get? c = some o) → s.heap.IsTuple l its → s'.heap.IsTuple l its := fun hk ⟨o, ho, hc, n, hd⟩ => ⟨o, hk _ _ ho, hc, n, hd⟩
  have hu1 : (Xc.A.in1).units < cLine := by show Xc.A.units + 1 < cLine; omega
  refine call_max_twoH (I.ok.hd hc) (fun i j => if i = j then false else if i = 1 then ltP p q else ltP q p) (fun i j vi vj s' Q E hk hi hj hq => ?_) fun h' tk k' => ⟨_, H, I.kept k', ?_, k⟩
  · have at2 : ∀ {i v}, #[Value.ref a, Value.ref b][i]? = some v → (i = 0 ∧ v = .ref a) ∨ (i = 1 ∧ v = .ref b) := fun {i v} h => by
      match i with
      | 0 => exact .inl ⟨rfl, by simpa using h.symm⟩
      | 1 => exact .inr ⟨rfl, by simpa using h.symm⟩
      | n + 2 => simp at h
    have self : ∀ (x : T2 Int Int), ltP x x = false := fun x => by simp [ltP]
    rcases at2 hi with ⟨rfl, rfl⟩ | ⟨rfl, rfl⟩ <;> rcases at2 hj with ⟨rfl, rfl⟩ | ⟨rfl, rfl⟩
    · have := (cmp_pair (s := s') hu1 (up hk t1) (up hk t1) n1 n1).2
      rw [self] at this
      exact this Xc.prog Xc.w E Q hq
    · exact (cmp_pair (s := s') hu1 (up hk t1) (up hk t2) n1 n2).2 Xc.prog Xc.w E Q hq
    · exact (cmp_pair (s := s') hu1 (up hk t2) (up hk t1) n2 n1).2 Xc.prog Xc.w E Q hq
    · have := (cmp_pair (s := s') hu1 (up hk t2) (up hk t2) n2 n2).2
      rw [self] at this
      exact this Xc.prog Xc.w E Q hq
  · show RelV _ (if ltP p q = true then Value.ref b else Value.ref a)
    split <;> rfl
theorem x_maxP {C : Cn} {X : Addr → Prop} {H : Hp} {Q : VK} {p q : T2 Int Int} {u v : V} (r : Rep C.K X H (enc p) u) (t : Rep C.K X H (enc q) v) (h : ∀ w, Rep C.K X H (enc (maxP p q)) w → Q w H) : rMaxP C.K [u, v] H Q := by
  obtain ⟨a, ea, ha⟩ := rep_it r
  obtain ⟨b, eb, hb⟩ := rep_it t
  subst ea eb
  refine ⟨a, b, p, q, rfl, ha, hb, h _ ?_⟩
  unfold maxP
  by_cases z : ltP p q = true
  · rw [if_pos z, if_pos z]; exact t
  · rw [if_neg z, if_neg z]; exact r
def rMinP (K : PySem.W.Frag) : List V → Hp → VK → Prop := fun xs H Q => ∃ (a b : Addr) (p q : T2 Int Int), xs = [.ref a, .ref b] ∧ SqT K H a [.int p.a, .int p.b] ∧ SqT K H b [.int q.a, .int q.b] ∧ Q (if ltP q p = true then .ref b else .ref a) H
open PySem.W in
theorem call_minP (hu : Xc.A.units + 64 < cLine) (hc : Xc.calm = true) : CallR Xc (.builtin "min") (rMinP Xc.K) := by
  intro pins s σ H xs us Q I r h
  obtain ⟨a, b, p, q, rfl, ha, hb, k⟩ := h
  obtain ⟨u, w', rfl, e1, e2⟩ := vals2 r
  cases (show u = Value.ref a from e1)
  cases (show w' = Value.ref b from e2)
  obtain ⟨i1, r1, t1, _⟩ := I.tuple ha
  obtain ⟨i2, r2, t2, _⟩ := I.tuple hb
  have n1 : IntsAre i1 [p.a, p.b] := Vals.ints (ns := [p.a, p.b]) r1
  have n2 : IntsAre i2 [q.a, q.b] := Vals.ints (ns := [q.a, q.b]) r2
  have up : ∀ {s' : Shared} {l : Addr} {its : Array Value}, (∀ c o, s.heap.get? c = some o → s'.heap.get? c = some o) → s.heap.IsTuple l its → s'.heap.IsTuple l its := fun hk ⟨o, ho, hc, n, hd⟩ => ⟨o, hk _ _ ho, hc, n, hd⟩
  have hu1 : (Xc.A.in1).units < cLine := by show Xc.A.units + 1 < cLine; omega
  refine call_min_twoH (I.ok.hd hc) (fun i j => if i = j then false else if i = 1 then ltP q p else ltP p q) (fun i j vi vj s' Q E hk hi hj hq => ?_) fun h' tk k' => ⟨_, H, I.kept k', ?_, k⟩
  · have at2 : ∀ {i v}, #[Value.ref a, Value.ref b][i]? = some v → (i = 0 ∧ v = .ref a) ∨ (i = 1 ∧ v = .ref b) := fun {i v} h => by
      match i with
      | 0 => exact .inl ⟨rfl, by simpa using h.symm⟩
      | 1 => exact .inr ⟨rfl, by simpa using h.symm⟩
      | n + 2 => simp at h
    have self : ∀ (x : T2 Int Int), ltP x x = false := fun x => by simp [ltP]
    rcases at2 hi with ⟨rfl, rfl⟩ | ⟨rfl, rfl⟩ <;> rcases at2 hj with ⟨rfl, rfl⟩ | ⟨rfl, rfl⟩
    · have := (cmp_pair (s := s') hu1 (up hk t1) (up hk t1) n1 n1).1
      rw [self] at this
      exact this Xc.prog Xc.w E Q hq
    · exact (cmp_pair (s := s') hu1 (up hk t1) (up hk t2) n1 n2).1 Xc.prog Xc.w E Q hq
    · exact (cmp_pair (s := s') hu1 (up hk t2) (up hk t1) n2 n1).1 Xc.prog Xc.w E Q hq
    · have := (cmp_pair (s := s') hu1 (up hk t2) (up hk t2) n2 n2).1
      rw [self] at this
      exact this Xc.prog Xc.w E Q hq
  · show RelV _ (if ltP q p = true then Value.ref b else Value.ref a)
    split <;> rfl
theorem x_minP {C : Cn} {X : Addr → Prop} {H : Hp} {Q : VK} {p q : T2 Int Int} {u v : V} (r : Rep C.K X H (enc p) u) (t : Rep C.K X H (enc q) v) (h : ∀ w, Rep C.K X H (enc (minP p q)) w → Q w H) : rMinP C.K [u, v] H Q := by
  obtain ⟨a, ea, ha⟩ := rep_it r
  obtain ⟨b, eb, hb⟩ := rep_it t
  subst ea eb
  refine ⟨a, b, p, q, rfl, ha, hb, h _ ?_⟩
  unfold minP
  by_cases z : ltP q p = true
  · rw [if_pos z, if_pos z]; exact t
  · rw [if_neg z, if_neg z]; exact r
/-! ### is of bools -/
def rIsBX : R2 := fun x y H Q => ∃ a b : Bool, x = .bl a ∧ y = .bl b ∧ Q (.bl (decide (a = b))) H
def rNotBX : R2 := fun x y H Q => ∃ a b : Bool, x = .bl a ∧ y = .bl b ∧ Q (.bl (!decide (a = b))) H
theorem op_isBX : OpR Xc (compareOp .Is) rIsBX := op_isBl
theorem op_notBX : OpR Xc (compareOp .IsNot) rNotBX := op_notBl
theorem x_isBX {H : Hp} {Q : VK} {a b : Bool} (h : Q (.bl (decide (a = b))) H) : rIsBX (.bl a) (.bl b) H Q := ⟨a, b, rfl, rfl, h⟩
theorem x_notBX {H : Hp} {Q : VK} {a b : Bool} (h : Q (.bl (!decide (a = b))) H) : rNotBX (.bl a) (.bl b) H Q := ⟨a, b, rfl, rfl, h⟩
end
theorem pi_listK {K : PySem.W.Frag} {X : Cx} {tg l : Expr} {tl : TE} (hK : X.K = K) (hl : PE X l tl) : PI X tg l (iList K tl) := by subst hK; exact pi_list hl
theorem pi_tupK {K : PySem.W.Frag} {X : Cx} {tg l : Expr} {tl : TE} (hK : X.K = K) (hl : PE X l tl) : PI X tg l (iTup K tl) := by subst hK; exact pi_tup hl
theorem lookup_relabel_fc {env : Env} : ∀ {names : List (Str × NameKind)} {x : Str}, names.lookup x = some .cell ∨ names.lookup x = some .free →
    (names.map fun (n, k) => if (k == NameKind.free && env.scope.kind == .function && env.kindOf n == some .cell) then (n, NameKind.cell) else (n, k)).lookup x = some .cell ∨ (names.map fun (n, k) => if (k == NameKind.free && env.scope.kind == .function && env.kindOf n == some .cell) then (n, NameKind.cell) else (n, k)).lookup x = some .free
  | [], _, h => by simp at h
  | (n, k) :: r, x, h => by
    have ih := @lookup_relabel_fc env r x
    show List.lookup x ((if (k == NameKind.free && env.scope.kind == .function && env.kindOf n == some .cell) = true then (n, NameKind.cell) else (n, k)) :: _) = _ ∨ List.lookup x ((if (k == NameKind.free && env.scope.kind == .function && env.kindOf n == some .cell) = true then (n, NameKind.cell) else (n, k)) :: _) = _
    cases hx : x == n with
    | true =>
      simp only [List.lookup_cons, hx] at h
      by_cases hc : (k == NameKind.free && env.scope.kind == .function && env.kindOf n == some .cell) = true
      · rw [if_pos hc]; left; simp [List.lookup_cons, hx]
      · rw [if_neg hc]; simp only [List.lookup_cons, hx]; exact h
    | false =>
      simp only [List.lookup_cons, hx] at h
      by_cases hc : (k == NameKind.free && env.scope.kind == .function && env.kindOf n == some .cell) = true
      · rw [if_pos hc]; simp only [List.lookup_cons, hx]; exact ih h
      · rw [if_neg hc]; simp only [List.lookup_cons, hx]; exact ih h
theorem blkOk_in {N : List Str} {scope0 scope : Scope} {own : List (Str × Nat)} {cl : List (Str × Addr)} {C : Addr} {env : Env} (h : blkC N scope0 scope own = true) : BlkOk N (compEnvC scope0 cl C env).scope scope own := by
  have b := blkOk_by h
  exact ⟨b.kind, b.uniq, b.ix, fun y hy e => lookup_relabel_fc (b.free y hy e), b.own⟩
/-! ### chains of two comparisons -/
section
variable {C : Cn} {X : Addr → Prop} {H : Hp} {σ : L2.St} {Γ Γ' : List Sl} {Q : VK} {α β ρ : Type}
def KCh (tc : TE) (r' : R2) (σ : L2.St) (y : V) (Q : VK) : VK := fun z H3 => ∃ k, z = .bl k ∧ (if k = true then tc σ H3 fun w' H4 => r' y w' H4 Q else Q (.bl false) H3)
theorem x_chain {r r' : R2} {ta tb tc : TE} (h : ta σ H fun x H1 => tb σ H1 fun y H2 => r x y H2 (KCh tc r' σ y Q)) : tChain r r' ta tb tc σ H Q := h
theorem x_chP {A B : Bool} {tc : TE} {r' : R2} {y : V} (hu : ∀ Q' : VK, Q' (.bl B) H → tc σ H fun w H4 => r' y w H4 Q') (h : Q (.bl (A && B)) H) : KCh tc r' σ y Q (.bl A) H := by
  refine ⟨A, rfl, ?_⟩
  cases A with
  | true => exact hu Q h
  | false => exact h
/-! ### xs.reverse() -/
theorem x_reverse [Py α] {xs : List α} {i : Nat} {p : Addr} (L : Lo C X H σ Γ) (g : Γ[i]? = some (.mu p (ml xs))) (e : Γ.set i (.mu p (ml xs.reverse)) = Γ')
    (h : ∀ H1, Lo C X H1 σ Γ' → (∀ d u, Rep C.K X H d u → Rep C.K X H1 d u) → Q .non H1) : rReverse (.ref p) [] H Q := by
  subst e
  obtain ⟨vs, hs, rs⟩ := L.mrep g
  obtain ⟨L1, le⟩ := L.write (es := xs.reverse.map enc) (ws := vs.reverse) g hs (by rw [List.map_reverse]; exact rs.reverse)
  exact ⟨p, vs, rfl, rfl, hs, h _ L1 le⟩
/-! ### a list of the body's own is lent to a call that keeps nothing of it -/
abbrev X0 : Addr → Prop := fun _ => False
theorem Rep.x0 {K : PySem.W.Frag} {d : PyData} {v : V} (r : Rep K X H d v) : Rep K X0 H d v := r.anti fun _ h => h.elim
theorem SqX.x0 {K : PySem.W.Frag} {ns : List Int} {v : V} (r : SqX K X H ns v) : SqX K X0 H ns v := r.anti fun _ h => h.elim
theorem Lo.lend (L : Lo C X H σ Γ) {i : Nat} {p : Addr} {ds : List PyData} (e : Γ[i]? = some (.mu p (.lst ds))) : Rep C.K X0 H (.list ds) (.ref p) := by
  obtain ⟨vs, h1, h2⟩ := L.mrep e
  exact .lst (fun h => h) (.inl h1) (h2.anti fun _ h => h.elim)
theorem Lo.condL (L : Lo C X H σ Γ) {Γa : List Sl} {vs : List V} (as : As C.K X0 H Γa vs) (e : muts Γa = []) : Cond C.K X0 H Γa vs := ⟨as, nd0 e, (by rw [e]; intro _ h; cases h), fun _ h => h.elim⟩
/-- data without a list in it -/
class Flat (α : Type) [Py α] : Prop where
  up : ∀ {K : PySem.W.Frag} {X Y : Addr → Prop} {H : Hp} {x : α} {v : V}, Rep K X H (enc x) v → Rep K Y H (enc x) v
instance : Flat Int := ⟨fun r => by cases r; exact .int _⟩
instance : Flat Bool := ⟨fun r => by cases r; exact .bl _⟩
instance : Flat Str := ⟨fun r => by cases r; exact .str _⟩
instance {α β : Type} [Py α] [Py β] [Flat α] [Flat β] : Flat (T2 α β) := ⟨fun r => by
  cases r with | tup h q =>
    cases q with | cons a q => cases q with | cons b q => cases q; exact .tup h (.cons (Flat.up a) (.cons (Flat.up b) .nil))⟩
instance {α β γ : Type} [Py α] [Py β] [Py γ] [Flat α] [Flat β] [Flat γ] : Flat (T3 α β γ) := ⟨fun r => by
  cases r with | tup h q =>
    cases q with | cons a q => cases q with | cons b q => cases q with | cons c q => cases q; exact .tup h (.cons (Flat.up a) (.cons (Flat.up b) (.cons (Flat.up c) .nil)))⟩
theorem k0L {v : V} {H' : Hp} {rs : Rs} {ps : List (Addr × MO)} {G : Prop} (L : Lo C X H σ Γ) (F : Fin C.K X0 H [] ps rs v H') (h : Lo C X H' σ Γ → (∀ d u, Rep C.K X H d u → Rep C.K X H' d u) → G) : G := by
  have s : Same H H' := fun a o e => F.base a o e (by simp)
  exact h (L.same s) fun _ _ r => r.keep (.same s)
theorem k0Ld [Py α] [Flat α] {v : V} {H' : Hp} {x : α} {ps : List (Addr × MO)} {G : Prop} (L : Lo C X H σ Γ) (F : Fin C.K X0 H [] ps (.imm (enc x)) v H') (h : Lo C X H' σ Γ → (∀ d u, Rep C.K X H d u → Rep C.K X H' d u) → Rep C.K X H' (enc x) v → G) : G := by
  have s : Same H H' := fun a o e => F.base a o e (by simp)
  exact h (L.same s) (fun _ _ r => r.keep (.same s)) (Flat.up (show Rep C.K X0 H' (enc x) v from F.res))
end
/-! ### for x in [p, q, ..]: x.clear(), of lists of the body's own; a list parted -/
section
variable {C : Cn} {X : Addr → Prop} {H : Hp} {σ : L2.St} {Γ Γ' : List Sl} {Q : VK} {α : Type}
theorem x_clear {i : Nat} {p : Addr} {ds : List PyData} (L : Lo C X H σ Γ) (g : Γ[i]? = some (.mu p (.lst ds))) (e : Γ.set i (.mu p (.lst [])) = Γ')
    (h : ∀ H1, Lo C X H1 σ Γ' → (∀ d u, Rep C.K X H d u → Rep C.K X H1 d u) → Q .non H1) : rClear (.ref p) [] H Q := by
  subst e
  obtain ⟨vs, hs, rs⟩ := L.mrep g
  obtain ⟨L1, le⟩ := L.write (es := []) (ws := []) g hs .nil
  exact ⟨p, vs, rfl, rfl, hs, h _ L1 le⟩
theorem x_clr1 {i j : Nat} {p : Addr} {ds : List PyData} {N bk ct : L2.St → Hp → Prop} {rt : VK} (L : Lo C X H σ Γ) (hj : j < C.n) (g : Γ[i]? = some (.mu p (.lst ds))) (gj : Γ[j]? = some .unk) (e : Γ.set i (.mu p (.lst [])) = Γ')
    (h : ∀ σ' H', Lo C X H' σ' Γ' → N σ' H') : gName j (.ref p) σ H fun σ2 H2 => tDrop (tBM0 C.K "list" rClear (tVar j)) ⟨N, rt, bk, ct⟩ σ2 H2 := by
  have L1 : Lo C X H (σ.set j (some (.ref p))) Γ := by
    have := L.setS (i := j) (v := some (.ref p)) (s := .unk) rfl trivial hj
    rwa [show Γ.set j .unk = Γ from List.ext_getElem? fun k => by
      rw [List.getElem?_set]
      split
      · next z =>
        subst z
        have := (List.getElem?_eq_some_iff.mp gj).1
        rw [if_pos this, gj]
      · rfl] at this
  show tDrop (tBM0 C.K "list" rClear (tVar j)) ⟨N, rt, bk, ct⟩ (σ.set j (some (.ref p))) H
  refine x_drop (x_bm0 ?_)
  refine ⟨.ref p, ?_, ?_⟩
  · have hl : j < σ.length := by rw [L.len]; exact hj
    rw [List.getElem?_set_self hl]
  · exact x_tyM L1 g (x_clear L1 g e fun H1 L2 _ => h _ _ L2)
theorem x_refs {ps : List Addr} {G : Nat → List Sl} {g : TG} {tb : TS} {nx bk ct : L2.St → Hp → Prop} {rt : VK} (L : Lo C X H σ (G 0)) (hl : ps.length ≤ 16777216) (hG : ∀ k, k < ps.length → muts (G (k + 1)) = muts (G k))
    (body : ∀ k p, ps[k]? = some p → ∀ (H : Hp) (σ : L2.St) (N : L2.St → Hp → Prop), Lo ⟨C.K, X, H, muts (G k), C.n⟩ X H σ (G k) → (∀ X' σ' H', Lo ⟨C.K, X, H, muts (G k), C.n⟩ X' H' σ' (G (k + 1)) → N σ' H') → g (.ref p) σ H fun σ2 H2 => tb ⟨N, rt, nx, N⟩ σ2 H2)
    (done : ∀ σ' H', Lo C X H' σ' (G ps.length) → nx σ' H') : KLst (KForL C.K g tb ⟨nx, rt, bk, ct⟩ σ) (ps.map V.ref) H := by
  refine ⟨by rw [line_eq, List.length_map]; exact hl, fun a ha => ?_⟩
  have s : Same H (upd H a (.lst (ps.map V.ref))) := same_upd ha
  have na : ¬ X a := fun h => L.xd a h ha
  refine ⟨a, rfl, ⟨_, .inl (.inl upd_same)⟩, for_list (K := C.K) (a := a) (xs := ps.map V.ref) (fun i σ' H' => i ≤ ps.length ∧ Lo C X H' σ' (G i) ∧ Rd H' a (.lst (ps.map V.ref))) ⟨Nat.zero_le _, L.same s, .inl upd_same⟩ (fun i σ' H' _ h => .inl h.2.2) ?_ ?_⟩
  · rintro i y σ' H' hy ⟨hi, L', rd⟩
    rw [List.getElem?_map] at hy
    cases hp : ps[i]? with
    | none => rw [hp] at hy; cases hy
    | some p =>
      rw [hp] at hy
      cases hy
      have hk := (List.getElem?_eq_some_iff.mp hp).1
      refine body i p hp H' σ' _ L'.enter fun X' σ'' H'' L'' => ?_
      exact ⟨hk, L'.leave L'' (hG i hk), (L'.keep L'').rd na rd⟩
  · rintro σ' H' ⟨_, L', _⟩
    rw [List.length_map] at L'
    exact done _ _ L'
def un2 {α : Type} : List α → Option (T2 α α)
  | [a, b] => some ⟨a, b⟩
  | _ => none
def un3 {α : Type} : List α → Option (T3 α α α)
  | [a, b, c] => some ⟨a, b, c⟩
  | _ => none
def un4 {α : Type} : List α → Option (T4 α α α α)
  | [a, b, c, d] => some ⟨a, b, c, d⟩
  | _ => none
theorem un2_eq {xs : List α} {q : T2 α α} (h : un2 xs = some q) : xs = [q.a, q.b] := by
  unfold un2 at h
  split at h
  · cases h; rfl
  · cases h
theorem un3_eq {xs : List α} {q : T3 α α α} (h : un3 xs = some q) : xs = [q.a, q.b, q.c] := by
  unfold un3 at h
  split at h
  · cases h; rfl
  · cases h
theorem un4_eq {xs : List α} {q : T4 α α α α} (h : un4 xs = some q) : xs = [q.a, q.b, q.c, q.d] := by
  unfold un4 at h
  split at h
  · cases h; rfl
  · cases h
theorem x_gLst [Py α] {xs ys : List α} {v : V} {n : Nat} {t : TGs} {N : L2.St → Hp → Prop} (r : Rep C.K X H (enc xs) v) (e : xs = ys) (hl : ys.length = n) (h : ∀ vs, Reps C.K X H (ys.map enc) vs → t vs σ H N) : gLst C.K n t v σ H N := by
  subst e
  obtain ⟨a, vs, e, _, rd, q⟩ := rep_lst (ds := xs.map enc) r
  exact ⟨a, vs, e, .inl rd, by rw [q.length, List.length_map]; exact hl, h vs q⟩
end
theorem b2_small (c : Bool) : -(2 ^ 64) < b2 c ∧ b2 c < 2 ^ 64 := by cases c <;> decide
/-! ### data of new lists alone: told lists may be cleared -/
section
variable {C : Cn} {X : Addr → Prop} {H : Hp} {σ : L2.St} {Γ Γ' : List Sl} {Q : VK} {α β τ : Type}
theorem Lo.resl {s s' : Sl} (L : Lo C X H σ Γ) {i : Nat} (g : Γ[i]? = some s) (e : s'.ad = s.ad) (h : ∀ v, SlOk C.K X H v s → SlOk C.K X H v s') : Lo C X H σ (Γ.set i s') := by
  have hil : i < Γ.length := (List.getElem?_eq_some_iff.mp g).1
  have hm : muts (Γ.set i s') = muts Γ := by
    clear L h
    induction Γ generalizing i with
    | nil => simp at hil
    | cons t Γ ih => cases i with
      | zero =>
        simp at g; subst g
        show List.filterMap _ _ = List.filterMap _ _
        rw [List.set_cons_zero, List.filterMap_cons, List.filterMap_cons, e]
      | succ i =>
        have := ih (i := i) (by simpa using g) (by simpa using hil)
        unfold muts at this ⊢
        rw [List.set_cons_succ, List.filterMap_cons, List.filterMap_cons, this]
  refine ⟨L.len, fun j t hj => ?_, by rw [hm]; exact L.nd, fun p hp => L.mx p (hm ▸ hp), L.m0, L.xd, L.base, L.dom, fun p hp => L.own p (hm ▸ hp), L.tf⟩
  by_cases z : j = i
  · subst z
    rw [List.getElem?_set_self hil] at hj
    cases hj
    exact h _ (L.at_ j s g)
  · rw [List.getElem?_set_ne (Ne.symm z)] at hj
    exact L.at_ j t hj
mutual
theorem Rep.old {K : PySem.W.Frag} {Z : Addr → Prop} (hz : ∀ a, ¬ Z a → H a = none) : ∀ {d : PyData} {v : V}, Rep K X H d v → Rep K (fun b => X b ∨ ¬ Z b) H d v
  | _, _, .non => .non
  | _, _, .bl b => .bl b
  | _, _, .int i => .int i
  | _, _, .str x => .str x
  | _, _, .tup q r => .tup q (Reps.old hz r)
  | _, _, .lst n q r => .lst (fun z => z.elim n fun y => rd_nn q (hz _ y)) q (Reps.old hz r)
theorem Reps.old {K : PySem.W.Frag} {Z : Addr → Prop} (hz : ∀ a, ¬ Z a → H a = none) : ∀ {d : List PyData} {v : List V}, Reps K X H d v → Reps K (fun b => X b ∨ ¬ Z b) H d v
  | _, _, .nil => .nil
  | _, _, .cons r t => .cons (Rep.old hz r) (Reps.old hz t)
end
/-- the lists of now and those still to come -/
theorem Lo.mark (L : Lo C X H σ Γ) : ∃ Z : Addr → Prop, (∀ a, Z a ↔ H a = none) ∧ ∀ a, Z a → C.H0 a = none := by
  refine ⟨fun a => H a = none, fun _ => Iff.rfl, fun a h => ?_⟩
  cases e : C.H0 a with
  | none => rfl
  | some o => exact (L.dom a (by rw [e]; exact fun z => nomatch z) h).elim
theorem Lo.fix {Z : Addr → Prop} (L : Lo C X H σ Γ) (hz : ∀ a, Z a ↔ H a = none) {i : Nat} {d : PyData} (g : Γ[i]? = some (.imm d)) : Lo C X H σ (Γ.set i (.fix (fun b => ¬ Z b) d)) :=
  L.resl g rfl fun v ⟨u, e, r⟩ => ⟨u, e, r.old fun a y => (hz a).mp (Classical.not_not.mp y)⟩
theorem Lo.unfix {Z : Addr → Prop} (L : Lo C X H σ Γ) {i : Nat} {d : PyData} (g : Γ[i]? = some (.fix Z d)) : Lo C X H σ (Γ.set i (.imm d)) :=
  L.resl g rfl fun v ⟨u, e, r⟩ => ⟨u, e, r.anti fun _ => .inl⟩
theorem Lo.unZ {Z : Addr → Prop} {p : Addr} {ds : List PyData} (L : Lo C X H σ Γ) {i : Nat} (g : Γ[i]? = some (.mu p (.lstZ Z ds))) : Lo C X H σ (Γ.set i (.mu p (.lst ds))) :=
  L.resl g rfl fun v ⟨e, vs, h, r⟩ => ⟨e, vs, h, r.anti fun _ => .inl⟩
theorem x_vfx {i : Nat} {d : PyData} {Z : Addr → Prop} (L : Lo C X H σ Γ) (e : Γ[i]? = some (.fix Z d)) (h : ∀ v, Rep C.K X H d v → Q v H) : tVar i σ H Q := by
  obtain ⟨u, e1, r⟩ := L.at_ i _ e
  exact ⟨u, e1, h u (r.anti fun _ => .inl)⟩
/-- a slot that does not mind when a new list is written -/
def OldS (Z : Addr → Prop) : Sl → Prop
  | .unk => True
  | .ref _ => True
  | .scr _ => False
  | .imm d => ∀ (K : PySem.W.Frag) (X : Addr → Prop) (H : Hp) (u : V), Rep K X H d u → Rep K (fun _ => True) H d u
  | .fix Z' _ => ∀ a, Z' a → ¬ Z a
  | .mu _ (.lst ds) => ∀ (K : PySem.W.Frag) (X : Addr → Prop) (H : Hp) (us : List V), Reps K X H ds us → Reps K (fun _ => True) H ds us
  | .mu _ .any => True
  | _ => False
theorem OldS.dat [Py α] [Flat α] {Z : Addr → Prop} {x : α} : OldS Z (.imm (enc x)) := fun _ _ _ _ r => Flat.up r
theorem OldS.I {Z : Addr → Prop} {x : Int} : OldS Z (.imm (.int x)) := OldS.dat (x := x)
theorem OldS.B {Z : Addr → Prop} {x : Bool} : OldS Z (.imm (.bool x)) := OldS.dat (x := x)
theorem OldS.S {Z : Addr → Prop} {x : Str} : OldS Z (.imm (.str x)) := OldS.dat (x := x)
theorem Reps.flat [Py α] [Flat α] {K : PySem.W.Frag} {Y : Addr → Prop} : ∀ {xs : List α} {us : List V}, Reps K X H (xs.map enc) us → Reps K Y H (xs.map enc) us
  | [], _, .nil => .nil
  | _ :: _, _, .cons r t => .cons (Flat.up r) (Reps.flat t)
theorem OldS.lst [Py α] [Flat α] {Z : Addr → Prop} {p : Addr} {xs : List α} : OldS Z (.mu p (.lst (xs.map enc))) := fun _ _ _ _ r => r.flat
theorem keepAll {b : Addr} {us : List V} {o : HO} (h : H b = some (.lst us)) : Keep (fun a => a = b) H (upd H b o) :=
  ⟨fun a u e n => by rw [upd_ne n]; exact e, fun a vs e => by rw [upd_ne (fun z => by rw [z, h] at e; cases e)]; exact e, fun a u w e => by rw [upd_ne (fun z => by rw [z, h] at e; cases e)]; exact e⟩
theorem Lo.clrZ {Z : Addr → Prop} {b : Addr} {us : List V} (L : Lo C X H σ Γ) (h0 : C.H0 b = none) (nb : ¬ X b) (zb : Z b) (h : H b = some (.lst us)) (old : ∀ s ∈ Γ, OldS Z s) : Lo C X (upd H b (.lst [])) σ Γ := by
  have k := keepAll (o := .lst []) h
  have hd : ∀ a, H a ≠ none → upd H b (.lst []) a ≠ none := fun a e => by
    by_cases z : a = b
    · rw [z, upd_same]; exact fun y => nomatch y
    · rw [upd_ne z]; exact e
  refine ⟨L.len, fun i s hi => ?_, L.nd, L.mx, L.m0, fun a z => hd a (L.xd a z), fun a u e n => ?_, fun a e => hd a (L.dom a e), L.own, L.tf⟩
  · have hs := L.at_ i s hi
    have ho := old s (List.mem_of_getElem? hi)
    have hx : ∀ p, s.ad = some p → p ≠ b := fun p e z => nb (z ▸ L.mx p (mem_muts.mpr ⟨i, s, hi, e⟩))
    cases s with
    | unk => trivial
    | ref a => exact hs
    | scr ns => exact ho.elim
    | imm d =>
      obtain ⟨u, e, r⟩ := hs
      exact ⟨u, e, ((ho _ _ _ _ r).keep (k.mono fun _ _ => trivial)).anti fun _ _ => trivial⟩
    | fixN Z' d => exact ho.elim
    | fix Z' d =>
      obtain ⟨u, e, r⟩ := hs
      exact ⟨u, e, r.keep (k.mono fun a z => .inr fun y => ho a y (z ▸ zb))⟩
    | mu p o =>
      obtain ⟨e, r⟩ := hs
      refine ⟨e, ?_⟩
      have hp : upd H b (.lst []) p = H p := upd_ne (hx p rfl)
      cases o with
      | lst ds =>
        obtain ⟨vs, hv, r⟩ := r
        exact ⟨vs, hp.trans hv, ((ho _ _ _ _ r).keep (k.mono fun _ _ => trivial)).anti fun _ _ => trivial⟩
      | lstZ _ _ => exact ho.elim
      | any =>
        obtain ⟨vs, hv⟩ := r
        exact ⟨vs, hp.trans hv⟩
    | tmp p o => exact ho.elim
  · rw [upd_ne fun z => by rw [z, h0] at e; cases e]
    exact L.base a u e n
theorem atI_zero {x : α} {xs : List α} : atI (x :: xs) 0 = some x := by
  unfold atI ixN
  simp
/-- for x in xs: x[0].clear(), of a told list of new ones -/
theorem x_dclrs [Py α] [Py β] {γ : Type} [Py γ] {zs : List (T3 (List α) β γ)} {Z : Addr → Prop} {i j : Nat} {p : Addr} {nx bk ct : L2.St → Hp → Prop} {rt : VK} (L : Lo C X H σ Γ) (hZ : ∀ a, Z a → C.H0 a = none) (hj : j < C.n)
    (g : Γ[i]? = some (.mu p (.lstZ Z (zs.map enc)))) (gj : Γ[j]? = some .unk) (old : ∀ s ∈ Γ.set i (.mu p .any), OldS Z s) (e : Γ.set i (.mu p .any) = Γ') (done : ∀ σ' H', Lo C X H' σ' Γ' → nx σ' H') :
    KForL C.K (gName j) (tDrop (tBM0 C.K "list" rClear (tOp (rIxT C.K) (tVar j) (tC (.int 0))))) ⟨nx, rt, bk, ct⟩ σ (.ref p) H := by
  subst e
  have hil : i < Γ.length := (List.getElem?_eq_some_iff.mp g).1
  have ne : i ≠ j := fun z => by subst z; rw [g] at gj; cases gj
  obtain ⟨_, vs, hv, rv⟩ := L.at_ i _ g
  have Xp : X p := L.mx p (mem_muts.mpr ⟨i, _, g, rfl⟩)
  have L1 : Lo C X H σ (Γ.set i (.mu p .any)) := L.resl g rfl fun v ⟨e, vs, h, _⟩ => ⟨e, vs, h⟩
  have gj1 : (Γ.set i (Sl.mu p .any))[j]? = some .unk := by rw [List.getElem?_set_ne ne]; exact gj
  have pieces : ∀ (zs : List (T3 (List α) β γ)) (vs : List V), Reps C.K (NewX X Z H) H (zs.map enc) vs → ∀ y ∈ vs, ∃ a b rest us, y = .ref a ∧ SqT C.K H a (.ref b :: rest) ∧ ¬ X b ∧ Z b ∧ H b = some (.lst us) := by
    intro zs
    induction zs with
    | nil => intro vs r y hy; cases r; cases hy
    | cons z zs ih =>
      intro vs r y hy
      cases r with
      | cons r t =>
        rcases List.mem_cons.mp hy with e | hy
        · subst e
          obtain ⟨a, ws, rfl, hs, q⟩ := rep_tup (ds := [enc z.a, enc z.b, enc z.c]) r
          cases q with
          | cons q1 q2 =>
            obtain ⟨b, us, rfl, nb, rd, _⟩ := rep_lst (ds := z.a.map enc) q1
            refine ⟨a, b, _, us, rfl, hs, fun h => nb (.inl h), Classical.not_not.mp fun h => nb (.inr (.inl h)), ?_⟩
            rcases rd with rd | ⟨o, rd⟩
            · exact rd
            · exact (nb (.inr (.inr ⟨_, _, rd⟩))).elim
        · exact ih _ t y hy
  refine ⟨p, rfl, ⟨vs, .inl (.inl hv)⟩, for_list (K := C.K) (a := p) (xs := vs) (fun k σ' H' => Lo C X H' σ' (Γ.set i (.mu p .any)) ∧ H' p = some (.lst vs) ∧ ∀ y ∈ vs, ∃ a b rest us, y = .ref a ∧ SqT C.K H' a (.ref b :: rest) ∧ ¬ X b ∧ Z b ∧ H' b = some (.lst us))
    ⟨L1, hv, pieces zs vs rv⟩ (fun k σ' H' _ h => .inl (.inl h.2.1)) ?_ fun σ' H' h => done _ _ h.1⟩
  rintro k y σ' H' hy ⟨L', hp, hpc⟩
  obtain ⟨a, b, rest, us, rfl, hs, nb, zb, rd⟩ := hpc y (List.mem_of_getElem? hy)
  have L2 : Lo C X H' (σ'.set j (some (.ref a))) (Γ.set i (.mu p .any)) := by
    have := L'.setS (i := j) (v := some (.ref a)) (s := .unk) rfl trivial hj
    rwa [show (Γ.set i (Sl.mu p .any)).set j .unk = Γ.set i (Sl.mu p .any) from List.ext_getElem? fun k => by
      rw [List.getElem?_set]
      split
      · next z =>
        subst z
        have := (List.getElem?_eq_some_iff.mp gj1).1
        rw [if_pos this, gj1]
      · rfl] at this
  have hl : j < σ'.length := by rw [L'.len]; exact hj
  refine x_drop (x_bm0 ?_)
  refine ⟨.ref a, by rw [List.getElem?_set_self hl], ?_⟩
  refine ⟨a, .ref b :: rest, 0, .ref b, rfl, rfl, hs, atI_zero, ?_⟩
  refine ⟨.inl ⟨rfl, us, .inl (.inl rd)⟩, ?_⟩
  refine ⟨b, us, rfl, rfl, rd, ?_⟩
  have kk := keepAll (o := .lst []) rd
  refine ⟨L2.clrZ (hZ b zb) nb zb rd old, ?_, fun y hy => ?_⟩
  · rw [upd_ne (show p ≠ b from fun z => nb (z ▸ Xp))]; exact hp
  · obtain ⟨a2, b2, rest2, us2, e2, hs2, nb2, zb2, rd2⟩ := hpc y hy
    by_cases z : b2 = b
    · exact ⟨a2, b2, rest2, [], e2, kk.sqT hs2, nb2, zb2, by rw [z, upd_same]⟩
    · exact ⟨a2, b2, rest2, us2, e2, kk.sqT hs2, nb2, zb2, by rw [upd_ne z]; exact rd2⟩
end
/-! ### a comprehension that tells new lists alone -/
section
variable {C : Cn} {X : Addr → Prop} {H H' : Hp} {σ : L2.St} {Γ Γ' : List Sl} {Q : VK} {α β τ ρ : Type}
def BodyCZ [Py β] (Z : Addr → Prop) (C : Cn) (X : Addr → Prop) (G : τ → List Sl) (d : PyData) (s : τ) (o : Option (Option β × τ)) (g : TG) (tt : TT) (te : TE) (vs : List Nat) : Prop :=
  ∀ (X : Addr → Prop) (H : Hp) (σ : L2.St) (u : V) (r : Option β × τ) (Qn : Hp → Prop) (Qy : VK), o = some r → Lo ⟨C.K, X, H, muts (G s), C.n⟩ X H σ (G s) → Rep C.K X H d u → (∀ a, ¬ Z a → H a ≠ none) →
    (r.1 = none → ∀ H', Lo ⟨C.K, X, H, muts (G s), C.n⟩ X H' σ (G r.2) → Qn H') →
    (∀ y, r.1 = some y → ∀ v H', Lo ⟨C.K, X, H, muts (G s), C.n⟩ X H' σ (G r.2) → Rep C.K (NewX X Z H') H' (enc y) v → Qy v H') →
    g u (wipe σ vs) H fun σ2 H2 => wipe σ2 vs = wipe σ vs ∧ tt σ2 H2 fun b H3 => if b = true then te σ2 H3 Qy else Qn H3
theorem x_lcL0Z {Z : Addr → Prop} [Py α] [Py β] {xs : List α} {f : α → τ → Option (Option β × τ)} {G : τ → List Sl} {s0 : τ} {q : List β × τ} {v : V} {g : TG} {tt : TT} {te : TE} {ws : List Nat}
    (L : Lo C X H σ (G s0)) (hG : ∀ s s', muts (G s) = muts (G s')) (r : Rep C.K X H (enc xs) v) (hm : compL f xs s0 = some q) (hl : xs.length ≤ 16777216)
    (hz : ∀ a, ¬ Z a → H a ≠ none) (body : ∀ x s, BodyCZ Z C X G (enc x) s (f x s) g tt te ws)
    (done : ∀ D H', H D = none → C.H0 D = none → ¬ C.X0 D → Lo C (fun a => X a ∨ a = D) H' σ (G q.2) → Keep X H H' → MRep C.K (fun a => X a ∨ a = D) H' D (.lstZ Z (q.1.map enc)) → Q (.ref D) H') :
    KLcL C.K g tt te ws σ Q v H := by
  obtain ⟨a, us, rfl, hna, hrd, hrs⟩ := rep_lst (ds := xs.map enc) r
  refine ⟨a, rfl, ⟨us, .inl hrd⟩, fun D hD => ?_⟩
  have h0 : C.H0 D = none := by
    cases e : C.H0 D with
    | none => rfl
    | some o => exact (L.dom D (by rw [e]; exact fun z => nomatch z) hD).elim
  have hDm : ∀ s, D ∉ muts (G s) := fun s h => L.xd D (L.mx D (hG s s0 ▸ h)) hD
  have sm : Same H (upd H D (.lst [])) := same_upd hD
  have lay := L.lay (p := D) (o := .lst []) hD sm ⟨[], upd_same, .nil⟩
  have L1 : Lo C (fun a => X a ∨ a = D) (upd H D (.lst [])) σ (G s0) := by
    refine ⟨L.len, fun i s hi => ?_, L.nd, fun p hp => .inl (L.mx p hp), fun a h => .inl (L.m0 a h), lay.1.xd, lay.1.base, lay.1.dom, L.own, L.tf⟩
    refine lay.1.at_ i s ?_
    rw [List.getElem?_append_left (List.getElem?_eq_some_iff.mp hi).1]
    exact hi
  have hna' : ¬ (X a ∨ a = D) := fun h => h.elim hna fun e => by
    subst e
    exact rd_nn hrd hD
  refine lc_list (K := C.K) (a := a) (xs := us) (fun i H' => ∃ s ys acc q', Lo C (fun a => X a ∨ a = D) H' σ (G s) ∧ Reps C.K (fun a => X a ∨ a = D) H' (xs.map enc) us ∧ Rd H' a (.lst us) ∧ H' D = some (.lst acc) ∧ Reps C.K (NewX (fun a => X a ∨ a = D) Z H') H' (ys.map enc) acc ∧
      compL f (xs.drop i) s = some q' ∧ q = (ys ++ q'.1, q'.2) ∧ ys.length ≤ i ∧ Keep X H H' ∧ (∀ a, H a ≠ none → H' a ≠ none))
    ⟨s0, [], [], q, L1, (hrs.more hD).keep (.same sm), Keep.rd (.same sm) hna hrd, upd_same, .nil, hm, rfl, Nat.le_refl _, .same sm, fun a h => ?_⟩ (fun i H' _ ⟨s, ys, acc, q', _, _, h, _⟩ => .inl h) ?_ ?_
  · by_cases z : a = D
    · rw [z, upd_same]; exact fun y => nomatch y
    · rw [upd_ne z]; exact h
  · rintro i y H' hy ⟨s, ys, acc, q', L', hr', hd', hacc, hys, hq', eq, hyl, hk, hdm⟩
    obtain ⟨d, hd, rd⟩ := hr'.get' hy
    rw [List.getElem?_map] at hd
    cases hx : xs[i]? with
    | none => rw [hx] at hd; cases hd
    | some x =>
      rw [hx] at hd
      cases hd
      have hil : i < xs.length := (List.getElem?_eq_some_iff.mp hx).1
      obtain ⟨r1, q1, h1, h2, h3⟩ := comp_drop hx hq'
      refine body x s _ H' σ y r1 _ _ h1 L'.enter rd (fun a z => hdm a (hz a z)) ?_ ?_
      · intro e H'' M
        have k := L'.keep M
        have kd : H'' D = some (.lst acc) := M.base D _ hacc (hDm s)
        refine ⟨r1.2, ys, acc, q1, L'.leave M (hG _ _), hr'.keep k, k.rd hna' hd', kd, hys.keepF k, h2, ?_, Nat.le_succ_of_le hyl, ?_, fun a h => M.dom a (hdm a h)⟩
        · rw [eq, h3, e]
        · refine ⟨fun b o hb n => ?_, fun b vs hb => k.2.1 b vs (hk.2.1 b vs hb), fun b o u hb => k.2.2 b o u (hk.2.2 b o u hb)⟩
          have hbD : b ≠ D := fun z => by rw [z, hD] at hb; cases hb
          exact k.1 b o (hk.1 b o hb n) fun z => z.elim n hbD
      · intro yv e v H'' M rv
        have k := L'.keep M
        have kd : H'' D = some (.lst acc) := M.base D _ hacc (hDm s)
        have L2 := L'.leave M (hG _ _)
        obtain ⟨L3, k3⟩ := L2.wroteX (p := D) (o' := .lst (acc ++ [v])) (.inr rfl) (hDm _) kd h0 (fun _ z => nomatch z) (fun _ _ z => nomatch z)
        have k4 := k.trans k3
        have hal : acc.length = ys.length := by rw [hys.length, List.length_map]
        refine ⟨acc, kd, by rw [line_eq]; omega, r1.2, ys ++ [yv], acc ++ [v], q1, L3, hr'.keep k4, k4.rd hna' hd', upd_same, ?_, h2, ?_, ?_, ?_, ?_⟩
        · rw [List.map_append]
          exact (hys.keepF k4).append (.cons (rv.keepF k3) .nil)
        · rw [eq, h3, e]
          show (ys ++ yv :: q1.1, q1.2) = (ys ++ [yv] ++ q1.1, q1.2)
          rw [List.append_assoc]; rfl
        · rw [List.length_append]; exact Nat.succ_le_succ hyl
        · refine ⟨fun b o hb n => ?_, fun b vs hb => k4.2.1 b vs (hk.2.1 b vs hb), fun b o u hb => k4.2.2 b o u (hk.2.2 b o u hb)⟩
          have hbD : b ≠ D := fun z => by rw [z, hD] at hb; cases hb
          exact k4.1 b o (hk.1 b o hb n) fun z => z.elim n hbD
        · intro a h
          by_cases z : a = D
          · rw [z, upd_same]; exact fun y => nomatch y
          · rw [upd_ne z]; exact M.dom a (hdm a h)
  · rintro H' ⟨s, ys, acc, q', L', _, _, hacc, hys, hq', eq, _, hk, hdm⟩
    rw [hrs.length, List.length_map, List.drop_length] at hq'
    cases hq'
    rw [List.append_nil] at eq
    subst eq
    exact done D H' hD h0 (fun z => L.xd D (L.m0 D z) hD) L' hk ⟨acc, hacc, hys⟩

theorem x_lcLZ [Py α] [Py β] {Z : Addr → Prop} {xs : List α} {f : α → τ → Option (Option β × τ)} {v : V} {G : τ → List Sl} {s0 : τ} {q : List β × τ} {g : TG} {tt : TT} {te : TE} {ws : List Nat} (hz : ∀ a, ¬ Z a → H a ≠ none) (L : Lo C X H σ (G s0)) (hG : ∀ s s', muts (G s) = muts (G s')) (r : Rep C.K X H (enc xs) v) (hm : compL f xs s0 = some q) (hl : xs.length ≤ 16777216)
    (body : ∀ x s, BodyCZ Z C X G (enc x) s (f x s) g tt te ws) (h : ∀ D H', Lo C X H' σ (G q.2) → (∀ d u, Rep C.K X H d u → Rep C.K X H' d u) → Rep C.K (NewX X Z H') H' (enc q.1) (.ref D) → Q (.ref D) H') : KLcL C.K g tt te ws σ Q v H :=
  x_lcL0Z L hG r hm hl hz body (fun D H' hD h0 hx M k m => by
    obtain ⟨vs, h1, h2⟩ := m
    exact h D H' (M.xanti (fun _ h => .inl h) (fun p hp => L.mx p (hG q.2 s0 ▸ hp)) L.m0) (fun _ _ q => q.keep k)
      (.lst (fun z => z.elim (fun z => L.xd D z hD) fun z => z.elim (fun z => hz D z hD) fun ⟨_, _, z⟩ => by rw [h1] at z; cases z) (.inl h1) (h2.anti fun _ z => z.imp .inl id)))
theorem x_lcLNZ [Py α] [Py β] {Z : Addr → Prop} {xs : List α} {f : α → τ → Option (Option β × τ)} {v : V} {G : τ → List Sl} {s0 : τ} {q : List β × τ} {g : TG} {tt : TT} {te : TE} {ws : List Nat} (hz : ∀ a, ¬ Z a → H a ≠ none) (L : Lo C X H σ (G s0)) (hG : ∀ s s', muts (G s) = muts (G s')) (r : Rep C.K X H (enc xs) v) (hm : compL f xs s0 = some q) (hl : xs.length ≤ 16777216)
    (body : ∀ x s, BodyCZ Z C X G (enc x) s (f x s) g tt te ws) (h : ∀ D X' H', C.H0 D = none → ¬ C.X0 D → Lo C X' H' σ (G q.2 ++ [.tmp D (.lstZ Z (q.1.map enc))]) → (∀ d u, Rep C.K X H d u → Rep C.K X' H' d u) → Q (.ref D) H') : KLcL C.K g tt te ws σ Q v H :=
  x_lcL0Z L hG r hm hl hz body (fun D H' hD h0 hx M k m => h D _ H' h0 hx (L.addT hD h0 M (hG _ _) m) fun _ _ q => (q.more hD).keep (k.mono fun _ z => .inl z))
theorem x_cyZ [Py β] {Z X' : Addr → Prop} {σ2 : L2.St} {H' : Hp} {K : PySem.W.Frag} {n : Nat} {G : τ → List Sl} {s s' : τ} {Γ2 : List Sl} {y : β} {r : Option β × τ} {v : V} {Qy : VK} (er : r = (some y, s')) (hy : ∀ y, r.1 = some y → ∀ v H', Lo ⟨K, X, H, muts (G s), n⟩ X H' σ (G r.2) → Rep K (NewX X Z H') H' (enc y) v → Qy v H')
    (L : Lo ⟨K, X, H, muts (G s), n⟩ X H σ (G s)) (M : Lo ⟨K, X, H, muts (G s), n⟩ X' H' σ2 Γ2) (b : Bk (G s) Γ2 (G s')) (q : Rep K (NewX X' Z H') H' (enc y) v) : Qy v H' := by
  subst er
  exact hy y rfl v H' (L.back M b) (q.anti fun a z => z.imp (M.m0 a) id)
theorem x_mkTZ {Y : Hp → Addr → Prop} {ds : List PyData} {vs : List V} (L : Lo C X H σ Γ) (q : Reps C.K (Y H) H ds vs) (hk : ∀ H1, Same H H1 → Reps C.K (Y H) H ds vs → Reps C.K (Y H1) H1 ds vs) (hl : vs.length ≤ 16777216) (h : ∀ v H1, Lo C X H1 σ Γ → (∀ d u, Rep C.K X H d u → Rep C.K X H1 d u) → Rep C.K (Y H1) H1 (.tuple ds) v → Q v H1) : KTup Q vs H := by
  refine ⟨by rw [line_eq]; exact hl, fun p hp => ?_⟩
  have s : Same H (upd H p (.tup vs)) := same_upd hp
  exact h _ _ (L.same s) (fun _ _ r => r.keep (.same s)) (.tup (.inl (.inl upd_same)) (hk _ s q))
theorem x_mkTN {Z : Addr → Prop} {ds : List PyData} {vs : List V} (L : Lo C X H σ Γ) (q : Reps C.K (NewX X Z H) H ds vs) (hl : vs.length ≤ 16777216) (h : ∀ v H1, Lo C X H1 σ Γ → (∀ d u, Rep C.K X H d u → Rep C.K X H1 d u) → Rep C.K (NewX X Z H1) H1 (.tuple ds) v → Q v H1) : KTup Q vs H :=
  x_mkTZ (Y := NewX X Z) L q (fun _ s r => r.keepF (.same s)) hl h
theorem x_cTup3 {i j l : Nat} {u : V} {d1 d2 d3 : PyData} {tt : TT} {te : TE} {Qy : VK} {Qn : Hp → Prop} (L : Lo C X H σ Γ) (r : Rep C.K X H (.tuple [d1, d2, d3]) u) (hi : i < C.n) (hj : j < C.n) (hl : l < C.n) (n1 : i ≠ j) (n2 : i ≠ l) (n3 : j ≠ l) (e : ((Γ.set i (.imm d1)).set j (.imm d2)).set l (.imm d3) = Γ') (h : ∀ σ2, Lo C X H σ2 Γ' → tt σ2 H (KCt te σ2 Qy Qn)) :
    gTup C.K 3 (gCons (gName i) (gCons (gName j) (gCons (gName l) gNil))) u (wipe σ [i, j, l]) H fun σ2 H2 => wipe σ2 [i, j, l] = wipe σ [i, j, l] ∧ tt σ2 H2 fun b H3 => if b = true then te σ2 H3 Qy else Qn H3 := by
  subst e
  obtain ⟨a, vs, rfl, hs, q⟩ := rep_tup r
  cases q with
  | @cons _ _ v1 _ r1 q => cases q with
    | @cons _ _ v2 _ r2 q => cases q with
      | @cons _ _ v3 _ r3 q => cases q with
        | nil =>
          refine ⟨a, _, rfl, hs, rfl, v1, [v2, v3], rfl, v2, [v3], rfl, v3, [], rfl, rfl, ?_⟩
          have w : ∀ (τ : L2.St), wipe τ [i, j, l] = ((τ.set l none).set j none).set i none := fun _ => rfl
          have e3 : (((wipe σ [i, j, l]).set i (some v1)).set j (some v2)).set l (some v3) = ((σ.set i (some v1)).set j (some v2)).set l (some v3) := by
            rw [w]
            apply List.ext_getElem?
            intro k
            simp only [List.getElem?_set, List.length_set]
            repeat' split
            all_goals first | rfl | omega
          refine ⟨?_, ?_⟩
          · rw [e3, w, w]
            apply List.ext_getElem?
            intro k
            simp only [List.getElem?_set, List.length_set]
            repeat' split
            all_goals first | rfl | omega
          · have q := h _ (((L.set r1 hi).set r2 hj).set r3 hl)
            rw [← e3] at q
            exact q
theorem k0NZ {Z : Addr → Prop} {p : Addr} {H' : Hp} {ds : List PyData} {ps : List (Addr × MO)} {P : Prop} (hz : ∀ a, Z a ↔ H a = none) (L : Lo C X H σ Γ) (F : Fin C.K X H [] ps (.new (.lstZ (fun a => H a = none) ds)) (.ref p) H') (h : ∀ X', C.H0 p = none → ¬ C.X0 p → Lo C X' H' σ (Γ ++ [.tmp p (.lstZ Z ds)]) → (∀ d u, Rep C.K X H d u → Rep C.K X' H' d u) → P) : P := by
  have e : Z = fun a => H a = none := funext fun a => propext (hz a)
  subst e
  exact k0N L F h
theorem k0iZ {v : V} {H' : Hp} {ds : List PyData} {ps : List (Addr × MO)} {G : Prop} {Z : Addr → Prop} (L : Lo C X H σ Γ) (F : Fin C.K X H [] ps (.new (.lstZ Z ds)) v H') (h : Lo C X H' σ Γ → (∀ d u, Rep C.K X H d u → Rep C.K X H' d u) → Rep C.K X H' (.list ds) v → G) : G :=
  k0i L ⟨F.base, F.dom, F.mu, (by
    obtain ⟨p, e, hp, vs, h1, h2⟩ := F.res
    exact ⟨p, e, hp, vs, h1, h2.anti fun _ => .inl⟩ : RRep C.K X H H' (.new (.lst ds)) v)⟩ h
/-- a list of the body's own is lent to a call that tells new lists alone -/
theorem k0LZ {v : V} {H' : Hp} {ds : List PyData} {ps : List (Addr × MO)} {G : Prop} (L : Lo C X H σ Γ) (F : Fin C.K X0 H [] ps (.new (.lstZ (fun a => H a = none) ds)) v H') (h : Lo C X H' σ Γ → (∀ d u, Rep C.K X H d u → Rep C.K X H' d u) → Rep C.K X H' (.list ds) v → G) : G := by
  have s : Same H H' := fun a o e => F.base a o e (by simp)
  obtain ⟨p, rfl, hp, vs, h1, h2⟩ := F.res
  refine h (L.same s) (fun _ _ r => r.keep (.same s)) (.lst (fun z => L.xd p z hp) (.inl h1) (h2.anti fun a z => .inr (.inl (L.xd a z))))
end

/-! ### xs[::h], h a sign -/
def tStep (K : PySem.W.Frag) (te ts : TE) : TE := fun σ H Q => te σ H fun x H1 => tPart ts σ H1 fun o H2 => ∃ a xs i, x = .ref a ∧ o = some i ∧ SqL K H2 a xs ∧ (i = 1 ∨ i = -1) ∧ ∀ p, H2 p = none → Q (.ref p) (upd H2 p (.lst (if i = 1 then xs else xs.reverse)))
theorem pe_step {X : Cx} {e f : Expr} {te ts : TE} {p3 pos : Pos} (he : PE X e te) (hf : PE X f ts) : PE X (.Subscript e (.Slice none none (some f) p3) pos) (tStep X.K te ts) := by
  refine ⟨fun pins s σ H Q I h => ?_⟩
  refine Subscript_ (thn (he.run pins s σ H _ I h) fun v s1 ⟨x, H1, I1, r1, q1⟩ => ?_)
  refine wpAny_Slice (thn (po_none.run pins s1 σ H1 (fun o H2 => o = none ∧ H2 = H1) I1 ⟨rfl, rfl⟩) fun vl s2 ⟨l, H2, I2, pl, el, e2⟩ => ?_)
  subst el e2
  refine thn (po_none.run pins s2 σ H2 (fun o H3 => o = none ∧ H3 = H2) I2 ⟨rfl, rfl⟩) fun vu s3 ⟨u, H3, I3, pu, eu, e3⟩ => ?_
  subst eu e3
  refine thn ((po_some hf).run pins s3 σ H3 (fun o H4 => ∃ a xs i, x = .ref a ∧ o = some i ∧ SqL X.K H4 a xs ∧ (i = 1 ∨ i = -1) ∧ ∀ p, H4 p = none → Q (.ref p) (upd H4 p (.lst (if i = 1 then xs else xs.reverse)))) I3 q1) fun vs s4 ⟨o, H4, I4, ps, a, xs, i, ex, eo, hx, hi, q⟩ => ?_
  subst ex eo
  cases r1
  have I5 : Inv X pins σ H4 { s4 with heap := s4.heap.push { cls := .type "slice", data := .fields #[vl, vu, vs] } } := I4.kept (t' := s4.toks) fun b ob q => Heap.get?_push_of_some _ q
  obtain ⟨its, r, ht, hz⟩ := I5.list hx
  have hlen := r.length
  show wpAny (model X.prog X.w) X.A (subscriptTail e (.Slice none none (some f) p3) (.ref a) (.ref s4.heap.objs.size)) (EP X pins σ Q) X.xe { s4 with heap := s4.heap.push { cls := .type "slice", data := .fields #[vl, vu, vs] } }
  refine tail_any (ops := [.ref a, .ref s4.heap.objs.size]) ht.isList.typeIs (PySem.slot_list_getitem.lookup) ?_ (by with_unfolding_all rfl)
  refine wpAny_getItem_list_slice ht.isList (Heap.IsSliceOf.new _ vl vu vs) pl pu ps (by rcases hi with e | e <;> subst e <;> decide) ?_ (by rw [List.size_toArray]; omega)
  rcases hi with e | e
  · subst e
    rw [show slicePick its.toArray none none (some 1) = its.toArray from slicePick_all its.toArray]
    rw [if_pos rfl] at q
    refine ⟨.ref _, _, I5.laid (t' := s4.toks) (o := .lst xs) (fun b ob q => Heap.get?_push_of_some _ q) (Nat.le_refl _) ?_, rfl, q _ (I5.hok.fresh (Nat.le_refl _))⟩
    exact ⟨hz, _, 0, r, Heap.get?_push_size _ rfl⟩
  · subst e
    rw [PySem.W.krv_pick]
    rw [if_neg (by decide)] at q
    refine ⟨.ref _, _, I5.laid (t' := s4.toks) (o := .lst xs.reverse) (fun b ob q => Heap.get?_push_of_some _ q) (Nat.le_refl _) ?_, rfl, q _ (I5.hok.fresh (Nat.le_refl _))⟩
    exact ⟨by rw [List.length_reverse]; exact hz, _, 0, r.reverse, Heap.get?_push_size _ rfl⟩
/-- .. of data: a new list -/
def stepG {α : Type} (xs : List α) (i : Int) : Option (List α) := if i = 1 then some xs else if i = -1 then some xs.reverse else none
section
variable {C : Cn} {X : Addr → Prop} {H : Hp} {σ : L2.St} {Γ Γ' : List Sl} {Q : VK} {α ρ : Type}
theorem x_step {te ts : TE} (h : te σ H fun x H1 => ts σ H1 fun y H2 => ∃ i, y = .int i ∧ (∃ a xs j, x = .ref a ∧ some i = some j ∧ SqL C.K H2 a xs ∧ (j = 1 ∨ j = -1) ∧ ∀ p, H2 p = none → Q (.ref p) (upd H2 p (.lst (if j = 1 then xs else xs.reverse))))) : tStep C.K te ts σ H Q := h
theorem x_stepL [Py α] {xs : List α} {i : Int} {v : V} {k : List α → Option ρ} {res : ρ} (L : Lo C X H σ Γ) (hm : (stepG xs i).bind k = some res) (r : Rep C.K X H (enc xs) v)
    (h : ∀ ys w H1, k ys = some res → Lo C X H1 σ Γ → (∀ d u, Rep C.K X H d u → Rep C.K X H1 d u) → Rep C.K X H1 (enc ys) w → Q w H1) :
    ∃ i', V.int i = .int i' ∧ (∃ a xs j, v = .ref a ∧ some i' = some j ∧ SqL C.K H a xs ∧ (j = 1 ∨ j = -1) ∧ ∀ p, H p = none → Q (.ref p) (upd H p (.lst (if j = 1 then xs else xs.reverse)))) := by
  obtain ⟨ys, hy, hk⟩ := ob hm
  obtain ⟨a, us, rfl, na, rd, q⟩ := rep_lst (ds := xs.map enc) r
  have hi : i = 1 ∨ i = -1 := by
    unfold stepG at hy
    split at hy
    · exact .inl (by assumption)
    · split at hy
      · exact .inr (by assumption)
      · cases hy
  refine ⟨i, rfl, a, us, i, rfl, rfl, .inl rd, hi, fun p hp => ?_⟩
  have fin : ∀ (zs : List α) (ws : List V), Reps C.K X H (zs.map enc) ws → ys = zs → Q (.ref p) (upd H p (.lst ws)) := fun zs ws rz e => by
    subst e
    have s : Same H (upd H p (.lst ws)) := same_upd hp
    have rr : RRep C.K X H (upd H p (.lst ws)) (.new (.lst (ys.map enc))) (.ref p) := ⟨p, rfl, hp, ws, upd_same, (rz.more hp).keep (.same s)⟩
    exact h ys _ _ hk (L.same s) (fun _ _ r => r.keep (.same s)) (rr.imm L.xd)
  rcases hi with e | e
  · subst e
    rw [if_pos rfl]
    refine fin xs us q ?_
    unfold stepG at hy
    rw [if_pos rfl] at hy
    exact (Option.some.inj hy).symm
  · subst e
    rw [if_neg (by decide)]
    refine fin xs.reverse us.reverse (by rw [List.map_reverse]; exact q.reverse) ?_
    unfold stepG at hy
    rw [if_neg (by decide), if_pos rfl] at hy
    exact (Option.some.inj hy).symm
/-- a list of which nothing is known any more -/
theorem x_tyA {i : Nat} {p : Addr} {P : Prop} (L : Lo C X H σ Γ) (g : Γ[i]? = some (.mu p .any)) (h : P) : tyV C.K "list" (.ref p) H ∧ P := by
  obtain ⟨vs, hs⟩ := L.mrep g
  exact ⟨.inl ⟨rfl, vs, .inl (.inl hs)⟩, h⟩
theorem x_clearA {i : Nat} {p : Addr} (L : Lo C X H σ Γ) (g : Γ[i]? = some (.mu p .any)) (e : Γ.set i (.mu p (.lst [])) = Γ')
    (h : ∀ H1, Lo C X H1 σ Γ' → (∀ d u, Rep C.K X H d u → Rep C.K X H1 d u) → Q .non H1) : rClear (.ref p) [] H Q := by
  subst e
  obtain ⟨vs, hs⟩ := L.mrep g
  have hX : X p := L.mx p (mem_muts.mpr ⟨i, _, g, rfl⟩)
  have kp : Keep X H (upd H p (.lst [])) := ⟨fun a u h n => by rw [upd_ne (fun z => n (by rw [z]; exact hX))]; exact h, fun a us h => by rw [upd_ne (fun z => by rw [z, hs] at h; cases h)]; exact h, fun a u w h => by rw [upd_ne (fun z => by rw [z, hs] at h; cases h)]; exact h⟩
  obtain ⟨L1, le⟩ := L.wrote (H' := upd H p (.lst [])) (o := .lst []) g rfl (fun a u h n => by rw [upd_ne n]; exact h) (fun a h => by
      by_cases z : a = p
      · rw [z, upd_same]; exact fun y => nomatch y
      · rw [upd_ne z]; exact h) ⟨[], upd_same, .nil⟩
  exact ⟨p, vs, rfl, rfl, hs, h _ L1 le⟩
end
/-! ### a told tuple of new lists -/
section
variable {C : Cn} {X : Addr → Prop} {H : Hp} {σ : L2.St} {Γ Γ' : List Sl} {Q : VK} {α β τ : Type}
theorem Lo.unfixN {Z : Addr → Prop} (L : Lo C X H σ Γ) {i : Nat} {d : PyData} (g : Γ[i]? = some (.fixN Z d)) : Lo C X H σ (Γ.set i (.imm d)) :=
  L.resl g rfl fun v ⟨u, e, r⟩ => ⟨u, e, r.anti fun _ => .inl⟩
theorem x_vfn {i : Nat} {d : PyData} {Z : Addr → Prop} (L : Lo C X H σ Γ) (e : Γ[i]? = some (.fixN Z d)) (h : ∀ v, Rep C.K X H d v → Q v H) : tVar i σ H Q := by
  obtain ⟨u, e1, r⟩ := L.at_ i _ e
  exact ⟨u, e1, h u (r.anti fun _ => .inl)⟩
theorem x_setZ {Z : Addr → Prop} {d : PyData} {i : Nat} {v : V} {N : L2.St → Hp → Prop} (L : Lo C X H σ Γ) (r : Rep C.K (NewX X Z H) H d v) (hi : i < C.n) (e : Γ.set i (.fixN Z d) = Γ') (h : ∀ σ', Lo C X H σ' Γ' → N σ' H) : gName i v σ H N := by
  subst e
  exact h _ (L.setS (i := i) (v := some v) (s := .fixN Z d) rfl ⟨v, rfl, r⟩ hi)
theorem x_mkTS {ds : List PyData} {vs : List V} (L : Lo C X H σ Γ) (q : Reps C.K X H ds vs) (hl : vs.length ≤ 16777216) (h : ∀ v H1, Same H H1 → Lo C X H1 σ Γ → (∀ d u, Rep C.K X H d u → Rep C.K X H1 d u) → Rep C.K X H1 (.tuple ds) v → Q v H1) : KTup Q vs H := by
  refine ⟨by rw [line_eq]; exact hl, fun p hp => ?_⟩
  have s : Same H (upd H p (.tup vs)) := same_upd hp
  exact h _ _ s (L.same s) (fun _ _ r => r.keep (.same s)) (.tup (.inl (.inl upd_same)) (q.keep (.same s)))
theorem x_listZ [Py α] [Flat α] {Z : Addr → Prop} {xs : List α} {v : V} (hz : ∀ a, ¬ Z a → H a ≠ none) (L : Lo C X H σ Γ) (r : Rep C.K X H (enc xs) v) (h : ∀ v H1, Lo C X H1 σ Γ → (∀ d u, Rep C.K X H d u → Rep C.K X H1 d u) → Rep C.K (NewX X Z H1) H1 (enc xs) v → Q v H1) : rListX C.K [v] H Q := by
  obtain ⟨a, vs, rfl, _, hs, q⟩ := rep_lst (ds := xs.map enc) r
  refine ⟨a, vs, rfl, .inl (.inl hs), fun p hp => ?_⟩
  have s : Same H (upd H p (.lst vs)) := same_upd hp
  refine h _ _ (L.same s) (fun _ _ r => r.keep (.same s)) (.lst (fun z => z.elim (fun z => L.xd p z hp) fun z => z.elim (fun z => hz p z hp) fun ⟨_, _, z⟩ => by rw [upd_same] at z; cases z) (.inl upd_same) ?_)
  exact (q.keep (.same s)).flat
theorem k0dN {v : V} {H' : Hp} {d : PyData} {ps : List (Addr × MO)} {P : Prop} {Z : Addr → Prop} (hz : ∀ a, Z a ↔ H a = none) (L : Lo C X H σ Γ) (F : Fin C.K X H [] ps (.immN (fun a => H a = none) d) v H') (h : Lo C X H' σ Γ → (∀ d u, Rep C.K X H d u → Rep C.K X H' d u) → Rep C.K (NewX X Z H') H' d v → P) : P := by
  have e : Z = fun a => H a = none := funext fun a => propext (hz a)
  subst e
  have s : Same H H' := fun a o e => F.base a o e (by simp)
  exact h (L.same s) (fun _ _ r => r.keep (.same s)) F.res
/-- x[0].clear() -/
theorem x_dclr1 [Py α] [Py β] {γ : Type} [Py γ] {z : T3 (List α) β γ} {Z : Addr → Prop} {i : Nat} {nx bk ct : L2.St → Hp → Prop} {rt : VK} (L : Lo C X H σ Γ) (hZ : ∀ a, Z a → C.H0 a = none)
    (g : Γ[i]? = some (.fixN Z (enc z))) (old : ∀ s ∈ Γ.set i .unk, OldS Z s) (e : Γ.set i .unk = Γ') (done : ∀ H', Lo C X H' σ Γ' → nx σ H') :
    tDrop (tBM0 C.K "list" rClear (tOp (rIxT C.K) (tVar i) (tC (.int 0)))) ⟨nx, rt, bk, ct⟩ σ H := by
  subst e
  have L1 : Lo C X H σ (Γ.set i .unk) := L.resl g rfl fun _ _ => trivial
  obtain ⟨u, eu, r⟩ := L.at_ i _ g
  obtain ⟨a, ws, rfl, hs, q⟩ := rep_tup (ds := [enc z.a, enc z.b, enc z.c]) r
  cases q with
  | cons q1 q2 =>
    obtain ⟨b, us, rfl, nb, rd, _⟩ := rep_lst (ds := z.a.map enc) q1
    have rd' : H b = some (.lst us) := by
      rcases rd with rd | ⟨o, rd⟩
      · exact rd
      · exact (nb (.inr (.inr ⟨_, _, rd⟩))).elim
    have zb : Z b := Classical.not_not.mp fun h => nb (.inr (.inl h))
    refine x_drop (x_bm0 ?_)
    refine ⟨.ref a, eu, ?_⟩
    refine ⟨a, .ref b :: _, 0, .ref b, rfl, rfl, hs, atI_zero, ?_⟩
    refine ⟨.inl ⟨rfl, us, .inl (.inl rd')⟩, ?_⟩
    exact ⟨b, us, rfl, rfl, rd', done _ (L1.clrZ (hZ b zb) (fun h => nb (.inl h)) zb rd' old)⟩
end
def m__law_cell (a__law_script : (List Int)) (a__law_k : Int) : Option Int :=
 if (decide (a__law_k < (a__law_script.length : Int))) = true then
 ((ix a__law_script a__law_k).bind fun x1 =>
 some x1)
 else
 (some 0)
def m__law_bag (a__law_cell_here : Int) : Option (List Int) :=
 some ([(a__law_cell_here * (b2 ((decide (1000000000000000000 ≤ a__law_cell_here))))), (a__law_cell_here % 2147483647)])
def m__law_digit (a__law_bag_here : (List Int)) (a__law_many : Int) : Option (Int × (List Int)) :=
 (ix a__law_bag_here 0).bind fun x1 =>
 if (decide (0 < x1)) = true then
 ((ix a__law_bag_here 0).bind fun x2 =>
 (modG x2 a__law_many).bind fun z1 =>
 (ix a__law_bag_here 0).bind fun x3 =>
 (divG x3 a__law_many).bind fun z2 =>
 (setI a__law_bag_here 0 z2).bind fun y1 =>
 some ((z1, y1)))
 else
 ((ix a__law_bag_here 1).bind fun x4 =>
 (setI a__law_bag_here 1 ((((x4 * 48271) + 11) % 2147483647))).bind fun y2 =>
 (ix y2 1).bind fun x5 =>
 (modG ((((x5 * 16807) % 2147483629) / 8)) a__law_many).bind fun z3 =>
 some ((z3, y2)))
def m__law_point (a__law_a : Int) (a__law_b : Int) (a__law_n : Int) : Option (T3 Int Int Int) :=
 (some ((iabs a__law_a))).bind fun (one_1 : Int) =>
 (foldO (fun (x1 : Int) (s1 : Int) =>
 ((loopW (ρ := Empty) (fun (s3 : (Int × Int)) =>
 (if (decide (0 < s3.2)) = true then
 ((modG s3.1 s3.2).bind fun z1 =>
 some (.nxt ((s3.2, z1))))
 else
 (some (.brk ((s3.1, s3.2)))))) (x1.natAbs + 2) ((s1, x1))).bind fun o => o.out (fun (e : Empty) => e.elim) fun (s4 : (Int × Int)) =>
 some s4.1)) [(iabs a__law_b), a__law_n] one_1).bind fun (s2 : Int) =>
 (divG a__law_a s2).bind fun z2 =>
 (divG a__law_b s2).bind fun z3 =>
 (divG a__law_n s2).bind fun z4 =>
 some ((T3.mk z2 z3 z4))
def m__law_step (a__law_bag_here : (List Int)) (a__law_most : Int) : Option ((T3 Int Int Int) × (List Int)) :=
 (m__law_digit a__law_bag_here 4).bind fun z1 =>
 (ix ([1, 1, 2, 5]) z1.1).bind fun x1 =>
 (m__law_digit z1.2 (((2 * a__law_most) + 1))).bind fun z2 =>
 (m__law_digit z2.2 (((2 * a__law_most) + 1))).bind fun z3 =>
 (m__law_point ((z2.1 - a__law_most)) ((z3.1 - a__law_most)) x1).bind fun z4 =>
 some ((z4, z3.2))
def m__law_slid (a__law_p : (T3 Int Int Int)) (a__law_v : (T3 Int Int Int)) : Option (T3 Int Int Int) :=
 (mulG a__law_p.a a__law_v.c).bind fun z1 =>
 (mulG a__law_v.a a__law_p.c).bind fun z2 =>
 (mulG a__law_p.b a__law_v.c).bind fun z3 =>
 (mulG a__law_v.b a__law_p.c).bind fun z4 =>
 (mulG a__law_p.c a__law_v.c).bind fun z5 =>
 (m__law_point ((z1 + z2)) ((z3 + z4)) z5).bind fun z6 =>
 some z6
def m__law_place (a__law_bag_here : (List Int)) (a__law_most : Int) : Option ((T3 Int Int Int) × (List Int)) :=
 (m__law_digit a__law_bag_here 5).bind fun z1 =>
 (ix ([1, 1, 1, 2, 3]) z1.1).bind fun x1 =>
 (mulG a__law_most x1).bind fun z2 =>
 (m__law_digit z1.2 ((z2 + 1))).bind fun z3 =>
 (mulG a__law_most x1).bind fun z4 =>
 (m__law_digit z3.2 ((z4 + 1))).bind fun z5 =>
 (m__law_point z3.1 z5.1 x1).bind fun z6 =>
 some ((z6, z5.2))
def m__law_side (a__law_p : (T3 Int Int Int)) (a__law_q : (T3 Int Int Int)) (a__law_r : (T3 Int Int Int)) : Option Int :=
 (mulG a__law_q.b a__law_r.c).bind fun z1 =>
 (mulG a__law_q.c a__law_r.b).bind fun z2 =>
 (mulG a__law_p.a ((z1 - z2))).bind fun z3 =>
 (mulG a__law_q.a a__law_r.c).bind fun z4 =>
 (mulG a__law_q.c a__law_r.a).bind fun z5 =>
 (mulG a__law_p.b ((z4 - z5))).bind fun z6 =>
 (some ((z3 - z6))).bind fun (found_1 : Int) =>
 (mulG a__law_q.a a__law_r.b).bind fun z7 =>
 (mulG a__law_q.b a__law_r.a).bind fun z8 =>
 (mulG a__law_p.c ((z7 - z8))).bind fun z9 =>
 (some ((found_1 + z9))).bind fun (found_2 : Int) =>
 some (((b2 ((decide (0 < found_2)))) - (b2 ((decide (found_2 < 0))))))
def m__law_three (a__law_bag_here : (List Int)) (a__law_most : Int) : Option ((List (T3 Int Int Int)) × (List Int)) :=
 (mapS (fun (x1 : Int) (s1 : (List Int)) =>
 ((m__law_place s1 a__law_most).bind fun z1 =>
 some (z1.1, z1.2))) (rangeL 0 3) a__law_bag_here).bind fun q1 =>
 (ix q1.1 0).bind fun x2 =>
 (ix q1.1 1).bind fun x3 =>
 (ix q1.1 2).bind fun x4 =>
 (m__law_side x2 x3 x4).bind fun z2 =>
 if (decide (z2 = 0)) = true then
 (some (([(T3.mk 0 0 1), (T3.mk a__law_most 1 1), (T3.mk 1 a__law_most 1)], q1.2)))
 else
 ((stepG q1.1 z2).bind fun ys1 =>
 some ((ys1, q1.2)))
def m__law_is_point (a__law_p : (T3 Int Int Int)) : Option Bool :=
 if ((!true) || (!decide (3 = 3))) = true then
 (some false)
 else
 ((loopL (ρ := Bool) (fun (x1 : Int) (s1 : Unit) =>
 (if ((!true) || false) = true then
 (some (.ret false))
 else
 (some (.nxt (()))))) [a__law_p.a, a__law_p.b, a__law_p.c] (())).bind fun o => o.out (fun r => some r) fun (s2 : Unit) =>
 (if (decide (0 < a__law_p.c)) = true then
 ((m__law_point a__law_p.a a__law_p.b a__law_p.c).bind fun z2 =>
 some ((decide (z2 = a__law_p))))
 else some false).bind fun b1 =>
 some b1)
def m__law_is_convex (a__law_ring : (List (T3 Int Int Int))) : Option Bool :=
 if ((!true) || (decide ((a__law_ring.length : Int) < 3))) = true then
 (some false)
 else
 ((lenOk a__law_ring.length).bind fun _ =>
 (filO (fun (x1 : (T3 Int Int Int)) =>
 ((m__law_is_point x1).bind fun z1 =>
 if (!z1) = true then
 (some (some x1))
 else
 (some none))) a__law_ring).bind fun ys1 =>
 if (decide (0 < (ys1.length : Int))) = true then
 (some false)
 else
 ((rngOk ((a__law_ring.length : Int))).bind fun _ =>
 (loopL (ρ := Bool) (fun (x2 : Int) (s2 : Unit) =>
 ((rngOk ((a__law_ring.length : Int))).bind fun _ =>
 (loopL (ρ := Bool) (fun (x3 : Int) (s4 : Unit) =>
 ((if (!decide (x3 = x2)) = true then
 ((modG ((x2 + 1)) ((a__law_ring.length : Int))).bind fun z3 =>
 some ((!decide (x3 = z3))))
 else some false).bind fun b1 =>
 if b1 = true then
 ((ix a__law_ring x2).bind fun x4 =>
 (modG ((x2 + 1)) ((a__law_ring.length : Int))).bind fun z4 =>
 (ix a__law_ring z4).bind fun x5 =>
 (ix a__law_ring x3).bind fun x6 =>
 (m__law_side x4 x5 x6).bind fun z5 =>
 if (!decide (z5 = 1)) = true then
 (some (.ret false))
 else
 (some (.nxt (()))))
 else
 (some (.nxt (()))))) (rangeL 0 ((a__law_ring.length : Int)).toNat) (())).bind fun o => o.out (fun r => some (.ret r)) fun (s5 : Unit) =>
 some (.nxt (())))) (rangeL 0 ((a__law_ring.length : Int)).toNat) (())).bind fun o => o.out (fun r => some r) fun (s3 : Unit) =>
 some true))
def m__law_bulging (a__law_bag_here : (List Int)) (a__law_most : Int) : Option ((List (T3 Int Int Int)) × (List Int)) :=
 (m__law_three a__law_bag_here a__law_most).bind fun z1 =>
 (m__law_digit z1.2 3).bind fun z2 =>
 (rngOk z2.1).bind fun _ =>
 (foldO (fun (x1 : Int) (s1 : ((List Int) × (List (T3 Int Int Int)))) =>
 ((m__law_place s1.1 a__law_most).bind fun z3 =>
 (rngOk ((s1.2.length : Int))).bind fun _ =>
 (loopL (ρ := Empty) (fun (x2 : Int) (s3 : (List (T3 Int Int Int))) =>
 ((lenOk (((slice s3 none (some x2))).length + ([z3.1]).length)).bind fun _ =>
 (lenOk ((((slice s3 none (some x2)) ++ [z3.1])).length + ((slice s3 (some x2) none)).length)).bind fun _ =>
 (some ((((slice s3 none (some x2)) ++ [z3.1]) ++ (slice s3 (some x2) none)))).bind fun (more_1 : (List (T3 Int Int Int))) =>
 (m__law_is_convex more_1).bind fun z4 =>
 if z4 = true then
 (some (.brk more_1))
 else
 (some (.nxt s3)))) (rangeL 0 ((s1.2.length : Int)).toNat) s1.2).bind fun o => o.out (fun (e : Empty) => e.elim) fun (s4 : (List (T3 Int Int Int))) =>
 some ((z3.2, s4)))) (rangeL 0 z2.1.toNat) ((z2.2, z1.1))).bind fun (s2 : ((List Int) × (List (T3 Int Int Int)))) =>
 some ((s2.2, s2.1))
def m__law_sheet (a__law_bag_here : (List Int)) (a__law_most : Int) (a__law_many : Int) : Option ((List (T3 (List (T3 Int Int Int)) Bool (T3 Int Int Int))) × (List Int)) :=
 (m__law_digit a__law_bag_here a__law_many).bind fun z1 =>
 (rngOk ((1 + z1.1))).bind fun _ =>
 (foldO (fun (x1 : Int) (s1 : ((List Int) × (List (T3 (List (T3 Int Int Int)) Bool (T3 Int Int Int))))) =>
 ((m__law_step s1.1 a__law_most).bind fun z2 =>
 (m__law_slid z2.1 ((T3.mk ((13 * x1)) 0 1))).bind fun z3 =>
 (m__law_bulging z2.2 a__law_most).bind fun z4 =>
 (m__law_digit z4.2 2).bind fun z5 =>
 (lenOk (s1.2.length + 1)).bind fun _ =>
 some ((z5.2, (s1.2 ++ [(T3.mk z4.1 ((decide (z5.1 = 1))) z3)]))))) (rangeL 0 ((1 + z1.1)).toNat) ((z1.2, ([] : (List (T3 (List (T3 Int Int Int)) Bool (T3 Int Int Int))))))).bind fun (s2 : ((List Int) × (List (T3 (List (T3 Int Int Int)) Bool (T3 Int Int Int))))) =>
 some ((s2.2, s2.1))
def m_fresh (a_ring : (List (T3 Int Int Int))) : Option (T3 (List (T3 Int Int Int)) Bool (T3 Int Int Int)) :=
 some ((T3.mk a_ring false ((T3.mk 0 0 1))))
def m__law_is_sheet (a__law_sheet_here : (List (T3 (List (T3 Int Int Int)) Bool (T3 Int Int Int)))) : Option Bool :=
 if (!true) = true then
 (some false)
 else
 ((loopL (ρ := Bool) (fun (x1 : (T3 (List (T3 Int Int Int)) Bool (T3 Int Int Int))) (s1 : Unit) =>
 ((if (!true) = true then some true else
 ((if (!decide (3 = 3)) = true then some true else
 ((m__law_is_convex x1.a).bind fun z4 =>
 some ((!z4)))).bind fun b2 =>
 some b2)).bind fun b3 =>
 if b3 = true then
 (some (.ret false))
 else
 ((if (!true) = true then some true else
 ((m__law_is_point x1.c).bind fun z6 =>
 some ((!z6)))).bind fun b4 =>
 if b4 = true then
 (some (.ret false))
 else
 (some (.nxt (())))))) a__law_sheet_here (())).bind fun o => o.out (fun r => some r) fun (s2 : Unit) =>
 some true)
def m_turned (a_p : (T3 Int Int Int)) : Option (T3 Int Int Int) :=
 some ((T3.mk ((-a_p.a)) ((-a_p.b)) a_p.c))
def m_greatest_divisor (a_a : Int) (a_b : Int) : Option Int :=
 (some ((iabs a_a))).bind fun (one_1 : Int) =>
 (some ((iabs a_b))).bind fun (other_1 : Int) =>
 (loopW (ρ := Empty) (fun (s1 : (Int × Int)) =>
 (if (decide (0 < s1.2)) = true then
 ((modG s1.1 s1.2).bind fun z1 =>
 some (.nxt ((s1.2, z1))))
 else
 (some (.brk ((s1.1, s1.2)))))) (other_1.natAbs + 2) ((one_1, other_1))).bind fun o => o.out (fun (e : Empty) => e.elim) fun (s2 : (Int × Int)) =>
 some s2.1
def m_point (a_a : Int) (a_b : Int) (a_n : Int) : Option (T3 Int Int Int) :=
 if (decide (a_n = 0)) = true then
 (none)
 else
 ((m_greatest_divisor a_a a_n).bind fun z1 =>
 (m_greatest_divisor z1 a_b).bind fun z2 =>
 (if (decide (a_n < 0)) = true then
 ((some ((-z2))).bind fun (divisor_1 : Int) =>
 some divisor_1)
 else
 (some z2)).bind fun (s1 : Int) =>
 (divG a_a s1).bind fun z3 =>
 (divG a_b s1).bind fun z4 =>
 (divG a_n s1).bind fun z5 =>
 some ((T3.mk z3 z4 z5)))
def m_slid (a_p : (T3 Int Int Int)) (a_step : (T3 Int Int Int)) : Option (T3 Int Int Int) :=
 (mulG a_p.a a_step.c).bind fun z1 =>
 (mulG a_step.a a_p.c).bind fun z2 =>
 (mulG a_p.b a_step.c).bind fun z3 =>
 (mulG a_step.b a_p.c).bind fun z4 =>
 (mulG a_p.c a_step.c).bind fun z5 =>
 (m_point ((z1 + z2)) ((z3 + z4)) z5).bind fun z6 =>
 some z6
def m_first_ring (a_piece : (T3 (List (T3 Int Int Int)) Bool (T3 Int Int Int))) : Option (List (T3 Int Int Int)) :=
 (lenOk a_piece.a.length).bind fun _ =>
 (mapO (fun (x1 : (T3 Int Int Int)) =>
 ((m_turned a_piece.c).bind fun z1 =>
 (m_slid x1 z1).bind fun z2 =>
 some z2)) a_piece.a).bind fun ys1 =>
 if a_piece.b = true then
 ((lenOk ys1.length).bind fun _ =>
 (mapO (fun (x2 : (T3 Int Int Int)) =>
 ((m_turned x2).bind fun z3 =>
 some z3)) ys1).bind fun ys2 =>
 some ys2)
 else
 (some ys1)
def m__law_turned (a__law_p : (T3 Int Int Int)) : Option (T3 Int Int Int) :=
 some ((T3.mk ((-a__law_p.a)) ((-a__law_p.b)) a__law_p.c))
def m_law (a__law_script : (List Int)) : Option Bool :=
 (m__law_cell a__law_script 0).bind fun z1 =>
 (m__law_bag z1).bind fun z2 =>
 (m__law_sheet z2 6 6).bind fun z3 =>
 (foldO (fun (x1 : Int) (s1 : (List (T3 (List (T3 Int Int Int)) Bool (T3 Int Int Int)))) =>
 ((m__law_bag x1).bind fun z4 =>
 (m__law_sheet z4 6 2).bind fun z5 =>
 (lenOk (s1.length + z5.1.length)).bind fun _ =>
 (some ((s1 ++ z5.1))).bind fun (sheet_here_1 : (List (T3 (List (T3 Int Int Int)) Bool (T3 Int Int Int)))) =>
 some sheet_here_1)) (slice a__law_script (some 1) (some 6)) z3.1).bind fun (s2 : (List (T3 (List (T3 Int Int Int)) Bool (T3 Int Int Int)))) =>
 (loopL (ρ := Bool) (fun (x2 : (T3 (List (T3 Int Int Int)) Bool (T3 Int Int Int))) (s3 : Unit) =>
 ((loopL (ρ := Bool) (fun (x3 : Int) (s5 : Unit) =>
 ((m_fresh x2.a).bind fun z6 =>
 (if (!decide (x2.a = x2.a)) = true then some true else
 ((m__law_is_sheet ([z6])).bind fun z8 =>
 (if (!z8) = true then some true else
 (some ((!decide (z6 = (T3.mk x2.a false ((T3.mk 0 0 1)))))))).bind fun b2 =>
 some b2)).bind fun b3 =>
 if b3 = true then
 (some (.ret false))
 else
 (some (.nxt (()))))) (rangeL 0 2) (())).bind fun o => o.out (fun r => some (.ret r)) fun (s6 : Unit) =>
 (loopL (ρ := Bool) (fun (x4 : Int) (s7 : Unit) =>
 ((m_first_ring ((T3.mk x2.a x2.b x2.c))).bind fun z9 =>
 if ((!true) || ((!decide ((z9.length : Int) = (x2.a.length : Int))) || (!decide (x2.a = x2.a)))) = true then
 (some (.ret false))
 else
 ((rngOk ((x2.a.length : Int))).bind fun _ =>
 (loopL (ρ := Bool) (fun (x5 : Int) (s9 : Unit) =>
 ((ix z9 x5).bind fun x6 =>
 (m__law_is_point x6).bind fun z10 =>
 if (!z10) = true then
 (some (.ret false))
 else
 ((if x2.b = true then
 ((m__law_turned x6).bind fun z11 =>
 some z11)
 else
 (some x6)).bind fun (s11 : (T3 Int Int Int)) =>
 (m__law_slid s11 x2.c).bind fun z12 =>
 (ix x2.a x5).bind fun x7 =>
 if (!decide (z12 = x7)) = true then
 (some (.ret false))
 else
 (some (.nxt (())))))) (rangeL 0 ((x2.a.length : Int)).toNat) (())).bind fun o => o.out (fun r => some (.ret r)) fun (s10 : Unit) =>
 some (.nxt (()))))) (rangeL 0 2) (())).bind fun o => o.out (fun r => some (.ret r)) fun (s8 : Unit) =>
 some (.nxt (())))) s2 (())).bind fun o => o.out (fun r => some r) fun (s4 : Unit) =>
 some true
/-! ### plain: loops, sizes -/
theorem foldO_inv {α τ : Type} {f : α → τ → Option τ} (I : Nat → τ → Prop) : ∀ {xs : List α} {s : τ} (k : Nat), (∀ j x s, I j s → ∃ s', f x s = some s' ∧ I (j + 1) s') → I k s → ∃ s', foldO f xs s = some s' ∧ I (k + xs.length) s'
  | [], s, k, _, h => ⟨s, rfl, h⟩
  | x :: xs, s, k, hf, h => by
    obtain ⟨s1, e1, h1⟩ := hf k x s h
    obtain ⟨s2, e2, h2⟩ := foldO_inv I (xs := xs) (k + 1) hf h1
    refine ⟨s2, ?_, by rw [List.length_cons, Nat.add_comm xs.length 1, ← Nat.add_assoc]; exact h2⟩
    show (f x s).bind _ = _
    rw [e1]; exact e2
/-- .. without a count -/
theorem foldO_inv' {α τ : Type} {f : α → τ → Option τ} (I : τ → Prop) {xs : List α} {s : τ} (hf : ∀ x s, I s → ∃ s', f x s = some s' ∧ I s') (h : I s) : ∃ s', foldO f xs s = some s' ∧ I s' :=
  foldO_inv (fun _ => I) 0 (fun _ => hf) h
/-- a loop that is never left early -/
theorem loopL_inv {α τ ρ : Type} {f : α → τ → Option (Lp τ ρ)} (I : τ → Prop) : ∀ {xs : List α} {s : τ}, (∀ x s, x ∈ xs → I s → ∃ s', f x s = some (.nxt s') ∧ I s') → I s → ∃ s', loopL f xs s = some (.nxt s') ∧ I s'
  | [], s, _, h => ⟨s, rfl, h⟩
  | x :: xs, s, hf, h => by
    obtain ⟨s1, e1, h1⟩ := hf x s List.mem_cons_self h
    obtain ⟨s2, e2, h2⟩ := loopL_inv I (xs := xs) (fun y s hy => hf y s (List.mem_cons_of_mem _ hy)) h1
    refine ⟨s2, ?_, h2⟩
    show (f x s).bind _ = _
    rw [e1]; exact e2
theorem log2_le {a n : Nat} (h : a < 2 ^ n) : a.log2 ≤ n := by
  by_cases z : a = 0
  · subst z; simp
  · exact Nat.le_of_lt ((Nat.log2_lt z).mpr h)
theorem mulG_ok (n m : Nat) {a b : Int} (ha : a.natAbs < 2 ^ n) (hb : b.natAbs < 2 ^ m) (h : n + m < 1000000) : mulG a b = some (a * b) := by
  unfold mulG
  rw [if_pos (Nat.lt_of_le_of_lt (Nat.add_le_add (log2_le ha) (log2_le hb)) h)]
theorem modG_pos {a b : Int} (h : 0 < b) : modG a b = some (a % b) := by
  unfold modG
  rw [if_pos (by omega), Int.fmod_eq_emod_of_nonneg _ (by omega)]
theorem divG_pos (n : Nat) {a b : Int} (h : 0 < b) (hb : b.natAbs < 2 ^ n) (hn : n < 9000) : divG a b = some (a / b) := by
  unfold divG
  rw [if_pos ⟨by omega, Nat.lt_of_le_of_lt (log2_le hb) hn⟩, Int.fdiv_eq_ediv_of_nonneg _ (by omega)]
theorem lenOk_ok {n : Nat} (h : n ≤ 16777216) : lenOk n = some () := by unfold lenOk; rw [if_pos h]
theorem slice_len {α : Type} (xs : List α) (lo hi : Option Int) : (slice xs lo hi).length ≤ xs.length := by
  unfold slice
  rw [List.length_take, List.length_drop]
  omega
theorem ix_lt {α : Type} {xs : List α} {k : Nat} (h : k < xs.length) : ix xs (k : Int) = some xs[k] := by
  unfold ix atI ixN
  have h1 : ¬ ((k : Int) < 0) := by omega
  simp [h]
theorem iabs_eq (i : Int) : iabs i = (i.natAbs : Int) := by unfold iabs; split <;> omega
theorem loopL_bind {α τ ρ β : Type} {f : α → τ → Option (Lp τ ρ)} {xs : List α} {s : τ} {g : Lp τ ρ → Option β} {v : β} (I : τ → Prop) (hf : ∀ x s, x ∈ xs → I s → ∃ s', f x s = some (.nxt s') ∧ I s') (h0 : I s) (hg : ∀ s', I s' → g (.nxt s') = some v) : (loopL f xs s).bind g = some v := by
  obtain ⟨s1, e, h⟩ := loopL_inv I hf h0
  rw [e]; exact hg s1 h
theorem foldO_bind {α τ β : Type} {f : α → τ → Option τ} {xs : List α} {s : τ} {g : τ → Option β} {v : β} (I : τ → Prop) (hf : ∀ x s, I s → ∃ s', f x s = some s' ∧ I s') (h0 : I s) (hg : ∀ s', I s' → g s' = some v) : (foldO f xs s).bind g = some v := by
  obtain ⟨s1, e, h⟩ := foldO_inv' I hf h0
  rw [e]; exact hg s1 h
/-! ### plain: the bag of this law -/
def Bag (xs : List Int) : Prop := ∃ a b : Int, xs = [a, b] ∧ 0 ≤ a ∧ 0 ≤ b ∧ b < 2147483647
theorem digit_ok {xs : List Int} {many : Int} (h : Bag xs) (hm : 0 < many) (hM : many < 18446744073709551616) : ∃ r ys, m__law_digit xs many = some (r, ys) ∧ Bag ys ∧ 0 ≤ r ∧ r < many := by
  obtain ⟨a, b, rfl, h1, h2, h3⟩ := h
  unfold m__law_digit
  have i0 : ∀ x y : Int, ix [x, y] 0 = some x := fun _ _ => rfl
  have i1 : ∀ x y : Int, ix [x, y] 1 = some y := fun _ _ => rfl
  have s0 : ∀ x y z : Int, setI [x, y] 0 z = some [z, y] := fun _ _ _ => rfl
  have s1 : ∀ x y z : Int, setI [x, y] 1 z = some [x, z] := fun _ _ _ => rfl
  simp only [i0, i1, s0, s1, Option.bind_some]
  by_cases z : 0 < a
  · rw [if_pos (by simpa using z), modG_pos hm, divG_pos 64 hm (by omega) (by decide)]
    exact ⟨_, _, rfl, ⟨_, _, rfl, Int.ediv_nonneg h1 (by omega), h2, h3⟩, Int.emod_nonneg _ (by omega), Int.emod_lt_of_pos _ hm⟩
  · rw [if_neg (by simpa using z)]
    have e1 : 0 ≤ (b * 48271 + 11) % 2147483647 := Int.emod_nonneg _ (by decide)
    have e2 : (b * 48271 + 11) % 2147483647 < 2147483647 := Int.emod_lt_of_pos _ (by decide)
    rw [modG_pos hm]
    exact ⟨_, _, rfl, ⟨_, _, rfl, h1, e1, e2⟩, Int.emod_nonneg _ (by omega), Int.emod_lt_of_pos _ hm⟩
theorem bag_ok (n : Int) : ∃ xs, m__law_bag n = some xs ∧ Bag xs := by
  unfold m__law_bag
  refine ⟨_, rfl, _, _, rfl, ?_, by omega, by omega⟩
  by_cases z : 1000000000000000000 ≤ n
  · rw [decide_eq_true z]; show 0 ≤ n * 1; omega
  · rw [decide_eq_false z]; show 0 ≤ n * 0; omega
theorem gcd_loop {β : Type} : ∀ (n : Nat) (a b : Int), 0 ≤ a → 0 ≤ b → b.natAbs < n →
    loopW (ρ := β) (fun (s : Int × Int) => if (decide (0 < s.2)) = true then ((modG s.1 s.2).bind fun z => some (.nxt (s.2, z))) else (some (.brk (s.1, s.2)))) n (a, b) = some (.brk ((Int.gcd a b : Int), 0))
  | 0, a, b, _, _, h => by omega
  | n + 1, a, b, ha, hb, h => by
    unfold loopW
    by_cases z : 0 < b
    · have h1 := Int.emod_nonneg a (show b ≠ 0 by omega)
      have h2 := Int.emod_lt_of_pos a z
      rw [if_pos (by simpa using z), modG_pos z]
      simp only [Option.bind_some]
      rw [gcd_loop n b (a % b) (by omega) h1 (by omega)]
      congr 4
      rw [Int.gcd_comm, Int.emod_def, Int.gcd_comm]
      rw [show a - b * (a / b) = a + b * (-(a / b)) by rw [Int.mul_neg, Int.sub_eq_add_neg]]
      rw [Int.gcd_add_mul_left_right, Int.gcd_comm]
    · have e : b = 0 := by omega
      subst e
      rw [if_neg (by simp)]
      simp only [Option.bind_some]
      rw [Int.gcd_zero_right]
      congr 3
      omega
theorem gcd_pos {a b : Int} (h : 0 < b) : (0 : Int) < (Int.gcd a b : Int) := by
  have := Int.gcd_pos_of_ne_zero_right (a := a) (b := b) (by omega)
  omega
theorem gcd_le {a b : Int} (h : 0 < b) : (Int.gcd a b : Int) ≤ b := Int.le_of_dvd h (Int.gcd_dvd_right a b)
/-- lowest terms -/
structure Low (t b : Int) (r : T2 Int Int) : Prop where
  pos : 0 < r.b
  le : r.b ≤ b
  abs : r.a.natAbs ≤ t.natAbs
  eq : r.a * b = t * r.b
  one : Int.gcd r.a r.b = 1
theorem low_mk {t b : Int} (h : 0 < b) : Low t b ⟨t / (Int.gcd t b : Int), b / (Int.gcd t b : Int)⟩ := by
  have hg := gcd_pos (a := t) h
  have h1 : (Int.gcd t b : Int) * (t / (Int.gcd t b : Int)) = t := Int.mul_ediv_cancel' (Int.gcd_dvd_left t b)
  have h2 : (Int.gcd t b : Int) * (b / (Int.gcd t b : Int)) = b := Int.mul_ediv_cancel' (Int.gcd_dvd_right t b)
  have hp : 0 < b / (Int.gcd t b : Int) := by
    rcases Int.lt_trichotomy (b / (Int.gcd t b : Int)) 0 with z | z | z
    · have := Int.mul_neg_of_pos_of_neg hg z; omega
    · rw [z, Int.mul_zero] at h2; omega
    · exact z
  refine ⟨hp, Int.ediv_le_self _ (by omega), ?_, ?_, ?_⟩
  · exact Int.natAbs_ediv_le_natAbs _ _
  · show t / _ * b = t * (b / _)
    generalize hG : (Int.gcd t b : Int) = g at *
    generalize hx : t / g = x at *
    generalize hy : b / g = y at *
    rw [← h1, ← h2]
    rw [← Int.mul_assoc, Int.mul_comm x g]
  · show Int.gcd (t / _) (b / _) = 1
    exact Int.gcd_ediv_gcd_ediv_gcd (by omega)
/-! ### plain: sizes -/
theorem pow_le {a n m : Nat} (h : a < 2 ^ n) (hn : n ≤ m) : a < 2 ^ m := Nat.lt_of_lt_of_le h (Nat.pow_le_pow_right (by decide) hn)
theorem sz_mul {a b : Int} {n m : Nat} (ha : a.natAbs < 2 ^ n) (hb : b.natAbs < 2 ^ m) : (a * b).natAbs < 2 ^ (n + m) := by
  rw [Int.natAbs_mul, Nat.pow_add]
  exact Nat.mul_lt_mul'' ha hb
theorem sz_add {a b : Int} {n : Nat} (ha : a.natAbs < 2 ^ n) (hb : b.natAbs < 2 ^ n) : (a + b).natAbs < 2 ^ (n + 1) := by
  rw [Nat.pow_succ]; omega
theorem sz_sub {a b : Int} {n : Nat} (ha : a.natAbs < 2 ^ n) (hb : b.natAbs < 2 ^ n) : (a - b).natAbs < 2 ^ (n + 1) := by
  rw [Nat.pow_succ]; omega
/-! ### plain: points -/
def g3 (a b n : Int) : Nat := Int.gcd (Int.gcd a n : Int) b
theorem g3_pos {a b n : Int} (h : n ≠ 0) : 0 < g3 a b n := by
  unfold g3
  have := Int.gcd_pos_of_ne_zero_right (a := a) (b := n) h
  exact Int.gcd_pos_of_ne_zero_left _ (by omega)
theorem g3_a {a b n : Int} : (g3 a b n : Int) ∣ a := Int.dvd_trans (Int.gcd_dvd_left _ _) (Int.gcd_dvd_left _ _)
theorem g3_n {a b n : Int} : (g3 a b n : Int) ∣ n := Int.dvd_trans (Int.gcd_dvd_left _ _) (Int.gcd_dvd_right _ _)
theorem g3_b {a b n : Int} : (g3 a b n : Int) ∣ b := Int.gcd_dvd_right _ _
theorem g3_le {a b n : Int} (h : 0 < n) : (g3 a b n : Int) ≤ n := Int.le_of_dvd h g3_n
theorem g3_mul (k a b n : Int) : g3 (k * a) (k * b) (k * n) = k.natAbs * g3 a b n := by
  unfold g3
  rw [Int.gcd_mul_left, Int.natCast_mul]
  rcases Int.natAbs_eq k with e | e
  · rw [← e, Int.gcd_mul_left]
  · have : (k.natAbs : Int) = -k := by omega
    rw [this, Int.neg_mul, Int.gcd_comm, Int.gcd_neg, Int.gcd_comm, Int.gcd_mul_left]
theorem g3_dvd {a b n d x : Int} (h : g3 a b n = 1) (ha : d ∣ a * x) (hb : d ∣ b * x) (hn : d ∣ n * x) : d ∣ x := by
  have h1 : g3 (x * a) (x * b) (x * n) = x.natAbs := by rw [g3_mul, h, Nat.mul_one]
  have h2 : d ∣ (g3 (x * a) (x * b) (x * n) : Int) := by
    unfold g3
    exact Int.dvd_coe_gcd (Int.dvd_coe_gcd (by rw [Int.mul_comm]; exact ha) (by rw [Int.mul_comm]; exact hn)) (by rw [Int.mul_comm]; exact hb)
  rw [h1] at h2
  exact Int.dvd_natAbs.mp h2
structure Low3 (a b n : Int) (r : T3 Int Int Int) : Prop where
  pos : 0 < r.c
  le : r.c ≤ n
  sa : r.a.natAbs ≤ a.natAbs
  sb : r.b.natAbs ≤ b.natAbs
  ea : r.a * n = a * r.c
  eb : r.b * n = b * r.c
  one : g3 r.a r.b r.c = 1
structure Pt (n : Nat) (r : T3 Int Int Int) : Prop where
  pos : 0 < r.c
  sa : r.a.natAbs < 2 ^ n
  sb : r.b.natAbs < 2 ^ n
  sc : r.c.natAbs < 2 ^ n
  one : g3 r.a r.b r.c = 1
theorem Pt.mono {n m : Nat} {r : T3 Int Int Int} (h : Pt n r) (hn : n ≤ m) : Pt m r := ⟨h.pos, pow_le h.sa hn, pow_le h.sb hn, pow_le h.sc hn, h.one⟩
theorem Low3.pt {a b n : Int} {r : T3 Int Int Int} {k : Nat} (w : Low3 a b n r) (ha : a.natAbs < 2 ^ k) (hb : b.natAbs < 2 ^ k) (hn : n.natAbs < 2 ^ k) : Pt k r :=
  ⟨w.pos, Nat.lt_of_le_of_lt w.sa ha, Nat.lt_of_le_of_lt w.sb hb, Nat.lt_of_le_of_lt (by have := w.pos; have := w.le; omega) hn, w.one⟩
theorem low3_mk {a b n : Int} (h : 0 < n) : Low3 a b n ⟨a / (g3 a b n : Int), b / (g3 a b n : Int), n / (g3 a b n : Int)⟩ := by
  have hg : (0 : Int) < (g3 a b n : Int) := by have := g3_pos (a := a) (b := b) (n := n) (by omega); omega
  have h1 : (g3 a b n : Int) * (a / (g3 a b n : Int)) = a := Int.mul_ediv_cancel' g3_a
  have h2 : (g3 a b n : Int) * (b / (g3 a b n : Int)) = b := Int.mul_ediv_cancel' g3_b
  have h3 : (g3 a b n : Int) * (n / (g3 a b n : Int)) = n := Int.mul_ediv_cancel' g3_n
  have hp : 0 < n / (g3 a b n : Int) := by
    rcases Int.lt_trichotomy (n / (g3 a b n : Int)) 0 with z | z | z
    · have := Int.mul_neg_of_pos_of_neg hg z; omega
    · rw [z, Int.mul_zero] at h3; omega
    · exact z
  have h4 := g3_mul (g3 a b n : Int) (a / (g3 a b n : Int)) (b / (g3 a b n : Int)) (n / (g3 a b n : Int))
  rw [h1, h2, h3] at h4
  have h5 : g3 (a / (g3 a b n : Int)) (b / (g3 a b n : Int)) (n / (g3 a b n : Int)) = 1 := by
    have e : ((g3 a b n : Nat) : Int).natAbs = g3 a b n := Int.natAbs_natCast _
    rw [e] at h4
    exact Nat.eq_of_mul_eq_mul_left (show 0 < g3 a b n by omega) (by rw [Nat.mul_one]; exact h4.symm)
  refine ⟨hp, Int.ediv_le_self _ (by omega), Int.natAbs_ediv_le_natAbs _ _, Int.natAbs_ediv_le_natAbs _ _, ?_, ?_, h5⟩
  · show a / _ * n = a * (n / _)
    generalize hG : (g3 a b n : Int) = g at *
    generalize hx : a / g = x at *
    generalize hy : n / g = y at *
    rw [← h1, ← h3]; grind
  · show b / _ * n = b * (n / _)
    generalize hG : (g3 a b n : Int) = g at *
    generalize hx : b / g = x at *
    generalize hy : n / g = y at *
    rw [← h2, ← h3]; grind
theorem pt_same {p q : T3 Int Int Int} (h1 : 0 < p.c) (h2 : 0 < q.c) (g1 : g3 p.a p.b p.c = 1) (g2 : g3 q.a q.b q.c = 1) (ea : p.a * q.c = q.a * p.c) (eb : p.b * q.c = q.b * p.c) : p = q := by
  obtain ⟨a, b, c⟩ := p
  obtain ⟨x, y, z⟩ := q
  simp only at *
  have d1 : c ∣ z := g3_dvd g1 ⟨x, by rw [ea, Int.mul_comm]⟩ ⟨y, by rw [eb, Int.mul_comm]⟩ ⟨z, rfl⟩
  have d2 : z ∣ c := g3_dvd g2 ⟨a, by rw [← ea, Int.mul_comm]⟩ ⟨b, by rw [← eb, Int.mul_comm]⟩ ⟨c, rfl⟩
  have l1 := Int.le_of_dvd h2 d1
  have l2 := Int.le_of_dvd h1 d2
  have e : c = z := by omega
  subst e
  have e1 : a = x := Int.eq_of_mul_eq_mul_right (by omega) ea
  have e2 : b = y := Int.eq_of_mul_eq_mul_right (by omega) eb
  rw [e1, e2]
theorem Low3.is' {a b n : Int} {r q : T3 Int Int Int} (w : Low3 a b n r) (hn : 0 < n) (h : 0 < q.c) (g : g3 q.a q.b q.c = 1) (ea : q.a * n = a * q.c) (eb : q.b * n = b * q.c) : r = q := by
  refine pt_same w.pos h w.one g ?_ ?_
  · have h1 := w.ea
    refine Int.eq_of_mul_eq_mul_right (show n ≠ 0 by omega) ?_
    grind
  · have h1 := w.eb
    refine Int.eq_of_mul_eq_mul_right (show n ≠ 0 by omega) ?_
    grind
theorem Low3.is {a b n : Int} {r q : T3 Int Int Int} {k : Nat} (w : Low3 a b n r) (hn : 0 < n) (h : Pt k q) (ea : q.a * n = a * q.c) (eb : q.b * n = b * q.c) : r = q := w.is' hn h.pos h.one ea eb
theorem Low3.both {a b n : Int} {r q : T3 Int Int Int} (w : Low3 a b n r) (v : Low3 a b n q) (hn : 0 < n) : r = q := w.is' hn v.pos v.one v.ea v.eb
/-! ### plain: lists by place -/
theorem foldO_at {α τ : Type} {f : α → τ → Option τ} (I : Nat → τ → Prop) : ∀ {xs : List α} {s : τ} (k : Nat), (∀ j x s, xs[j]? = some x → I (k + j) s → ∃ s', f x s = some s' ∧ I (k + j + 1) s') → I k s → ∃ s', foldO f xs s = some s' ∧ I (k + xs.length) s'
  | [], s, k, _, h => ⟨s, rfl, h⟩
  | x :: xs, s, k, hf, h => by
    obtain ⟨s1, e1, h1⟩ := hf 0 x s rfl h
    obtain ⟨s2, e2, h2⟩ := foldO_at I (xs := xs) (s := s1) (k + 1) (fun j y s hy hi => by
      have := hf (j + 1) y s (by simpa using hy) (by rw [show k + (j + 1) = k + 1 + j by omega]; exact hi)
      rwa [show k + (j + 1) + 1 = k + 1 + j + 1 by omega] at this) (by simpa using h1)
    refine ⟨s2, ?_, by rw [List.length_cons, show k + (xs.length + 1) = k + 1 + xs.length by omega]; exact h2⟩
    show (f x s).bind _ = _
    rw [e1]; exact e2
theorem rangeL_len (lo : Int) (n : Nat) : (rangeL lo n).length = n := by unfold rangeL; rw [List.length_map, List.length_range]
theorem rangeL_at {lo : Int} {n j : Nat} {x : Int} (h : (rangeL lo n)[j]? = some x) : x = lo + (j : Int) ∧ j < n := by
  have hl : j < n := by
    have := (List.getElem?_eq_some_iff.mp h).1
    rwa [rangeL_len] at this
  rw [rangeL_get hl] at h
  exact ⟨(Option.some.inj h).symm, hl⟩
theorem foldO_range {τ : Type} {f : Int → τ → Option τ} {lo : Int} {n : Nat} {s : τ} (I : Nat → τ → Prop) (hf : ∀ j s, j < n → I j s → ∃ s', f (lo + (j : Int)) s = some s' ∧ I (j + 1) s') (h : I 0 s) : ∃ s', foldO f (rangeL lo n) s = some s' ∧ I n s' := by
  obtain ⟨s', e, h'⟩ := foldO_at I (xs := rangeL lo n) (s := s) (f := f) 0 (fun j x s hx hi => by
    obtain ⟨e, hl⟩ := rangeL_at hx
    subst e
    rw [Nat.zero_add] at hi ⊢
    exact hf j s hl hi) h
  rw [Nat.zero_add, rangeL_len] at h'
  exact ⟨s', e, h'⟩
theorem ix_neg {α : Type} {xs : List α} {k : Nat} (h : k < xs.length) : ix xs (-1 - (k : Int)) = some (xs[xs.length - 1 - k]'(by omega)) := by
  unfold ix atI ixN
  rw [if_neg (by omega), if_pos (by omega)]
  simp only [Option.bind_some]
  rw [show (-1 - (k : Int) + (xs.length : Int)).toNat = xs.length - 1 - k by omega]
  exact List.getElem?_eq_getElem _
theorem slice_from {α : Type} {xs : List α} {k : Nat} (h : k ≤ xs.length) : slice xs (some (k : Int)) none = xs.drop k := by
  unfold slice
  rw [HT.sIx_nat, HT.sIx_none, Nat.min_eq_left h]
  exact List.take_of_length_le (by rw [List.length_drop]; omega)
theorem slice_to {α : Type} {xs : List α} {k : Nat} (h : k ≤ xs.length) : slice xs none (some (k : Int)) = xs.take k := by
  unfold slice
  rw [HT.sIx_nat, HT.sIx_none, Nat.min_eq_left h]
  rfl
theorem mapO_all {α β : Type} {f : α → Option β} {g : α → β} : ∀ {xs : List α}, (∀ x ∈ xs, f x = some (g x)) → mapO f xs = some (xs.map g)
  | [], _ => rfl
  | x :: xs, h => by
    show (f x).bind _ = _
    rw [h x List.mem_cons_self]
    simp only [Option.bind_some]
    rw [mapO_all fun y hy => h y (List.mem_cons_of_mem _ hy)]
    rfl
/-! ### plain: closed ways -/
section
variable {α : Type}
def ps (f : α → α → Int) : α → List α → Int
  | _, [] => 0
  | a, x :: xs => f a x + ps f x xs
theorem ps_append (f : α → α → Int) : ∀ (a : α) (xs ys : List α) (b : α), xs.getLast? = some b → ps f a (xs ++ ys) = ps f a xs + ps f b ys
  | a, [], ys, b, h => by cases h
  | a, [x], ys, b, h => by cases h; simp [ps]
  | a, x :: y :: xs, ys, b, h => by
    have := ps_append f x (y :: xs) ys b (by simpa using h)
    show f a x + ps f x (y :: xs ++ ys) = f a x + ps f x (y :: xs) + ps f b ys
    rw [this]; omega
/-- once round -/
def cy (f : α → α → Int) (xs : List α) : Int := match xs.getLast? with
  | some l => ps f l xs
  | none => 0
theorem cy_rot (f : α → α → Int) (xs ys : List α) : cy f (xs ++ ys) = cy f (ys ++ xs) := by
  cases hx : xs.getLast? with
  | none => rw [List.getLast?_eq_none_iff] at hx; subst hx; simp
  | some a =>
    cases hy : ys.getLast? with
    | none => rw [List.getLast?_eq_none_iff] at hy; subst hy; simp
    | some b =>
      have e1 : (xs ++ ys).getLast? = some b := by rw [List.getLast?_append, hy]; rfl
      have e2 : (ys ++ xs).getLast? = some a := by rw [List.getLast?_append, hx]; rfl
      unfold cy
      rw [e1, e2]
      show ps f b (xs ++ ys) = ps f a (ys ++ xs)
      rw [ps_append f b xs ys a hx, ps_append f a ys xs b hy]; omega
theorem ps_one (f : α → α → Int) : ∀ (a : α) (xs : List α) (b c : α), (a :: xs).getLast? = some c → ps f a (xs ++ [b]) = ps f a xs + f c b
  | a, [], b, c, h => by cases h; simp [ps]
  | a, x :: xs, b, c, h => by
    have := ps_one f x xs b c (by simpa using h)
    show f a x + ps f x (xs ++ [b]) = f a x + ps f x xs + f c b
    rw [this]; omega
theorem ps_rev (f : α → α → Int) (hf : ∀ a b, f b a = -f a b) : ∀ (xs : List α) (a b : α), ps f b (xs.reverse ++ [a]) = -ps f a (xs ++ [b])
  | [], a, b => by simp [ps, hf a b]
  | x :: xs, a, b => by
    have ih := ps_rev f hf xs x b
    rw [List.reverse_cons]
    have e : ((b :: (xs.reverse ++ [x])).getLast?) = some x := by simp [List.getLast?_cons]
    rw [ps_one f b (xs.reverse ++ [x]) a x e, ih]
    show -ps f x (xs ++ [b]) + f x a = -(f a x + ps f x (xs ++ [b]))
    rw [hf a x]; omega
theorem cy_rev (f : α → α → Int) (hf : ∀ a b, f b a = -f a b) (xs : List α) : cy f xs.reverse = -cy f xs := by
  cases xs with
  | nil => rfl
  | cons x t =>
    obtain ⟨l, hl⟩ : ∃ l, (x :: t).getLast? = some l := by cases h : (x :: t).getLast? with
      | none => rw [List.getLast?_eq_none_iff] at h; cases h
      | some l => exact ⟨l, rfl⟩
    have e1 : (x :: t).reverse.getLast? = some x := by simp
    unfold cy
    rw [hl, e1]
    show ps f x (x :: t).reverse = -ps f l (x :: t)
    rw [List.reverse_cons, ps_rev f hf t x x, ps_one f x t x l hl]
    show -(ps f x t + f l x) = -(f l x + ps f x t)
    omega
end
abbrev P3 : Type := T3 Int Int Int
def prev (xs : List P3) (j : Nat) : P3 := xs.getD (if j = 0 then xs.length - 1 else j - 1) ⟨0, 0, 0⟩
theorem ix_prev {xs : List P3} {j : Nat} (h : j < xs.length) : ix xs ((j : Int) - 1) = some (prev xs j) := by
  unfold prev
  by_cases z : j = 0
  · subst z
    have := ix_neg (xs := xs) (k := 0) h
    rw [show (-1 : Int) - ((0 : Nat) : Int) = ((0 : Nat) : Int) - 1 by omega] at this
    rw [this, if_pos rfl, List.getD_eq_getElem?_getD, List.getElem?_eq_getElem (by omega)]
    rfl
  · have h2 : j - 1 < xs.length := by omega
    have := ix_lt h2
    rw [show ((j - 1 : Nat) : Int) = (j : Int) - 1 by omega] at this
    rw [this, if_neg z, List.getD_eq_getElem?_getD, List.getElem?_eq_getElem h2]
    rfl
theorem prev_mem {xs : List P3} {j : Nat} (h : j < xs.length) : prev xs j ∈ xs := by
  unfold prev
  rw [List.getD_eq_getElem?_getD]
  have hl : (if j = 0 then xs.length - 1 else j - 1) < xs.length := by split <;> omega
  rw [List.getElem?_eq_getElem hl]
  exact List.getElem_mem hl
/-- the sum so far -/
def St (f : P3 → P3 → Int) (xs : List P3) : Nat → Int
  | 0 => 0
  | k + 1 => St f xs k + f (prev xs k) (xs.getD k ⟨0, 0, 0⟩)
theorem st_ps (f : P3 → P3 → Int) (xs : List P3) : ∀ k, k < xs.length → St f xs k + ps f (prev xs k) (xs.drop k) = ps f (prev xs 0) xs
  | 0, h => by simp [St]
  | k + 1, h => by
    have ih := st_ps f xs k (by omega)
    rw [List.drop_eq_getElem_cons (show k < xs.length by omega)] at ih
    show St f xs k + f (prev xs k) (xs.getD k ⟨0, 0, 0⟩) + ps f (prev xs (k + 1)) (xs.drop (k + 1)) = _
    have e : xs.getD k ⟨0, 0, 0⟩ = xs[k] := by rw [List.getD_eq_getElem?_getD, List.getElem?_eq_getElem (by omega)]; rfl
    have e2 : prev xs (k + 1) = xs[k] := by
      unfold prev
      rw [if_neg (by omega), Nat.add_sub_cancel]; exact e
    rw [e2, e]
    have ih' : St f xs k + (f (prev xs k) xs[k] + ps f xs[k] (xs.drop (k + 1))) = ps f (prev xs 0) xs := ih
    omega
theorem st_cy (f : P3 → P3 → Int) (xs : List P3) (h : 0 < xs.length) : St f xs xs.length = cy f xs := by
  obtain ⟨n, hn⟩ : ∃ n, xs.length = n + 1 := ⟨xs.length - 1, by omega⟩
  have e0 : xs.getLast? = some (prev xs 0) := by
    unfold prev
    rw [List.getLast?_eq_getElem?, if_pos rfl, List.getD_eq_getElem?_getD, List.getElem?_eq_getElem (by omega)]
    rfl
  have := st_ps f xs n (by omega)
  unfold cy
  rw [e0]
  show _ = ps f (prev xs 0) xs
  rw [← this, hn, List.drop_eq_getElem_cons (show n < xs.length by omega), List.drop_eq_nil_of_le (by omega)]
  show St f xs n + f (prev xs n) (xs.getD n ⟨0, 0, 0⟩) = St f xs n + (f (prev xs n) xs[n] + 0)
  rw [List.getD_eq_getElem?_getD, List.getElem?_eq_getElem (by omega)]
  simp
/-- the bottoms of all -/
def PB : List P3 → Int
  | [] => 1
  | p :: xs => p.c * PB xs
theorem pb_append : ∀ (xs ys : List P3), PB (xs ++ ys) = PB xs * PB ys
  | [], ys => by simp [PB]
  | x :: xs, ys => by show x.c * PB (xs ++ ys) = x.c * PB xs * PB ys; rw [pb_append xs ys, Int.mul_assoc]
theorem pb_dvd : ∀ {xs : List P3} {p : P3}, p ∈ xs → p.c ∣ PB xs
  | x :: xs, p, h => by
    rcases List.mem_cons.mp h with e | e
    · subst e; exact Int.dvd_mul_right _ _
    · exact Int.dvd_trans (pb_dvd e) (Int.dvd_mul_left _ _)
theorem pb_pos : ∀ {xs : List P3}, (∀ p ∈ xs, 0 < p.c) → 0 < PB xs
  | [], _ => by decide
  | x :: xs, h => Int.mul_pos (h x List.mem_cons_self) (pb_pos fun p hp => h p (List.mem_cons_of_mem _ hp))
/-- twice the triangle with (0, 0), over P * P -/
def cr (P : Int) (p q : P3) : Int := (p.a * q.b - q.a * p.b) * ((P / p.c) * (P / q.c))
theorem cr_neg (P : Int) (p q : P3) : cr P q p = -cr P p q := by unfold cr; grind
theorem cr_eq {P : Int} {p q : P3} (hp : p.c ∣ P) (hq : q.c ∣ P) : cr P p q * (p.c * q.c) = (p.a * q.b - q.a * p.b) * (P * P) := by
  unfold cr
  have h1 := Int.ediv_mul_cancel hp
  have h2 := Int.ediv_mul_cancel hq
  generalize P / p.c = u at *
  generalize P / q.c = v at *
  grind
/-! ### plain: the sides of a closed way -/
section
variable {α β : Type}
def sdf : α → List α → List (T2 α α)
  | _, [] => []
  | a, x :: xs => ⟨a, x⟩ :: sdf x xs
def sd (xs : List α) : List (T2 α α) := match xs.getLast? with
  | some l => sdf l xs
  | none => []
theorem sdf_len : ∀ (a : α) (xs : List α), (sdf a xs).length = xs.length
  | _, [] => rfl
  | a, x :: xs => by show (sdf x xs).length + 1 = _; rw [sdf_len]; rfl
theorem sd_len (xs : List α) : (sd xs).length = xs.length := by
  unfold sd
  cases h : xs.getLast? with
  | none => rw [List.getLast?_eq_none_iff] at h; subst h; rfl
  | some l => exact sdf_len l xs
theorem sdf_at : ∀ {xs : List α} {a : α} {j : Nat} {q : α}, xs[j]? = some q → (sdf a xs)[j]? = some ⟨(a :: xs)[j]?.getD q, q⟩
  | [], _, _, _, h => by simp at h
  | x :: xs, a, 0, q, h => by simp at h; subst h; rfl
  | x :: xs, a, j + 1, q, h => by
    have := sdf_at (xs := xs) (a := x) (j := j) (q := q) (by simpa using h)
    show (sdf x xs)[j]? = _
    rw [this]
    rfl
/-- side j: the item ahead, item j -/
theorem sd_at {xs : List α} {j : Nat} (h : j < xs.length) : ∃ p q, (sd xs)[j]? = some ⟨p, q⟩ ∧ ix xs ((j : Int) - 1) = some p ∧ ix xs (j : Int) = some q ∧ p ∈ xs ∧ q ∈ xs := by
  obtain ⟨l, hl⟩ : ∃ l, xs.getLast? = some l := by
    cases h2 : xs.getLast? with
    | none => rw [List.getLast?_eq_none_iff] at h2; subst h2; simp at h
    | some l => exact ⟨l, rfl⟩
  have hq : xs[j]? = some xs[j] := List.getElem?_eq_getElem h
  have e := sdf_at (a := l) hq
  have es : sd xs = sdf l xs := by unfold sd; rw [hl]
  rw [es]
  by_cases z : j = 0
  · subst z
    refine ⟨l, xs[0], e, ?_, ix_lt h, List.mem_of_getLast? hl, List.getElem_mem h⟩
    have := ix_neg (xs := xs) (k := 0) h
    rw [show (-1 : Int) - ((0 : Nat) : Int) = ((0 : Nat) : Int) - 1 by omega] at this
    rw [this]
    rw [List.getLast?_eq_getElem?] at hl
    rw [← hl, List.getElem?_eq_getElem (by omega)]
    simp
  · have h2 : j - 1 < xs.length := by omega
    have e1 : (l :: xs)[j]?.getD xs[j] = xs[j - 1] := by
      obtain ⟨i, rfl⟩ : ∃ i, j = i + 1 := ⟨j - 1, by omega⟩
      show xs[i]?.getD _ = _
      rw [List.getElem?_eq_getElem (by omega)]
      rfl
    rw [e1] at e
    refine ⟨xs[j - 1], xs[j], e, ?_, ix_lt h, List.getElem_mem h2, List.getElem_mem h⟩
    have := ix_lt h2
    rw [show ((j - 1 : Nat) : Int) = (j : Int) - 1 by omega] at this
    exact this
theorem sd_mem {xs : List α} {p q : α} (h : ⟨p, q⟩ ∈ sd xs) : p ∈ xs ∧ q ∈ xs := by
  obtain ⟨j, hj⟩ := List.getElem?_of_mem h
  have hl := (List.getElem?_eq_some_iff.mp hj).1
  rw [sd_len] at hl
  obtain ⟨p', q', e, _, _, h1, h2⟩ := sd_at hl
  rw [hj] at e
  cases e
  exact ⟨h1, h2⟩
theorem sdf_map (f : α → β) : ∀ (a : α) (xs : List α), sdf (f a) (xs.map f) = (sdf a xs).map fun s => ⟨f s.a, f s.b⟩
  | _, [] => rfl
  | a, x :: xs => by show _ :: sdf (f x) (xs.map f) = _; rw [sdf_map f x xs]; rfl
theorem sd_map (f : α → β) (xs : List α) : sd (xs.map f) = (sd xs).map fun s => ⟨f s.a, f s.b⟩ := by
  unfold sd
  rw [List.getLast?_map]
  cases xs.getLast? with
  | none => rfl
  | some l => exact sdf_map f l xs
theorem ps_sum (f : α → α → Int) : ∀ (a : α) (xs : List α), ps f a xs = ((sdf a xs).map fun s => f s.a s.b).sum
  | _, [] => rfl
  | a, x :: xs => by show f a x + ps f x xs = _; rw [ps_sum f x xs]; rfl
theorem cy_sum (f : α → α → Int) (xs : List α) : cy f xs = ((sd xs).map fun s => f s.a s.b).sum := by
  unfold cy sd
  cases xs.getLast? with
  | none => rfl
  | some l => exact ps_sum f l xs
theorem cy_map (f : β → β → Int) (h : α → β) (xs : List α) : cy f (xs.map h) = cy (fun a b => f (h a) (h b)) xs := by
  rw [cy_sum, cy_sum, sd_map, List.map_map]
  rfl
theorem ps_tel (φ : α → Int) : ∀ (a : α) (xs : List α) (l : α), (a :: xs).getLast? = some l → ps (fun p q => φ q - φ p) a xs = φ l - φ a
  | a, [], l, h => by cases h; simp [ps]
  | a, x :: xs, l, h => by
    have := ps_tel φ x xs l (by simpa using h)
    show φ x - φ a + ps _ x xs = _
    rw [this]; omega
theorem cy_tel (φ : α → Int) (xs : List α) : cy (fun p q => φ q - φ p) xs = 0 := by
  unfold cy
  cases h : xs.getLast? with
  | none => rfl
  | some l =>
    show ps _ l xs = 0
    rw [ps_tel φ l xs l (by rw [List.getLast?_cons, h]; rfl)]; omega
theorem cy_congr {f g : α → α → Int} {xs : List α} (h : ∀ p ∈ xs, ∀ q ∈ xs, f p q = g p q) : cy f xs = cy g xs := by
  rw [cy_sum, cy_sum]
  congr 1
  refine List.map_congr_left fun s hs => ?_
  obtain ⟨p, q⟩ := s
  exact h p (sd_mem hs).1 q (sd_mem hs).2
theorem cy_add (f g : α → α → Int) (xs : List α) : cy (fun p q => f p q + g p q) xs = cy f xs + cy g xs := by
  rw [cy_sum, cy_sum, cy_sum]
  induction sd xs with
  | nil => rfl
  | cons s l ih => rw [List.map_cons, List.map_cons, List.map_cons, List.sum_cons, List.sum_cons, List.sum_cons, ih]; omega
theorem cy_mul (k : Int) (f : α → α → Int) (xs : List α) : cy (fun p q => k * f p q) xs = k * cy f xs := by
  rw [cy_sum, cy_sum]
  induction sd xs with
  | nil => simp
  | cons s l ih => rw [List.map_cons, List.map_cons, List.sum_cons, List.sum_cons, ih, Int.mul_add]
theorem cy_le {f : α → α → Int} {xs : List α} {B : Nat} (h : ∀ p ∈ xs, ∀ q ∈ xs, (f p q).natAbs ≤ B) : (cy f xs).natAbs ≤ xs.length * B := by
  rw [cy_sum, ← sd_len xs]
  have : ∀ s ∈ sd xs, (f s.a s.b).natAbs ≤ B := fun s hs => h _ (sd_mem hs).1 _ (sd_mem hs).2
  revert this
  induction sd xs with
  | nil => intro _; simp
  | cons s l ih =>
    intro this
    have h1 := this s List.mem_cons_self
    have h2 := ih fun t ht => this t (List.mem_cons_of_mem _ ht)
    rw [List.map_cons, List.sum_cons, List.length_cons, Nat.succ_mul]
    omega
end
/-! ### loops with a state -/
theorem mapS_inv {α β τ : Type} {f : α → τ → Option (β × τ)} (I : τ → Prop) (P : α → β → Prop) : ∀ {xs : List α} {s : τ}, (∀ x s, x ∈ xs → I s → ∃ y s', f x s = some (y, s') ∧ I s' ∧ P x y) → I s → ∃ ys s', mapS f xs s = some (ys, s') ∧ I s' ∧ ys.length = xs.length ∧ ∀ y ∈ ys, ∃ x ∈ xs, P x y
  | [], s, _, h => ⟨[], s, rfl, h, rfl, fun _ h => nomatch h⟩
  | x :: xs, s, hf, h => by
    obtain ⟨y, s1, e1, h1, p1⟩ := hf x s List.mem_cons_self h
    obtain ⟨ys, s2, e2, h2, l2, p2⟩ := mapS_inv I P (xs := xs) (fun x s hx => hf x s (List.mem_cons_of_mem _ hx)) h1
    refine ⟨y :: ys, s2, ?_, h2, by rw [List.length_cons, List.length_cons, l2], fun z hz => ?_⟩
    · show (f x s).bind _ = _
      rw [e1]
      show (mapS f xs s1).bind _ = _
      rw [e2]; rfl
    · rcases List.mem_cons.mp hz with e | hz
      · subst e; exact ⟨x, List.mem_cons_self, p1⟩
      · obtain ⟨w, hw, p⟩ := p2 z hz
        exact ⟨w, List.mem_cons_of_mem _ hw, p⟩
theorem compL_inv {α β τ : Type} {f : α → τ → Option (Option β × τ)} (I : τ → Prop) (P : α → β → Prop) : ∀ {xs : List α} {s : τ}, (∀ x s, x ∈ xs → I s → ∃ y s', f x s = some (y, s') ∧ I s' ∧ ∀ z, y = some z → P x z) → I s → ∃ ys s', compL f xs s = some (ys, s') ∧ I s' ∧ ys.length ≤ xs.length ∧ ∀ y ∈ ys, ∃ x ∈ xs, P x y
  | [], s, _, h => ⟨[], s, rfl, h, Nat.le_refl _, fun _ h => nomatch h⟩
  | x :: xs, s, hf, h => by
    obtain ⟨y, s1, e1, h1, p1⟩ := hf x s List.mem_cons_self h
    obtain ⟨ys, s2, e2, h2, l2, p2⟩ := compL_inv I P (xs := xs) (fun x s hx => hf x s (List.mem_cons_of_mem _ hx)) h1
    have e3 : ∀ y', y' = y → compL f (x :: xs) s = some ((match y' with | some z => z :: ys | none => ys), s2) := by
      intro y' ey
      subst ey
      show (f x s).bind _ = _
      rw [e1]
      show (compL f xs s1).bind _ = _
      rw [e2]; rfl
    have e3 := e3 y rfl
    cases y with
    | none => exact ⟨ys, s2, e3, h2, by rw [List.length_cons]; omega, fun z hz => by
        obtain ⟨w, hw, p⟩ := p2 z hz
        exact ⟨w, List.mem_cons_of_mem _ hw, p⟩⟩
    | some y => exact ⟨y :: ys, s2, e3, h2, by rw [List.length_cons, List.length_cons]; omega, fun z hz => by
        rcases List.mem_cons.mp hz with e | hz
        · subst e; exact ⟨x, List.mem_cons_self, p1 _ rfl⟩
        · obtain ⟨w, hw, p⟩ := p2 z hz
          exact ⟨w, List.mem_cons_of_mem _ hw, p⟩⟩
theorem slice_sub {α : Type} {xs : List α} {lo hi : Option Int} {x : α} (h : x ∈ slice xs lo hi) : x ∈ xs := by
  unfold slice at h
  exact List.mem_of_mem_drop (List.mem_of_mem_take h)
theorem rngOk_ok {n : Int} (h1 : -1000000 ≤ n) (h2 : n ≤ 1000000) : rngOk n = some () := by unfold rngOk; rw [if_pos (by omega)]
theorem rangeL_mem {lo : Int} {n : Nat} {x : Int} (h : x ∈ rangeL lo n) : lo ≤ x ∧ x < lo + (n : Int) := by
  obtain ⟨j, hj⟩ := List.getElem?_of_mem h
  obtain ⟨e, l⟩ := rangeL_at hj
  omega
/-- a loop that tells whether all turns pass -/
theorem loopL_all {α ρ : Type} {f : α → Unit → Option (Lp Unit ρ)} {r : ρ} (P : α → Prop) : ∀ {xs : List α}, (∀ x ∈ xs, (P x ∧ f x () = some (.nxt ())) ∨ (¬ P x ∧ f x () = some (.ret r))) → ((∀ x ∈ xs, P x) ∧ loopL f xs () = some (.nxt ())) ∨ ((∃ x ∈ xs, ¬ P x) ∧ loopL f xs () = some (.ret r))
  | [], _ => .inl ⟨fun _ h => (nomatch h), rfl⟩
  | x :: xs, h => by
    rcases h x List.mem_cons_self with ⟨p, e⟩ | ⟨p, e⟩
    · rcases loopL_all P (xs := xs) fun y hy => h y (List.mem_cons_of_mem _ hy) with ⟨q, e2⟩ | ⟨⟨y, hy, q⟩, e2⟩
      · refine .inl ⟨fun y hy => ?_, ?_⟩
        · rcases List.mem_cons.mp hy with z | hy
          · subst z; exact p
          · exact q y hy
        · show (f x ()).bind _ = _
          rw [e]; exact e2
      · refine .inr ⟨⟨y, List.mem_cons_of_mem _ hy, q⟩, ?_⟩
        show (f x ()).bind _ = _
        rw [e]; exact e2
    · refine .inr ⟨⟨x, List.mem_cons_self, p⟩, ?_⟩
      show (f x ()).bind _ = _
      rw [e]; rfl
/-! ### plain: places in the plane, over one bottom -/
abbrev P2 : Type := T2 Int Int
def cr2 (p q : P2) : Int := p.a * q.b - q.a * p.b
def crs3 (o p q : P2) : Int := (p.a - o.a) * (q.b - o.b) - (p.b - o.b) * (q.a - o.a)
def hd (n : Int) (p : P2) : P3 := ⟨p.a / (g3 p.a p.b n : Int), p.b / (g3 p.a p.b n : Int), n / (g3 p.a p.b n : Int)⟩
theorem hd_low {n : Int} (hn : 0 < n) (p : P2) : Low3 p.a p.b n (hd n p) := low3_mk hn
theorem filO_all {α : Type} {f : α → Option (Option α)} {c : α → Bool} : ∀ {xs : List α}, (∀ x ∈ xs, f x = some (if c x = true then some x else none)) → filO f xs = some (xs.filter c)
  | [], _ => rfl
  | x :: xs, h => by
    show (f x).bind _ = _
    rw [h x List.mem_cons_self, Option.bind_some, filO_all fun y hy => h y (List.mem_cons_of_mem _ hy), Option.bind_some, List.filter_cons]
    cases c x <;> rfl
theorem ix_map {α β : Type} (f : α → β) (xs : List α) (i : Int) : ix (xs.map f) i = (ix xs i).map f := by
  unfold ix atI
  rw [List.length_map]
  cases ixN xs.length i with
  | none => rfl
  | some j => exact List.getElem?_map
/-! ### plain: points over one bottom -/
/-- r is u over P -/
structure Ov (P : Int) (r : P3) (u : P2) : Prop where
  pos : 0 < r.c
  ea : r.a * P = u.a * r.c
  eb : r.b * P = u.b * r.c
  one : g3 r.a r.b r.c = 1
theorem Ov.dvd {P : Int} {r : P3} {u : P2} (h : Ov P r u) : r.c ∣ P := g3_dvd h.one ⟨u.a, by rw [h.ea, Int.mul_comm]⟩ ⟨u.b, by rw [h.eb, Int.mul_comm]⟩ ⟨P, rfl⟩
theorem Ov.a {P : Int} {r : P3} {u : P2} (h : Ov P r u) : r.a * (P / r.c) = u.a := by
  obtain ⟨k, hk⟩ := h.dvd
  have hp := h.pos
  have e : P / r.c = k := by rw [hk, Int.mul_ediv_cancel_left _ (by omega)]
  rw [e]
  refine Int.eq_of_mul_eq_mul_right (show r.c ≠ 0 by omega) ?_
  rw [← h.ea, hk, Int.mul_assoc, Int.mul_comm k]
theorem Ov.b {P : Int} {r : P3} {u : P2} (h : Ov P r u) : r.b * (P / r.c) = u.b := by
  obtain ⟨k, hk⟩ := h.dvd
  have hp := h.pos
  have e : P / r.c = k := by rw [hk, Int.mul_ediv_cancel_left _ (by omega)]
  rw [e]
  refine Int.eq_of_mul_eq_mul_right (show r.c ≠ 0 by omega) ?_
  rw [← h.eb, hk, Int.mul_assoc, Int.mul_comm k]
theorem cr_ov {P : Int} {r s : P3} {u v : P2} (h : Ov P r u) (g : Ov P s v) : cr P r s = cr2 u v := by
  unfold cr cr2
  rw [← h.a, ← h.b, ← g.a, ← g.b]
  grind
theorem hd_ov {n : Int} (hn : 0 < n) (p : P2) : Ov n (hd n p) p := by
  have w := hd_low hn p
  exact ⟨w.pos, w.ea, w.eb, w.one⟩
theorem hd_pt {n : Int} (hn : 0 < n) {p : P2} {k : Nat} (ha : p.a.natAbs < 2 ^ k) (hb : p.b.natAbs < 2 ^ k) (h2 : n.natAbs < 2 ^ k) : Pt k (hd n p) := (hd_low hn p).pt ha hb h2
theorem low3_ov {a b c P A B : Int} {r : P3} (w : Low3 a b c r) (hc : c ≠ 0) (ea : a * P = A * c) (eb : b * P = B * c) : Ov P r ⟨A, B⟩ := by
  refine ⟨w.pos, Int.eq_of_mul_eq_mul_right hc ?_, Int.eq_of_mul_eq_mul_right hc ?_, w.one⟩
  · have := w.ea
    show r.a * P * c = A * r.c * c
    rw [Int.mul_right_comm, this, Int.mul_right_comm, ea]
    rw [Int.mul_right_comm]
  · have := w.eb
    show r.b * P * c = B * r.c * c
    rw [Int.mul_right_comm, this, Int.mul_right_comm, eb]
    rw [Int.mul_right_comm]
def det (p q r : T3 Int Int Int) : Int := (p.b * q.c - p.c * q.b) * r.a + (p.c * q.a - p.a * q.c) * r.b + (p.a * q.b - p.b * q.a) * r.c
def sg (n : Int) : Int := if n = 0 then 0 else if 0 < n then 1 else -1
theorem sg_neg (n : Int) : sg (-n) = -sg n := by unfold sg; (repeat' split) <;> omega
theorem sg_mul {k n : Int} (h : 0 < k) : sg (k * n) = sg n := by
  unfold sg
  rcases Int.lt_trichotomy n 0 with z | z | z
  · have := Int.mul_neg_of_pos_of_neg h z
    (repeat' split) <;> omega
  · subst z; simp
  · have := Int.mul_pos h z
    (repeat' split) <;> omega
theorem ov_k {P : Int} {r : P3} {u : P2} (h : Ov P r u) (hP : 0 < P) : ∃ k : Int, 0 < k ∧ k * r.c = P ∧ k * r.a = u.a ∧ k * r.b = u.b := by
  refine ⟨P / r.c, Int.ediv_pos_of_pos_of_dvd hP (Int.le_of_lt h.pos) h.dvd, Int.ediv_mul_cancel h.dvd, ?_, ?_⟩
  · rw [Int.mul_comm]; exact h.a
  · rw [Int.mul_comm]; exact h.b
theorem det_ov {P : Int} {p q r : P3} {u v w : P2} (hP : 0 < P) (hp : Ov P p u) (hq : Ov P q v) (hr : Ov P r w) : sg (det p q r) = sg (crs3 u v w) := by
  obtain ⟨k, k0, k1, k2, k3⟩ := ov_k hp hP
  obtain ⟨l, l0, l1, l2, l3⟩ := ov_k hq hP
  obtain ⟨m, m0, m1, m2, m3⟩ := ov_k hr hP
  have e : (k * l * m) * det p q r = P * crs3 u v w := by
    unfold det crs3
    have : (k * l * m) * ((p.b * q.c - p.c * q.b) * r.a + (p.c * q.a - p.a * q.c) * r.b + (p.a * q.b - p.b * q.a) * r.c) = ((k * p.b) * (l * q.c) - (k * p.c) * (l * q.b)) * (m * r.a) + ((k * p.c) * (l * q.a) - (k * p.a) * (l * q.c)) * (m * r.b) + ((k * p.a) * (l * q.b) - (k * p.b) * (l * q.a)) * (m * r.c) := by
      clear k1 k2 k3 l1 l2 l3 m1 m2 m3; grind
    rw [this, k1, k2, k3, l1, l2, l3, m1, m2, m3]
    clear this k1 k2 k3 l1 l2 l3 m1 m2 m3; grind
  rw [← sg_mul (n := det p q r) (Int.mul_pos (Int.mul_pos k0 l0) m0), e, sg_mul hP]
theorem divisor_ok (a b : Int) : m_greatest_divisor a b = some (Int.gcd a b : Int) := by
  unfold m_greatest_divisor
  simp only [Option.bind_some, iabs_eq]
  rw [gcd_loop _ _ _ (by omega) (by omega) (by omega)]
  simp only [Option.bind_some, Lp.out]
  congr 2
theorem divG_mul {u s : Int} (n : Nat) (h : s ≠ 0) (hb : s.natAbs < 2 ^ n) (hn : n < 9000) : divG (u * s) s = some u := by
  unfold divG
  rw [if_pos ⟨h, Nat.lt_of_le_of_lt (log2_le hb) hn⟩, Int.mul_fdiv_cancel _ h]
theorem pos_l {v s : Int} (hs : 0 < s) (h : 0 < v * s) : 0 < v := by
  rcases Int.lt_or_le 0 v with z | z
  · exact z
  · have := Int.mul_le_mul_of_nonneg_right z (Int.le_of_lt hs)
    rw [Int.zero_mul] at this; omega
/-! ### plain: points told in lowest terms, rings that bulge outward, areas of small rings -/
theorem ov_same {P : Int} {r s : P3} {u : P2} (hP : 0 < P) (h : Ov P r u) (g : Ov P s u) : r = s := by
  refine pt_same h.pos g.pos h.one g.one ?_ ?_
  · refine Int.eq_of_mul_eq_mul_right (show P ≠ 0 by omega) ?_
    have := h.ea
    have := g.ea
    grind
  · refine Int.eq_of_mul_eq_mul_right (show P ≠ 0 by omega) ?_
    have := h.eb
    have := g.eb
    grind
theorem hd_scale {k n a b : Int} (hk : 0 < k) (hn : 0 < n) : hd (k * n) ⟨k * a, k * b⟩ = hd n ⟨a, b⟩ := by
  have w := hd_low hn ⟨a, b⟩
  refine ov_same (Int.mul_pos hk hn) (hd_ov (Int.mul_pos hk hn) _) ⟨w.pos, ?_, ?_, w.one⟩
  · have := w.ea
    show (hd n ⟨a, b⟩).a * (k * n) = k * a * (hd n ⟨a, b⟩).c
    simp only at this
    grind
  · have := w.eb
    show (hd n ⟨a, b⟩).b * (k * n) = k * b * (hd n ⟨a, b⟩).c
    simp only at this
    grind
theorem g3_flat (a b n : Int) : ((Int.gcd (Int.gcd a b : Int) n : Nat) : Int) = (g3 a b n : Int) := by
  unfold g3
  show ((Nat.gcd (Nat.gcd a.natAbs b.natAbs) n.natAbs : Nat) : Int) = ((Nat.gcd (Nat.gcd a.natAbs n.natAbs) b.natAbs : Nat) : Int)
  rw [Nat.gcd_assoc, Nat.gcd_comm b.natAbs, ← Nat.gcd_assoc]
theorem lawpnt_ok {a b n : Int} (h : 0 < n) (hn : n.natAbs < 2 ^ 8000) : m__law_point a b n = some (hd n ⟨a, b⟩) := by
  unfold m__law_point
  have hg : (0 : Int) < (g3 a b n : Int) := by have := g3_pos (a := a) (b := b) (n := n) (by omega); omega
  have hl := g3_le (a := a) (b := b) h
  have hs : (g3 a b n : Int).natAbs < 2 ^ 8000 := Nat.lt_of_le_of_lt (by omega) hn
  rw [Option.bind_some]
  simp only [foldO]
  rw [gcd_loop _ _ _ (by rw [iabs_eq]; omega) (by rw [iabs_eq]; omega) (by omega)]
  simp only [Option.bind_some, Lp.out]
  rw [gcd_loop _ _ _ (by omega) (by omega) (by omega)]
  simp only [Option.bind_some, Lp.out]
  have e : ((Int.gcd (Int.gcd (iabs a) (iabs b) : Int) n : Nat) : Int) = (g3 a b n : Int) := by
    rw [iabs_eq, iabs_eq]; exact g3_flat a b n
  rw [e, divG_pos 8000 hg hs (by decide), divG_pos 8000 hg hs (by decide), divG_pos 8000 hg hs (by decide)]
  rfl
theorem hd_self {r : P3} (h : g3 r.a r.b r.c = 1) : hd r.c ⟨r.a, r.b⟩ = r := by
  unfold hd
  simp only [h]
  obtain ⟨a, b, c⟩ := r
  simp
theorem ispoint_ok {r : P3} {k : Nat} (h : Pt k r) (hk : k ≤ 3000) : m__law_is_point r = some true := by
  unfold m__law_is_point
  rw [if_neg (by decide)]
  simp only [loopL, Bool.not_true, Bool.or_false, Bool.false_eq_true, if_false, Option.bind_some, Lp.out]
  rw [if_pos (by simpa using h.pos), lawpnt_ok h.pos (pow_le h.sc (by omega)), Option.bind_some, Option.bind_some, hd_self h.one]
  simp
theorem sg_b2 (n : Int) : b2 (decide (0 < n)) - b2 (decide (n < 0)) = sg n := by
  unfold sg
  rcases Int.lt_trichotomy n 0 with z | z | z
  · rw [decide_eq_false (by omega), decide_eq_true z, if_neg (by omega), if_neg (by omega)]; rfl
  · subst z; rfl
  · rw [decide_eq_true z, decide_eq_false (by omega), if_neg (by omega), if_pos z]; rfl
theorem lawside_ok {p q r : P3} {n : Nat} (hp : Pt n p) (hq : Pt n q) (hr : Pt n r) (h : n ≤ 3000) : m__law_side p q r = some (sg (det p q r)) := by
  unfold m__law_side
  rw [mulG_ok _ _ hq.sb hr.sc (by omega), Option.bind_some, mulG_ok _ _ hq.sc hr.sb (by omega), Option.bind_some, mulG_ok _ _ hp.sa (sz_sub (sz_mul hq.sb hr.sc) (sz_mul hq.sc hr.sb)) (by omega), Option.bind_some]
  rw [mulG_ok _ _ hq.sa hr.sc (by omega), Option.bind_some, mulG_ok _ _ hq.sc hr.sa (by omega), Option.bind_some, mulG_ok _ _ hp.sb (sz_sub (sz_mul hq.sa hr.sc) (sz_mul hq.sc hr.sa)) (by omega), Option.bind_some, Option.bind_some]
  rw [mulG_ok _ _ hq.sa hr.sb (by omega), Option.bind_some, mulG_ok _ _ hq.sb hr.sa (by omega), Option.bind_some, mulG_ok _ _ hp.sc (sz_sub (sz_mul hq.sa hr.sb) (sz_mul hq.sb hr.sa)) (by omega), Option.bind_some, Option.bind_some, sg_b2]
  have : p.a * (q.b * r.c - q.c * r.b) - p.b * (q.a * r.c - q.c * r.a) + p.c * (q.a * r.b - q.b * r.a) = det p q r := by unfold det; grind
  rw [this]
/-- a ring over P -/
structure Rv (P : Int) (h : P2 → P3) (us : List P2) : Prop where
  ov : ∀ u ∈ us, Ov P (h u) u
  pt : ∀ u ∈ us, Pt 200 (h u)
theorem convex_ok {P : Int} (hP : 0 < P) {us : List P2} {h : P2 → P3} (v : Rv P h us) (h3 : 3 ≤ us.length) (hl : us.length ≤ 1000)
    (cv : ∀ k l j (a : k < us.length) (b : j < us.length) (c : l < us.length), (l = k + 1 ∨ (k + 1 = us.length ∧ l = 0)) → j ≠ k → j ≠ l → 0 < crs3 us[k] us[l] us[j]) : m__law_is_convex (us.map h) = some true := by
  unfold m__law_is_convex
  simp only [List.length_map]
  rw [if_neg (by simp; omega), lenOk_ok (by omega), Option.bind_some]
  rw [filO_all (c := fun _ => false) fun x hx => by
    obtain ⟨u, hu, e⟩ := List.mem_map.mp hx
    subst e
    rw [ispoint_ok (v.pt u hu) (by decide), Option.bind_some]; rfl]
  rw [Option.bind_some, if_neg (by simp), rngOk_ok (by omega) (by omega), Option.bind_some]
  refine loopL_bind (fun _ => True) ?_ trivial fun _ _ => rfl
  intro x _ hx _
  refine ⟨(), ?_, trivial⟩
  obtain ⟨a1, a2⟩ := rangeL_mem hx
  obtain ⟨k, rfl⟩ : ∃ k : Nat, x = (k : Int) := ⟨x.toNat, by omega⟩
  have hk : k < us.length := by omega
  rw [Option.bind_some]
  refine loopL_bind (fun _ => True) ?_ trivial fun _ _ => rfl
  intro y _ hy _
  refine ⟨(), ?_, trivial⟩
  obtain ⟨b1, b2⟩ := rangeL_mem hy
  obtain ⟨j, rfl⟩ : ∃ j : Nat, y = (j : Int) := ⟨y.toNat, by omega⟩
  have hj : j < us.length := by omega
  have em : ((k : Int) + 1) % (us.length : Int) = (((k + 1) % us.length : Nat) : Int) := by rw [Int.natCast_emod, Int.natCast_add]; rfl
  have hm : (k + 1) % us.length < us.length := Nat.mod_lt _ (by omega)
  rw [modG_pos (by omega : (0 : Int) < (us.length : Int)), Option.bind_some, em]
  by_cases z : j = k
  · rw [if_neg (by simp; omega), Option.bind_some, if_neg (by decide)]
  · rw [if_pos (by simp; omega), Option.bind_some]
    by_cases z2 : j = (k + 1) % us.length
    · rw [if_neg (by rw [Bool.not_eq_true', decide_eq_false_iff_not]; omega)]
    · rw [if_pos (by rw [Bool.not_eq_true', decide_eq_false_iff_not]; omega)]
      have i1 : ix (us.map h) (k : Int) = some (h us[k]) := by rw [ix_map, ix_lt hk]; rfl
      have i2 : ix (us.map h) (((k + 1) % us.length : Nat) : Int) = some (h us[(k + 1) % us.length]) := by rw [ix_map, ix_lt hm]; rfl
      have i3 : ix (us.map h) (j : Int) = some (h us[j]) := by rw [ix_map, ix_lt hj]; rfl
      rw [i1, Option.bind_some, Option.bind_some, i2, Option.bind_some, i3, Option.bind_some]
      have m1 := List.getElem_mem hk
      have m2 := List.getElem_mem hm
      have m3 := List.getElem_mem hj
      rw [lawside_ok (v.pt _ m1) (v.pt _ m2) (v.pt _ m3) (by decide), Option.bind_some, det_ov hP (v.ov _ m1) (v.ov _ m2) (v.ov _ m3)]
      have c := cv k ((k + 1) % us.length) j hk hj hm (by
        by_cases y : k + 1 < us.length
        · exact .inl (Nat.mod_eq_of_lt y)
        · have : k + 1 = us.length := by omega
          exact .inr ⟨this, by rw [this, Nat.mod_self]⟩) z z2
      have : sg (crs3 us[k] us[(k + 1) % us.length] us[j]) = 1 := by unfold sg; rw [if_neg (by omega), if_pos c]
      rw [this, if_neg (by decide)]
theorem rngOk_one {n : Nat} (h : n ≤ 1000) : rngOk (n : Int) = some () := rngOk_ok (by omega) (by omega)
/-! ### plain: rings that bulge outward, over 30 -/
def CvP (us : List P2) : Prop := ∀ k l j (a : k < us.length) (b : j < us.length) (c : l < us.length), (l = k + 1 ∨ (k + 1 = us.length ∧ l = 0)) → j ≠ k → j ≠ l → 0 < crs3 us[k] us[l] us[j]
theorem convex_iff {P : Int} (hP : 0 < P) {us : List P2} {h : P2 → P3} (v : Rv P h us) (h3 : 3 ≤ us.length) (hl : us.length ≤ 1000) : (CvP us ∧ m__law_is_convex (us.map h) = some true) ∨ (¬ CvP us ∧ m__law_is_convex (us.map h) = some false) := by
  by_cases z : CvP us
  · exact .inl ⟨z, convex_ok hP v h3 hl z⟩
  · refine .inr ⟨z, ?_⟩
    unfold m__law_is_convex
    simp only [List.length_map]
    rw [if_neg (by simp; omega), lenOk_ok (by omega), Option.bind_some]
    rw [filO_all (c := fun _ => false) fun x hx => by
      obtain ⟨u, hu, e⟩ := List.mem_map.mp hx
      subst e
      rw [ispoint_ok (v.pt u hu) (by decide), Option.bind_some]; rfl]
    rw [Option.bind_some, if_neg (by simp), rngOk_ok (by omega) (by omega), Option.bind_some]
    rcases loopL_all (f := fun (x2 : Int) (s2 : Unit) =>
       ((some ()).bind fun _ =>
       (loopL (ρ := Bool) (fun (x3 : Int) (s4 : Unit) =>
       ((if (!decide (x3 = x2)) = true then
       ((modG ((x2 + 1)) ((us.length : Int))).bind fun z3 =>
       some ((!decide (x3 = z3))))
       else some false).bind fun b1 =>
       if b1 = true then
       ((ix (us.map h) x2).bind fun x4 =>
       (modG ((x2 + 1)) ((us.length : Int))).bind fun z4 =>
       (ix (us.map h) z4).bind fun x5 =>
       (ix (us.map h) x3).bind fun x6 =>
       (m__law_side x4 x5 x6).bind fun z5 =>
       if (!decide (z5 = 1)) = true then
       (some (.ret false))
       else
       (some (.nxt (()))))
       else
       (some (.nxt (()))))) (rangeL 0 ((us.length : Int)).toNat) (())).bind fun o => o.out (fun r => some (Lp.ret (τ := Unit) r)) fun (s5 : Unit) =>
       some (.nxt (())))) (r := false) (fun x => ∀ l j (a : x.toNat < us.length) (b : j < us.length) (c : l < us.length), (l = x.toNat + 1 ∨ (x.toNat + 1 = us.length ∧ l = 0)) → j ≠ x.toNat → j ≠ l → 0 < crs3 us[x.toNat] us[l] us[j]) (xs := rangeL 0 ((us.length : Int)).toNat) fun x hx => by
      obtain ⟨a1, a2⟩ := rangeL_mem hx
      obtain ⟨k, rfl⟩ : ∃ k : Nat, x = (k : Int) := ⟨x.toNat, by omega⟩
      have hk : k < us.length := by omega
      have em : ((k : Int) + 1) % (us.length : Int) = (((k + 1) % us.length : Nat) : Int) := by rw [Int.natCast_emod, Int.natCast_add]; rfl
      have hm : (k + 1) % us.length < us.length := Nat.mod_lt _ (by omega)
      have hn : (k + 1) % us.length = k + 1 ∨ (k + 1 = us.length ∧ (k + 1) % us.length = 0) := by
        by_cases y : k + 1 < us.length
        · exact .inl (Nat.mod_eq_of_lt y)
        · have : k + 1 = us.length := by omega
          exact .inr ⟨this, by rw [this, Nat.mod_self]⟩
      rw [Option.bind_some]
      rcases loopL_all (f := fun (x3 : Int) (s4 : Unit) =>
         ((if (!decide (x3 = (k : Int))) = true then
         ((modG (((k : Int) + 1)) ((us.length : Int))).bind fun z3 =>
         some ((!decide (x3 = z3))))
         else some false).bind fun b1 =>
         if b1 = true then
         ((ix (us.map h) (k : Int)).bind fun x4 =>
         (modG (((k : Int) + 1)) ((us.length : Int))).bind fun z4 =>
         (ix (us.map h) z4).bind fun x5 =>
         (ix (us.map h) x3).bind fun x6 =>
         (m__law_side x4 x5 x6).bind fun z5 =>
         if (!decide (z5 = 1)) = true then
         (some (Lp.ret (τ := Unit) (ρ := Bool) false))
         else
         (some (.nxt (()))))
         else
         (some (.nxt (()))))) (r := false) (fun y => ∀ (b : y.toNat < us.length), y.toNat ≠ k → y.toNat ≠ (k + 1) % us.length → 0 < crs3 us[k] us[(k + 1) % us.length] us[y.toNat]) (xs := rangeL 0 ((us.length : Int)).toNat) fun y hy => by
        obtain ⟨b1, b2⟩ := rangeL_mem hy
        obtain ⟨j, rfl⟩ : ∃ j : Nat, y = (j : Int) := ⟨y.toNat, by omega⟩
        have hj : j < us.length := by omega
        rw [modG_pos (by omega : (0 : Int) < (us.length : Int)), Option.bind_some, em]
        simp only [Int.toNat_natCast]
        by_cases z : j = k
        · refine .inl ⟨fun _ n => absurd z n, ?_⟩
          rw [if_neg (by simp; omega), Option.bind_some, if_neg (by decide)]
        · rw [if_pos (by simp; omega), Option.bind_some]
          by_cases z2 : j = (k + 1) % us.length
          · refine .inl ⟨fun _ _ n => absurd z2 n, ?_⟩
            rw [if_neg (by rw [Bool.not_eq_true', decide_eq_false_iff_not]; omega)]
          · rw [if_pos (by rw [Bool.not_eq_true', decide_eq_false_iff_not]; omega)]
            have i1 : ix (us.map h) (k : Int) = some (h us[k]) := by rw [ix_map, ix_lt hk]; rfl
            have i2 : ix (us.map h) (((k + 1) % us.length : Nat) : Int) = some (h us[(k + 1) % us.length]) := by rw [ix_map, ix_lt hm]; rfl
            have i3 : ix (us.map h) (j : Int) = some (h us[j]) := by rw [ix_map, ix_lt hj]; rfl
            have m1 := List.getElem_mem hk
            have m2 := List.getElem_mem hm
            have m3 := List.getElem_mem hj
            rw [i1, Option.bind_some, Option.bind_some, i2, Option.bind_some, i3, Option.bind_some, lawside_ok (v.pt _ m1) (v.pt _ m2) (v.pt _ m3) (by decide), Option.bind_some, det_ov hP (v.ov _ m1) (v.ov _ m2) (v.ov _ m3)]
            by_cases c : 0 < crs3 us[k] us[(k + 1) % us.length] us[j]
            · refine .inl ⟨fun _ _ _ => c, ?_⟩
              have : sg (crs3 us[k] us[(k + 1) % us.length] us[j]) = 1 := by unfold sg; rw [if_neg (by omega), if_pos c]
              rw [this, if_neg (by decide)]
            · refine .inr ⟨fun w => c (w hj z z2), ?_⟩
              have : sg (crs3 us[k] us[(k + 1) % us.length] us[j]) ≠ 1 := by unfold sg; (repeat' split) <;> omega
              rw [if_pos (by rw [decide_eq_false this]; rfl)] with ⟨q, e⟩ | ⟨⟨y, hy, q⟩, e⟩
      · refine .inl ⟨fun l j a b c n n1 n2 => ?_, (congrArg (fun o => Option.bind o _) e).trans rfl⟩
        simp only [Int.toNat_natCast] at *
        have el : l = (k + 1) % us.length := by
          rcases n with n | ⟨n, n'⟩
          · rcases hn with m | ⟨m, m'⟩ <;> omega
          · rcases hn with m | ⟨m, m'⟩ <;> omega
        subst el
        have mj : (j : Int) ∈ rangeL 0 us.length := by
          unfold rangeL
          exact List.mem_map.mpr ⟨j, List.mem_range.mpr b, by omega⟩
        have := q (j : Int) mj
        simp only [Int.toNat_natCast] at this
        exact this b n1 n2
      · refine .inr ⟨fun w => q fun b n1 n2 => ?_, (congrArg (fun o => Option.bind o _) e).trans rfl⟩
        simp only [Int.toNat_natCast] at w
        exact w _ _ hk b hm hn n1 n2 with ⟨q, e⟩ | ⟨_, e⟩
    · refine absurd (fun k l j a b c n n1 n2 => ?_) z
      have mk : (k : Int) ∈ rangeL 0 ((us.length : Int)).toNat := by
        unfold rangeL
        exact List.mem_map.mpr ⟨k, List.mem_range.mpr (by omega), by omega⟩
      have := q (k : Int) mk
      simp only [Int.toNat_natCast] at this
      exact this l j a b c n n1 n2
    · exact (congrArg (fun o => Option.bind o _) e).trans rfl
/-! ### plain: drawn sheets, over 30 -/
abbrev Piece : Type := T3 (List P3) Bool P3
def h30 (u : P2) : P3 := hd 30 u
def Sz (B : Nat) (u : P2) : Prop := u.a.natAbs ≤ B ∧ u.b.natAbs ≤ B
theorem Sz.mono {B C : Nat} {u : P2} (h : Sz B u) (l : B ≤ C) : Sz C u := ⟨Nat.le_trans h.1 l, Nat.le_trans h.2 l⟩
theorem big_lt {x B : Nat} (h : x ≤ B) (hB : B ≤ 1000000) : x < 2 ^ 200 := Nat.lt_of_le_of_lt (Nat.le_trans h hB) (Nat.lt_of_lt_of_le (show 1000000 < 2 ^ 20 by decide) (Nat.pow_le_pow_right (by decide) (by decide)))
theorem h30_ov (u : P2) : Ov 30 (h30 u) u := hd_ov (by decide) u
theorem h30_pt {B : Nat} (hB : B ≤ 1000000) {u : P2} (h : Sz B u) : Pt 200 (h30 u) := (hd_low (by decide) u).pt (big_lt h.1 hB) (big_lt h.2 hB) (big_lt (B := 30) (by decide) (by decide))
theorem rv30 {B : Nat} (hB : B ≤ 1000000) {us : List P2} (h : ∀ u ∈ us, Sz B u) : Rv 30 h30 us := ⟨fun u _ => h30_ov u, fun u hu => h30_pt hB (h u hu)⟩
theorem place_ok {xs : List Int} (h : Bag xs) : ∃ u ys, m__law_place xs 6 = some (h30 u, ys) ∧ Bag ys ∧ Sz 180 u := by
  unfold m__law_place
  obtain ⟨r1, y1, e1, b1, l1, u1⟩ := digit_ok h (many := 5) (by decide) (by decide)
  obtain ⟨n, k, en, h1, h2, h3⟩ : ∃ n k : Int, ix [1, 1, 1, 2, 3] r1 = some n ∧ 0 < n ∧ 0 < k ∧ k * n = 30 := by
    obtain rfl | rfl | rfl | rfl | rfl : r1 = 0 ∨ r1 = 1 ∨ r1 = 2 ∨ r1 = 3 ∨ r1 = 4 := by omega
    · exact ⟨1, 30, rfl, by decide, by decide, by decide⟩
    · exact ⟨1, 30, rfl, by decide, by decide, by decide⟩
    · exact ⟨1, 30, rfl, by decide, by decide, by decide⟩
    · exact ⟨2, 15, rfl, by decide, by decide, by decide⟩
    · exact ⟨3, 10, rfl, by decide, by decide, by decide⟩
  have hn : n ≤ 30 := by
    have := Int.mul_le_mul_of_nonneg_right (a := 1) (b := k) (c := n) (by omega) (by omega)
    omega
  obtain ⟨r2, y2, e2, b2, l2, u2⟩ := digit_ok b1 (many := 6 * n + 1) (by omega) (by omega)
  obtain ⟨r3, y3, e3, b3, l3, u3⟩ := digit_ok b2 (many := 6 * n + 1) (by omega) (by omega)
  rw [e1, Option.bind_some]
  simp only
  rw [en, Option.bind_some, mulG_ok 10 10 (by decide) (by omega) (by decide), Option.bind_some, e2, Option.bind_some, Option.bind_some]
  simp only
  rw [e3, Option.bind_some]
  simp only
  rw [lawpnt_ok h1 (Nat.lt_of_lt_of_le (show n.natAbs < 2 ^ 5 by omega) (Nat.pow_le_pow_right (by decide) (by decide))), Option.bind_some]
  refine ⟨⟨k * r2, k * r3⟩, y3, ?_, b3, ?_⟩
  · have := hd_scale (k := k) (n := n) (a := r2) (b := r3) h2 h1
    rw [h3] at this
    show some (_, _) = some (hd 30 _, _)
    rw [this]
  · have a1 := Int.mul_le_mul_of_nonneg_left (c := k) (show r2 ≤ 6 * n by omega) (by omega)
    have a2 := Int.mul_le_mul_of_nonneg_left (c := k) (show r3 ≤ 6 * n by omega) (by omega)
    have a3 := Int.mul_nonneg (a := k) (b := r2) (by omega) l2
    have a4 := Int.mul_nonneg (a := k) (b := r3) (by omega) l3
    have e : k * (6 * n) = 180 := by rw [Int.mul_left_comm, h3]; rfl
    rw [e] at a1 a2
    exact ⟨show (k * r2).natAbs ≤ 180 by omega, show (k * r3).natAbs ≤ 180 by omega⟩
theorem step_ok {xs : List Int} (h : Bag xs) {m : Int} (hm : 0 < m) (hM : m ≤ 9) : ∃ u ys, m__law_step xs m = some (h30 u, ys) ∧ Bag ys ∧ Sz 270 u := by
  unfold m__law_step
  obtain ⟨r1, y1, e1, b1, l1, u1⟩ := digit_ok h (many := 4) (by decide) (by decide)
  obtain ⟨n, k, en, h1, h2, h3⟩ : ∃ n k : Int, ix [1, 1, 2, 5] r1 = some n ∧ 0 < n ∧ 0 < k ∧ k * n = 30 := by
    obtain rfl | rfl | rfl | rfl : r1 = 0 ∨ r1 = 1 ∨ r1 = 2 ∨ r1 = 3 := by omega
    · exact ⟨1, 30, rfl, by decide, by decide, by decide⟩
    · exact ⟨1, 30, rfl, by decide, by decide, by decide⟩
    · exact ⟨2, 15, rfl, by decide, by decide, by decide⟩
    · exact ⟨5, 6, rfl, by decide, by decide, by decide⟩
  have hn : n ≤ 30 := by
    have := Int.mul_le_mul_of_nonneg_right (a := 1) (b := k) (c := n) (by omega) (by omega)
    omega
  have hk : k ≤ 30 := by
    have := Int.mul_le_mul_of_nonneg_left (a := 1) (b := n) (c := k) (by omega) (by omega)
    omega
  obtain ⟨r2, y2, e2, b2, l2, u2⟩ := digit_ok b1 (many := 2 * m + 1) (by omega) (by omega)
  obtain ⟨r3, y3, e3, b3, l3, u3⟩ := digit_ok b2 (many := 2 * m + 1) (by omega) (by omega)
  rw [e1, Option.bind_some]
  simp only
  rw [en, Option.bind_some, e2, Option.bind_some]
  simp only
  rw [e3, Option.bind_some]
  simp only
  rw [lawpnt_ok h1 (Nat.lt_of_lt_of_le (show n.natAbs < 2 ^ 5 by omega) (Nat.pow_le_pow_right (by decide) (by decide))), Option.bind_some]
  refine ⟨⟨k * (r2 - m), k * (r3 - m)⟩, y3, ?_, b3, ?_⟩
  · have := hd_scale (k := k) (n := n) (a := r2 - m) (b := r3 - m) h2 h1
    rw [h3] at this
    show some (_, _) = some (hd 30 _, _)
    rw [this]
  · have bd : ∀ x : Int, -9 ≤ x → x ≤ 9 → (k * x).natAbs ≤ 270 := fun x x1 x2 => by
      have a1 := Int.mul_le_mul_of_nonneg_left (c := k) x2 (by omega)
      have a2 := Int.mul_le_mul_of_nonneg_left (c := k) x1 (by omega)
      omega
    exact ⟨bd _ (by omega) (by omega), bd _ (by omega) (by omega)⟩
theorem cvp3 {p q r : P2} (h : 0 < crs3 p q r) : CvP [p, q, r] := by
  have k2 : 0 < crs3 q r p := by unfold crs3 at *; grind
  have k3 : 0 < crs3 r p q := by unfold crs3 at *; grind
  intro k l j a b c n n1 n2
  simp only [List.length_cons, List.length_nil] at a b c n
  rcases k with _ | _ | _ | k
  · obtain rfl : l = 1 := by omega
    rcases j with _ | _ | _ | j
    · exact absurd rfl n1
    · exact absurd rfl n2
    · exact h
    · omega
  · obtain rfl : l = 2 := by omega
    rcases j with _ | _ | _ | j
    · exact k2
    · exact absurd rfl n1
    · exact absurd rfl n2
    · omega
  · obtain rfl : l = 0 := by omega
    rcases j with _ | _ | _ | j
    · exact absurd rfl n2
    · exact k3
    · exact absurd rfl n1
    · omega
  · omega
theorem sg_cases (n : Int) : (n = 0 ∧ sg n = 0) ∨ (0 < n ∧ sg n = 1) ∨ (n < 0 ∧ sg n = -1) := by
  unfold sg
  rcases Int.lt_trichotomy n 0 with z | z | z
  · exact .inr (.inr ⟨z, by rw [if_neg (by omega), if_neg (by omega)]⟩)
  · exact .inl ⟨z, by rw [if_pos z]⟩
  · exact .inr (.inl ⟨z, by rw [if_neg (by omega), if_pos z]⟩)
/-- a ring that bulges outward -/
structure Bg (B n : Nat) (us : List P2) : Prop where
  sz : ∀ u ∈ us, Sz B u
  lo : 3 ≤ us.length
  hi : us.length ≤ n
  cv : CvP us
theorem three_ok {xs : List Int} (h : Bag xs) : ∃ us ys, m__law_three xs 6 = some (us.map h30, ys) ∧ Bag ys ∧ Bg 180 3 us := by
  unfold m__law_three
  obtain ⟨u0, y0, e0, b0, s0⟩ := place_ok h
  obtain ⟨u1, y1, e1, b1, s1⟩ := place_ok b0
  obtain ⟨u2, y2, e2, b2, s2⟩ := place_ok b1
  rw [show mapS (fun (x1 : Int) (s1 : (List Int)) => ((m__law_place s1 6).bind fun z1 => some (z1.1, z1.2))) (rangeL 0 3) xs = some ([h30 u0, h30 u1, h30 u2], y2) by
    rw [show rangeL 0 3 = [0, 1, 2] from rfl]
    simp only [mapS, e0, e1, e2, Option.bind_some]]
  rw [Option.bind_some]
  have i0 : ix [h30 u0, h30 u1, h30 u2] 0 = some (h30 u0) := rfl
  have i1 : ix [h30 u0, h30 u1, h30 u2] 1 = some (h30 u1) := rfl
  have i2 : ix [h30 u0, h30 u1, h30 u2] 2 = some (h30 u2) := rfl
  simp only [i0, i1, i2, Option.bind_some]
  have hp := fun u (s : Sz 180 u) => h30_pt (by decide : 180 ≤ 1000000) s
  rw [lawside_ok (hp _ s0) (hp _ s1) (hp _ s2) (by decide), Option.bind_some, det_ov (by decide : (0 : Int) < 30) (h30_ov u0) (h30_ov u1) (h30_ov u2)]
  have sz3 : ∀ u ∈ [u0, u1, u2], Sz 180 u := fun u hu => by
    simp only [List.mem_cons, List.not_mem_nil, or_false] at hu
    rcases hu with e | e | e <;> subst e <;> assumption
  rcases sg_cases (crs3 u0 u1 u2) with ⟨z, e⟩ | ⟨z, e⟩ | ⟨z, e⟩
  · rw [e, if_pos (by decide)]
    refine ⟨[⟨0, 0⟩, ⟨180, 30⟩, ⟨30, 180⟩], y2, ?_, b2, ⟨fun u hu => ?_, by decide, by decide, cvp3 (by decide)⟩⟩
    · have : [(T3.mk 0 0 1 : P3), T3.mk 6 1 1, T3.mk 1 6 1] = [⟨0, 0⟩, ⟨180, 30⟩, ⟨30, 180⟩].map h30 := by decide
      rw [this]
    · simp only [List.mem_cons, List.not_mem_nil, or_false] at hu
      rcases hu with e | e | e <;> subst e <;> exact ⟨by decide, by decide⟩
  · rw [e, if_neg (by decide)]
    refine ⟨[u0, u1, u2], y2, ?_, b2, ⟨sz3, by simp, by simp, cvp3 z⟩⟩
    unfold stepG
    rw [if_pos rfl]; rfl
  · rw [e, if_neg (by decide)]
    refine ⟨[u2, u1, u0], y2, ?_, b2, ⟨fun u hu => sz3 u (by simp only [List.mem_cons, List.not_mem_nil, or_false] at hu ⊢; rcases hu with e | e | e <;> simp [e]), by simp, by simp, cvp3 (by unfold crs3 at *; grind)⟩⟩
    unfold stepG
    rw [if_neg (by decide), if_pos rfl]; rfl
theorem loopL_brk {α τ ρ : Type} {f : α → τ → Option (Lp τ ρ)} (I J : τ → Prop) : ∀ {xs : List α} {s : τ}, (∀ x s, x ∈ xs → I s → (∃ s', f x s = some (.nxt s') ∧ I s') ∨ ∃ s', f x s = some (.brk s') ∧ J s') → I s → (∃ s', loopL f xs s = some (.nxt s') ∧ I s') ∨ ∃ s', loopL f xs s = some (.brk s') ∧ J s'
  | [], s, _, h => .inl ⟨s, rfl, h⟩
  | x :: xs, s, hf, h => by
    rcases hf x s List.mem_cons_self h with ⟨s', e, i⟩ | ⟨s', e, j⟩
    · rcases loopL_brk I J (xs := xs) (fun y t hy => hf y t (List.mem_cons_of_mem _ hy)) i with ⟨t, e2, i2⟩ | ⟨t, e2, j2⟩
      · refine .inl ⟨t, ?_, i2⟩
        show (f x s).bind _ = _
        rw [e]; exact e2
      · refine .inr ⟨t, ?_, j2⟩
        show (f x s).bind _ = _
        rw [e]; exact e2
    · refine .inr ⟨s', ?_, j⟩
      show (f x s).bind _ = _
      rw [e]; rfl
theorem put_map {us : List P2} {w : P2} {k : Nat} (hk : k ≤ us.length) : slice (us.map h30) none (some (k : Int)) ++ [h30 w] ++ slice (us.map h30) (some (k : Int)) none = (us.take k ++ [w] ++ us.drop k).map h30 := by
  rw [slice_to (by rw [List.length_map]; exact hk), slice_from (by rw [List.length_map]; exact hk)]
  simp
theorem bulging_ok {xs : List Int} (h : Bag xs) : ∃ us ys, m__law_bulging xs 6 = some (us.map h30, ys) ∧ Bag ys ∧ Bg 180 5 us := by
  unfold m__law_bulging
  obtain ⟨us, y1, e1, b1, g1⟩ := three_ok h
  obtain ⟨d, y2, e2, b2, l2, u2⟩ := digit_ok b1 (many := 3) (by decide) (by decide)
  rw [e1, Option.bind_some]
  simp only
  rw [e2, Option.bind_some]
  simp only
  rw [rngOk_ok (by omega) (by omega), Option.bind_some]
  obtain ⟨s, e, i⟩ := foldO_range (lo := 0) (n := d.toNat) (s := ((y2, us.map h30) : (List Int) × (List P3))) (f := fun (x1 : Int) (s1 : ((List Int) × (List (T3 Int Int Int)))) =>
     ((m__law_place s1.1 6).bind fun z3 =>
     (rngOk ((s1.2.length : Int))).bind fun _ =>
     (loopL (ρ := Empty) (fun (x2 : Int) (s3 : (List (T3 Int Int Int))) =>
     ((lenOk (((slice s3 none (some x2))).length + ([z3.1]).length)).bind fun _ =>
     (lenOk ((((slice s3 none (some x2)) ++ [z3.1])).length + ((slice s3 (some x2) none)).length)).bind fun _ =>
     (some ((((slice s3 none (some x2)) ++ [z3.1]) ++ (slice s3 (some x2) none)))).bind fun (more_1 : (List (T3 Int Int Int))) =>
     (m__law_is_convex more_1).bind fun z4 =>
     if z4 = true then
     (some (.brk more_1))
     else
     (some (.nxt s3)))) (rangeL 0 ((s1.2.length : Int)).toNat) s1.2).bind fun o => o.out (fun (e : Empty) => e.elim) fun (s4 : (List (T3 Int Int Int))) =>
     some ((z3.2, s4))))
    (fun j s => Bag s.1 ∧ ∃ us, s.2 = us.map h30 ∧ Bg 180 (3 + j) us) (fun j s hj i => by
      obtain ⟨bs, us, es, g⟩ := i
      obtain ⟨w, y, ew, bw, sw⟩ := place_ok bs
      have g1 := g.lo
      have g2 := g.hi
      rw [ew, Option.bind_some, es]
      simp only [List.length_map]
      rw [rngOk_ok (by omega) (by omega), Option.bind_some]
      have key := loopL_brk (ρ := Empty) (f := fun (x2 : Int) (s3 : (List (T3 Int Int Int))) =>
         ((lenOk (((slice s3 none (some x2))).length + ([h30 w]).length)).bind fun _ =>
         (lenOk ((((slice s3 none (some x2)) ++ [h30 w])).length + ((slice s3 (some x2) none)).length)).bind fun _ =>
         (some ((((slice s3 none (some x2)) ++ [h30 w]) ++ (slice s3 (some x2) none)))).bind fun (more_1 : (List (T3 Int Int Int))) =>
         (m__law_is_convex more_1).bind fun z4 =>
         if z4 = true then
         (some (.brk more_1))
         else
         (some (.nxt s3)))) (fun s => s = us.map h30) (fun s => ∃ us, s = us.map h30 ∧ Bg 180 (3 + (j + 1)) us) (xs := rangeL 0 ((us.length : Int)).toNat) (s := us.map h30) (fun x s hx hs => by
          subst hs
          obtain ⟨a1, a2⟩ := rangeL_mem hx
          obtain ⟨k, rfl⟩ : ∃ k : Nat, x = (k : Int) := ⟨x.toNat, by omega⟩
          have hk : k ≤ us.length := by omega
          have q1 := slice_len (us.map h30) none (some (k : Int))
          have q2 := slice_len (us.map h30) (some (k : Int)) none
          rw [List.length_map] at q1 q2
          rw [lenOk_ok (by simp only [List.length_cons, List.length_nil]; omega), Option.bind_some, lenOk_ok (by rw [List.length_append]; simp only [List.length_cons, List.length_nil]; omega), Option.bind_some, Option.bind_some, put_map hk]
          have ml : (us.take k ++ [w] ++ us.drop k).length = us.length + 1 := by simp; omega
          have ms : ∀ u ∈ us.take k ++ [w] ++ us.drop k, Sz 180 u := fun u hu => by
            rcases List.mem_append.mp hu with hu | hu
            · rcases List.mem_append.mp hu with hu | hu
              · exact g.sz u (List.mem_of_mem_take hu)
              · rw [List.mem_singleton] at hu; subst hu; exact sw
            · exact g.sz u (List.mem_of_mem_drop hu)
          rcases convex_iff (by decide : (0 : Int) < 30) (rv30 (by decide) ms) (by omega) (by omega) with ⟨c, ec⟩ | ⟨c, ec⟩
          · rw [ec, Option.bind_some, if_pos rfl]
            exact .inr ⟨_, rfl, _, rfl, ms, by omega, by omega, c⟩
          · rw [ec, Option.bind_some, if_neg (by decide)]
            exact .inl ⟨_, rfl, rfl⟩) rfl
      rcases key with ⟨s', e, q⟩ | ⟨s', e, us', q, g'⟩
      · exact ⟨_, (congrArg (fun o => Option.bind o _) e).trans rfl, bw, us, q, g.sz, g.lo, by omega, g.cv⟩
      · exact ⟨_, (congrArg (fun o => Option.bind o _) e).trans rfl, bw, us', q, g'⟩) ⟨b2, us, rfl, g1⟩
  obtain ⟨bs, us', es, g⟩ := i
  refine ⟨us', s.1, (congrArg (fun o => Option.bind o _) e).trans ?_, bs, g.sz, g.lo, by have := g.hi; omega, g.cv⟩
  rw [Option.bind_some, es]
/-- a point moved by a step, as told -/
def slP (v r : P3) : P3 := hd (r.c * v.c) ⟨r.a * v.c + v.a * r.c, r.b * v.c + v.b * r.c⟩
theorem lawslid_ok {p v : P3} (hp : Pt 200 p) (hv : Pt 200 v) : m__law_slid p v = some (slP v p) := by
  unfold m__law_slid
  rw [mulG_ok _ _ hp.sa hv.sc (by decide), Option.bind_some, mulG_ok _ _ hv.sa hp.sc (by decide), Option.bind_some, mulG_ok _ _ hp.sb hv.sc (by decide), Option.bind_some, mulG_ok _ _ hv.sb hp.sc (by decide), Option.bind_some, mulG_ok _ _ hp.sc hv.sc (by decide), Option.bind_some,
    lawpnt_ok (Int.mul_pos hp.pos hv.pos) (pow_le (sz_mul hp.sc hv.sc) (by decide))]; rfl
theorem slP_h30 (u w : P2) : slP (h30 w) (h30 u) = h30 ⟨u.a + w.a, u.b + w.b⟩ := by
  have hu := h30_ov u
  have hw := h30_ov w
  have hc := Int.mul_pos hu.pos hw.pos
  refine ov_same (P := 30) (by decide) (low3_ov (hd_low hc _) (by omega) ?_ ?_) (h30_ov _)
  · obtain ⟨_, a, _, _⟩ := hu
    obtain ⟨_, b, _, _⟩ := hw
    show ((h30 u).a * (h30 w).c + (h30 w).a * (h30 u).c) * 30 = (u.a + w.a) * ((h30 u).c * (h30 w).c)
    grind
  · obtain ⟨_, _, a, _⟩ := hu
    obtain ⟨_, _, b, _⟩ := hw
    show ((h30 u).b * (h30 w).c + (h30 w).b * (h30 u).c) * 30 = (u.b + w.b) * ((h30 u).c * (h30 w).c)
    grind
/-- a piece of a drawn sheet -/
structure Pc (B : Nat) (t : Piece) : Prop where
  rg : ∃ us, t.a = us.map h30 ∧ Bg B 5 us
  st : ∃ w, t.c = h30 w ∧ Sz B w
structure Sh (B : Nat) (s : List Piece) : Prop where
  pc : ∀ t ∈ s, Pc B t
  le : s.length ≤ 6
theorem sheet_ok {xs : List Int} (h : Bag xs) {many : Int} (h1 : 0 < many) (h2 : many ≤ 6) : ∃ s ys, m__law_sheet xs 6 many = some (s, ys) ∧ Bag ys ∧ Sh 2300 s := by
  unfold m__law_sheet
  obtain ⟨d, y1, e1, b1, l1, u1⟩ := digit_ok h (many := many) h1 (by omega)
  rw [e1, Option.bind_some]
  simp only
  rw [rngOk_ok (by omega) (by omega), Option.bind_some]
  obtain ⟨s, e, i⟩ := foldO_range (lo := 0) (n := (1 + d).toNat) (s := ((y1, []) : (List Int) × (List Piece))) (f := fun (x1 : Int) (s1 : ((List Int) × (List (T3 (List (T3 Int Int Int)) Bool (T3 Int Int Int))))) =>
     ((m__law_step s1.1 6).bind fun z2 =>
     (m__law_slid z2.1 ((T3.mk ((13 * x1)) 0 1))).bind fun z3 =>
     (m__law_bulging z2.2 6).bind fun z4 =>
     (m__law_digit z4.2 2).bind fun z5 =>
     (lenOk (s1.2.length + 1)).bind fun _ =>
     some ((z5.2, (s1.2 ++ [(T3.mk z4.1 ((decide (z5.1 = 1))) z3)])))))
    (fun j s => Bag s.1 ∧ (∀ t ∈ s.2, Pc 2300 t) ∧ s.2.length = j) (fun j s hj i => by
      obtain ⟨bs, ps, ls⟩ := i
      obtain ⟨w, y2, e2, b2, s2⟩ := step_ok bs (m := 6) (by decide) (by decide)
      obtain ⟨us, y3, e3, b3, gB⟩ := bulging_ok b2
      obtain ⟨f, y4, e4, b4, l4, u4⟩ := digit_ok b3 (many := 2) (by decide) (by decide)
      have hv : (T3.mk (13 * (0 + (j : Int))) 0 1 : P3) = h30 ⟨30 * (13 * (j : Int)), 0⟩ := by
        have := hd_scale (k := 30) (n := 1) (a := 13 * (j : Int)) (b := 0) (by decide) (by decide)
        show _ = hd 30 _
        rw [show (30 : Int) * 1 = 30 from rfl, show (30 : Int) * 0 = 0 from rfl] at this
        rw [this, Int.zero_add]
        have g : g3 (13 * (j : Int)) 0 1 = 1 := by
          unfold g3
          rw [Int.gcd_one_right]; rfl
        unfold hd
        simp only [g]
        simp
      have sv : Sz 1950 ⟨30 * (13 * (j : Int)), 0⟩ := ⟨show (30 * (13 * (j : Int))).natAbs ≤ 1950 by omega, Nat.zero_le _⟩
      rw [e2, Option.bind_some]
      simp only
      rw [hv, lawslid_ok (h30_pt (by decide) s2) (h30_pt (by decide) sv), Option.bind_some, e3, Option.bind_some]
      simp only
      rw [e4, Option.bind_some]
      simp only
      rw [lenOk_ok (by omega), Option.bind_some]
      refine ⟨_, rfl, b4, fun t ht => ?_, by rw [List.length_append, ls]; rfl⟩
      rcases List.mem_append.mp ht with ht | ht
      · exact ps t ht
      · rw [List.mem_singleton] at ht
        subst ht
        refine ⟨⟨us, rfl, fun u hu => (gB.sz u hu).mono (by decide), gB.lo, gB.hi, gB.cv⟩, ⟨_, slP_h30 _ _, ?_⟩⟩
        have a := s2.1
        have b := s2.2
        have c := sv.1
        simp only at c
        exact ⟨show (w.a + 30 * (13 * (j : Int))).natAbs ≤ 2300 by omega, show (w.b + 0).natAbs ≤ 2300 by omega⟩) ⟨b1, (fun _ h => nomatch h), rfl⟩
  obtain ⟨bs, ps, ls⟩ := i
  refine ⟨s.2, s.1, (congrArg (fun o => Option.bind o _) e).trans rfl, bs, ps, by omega⟩
theorem issheet_ok {B : Nat} (hB : B ≤ 1000000) {s : List Piece} (h : ∀ t ∈ s, Pc B t) : m__law_is_sheet s = some true := by
  unfold m__law_is_sheet
  rw [if_neg (by decide)]
  refine loopL_bind (fun _ => True) ?_ trivial fun _ _ => rfl
  intro t _ ht _
  refine ⟨(), ?_, trivial⟩
  obtain ⟨⟨us, eu, g⟩, ⟨w, ew, sw⟩⟩ := h t ht
  have g1 := g.lo
  have g2 := g.hi
  rw [if_neg (by decide), if_neg (by decide), eu, convex_ok (by decide : (0 : Int) < 30) (rv30 hB g.sz) g.lo (by omega) g.cv, Option.bind_some, Option.bind_some, Option.bind_some, if_neg (by decide)]
  rw [if_neg (by decide), ew, ispoint_ok (h30_pt hB sw) (by decide), Option.bind_some, Option.bind_some, if_neg (by decide)]
theorem cell_ok (ns : List Int) (k : Nat) : ∃ c, m__law_cell ns (k : Int) = some c := by
  unfold m__law_cell
  by_cases z : k < ns.length
  · rw [if_pos (by simpa using z), ix_lt z]; exact ⟨_, rfl⟩
  · rw [if_neg (by simpa using z)]; exact ⟨_, rfl⟩
theorem pnt_ok {a b n : Int} (h : 0 < n) (hn : n.natAbs < 2 ^ 8000) : m_point a b n = some (hd n ⟨a, b⟩) := by
  unfold m_point
  have hg : (0 : Int) < (g3 a b n : Int) := by have := g3_pos (a := a) (b := b) (n := n) (by omega); omega
  have hl := g3_le (a := a) (b := b) h
  have hs : (g3 a b n : Int).natAbs < 2 ^ 8000 := Nat.lt_of_le_of_lt (by omega) hn
  rw [if_neg (by simp; omega), divisor_ok]
  simp only [Option.bind_some]
  rw [divisor_ok]
  simp only [Option.bind_some]
  rw [if_neg (by simp; omega)]
  simp only [Option.bind_some]
  have e3 : ((Int.gcd (Int.gcd a n : Int) b : Nat) : Int) = (g3 a b n : Int) := rfl
  rw [e3, divG_pos 8000 hg hs (by decide), divG_pos 8000 hg hs (by decide), divG_pos 8000 hg hs (by decide)]
  rfl
theorem slid_ok {p v : P3} (hp : Pt 200 p) (hv : Pt 200 v) : m_slid p v = some (slP v p) := by
  unfold m_slid
  rw [mulG_ok _ _ hp.sa hv.sc (by decide), Option.bind_some, mulG_ok _ _ hv.sa hp.sc (by decide), Option.bind_some, mulG_ok _ _ hp.sb hv.sc (by decide), Option.bind_some, mulG_ok _ _ hv.sb hp.sc (by decide), Option.bind_some, mulG_ok _ _ hp.sc hv.sc (by decide), Option.bind_some,
    pnt_ok (Int.mul_pos hp.pos hv.pos) (pow_le (sz_mul hp.sc hv.sc) (by decide))]; rfl
def tnP (r : P3) : P3 := ⟨-r.a, -r.b, r.c⟩
def tn (u : P2) : P2 := ⟨-u.a, -u.b⟩
theorem g3_neg (a b n : Int) : g3 (-a) (-b) n = g3 a b n := by
  unfold g3
  rw [Int.gcd_neg, Int.neg_gcd]
theorem tn_h30 (u : P2) : tnP (h30 u) = h30 (tn u) := by
  have hu := h30_ov u
  refine ov_same (P := 30) (by decide) ⟨hu.pos, ?_, ?_, ?_⟩ (h30_ov _)
  · have := hu.ea
    show -(h30 u).a * 30 = -u.a * (h30 u).c
    rw [Int.neg_mul, Int.neg_mul, this]
  · have := hu.eb
    show -(h30 u).b * 30 = -u.b * (h30 u).c
    rw [Int.neg_mul, Int.neg_mul, this]
  · show g3 (-(h30 u).a) (-(h30 u).b) (h30 u).c = 1
    rw [g3_neg]; exact hu.one
theorem tn_tn (r : P3) : tnP (tnP r) = r := by
  obtain ⟨a, b, c⟩ := r
  show (T3.mk (- -a) (- -b) c : P3) = _
  rw [Int.neg_neg, Int.neg_neg]
/-! ### plain k23 -/
theorem foldO_cnt {α τ : Type} {f : α → τ → Option τ} (I : Nat → τ → Prop) (N : Nat) (hf : ∀ k x s, k < N → I k s → ∃ s', f x s = some s' ∧ I (k + 1) s') : ∀ {xs : List α} {k : Nat} {s : τ}, k + xs.length ≤ N → I k s → ∃ s', foldO f xs s = some s' ∧ I (k + xs.length) s'
  | [], k, s, _, h => ⟨s, rfl, h⟩
  | x :: xs, k, s, hl, h => by
    rw [List.length_cons] at hl
    obtain ⟨s1, e1, h1⟩ := hf k x s (by omega) h
    obtain ⟨s2, e2, h2⟩ := foldO_cnt I N hf (xs := xs) (k := k + 1) (s := s1) (by omega) h1
    refine ⟨s2, ?_, by rw [List.length_cons, show k + (xs.length + 1) = k + 1 + xs.length by omega]; exact h2⟩
    show (f x s).bind _ = _
    rw [e1]; exact e2
def df (w u : P2) : P2 := ⟨u.a + (tn w).a, u.b + (tn w).b⟩
def fr (b : Bool) (w u : P2) : P2 := if b = true then tn (df w u) else df w u
theorem Sz.tn {B : Nat} {u : P2} (h : Sz B u) : Sz B (tn u) := ⟨by have := h.1; show (-u.a).natAbs ≤ B; omega, by have := h.2; show (-u.b).natAbs ≤ B; omega⟩
theorem Sz.df {B : Nat} {u w : P2} (h : Sz B u) (g : Sz B w) : Sz (B + B) (df w u) := ⟨by have := h.1; have := g.1; show (u.a + -w.a).natAbs ≤ B + B; omega, by have := h.2; have := g.2; show (u.b + -w.b).natAbs ≤ B + B; omega⟩
theorem first_ok {us : List P2} {w : P2} (b : Bool) (g : ∀ u ∈ us, Sz 2300 u) (hw : Sz 2300 w) (hl : us.length ≤ 5) : m_first_ring (T3.mk (us.map h30) b (h30 w)) = some (us.map fun u => h30 (fr b w u)) := by
  unfold m_first_ring
  simp only [List.length_map]
  rw [lenOk_ok (by omega), Option.bind_some, mapO_all (g := slP (h30 (tn w))) fun p hp => by
    obtain ⟨u, hu, e⟩ := List.mem_map.mp hp
    subst e
    rw [show m_turned (h30 w) = some (tnP (h30 w)) from rfl, Option.bind_some, tn_h30, slid_ok (h30_pt (by decide : 2300 ≤ 1000000) (g u hu)) (h30_pt (by decide : 2300 ≤ 1000000) hw.tn)]; rfl]
  rw [Option.bind_some]
  have e : (us.map h30).map (slP (h30 (tn w))) = us.map fun u => h30 (df w u) := by
    rw [List.map_map]
    exact List.map_congr_left fun u _ => slP_h30 u (tn w)
  rw [e]
  cases b with
  | false => rw [if_neg (by decide)]; rfl
  | true =>
    rw [if_pos rfl, List.length_map, lenOk_ok (by omega), Option.bind_some, mapO_all (f := fun x2 => (m_turned x2).bind fun z3 => some z3) (g := tnP) fun p hp => rfl, Option.bind_some, List.map_map]
    congr 1
    exact List.map_congr_left fun u _ => tn_h30 _
theorem law_true : ∀ ns : List Int, ns.length ≤ 63 → m_law ns = some true := by
  intro ns hl
  unfold m_law
  obtain ⟨c0, hc0⟩ := cell_ok ns 0
  rw [show ((0 : Nat) : Int) = 0 from rfl] at hc0
  obtain ⟨g, eg, bg⟩ := bag_ok c0
  obtain ⟨s0, y1, e1, b1, h0⟩ := sheet_ok bg (many := 6) (by decide) (by decide)
  have hs := slice_len ns (some 1) (some 6)
  rw [hc0, Option.bind_some, eg, Option.bind_some, e1, Option.bind_some]
  simp only
  obtain ⟨s, es, ps, _⟩ := foldO_cnt (f := fun (x1 : Int) (s1 : (List (T3 (List (T3 Int Int Int)) Bool (T3 Int Int Int)))) =>
     ((m__law_bag x1).bind fun z4 =>
     (m__law_sheet z4 6 2).bind fun z5 =>
     (lenOk (s1.length + z5.1.length)).bind fun _ =>
     (some ((s1 ++ z5.1))).bind fun (sheet_here_1 : (List (T3 (List (T3 Int Int Int)) Bool (T3 Int Int Int)))) =>
     some sheet_here_1)) (fun k (s : List Piece) => (∀ t ∈ s, Pc 2300 t) ∧ s.length ≤ 6 + 6 * k) 63 (fun k x s hk i => by
      obtain ⟨i1, i2⟩ := i
      obtain ⟨g, eg, bg⟩ := bag_ok x
      obtain ⟨s1, y1, e1, b1, h1⟩ := sheet_ok bg (many := 2) (by decide) (by decide)
      have l1 := h1.le
      rw [eg, Option.bind_some, e1, Option.bind_some]
      simp only
      rw [lenOk_ok (by omega), Option.bind_some, Option.bind_some]
      refine ⟨_, rfl, fun t ht => ?_, by rw [List.length_append]; omega⟩
      rcases List.mem_append.mp ht with ht | ht
      · exact i1 t ht
      · exact h1.pc t ht) (xs := slice ns (some 1) (some 6)) (k := 0) (s := s0) (by omega) ⟨h0.pc, by have := h0.le; omega⟩
  refine (congrArg (fun o => Option.bind o _) es).trans ?_
  rw [Option.bind_some]
  refine loopL_bind (fun _ => True) ?_ trivial fun _ _ => rfl
  intro t _ ht _
  refine ⟨(), ?_, trivial⟩
  have hp := ps t ht
  obtain ⟨⟨us, eu, g⟩, ⟨w, ew, sw⟩⟩ := hp
  have g2 := g.hi
  have pf : ∀ t' ∈ [(T3.mk t.a false (T3.mk 0 0 1) : Piece)], Pc 2300 t' := fun t' ht' => by
    rw [List.mem_singleton] at ht'
    subst ht'
    exact ⟨⟨us, eu, g⟩, ⟨⟨0, 0⟩, (show (T3.mk 0 0 1 : P3) = h30 ⟨0, 0⟩ by decide), ⟨by decide, by decide⟩⟩⟩
  refine loopL_bind (fun _ => True) ?_ trivial fun _ _ => ?_
  · intro _ _ _ _
    refine ⟨(), ?_, trivial⟩
    rw [show m_fresh t.a = some (T3.mk t.a false (T3.mk 0 0 1)) from rfl, Option.bind_some, if_neg (by simp), issheet_ok (by decide : 2300 ≤ 1000000) pf, Option.bind_some, if_neg (by decide)]
    simp
  · refine loopL_bind (fun _ => True) ?_ trivial fun _ _ => rfl
    intro _ _ _ _
    refine ⟨(), ?_, trivial⟩
    obtain ⟨ta, tb, tc⟩ := t
    simp only at eu ew ⊢
    subst eu ew
    rw [first_ok tb g.sz sw g2, Option.bind_some, if_neg (by simp), List.length_map, rngOk_ok (by omega) (by omega), Option.bind_some]
    refine loopL_bind (fun _ => True) ?_ trivial fun _ _ => rfl
    intro x _ hx _
    refine ⟨(), ?_, trivial⟩
    obtain ⟨a1, a2⟩ := rangeL_mem hx
    obtain ⟨k, rfl⟩ : ∃ k : Nat, x = (k : Int) := ⟨x.toNat, by omega⟩
    have hk : k < us.length := by omega
    have hu := g.sz _ (List.getElem_mem hk)
    have sd := hu.df sw
    have i1 : ix (us.map fun u => h30 (fr tb w u)) (k : Int) = some (h30 (fr tb w us[k])) := by rw [ix_map, ix_lt hk]; rfl
    have i2 : ix (us.map h30) (k : Int) = some (h30 us[k]) := by rw [ix_map, ix_lt hk]; rfl
    have sf : Sz 4600 (fr tb w us[k]) := by
      unfold fr
      split
      · exact sd.tn
      · exact sd
    rw [i1, Option.bind_some, ispoint_ok (h30_pt (by decide : 4600 ≤ 1000000) sf) (by decide), Option.bind_some, if_neg (by decide)]
    have e : (if tb = true then ((m__law_turned (h30 (fr tb w us[k]))).bind fun z11 => some z11) else (some (h30 (fr tb w us[k])))) = some (h30 (df w us[k])) := by
      cases tb with
      | false => rfl
      | true =>
        rw [if_pos rfl, show m__law_turned (h30 (fr true w us[k])) = some (tnP (h30 (fr true w us[k]))) from rfl, Option.bind_some, tn_h30]
        show some (h30 (tn (tn (df w us[k])))) = _
        have : ∀ u : P2, tn (tn u) = u := fun u => by
          obtain ⟨a, b⟩ := u
          show (T2.mk (- -a) (- -b) : P2) = _
          rw [Int.neg_neg, Int.neg_neg]
        rw [this]
    refine (congrArg (fun o => Option.bind o _) e).trans ?_
    rw [Option.bind_some, lawslid_ok (h30_pt (by decide : 4600 ≤ 1000000) sd) (h30_pt (by decide : 2300 ≤ 1000000) sw), Option.bind_some, slP_h30, i2, Option.bind_some]
    have : (⟨(df w us[k]).a + w.a, (df w us[k]).b + w.b⟩ : P2) = us[k] := by
      show (T2.mk (us[k].a + -w.a + w.a) (us[k].b + -w.b + w.b) : P2) = us[k]
      rw [show us[k].a + -w.a + w.a = us[k].a by omega, show us[k].b + -w.b + w.b = us[k].b by omega]
    rw [this, if_neg (by simp)]
def top (i : Nat) : Stmt := PySem.Challenge.pw_slidecut_k23_pieces_and_where_they_lay.main.body.getD i (.Pass ⟨0, 0, 0, 0⟩)
abbrev s__law_cell : Stmt := top 13
abbrev s__law_bag : Stmt := top 14
abbrev s__law_digit : Stmt := top 15
abbrev s__law_point : Stmt := top 16
abbrev s__law_step : Stmt := top 26
abbrev s__law_slid : Stmt := top 17
abbrev s__law_place : Stmt := top 25
abbrev s__law_side : Stmt := top 19
abbrev s__law_three : Stmt := top 27
abbrev s__law_is_point : Stmt := top 20
abbrev s__law_is_convex : Stmt := top 21
abbrev s__law_bulging : Stmt := top 28
abbrev s__law_sheet : Stmt := top 30
abbrev s_fresh : Stmt := top 10
abbrev s__law_is_sheet : Stmt := top 32
abbrev s_turned : Stmt := top 8
abbrev s_greatest_divisor : Stmt := top 4
abbrev s_point : Stmt := top 6
abbrev s_slid : Stmt := top 7
abbrev s_first_ring : Stmt := top 11
abbrev s__law_turned : Stmt := top 18
abbrev s_law : Stmt := top 33
structure Txt (K : PySem.W.Frag) (mg : Str → Option Value) where
  A__law_cell : Addr
  D__law_cell : FuncData
  F__law_cell : Fun K "_law_cell" "_law_cell" s__law_cell A__law_cell D__law_cell
  g__law_cell : mg "_law_cell" = some (.ref A__law_cell)
  b__law_cell : Binds K D__law_cell ["_law_script", "_law_k"] []
  A__law_bag : Addr
  D__law_bag : FuncData
  F__law_bag : Fun K "_law_bag" "_law_bag" s__law_bag A__law_bag D__law_bag
  g__law_bag : mg "_law_bag" = some (.ref A__law_bag)
  b__law_bag : Binds K D__law_bag ["_law_cell_here"] []
  A__law_digit : Addr
  D__law_digit : FuncData
  F__law_digit : Fun K "_law_digit" "_law_digit" s__law_digit A__law_digit D__law_digit
  g__law_digit : mg "_law_digit" = some (.ref A__law_digit)
  b__law_digit : Binds K D__law_digit ["_law_bag_here", "_law_many"] []
  A__law_point : Addr
  D__law_point : FuncData
  F__law_point : Fun K "_law_point" "_law_point" s__law_point A__law_point D__law_point
  g__law_point : mg "_law_point" = some (.ref A__law_point)
  b__law_point : Binds K D__law_point ["_law_a", "_law_b", "_law_n"] []
  A__law_step : Addr
  D__law_step : FuncData
  F__law_step : Fun K "_law_step" "_law_step" s__law_step A__law_step D__law_step
  g__law_step : mg "_law_step" = some (.ref A__law_step)
  b__law_step : Binds K D__law_step ["_law_bag_here", "_law_most"] []
  A__law_slid : Addr
  D__law_slid : FuncData
  F__law_slid : Fun K "_law_slid" "_law_slid" s__law_slid A__law_slid D__law_slid
  g__law_slid : mg "_law_slid" = some (.ref A__law_slid)
  b__law_slid : Binds K D__law_slid ["_law_p", "_law_v"] []
  A__law_place : Addr
  D__law_place : FuncData
  F__law_place : Fun K "_law_place" "_law_place" s__law_place A__law_place D__law_place
  g__law_place : mg "_law_place" = some (.ref A__law_place)
  b__law_place : Binds K D__law_place ["_law_bag_here", "_law_most"] []
  A__law_side : Addr
  D__law_side : FuncData
  F__law_side : Fun K "_law_side" "_law_side" s__law_side A__law_side D__law_side
  g__law_side : mg "_law_side" = some (.ref A__law_side)
  b__law_side : Binds K D__law_side ["_law_p", "_law_q", "_law_r"] []
  A__law_three : Addr
  D__law_three : FuncData
  F__law_three : Fun K "_law_three" "_law_three" s__law_three A__law_three D__law_three
  g__law_three : mg "_law_three" = some (.ref A__law_three)
  b__law_three : Binds K D__law_three ["_law_bag_here", "_law_most"] []
  A__law_is_point : Addr
  D__law_is_point : FuncData
  F__law_is_point : Fun K "_law_is_point" "_law_is_point" s__law_is_point A__law_is_point D__law_is_point
  g__law_is_point : mg "_law_is_point" = some (.ref A__law_is_point)
  b__law_is_point : Binds K D__law_is_point ["_law_p"] []
  A__law_is_convex : Addr
  D__law_is_convex : FuncData
  F__law_is_convex : Fun K "_law_is_convex" "_law_is_convex" s__law_is_convex A__law_is_convex D__law_is_convex
  g__law_is_convex : mg "_law_is_convex" = some (.ref A__law_is_convex)
  b__law_is_convex : Binds K D__law_is_convex ["_law_ring"] []
  A__law_bulging : Addr
  D__law_bulging : FuncData
  F__law_bulging : Fun K "_law_bulging" "_law_bulging" s__law_bulging A__law_bulging D__law_bulging
  g__law_bulging : mg "_law_bulging" = some (.ref A__law_bulging)
  b__law_bulging : Binds K D__law_bulging ["_law_bag_here", "_law_most"] []
  A__law_sheet : Addr
  D__law_sheet : FuncData
  F__law_sheet : Fun K "_law_sheet" "_law_sheet" s__law_sheet A__law_sheet D__law_sheet
  g__law_sheet : mg "_law_sheet" = some (.ref A__law_sheet)
  b__law_sheet : Binds K D__law_sheet ["_law_bag_here", "_law_most", "_law_many"] []
  A_fresh : Addr
  D_fresh : FuncData
  F_fresh : Fun K "fresh" "fresh" s_fresh A_fresh D_fresh
  g_fresh : mg "fresh" = some (.ref A_fresh)
  b_fresh : Binds K D_fresh ["ring"] []
  A__law_is_sheet : Addr
  D__law_is_sheet : FuncData
  F__law_is_sheet : Fun K "_law_is_sheet" "_law_is_sheet" s__law_is_sheet A__law_is_sheet D__law_is_sheet
  g__law_is_sheet : mg "_law_is_sheet" = some (.ref A__law_is_sheet)
  b__law_is_sheet : Binds K D__law_is_sheet ["_law_sheet_here"] []
  A_turned : Addr
  D_turned : FuncData
  F_turned : Fun K "turned" "turned" s_turned A_turned D_turned
  g_turned : mg "turned" = some (.ref A_turned)
  b_turned : Binds K D_turned ["p"] []
  A_greatest_divisor : Addr
  D_greatest_divisor : FuncData
  F_greatest_divisor : Fun K "greatest_divisor" "greatest_divisor" s_greatest_divisor A_greatest_divisor D_greatest_divisor
  g_greatest_divisor : mg "greatest_divisor" = some (.ref A_greatest_divisor)
  b_greatest_divisor : Binds K D_greatest_divisor ["a", "b"] []
  A_point : Addr
  D_point : FuncData
  F_point : Fun K "point" "point" s_point A_point D_point
  g_point : mg "point" = some (.ref A_point)
  b_point : Binds K D_point ["a", "b", "n"] []
  A_slid : Addr
  D_slid : FuncData
  F_slid : Fun K "slid" "slid" s_slid A_slid D_slid
  g_slid : mg "slid" = some (.ref A_slid)
  b_slid : Binds K D_slid ["p", "step"] []
  A_first_ring : Addr
  D_first_ring : FuncData
  F_first_ring : Fun K "first_ring" "first_ring" s_first_ring A_first_ring D_first_ring
  g_first_ring : mg "first_ring" = some (.ref A_first_ring)
  b_first_ring : Binds K D_first_ring ["piece"] []
  A__law_turned : Addr
  D__law_turned : FuncData
  F__law_turned : Fun K "_law_turned" "_law_turned" s__law_turned A__law_turned D__law_turned
  g__law_turned : mg "_law_turned" = some (.ref A__law_turned)
  b__law_turned : Binds K D__law_turned ["_law_p"] []
  A_law : Addr
  D_law : FuncData
  F_law : Fun K "law" "law" s_law A_law D_law
  g_law : mg "law" = some (.ref A_law)
  b_law : Binds K D_law ["_law_script"] []
  z_abs : mg "abs" = none
  z_bool : mg "bool" = none
  z_int : mg "int" = none
  z_isinstance : mg "isinstance" = none
  z_len : mg "len" = none
  z_list : mg "list" = none
  z_range : mg "range" = none
  z_tuple : mg "tuple" = none
section
variable {P : Program} {w : World} {K : PySem.W.Frag} {mg : Str → Option Value} {base : Heap}
abbrev sp__law_cell (K : PySem.W.Frag) : Sp := fun vs H Q _ => ∃ (X : Addr → Prop)  (a__law_script : (List Int)) (a__law_k : Int) (r : Int), m__law_cell a__law_script a__law_k = some r ∧ Cond K X H [.scr a__law_script, .imm (.int a__law_k)] vs ∧ ∀ H', Fin K X H [] [] (.imm (.int r)) (.int r) H' → Q (.int r) H'
theorem mk__law_cell {K : PySem.W.Frag} {X : Addr → Prop} {H : Hp} {vs : List V} {Q : VK} {E : XK}  {a__law_script : (List Int)} {a__law_k : Int} {r : Int} (hm : m__law_cell a__law_script a__law_k = some r) (c : Cond K X H [.scr a__law_script, .imm (.int a__law_k)] vs) (k : ∀ H', Fin K X H [] [] (.imm (.int r)) (.int r) H' → Q (.int r) H') : sp__law_cell K vs H Q E := ⟨X, a__law_script, a__law_k, r, hm, c, k⟩
abbrev n__law_cell : List Str := ["_law_script", "_law_k"]
theorem sc__law_cell : FnScope n__law_cell ["_law_script", "_law_k"] (defScope s__law_cell) := ⟨rfl, rfl, rfl, by decide +kernel, rfl, by decide +kernel, by decide +kernel⟩
theorem ok__law_cell (T : Txt K mg) : FnOk P w K mg base CX0 1 T.A__law_cell T.D__law_cell ["_law_script", "_law_k"] (sp__law_cell K) := by
  refine Fun.ok T.F__law_cell sc__law_cell (fun vs H Q E h => ?_) (fun cdv A outer s H vs Q E hr h => ?_)
  · obtain ⟨X, a__law_script, a__law_k, r, hm, c, kont⟩ := h
    exact c.len
  · obtain ⟨X, a__law_script, a__law_k, r, hm, c, kont⟩ := h
    refine ⟨_, (pss_cons (ps_if (pt_cmpR op_lt (pv 1) (pe_callB (r := rLenX K) call_lenX (by rfl) T.z_len (by decide +kernel) (pa_cons (pv 0) pa_nil)) (nomark _)) (pss_one (ps_ret (pe_ix (r := rIxL K) ix_list (pv 0) (pv 1) (fun _ _ => rfl)))) pss_nil)
      (pss_one (ps_ret pe_int))), ?_⟩
    have L0 : Lo ⟨K, X, H, muts [.scr a__law_script, .imm (.int a__law_k)], n__law_cell.length⟩ X H (L2.start n__law_cell vs) [.scr a__law_script, .imm (.int a__law_k)] := c.start n__law_cell (show (2 : Nat) ≤ 2 by decide)
    unfold m__law_cell at hm
    refine x_seq (x_ifS (x_test (x_op (x_vI (x := a__law_k) L0 rfl (x_cb (x_cons (x_vscr L0 rfl fun v1 r1 => x_nil (x_lenS r1 (x_r0 (x_kb (x_if hm (fun hm1 => ?_) fun hm1 => ?_)))))))))))
    · exact x_ret (x_op (x_vscr L0 rfl fun v2 r2 => x_vI (x := a__law_k) L0 rfl (x_ixS hm1 r2 fun x1 _ hm2 => x_finI (Q := Q) (ps := (fun (r : Int) => [])) (sc := fun (r : Int) => r) x1 hm2 kont (L0.fin hp0 (.int _)))))
    · refine x_next ?_
      exact x_ret (x_c (x_finI (Q := Q) (ps := (fun (r : Int) => [])) (sc := fun (r : Int) => r) 0 hm1 kont (L0.fin hp0 (.int _))))
abbrev sp__law_bag (K : PySem.W.Frag) : Sp := fun vs H Q _ => ∃ (X : Addr → Prop)  (a__law_cell_here : Int) (r : (List Int)), m__law_bag a__law_cell_here = some r ∧ Cond K X H [.imm (.int a__law_cell_here)] vs ∧ ∀ p H', Fin K X H [] [] (.new (ml (r : (List Int)))) (.ref p) H' → Q (.ref p) H'
theorem mk__law_bag {K : PySem.W.Frag} {X : Addr → Prop} {H : Hp} {vs : List V} {Q : VK} {E : XK}  {a__law_cell_here : Int} {r : (List Int)} (hm : m__law_bag a__law_cell_here = some r) (c : Cond K X H [.imm (.int a__law_cell_here)] vs) (k : ∀ p H', Fin K X H [] [] (.new (ml (r : (List Int)))) (.ref p) H' → Q (.ref p) H') : sp__law_bag K vs H Q E := ⟨X, a__law_cell_here, r, hm, c, k⟩
abbrev n__law_bag : List Str := ["_law_cell_here"]
theorem sc__law_bag : FnScope n__law_bag ["_law_cell_here"] (defScope s__law_bag) := ⟨rfl, rfl, rfl, by decide +kernel, rfl, by decide +kernel, by decide +kernel⟩
theorem ok__law_bag (T : Txt K mg) : FnOk P w K mg base CX0 1 T.A__law_bag T.D__law_bag ["_law_cell_here"] (sp__law_bag K) := by
  refine Fun.ok T.F__law_bag sc__law_bag (fun vs H Q E h => ?_) (fun cdv A outer s H vs Q E hr h => ?_)
  · obtain ⟨X, a__law_cell_here, r, hm, c, kont⟩ := h
    exact c.len
  · obtain ⟨X, a__law_cell_here, r, hm, c, kont⟩ := h
    refine ⟨_, (pss_one (ps_ret (pe_lst (pa_cons (pe_op op_mul (pv 0) (pe_callTy call_intX (by rfl) T.z_int (by decide +kernel) (pa_cons (pe_cmpR op_ge (pv 0) (pe_op op_pow pe_int pe_int) (nomark _)) pa_nil))) (pa_cons (pe_op op_mod (pv 0) pe_int) pa_nil))))), ?_⟩
    have L0 : Lo ⟨K, X, H, muts [.imm (.int a__law_cell_here)], n__law_bag.length⟩ X H (L2.start n__law_bag vs) [.imm (.int a__law_cell_here)] := c.start n__law_bag (show (1 : Nat) ≤ 1 by decide)
    unfold m__law_bag at hm
    exact x_ret (x_lst (x_cons (x_op (x_vI (x := a__law_cell_here) L0 rfl (x_cb (x_cons (x_op (x_vI (x := a__law_cell_here) L0 rfl (x_op (x_c (x_c (x_powc (n := 1000000000000000000) ⟨by decide, by decide, by decide⟩ (by decide +kernel) (x_r0 (x_nil (x_intb (x_mulR (b2_small _) (x_cons (x_op (x_vI (x := a__law_cell_here) L0 rfl (x_c (x_modc (by decide) (x_nil (x_mkN L0 (.cons (.int _) (.cons (.int _) .nil)) (show (2 : Nat) ≤ 16777216 by decide) fun p1 _ _ h01 hx1 L1 le1 => x_finP (Q := Q) (ps := (fun (r : (List Int)) => [])) (o := fun (r : (List Int)) => ml (r : (List Int))) (e := [(a__law_cell_here * (b2 ((decide (1000000000000000000 ≤ a__law_cell_here))))), (a__law_cell_here % 2147483647)]) hm kont (L1.finT (p := p1) (i := 1) (o := (ml ([(a__law_cell_here * (b2 ((decide (1000000000000000000 ≤ a__law_cell_here))))), (a__law_cell_here % 2147483647)] : (List Int)))) hp0 rfl h01))))))))))))))))))))))))
abbrev sp__law_digit (K : PySem.W.Frag) : Sp := fun vs H Q _ => ∃ (X : Addr → Prop) (p__law_bag_here : Addr) (a__law_bag_here : (List Int)) (a__law_many : Int) (r : (Int × (List Int))), m__law_digit a__law_bag_here a__law_many = some r ∧ Cond K X H [.mu p__law_bag_here (ml (a__law_bag_here : (List Int))), .imm (.int a__law_many)] vs ∧ ∀ H', Fin K X H [p__law_bag_here] [(p__law_bag_here, ml (r.2 : (List Int)))] (.imm (.int r.1)) (.int r.1) H' → Q (.int r.1) H'
theorem mk__law_digit {K : PySem.W.Frag} {X : Addr → Prop} {H : Hp} {vs : List V} {Q : VK} {E : XK} {p__law_bag_here : Addr} {a__law_bag_here : (List Int)} {a__law_many : Int} {r : (Int × (List Int))} (hm : m__law_digit a__law_bag_here a__law_many = some r) (c : Cond K X H [.mu p__law_bag_here (ml (a__law_bag_here : (List Int))), .imm (.int a__law_many)] vs) (k : ∀ H', Fin K X H [p__law_bag_here] [(p__law_bag_here, ml (r.2 : (List Int)))] (.imm (.int r.1)) (.int r.1) H' → Q (.int r.1) H') : sp__law_digit K vs H Q E := ⟨X, p__law_bag_here, a__law_bag_here, a__law_many, r, hm, c, k⟩
abbrev n__law_digit : List Str := ["_law_bag_here", "_law_many", "_law_found"]
theorem sc__law_digit : FnScope n__law_digit ["_law_bag_here", "_law_many"] (defScope s__law_digit) := ⟨rfl, rfl, rfl, by decide +kernel, rfl, by decide +kernel, by decide +kernel⟩
theorem ok__law_digit (T : Txt K mg) : FnOk P w K mg base CX0 1 T.A__law_digit T.D__law_digit ["_law_bag_here", "_law_many"] (sp__law_digit K) := by
  refine Fun.ok T.F__law_digit sc__law_digit (fun vs H Q E h => ?_) (fun cdv A outer s H vs Q E hr h => ?_)
  · obtain ⟨X, p__law_bag_here, a__law_bag_here, a__law_many, r, hm, c, kont⟩ := h
    exact c.len
  · obtain ⟨X, p__law_bag_here, a__law_bag_here, a__law_many, r, hm, c, kont⟩ := h
    refine ⟨_, (pss_cons (ps_if (pt_cmpR op_gt (pe_ix (r := rIxL K) ix_list (pv 0) pe_int (fun _ _ => rfl)) pe_int (nomark _)) (pss_cons (ps_set (i := 2) sc__law_digit.nd rfl (Or.inl rfl) (pe_op op_modN (pe_ix (r := rIxL K) ix_list (pv 0) pe_int (fun _ _ => rfl)) (pv 1)))
      (pss_cons (ps_asg (pe_op op_divG (pe_ix (r := rIxL K) ix_list (pv 0) pe_int (fun _ _ => rfl)) (pv 1)) (pg_sub (pv 0) pe_int set_list))
      (pss_one (ps_ret (pv 2))))) pss_nil)
      (pss_cons (ps_asg (pe_op op_mod (pe_op op_add (pe_op op_mul (pe_ix (r := rIxL K) ix_list (pv 0) pe_int (fun _ _ => rfl)) pe_int) pe_int) pe_int) (pg_sub (pv 0) pe_int set_list))
      (pss_one (ps_ret (pe_op op_modN (pe_op op_fdiv (pe_op op_mod (pe_op op_mul (pe_ix (r := rIxL K) ix_list (pv 0) pe_int (fun _ _ => rfl)) pe_int) pe_int) pe_int) (pv 1)))))), ?_⟩
    have L0 : Lo ⟨K, X, H, muts [.mu p__law_bag_here (ml (a__law_bag_here : (List Int))), .imm (.int a__law_many)], n__law_digit.length⟩ X H (L2.start n__law_digit vs) [.mu p__law_bag_here (ml (a__law_bag_here : (List Int))), .imm (.int a__law_many), .unk] := c.start n__law_digit (show (2 : Nat) ≤ 3 by decide)
    unfold m__law_digit at hm
    refine x_seq (x_ifS (x_test (x_op (x_op (x_vm L0 rfl (x_c (x_ixMI (xs := a__law_bag_here) (j := 0) L0 rfl hm fun x1 _ hm1 => x_c (x_r0 (x_kb (x_if hm1 (fun hm2 => ?_) fun hm2 => ?_))))))))))
    · refine x_seq (x_asg (x_op (x_op (x_vm L0 rfl (x_c (x_ixMI (xs := a__law_bag_here) (j := 0) L0 rfl hm2 fun x2 _ hm3 => x_vI (x := a__law_many) L0 rfl (x_mod hm3 fun z1 _ hm4 => x_set (d := (.int z1)) (Γ' := [.mu p__law_bag_here (ml (a__law_bag_here : (List Int))), .imm (.int a__law_many), .imm (.int z1)]) L0 (.int _) (show (2 : Nat) < 3 by decide) rfl fun _ L1 => ?_)))))))
      refine x_seq (x_asg (x_op (x_op (x_vm L1 rfl (x_c (x_ixMI (xs := a__law_bag_here) (j := 0) L1 rfl hm4 fun x3 _ hm5 => x_vI (x := a__law_many) L1 rfl (x_div hm5 fun z2 _ hm6 => x_gSub (x_vm L1 rfl (x_c (x_setI (xs := a__law_bag_here) (x := z2) (j := 0) L1 rfl hm6 (.int _) fun y1 _ _ hm7 L2 => have L3 : Lo _ _ _ _ [.mu p__law_bag_here (ml (y1 : (List Int))), .imm (.int a__law_many), .imm (.int z1)] := L2; ?_))))))))))
      exact x_ret (x_vI (x := z1) L3 rfl (x_finI (Q := Q) (ps := (fun (r : (Int × (List Int))) => [(p__law_bag_here, ml (r.2 : (List Int)))])) (sc := fun (r : (Int × (List Int))) => r.1) ((z1, y1)) hm7 kont (L3.fin (hp1 (L3.mrep (i := 0) rfl)) (.int _))))
    · refine x_next ?_
      refine x_seq (x_asg (x_op (x_op (x_op (x_op (x_vm L0 rfl (x_c (x_ixMI (xs := a__law_bag_here) (j := 0) L0 rfl hm2 fun x4 _ hm8 => x_c (x_mulR (by decide) (x_c (x_r0 (x_c (x_modc (by decide) (x_gSub (x_vm L0 rfl (x_c (x_setI (xs := a__law_bag_here) (x := (((x4 * 48271) + 11) % 2147483647)) (j := 0) L0 rfl hm8 (.int _) fun y2 _ _ hm9 L4 => have L5 : Lo _ _ _ _ [.mu p__law_bag_here (ml (y2 : (List Int))), .imm (.int a__law_many), .unk] := L4; ?_)))))))))))))))))
      exact x_ret (x_op (x_op (x_op (x_op (x_op (x_vm L5 rfl (x_c (x_ixMI (xs := y2) (j := 0) L5 rfl hm9 fun x5 _ hm10 => x_c (x_mulR (by decide) (x_c (x_modc (by decide) (x_c (x_divc ⟨by decide, by decide⟩ (x_vI (x := a__law_many) L5 rfl (x_mod hm10 fun z3 _ hm11 => x_finI (Q := Q) (ps := (fun (r : (Int × (List Int))) => [(p__law_bag_here, ml (r.2 : (List Int)))])) (sc := fun (r : (Int × (List Int))) => r.1) ((z3, y2)) hm11 kont (L5.fin (hp1 (L5.mrep (i := 0) rfl)) (.int _)))))))))))))))))
abbrev sp__law_point (K : PySem.W.Frag) : Sp := fun vs H Q _ => ∃ (X : Addr → Prop)  (a__law_a : Int) (a__law_b : Int) (a__law_n : Int) (r : (T3 Int Int Int)), m__law_point a__law_a a__law_b a__law_n = some r ∧ Cond K X H [.imm (.int a__law_a), .imm (.int a__law_b), .imm (.int a__law_n)] vs ∧ ∀ v H', Fin K X H [] [] (.imm (enc (r : (T3 Int Int Int)))) v H' → Q v H'
theorem mk__law_point {K : PySem.W.Frag} {X : Addr → Prop} {H : Hp} {vs : List V} {Q : VK} {E : XK}  {a__law_a : Int} {a__law_b : Int} {a__law_n : Int} {r : (T3 Int Int Int)} (hm : m__law_point a__law_a a__law_b a__law_n = some r) (c : Cond K X H [.imm (.int a__law_a), .imm (.int a__law_b), .imm (.int a__law_n)] vs) (k : ∀ v H', Fin K X H [] [] (.imm (enc (r : (T3 Int Int Int)))) v H' → Q v H') : sp__law_point K vs H Q E := ⟨X, a__law_a, a__law_b, a__law_n, r, hm, c, k⟩
abbrev n__law_point : List Str := ["_law_a", "_law_b", "_law_n", "_law_one", "_law_other", "_law_rest"]
theorem sc__law_point : FnScope n__law_point ["_law_a", "_law_b", "_law_n"] (defScope s__law_point) := ⟨rfl, rfl, rfl, by decide +kernel, rfl, by decide +kernel, by decide +kernel⟩
theorem ok__law_point (T : Txt K mg) : FnOk P w K mg base CX0 1 T.A__law_point T.D__law_point ["_law_a", "_law_b", "_law_n"] (sp__law_point K) := by
  refine Fun.ok T.F__law_point sc__law_point (fun vs H Q E h => ?_) (fun cdv A outer s H vs Q E hr h => ?_)
  · obtain ⟨X, a__law_a, a__law_b, a__law_n, r, hm, c, kont⟩ := h
    exact c.len
  · obtain ⟨X, a__law_a, a__law_b, a__law_n, r, hm, c, kont⟩ := h
    refine ⟨_, (pss_cons (ps_set (i := 3) sc__law_point.nd rfl (Or.inl rfl) (pe_callB call_absX (by rfl) T.z_abs (by decide +kernel) (pa_cons (pv 0) pa_nil)))
      (pss_cons (ps_for PassesOwn.never rfl (pi_list (pe_lst (pa_cons (pe_callB call_absX (by rfl) T.z_abs (by decide +kernel) (pa_cons (pv 1) pa_nil)) (pa_cons (pv 2) pa_nil)))) (pg_name (i := 4) sc__law_point.nd rfl (Or.inl rfl)) (pss_one (ps_while PassesOwn.never (pt_cmpR op_gt (pv 4) pe_int (nomark _)) (pss_cons (ps_set (i := 5) sc__law_point.nd rfl (Or.inl rfl) (pe_op op_modN (pv 3) (pv 4)))
      (pss_cons (ps_set (i := 3) sc__law_point.nd rfl (Or.inl rfl) (pv 4))
      (pss_one (ps_set (i := 4) sc__law_point.nd rfl (Or.inl rfl) (pv 5))))))))
      (pss_one (ps_ret (pe_tup (pa_cons (pe_op op_divG (pv 0) (pv 3)) (pa_cons (pe_op op_divG (pv 1) (pv 3)) (pa_cons (pe_op op_divG (pv 2) (pv 3)) pa_nil)))))))), ?_⟩
    have L0 : Lo ⟨K, X, H, muts [.imm (.int a__law_a), .imm (.int a__law_b), .imm (.int a__law_n)], n__law_point.length⟩ X H (L2.start n__law_point vs) [.imm (.int a__law_a), .imm (.int a__law_b), .imm (.int a__law_n), .unk, .unk, .unk] := c.start n__law_point (show (3 : Nat) ≤ 6 by decide)
    unfold m__law_point at hm
    refine x_seq (x_asg (x_cb (x_cons (x_vI (x := a__law_a) L0 rfl (x_nil (x_abs (x_bset (x0 := (iabs a__law_a)) (d := fun one_1 => (.int one_1)) (Γf := fun one_1 => [.imm (.int a__law_a), .imm (.int a__law_b), .imm (.int a__law_n), .imm (.int one_1), .unk, .unk]) hm L0 (.int _) (show (3 : Nat) < 6 by decide) (fun _ => rfl) fun one_1 _ hm1 L1 => ?_)))))))
    refine x_seq (x_tforL (x_lst (x_cons (x_cb (x_cons (x_vI (x := a__law_b) L1 rfl (x_nil (x_abs (x_cons (x_vI (x := a__law_n) L1 rfl (x_nil (x_mkL L1 (.cons (.int _) (.cons (.int _) .nil)) (show (2 : Nat) ≤ 16777216 by decide) fun v1 _ L2 le1 r1 => have r2 : Rep _ _ _ (enc ([(iabs a__law_b), a__law_n] : (List Int))) v1 := r1; x_foL (G := (fun (s1 : Int) => [.imm (.int a__law_a), .imm (.int a__law_b), .imm (.int a__law_n), .imm (.int s1), .unk, .unk])) (s0 := one_1) (xs := [(iabs a__law_b), a__law_n]) (L2.weak (Γ' := [.imm (.int a__law_a), .imm (.int a__law_b), .imm (.int a__law_n), .imm (.int one_1), .unk, .unk]) (.k (.k (.k (.k (.k (.k .e))))))) (fun _ _ => rfl) r2 hm1 (fun x1 s1 H1 _ u1 _ _ _ _ _ hm2 L3 r3 hN1 hC1 => ?_) (fun s2 _ _ hm3 L4 => ?_)))))))))))))
    · refine x_set (d := (.int x1)) (Γ' := [.imm (.int a__law_a), .imm (.int a__law_b), .imm (.int a__law_n), .imm (.int s1), .imm (.int x1), .unk]) L3 r3 (show (4 : Nat) < 6 by decide) rfl fun _ L5 => ?_
      refine x_wh (n := x1.natAbs + 2) (G := (fun (s3 : (Int × Int)) => [.imm (.int a__law_a), .imm (.int a__law_b), .imm (.int a__law_n), .imm (.int s3.1), .imm (.int s3.2), .unk])) (s0 := (s1, x1)) (ρ := Empty) (ps := fun _ => []) (rs := fun _ => .imm .none) (L5.weak (Γ' := [.imm (.int a__law_a), .imm (.int a__law_b), .imm (.int a__law_n), .imm (.int s1), .imm (.int x1), .unk]) (.k (.k (.k (.k (.k (.k .e))))))) (fun _ _ => rfl) hm2 (fun s3 H2 _ _ _ _ _ _ hm5 L6 hN2 hC2 hB2 hR2 _ hQ1 => ?_) (fun s4 _ _ hm6 L7 => ?_) (fun q => q.elim)
      · refine x_test (x_op (x_vI (x := s3.2) L6 rfl (x_c (x_r0 (x_kb (hQ1 _ _ (x_whIf hm5 (fun hm8 => ?_) fun hm8 => ?_)))))))
        · refine x_seq (x_asg (x_op (x_vI (x := s3.1) L6 rfl (x_vI (x := s3.2) L6 rfl (x_mod hm8 fun z1 _ hm9 => x_set (d := (.int z1)) (Γ' := [.imm (.int a__law_a), .imm (.int a__law_b), .imm (.int a__law_n), .imm (.int s3.1), .imm (.int s3.2), .imm (.int z1)]) L6 (.int _) (show (5 : Nat) < 6 by decide) rfl fun _ L8 => ?_)))))
          refine x_seq (x_asg (x_vI (x := s3.2) L8 rfl (x_set (d := (.int s3.2)) (Γ' := [.imm (.int a__law_a), .imm (.int a__law_b), .imm (.int a__law_n), .imm (.int s3.2), .imm (.int s3.2), .imm (.int z1)]) L8 (.int _) (show (3 : Nat) < 6 by decide) rfl fun _ L9 => ?_)))
          refine x_asg (x_vI (x := z1) L9 rfl (x_set (d := (.int z1)) (Γ' := [.imm (.int a__law_a), .imm (.int a__law_b), .imm (.int a__law_n), .imm (.int s3.2), .imm (.int z1), .imm (.int z1)]) L9 (.int _) (show (4 : Nat) < 6 by decide) rfl fun _ L10 => ?_))
          exact x_leafN (G := (fun (s3 : (Int × Int)) => [.imm (.int a__law_a), .imm (.int a__law_b), .imm (.int a__law_n), .imm (.int s3.1), .imm (.int s3.2), .unk])) (e := (s3.2, z1)) hm9 hN2 (L10.weak (Γ' := [.imm (.int a__law_a), .imm (.int a__law_b), .imm (.int a__law_n), .imm (.int s3.2), .imm (.int z1), .unk]) (.k (.k (.k (.k (.k (.d .e)))))))
        · exact x_leafB (G := (fun (s3 : (Int × Int)) => [.imm (.int a__law_a), .imm (.int a__law_b), .imm (.int a__law_n), .imm (.int s3.1), .imm (.int s3.2), .unk])) (e := (s3.1, s3.2)) hm8 hB2 (L6.weak (Γ' := [.imm (.int a__law_a), .imm (.int a__law_b), .imm (.int a__law_n), .imm (.int s3.1), .imm (.int s3.2), .unk]) (.k (.k (.k (.k (.k (.k .e)))))))
      exact x_leaf (G := (fun (s1 : Int) => [.imm (.int a__law_a), .imm (.int a__law_b), .imm (.int a__law_n), .imm (.int s1), .unk, .unk])) (e := s4.1) hm6 hN1 (L7.weak (Γ' := [.imm (.int a__law_a), .imm (.int a__law_b), .imm (.int a__law_n), .imm (.int s4.1), .unk, .unk]) (.k (.k (.k (.k (.d (.k .e)))))))
    exact x_ret (x_tup (x_cons (x_op (x_vI (x := a__law_a) L4 rfl (x_vI (x := s2) L4 rfl (x_div hm3 fun z2 _ hm10 => x_cons (x_op (x_vI (x := a__law_b) L4 rfl (x_vI (x := s2) L4 rfl (x_div hm10 fun z3 _ hm11 => x_cons (x_op (x_vI (x := a__law_n) L4 rfl (x_vI (x := s2) L4 rfl (x_div hm11 fun z4 _ hm12 => x_nil (x_mkT L4 (.cons (.int _) (.cons (.int _) (.cons (.int _) .nil))) (show (3 : Nat) ≤ 16777216 by decide) fun v2 _ L11 le2 r5 => have r6 : Rep _ _ _ (enc ((T3.mk z2 z3 z4) : (T3 Int Int Int))) v2 := r5; x_fin (Q := Q) (ps := (fun (r : (T3 Int Int Int)) => [])) (rs := (fun (r : (T3 Int Int Int)) => (.imm (enc (r : (T3 Int Int Int)))))) (e := (T3.mk z2 z3 z4)) hm12 kont (L11.fin hp0 r6))))))))))))))))
abbrev sp__law_step (K : PySem.W.Frag) : Sp := fun vs H Q _ => ∃ (X : Addr → Prop) (p__law_bag_here : Addr) (a__law_bag_here : (List Int)) (a__law_most : Int) (r : ((T3 Int Int Int) × (List Int))), m__law_step a__law_bag_here a__law_most = some r ∧ Cond K X H [.mu p__law_bag_here (ml (a__law_bag_here : (List Int))), .imm (.int a__law_most)] vs ∧ ∀ v H', Fin K X H [p__law_bag_here] [(p__law_bag_here, ml (r.2 : (List Int)))] (.imm (enc (r.1 : (T3 Int Int Int)))) v H' → Q v H'
theorem mk__law_step {K : PySem.W.Frag} {X : Addr → Prop} {H : Hp} {vs : List V} {Q : VK} {E : XK} {p__law_bag_here : Addr} {a__law_bag_here : (List Int)} {a__law_most : Int} {r : ((T3 Int Int Int) × (List Int))} (hm : m__law_step a__law_bag_here a__law_most = some r) (c : Cond K X H [.mu p__law_bag_here (ml (a__law_bag_here : (List Int))), .imm (.int a__law_most)] vs) (k : ∀ v H', Fin K X H [p__law_bag_here] [(p__law_bag_here, ml (r.2 : (List Int)))] (.imm (enc (r.1 : (T3 Int Int Int)))) v H' → Q v H') : sp__law_step K vs H Q E := ⟨X, p__law_bag_here, a__law_bag_here, a__law_most, r, hm, c, k⟩
abbrev n__law_step : List Str := ["_law_bag_here", "_law_most", "_law_n"]
theorem sc__law_step : FnScope n__law_step ["_law_bag_here", "_law_most"] (defScope s__law_step) := ⟨rfl, rfl, rfl, by decide +kernel, rfl, by decide +kernel, by decide +kernel⟩
theorem ok__law_step (T : Txt K mg) : FnOk P w K mg base CX0 2 T.A__law_step T.D__law_step ["_law_bag_here", "_law_most"] (sp__law_step K) := by
  refine Fun.ok T.F__law_step sc__law_step (fun vs H Q E h => ?_) (fun cdv A outer s H vs Q E hr h => ?_)
  · obtain ⟨X, p__law_bag_here, a__law_bag_here, a__law_most, r, hm, c, kont⟩ := h
    exact c.len
  · obtain ⟨X, p__law_bag_here, a__law_bag_here, a__law_most, r, hm, c, kont⟩ := h
    refine ⟨_, (pss_cons (ps_set (i := 2) sc__law_step.nd rfl (Or.inl rfl) (pe_ix (r := rIxL K) ix_list (pe_lst (pa_cons pe_int (pa_cons pe_int (pa_cons pe_int (pa_cons pe_int pa_nil))))) (pe_call (ok__law_digit T) hr (by rfl) T.g__law_digit T.F__law_digit.kp T.b__law_digit .nil pass0 (pa_cons (pv 0) (pa_cons pe_int pa_nil))) (fun _ _ => rfl)))
      (pss_one (ps_ret (pe_call (ok__law_point T) hr (by rfl) T.g__law_point T.F__law_point.kp T.b__law_point .nil pass0 (pa_cons (pe_op op_sub (pe_call (ok__law_digit T) hr (by rfl) T.g__law_digit T.F__law_digit.kp T.b__law_digit .nil pass0 (pa_cons (pv 0) (pa_cons (pe_op op_add (pe_op op_mul pe_int (pv 1)) pe_int) pa_nil))) (pv 1)) (pa_cons (pe_op op_sub (pe_call (ok__law_digit T) hr (by rfl) T.g__law_digit T.F__law_digit.kp T.b__law_digit .nil pass0 (pa_cons (pv 0) (pa_cons (pe_op op_add (pe_op op_mul pe_int (pv 1)) pe_int) pa_nil))) (pv 1)) (pa_cons (pv 2) pa_nil))))))), ?_⟩
    have L0 : Lo ⟨K, X, H, muts [.mu p__law_bag_here (ml (a__law_bag_here : (List Int))), .imm (.int a__law_most)], n__law_step.length⟩ X H (L2.start n__law_step vs) [.mu p__law_bag_here (ml (a__law_bag_here : (List Int))), .imm (.int a__law_most), .unk] := c.start n__law_step (show (2 : Nat) ≤ 3 by decide)
    unfold m__law_step at hm
    refine x_seq (x_asg (x_op (x_lst (x_cons (x_c (x_cons (x_c (x_cons (x_c (x_cons (x_c (x_nil (x_mkL L0 (.cons (.int _) (.cons (.int _) (.cons (.int _) (.cons (.int _) .nil)))) (show (4 : Nat) ≤ 16777216 by decide) fun v1 _ L1 le1 r1 => have r2 : Rep _ _ _ (enc ([1, 1, 2, 5] : (List Int))) v1 := r1; x_call (x_cons (x_vm L1 rfl (x_cons (x_c (x_nil (obE hm fun z1 hz1 hm1 => mk__law_digit hz1 (L1.cond1 (i := 0) (.m (L1.mrep (i := 0) rfl) (.im (.int _) .nil)) rfl rfl rfl) fun _ F1 => k1 L1 F1 (i := 0) (Γ' := [.mu p__law_bag_here (ml (z1.2 : (List Int))), .imm (.int a__law_most), .unk]) rfl rfl rfl fun L2 le2 => have r3 := le2 _ _ r2; x_ixLI (xs := [1, 1, 2, 5]) hm1 r3 fun x1 _ hm2 => x_set (d := (.int x1)) (Γ' := [.mu p__law_bag_here (ml (z1.2 : (List Int))), .imm (.int a__law_most), .imm (.int x1)]) L2 (.int _) (show (2 : Nat) < 3 by decide) rfl fun _ L3 => ?_)))))))))))))))))))
    exact x_ret (x_call (x_cons (x_op (x_call (x_cons (x_vm L3 rfl (x_cons (x_op (x_op (x_c (x_vI (x := a__law_most) L3 rfl (x_mulL (by decide) (x_c (x_r0 (x_nil (obE hm2 fun z2 hz2 hm3 => mk__law_digit hz2 (L3.cond1 (i := 0) (.m (L3.mrep (i := 0) rfl) (.im (.int _) .nil)) rfl rfl rfl) fun _ F2 => k1 L3 F2 (i := 0) (Γ' := [.mu p__law_bag_here (ml (z2.2 : (List Int))), .imm (.int a__law_most), .imm (.int x1)]) rfl rfl rfl fun L4 le3 => x_vI (x := a__law_most) L4 rfl (x_r0 (x_cons (x_op (x_call (x_cons (x_vm L4 rfl (x_cons (x_op (x_op (x_c (x_vI (x := a__law_most) L4 rfl (x_mulL (by decide) (x_c (x_r0 (x_nil (obE hm3 fun z3 hz3 hm4 => mk__law_digit hz3 (L4.cond1 (i := 0) (.m (L4.mrep (i := 0) rfl) (.im (.int _) .nil)) rfl rfl rfl) fun _ F3 => k1 L4 F3 (i := 0) (Γ' := [.mu p__law_bag_here (ml (z3.2 : (List Int))), .imm (.int a__law_most), .imm (.int x1)]) rfl rfl rfl fun L5 le4 => x_vI (x := a__law_most) L5 rfl (x_r0 (x_cons (x_vI (x := x1) L5 rfl (x_nil (obE hm4 fun z4 hz4 hm5 => mk__law_point hz4 (L5.cond0 (.im (.int _) (.im (.int _) (.im (.int _) .nil))) rfl) fun v5 _ F4 => k0d L5 F4 fun L6 le5 r4 => x_fin (Q := Q) (ps := (fun (r : ((T3 Int Int Int) × (List Int))) => [(p__law_bag_here, ml (r.2 : (List Int)))])) (rs := (fun (r : ((T3 Int Int Int) × (List Int))) => (.imm (enc (r.1 : (T3 Int Int Int)))))) (e := (z4, z3.2)) hm5 kont (L6.fin (hp1 (L6.mrep (i := 0) rfl)) r4))))))))))))))))))))))))))))))))))))))
abbrev sp__law_slid (K : PySem.W.Frag) : Sp := fun vs H Q _ => ∃ (X : Addr → Prop)  (a__law_p : (T3 Int Int Int)) (a__law_v : (T3 Int Int Int)) (r : (T3 Int Int Int)), m__law_slid a__law_p a__law_v = some r ∧ Cond K X H [.imm (enc (a__law_p : (T3 Int Int Int))), .imm (enc (a__law_v : (T3 Int Int Int)))] vs ∧ ∀ v H', Fin K X H [] [] (.imm (enc (r : (T3 Int Int Int)))) v H' → Q v H'
theorem mk__law_slid {K : PySem.W.Frag} {X : Addr → Prop} {H : Hp} {vs : List V} {Q : VK} {E : XK}  {a__law_p : (T3 Int Int Int)} {a__law_v : (T3 Int Int Int)} {r : (T3 Int Int Int)} (hm : m__law_slid a__law_p a__law_v = some r) (c : Cond K X H [.imm (enc (a__law_p : (T3 Int Int Int))), .imm (enc (a__law_v : (T3 Int Int Int)))] vs) (k : ∀ v H', Fin K X H [] [] (.imm (enc (r : (T3 Int Int Int)))) v H' → Q v H') : sp__law_slid K vs H Q E := ⟨X, a__law_p, a__law_v, r, hm, c, k⟩
abbrev n__law_slid : List Str := ["_law_p", "_law_v"]
theorem sc__law_slid : FnScope n__law_slid ["_law_p", "_law_v"] (defScope s__law_slid) := ⟨rfl, rfl, rfl, by decide +kernel, rfl, by decide +kernel, by decide +kernel⟩
theorem ok__law_slid (T : Txt K mg) : FnOk P w K mg base CX0 2 T.A__law_slid T.D__law_slid ["_law_p", "_law_v"] (sp__law_slid K) := by
  refine Fun.ok T.F__law_slid sc__law_slid (fun vs H Q E h => ?_) (fun cdv A outer s H vs Q E hr h => ?_)
  · obtain ⟨X, a__law_p, a__law_v, r, hm, c, kont⟩ := h
    exact c.len
  · obtain ⟨X, a__law_p, a__law_v, r, hm, c, kont⟩ := h
    refine ⟨_, (pss_one (ps_ret (pe_call (ok__law_point T) hr (by rfl) T.g__law_point T.F__law_point.kp T.b__law_point .nil pass0 (pa_cons (pe_op op_add (pe_op op_mulW (pe_ix (r := rIxT K) ix_tup (pv 0) pe_int (fun _ _ => rfl)) (pe_ix (r := rIxT K) ix_tup (pv 1) pe_int (fun _ _ => rfl))) (pe_op op_mulW (pe_ix (r := rIxT K) ix_tup (pv 1) pe_int (fun _ _ => rfl)) (pe_ix (r := rIxT K) ix_tup (pv 0) pe_int (fun _ _ => rfl)))) (pa_cons (pe_op op_add (pe_op op_mulW (pe_ix (r := rIxT K) ix_tup (pv 0) pe_int (fun _ _ => rfl)) (pe_ix (r := rIxT K) ix_tup (pv 1) pe_int (fun _ _ => rfl))) (pe_op op_mulW (pe_ix (r := rIxT K) ix_tup (pv 1) pe_int (fun _ _ => rfl)) (pe_ix (r := rIxT K) ix_tup (pv 0) pe_int (fun _ _ => rfl)))) (pa_cons (pe_op op_mulW (pe_ix (r := rIxT K) ix_tup (pv 0) pe_int (fun _ _ => rfl)) (pe_ix (r := rIxT K) ix_tup (pv 1) pe_int (fun _ _ => rfl))) pa_nil)))))), ?_⟩
    have L0 : Lo ⟨K, X, H, muts [.imm (enc (a__law_p : (T3 Int Int Int))), .imm (enc (a__law_v : (T3 Int Int Int)))], n__law_slid.length⟩ X H (L2.start n__law_slid vs) [.imm (enc (a__law_p : (T3 Int Int Int))), .imm (enc (a__law_v : (T3 Int Int Int)))] := c.start n__law_slid (show (2 : Nat) ≤ 2 by decide)
    unfold m__law_slid at hm
    exact x_ret (x_call (x_cons (x_op (x_op (x_op (x_vd (d := (enc (a__law_p : (T3 Int Int Int)))) L0 rfl fun v1 r1 => x_c (x_ixTI (x := a__law_p.a) r1 rfl (x_op (x_vd (d := (enc (a__law_v : (T3 Int Int Int)))) L0 rfl fun v2 r2 => x_c (x_ixTI (x := a__law_v.c) r2 rfl (x_mul hm fun z1 _ hm1 => x_op (x_op (x_vd (d := (enc (a__law_v : (T3 Int Int Int)))) L0 rfl fun v3 r3 => x_c (x_ixTI (x := a__law_v.a) r3 rfl (x_op (x_vd (d := (enc (a__law_p : (T3 Int Int Int)))) L0 rfl fun v4 r4 => x_c (x_ixTI (x := a__law_p.c) r4 rfl (x_mul hm1 fun z2 _ hm2 => x_r0 (x_cons (x_op (x_op (x_op (x_vd (d := (enc (a__law_p : (T3 Int Int Int)))) L0 rfl fun v5 r5 => x_c (x_ixTI (x := a__law_p.b) r5 rfl (x_op (x_vd (d := (enc (a__law_v : (T3 Int Int Int)))) L0 rfl fun v6 r6 => x_c (x_ixTI (x := a__law_v.c) r6 rfl (x_mul hm2 fun z3 _ hm3 => x_op (x_op (x_vd (d := (enc (a__law_v : (T3 Int Int Int)))) L0 rfl fun v7 r7 => x_c (x_ixTI (x := a__law_v.b) r7 rfl (x_op (x_vd (d := (enc (a__law_p : (T3 Int Int Int)))) L0 rfl fun v8 r8 => x_c (x_ixTI (x := a__law_p.c) r8 rfl (x_mul hm3 fun z4 _ hm4 => x_r0 (x_cons (x_op (x_op (x_vd (d := (enc (a__law_p : (T3 Int Int Int)))) L0 rfl fun v9 r9 => x_c (x_ixTI (x := a__law_p.c) r9 rfl (x_op (x_vd (d := (enc (a__law_v : (T3 Int Int Int)))) L0 rfl fun v10 r10 => x_c (x_ixTI (x := a__law_v.c) r10 rfl (x_mul hm4 fun z5 _ hm5 => x_nil (obE hm5 fun z6 hz1 hm6 => mk__law_point hz1 (L0.cond0 (.im (.int _) (.im (.int _) (.im (.int _) .nil))) rfl) fun v11 _ F1 => k0d L0 F1 fun L1 le1 r11 => x_fin (Q := Q) (ps := (fun (r : (T3 Int Int Int)) => [])) (rs := (fun (r : (T3 Int Int Int)) => (.imm (enc (r : (T3 Int Int Int)))))) (e := z6) hm6 kont (L1.fin hp0 r11))))))))))))))))))))))))))))))))))))))))))))))
abbrev sp__law_place (K : PySem.W.Frag) : Sp := fun vs H Q _ => ∃ (X : Addr → Prop) (p__law_bag_here : Addr) (a__law_bag_here : (List Int)) (a__law_most : Int) (r : ((T3 Int Int Int) × (List Int))), m__law_place a__law_bag_here a__law_most = some r ∧ Cond K X H [.mu p__law_bag_here (ml (a__law_bag_here : (List Int))), .imm (.int a__law_most)] vs ∧ ∀ v H', Fin K X H [p__law_bag_here] [(p__law_bag_here, ml (r.2 : (List Int)))] (.imm (enc (r.1 : (T3 Int Int Int)))) v H' → Q v H'
theorem mk__law_place {K : PySem.W.Frag} {X : Addr → Prop} {H : Hp} {vs : List V} {Q : VK} {E : XK} {p__law_bag_here : Addr} {a__law_bag_here : (List Int)} {a__law_most : Int} {r : ((T3 Int Int Int) × (List Int))} (hm : m__law_place a__law_bag_here a__law_most = some r) (c : Cond K X H [.mu p__law_bag_here (ml (a__law_bag_here : (List Int))), .imm (.int a__law_most)] vs) (k : ∀ v H', Fin K X H [p__law_bag_here] [(p__law_bag_here, ml (r.2 : (List Int)))] (.imm (enc (r.1 : (T3 Int Int Int)))) v H' → Q v H') : sp__law_place K vs H Q E := ⟨X, p__law_bag_here, a__law_bag_here, a__law_most, r, hm, c, k⟩
abbrev n__law_place : List Str := ["_law_bag_here", "_law_most", "_law_n"]
theorem sc__law_place : FnScope n__law_place ["_law_bag_here", "_law_most"] (defScope s__law_place) := ⟨rfl, rfl, rfl, by decide +kernel, rfl, by decide +kernel, by decide +kernel⟩
theorem ok__law_place (T : Txt K mg) : FnOk P w K mg base CX0 2 T.A__law_place T.D__law_place ["_law_bag_here", "_law_most"] (sp__law_place K) := by
  refine Fun.ok T.F__law_place sc__law_place (fun vs H Q E h => ?_) (fun cdv A outer s H vs Q E hr h => ?_)
  · obtain ⟨X, p__law_bag_here, a__law_bag_here, a__law_most, r, hm, c, kont⟩ := h
    exact c.len
  · obtain ⟨X, p__law_bag_here, a__law_bag_here, a__law_most, r, hm, c, kont⟩ := h
    refine ⟨_, (pss_cons (ps_set (i := 2) sc__law_place.nd rfl (Or.inl rfl) (pe_ix (r := rIxL K) ix_list (pe_lst (pa_cons pe_int (pa_cons pe_int (pa_cons pe_int (pa_cons pe_int (pa_cons pe_int pa_nil)))))) (pe_call (ok__law_digit T) hr (by rfl) T.g__law_digit T.F__law_digit.kp T.b__law_digit .nil pass0 (pa_cons (pv 0) (pa_cons pe_int pa_nil))) (fun _ _ => rfl)))
      (pss_one (ps_ret (pe_call (ok__law_point T) hr (by rfl) T.g__law_point T.F__law_point.kp T.b__law_point .nil pass0 (pa_cons (pe_call (ok__law_digit T) hr (by rfl) T.g__law_digit T.F__law_digit.kp T.b__law_digit .nil pass0 (pa_cons (pv 0) (pa_cons (pe_op op_add (pe_op op_mulW (pv 1) (pv 2)) pe_int) pa_nil))) (pa_cons (pe_call (ok__law_digit T) hr (by rfl) T.g__law_digit T.F__law_digit.kp T.b__law_digit .nil pass0 (pa_cons (pv 0) (pa_cons (pe_op op_add (pe_op op_mulW (pv 1) (pv 2)) pe_int) pa_nil))) (pa_cons (pv 2) pa_nil))))))), ?_⟩
    have L0 : Lo ⟨K, X, H, muts [.mu p__law_bag_here (ml (a__law_bag_here : (List Int))), .imm (.int a__law_most)], n__law_place.length⟩ X H (L2.start n__law_place vs) [.mu p__law_bag_here (ml (a__law_bag_here : (List Int))), .imm (.int a__law_most), .unk] := c.start n__law_place (show (2 : Nat) ≤ 3 by decide)
    unfold m__law_place at hm
    refine x_seq (x_asg (x_op (x_lst (x_cons (x_c (x_cons (x_c (x_cons (x_c (x_cons (x_c (x_cons (x_c (x_nil (x_mkL L0 (.cons (.int _) (.cons (.int _) (.cons (.int _) (.cons (.int _) (.cons (.int _) .nil))))) (show (5 : Nat) ≤ 16777216 by decide) fun v1 _ L1 le1 r1 => have r2 : Rep _ _ _ (enc ([1, 1, 1, 2, 3] : (List Int))) v1 := r1; x_call (x_cons (x_vm L1 rfl (x_cons (x_c (x_nil (obE hm fun z1 hz1 hm1 => mk__law_digit hz1 (L1.cond1 (i := 0) (.m (L1.mrep (i := 0) rfl) (.im (.int _) .nil)) rfl rfl rfl) fun _ F1 => k1 L1 F1 (i := 0) (Γ' := [.mu p__law_bag_here (ml (z1.2 : (List Int))), .imm (.int a__law_most), .unk]) rfl rfl rfl fun L2 le2 => have r3 := le2 _ _ r2; x_ixLI (xs := [1, 1, 1, 2, 3]) hm1 r3 fun x1 _ hm2 => x_set (d := (.int x1)) (Γ' := [.mu p__law_bag_here (ml (z1.2 : (List Int))), .imm (.int a__law_most), .imm (.int x1)]) L2 (.int _) (show (2 : Nat) < 3 by decide) rfl fun _ L3 => ?_)))))))))))))))))))))
    exact x_ret (x_call (x_cons (x_call (x_cons (x_vm L3 rfl (x_cons (x_op (x_op (x_vI (x := a__law_most) L3 rfl (x_vI (x := x1) L3 rfl (x_mul hm2 fun z2 _ hm3 => x_c (x_r0 (x_nil (obE hm3 fun z3 hz2 hm4 => mk__law_digit hz2 (L3.cond1 (i := 0) (.m (L3.mrep (i := 0) rfl) (.im (.int _) .nil)) rfl rfl rfl) fun _ F2 => k1 L3 F2 (i := 0) (Γ' := [.mu p__law_bag_here (ml (z3.2 : (List Int))), .imm (.int a__law_most), .imm (.int x1)]) rfl rfl rfl fun L4 le3 => x_cons (x_call (x_cons (x_vm L4 rfl (x_cons (x_op (x_op (x_vI (x := a__law_most) L4 rfl (x_vI (x := x1) L4 rfl (x_mul hm4 fun z4 _ hm5 => x_c (x_r0 (x_nil (obE hm5 fun z5 hz3 hm6 => mk__law_digit hz3 (L4.cond1 (i := 0) (.m (L4.mrep (i := 0) rfl) (.im (.int _) .nil)) rfl rfl rfl) fun _ F3 => k1 L4 F3 (i := 0) (Γ' := [.mu p__law_bag_here (ml (z5.2 : (List Int))), .imm (.int a__law_most), .imm (.int x1)]) rfl rfl rfl fun L5 le4 => x_cons (x_vI (x := x1) L5 rfl (x_nil (obE hm6 fun z6 hz4 hm7 => mk__law_point hz4 (L5.cond0 (.im (.int _) (.im (.int _) (.im (.int _) .nil))) rfl) fun v5 _ F4 => k0d L5 F4 fun L6 le5 r4 => x_fin (Q := Q) (ps := (fun (r : ((T3 Int Int Int) × (List Int))) => [(p__law_bag_here, ml (r.2 : (List Int)))])) (rs := (fun (r : ((T3 Int Int Int) × (List Int))) => (.imm (enc (r.1 : (T3 Int Int Int)))))) (e := (z6, z5.2)) hm7 kont (L6.fin (hp1 (L6.mrep (i := 0) rfl)) r4))))))))))))))))))))))))))))))
abbrev sp__law_side (K : PySem.W.Frag) : Sp := fun vs H Q _ => ∃ (X : Addr → Prop)  (a__law_p : (T3 Int Int Int)) (a__law_q : (T3 Int Int Int)) (a__law_r : (T3 Int Int Int)) (r : Int), m__law_side a__law_p a__law_q a__law_r = some r ∧ Cond K X H [.imm (enc (a__law_p : (T3 Int Int Int))), .imm (enc (a__law_q : (T3 Int Int Int))), .imm (enc (a__law_r : (T3 Int Int Int)))] vs ∧ ∀ H', Fin K X H [] [] (.imm (.int r)) (.int r) H' → Q (.int r) H'
theorem mk__law_side {K : PySem.W.Frag} {X : Addr → Prop} {H : Hp} {vs : List V} {Q : VK} {E : XK}  {a__law_p : (T3 Int Int Int)} {a__law_q : (T3 Int Int Int)} {a__law_r : (T3 Int Int Int)} {r : Int} (hm : m__law_side a__law_p a__law_q a__law_r = some r) (c : Cond K X H [.imm (enc (a__law_p : (T3 Int Int Int))), .imm (enc (a__law_q : (T3 Int Int Int))), .imm (enc (a__law_r : (T3 Int Int Int)))] vs) (k : ∀ H', Fin K X H [] [] (.imm (.int r)) (.int r) H' → Q (.int r) H') : sp__law_side K vs H Q E := ⟨X, a__law_p, a__law_q, a__law_r, r, hm, c, k⟩
abbrev n__law_side : List Str := ["_law_p", "_law_q", "_law_r", "_law_found"]
theorem sc__law_side : FnScope n__law_side ["_law_p", "_law_q", "_law_r"] (defScope s__law_side) := ⟨rfl, rfl, rfl, by decide +kernel, rfl, by decide +kernel, by decide +kernel⟩
theorem ok__law_side (T : Txt K mg) : FnOk P w K mg base CX0 1 T.A__law_side T.D__law_side ["_law_p", "_law_q", "_law_r"] (sp__law_side K) := by
  refine Fun.ok T.F__law_side sc__law_side (fun vs H Q E h => ?_) (fun cdv A outer s H vs Q E hr h => ?_)
  · obtain ⟨X, a__law_p, a__law_q, a__law_r, r, hm, c, kont⟩ := h
    exact c.len
  · obtain ⟨X, a__law_p, a__law_q, a__law_r, r, hm, c, kont⟩ := h
    refine ⟨_, (pss_cons (ps_set (i := 3) sc__law_side.nd rfl (Or.inl rfl) (pe_op op_mulW (pe_ix (r := rIxT K) ix_tup (pv 0) pe_int (fun _ _ => rfl)) (pe_op op_sub (pe_op op_mulW (pe_ix (r := rIxT K) ix_tup (pv 1) pe_int (fun _ _ => rfl)) (pe_ix (r := rIxT K) ix_tup (pv 2) pe_int (fun _ _ => rfl))) (pe_op op_mulW (pe_ix (r := rIxT K) ix_tup (pv 1) pe_int (fun _ _ => rfl)) (pe_ix (r := rIxT K) ix_tup (pv 2) pe_int (fun _ _ => rfl))))))
      (pss_cons (ps_set (i := 3) sc__law_side.nd rfl (Or.inl rfl) (pe_op op_sub (pv 3) (pe_op op_mulW (pe_ix (r := rIxT K) ix_tup (pv 0) pe_int (fun _ _ => rfl)) (pe_op op_sub (pe_op op_mulW (pe_ix (r := rIxT K) ix_tup (pv 1) pe_int (fun _ _ => rfl)) (pe_ix (r := rIxT K) ix_tup (pv 2) pe_int (fun _ _ => rfl))) (pe_op op_mulW (pe_ix (r := rIxT K) ix_tup (pv 1) pe_int (fun _ _ => rfl)) (pe_ix (r := rIxT K) ix_tup (pv 2) pe_int (fun _ _ => rfl)))))))
      (pss_cons (ps_set (i := 3) sc__law_side.nd rfl (Or.inl rfl) (pe_op op_add (pv 3) (pe_op op_mulW (pe_ix (r := rIxT K) ix_tup (pv 0) pe_int (fun _ _ => rfl)) (pe_op op_sub (pe_op op_mulW (pe_ix (r := rIxT K) ix_tup (pv 1) pe_int (fun _ _ => rfl)) (pe_ix (r := rIxT K) ix_tup (pv 2) pe_int (fun _ _ => rfl))) (pe_op op_mulW (pe_ix (r := rIxT K) ix_tup (pv 1) pe_int (fun _ _ => rfl)) (pe_ix (r := rIxT K) ix_tup (pv 2) pe_int (fun _ _ => rfl)))))))
      (pss_one (ps_ret (pe_op op_sub (pe_callTy call_intX (by rfl) T.z_int (by decide +kernel) (pa_cons (pe_cmpR op_gt (pv 3) pe_int (nomark _)) pa_nil)) (pe_callTy call_intX (by rfl) T.z_int (by decide +kernel) (pa_cons (pe_cmpR op_lt (pv 3) pe_int (nomark _)) pa_nil)))))))), ?_⟩
    have L0 : Lo ⟨K, X, H, muts [.imm (enc (a__law_p : (T3 Int Int Int))), .imm (enc (a__law_q : (T3 Int Int Int))), .imm (enc (a__law_r : (T3 Int Int Int)))], n__law_side.length⟩ X H (L2.start n__law_side vs) [.imm (enc (a__law_p : (T3 Int Int Int))), .imm (enc (a__law_q : (T3 Int Int Int))), .imm (enc (a__law_r : (T3 Int Int Int))), .unk] := c.start n__law_side (show (3 : Nat) ≤ 4 by decide)
    unfold m__law_side at hm
    refine x_seq (x_asg (x_op (x_op (x_vd (d := (enc (a__law_p : (T3 Int Int Int)))) L0 rfl fun v1 r1 => x_c (x_ixTI (x := a__law_p.a) r1 rfl (x_op (x_op (x_op (x_vd (d := (enc (a__law_q : (T3 Int Int Int)))) L0 rfl fun v2 r2 => x_c (x_ixTI (x := a__law_q.b) r2 rfl (x_op (x_vd (d := (enc (a__law_r : (T3 Int Int Int)))) L0 rfl fun v3 r3 => x_c (x_ixTI (x := a__law_r.c) r3 rfl (x_mul hm fun z1 _ hm1 => x_op (x_op (x_vd (d := (enc (a__law_q : (T3 Int Int Int)))) L0 rfl fun v4 r4 => x_c (x_ixTI (x := a__law_q.c) r4 rfl (x_op (x_vd (d := (enc (a__law_r : (T3 Int Int Int)))) L0 rfl fun v5 r5 => x_c (x_ixTI (x := a__law_r.b) r5 rfl (x_mul hm1 fun z2 _ hm2 => x_r0 (x_mul hm2 fun z3 _ hm3 => x_set (d := (.int z3)) (Γ' := [.imm (enc (a__law_p : (T3 Int Int Int))), .imm (enc (a__law_q : (T3 Int Int Int))), .imm (enc (a__law_r : (T3 Int Int Int))), .imm (.int z3)]) L0 (.int _) (show (3 : Nat) < 4 by decide) rfl fun _ L1 => ?_))))))))))))))))))))))
    refine x_seq (x_asg (x_op (x_vI (x := z3) L1 rfl (x_op (x_op (x_vd (d := (enc (a__law_p : (T3 Int Int Int)))) L1 rfl fun v6 r6 => x_c (x_ixTI (x := a__law_p.b) r6 rfl (x_op (x_op (x_op (x_vd (d := (enc (a__law_q : (T3 Int Int Int)))) L1 rfl fun v7 r7 => x_c (x_ixTI (x := a__law_q.a) r7 rfl (x_op (x_vd (d := (enc (a__law_r : (T3 Int Int Int)))) L1 rfl fun v8 r8 => x_c (x_ixTI (x := a__law_r.c) r8 rfl (x_mul hm3 fun z4 _ hm4 => x_op (x_op (x_vd (d := (enc (a__law_q : (T3 Int Int Int)))) L1 rfl fun v9 r9 => x_c (x_ixTI (x := a__law_q.c) r9 rfl (x_op (x_vd (d := (enc (a__law_r : (T3 Int Int Int)))) L1 rfl fun v10 r10 => x_c (x_ixTI (x := a__law_r.a) r10 rfl (x_mul hm4 fun z5 _ hm5 => x_r0 (x_mul hm5 fun z6 _ hm6 => x_r0 (x_bset (x0 := (z3 - z6)) (d := fun found_1 => (.int found_1)) (Γf := fun found_1 => [.imm (enc (a__law_p : (T3 Int Int Int))), .imm (enc (a__law_q : (T3 Int Int Int))), .imm (enc (a__law_r : (T3 Int Int Int))), .imm (.int found_1)]) hm6 L1 (.int _) (show (3 : Nat) < 4 by decide) (fun _ => rfl) fun found_1 _ hm7 L2 => ?_)))))))))))))))))))))))))
    refine x_seq (x_asg (x_op (x_vI (x := found_1) L2 rfl (x_op (x_op (x_vd (d := (enc (a__law_p : (T3 Int Int Int)))) L2 rfl fun v11 r11 => x_c (x_ixTI (x := a__law_p.c) r11 rfl (x_op (x_op (x_op (x_vd (d := (enc (a__law_q : (T3 Int Int Int)))) L2 rfl fun v12 r12 => x_c (x_ixTI (x := a__law_q.a) r12 rfl (x_op (x_vd (d := (enc (a__law_r : (T3 Int Int Int)))) L2 rfl fun v13 r13 => x_c (x_ixTI (x := a__law_r.b) r13 rfl (x_mul hm7 fun z7 _ hm8 => x_op (x_op (x_vd (d := (enc (a__law_q : (T3 Int Int Int)))) L2 rfl fun v14 r14 => x_c (x_ixTI (x := a__law_q.b) r14 rfl (x_op (x_vd (d := (enc (a__law_r : (T3 Int Int Int)))) L2 rfl fun v15 r15 => x_c (x_ixTI (x := a__law_r.a) r15 rfl (x_mul hm8 fun z8 _ hm9 => x_r0 (x_mul hm9 fun z9 _ hm10 => x_r0 (x_bset (x0 := (found_1 + z9)) (d := fun found_2 => (.int found_2)) (Γf := fun found_2 => [.imm (enc (a__law_p : (T3 Int Int Int))), .imm (enc (a__law_q : (T3 Int Int Int))), .imm (enc (a__law_r : (T3 Int Int Int))), .imm (.int found_2)]) hm10 L2 (.int _) (show (3 : Nat) < 4 by decide) (fun _ => rfl) fun found_2 _ hm11 L3 => ?_)))))))))))))))))))))))))
    exact x_ret (x_op (x_cb (x_cons (x_op (x_vI (x := found_2) L3 rfl (x_c (x_r0 (x_nil (x_intb (x_cb (x_cons (x_op (x_vI (x := found_2) L3 rfl (x_c (x_r0 (x_nil (x_intb (x_r0 (x_finI (Q := Q) (ps := (fun (r : Int) => [])) (sc := fun (r : Int) => r) (((b2 ((decide (0 < found_2)))) - (b2 ((decide (found_2 < 0)))))) hm11 kont (L3.fin hp0 (.int _)))))))))))))))))))))
abbrev sp__law_three (K : PySem.W.Frag) : Sp := fun vs H Q _ => ∃ (X : Addr → Prop) (p__law_bag_here : Addr) (a__law_bag_here : (List Int)) (a__law_most : Int) (r : ((List (T3 Int Int Int)) × (List Int))), m__law_three a__law_bag_here a__law_most = some r ∧ Cond K X H [.mu p__law_bag_here (ml (a__law_bag_here : (List Int))), .imm (.int a__law_most)] vs ∧ ∀ v H', Fin K X H [p__law_bag_here] [(p__law_bag_here, ml (r.2 : (List Int)))] (.imm (enc (r.1 : (List (T3 Int Int Int))))) v H' → Q v H'
theorem mk__law_three {K : PySem.W.Frag} {X : Addr → Prop} {H : Hp} {vs : List V} {Q : VK} {E : XK} {p__law_bag_here : Addr} {a__law_bag_here : (List Int)} {a__law_most : Int} {r : ((List (T3 Int Int Int)) × (List Int))} (hm : m__law_three a__law_bag_here a__law_most = some r) (c : Cond K X H [.mu p__law_bag_here (ml (a__law_bag_here : (List Int))), .imm (.int a__law_most)] vs) (k : ∀ v H', Fin K X H [p__law_bag_here] [(p__law_bag_here, ml (r.2 : (List Int)))] (.imm (enc (r.1 : (List (T3 Int Int Int))))) v H' → Q v H') : sp__law_three K vs H Q E := ⟨X, p__law_bag_here, a__law_bag_here, a__law_most, r, hm, c, k⟩
abbrev n__law_three : List Str := ["_law_bag_here", "_law_most", "_law_ring", "_law_hand", "_law_k"]
theorem sc__law_three : FnScope n__law_three ["_law_bag_here", "_law_most"] (defScope s__law_three) := ⟨rfl, rfl, rfl, by decide +kernel, rfl, by decide +kernel, by decide +kernel⟩
theorem ok__law_three (T : Txt K mg) : FnOk P w K mg base CX0 3 T.A__law_three T.D__law_three ["_law_bag_here", "_law_most"] (sp__law_three K) := by
  refine Fun.ok T.F__law_three sc__law_three (fun vs H Q E h => ?_) (fun cdv A outer s H vs Q E hr h => ?_)
  · obtain ⟨X, p__law_bag_here, a__law_bag_here, a__law_most, r, hm, c, kont⟩ := h
    exact c.len
  · obtain ⟨X, p__law_bag_here, a__law_bag_here, a__law_most, r, hm, c, kont⟩ := h
    refine ⟨_, (pss_cons (ps_setLc (i := 2) (own := [("_law_k", 4)])  (g := gName 4) (tt := tYes) rfl sc__law_three.nd rfl rfl (sw_true rfl rfl rfl (by decide +kernel)) (pi_range1 (by rfl) T.z_range (pa_cons pe_int pa_nil)) (blkOk_by (N := n__law_three) (sc := defScope s__law_three) (by decide +kernel)) (fun _ _ _ _ _ => (pg_name (i := 4) sc__law_three.nd rfl (Or.inl rfl))) (fun _ _ _ _ _ => pts_nil) (fun _ _ _ _ _ => (pe_call (ok__law_place T) hr (by rfl) T.g__law_place T.F__law_place.kp T.b__law_place .nil pass0 (pa_cons (pv 0) (pa_cons (pv 1) pa_nil)))))
      (pss_cons (ps_set (i := 3) sc__law_three.nd rfl (Or.inl rfl) (pe_call (ok__law_side T) (hr.mono (by decide)) (by rfl) T.g__law_side T.F__law_side.kp T.b__law_side .nil pass0 (pa_cons (pe_ix (r := rIxL K) ix_list (pv 2) pe_int (fun _ _ => rfl)) (pa_cons (pe_ix (r := rIxL K) ix_list (pv 2) pe_int (fun _ _ => rfl)) (pa_cons (pe_ix (r := rIxL K) ix_list (pv 2) pe_int (fun _ _ => rfl)) pa_nil)))))
      (pss_cons (ps_if (pt_cmpR op_eq (pv 3) pe_int (nomark _)) (pss_one (ps_ret (pe_lst (pa_cons (pe_tup (pa_cons pe_int (pa_cons pe_int (pa_cons pe_int pa_nil)))) (pa_cons (pe_tup (pa_cons (pv 1) (pa_cons pe_int (pa_cons pe_int pa_nil)))) (pa_cons (pe_tup (pa_cons pe_int (pa_cons (pv 1) (pa_cons pe_int pa_nil)))) pa_nil)))))) pss_nil)
      (pss_one (ps_ret (pe_step (pv 2) (pv 3))))))), ?_⟩
    have L0 : Lo ⟨K, X, H, muts [.mu p__law_bag_here (ml (a__law_bag_here : (List Int))), .imm (.int a__law_most)], n__law_three.length⟩ X H (L2.start n__law_three vs) [.mu p__law_bag_here (ml (a__law_bag_here : (List Int))), .imm (.int a__law_most), .unk, .unk, .unk] := c.start n__law_three (show (2 : Nat) ≤ 5 by decide)
    unfold m__law_three at hm
    refine x_seq (x_asg (x_lcr1 (x_cons (x_c (x_nil (x_r1c (n := 3) (by decide) (obE hm fun q1 hy1 hm1 => x_lcR (G := (fun (s1 : (List Int)) => [.mu p__law_bag_here (ml (s1 : (List Int))), .imm (.int a__law_most), .unk, .unk, .unk])) (s0 := a__law_bag_here) L0 (fun _ _ => rfl) (mapS_comp hy1) (show (3 : Nat) ≤ 16777216 by decide) (fun x1 s1 _ H1 _ u1 _ _ _ hF1 L1 r1 hn1 hy2 => obE hF1 fun y1 hm2 he1 => x_cName (d := (.int x1)) (Γ' := [.mu p__law_bag_here (ml (s1 : (List Int))), .imm (.int a__law_most), .unk, .unk, .imm (.int x1)]) L1 r1 (show (4 : Nat) < 5 by decide) rfl fun _ L2 => x_yes (x_call (x_cons (x_vm L2 rfl (x_cons (x_vI (x := a__law_most) L2 rfl (x_nil (obE hm2 fun z1 hz2 hm3 => mk__law_place hz2 (L2.cond1 (i := 0) (.m (L2.mrep (i := 0) rfl) (.im (.int _) .nil)) rfl rfl rfl) fun v1 _ F1 => k1d L2 F1 (i := 0) (Γ' := [.mu p__law_bag_here (ml (z1.2 : (List Int))), .imm (.int a__law_most), .unk, .unk, .imm (.int x1)]) rfl rfl rfl fun L3 le1 r2 => x_cy (G := (fun (s1 : (List Int)) => [.mu p__law_bag_here (ml (s1 : (List Int))), .imm (.int a__law_most), .unk, .unk, .unk])) (s := s1) (s' := z1.2) (y := z1.1) (by cases hm3; cases he1; rfl) hy2 L1 L3 (.m (.i rfl (.i rfl (.i rfl (.i rfl .e))))) r2)))))))) fun p1 _ L4 le2 r3 => have L5 : Lo _ _ _ _ [.mu p__law_bag_here (ml (q1.2 : (List Int))), .imm (.int a__law_most), .unk, .unk, .unk] := L4; have r4 : Rep _ _ _ (enc (q1.1 : (List (T3 Int Int Int)))) (.ref p1) := r3; x_set (d := (enc (q1.1 : (List (T3 Int Int Int))))) (Γ' := [.mu p__law_bag_here (ml (q1.2 : (List Int))), .imm (.int a__law_most), .imm (enc (q1.1 : (List (T3 Int Int Int)))), .unk, .unk]) L5 r4 (show (2 : Nat) < 5 by decide) rfl fun _ L6 => ?_)))))))
    refine x_seq (x_asg (x_call (x_cons (x_op (x_vd (d := (enc (q1.1 : (List (T3 Int Int Int))))) L6 rfl fun v2 r5 => x_c (x_ixL (xs := q1.1) hm1 r5 fun x2 v3 _ hm4 r6 => x_cons (x_op (x_vd (d := (enc (q1.1 : (List (T3 Int Int Int))))) L6 rfl fun v4 r7 => x_c (x_ixL (xs := q1.1) hm4 r7 fun x3 v5 _ hm5 r8 => x_cons (x_op (x_vd (d := (enc (q1.1 : (List (T3 Int Int Int))))) L6 rfl fun v6 r9 => x_c (x_ixL (xs := q1.1) hm5 r9 fun x4 v7 _ hm6 r10 => x_nil (obE hm6 fun z2 hz3 hm7 => mk__law_side hz3 (L6.cond0 (.im r6 (.im r8 (.im r10 .nil))) rfl) fun _ F2 => k0 L6 F2 fun L7 le3 => x_set (d := (.int z2)) (Γ' := [.mu p__law_bag_here (ml (q1.2 : (List Int))), .imm (.int a__law_most), .imm (enc (q1.1 : (List (T3 Int Int Int)))), .imm (.int z2), .unk]) L7 (.int _) (show (3 : Nat) < 5 by decide) rfl fun _ L8 => ?_)))))))))))))
    refine x_seq (x_ifS (x_test (x_op (x_vI (x := z2) L8 rfl (x_c (x_eqi (x_kb (x_if hm7 (fun hm8 => ?_) fun hm8 => ?_))))))))
    · exact x_ret (x_lst (x_cons (x_tup (x_cons (x_c (x_cons (x_c (x_cons (x_c (x_nil (x_mkT L8 (.cons (.int _) (.cons (.int _) (.cons (.int _) .nil))) (show (3 : Nat) ≤ 16777216 by decide) fun v9 _ L9 le4 r11 => have r12 : Rep _ _ _ (enc ((T3.mk 0 0 1) : (T3 Int Int Int))) v9 := r11; x_cons (x_tup (x_cons (x_vI (x := a__law_most) L9 rfl (x_cons (x_c (x_cons (x_c (x_nil (x_mkT L9 (.cons (.int _) (.cons (.int _) (.cons (.int _) .nil))) (show (3 : Nat) ≤ 16777216 by decide) fun v10 _ L10 le5 r13 => have r14 := le5 _ _ r12; have r15 : Rep _ _ _ (enc ((T3.mk a__law_most 1 1) : (T3 Int Int Int))) v10 := r13; x_cons (x_tup (x_cons (x_c (x_cons (x_vI (x := a__law_most) L10 rfl (x_cons (x_c (x_nil (x_mkT L10 (.cons (.int _) (.cons (.int _) (.cons (.int _) .nil))) (show (3 : Nat) ≤ 16777216 by decide) fun v11 _ L11 le6 r16 => have r17 := le6 _ _ r14; have r18 := le6 _ _ r15; have r19 : Rep _ _ _ (enc ((T3.mk 1 a__law_most 1) : (T3 Int Int Int))) v11 := r16; x_nil (x_mkL L11 (.cons r17 (.cons r18 (.cons r19 .nil))) (show (3 : Nat) ≤ 16777216 by decide) fun v12 _ L12 le7 r20 => have r21 : Rep _ _ _ (enc ([(T3.mk 0 0 1), (T3.mk a__law_most 1 1), (T3.mk 1 a__law_most 1)] : (List (T3 Int Int Int)))) v12 := r20; x_fin (Q := Q) (ps := (fun (r : ((List (T3 Int Int Int)) × (List Int))) => [(p__law_bag_here, ml (r.2 : (List Int)))])) (rs := (fun (r : ((List (T3 Int Int Int)) × (List Int))) => (.imm (enc (r.1 : (List (T3 Int Int Int))))))) (e := ([(T3.mk 0 0 1), (T3.mk a__law_most 1 1), (T3.mk 1 a__law_most 1)], q1.2)) hm8 kont (L12.fin (hp1 (L12.mrep (i := 0) rfl)) r21)))))))))))))))))))))))))))))))
    · refine x_next ?_
      exact x_ret (x_step (x_vd (d := (enc (q1.1 : (List (T3 Int Int Int))))) L8 rfl fun v13 r22 => x_vI (x := z2) L8 rfl (x_stepL (xs := q1.1) L8 hm8 r22 fun ys1 v14 _ hm9 L13 le8 r23 => x_fin (Q := Q) (ps := (fun (r : ((List (T3 Int Int Int)) × (List Int))) => [(p__law_bag_here, ml (r.2 : (List Int)))])) (rs := (fun (r : ((List (T3 Int Int Int)) × (List Int))) => (.imm (enc (r.1 : (List (T3 Int Int Int))))))) (e := (ys1, q1.2)) hm9 kont (L13.fin (hp1 (L13.mrep (i := 0) rfl)) r23))))
abbrev sp__law_is_point (K : PySem.W.Frag) : Sp := fun vs H Q _ => ∃ (X : Addr → Prop)  (a__law_p : (T3 Int Int Int)) (r : Bool), m__law_is_point a__law_p = some r ∧ Cond K X H [.imm (enc (a__law_p : (T3 Int Int Int)))] vs ∧ ∀ H', Fin K X H [] [] (.imm (.bool r)) (.bl r) H' → Q (.bl r) H'
theorem mk__law_is_point {K : PySem.W.Frag} {X : Addr → Prop} {H : Hp} {vs : List V} {Q : VK} {E : XK}  {a__law_p : (T3 Int Int Int)} {r : Bool} (hm : m__law_is_point a__law_p = some r) (c : Cond K X H [.imm (enc (a__law_p : (T3 Int Int Int)))] vs) (k : ∀ H', Fin K X H [] [] (.imm (.bool r)) (.bl r) H' → Q (.bl r) H') : sp__law_is_point K vs H Q E := ⟨X, a__law_p, r, hm, c, k⟩
abbrev n__law_is_point : List Str := ["_law_p", "_law_number"]
theorem sc__law_is_point : FnScope n__law_is_point ["_law_p"] (defScope s__law_is_point) := ⟨rfl, rfl, rfl, by decide +kernel, rfl, by decide +kernel, by decide +kernel⟩
theorem ok__law_is_point (T : Txt K mg) : FnOk P w K mg base CX0 2 T.A__law_is_point T.D__law_is_point ["_law_p"] (sp__law_is_point K) := by
  refine Fun.ok T.F__law_is_point sc__law_is_point (fun vs H Q E h => ?_) (fun cdv A outer s H vs Q E hr h => ?_)
  · obtain ⟨X, a__law_p, r, hm, c, kont⟩ := h
    exact c.len
  · obtain ⟨X, a__law_p, r, hm, c, kont⟩ := h
    refine ⟨_, (pss_cons (ps_if (PW.pt (pw_or (pt_not (pt_val (pe_callB (r := rIsi K) call_isi (by rfl) T.z_isinstance (by decide +kernel) (pa_cons (pv 0) (pa_cons (pe_bltn (v := .ty "tuple") (u := .type "tuple") (by rfl) T.z_tuple (by decide +kernel) rfl) pa_nil))))) (pw_or1 (pt_cmpR op_ne (pe_callB (r := rLenX K) call_lenX (by rfl) T.z_len (by decide +kernel) (pa_cons (pv 0) pa_nil)) pe_int (nomark _))))) (pss_one (ps_ret pe_bl)) pss_nil)
      (pss_cons (ps_for PassesOwn.never rfl (pi_tup (pv 0)) (pg_name (i := 1) sc__law_is_point.nd rfl (Or.inl rfl)) (pss_one (ps_if (PW.pt (pw_or (pt_not (pt_val (pe_callB (r := rIsi K) call_isi (by rfl) T.z_isinstance (by decide +kernel) (pa_cons (pv 1) (pa_cons (pe_bltn (v := .ty "int") (u := .type "int") (by rfl) T.z_int (by decide +kernel) rfl) pa_nil))))) (pw_or1 (pt_val (pe_callB (r := rIsi K) call_isi (by rfl) T.z_isinstance (by decide +kernel) (pa_cons (pv 1) (pa_cons (pe_bltn (v := .ty "bool") (u := .type "bool") (by rfl) T.z_bool (by decide +kernel) rfl) pa_nil))))))) (pss_one (ps_ret pe_bl)) pss_nil)))
      (pss_one (ps_ret (pe_and (pe_cmpR op_gt (pe_ix (r := rIxT K) ix_tup (pv 0) pe_int (fun _ _ => rfl)) pe_int (nomark _)) (pe_one (pe_cmpR (r := rEqD K) (op_eqD hr.units) (pe_call (ok__law_point T) hr (by rfl) T.g__law_point T.F__law_point.kp T.b__law_point .nil pass0 (pa_cons (pe_ix (r := rIxT K) ix_tup (pv 0) pe_int (fun _ _ => rfl)) (pa_cons (pe_ix (r := rIxT K) ix_tup (pv 0) pe_int (fun _ _ => rfl)) (pa_cons (pe_ix (r := rIxT K) ix_tup (pv 0) pe_int (fun _ _ => rfl)) pa_nil)))) (pv 0) (nomark _)))))))), ?_⟩
    have L0 : Lo ⟨K, X, H, muts [.imm (enc (a__law_p : (T3 Int Int Int)))], n__law_is_point.length⟩ X H (L2.start n__law_is_point vs) [.imm (enc (a__law_p : (T3 Int Int Int))), .unk] := c.start n__law_is_point (show (1 : Nat) ≤ 2 by decide)
    unfold m__law_is_point at hm
    refine x_seq (x_ifS (x_or (x_not (x_tB (x_cb (x_cons (x_vd (d := (enc (a__law_p : (T3 Int Int Int)))) L0 rfl fun v1 r1 => x_cons (x_c (x_nil (x_isi (T := "tuple") (b := true) r1 (show kitB "tuple" "tuple" = some true by decide +kernel) (x_kb (x_kn (x_orP (B := (!decide (3 = 3))) (fun _ hq => x_test (x_op (x_cb (x_cons (x_vd (d := (enc (a__law_p : (T3 Int Int Int)))) L0 rfl fun v2 r2 => x_nil (x_lenT (n := 3) r2 rfl (x_c (x_nei (x_kb (hq)))))))))) (x_if hm (fun hm1 => ?_) fun hm1 => ?_))))))))))))))
    · exact x_ret (x_c (x_finB (Q := Q) (ps := (fun (r : Bool) => [])) (sc := fun (r : Bool) => r) false hm1 kont (L0.fin hp0 (.bl _))))
    · refine x_next ?_
      refine x_seq (x_tforT (x_vd (d := (enc (a__law_p : (T3 Int Int Int)))) L0 rfl fun v3 r3 => x_flT (G := (fun (s1 : Unit) => [.imm (enc (a__law_p : (T3 Int Int Int))), .unk])) (s0 := ()) (xs := [a__law_p.a, a__law_p.b, a__law_p.c]) (ps := (fun (r : Bool) => [])) (rs := (fun (r : Bool) => (.imm (.bool r)))) (L0.weak (Γ' := [.imm (enc (a__law_p : (T3 Int Int Int))), .unk]) (.k (.k .e))) (fun _ _ => rfl) r3 hm1 (fun x1 s1 H1 _ u1 _ _ _ _ _ hm2 L1 r4 hN1 hC1 hB1 hR1 => ?_) (fun s2 _ _ hm3 L2 => ?_) (fun _ _ _ hm4 F1 => x_finRB (Q := Q) (ps := (fun (r : Bool) => [])) (sc := fun (r : Bool) => r) hm4 kont F1)))
      · refine x_set (d := (.int x1)) (Γ' := [.imm (enc (a__law_p : (T3 Int Int Int))), .imm (.int x1)]) L1 r4 (show (1 : Nat) < 2 by decide) rfl fun _ L3 => ?_
        refine x_ifS (x_or (x_not (x_tB (x_cb (x_cons (x_vI (x := x1) L3 rfl (x_cons (x_c (x_nil (x_isiI (x := x1) (T := "int") (b := true) (show kitB "int" "int" = some true by decide +kernel) (x_kb (x_kn (x_orP (B := false) (fun _ hq => x_tB (x_cb (x_cons (x_vI (x := x1) L3 rfl (x_cons (x_c (x_nil (x_isiI (x := x1) (T := "bool") (b := false) (show kitB "int" "bool" = some false by decide +kernel) (x_kb (hq)))))))))) (x_if hm2 (fun hm5 => ?_) fun hm5 => ?_))))))))))))))
        · exact x_ret (x_c (x_leafR (ps := (fun (r : Bool) => [])) (rs := (fun (r : Bool) => (.imm (.bool r)))) (e := false) hm5 hR1 (L3.fin hp0 (.bl _))))
        · refine x_next ?_
          exact x_leafN (G := (fun (s1 : Unit) => [.imm (enc (a__law_p : (T3 Int Int Int))), .unk])) (e := ()) hm5 hN1 (L3.weak (Γ' := [.imm (enc (a__law_p : (T3 Int Int Int))), .unk]) (.k (.d .e)))
      exact x_ret (x_andV (x_op (x_op (x_vd (d := (enc (a__law_p : (T3 Int Int Int)))) L2 rfl fun v4 r5 => x_c (x_ixTI (x := a__law_p.c) r5 rfl (x_c (x_r0 (x_kb (x_andVB L2 hm3 (fun _ hm7 _ hq => x_op (x_call (x_cons (x_op (x_vd (d := (enc (a__law_p : (T3 Int Int Int)))) L2 rfl fun v10 r11 => x_c (x_ixTI (x := a__law_p.a) r11 rfl (x_cons (x_op (x_vd (d := (enc (a__law_p : (T3 Int Int Int)))) L2 rfl fun v11 r12 => x_c (x_ixTI (x := a__law_p.b) r12 rfl (x_cons (x_op (x_vd (d := (enc (a__law_p : (T3 Int Int Int)))) L2 rfl fun v12 r13 => x_c (x_ixTI (x := a__law_p.c) r13 rfl (x_nil (obE hm7 fun z2 hz2 hm8 => mk__law_point hz2 (L2.cond0 (.im (.int _) (.im (.int _) (.im (.int _) .nil))) rfl) fun v13 _ F3 => k0d L2 F3 fun L5 le2 r14 => x_vd (d := (enc (a__law_p : (T3 Int Int Int)))) L5 rfl fun v14 r15 => x_eqd (x := z2) (y := a__law_p) r14.dp r15.dp (by decide) (x_lfV hm8 hq L5))))))))))))))))) fun b1 _ hm9 L6 => x_finB (Q := Q) (ps := (fun (r : Bool) => [])) (sc := fun (r : Bool) => r) b1 hm9 kont (L6.fin hp0 (.bl _)))))))))))
abbrev sp__law_is_convex (K : PySem.W.Frag) : Sp := fun vs H Q _ => ∃ (X : Addr → Prop)  (a__law_ring : (List (T3 Int Int Int))) (r : Bool), m__law_is_convex a__law_ring = some r ∧ Cond K X H [.imm (enc (a__law_ring : (List (T3 Int Int Int))))] vs ∧ ∀ H', Fin K X H [] [] (.imm (.bool r)) (.bl r) H' → Q (.bl r) H'
theorem mk__law_is_convex {K : PySem.W.Frag} {X : Addr → Prop} {H : Hp} {vs : List V} {Q : VK} {E : XK}  {a__law_ring : (List (T3 Int Int Int))} {r : Bool} (hm : m__law_is_convex a__law_ring = some r) (c : Cond K X H [.imm (enc (a__law_ring : (List (T3 Int Int Int))))] vs) (k : ∀ H', Fin K X H [] [] (.imm (.bool r)) (.bl r) H' → Q (.bl r) H') : sp__law_is_convex K vs H Q E := ⟨X, a__law_ring, r, hm, c, k⟩
abbrev n__law_is_convex : List Str := ["_law_ring", "_law_k", "_law_j", "_law_p"]
theorem sc__law_is_convex : FnScope n__law_is_convex ["_law_ring"] (defScope s__law_is_convex) := ⟨rfl, rfl, rfl, by decide +kernel, rfl, by decide +kernel, by decide +kernel⟩
theorem ok__law_is_convex (T : Txt K mg) : FnOk P w K mg base CX0 3 T.A__law_is_convex T.D__law_is_convex ["_law_ring"] (sp__law_is_convex K) := by
  refine Fun.ok T.F__law_is_convex sc__law_is_convex (fun vs H Q E h => ?_) (fun cdv A outer s H vs Q E hr h => ?_)
  · obtain ⟨X, a__law_ring, r, hm, c, kont⟩ := h
    exact c.len
  · obtain ⟨X, a__law_ring, r, hm, c, kont⟩ := h
    refine ⟨_, (pss_cons (ps_if (PW.pt (pw_or (pt_not (pt_val (pe_callB (r := rIsi K) call_isi (by rfl) T.z_isinstance (by decide +kernel) (pa_cons (pv 0) (pa_cons (pe_bltn (v := .ty "list") (u := .type "list") (by rfl) T.z_list (by decide +kernel) rfl) pa_nil))))) (pw_or1 (pt_cmpR op_lt (pe_callB (r := rLenX K) call_lenX (by rfl) T.z_len (by decide +kernel) (pa_cons (pv 0) pa_nil)) pe_int (nomark _))))) (pss_one (ps_ret pe_bl)) pss_nil)
      (pss_cons (ps_if (pt_cmpR op_gt (pe_callB (r := rLenX K) call_lenX (by rfl) T.z_len (by decide +kernel) (pa_cons (pe_lc (own := [("_law_p", 3)]) (g := gName 3) (tt := _) rfl sc__law_is_convex.nd (pi_list (pv 0)) (blkOk_by (N := n__law_is_convex) (sc := defScope s__law_is_convex) (by decide +kernel)) (fun _ _ _ _ _ => (pg_name (i := 3) sc__law_is_convex.nd rfl (Or.inl rfl))) (fun _ _ _ _ _ => (pts_one (pt_not (pt_val (pe_call (ok__law_is_point T) hr (by rfl) T.g__law_is_point T.F__law_is_point.kp T.b__law_is_point .nil pass0 (pa_cons (pv 3) pa_nil)))))) (fun _ _ _ _ _ => (pv 3))) pa_nil)) pe_int (nomark _)) (pss_one (ps_ret pe_bl)) pss_nil)
      (pss_cons (ps_for PassesOwn.never rfl (pi_range1 (by rfl) T.z_range (pa_cons (pe_callB (r := rLenX K) call_lenX (by rfl) T.z_len (by decide +kernel) (pa_cons (pv 0) pa_nil)) pa_nil)) (pg_name (i := 1) sc__law_is_convex.nd rfl (Or.inl rfl)) (pss_one (ps_for PassesOwn.never rfl (pi_range1 (by rfl) T.z_range (pa_cons (pe_callB (r := rLenX K) call_lenX (by rfl) T.z_len (by decide +kernel) (pa_cons (pv 0) pa_nil)) pa_nil)) (pg_name (i := 2) sc__law_is_convex.nd rfl (Or.inl rfl)) (pss_one (ps_if (PW.pt (pw_and (pt_cmpR op_ne (pv 2) (pv 1) (nomark _)) (pw_and1 (pt_cmpR op_ne (pv 2) (pe_op op_modN (pe_op op_add (pv 1) pe_int) (pe_callB (r := rLenX K) call_lenX (by rfl) T.z_len (by decide +kernel) (pa_cons (pv 0) pa_nil))) (nomark _))))) (pss_one (ps_if (pt_cmpR op_ne (pe_call (ok__law_side T) (hr.mono (by decide)) (by rfl) T.g__law_side T.F__law_side.kp T.b__law_side .nil pass0 (pa_cons (pe_ix (r := rIxL K) ix_list (pv 0) (pv 1) (fun _ _ => rfl)) (pa_cons (pe_ix (r := rIxL K) ix_list (pv 0) (pe_op op_modN (pe_op op_add (pv 1) pe_int) (pe_callB (r := rLenX K) call_lenX (by rfl) T.z_len (by decide +kernel) (pa_cons (pv 0) pa_nil))) (fun _ _ => rfl)) (pa_cons (pe_ix (r := rIxL K) ix_list (pv 0) (pv 2) (fun _ _ => rfl)) pa_nil)))) pe_int (nomark _)) (pss_one (ps_ret pe_bl)) pss_nil)) pss_nil)))))
      (pss_one (ps_ret pe_bl))))), ?_⟩
    have L0 : Lo ⟨K, X, H, muts [.imm (enc (a__law_ring : (List (T3 Int Int Int))))], n__law_is_convex.length⟩ X H (L2.start n__law_is_convex vs) [.imm (enc (a__law_ring : (List (T3 Int Int Int)))), .unk, .unk, .unk] := c.start n__law_is_convex (show (1 : Nat) ≤ 4 by decide)
    unfold m__law_is_convex at hm
    refine x_seq (x_ifS (x_or (x_not (x_tB (x_cb (x_cons (x_vd (d := (enc (a__law_ring : (List (T3 Int Int Int))))) L0 rfl fun v1 r1 => x_cons (x_c (x_nil (x_isi (T := "list") (b := true) r1 (show kitB "list" "list" = some true by decide +kernel) (x_kb (x_kn (x_orP (B := (decide ((a__law_ring.length : Int) < 3))) (fun _ hq => x_test (x_op (x_cb (x_cons (x_vd (d := (enc (a__law_ring : (List (T3 Int Int Int))))) L0 rfl fun v2 r2 => x_nil (x_lenL (xs := a__law_ring) r2 (x_c (x_r0 (x_kb (hq)))))))))) (x_if hm (fun hm1 => ?_) fun hm1 => ?_))))))))))))))
    · exact x_ret (x_c (x_finB (Q := Q) (ps := (fun (r : Bool) => [])) (sc := fun (r : Bool) => r) false hm1 kont (L0.fin hp0 (.bl _))))
    · refine x_next ?_
      refine x_seq (x_ifS (x_test (x_op (x_cb (x_cons (x_lcl (x_vd (d := (enc (a__law_ring : (List (T3 Int Int Int))))) L0 rfl fun v3 r3 => obE hm1 fun _ hl1 hm2 => obE hm2 fun ys1 hy1 hm3 => x_lcL (G := (fun (s1 : Unit) => [.imm (enc (a__law_ring : (List (T3 Int Int Int)))), .unk, .unk, .unk])) (s0 := ()) (xs := a__law_ring) L0 (fun _ _ => rfl) r3 (filO_comp hy1) (lenOk_le hl1) (fun x1 s1 _ H1 _ u1 _ _ _ hF1 L1 r4 hn1 hy2 => obE hF1 fun y1 hm4 he1 => x_cName (d := (enc (x1 : (T3 Int Int Int)))) (Γ' := [.imm (enc (a__law_ring : (List (T3 Int Int Int)))), .unk, .unk, .imm (enc (x1 : (T3 Int Int Int)))]) L1 r4 (show (3 : Nat) < 4 by decide) rfl fun _ L2 => x_not (x_tB (x_call (x_cons (x_vd (d := (enc (x1 : (T3 Int Int Int)))) L2 rfl fun v4 r5 => x_nil (obE hm4 fun z1 hz2 hm5 => mk__law_is_point hz2 (L2.cond0 (.im r5 .nil) rfl) fun _ F1 => k0 L2 F1 fun L3 le1 => x_kb (x_kn (x_ct hm5 (fun hm6 => x_vd (d := (enc (x1 : (T3 Int Int Int)))) L3 rfl fun v6 r6 => x_cy (G := (fun (s1 : Unit) => [.imm (enc (a__law_ring : (List (T3 Int Int Int)))), .unk, .unk, .unk])) (s := s1) (s' := ()) (y := x1) (by cases hm6; cases he1; rfl) hy2 L1 L3 (.i rfl (.i rfl (.i rfl (.i rfl .e)))) r6) (fun hm6 => x_cn (G := (fun (s1 : Unit) => [.imm (enc (a__law_ring : (List (T3 Int Int Int)))), .unk, .unk, .unk])) (s := s1) (s' := ()) (by cases hm6; cases he1; rfl) hn1 L1 L3 (.i rfl (.i rfl (.i rfl (.i rfl .e))))))))))))) fun p1 _ L4 le2 r7 => have L5 : Lo _ _ _ _ [.imm (enc (a__law_ring : (List (T3 Int Int Int)))), .unk, .unk, .unk] := L4; have r8 : Rep _ _ _ (enc (ys1 : (List (T3 Int Int Int)))) (.ref p1) := r7; x_nil (x_lenL (xs := ys1) r8 (x_c (x_r0 (x_kb (x_if hm3 (fun hm7 => ?_) fun hm7 => ?_))))))))))))
      · exact x_ret (x_c (x_finB (Q := Q) (ps := (fun (r : Bool) => [])) (sc := fun (r : Bool) => r) false hm7 kont (L5.fin hp0 (.bl _))))
      · refine x_next ?_
        refine x_seq (x_tforR1 (x_cons (x_cb (x_cons (x_vd (d := (enc (a__law_ring : (List (T3 Int Int Int))))) L5 rfl fun v7 r9 => x_nil (x_lenL (xs := a__law_ring) r9 (x_nil (x_r1 hm7 fun hm8 => x_flR (G := (fun (s2 : Unit) => [.imm (enc (a__law_ring : (List (T3 Int Int Int)))), .unk, .unk, .unk])) (s0 := ()) (ps := (fun (r : Bool) => [])) (rs := (fun (r : Bool) => (.imm (.bool r)))) (L5.weak (Γ' := [.imm (enc (a__law_ring : (List (T3 Int Int Int)))), .unk, .unk, .unk]) (.k (.k (.k (.k .e))))) (fun _ _ => rfl) hm8 (fun x2 s2 H2 _ u2 _ _ _ _ _ hm9 L6 r10 hN1 hC1 hB1 hR1 => ?_) (fun s3 _ _ hm10 L7 => ?_) (fun _ _ _ hm11 F2 => x_finRB (Q := Q) (ps := (fun (r : Bool) => [])) (sc := fun (r : Bool) => r) hm11 kont F2)))))))))
        · refine x_set (d := (.int x2)) (Γ' := [.imm (enc (a__law_ring : (List (T3 Int Int Int)))), .imm (.int x2), .unk, .unk]) L6 r10 (show (1 : Nat) < 4 by decide) rfl fun _ L8 => ?_
          refine x_tforR1 (x_cons (x_cb (x_cons (x_vd (d := (enc (a__law_ring : (List (T3 Int Int Int))))) L8 rfl fun v8 r11 => x_nil (x_lenL (xs := a__law_ring) r11 (x_nil (x_r1 hm9 fun hm12 => x_flR (G := (fun (s4 : Unit) => [.imm (enc (a__law_ring : (List (T3 Int Int Int)))), .imm (.int x2), .unk, .unk])) (s0 := ()) (ps := (fun (r : Bool) => [])) (rs := (fun (r : Bool) => (.imm (.bool r)))) (L8.weak (Γ' := [.imm (enc (a__law_ring : (List (T3 Int Int Int)))), .imm (.int x2), .unk, .unk]) (.k (.k (.k (.k .e))))) (fun _ _ => rfl) hm12 (fun x3 s4 H3 _ u3 _ _ _ _ _ hm13 L9 r12 hN2 hC2 hB2 hR2 => ?_) (fun s5 _ _ hm14 L10 => ?_) (fun _ _ _ hm15 F3 => x_leafR (ps := (fun (r : Bool) => [])) (rs := (fun (r : Bool) => (.imm (.bool r)))) hm15 hR1 F3))))))))
          · refine x_set (d := (.int x3)) (Γ' := [.imm (enc (a__law_ring : (List (T3 Int Int Int)))), .imm (.int x2), .imm (.int x3), .unk]) L9 r12 (show (2 : Nat) < 4 by decide) rfl fun _ L11 => ?_
            refine x_ifS (x_and (x_test (x_op (x_vI (x := x3) L11 rfl (x_vI (x := x2) L11 rfl (x_nei (x_kb (x_andB L11 hm13 (fun _ hm17 _ hq => x_test (x_op (x_vI (x := x3) L11 rfl (x_op (x_op (x_vI (x := x2) L11 rfl (x_c (x_r0 (x_cb (x_cons (x_vd (d := (enc (a__law_ring : (List (T3 Int Int Int))))) L11 rfl fun v10 r14 => x_nil (x_lenL (xs := a__law_ring) r14 (x_mod hm17 fun z3 _ hm18 => x_nei (x_kb (x_lfT hm18 hq L11))))))))))))))) fun b1 _ hm19 L12 => x_if hm19 (fun hm20 => ?_) fun hm20 => ?_))))))))
            · refine x_ifS (x_test (x_op (x_call (x_cons (x_op (x_vd (d := (enc (a__law_ring : (List (T3 Int Int Int))))) L12 rfl fun v11 r15 => x_vI (x := x2) L12 rfl (x_ixL (xs := a__law_ring) hm20 r15 fun x4 v12 _ hm21 r16 => x_cons (x_op (x_vd (d := (enc (a__law_ring : (List (T3 Int Int Int))))) L12 rfl fun v13 r17 => x_op (x_op (x_vI (x := x2) L12 rfl (x_c (x_r0 (x_cb (x_cons (x_vd (d := (enc (a__law_ring : (List (T3 Int Int Int))))) L12 rfl fun v14 r18 => x_nil (x_lenL (xs := a__law_ring) r18 (x_mod hm21 fun z4 _ hm22 => x_ixL (xs := a__law_ring) hm22 r17 fun x5 v15 _ hm23 r19 => x_cons (x_op (x_vd (d := (enc (a__law_ring : (List (T3 Int Int Int))))) L12 rfl fun v16 r20 => x_vI (x := x3) L12 rfl (x_ixL (xs := a__law_ring) hm23 r20 fun x6 v17 _ hm24 r21 => x_nil (obE hm24 fun z5 hz3 hm25 => mk__law_side hz3 (L12.cond0 (.im r16 (.im r19 (.im r21 .nil))) rfl) fun _ F4 => k0 L12 F4 fun L13 le3 => x_c (x_nei (x_kb (x_if hm25 (fun hm26 => ?_) fun hm26 => ?_)))))))))))))))))))))))))
              · exact x_ret (x_c (x_leafR (ps := (fun (r : Bool) => [])) (rs := (fun (r : Bool) => (.imm (.bool r)))) (e := false) hm26 hR2 (L13.fin hp0 (.bl _))))
              · refine x_next ?_
                exact x_leafN (G := (fun (s4 : Unit) => [.imm (enc (a__law_ring : (List (T3 Int Int Int)))), .imm (.int x2), .unk, .unk])) (e := ()) hm26 hN2 (L13.weak (Γ' := [.imm (enc (a__law_ring : (List (T3 Int Int Int)))), .imm (.int x2), .unk, .unk]) (.k (.k (.d (.k .e)))))
            · refine x_next ?_
              exact x_leafN (G := (fun (s4 : Unit) => [.imm (enc (a__law_ring : (List (T3 Int Int Int)))), .imm (.int x2), .unk, .unk])) (e := ()) hm20 hN2 (L12.weak (Γ' := [.imm (enc (a__law_ring : (List (T3 Int Int Int)))), .imm (.int x2), .unk, .unk]) (.k (.k (.d (.k .e)))))
          exact x_leafN (G := (fun (s2 : Unit) => [.imm (enc (a__law_ring : (List (T3 Int Int Int)))), .unk, .unk, .unk])) (e := ()) hm14 hN1 (L10.weak (Γ' := [.imm (enc (a__law_ring : (List (T3 Int Int Int)))), .unk, .unk, .unk]) (.k (.d (.k (.k .e)))))
        exact x_ret (x_c (x_finB (Q := Q) (ps := (fun (r : Bool) => [])) (sc := fun (r : Bool) => r) true hm10 kont (L7.fin hp0 (.bl _))))
abbrev sp__law_bulging (K : PySem.W.Frag) : Sp := fun vs H Q _ => ∃ (X : Addr → Prop) (p__law_bag_here : Addr) (a__law_bag_here : (List Int)) (a__law_most : Int) (r : ((List (T3 Int Int Int)) × (List Int))), m__law_bulging a__law_bag_here a__law_most = some r ∧ Cond K X H [.mu p__law_bag_here (ml (a__law_bag_here : (List Int))), .imm (.int a__law_most)] vs ∧ ∀ v H', Fin K X H [p__law_bag_here] [(p__law_bag_here, ml (r.2 : (List Int)))] (.imm (enc (r.1 : (List (T3 Int Int Int))))) v H' → Q v H'
theorem mk__law_bulging {K : PySem.W.Frag} {X : Addr → Prop} {H : Hp} {vs : List V} {Q : VK} {E : XK} {p__law_bag_here : Addr} {a__law_bag_here : (List Int)} {a__law_most : Int} {r : ((List (T3 Int Int Int)) × (List Int))} (hm : m__law_bulging a__law_bag_here a__law_most = some r) (c : Cond K X H [.mu p__law_bag_here (ml (a__law_bag_here : (List Int))), .imm (.int a__law_most)] vs) (k : ∀ v H', Fin K X H [p__law_bag_here] [(p__law_bag_here, ml (r.2 : (List Int)))] (.imm (enc (r.1 : (List (T3 Int Int Int))))) v H' → Q v H') : sp__law_bulging K vs H Q E := ⟨X, p__law_bag_here, a__law_bag_here, a__law_most, r, hm, c, k⟩
abbrev n__law_bulging : List Str := ["_law_bag_here", "_law_most", "_law_ring", "_law_k", "_law_p", "_law_at_end", "_law_more"]
theorem sc__law_bulging : FnScope n__law_bulging ["_law_bag_here", "_law_most"] (defScope s__law_bulging) := ⟨rfl, rfl, rfl, by decide +kernel, rfl, by decide +kernel, by decide +kernel⟩
theorem ok__law_bulging (T : Txt K mg) : FnOk P w K mg base CX0 4 T.A__law_bulging T.D__law_bulging ["_law_bag_here", "_law_most"] (sp__law_bulging K) := by
  refine Fun.ok T.F__law_bulging sc__law_bulging (fun vs H Q E h => ?_) (fun cdv A outer s H vs Q E hr h => ?_)
  · obtain ⟨X, p__law_bag_here, a__law_bag_here, a__law_most, r, hm, c, kont⟩ := h
    exact c.len
  · obtain ⟨X, p__law_bag_here, a__law_bag_here, a__law_most, r, hm, c, kont⟩ := h
    refine ⟨_, (pss_cons (ps_set (i := 2) sc__law_bulging.nd rfl (Or.inl rfl) (pe_call (ok__law_three T) hr (by rfl) T.g__law_three T.F__law_three.kp T.b__law_three .nil pass0 (pa_cons (pv 0) (pa_cons (pv 1) pa_nil))))
      (pss_cons (ps_for PassesOwn.never rfl (pi_range1 (by rfl) T.z_range (pa_cons (pe_call (ok__law_digit T) (hr.mono (by decide)) (by rfl) T.g__law_digit T.F__law_digit.kp T.b__law_digit .nil pass0 (pa_cons (pv 0) (pa_cons pe_int pa_nil))) pa_nil)) (pg_name (i := 3) sc__law_bulging.nd rfl (Or.inl rfl)) (pss_cons (ps_set (i := 4) sc__law_bulging.nd rfl (Or.inl rfl) (pe_call (ok__law_place T) (hr.mono (by decide)) (by rfl) T.g__law_place T.F__law_place.kp T.b__law_place .nil pass0 (pa_cons (pv 0) (pa_cons (pv 1) pa_nil))))
      (pss_one (ps_for PassesOwn.never rfl (pi_range1 (by rfl) T.z_range (pa_cons (pe_callB (r := rLenX K) call_lenX (by rfl) T.z_len (by decide +kernel) (pa_cons (pv 2) pa_nil)) pa_nil)) (pg_name (i := 5) sc__law_bulging.nd rfl (Or.inl rfl)) (pss_cons (ps_set (i := 6) sc__law_bulging.nd rfl (Or.inl rfl) (pe_op op_catR (pe_op op_catR (pe_slice (r := rSlL K) sl_list (pv 2) po_none (po_some (pv 5))) (pe_lst (pa_cons (pv 4) pa_nil))) (pe_slice (r := rSlL K) sl_list (pv 2) (po_some (pv 5)) po_none)))
      (pss_one (ps_if (pt_val (pe_call (ok__law_is_convex T) hr (by rfl) T.g__law_is_convex T.F__law_is_convex.kp T.b__law_is_convex .nil pass0 (pa_cons (pv 6) pa_nil))) (pss_cons (ps_set (i := 2) sc__law_bulging.nd rfl (Or.inl rfl) (pv 6))
      (pss_one ps_break)) pss_nil)))))))
      (pss_one (ps_ret (pv 2))))), ?_⟩
    have L0 : Lo ⟨K, X, H, muts [.mu p__law_bag_here (ml (a__law_bag_here : (List Int))), .imm (.int a__law_most)], n__law_bulging.length⟩ X H (L2.start n__law_bulging vs) [.mu p__law_bag_here (ml (a__law_bag_here : (List Int))), .imm (.int a__law_most), .unk, .unk, .unk, .unk, .unk] := c.start n__law_bulging (show (2 : Nat) ≤ 7 by decide)
    unfold m__law_bulging at hm
    refine x_seq (x_asg (x_call (x_cons (x_vm L0 rfl (x_cons (x_vI (x := a__law_most) L0 rfl (x_nil (obE hm fun z1 hz1 hm1 => mk__law_three hz1 (L0.cond1 (i := 0) (.m (L0.mrep (i := 0) rfl) (.im (.int _) .nil)) rfl rfl rfl) fun v1 _ F1 => k1d L0 F1 (i := 0) (Γ' := [.mu p__law_bag_here (ml (z1.2 : (List Int))), .imm (.int a__law_most), .unk, .unk, .unk, .unk, .unk]) rfl rfl rfl fun L1 le1 r1 => x_set (d := (enc (z1.1 : (List (T3 Int Int Int))))) (Γ' := [.mu p__law_bag_here (ml (z1.2 : (List Int))), .imm (.int a__law_most), .imm (enc (z1.1 : (List (T3 Int Int Int)))), .unk, .unk, .unk, .unk]) L1 r1 (show (2 : Nat) < 7 by decide) rfl fun _ L2 => ?_))))))))
    refine x_seq (x_tforR1 (x_cons (x_call (x_cons (x_vm L2 rfl (x_cons (x_c (x_nil (obE hm1 fun z2 hz2 hm2 => mk__law_digit hz2 (L2.cond1 (i := 0) (.m (L2.mrep (i := 0) rfl) (.im (.int _) .nil)) rfl rfl rfl) fun _ F2 => k1 L2 F2 (i := 0) (Γ' := [.mu p__law_bag_here (ml (z2.2 : (List Int))), .imm (.int a__law_most), .imm (enc (z1.1 : (List (T3 Int Int Int)))), .unk, .unk, .unk, .unk]) rfl rfl rfl fun L3 le2 => x_nil (x_r1 hm2 fun hm3 => x_foR (G := (fun (s1 : ((List Int) × (List (T3 Int Int Int)))) => [.mu p__law_bag_here (ml (s1.1 : (List Int))), .imm (.int a__law_most), .imm (enc (s1.2 : (List (T3 Int Int Int)))), .unk, .unk, .unk, .unk])) (s0 := (z2.2, z1.1)) (L3.weak (Γ' := [.mu p__law_bag_here (ml (z2.2 : (List Int))), .imm (.int a__law_most), .imm (enc (z1.1 : (List (T3 Int Int Int)))), .unk, .unk, .unk, .unk]) (.k (.k (.k (.k (.k (.k (.k .e)))))))) (fun _ _ => rfl) hm3 (fun x1 s1 H1 _ u1 _ _ _ _ _ hm4 L4 r2 hN1 hC1 => ?_) (fun s2 _ _ hm5 L5 => ?_)))))))))))
    · refine x_set (d := (.int x1)) (Γ' := [.mu p__law_bag_here (ml (s1.1 : (List Int))), .imm (.int a__law_most), .imm (enc (s1.2 : (List (T3 Int Int Int)))), .imm (.int x1), .unk, .unk, .unk]) L4 r2 (show (3 : Nat) < 7 by decide) rfl fun _ L6 => ?_
      refine x_seq (x_asg (x_call (x_cons (x_vm L6 rfl (x_cons (x_vI (x := a__law_most) L6 rfl (x_nil (obE hm4 fun z3 hz3 hm7 => mk__law_place hz3 (L6.cond1 (i := 0) (.m (L6.mrep (i := 0) rfl) (.im (.int _) .nil)) rfl rfl rfl) fun v3 _ F4 => k1d L6 F4 (i := 0) (Γ' := [.mu p__law_bag_here (ml (z3.2 : (List Int))), .imm (.int a__law_most), .imm (enc (s1.2 : (List (T3 Int Int Int)))), .imm (.int x1), .unk, .unk, .unk]) rfl rfl rfl fun L7 le3 r3 => x_set (d := (enc (z3.1 : (T3 Int Int Int)))) (Γ' := [.mu p__law_bag_here (ml (z3.2 : (List Int))), .imm (.int a__law_most), .imm (enc (s1.2 : (List (T3 Int Int Int)))), .imm (.int x1), .imm (enc (z3.1 : (T3 Int Int Int))), .unk, .unk]) L7 r3 (show (4 : Nat) < 7 by decide) rfl fun _ L8 => ?_))))))))
      refine x_tforR1 (x_cons (x_cb (x_cons (x_vd (d := (enc (s1.2 : (List (T3 Int Int Int))))) L8 rfl fun v4 r4 => x_nil (x_lenL (xs := s1.2) r4 (x_nil (x_r1 hm7 fun hm8 => x_flR (G := (fun (s3 : (List (T3 Int Int Int))) => [.mu p__law_bag_here (ml (z3.2 : (List Int))), .imm (.int a__law_most), .imm (enc (s3 : (List (T3 Int Int Int)))), .imm (.int x1), .imm (enc (z3.1 : (T3 Int Int Int))), .unk, .unk])) (s0 := s1.2) (ρ := Empty) (ps := fun _ => []) (rs := fun _ => .imm .none) (L8.weak (Γ' := [.mu p__law_bag_here (ml (z3.2 : (List Int))), .imm (.int a__law_most), .imm (enc (s1.2 : (List (T3 Int Int Int)))), .imm (.int x1), .imm (enc (z3.1 : (T3 Int Int Int))), .unk, .unk]) (.k (.k (.k (.k (.k (.k (.k .e)))))))) (fun _ _ => rfl) hm8 (fun x2 s3 H2 _ u2 _ _ _ _ _ hm9 L9 r5 hN2 hC2 hB2 hR2 => ?_) (fun s4 _ _ hm10 L10 => ?_) (fun q => q.elim))))))))
      · refine x_set (d := (.int x2)) (Γ' := [.mu p__law_bag_here (ml (z3.2 : (List Int))), .imm (.int a__law_most), .imm (enc (s3 : (List (T3 Int Int Int)))), .imm (.int x1), .imm (enc (z3.1 : (T3 Int Int Int))), .imm (.int x2), .unk]) L9 r5 (show (5 : Nat) < 7 by decide) rfl fun _ L11 => ?_
        refine x_seq (x_asg (x_op (x_op (x_sl (x_vd (d := (enc (s3 : (List (T3 Int Int Int))))) L11 rfl fun v5 r6 => x_noP (x_part (x_vI (x := x2) L11 rfl (x_partK (x_slL (xs := s3) L11 r6 fun v6 _ L12 le4 r7 => have r8 : Rep _ _ _ (enc ((slice s3 none (some x2)) : (List (T3 Int Int Int)))) v6 := r7; x_lst (x_cons (x_vd (d := (enc (z3.1 : (T3 Int Int Int)))) L12 rfl fun v7 r9 => x_nil (x_mkL L12 (.cons r9 .nil) (show (1 : Nat) ≤ 16777216 by decide) fun v8 _ L13 le5 r10 => have r11 := le5 _ _ r8; have r12 : Rep _ _ _ (enc ([z3.1] : (List (T3 Int Int Int)))) v8 := r10; x_cat L13 hm9 r11 r12 fun v9 _ hm12 L14 le6 r13 => have r14 : Rep _ _ _ (enc (((slice s3 none (some x2)) ++ [z3.1]) : (List (T3 Int Int Int)))) v9 := r13; x_sl (x_vd (d := (enc (s3 : (List (T3 Int Int Int))))) L14 rfl fun v10 r15 => x_part (x_vI (x := x2) L14 rfl (x_partK (x_noP (x_slL (xs := s3) L14 r15 fun v11 _ L15 le7 r16 => have r17 := le7 _ _ r14; have r18 : Rep _ _ _ (enc ((slice s3 (some x2) none) : (List (T3 Int Int Int)))) v11 := r16; x_cat L15 hm12 r17 r18 fun v12 _ hm13 L16 le8 r19 => have r20 : Rep _ _ _ (enc ((((slice s3 none (some x2)) ++ [z3.1]) ++ (slice s3 (some x2) none)) : (List (T3 Int Int Int)))) v12 := r19; x_bset (x0 := (((slice s3 none (some x2)) ++ [z3.1]) ++ (slice s3 (some x2) none))) (d := fun more_1 => (enc (more_1 : (List (T3 Int Int Int))))) (Γf := fun more_1 => [.mu p__law_bag_here (ml (z3.2 : (List Int))), .imm (.int a__law_most), .imm (enc (s3 : (List (T3 Int Int Int)))), .imm (.int x1), .imm (enc (z3.1 : (T3 Int Int Int))), .imm (.int x2), .imm (enc (more_1 : (List (T3 Int Int Int))))]) hm13 L16 r20 (show (6 : Nat) < 7 by decide) (fun _ => rfl) fun more_1 _ hm14 L17 => ?_)))))))))))))))))
        refine x_ifS (x_tB (x_call (x_cons (x_vd (d := (enc (more_1 : (List (T3 Int Int Int))))) L17 rfl fun v13 r21 => x_nil (obE hm14 fun z4 hz4 hm15 => mk__law_is_convex hz4 (L17.cond0 (.im r21 .nil) rfl) fun _ F6 => k0 L17 F6 fun L18 le9 => x_kb (x_if hm15 (fun hm16 => ?_) fun hm16 => ?_))))))
        · refine x_seq (x_asg (x_vd (d := (enc (more_1 : (List (T3 Int Int Int))))) L18 rfl fun v15 r22 => x_set (d := (enc (more_1 : (List (T3 Int Int Int))))) (Γ' := [.mu p__law_bag_here (ml (z3.2 : (List Int))), .imm (.int a__law_most), .imm (enc (more_1 : (List (T3 Int Int Int)))), .imm (.int x1), .imm (enc (z3.1 : (T3 Int Int Int))), .imm (.int x2), .imm (enc (more_1 : (List (T3 Int Int Int))))]) L18 r22 (show (2 : Nat) < 7 by decide) rfl fun _ L19 => ?_))
          exact x_break (x_leafB (G := (fun (s3 : (List (T3 Int Int Int))) => [.mu p__law_bag_here (ml (z3.2 : (List Int))), .imm (.int a__law_most), .imm (enc (s3 : (List (T3 Int Int Int)))), .imm (.int x1), .imm (enc (z3.1 : (T3 Int Int Int))), .unk, .unk])) (e := more_1) hm16 hB2 (L19.weak (Γ' := [.mu p__law_bag_here (ml (z3.2 : (List Int))), .imm (.int a__law_most), .imm (enc (more_1 : (List (T3 Int Int Int)))), .imm (.int x1), .imm (enc (z3.1 : (T3 Int Int Int))), .unk, .unk]) (.k (.k (.k (.k (.k (.d (.d .e)))))))))
        · refine x_next ?_
          exact x_leafN (G := (fun (s3 : (List (T3 Int Int Int))) => [.mu p__law_bag_here (ml (z3.2 : (List Int))), .imm (.int a__law_most), .imm (enc (s3 : (List (T3 Int Int Int)))), .imm (.int x1), .imm (enc (z3.1 : (T3 Int Int Int))), .unk, .unk])) (e := s3) hm16 hN2 (L18.weak (Γ' := [.mu p__law_bag_here (ml (z3.2 : (List Int))), .imm (.int a__law_most), .imm (enc (s3 : (List (T3 Int Int Int)))), .imm (.int x1), .imm (enc (z3.1 : (T3 Int Int Int))), .unk, .unk]) (.k (.k (.k (.k (.k (.d (.d .e))))))))
      exact x_leaf (G := (fun (s1 : ((List Int) × (List (T3 Int Int Int)))) => [.mu p__law_bag_here (ml (s1.1 : (List Int))), .imm (.int a__law_most), .imm (enc (s1.2 : (List (T3 Int Int Int)))), .unk, .unk, .unk, .unk])) (e := (z3.2, s4)) hm10 hN1 (L10.weak (Γ' := [.mu p__law_bag_here (ml (z3.2 : (List Int))), .imm (.int a__law_most), .imm (enc (s4 : (List (T3 Int Int Int)))), .unk, .unk, .unk, .unk]) (.k (.k (.k (.d (.d (.k (.k .e))))))))
    exact x_ret (x_vd (d := (enc (s2.2 : (List (T3 Int Int Int))))) L5 rfl fun v16 r23 => x_fin (Q := Q) (ps := (fun (r : ((List (T3 Int Int Int)) × (List Int))) => [(p__law_bag_here, ml (r.2 : (List Int)))])) (rs := (fun (r : ((List (T3 Int Int Int)) × (List Int))) => (.imm (enc (r.1 : (List (T3 Int Int Int))))))) (e := (s2.2, s2.1)) hm5 kont (L5.fin (hp1 (L5.mrep (i := 0) rfl)) r23))
abbrev sp__law_sheet (K : PySem.W.Frag) : Sp := fun vs H Q _ => ∃ (X : Addr → Prop) (p__law_bag_here : Addr) (a__law_bag_here : (List Int)) (a__law_most : Int) (a__law_many : Int) (r : ((List (T3 (List (T3 Int Int Int)) Bool (T3 Int Int Int))) × (List Int))), m__law_sheet a__law_bag_here a__law_most a__law_many = some r ∧ Cond K X H [.mu p__law_bag_here (ml (a__law_bag_here : (List Int))), .imm (.int a__law_most), .imm (.int a__law_many)] vs ∧ ∀ p H', Fin K X H [p__law_bag_here] [(p__law_bag_here, ml (r.2 : (List Int)))] (.new (ml (r.1 : (List (T3 (List (T3 Int Int Int)) Bool (T3 Int Int Int)))))) (.ref p) H' → Q (.ref p) H'
theorem mk__law_sheet {K : PySem.W.Frag} {X : Addr → Prop} {H : Hp} {vs : List V} {Q : VK} {E : XK} {p__law_bag_here : Addr} {a__law_bag_here : (List Int)} {a__law_most : Int} {a__law_many : Int} {r : ((List (T3 (List (T3 Int Int Int)) Bool (T3 Int Int Int))) × (List Int))} (hm : m__law_sheet a__law_bag_here a__law_most a__law_many = some r) (c : Cond K X H [.mu p__law_bag_here (ml (a__law_bag_here : (List Int))), .imm (.int a__law_most), .imm (.int a__law_many)] vs) (k : ∀ p H', Fin K X H [p__law_bag_here] [(p__law_bag_here, ml (r.2 : (List Int)))] (.new (ml (r.1 : (List (T3 (List (T3 Int Int Int)) Bool (T3 Int Int Int)))))) (.ref p) H' → Q (.ref p) H') : sp__law_sheet K vs H Q E := ⟨X, p__law_bag_here, a__law_bag_here, a__law_most, a__law_many, r, hm, c, k⟩
abbrev n__law_sheet : List Str := ["_law_bag_here", "_law_most", "_law_many", "_law_made", "_law_k", "_law_step_here"]
theorem sc__law_sheet : FnScope n__law_sheet ["_law_bag_here", "_law_most", "_law_many"] (defScope s__law_sheet) := ⟨rfl, rfl, rfl, by decide +kernel, rfl, by decide +kernel, by decide +kernel⟩
theorem ok__law_sheet (T : Txt K mg) : FnOk P w K mg base CX0 5 T.A__law_sheet T.D__law_sheet ["_law_bag_here", "_law_most", "_law_many"] (sp__law_sheet K) := by
  refine Fun.ok T.F__law_sheet sc__law_sheet (fun vs H Q E h => ?_) (fun cdv A outer s H vs Q E hr h => ?_)
  · obtain ⟨X, p__law_bag_here, a__law_bag_here, a__law_most, a__law_many, r, hm, c, kont⟩ := h
    exact c.len
  · obtain ⟨X, p__law_bag_here, a__law_bag_here, a__law_most, a__law_many, r, hm, c, kont⟩ := h
    refine ⟨_, (pss_cons (ps_set (i := 3) sc__law_sheet.nd rfl (Or.inl rfl) (pe_lst pa_nil))
      (pss_cons (ps_for PassesOwn.never rfl (pi_range1 (by rfl) T.z_range (pa_cons (pe_op op_add pe_int (pe_call (ok__law_digit T) (hr.mono (by decide)) (by rfl) T.g__law_digit T.F__law_digit.kp T.b__law_digit .nil pass0 (pa_cons (pv 0) (pa_cons (pv 2) pa_nil)))) pa_nil)) (pg_name (i := 4) sc__law_sheet.nd rfl (Or.inl rfl)) (pss_cons (ps_set (i := 5) sc__law_sheet.nd rfl (Or.inl rfl) (pe_call (ok__law_slid T) (hr.mono (by decide)) (by rfl) T.g__law_slid T.F__law_slid.kp T.b__law_slid .nil pass0 (pa_cons (pe_call (ok__law_step T) (hr.mono (by decide)) (by rfl) T.g__law_step T.F__law_step.kp T.b__law_step .nil pass0 (pa_cons (pv 0) (pa_cons (pv 1) pa_nil))) (pa_cons (pe_tup (pa_cons (pe_op op_mul pe_int (pv 4)) (pa_cons pe_int (pa_cons pe_int pa_nil)))) pa_nil))))
      (pss_one (ps_expr (pe_bm PySem.F.plainAttrs_list PySem.F.slot_list_append PySem.F.type_list_append mt_append (pv 3) (pa_cons (pe_tup (pa_cons (pe_call (ok__law_bulging T) hr (by rfl) T.g__law_bulging T.F__law_bulging.kp T.b__law_bulging .nil pass0 (pa_cons (pv 0) (pa_cons (pv 1) pa_nil))) (pa_cons (pe_cmpR op_eq (pe_call (ok__law_digit T) (hr.mono (by decide)) (by rfl) T.g__law_digit T.F__law_digit.kp T.b__law_digit .nil pass0 (pa_cons (pv 0) (pa_cons pe_int pa_nil))) pe_int (nomark _)) (pa_cons (pv 5) pa_nil)))) pa_nil))))))
      (pss_one (ps_ret (pv 3))))), ?_⟩
    have L0 : Lo ⟨K, X, H, muts [.mu p__law_bag_here (ml (a__law_bag_here : (List Int))), .imm (.int a__law_most), .imm (.int a__law_many)], n__law_sheet.length⟩ X H (L2.start n__law_sheet vs) [.mu p__law_bag_here (ml (a__law_bag_here : (List Int))), .imm (.int a__law_most), .imm (.int a__law_many), .unk, .unk, .unk] := c.start n__law_sheet (show (3 : Nat) ≤ 6 by decide)
    unfold m__law_sheet at hm
    refine x_seq (x_asg (x_lst (x_nil (x_mkN L0 .nil (show (0 : Nat) ≤ 16777216 by decide) fun p1 _ _ h01 hx1 L1 le1 => x_setN (Γ := [.mu p__law_bag_here (ml (a__law_bag_here : (List Int))), .imm (.int a__law_most), .imm (.int a__law_many), .unk, .unk, .unk]) (p := p1) (o := (ml (([] : (List (T3 (List (T3 Int Int Int)) Bool (T3 Int Int Int)))) : (List (T3 (List (T3 Int Int Int)) Bool (T3 Int Int Int)))))) (Γ' := [.mu p__law_bag_here (ml (a__law_bag_here : (List Int))), .imm (.int a__law_most), .imm (.int a__law_many), .mu p1 (ml (([] : (List (T3 (List (T3 Int Int Int)) Bool (T3 Int Int Int)))) : (List (T3 (List (T3 Int Int Int)) Bool (T3 Int Int Int))))), .unk, .unk]) L1 (show (3 : Nat) < 6 by decide) (show (3 : Nat) < 6 by decide) rfl fun _ L2 => ?_))))
    refine x_seq (x_tforR1 (x_cons (x_op (x_c (x_call (x_cons (x_vm L2 rfl (x_cons (x_vI (x := a__law_many) L2 rfl (x_nil (obE hm fun z1 hz1 hm1 => mk__law_digit hz1 (L2.cond1 (i := 0) (.m (L2.mrep (i := 0) rfl) (.im (.int _) .nil)) rfl rfl rfl) fun _ F1 => k1 L2 F1 (i := 0) (Γ' := [.mu p__law_bag_here (ml (z1.2 : (List Int))), .imm (.int a__law_most), .imm (.int a__law_many), .mu p1 (ml (([] : (List (T3 (List (T3 Int Int Int)) Bool (T3 Int Int Int)))) : (List (T3 (List (T3 Int Int Int)) Bool (T3 Int Int Int))))), .unk, .unk]) rfl rfl rfl fun L3 le2 => x_r0 (x_nil (x_r1 hm1 fun hm2 => x_foR (G := (fun (s1 : ((List Int) × (List (T3 (List (T3 Int Int Int)) Bool (T3 Int Int Int))))) => [.mu p__law_bag_here (ml (s1.1 : (List Int))), .imm (.int a__law_most), .imm (.int a__law_many), .mu p1 (ml (s1.2 : (List (T3 (List (T3 Int Int Int)) Bool (T3 Int Int Int))))), .unk, .unk])) (s0 := (z1.2, ([] : (List (T3 (List (T3 Int Int Int)) Bool (T3 Int Int Int)))))) (L3.weak (Γ' := [.mu p__law_bag_here (ml (z1.2 : (List Int))), .imm (.int a__law_most), .imm (.int a__law_many), .mu p1 (ml (([] : (List (T3 (List (T3 Int Int Int)) Bool (T3 Int Int Int)))) : (List (T3 (List (T3 Int Int Int)) Bool (T3 Int Int Int))))), .unk, .unk]) (.k (.k (.k (.k (.k (.k .e))))))) (fun _ _ => rfl) hm2 (fun x1 s1 H1 _ u1 _ _ _ _ _ hm3 L4 r1 hN1 hC1 => ?_) (fun s2 _ _ hm4 L5 => ?_))))))))))))))
    · refine x_set (d := (.int x1)) (Γ' := [.mu p__law_bag_here (ml (s1.1 : (List Int))), .imm (.int a__law_most), .imm (.int a__law_many), .mu p1 (ml (s1.2 : (List (T3 (List (T3 Int Int Int)) Bool (T3 Int Int Int))))), .imm (.int x1), .unk]) L4 r1 (show (4 : Nat) < 6 by decide) rfl fun _ L6 => ?_
      refine x_seq (x_asg (x_call (x_cons (x_call (x_cons (x_vm L6 rfl (x_cons (x_vI (x := a__law_most) L6 rfl (x_nil (obE hm3 fun z2 hz2 hm6 => mk__law_step hz2 (L6.cond1 (i := 0) (.m (L6.mrep (i := 0) rfl) (.im (.int _) .nil)) rfl rfl rfl) fun v2 _ F3 => k1d L6 F3 (i := 0) (Γ' := [.mu p__law_bag_here (ml (z2.2 : (List Int))), .imm (.int a__law_most), .imm (.int a__law_many), .mu p1 (ml (s1.2 : (List (T3 (List (T3 Int Int Int)) Bool (T3 Int Int Int))))), .imm (.int x1), .unk]) rfl rfl rfl fun L7 le3 r2 => x_cons (x_tup (x_cons (x_op (x_c (x_vI (x := x1) L7 rfl (x_mulL (by decide) (x_cons (x_c (x_cons (x_c (x_nil (x_mkT L7 (.cons (.int _) (.cons (.int _) (.cons (.int _) .nil))) (show (3 : Nat) ≤ 16777216 by decide) fun v3 _ L8 le4 r3 => have r4 := le4 _ _ r2; have r5 : Rep _ _ _ (enc ((T3.mk ((13 * x1)) 0 1) : (T3 Int Int Int))) v3 := r3; x_nil (obE hm6 fun z3 hz3 hm7 => mk__law_slid hz3 (L8.cond0 (.im r4 (.im r5 .nil)) rfl) fun v4 _ F4 => k0d L8 F4 fun L9 le5 r6 => x_set (d := (enc (z3 : (T3 Int Int Int)))) (Γ' := [.mu p__law_bag_here (ml (z2.2 : (List Int))), .imm (.int a__law_most), .imm (.int a__law_many), .mu p1 (ml (s1.2 : (List (T3 (List (T3 Int Int Int)) Bool (T3 Int Int Int))))), .imm (.int x1), .imm (enc (z3 : (T3 Int Int Int)))]) L9 r6 (show (5 : Nat) < 6 by decide) rfl fun _ L10 => ?_)))))))))))))))))))))))
      refine x_drop (x_bm (x_vm L10 rfl (x_tyM L10 (i := 3) rfl (x_cons (x_tup (x_cons (x_call (x_cons (x_vm L10 rfl (x_cons (x_vI (x := a__law_most) L10 rfl (x_nil (obE hm7 fun z4 hz4 hm8 => mk__law_bulging hz4 (L10.cond1 (i := 0) (.m (L10.mrep (i := 0) rfl) (.im (.int _) .nil)) rfl rfl rfl) fun v5 _ F5 => k1d L10 F5 (i := 0) (Γ' := [.mu p__law_bag_here (ml (z4.2 : (List Int))), .imm (.int a__law_most), .imm (.int a__law_many), .mu p1 (ml (s1.2 : (List (T3 (List (T3 Int Int Int)) Bool (T3 Int Int Int))))), .imm (.int x1), .imm (enc (z3 : (T3 Int Int Int)))]) rfl rfl rfl fun L11 le6 r7 => x_cons (x_op (x_call (x_cons (x_vm L11 rfl (x_cons (x_c (x_nil (obE hm8 fun z5 hz5 hm9 => mk__law_digit hz5 (L11.cond1 (i := 0) (.m (L11.mrep (i := 0) rfl) (.im (.int _) .nil)) rfl rfl rfl) fun _ F6 => k1 L11 F6 (i := 0) (Γ' := [.mu p__law_bag_here (ml (z5.2 : (List Int))), .imm (.int a__law_most), .imm (.int a__law_many), .mu p1 (ml (s1.2 : (List (T3 (List (T3 Int Int Int)) Bool (T3 Int Int Int))))), .imm (.int x1), .imm (enc (z3 : (T3 Int Int Int)))]) rfl rfl rfl fun L12 le7 => have r8 := le7 _ _ r7; x_c (x_eqi (x_cons (x_vd (d := (enc (z3 : (T3 Int Int Int)))) L12 rfl fun v7 r9 => x_nil (x_mkT L12 (.cons r8 (.cons (.bl _) (.cons r9 .nil))) (show (3 : Nat) ≤ 16777216 by decide) fun v8 _ L13 le8 r10 => have r11 : Rep _ _ _ (enc ((T3.mk z4.1 ((decide (z5.1 = 1))) z3) : (T3 (List (T3 Int Int Int)) Bool (T3 Int Int Int)))) v8 := r10; x_nil (x_append (xs := s1.2) (x := (T3.mk z4.1 ((decide (z5.1 = 1))) z3)) (i := 3) (Γ' := [.mu p__law_bag_here (ml (z5.2 : (List Int))), .imm (.int a__law_most), .imm (.int a__law_many), .mu p1 (ml ((s1.2 ++ [(T3.mk z4.1 ((decide (z5.1 = 1))) z3)]) : (List (T3 (List (T3 Int Int Int)) Bool (T3 Int Int Int))))), .imm (.int x1), .imm (enc (z3 : (T3 Int Int Int)))]) L13 rfl hm9 r11 rfl fun _ hm10 L14 le9 => ?_))))))))))))))))))))))))))
      exact x_leaf (G := (fun (s1 : ((List Int) × (List (T3 (List (T3 Int Int Int)) Bool (T3 Int Int Int))))) => [.mu p__law_bag_here (ml (s1.1 : (List Int))), .imm (.int a__law_most), .imm (.int a__law_many), .mu p1 (ml (s1.2 : (List (T3 (List (T3 Int Int Int)) Bool (T3 Int Int Int))))), .unk, .unk])) (e := (z5.2, (s1.2 ++ [(T3.mk z4.1 ((decide (z5.1 = 1))) z3)]))) hm10 hN1 (L14.weak (Γ' := [.mu p__law_bag_here (ml (z5.2 : (List Int))), .imm (.int a__law_most), .imm (.int a__law_many), .mu p1 (ml ((s1.2 ++ [(T3.mk z4.1 ((decide (z5.1 = 1))) z3)]) : (List (T3 (List (T3 Int Int Int)) Bool (T3 Int Int Int))))), .unk, .unk]) (.k (.k (.k (.k (.d (.d .e)))))))
    exact x_ret (x_vm L5 rfl (x_finP (Q := Q) (ps := (fun (r : ((List (T3 (List (T3 Int Int Int)) Bool (T3 Int Int Int))) × (List Int))) => [(p__law_bag_here, ml (r.2 : (List Int)))])) (o := fun (r : ((List (T3 (List (T3 Int Int Int)) Bool (T3 Int Int Int))) × (List Int))) => ml (r.1 : (List (T3 (List (T3 Int Int Int)) Bool (T3 Int Int Int))))) (e := (s2.2, s2.1)) hm4 kont (L5.finM (p := p1) (i := 3) (hp1 (L5.mrep (i := 0) rfl)) rfl h01)))
abbrev sp_fresh (K : PySem.W.Frag) : Sp := fun vs H Q _ => ∃ (X : Addr → Prop)  (a_ring : (List (T3 Int Int Int))) (r : (T3 (List (T3 Int Int Int)) Bool (T3 Int Int Int))), m_fresh a_ring = some r ∧ Cond K X H [.imm (enc (a_ring : (List (T3 Int Int Int))))] vs ∧ ∀ v H', Fin K X H [] [] (.immN (fun a => H a = none) (enc (r : (T3 (List (T3 Int Int Int)) Bool (T3 Int Int Int))))) v H' → Q v H'
theorem mk_fresh {K : PySem.W.Frag} {X : Addr → Prop} {H : Hp} {vs : List V} {Q : VK} {E : XK}  {a_ring : (List (T3 Int Int Int))} {r : (T3 (List (T3 Int Int Int)) Bool (T3 Int Int Int))} (hm : m_fresh a_ring = some r) (c : Cond K X H [.imm (enc (a_ring : (List (T3 Int Int Int))))] vs) (k : ∀ v H', Fin K X H [] [] (.immN (fun a => H a = none) (enc (r : (T3 (List (T3 Int Int Int)) Bool (T3 Int Int Int))))) v H' → Q v H') : sp_fresh K vs H Q E := ⟨X, a_ring, r, hm, c, k⟩
abbrev n_fresh : List Str := ["ring"]
theorem sc_fresh : FnScope n_fresh ["ring"] (defScope s_fresh) := ⟨rfl, rfl, rfl, by decide +kernel, rfl, by decide +kernel, by decide +kernel⟩
theorem ok_fresh (T : Txt K mg) : FnOk P w K mg base CX0 1 T.A_fresh T.D_fresh ["ring"] (sp_fresh K) := by
  refine Fun.ok T.F_fresh sc_fresh (fun vs H Q E h => ?_) (fun cdv A outer s H vs Q E hr h => ?_)
  · obtain ⟨X, a_ring, r, hm, c, kont⟩ := h
    exact c.len
  · obtain ⟨X, a_ring, r, hm, c, kont⟩ := h
    refine ⟨_, (pss_one (ps_ret (pe_tup (pa_cons (pe_callTy (r := rListX K) call_listX (by rfl) T.z_list (by decide +kernel) (pa_cons (pv 0) pa_nil)) (pa_cons pe_bl (pa_cons (pe_tup (pa_cons pe_int (pa_cons pe_int (pa_cons pe_int pa_nil)))) pa_nil)))))), ?_⟩
    have L0 : Lo ⟨K, X, H, muts [.imm (enc (a_ring : (List (T3 Int Int Int))))], n_fresh.length⟩ X H (L2.start n_fresh vs) [.imm (enc (a_ring : (List (T3 Int Int Int))))] := c.start n_fresh (show (1 : Nat) ≤ 1 by decide)
    unfold m_fresh at hm
    exact x_ret (x_tup (x_cons (x_cb (x_cons (x_vd (d := (enc (a_ring : (List (T3 Int Int Int))))) L0 rfl fun v1 r1 => x_nil (x_listZ (Z := (fun a => H a = none)) (xs := a_ring) (fun _ h => h) L0 r1 fun v2 _ L1 le1 r2 => x_cons (x_c (x_cons (x_tup (x_cons (x_c (x_cons (x_c (x_cons (x_c (x_nil (x_mkTS L1 (.cons (.int _) (.cons (.int _) (.cons (.int _) .nil))) (show (3 : Nat) ≤ 16777216 by decide) fun v3 _ sm1 L2 le2 r3 => have r4 := Rep.keepF (.same sm1) r2; have r5 : Rep _ _ _ (enc ((T3.mk 0 0 1) : (T3 Int Int Int))) v3 := r3; x_nil (x_mkTN (Z := (fun a => H a = none)) L2 (.cons r4 (.cons (.bl _) (.cons (Flat.up r5) .nil))) (show (3 : Nat) ≤ 16777216 by decide) fun v4 _ L3 le3 r6 => have r7 : Rep _ _ _ (enc ((T3.mk a_ring false ((T3.mk 0 0 1))) : (T3 (List (T3 Int Int Int)) Bool (T3 Int Int Int)))) v4 := r6; x_fin (Q := Q) (ps := (fun (r : (T3 (List (T3 Int Int Int)) Bool (T3 Int Int Int))) => [])) (rs := (fun (r : (T3 (List (T3 Int Int Int)) Bool (T3 Int Int Int))) => (.immN (fun a => H a = none) (enc (r : (T3 (List (T3 Int Int Int)) Bool (T3 Int Int Int))))))) (e := (T3.mk a_ring false ((T3.mk 0 0 1)))) hm kont (L3.finZ hp0 r7)))))))))))))))))))
abbrev sp__law_is_sheet (K : PySem.W.Frag) : Sp := fun vs H Q _ => ∃ (X : Addr → Prop)  (a__law_sheet_here : (List (T3 (List (T3 Int Int Int)) Bool (T3 Int Int Int)))) (r : Bool), m__law_is_sheet a__law_sheet_here = some r ∧ Cond K X H [.imm (enc (a__law_sheet_here : (List (T3 (List (T3 Int Int Int)) Bool (T3 Int Int Int)))))] vs ∧ ∀ H', Fin K X H [] [] (.imm (.bool r)) (.bl r) H' → Q (.bl r) H'
theorem mk__law_is_sheet {K : PySem.W.Frag} {X : Addr → Prop} {H : Hp} {vs : List V} {Q : VK} {E : XK}  {a__law_sheet_here : (List (T3 (List (T3 Int Int Int)) Bool (T3 Int Int Int)))} {r : Bool} (hm : m__law_is_sheet a__law_sheet_here = some r) (c : Cond K X H [.imm (enc (a__law_sheet_here : (List (T3 (List (T3 Int Int Int)) Bool (T3 Int Int Int)))))] vs) (k : ∀ H', Fin K X H [] [] (.imm (.bool r)) (.bl r) H' → Q (.bl r) H') : sp__law_is_sheet K vs H Q E := ⟨X, a__law_sheet_here, r, hm, c, k⟩
abbrev n__law_is_sheet : List Str := ["_law_sheet_here", "_law_piece"]
theorem sc__law_is_sheet : FnScope n__law_is_sheet ["_law_sheet_here"] (defScope s__law_is_sheet) := ⟨rfl, rfl, rfl, by decide +kernel, rfl, by decide +kernel, by decide +kernel⟩
theorem ok__law_is_sheet (T : Txt K mg) : FnOk P w K mg base CX0 4 T.A__law_is_sheet T.D__law_is_sheet ["_law_sheet_here"] (sp__law_is_sheet K) := by
  refine Fun.ok T.F__law_is_sheet sc__law_is_sheet (fun vs H Q E h => ?_) (fun cdv A outer s H vs Q E hr h => ?_)
  · obtain ⟨X, a__law_sheet_here, r, hm, c, kont⟩ := h
    exact c.len
  · obtain ⟨X, a__law_sheet_here, r, hm, c, kont⟩ := h
    refine ⟨_, (pss_cons (ps_if (pt_not (pt_val (pe_callB (r := rIsi K) call_isi (by rfl) T.z_isinstance (by decide +kernel) (pa_cons (pv 0) (pa_cons (pe_bltn (v := .ty "list") (u := .type "list") (by rfl) T.z_list (by decide +kernel) rfl) pa_nil))))) (pss_one (ps_ret pe_bl)) pss_nil)
      (pss_cons (ps_for PassesOwn.never rfl (pi_list (pv 0)) (pg_name (i := 1) sc__law_is_sheet.nd rfl (Or.inl rfl)) (pss_cons (ps_if (PW.pt (pw_or (pt_not (pt_val (pe_callB (r := rIsi K) call_isi (by rfl) T.z_isinstance (by decide +kernel) (pa_cons (pv 1) (pa_cons (pe_bltn (v := .ty "tuple") (u := .type "tuple") (by rfl) T.z_tuple (by decide +kernel) rfl) pa_nil))))) (pw_or (pt_cmpR op_ne (pe_callB (r := rLenX K) call_lenX (by rfl) T.z_len (by decide +kernel) (pa_cons (pv 1) pa_nil)) pe_int (nomark _)) (pw_or1 (pt_not (pt_val (pe_call (ok__law_is_convex T) hr (by rfl) T.g__law_is_convex T.F__law_is_convex.kp T.b__law_is_convex .nil pass0 (pa_cons (pe_ix (r := rIxT K) ix_tup (pv 1) pe_int (fun _ _ => rfl)) pa_nil)))))))) (pss_one (ps_ret pe_bl)) pss_nil)
      (pss_one (ps_if (PW.pt (pw_or (pt_not (pt_val (pe_callB (r := rIsi K) call_isi (by rfl) T.z_isinstance (by decide +kernel) (pa_cons (pe_ix (r := rIxT K) ix_tup (pv 1) pe_int (fun _ _ => rfl)) (pa_cons (pe_bltn (v := .ty "bool") (u := .type "bool") (by rfl) T.z_bool (by decide +kernel) rfl) pa_nil))))) (pw_or1 (pt_not (pt_val (pe_call (ok__law_is_point T) (hr.mono (by decide)) (by rfl) T.g__law_is_point T.F__law_is_point.kp T.b__law_is_point .nil pass0 (pa_cons (pe_ix (r := rIxT K) ix_tup (pv 1) pe_int (fun _ _ => rfl)) pa_nil))))))) (pss_one (ps_ret pe_bl)) pss_nil))))
      (pss_one (ps_ret pe_bl)))), ?_⟩
    have L0 : Lo ⟨K, X, H, muts [.imm (enc (a__law_sheet_here : (List (T3 (List (T3 Int Int Int)) Bool (T3 Int Int Int)))))], n__law_is_sheet.length⟩ X H (L2.start n__law_is_sheet vs) [.imm (enc (a__law_sheet_here : (List (T3 (List (T3 Int Int Int)) Bool (T3 Int Int Int))))), .unk] := c.start n__law_is_sheet (show (1 : Nat) ≤ 2 by decide)
    unfold m__law_is_sheet at hm
    refine x_seq (x_ifS (x_not (x_tB (x_cb (x_cons (x_vd (d := (enc (a__law_sheet_here : (List (T3 (List (T3 Int Int Int)) Bool (T3 Int Int Int)))))) L0 rfl fun v1 r1 => x_cons (x_c (x_nil (x_isi (T := "list") (b := true) r1 (show kitB "list" "list" = some true by decide +kernel) (x_kb (x_kn (x_if hm (fun hm1 => ?_) fun hm1 => ?_))))))))))))
    · exact x_ret (x_c (x_finB (Q := Q) (ps := (fun (r : Bool) => [])) (sc := fun (r : Bool) => r) false hm1 kont (L0.fin hp0 (.bl _))))
    · refine x_next ?_
      refine x_seq (x_tforL (x_vd (d := (enc (a__law_sheet_here : (List (T3 (List (T3 Int Int Int)) Bool (T3 Int Int Int)))))) L0 rfl fun v2 r2 => x_flL (G := (fun (s1 : Unit) => [.imm (enc (a__law_sheet_here : (List (T3 (List (T3 Int Int Int)) Bool (T3 Int Int Int))))), .unk])) (s0 := ()) (xs := a__law_sheet_here) (ps := (fun (r : Bool) => [])) (rs := (fun (r : Bool) => (.imm (.bool r)))) (L0.weak (Γ' := [.imm (enc (a__law_sheet_here : (List (T3 (List (T3 Int Int Int)) Bool (T3 Int Int Int))))), .unk]) (.k (.k .e))) (fun _ _ => rfl) r2 hm1 (fun x1 s1 H1 _ u1 _ _ _ _ _ hm2 L1 r3 hN1 hC1 hB1 hR1 => ?_) (fun s2 _ _ hm3 L2 => ?_) (fun _ _ _ hm4 F1 => x_finRB (Q := Q) (ps := (fun (r : Bool) => [])) (sc := fun (r : Bool) => r) hm4 kont F1)))
      · refine x_set (d := (enc (x1 : (T3 (List (T3 Int Int Int)) Bool (T3 Int Int Int))))) (Γ' := [.imm (enc (a__law_sheet_here : (List (T3 (List (T3 Int Int Int)) Bool (T3 Int Int Int))))), .imm (enc (x1 : (T3 (List (T3 Int Int Int)) Bool (T3 Int Int Int))))]) L1 r3 (show (1 : Nat) < 2 by decide) rfl fun _ L3 => ?_
        refine x_seq (x_ifS (x_or (x_not (x_tB (x_cb (x_cons (x_vd (d := (enc (x1 : (T3 (List (T3 Int Int Int)) Bool (T3 Int Int Int))))) L3 rfl fun v3 r4 => x_cons (x_c (x_nil (x_isi (T := "tuple") (b := true) r4 (show kitB "tuple" "tuple" = some true by decide +kernel) (x_kb (x_kn (x_orB L3 hm2 (fun _ hm9 _ hq => x_or (x_test (x_op (x_cb (x_cons (x_vd (d := (enc (x1 : (T3 (List (T3 Int Int Int)) Bool (T3 Int Int Int))))) L3 rfl fun v11 r10 => x_nil (x_lenT (n := 3) r10 rfl (x_c (x_nei (x_kb (x_orB L3 hm9 (fun _ hm11 _ hq => x_not (x_tB (x_call (x_cons (x_op (x_vd (d := (enc (x1 : (T3 (List (T3 Int Int Int)) Bool (T3 Int Int Int))))) L3 rfl fun v15 r13 => x_c (x_ixT (d := (enc (x1.a : (List (T3 Int Int Int))))) r13 rfl fun v16 r14 => x_nil (obE hm11 fun z4 hz4 hm12 => mk__law_is_convex hz4 (L3.cond0 (.im r14 .nil) rfl) fun _ F5 => k0 L3 F5 fun L8 le4 => x_kb (x_kn (x_lfT hm12 hq L8)))))))))) fun b2 _ hm13 L9 => x_lfT hm13 hq L9))))))))))) fun b3 _ hm14 L10 => x_if hm14 (fun hm15 => ?_) fun hm15 => ?_)))))))))))))
        · exact x_ret (x_c (x_leafR (ps := (fun (r : Bool) => [])) (rs := (fun (r : Bool) => (.imm (.bool r)))) (e := false) hm15 hR1 (L10.fin hp0 (.bl _))))
        · refine x_next ?_
          refine x_ifS (x_or (x_not (x_tB (x_cb (x_cons (x_op (x_vd (d := (enc (x1 : (T3 (List (T3 Int Int Int)) Bool (T3 Int Int Int))))) L10 rfl fun v18 r15 => x_c (x_ixTB (x := x1.b) r15 rfl (x_cons (x_c (x_nil (x_isiB (x := x1.b) (T := "bool") (b := true) (show kitB "bool" "bool" = some true by decide +kernel) (x_kb (x_kn (x_orB L10 hm15 (fun _ hm17 _ hq => x_not (x_tB (x_call (x_cons (x_op (x_vd (d := (enc (x1 : (T3 (List (T3 Int Int Int)) Bool (T3 Int Int Int))))) L10 rfl fun v22 r18 => x_c (x_ixT (d := (enc (x1.c : (T3 Int Int Int)))) r18 rfl fun v23 r19 => x_nil (obE hm17 fun z6 hz6 hm18 => mk__law_is_point hz6 (L10.cond0 (.im r19 .nil) rfl) fun _ F7 => k0 L10 F7 fun L12 le6 => x_kb (x_kn (x_lfT hm18 hq L12)))))))))) fun b4 _ hm19 L13 => x_if hm19 (fun hm20 => ?_) fun hm20 => ?_)))))))))))))))
          · exact x_ret (x_c (x_leafR (ps := (fun (r : Bool) => [])) (rs := (fun (r : Bool) => (.imm (.bool r)))) (e := false) hm20 hR1 (L13.fin hp0 (.bl _))))
          · refine x_next ?_
            exact x_leafN (G := (fun (s1 : Unit) => [.imm (enc (a__law_sheet_here : (List (T3 (List (T3 Int Int Int)) Bool (T3 Int Int Int))))), .unk])) (e := ()) hm20 hN1 (L13.weak (Γ' := [.imm (enc (a__law_sheet_here : (List (T3 (List (T3 Int Int Int)) Bool (T3 Int Int Int))))), .unk]) (.k (.d .e)))
      exact x_ret (x_c (x_finB (Q := Q) (ps := (fun (r : Bool) => [])) (sc := fun (r : Bool) => r) true hm3 kont (L2.fin hp0 (.bl _))))
abbrev sp_turned (K : PySem.W.Frag) : Sp := fun vs H Q _ => ∃ (X : Addr → Prop)  (a_p : (T3 Int Int Int)) (r : (T3 Int Int Int)), m_turned a_p = some r ∧ Cond K X H [.imm (enc (a_p : (T3 Int Int Int)))] vs ∧ ∀ v H', Fin K X H [] [] (.imm (enc (r : (T3 Int Int Int)))) v H' → Q v H'
theorem mk_turned {K : PySem.W.Frag} {X : Addr → Prop} {H : Hp} {vs : List V} {Q : VK} {E : XK}  {a_p : (T3 Int Int Int)} {r : (T3 Int Int Int)} (hm : m_turned a_p = some r) (c : Cond K X H [.imm (enc (a_p : (T3 Int Int Int)))] vs) (k : ∀ v H', Fin K X H [] [] (.imm (enc (r : (T3 Int Int Int)))) v H' → Q v H') : sp_turned K vs H Q E := ⟨X, a_p, r, hm, c, k⟩
abbrev n_turned : List Str := ["p"]
theorem sc_turned : FnScope n_turned ["p"] (defScope s_turned) := ⟨rfl, rfl, rfl, by decide +kernel, rfl, by decide +kernel, by decide +kernel⟩
theorem ok_turned (T : Txt K mg) : FnOk P w K mg base CX0 1 T.A_turned T.D_turned ["p"] (sp_turned K) := by
  refine Fun.ok T.F_turned sc_turned (fun vs H Q E h => ?_) (fun cdv A outer s H vs Q E hr h => ?_)
  · obtain ⟨X, a_p, r, hm, c, kont⟩ := h
    exact c.len
  · obtain ⟨X, a_p, r, hm, c, kont⟩ := h
    refine ⟨_, (pss_one (ps_ret (pe_tup (pa_cons (pe_un un_neg (pe_ix (r := rIxT K) ix_tup (pv 0) pe_int (fun _ _ => rfl))) (pa_cons (pe_un un_neg (pe_ix (r := rIxT K) ix_tup (pv 0) pe_int (fun _ _ => rfl))) (pa_cons (pe_ix (r := rIxT K) ix_tup (pv 0) pe_int (fun _ _ => rfl)) pa_nil)))))), ?_⟩
    have L0 : Lo ⟨K, X, H, muts [.imm (enc (a_p : (T3 Int Int Int)))], n_turned.length⟩ X H (L2.start n_turned vs) [.imm (enc (a_p : (T3 Int Int Int)))] := c.start n_turned (show (1 : Nat) ≤ 1 by decide)
    unfold m_turned at hm
    exact x_ret (x_tup (x_cons (x_un (x_op (x_vd (d := (enc (a_p : (T3 Int Int Int)))) L0 rfl fun v1 r1 => x_c (x_ixTI (x := a_p.a) r1 rfl (x_u (x_cons (x_un (x_op (x_vd (d := (enc (a_p : (T3 Int Int Int)))) L0 rfl fun v2 r2 => x_c (x_ixTI (x := a_p.b) r2 rfl (x_u (x_cons (x_op (x_vd (d := (enc (a_p : (T3 Int Int Int)))) L0 rfl fun v3 r3 => x_c (x_ixTI (x := a_p.c) r3 rfl (x_nil (x_mkT L0 (.cons (.int _) (.cons (.int _) (.cons (.int _) .nil))) (show (3 : Nat) ≤ 16777216 by decide) fun v4 _ L1 le1 r4 => have r5 : Rep _ _ _ (enc ((T3.mk ((-a_p.a)) ((-a_p.b)) a_p.c) : (T3 Int Int Int))) v4 := r4; x_fin (Q := Q) (ps := (fun (r : (T3 Int Int Int)) => [])) (rs := (fun (r : (T3 Int Int Int)) => (.imm (enc (r : (T3 Int Int Int)))))) (e := (T3.mk ((-a_p.a)) ((-a_p.b)) a_p.c)) hm kont (L1.fin hp0 r5))))))))))))))))))))
abbrev sp_greatest_divisor (K : PySem.W.Frag) : Sp := fun vs H Q _ => ∃ (X : Addr → Prop)  (a_a : Int) (a_b : Int) (r : Int), m_greatest_divisor a_a a_b = some r ∧ Cond K X H [.imm (.int a_a), .imm (.int a_b)] vs ∧ ∀ H', Fin K X H [] [] (.imm (.int r)) (.int r) H' → Q (.int r) H'
theorem mk_greatest_divisor {K : PySem.W.Frag} {X : Addr → Prop} {H : Hp} {vs : List V} {Q : VK} {E : XK}  {a_a : Int} {a_b : Int} {r : Int} (hm : m_greatest_divisor a_a a_b = some r) (c : Cond K X H [.imm (.int a_a), .imm (.int a_b)] vs) (k : ∀ H', Fin K X H [] [] (.imm (.int r)) (.int r) H' → Q (.int r) H') : sp_greatest_divisor K vs H Q E := ⟨X, a_a, a_b, r, hm, c, k⟩
abbrev n_greatest_divisor : List Str := ["a", "b", "one", "other"]
theorem sc_greatest_divisor : FnScope n_greatest_divisor ["a", "b"] (defScope s_greatest_divisor) := ⟨rfl, rfl, rfl, by decide +kernel, rfl, by decide +kernel, by decide +kernel⟩
theorem ok_greatest_divisor (T : Txt K mg) : FnOk P w K mg base CX0 1 T.A_greatest_divisor T.D_greatest_divisor ["a", "b"] (sp_greatest_divisor K) := by
  refine Fun.ok T.F_greatest_divisor sc_greatest_divisor (fun vs H Q E h => ?_) (fun cdv A outer s H vs Q E hr h => ?_)
  · obtain ⟨X, a_a, a_b, r, hm, c, kont⟩ := h
    exact c.len
  · obtain ⟨X, a_a, a_b, r, hm, c, kont⟩ := h
    refine ⟨_, (pss_cons (ps_set (i := 2) sc_greatest_divisor.nd rfl (Or.inl rfl) (pe_callB call_absX (by rfl) T.z_abs (by decide +kernel) (pa_cons (pv 0) pa_nil)))
      (pss_cons (ps_set (i := 3) sc_greatest_divisor.nd rfl (Or.inl rfl) (pe_callB call_absX (by rfl) T.z_abs (by decide +kernel) (pa_cons (pv 1) pa_nil)))
      (pss_cons (ps_while PassesOwn.never (pt_cmpR op_gt (pv 3) pe_int (nomark _)) (pss_one (ps_par (i := 2) (j := 3) (by rfl) sc_greatest_divisor.nd rfl rfl (by decide) rfl rfl (pa_cons (pv 3) (pa_cons (pe_op op_modN (pv 2) (pv 3)) pa_nil)) (by rfl))))
      (pss_one (ps_ret (pv 2)))))), ?_⟩
    have L0 : Lo ⟨K, X, H, muts [.imm (.int a_a), .imm (.int a_b)], n_greatest_divisor.length⟩ X H (L2.start n_greatest_divisor vs) [.imm (.int a_a), .imm (.int a_b), .unk, .unk] := c.start n_greatest_divisor (show (2 : Nat) ≤ 4 by decide)
    unfold m_greatest_divisor at hm
    refine x_seq (x_asg (x_cb (x_cons (x_vI (x := a_a) L0 rfl (x_nil (x_abs (x_bset (x0 := (iabs a_a)) (d := fun one_1 => (.int one_1)) (Γf := fun one_1 => [.imm (.int a_a), .imm (.int a_b), .imm (.int one_1), .unk]) hm L0 (.int _) (show (2 : Nat) < 4 by decide) (fun _ => rfl) fun one_1 _ hm1 L1 => ?_)))))))
    refine x_seq (x_asg (x_cb (x_cons (x_vI (x := a_b) L1 rfl (x_nil (x_abs (x_bset (x0 := (iabs a_b)) (d := fun other_1 => (.int other_1)) (Γf := fun other_1 => [.imm (.int a_a), .imm (.int a_b), .imm (.int one_1), .imm (.int other_1)]) hm1 L1 (.int _) (show (3 : Nat) < 4 by decide) (fun _ => rfl) fun other_1 _ hm2 L2 => ?_)))))))
    refine x_seq (x_wh (n := other_1.natAbs + 2) (G := (fun (s1 : (Int × Int)) => [.imm (.int a_a), .imm (.int a_b), .imm (.int s1.1), .imm (.int s1.2)])) (s0 := (one_1, other_1)) (ρ := Empty) (ps := fun _ => []) (rs := fun _ => .imm .none) (L2.weak (Γ' := [.imm (.int a_a), .imm (.int a_b), .imm (.int one_1), .imm (.int other_1)]) (.k (.k (.k (.k .e))))) (fun _ _ => rfl) hm2 (fun s1 H1 _ _ _ _ _ _ hm3 L3 hN1 hC1 hB1 hR1 _ hQ1 => ?_) (fun s2 _ _ hm4 L4 => ?_) (fun q => q.elim))
    · refine x_test (x_op (x_vI (x := s1.2) L3 rfl (x_c (x_r0 (x_kb (hQ1 _ _ (x_whIf hm3 (fun hm6 => ?_) fun hm6 => ?_)))))))
      · refine x_par (x_cons (x_vI (x := s1.2) L3 rfl (x_cons (x_op (x_vI (x := s1.1) L3 rfl (x_vI (x := s1.2) L3 rfl (x_mod hm6 fun z1 _ hm7 => x_nil (x_par2 (x := (.int s1.2)) (y := (.int z1)) (Γ' := [.imm (.int a_a), .imm (.int a_b), .imm (.int s1.2), .imm (.int z1)]) L3 (.int _) (.int _) (show (2 : Nat) < 4 by decide) (show (3 : Nat) < 4 by decide) rfl fun _ L5 => ?_))))))))
        exact x_leafN (G := (fun (s1 : (Int × Int)) => [.imm (.int a_a), .imm (.int a_b), .imm (.int s1.1), .imm (.int s1.2)])) (e := (s1.2, z1)) hm7 hN1 (L5.weak (Γ' := [.imm (.int a_a), .imm (.int a_b), .imm (.int s1.2), .imm (.int z1)]) (.k (.k (.k (.k .e)))))
      · exact x_leafB (G := (fun (s1 : (Int × Int)) => [.imm (.int a_a), .imm (.int a_b), .imm (.int s1.1), .imm (.int s1.2)])) (e := (s1.1, s1.2)) hm6 hB1 (L3.weak (Γ' := [.imm (.int a_a), .imm (.int a_b), .imm (.int s1.1), .imm (.int s1.2)]) (.k (.k (.k (.k .e)))))
    exact x_ret (x_vI (x := s2.1) L4 rfl (x_finI (Q := Q) (ps := (fun (r : Int) => [])) (sc := fun (r : Int) => r) s2.1 hm4 kont (L4.fin hp0 (.int _))))
abbrev sp_point (K : PySem.W.Frag) : Sp := fun vs H Q _ => ∃ (X : Addr → Prop)  (a_a : Int) (a_b : Int) (a_n : Int) (r : (T3 Int Int Int)), m_point a_a a_b a_n = some r ∧ Cond K X H [.imm (.int a_a), .imm (.int a_b), .imm (.int a_n)] vs ∧ ∀ v H', Fin K X H [] [] (.imm (enc (r : (T3 Int Int Int)))) v H' → Q v H'
theorem mk_point {K : PySem.W.Frag} {X : Addr → Prop} {H : Hp} {vs : List V} {Q : VK} {E : XK}  {a_a : Int} {a_b : Int} {a_n : Int} {r : (T3 Int Int Int)} (hm : m_point a_a a_b a_n = some r) (c : Cond K X H [.imm (.int a_a), .imm (.int a_b), .imm (.int a_n)] vs) (k : ∀ v H', Fin K X H [] [] (.imm (enc (r : (T3 Int Int Int)))) v H' → Q v H') : sp_point K vs H Q E := ⟨X, a_a, a_b, a_n, r, hm, c, k⟩
abbrev n_point : List Str := ["a", "b", "n", "divisor"]
theorem sc_point : FnScope n_point ["a", "b", "n"] (defScope s_point) := ⟨rfl, rfl, rfl, by decide +kernel, rfl, by decide +kernel, by decide +kernel⟩
theorem ok_point (T : Txt K mg) : FnOk P w K mg base CX0 2 T.A_point T.D_point ["a", "b", "n"] (sp_point K) := by
  refine Fun.ok T.F_point sc_point (fun vs H Q E h => ?_) (fun cdv A outer s H vs Q E hr h => ?_)
  · obtain ⟨X, a_a, a_b, a_n, r, hm, c, kont⟩ := h
    exact c.len
  · obtain ⟨X, a_a, a_b, a_n, r, hm, c, kont⟩ := h
    refine ⟨_, (pss_cons (ps_if (pt_cmpR op_eq (pv 2) pe_int (nomark _)) (pss_one ps_never) pss_nil)
      (pss_cons (ps_set (i := 3) sc_point.nd rfl (Or.inl rfl) (pe_call (ok_greatest_divisor T) hr (by rfl) T.g_greatest_divisor T.F_greatest_divisor.kp T.b_greatest_divisor .nil pass0 (pa_cons (pe_call (ok_greatest_divisor T) hr (by rfl) T.g_greatest_divisor T.F_greatest_divisor.kp T.b_greatest_divisor .nil pass0 (pa_cons (pv 0) (pa_cons (pv 2) pa_nil))) (pa_cons (pv 1) pa_nil))))
      (pss_cons (ps_if (pt_cmpR op_lt (pv 2) pe_int (nomark _)) (pss_one (ps_set (i := 3) sc_point.nd rfl (Or.inl rfl) (pe_un un_neg (pv 3)))) pss_nil)
      (pss_one (ps_ret (pe_tup (pa_cons (pe_op op_divG (pv 0) (pv 3)) (pa_cons (pe_op op_divG (pv 1) (pv 3)) (pa_cons (pe_op op_divG (pv 2) (pv 3)) pa_nil))))))))), ?_⟩
    have L0 : Lo ⟨K, X, H, muts [.imm (.int a_a), .imm (.int a_b), .imm (.int a_n)], n_point.length⟩ X H (L2.start n_point vs) [.imm (.int a_a), .imm (.int a_b), .imm (.int a_n), .unk] := c.start n_point (show (3 : Nat) ≤ 4 by decide)
    unfold m_point at hm
    refine x_seq (x_ifS (x_test (x_op (x_vI (x := a_n) L0 rfl (x_c (x_eqi (x_kb (x_if hm (fun hm1 => ?_) fun hm1 => ?_))))))))
    · exact (nomatch hm1)
    · refine x_next ?_
      refine x_seq (x_asg (x_call (x_cons (x_call (x_cons (x_vI (x := a_a) L0 rfl (x_cons (x_vI (x := a_n) L0 rfl (x_nil (obE hm1 fun z1 hz1 hm2 => mk_greatest_divisor hz1 (L0.cond0 (.im (.int _) (.im (.int _) .nil)) rfl) fun _ F1 => k0 L0 F1 fun L1 le1 => x_cons (x_vI (x := a_b) L1 rfl (x_nil (obE hm2 fun z2 hz2 hm3 => mk_greatest_divisor hz2 (L1.cond0 (.im (.int _) (.im (.int _) .nil)) rfl) fun _ F2 => k0 L1 F2 fun L2 le2 => x_set (d := (.int z2)) (Γ' := [.imm (.int a_a), .imm (.int a_b), .imm (.int a_n), .imm (.int z2)]) L2 (.int _) (show (3 : Nat) < 4 by decide) rfl fun _ L3 => ?_)))))))))))))
      refine x_seq (x_ifS (x_test (x_op (x_vI (x := a_n) L3 rfl (x_c (x_r0 (x_kb (x_join (G := (fun (s1 : Int) => [.imm (.int a_a), .imm (.int a_b), .imm (.int a_n), .imm (.int s1)])) L3 hm3 (fun _ hm4 _ hN1 => ?_) (fun _ hm4 _ hN1 => ?_) fun s1 X1 _ _ hm5 L4 => ?_))))))))
      · refine x_asg (x_un (x_vI (x := z2) L3 rfl (x_u (x_bset (x0 := (-z2)) (d := fun divisor_1 => (.int divisor_1)) (Γf := fun divisor_1 => [.imm (.int a_a), .imm (.int a_b), .imm (.int a_n), .imm (.int divisor_1)]) hm4 L3 (.int _) (show (3 : Nat) < 4 by decide) (fun _ => rfl) fun divisor_1 _ hm6 L5 => ?_))))
        exact x_leaf (G := (fun (s1 : Int) => [.imm (.int a_a), .imm (.int a_b), .imm (.int a_n), .imm (.int s1)])) (e := divisor_1) hm6 hN1 (L5.weak (Γ' := [.imm (.int a_a), .imm (.int a_b), .imm (.int a_n), .imm (.int divisor_1)]) (.k (.k (.k (.k .e)))))
      · refine x_next ?_
        exact x_leaf (G := (fun (s1 : Int) => [.imm (.int a_a), .imm (.int a_b), .imm (.int a_n), .imm (.int s1)])) (e := z2) hm4 hN1 (L3.weak (Γ' := [.imm (.int a_a), .imm (.int a_b), .imm (.int a_n), .imm (.int z2)]) (.k (.k (.k (.k .e)))))
      exact x_ret (x_tup (x_cons (x_op (x_vI (x := a_a) L4 rfl (x_vI (x := s1) L4 rfl (x_div hm5 fun z3 _ hm7 => x_cons (x_op (x_vI (x := a_b) L4 rfl (x_vI (x := s1) L4 rfl (x_div hm7 fun z4 _ hm8 => x_cons (x_op (x_vI (x := a_n) L4 rfl (x_vI (x := s1) L4 rfl (x_div hm8 fun z5 _ hm9 => x_nil (x_mkT L4 (.cons (.int _) (.cons (.int _) (.cons (.int _) .nil))) (show (3 : Nat) ≤ 16777216 by decide) fun v3 _ L6 le3 r1 => have r2 : Rep _ _ _ (enc ((T3.mk z3 z4 z5) : (T3 Int Int Int))) v3 := r1; x_fin (Q := Q) (ps := (fun (r : (T3 Int Int Int)) => [])) (rs := (fun (r : (T3 Int Int Int)) => (.imm (enc (r : (T3 Int Int Int)))))) (e := (T3.mk z3 z4 z5)) hm9 kont (L6.fin hp0 r2))))))))))))))))
abbrev sp_slid (K : PySem.W.Frag) : Sp := fun vs H Q _ => ∃ (X : Addr → Prop)  (a_p : (T3 Int Int Int)) (a_step : (T3 Int Int Int)) (r : (T3 Int Int Int)), m_slid a_p a_step = some r ∧ Cond K X H [.imm (enc (a_p : (T3 Int Int Int))), .imm (enc (a_step : (T3 Int Int Int)))] vs ∧ ∀ v H', Fin K X H [] [] (.imm (enc (r : (T3 Int Int Int)))) v H' → Q v H'
theorem mk_slid {K : PySem.W.Frag} {X : Addr → Prop} {H : Hp} {vs : List V} {Q : VK} {E : XK}  {a_p : (T3 Int Int Int)} {a_step : (T3 Int Int Int)} {r : (T3 Int Int Int)} (hm : m_slid a_p a_step = some r) (c : Cond K X H [.imm (enc (a_p : (T3 Int Int Int))), .imm (enc (a_step : (T3 Int Int Int)))] vs) (k : ∀ v H', Fin K X H [] [] (.imm (enc (r : (T3 Int Int Int)))) v H' → Q v H') : sp_slid K vs H Q E := ⟨X, a_p, a_step, r, hm, c, k⟩
abbrev n_slid : List Str := ["p", "step"]
theorem sc_slid : FnScope n_slid ["p", "step"] (defScope s_slid) := ⟨rfl, rfl, rfl, by decide +kernel, rfl, by decide +kernel, by decide +kernel⟩
theorem ok_slid (T : Txt K mg) : FnOk P w K mg base CX0 3 T.A_slid T.D_slid ["p", "step"] (sp_slid K) := by
  refine Fun.ok T.F_slid sc_slid (fun vs H Q E h => ?_) (fun cdv A outer s H vs Q E hr h => ?_)
  · obtain ⟨X, a_p, a_step, r, hm, c, kont⟩ := h
    exact c.len
  · obtain ⟨X, a_p, a_step, r, hm, c, kont⟩ := h
    refine ⟨_, (pss_one (ps_ret (pe_call (ok_point T) hr (by rfl) T.g_point T.F_point.kp T.b_point .nil pass0 (pa_cons (pe_op op_add (pe_op op_mulW (pe_ix (r := rIxT K) ix_tup (pv 0) pe_int (fun _ _ => rfl)) (pe_ix (r := rIxT K) ix_tup (pv 1) pe_int (fun _ _ => rfl))) (pe_op op_mulW (pe_ix (r := rIxT K) ix_tup (pv 1) pe_int (fun _ _ => rfl)) (pe_ix (r := rIxT K) ix_tup (pv 0) pe_int (fun _ _ => rfl)))) (pa_cons (pe_op op_add (pe_op op_mulW (pe_ix (r := rIxT K) ix_tup (pv 0) pe_int (fun _ _ => rfl)) (pe_ix (r := rIxT K) ix_tup (pv 1) pe_int (fun _ _ => rfl))) (pe_op op_mulW (pe_ix (r := rIxT K) ix_tup (pv 1) pe_int (fun _ _ => rfl)) (pe_ix (r := rIxT K) ix_tup (pv 0) pe_int (fun _ _ => rfl)))) (pa_cons (pe_op op_mulW (pe_ix (r := rIxT K) ix_tup (pv 0) pe_int (fun _ _ => rfl)) (pe_ix (r := rIxT K) ix_tup (pv 1) pe_int (fun _ _ => rfl))) pa_nil)))))), ?_⟩
    have L0 : Lo ⟨K, X, H, muts [.imm (enc (a_p : (T3 Int Int Int))), .imm (enc (a_step : (T3 Int Int Int)))], n_slid.length⟩ X H (L2.start n_slid vs) [.imm (enc (a_p : (T3 Int Int Int))), .imm (enc (a_step : (T3 Int Int Int)))] := c.start n_slid (show (2 : Nat) ≤ 2 by decide)
    unfold m_slid at hm
    exact x_ret (x_call (x_cons (x_op (x_op (x_op (x_vd (d := (enc (a_p : (T3 Int Int Int)))) L0 rfl fun v1 r1 => x_c (x_ixTI (x := a_p.a) r1 rfl (x_op (x_vd (d := (enc (a_step : (T3 Int Int Int)))) L0 rfl fun v2 r2 => x_c (x_ixTI (x := a_step.c) r2 rfl (x_mul hm fun z1 _ hm1 => x_op (x_op (x_vd (d := (enc (a_step : (T3 Int Int Int)))) L0 rfl fun v3 r3 => x_c (x_ixTI (x := a_step.a) r3 rfl (x_op (x_vd (d := (enc (a_p : (T3 Int Int Int)))) L0 rfl fun v4 r4 => x_c (x_ixTI (x := a_p.c) r4 rfl (x_mul hm1 fun z2 _ hm2 => x_r0 (x_cons (x_op (x_op (x_op (x_vd (d := (enc (a_p : (T3 Int Int Int)))) L0 rfl fun v5 r5 => x_c (x_ixTI (x := a_p.b) r5 rfl (x_op (x_vd (d := (enc (a_step : (T3 Int Int Int)))) L0 rfl fun v6 r6 => x_c (x_ixTI (x := a_step.c) r6 rfl (x_mul hm2 fun z3 _ hm3 => x_op (x_op (x_vd (d := (enc (a_step : (T3 Int Int Int)))) L0 rfl fun v7 r7 => x_c (x_ixTI (x := a_step.b) r7 rfl (x_op (x_vd (d := (enc (a_p : (T3 Int Int Int)))) L0 rfl fun v8 r8 => x_c (x_ixTI (x := a_p.c) r8 rfl (x_mul hm3 fun z4 _ hm4 => x_r0 (x_cons (x_op (x_op (x_vd (d := (enc (a_p : (T3 Int Int Int)))) L0 rfl fun v9 r9 => x_c (x_ixTI (x := a_p.c) r9 rfl (x_op (x_vd (d := (enc (a_step : (T3 Int Int Int)))) L0 rfl fun v10 r10 => x_c (x_ixTI (x := a_step.c) r10 rfl (x_mul hm4 fun z5 _ hm5 => x_nil (obE hm5 fun z6 hz1 hm6 => mk_point hz1 (L0.cond0 (.im (.int _) (.im (.int _) (.im (.int _) .nil))) rfl) fun v11 _ F1 => k0d L0 F1 fun L1 le1 r11 => x_fin (Q := Q) (ps := (fun (r : (T3 Int Int Int)) => [])) (rs := (fun (r : (T3 Int Int Int)) => (.imm (enc (r : (T3 Int Int Int)))))) (e := z6) hm6 kont (L1.fin hp0 r11))))))))))))))))))))))))))))))))))))))))))))))
abbrev sp_first_ring (K : PySem.W.Frag) : Sp := fun vs H Q _ => ∃ (X : Addr → Prop)  (a_piece : (T3 (List (T3 Int Int Int)) Bool (T3 Int Int Int))) (r : (List (T3 Int Int Int))), m_first_ring a_piece = some r ∧ Cond K X H [.imm (enc (a_piece : (T3 (List (T3 Int Int Int)) Bool (T3 Int Int Int))))] vs ∧ ∀ p H', Fin K X H [] [] (.new (ml (r : (List (T3 Int Int Int))))) (.ref p) H' → Q (.ref p) H'
theorem mk_first_ring {K : PySem.W.Frag} {X : Addr → Prop} {H : Hp} {vs : List V} {Q : VK} {E : XK}  {a_piece : (T3 (List (T3 Int Int Int)) Bool (T3 Int Int Int))} {r : (List (T3 Int Int Int))} (hm : m_first_ring a_piece = some r) (c : Cond K X H [.imm (enc (a_piece : (T3 (List (T3 Int Int Int)) Bool (T3 Int Int Int))))] vs) (k : ∀ p H', Fin K X H [] [] (.new (ml (r : (List (T3 Int Int Int))))) (.ref p) H' → Q (.ref p) H') : sp_first_ring K vs H Q E := ⟨X, a_piece, r, hm, c, k⟩
abbrev n_first_ring : List Str := ["piece", "ring", "flag", "step", "made", "p"]
theorem sc_first_ring : FnScope n_first_ring ["piece"] (defScope s_first_ring) := ⟨rfl, rfl, rfl, by decide +kernel, rfl, by decide +kernel, by decide +kernel⟩
theorem ok_first_ring (T : Txt K mg) : FnOk P w K mg base CX0 4 T.A_first_ring T.D_first_ring ["piece"] (sp_first_ring K) := by
  refine Fun.ok T.F_first_ring sc_first_ring (fun vs H Q E h => ?_) (fun cdv A outer s H vs Q E hr h => ?_)
  · obtain ⟨X, a_piece, r, hm, c, kont⟩ := h
    exact c.len
  · obtain ⟨X, a_piece, r, hm, c, kont⟩ := h
    refine ⟨_, (pss_cons (ps_asg (pv 0) (pg_tup rfl (pgs_cons (pg_name (i := 1) sc_first_ring.nd rfl (Or.inl rfl)) (pgs_cons (pg_name (i := 2) sc_first_ring.nd rfl (Or.inl rfl)) (pgs_cons (pg_name (i := 3) sc_first_ring.nd rfl (Or.inr rfl)) pgs_nil)))))
      (pss_cons (ps_setLc (i := 4) (own := [("p", 5)])  (g := gName 5) (tt := tYes) rfl sc_first_ring.nd rfl rfl (sw_true rfl rfl rfl (by decide +kernel)) (pi_list (pv 1)) (blkOk_by (N := n_first_ring) (sc := defScope s_first_ring) (by decide +kernel)) (fun _ _ _ _ _ => (pg_name (i := 5) sc_first_ring.nd rfl (Or.inl rfl))) (fun _ _ _ _ _ => pts_nil) (fun _ _ _ _ _ => (pe_call (ok_slid T) hr (by rfl) T.g_slid T.F_slid.kp T.b_slid .nil pass0 (pa_cons (pv 5) (pa_cons (pe_call (ok_turned T) (hr.mono (by decide)) (by rfl) T.g_turned T.F_turned.kp T.b_turned .nil pass0 (pa_cons (pv 3) pa_nil)) pa_nil)))))
      (pss_cons (ps_if (pt_val (pv 2)) (pss_one (ps_ret (pe_lc (own := [("p", 5)]) (g := gName 5) (tt := tYes) rfl sc_first_ring.nd (pi_list (pv 4)) (blkOk_by (N := n_first_ring) (sc := defScope s_first_ring) (by decide +kernel)) (fun _ _ _ _ _ => (pg_name (i := 5) sc_first_ring.nd rfl (Or.inl rfl))) (fun _ _ _ _ _ => pts_nil) (fun _ _ _ _ _ => (pe_call (ok_turned T) (hr.mono (by decide)) (by rfl) T.g_turned T.F_turned.kp T.b_turned .nil pass0 (pa_cons (pv 5) pa_nil)))))) pss_nil)
      (pss_one (ps_ret (pv 4)))))), ?_⟩
    have L0 : Lo ⟨K, X, H, muts [.imm (enc (a_piece : (T3 (List (T3 Int Int Int)) Bool (T3 Int Int Int))))], n_first_ring.length⟩ X H (L2.start n_first_ring vs) [.imm (enc (a_piece : (T3 (List (T3 Int Int Int)) Bool (T3 Int Int Int)))), .unk, .unk, .unk, .unk, .unk] := c.start n_first_ring (show (1 : Nat) ≤ 6 by decide)
    unfold m_first_ring at hm
    refine x_seq (x_asg (x_vd (d := (enc (a_piece : (T3 (List (T3 Int Int Int)) Bool (T3 Int Int Int))))) L0 rfl fun v1 r1 => x_gTup r1 rfl fun vs1 rs1 => x_gCons rs1 fun v2 _ r2 rs2 => x_set (d := (enc (a_piece.a : (List (T3 Int Int Int))))) (Γ' := [.imm (enc (a_piece : (T3 (List (T3 Int Int Int)) Bool (T3 Int Int Int)))), .imm (enc (a_piece.a : (List (T3 Int Int Int)))), .unk, .unk, .unk, .unk]) L0 r2 (show (1 : Nat) < 6 by decide) rfl fun _ L1 => x_gCons rs2 fun v3 _ r3 rs3 => x_set (d := (.bool a_piece.b)) (Γ' := [.imm (enc (a_piece : (T3 (List (T3 Int Int Int)) Bool (T3 Int Int Int)))), .imm (enc (a_piece.a : (List (T3 Int Int Int)))), .imm (.bool a_piece.b), .unk, .unk, .unk]) L1 r3 (show (2 : Nat) < 6 by decide) rfl fun _ L2 => x_gCons rs3 fun v4 _ r4 rs4 => x_set (d := (enc (a_piece.c : (T3 Int Int Int)))) (Γ' := [.imm (enc (a_piece : (T3 (List (T3 Int Int Int)) Bool (T3 Int Int Int)))), .imm (enc (a_piece.a : (List (T3 Int Int Int)))), .imm (.bool a_piece.b), .imm (enc (a_piece.c : (T3 Int Int Int))), .unk, .unk]) L2 r4 (show (3 : Nat) < 6 by decide) rfl fun _ L3 => x_gNil rs4 (?_)))
    refine x_seq (x_asg (x_lcl (x_vd (d := (enc (a_piece.a : (List (T3 Int Int Int))))) L3 rfl fun v5 r5 => obE hm fun _ hl1 hm1 => obE hm1 fun ys1 hy1 hm2 => x_lcLN (G := (fun (s1 : Unit) => [.imm (enc (a_piece : (T3 (List (T3 Int Int Int)) Bool (T3 Int Int Int)))), .imm (enc (a_piece.a : (List (T3 Int Int Int)))), .imm (.bool a_piece.b), .imm (enc (a_piece.c : (T3 Int Int Int))), .unk, .unk])) (s0 := ()) (xs := a_piece.a) L3 (fun _ _ => rfl) r5 (mapO_comp hy1) (lenOk_le hl1) (fun x1 s1 _ H1 _ u1 _ _ _ hF1 L4 r6 hn1 hy2 => obE hF1 fun y1 hm3 he1 => x_cName (d := (enc (x1 : (T3 Int Int Int)))) (Γ' := [.imm (enc (a_piece : (T3 (List (T3 Int Int Int)) Bool (T3 Int Int Int)))), .imm (enc (a_piece.a : (List (T3 Int Int Int)))), .imm (.bool a_piece.b), .imm (enc (a_piece.c : (T3 Int Int Int))), .unk, .imm (enc (x1 : (T3 Int Int Int)))]) L4 r6 (show (5 : Nat) < 6 by decide) rfl fun _ L5 => x_yes (x_call (x_cons (x_vd (d := (enc (x1 : (T3 Int Int Int)))) L5 rfl fun v6 r7 => x_cons (x_call (x_cons (x_vd (d := (enc (a_piece.c : (T3 Int Int Int)))) L5 rfl fun v7 r8 => x_nil (obE hm3 fun z1 hz2 hm4 => mk_turned hz2 (L5.cond0 (.im r8 .nil) rfl) fun v8 _ F1 => k0d L5 F1 fun L6 le1 r9 => have r10 := le1 _ _ r7; x_nil (obE hm4 fun z2 hz3 hm5 => mk_slid hz3 (L6.cond0 (.im r10 (.im r9 .nil)) rfl) fun v9 _ F2 => k0d L6 F2 fun L7 le2 r11 => x_cy (G := (fun (s1 : Unit) => [.imm (enc (a_piece : (T3 (List (T3 Int Int Int)) Bool (T3 Int Int Int)))), .imm (enc (a_piece.a : (List (T3 Int Int Int)))), .imm (.bool a_piece.b), .imm (enc (a_piece.c : (T3 Int Int Int))), .unk, .unk])) (s := s1) (s' := ()) (y := z2) (by cases hm5; cases he1; rfl) hy2 L4 L7 (.i rfl (.i rfl (.i rfl (.i rfl (.i rfl (.i rfl .e)))))) r11))))))))) fun p1 _ _ h01 hx1 L8 le3 => x_setN (Γ := [.imm (enc (a_piece : (T3 (List (T3 Int Int Int)) Bool (T3 Int Int Int)))), .imm (enc (a_piece.a : (List (T3 Int Int Int)))), .imm (.bool a_piece.b), .imm (enc (a_piece.c : (T3 Int Int Int))), .unk, .unk]) (p := p1) (o := (ml (ys1 : (List (T3 Int Int Int))))) (Γ' := [.imm (enc (a_piece : (T3 (List (T3 Int Int Int)) Bool (T3 Int Int Int)))), .imm (enc (a_piece.a : (List (T3 Int Int Int)))), .imm (.bool a_piece.b), .imm (enc (a_piece.c : (T3 Int Int Int))), .mu p1 (ml (ys1 : (List (T3 Int Int Int)))), .unk]) L8 (show (4 : Nat) < 6 by decide) (show (4 : Nat) < 6 by decide) rfl fun _ L10 => ?_)))
    refine x_seq (x_ifS (x_tB (x_vB (x := a_piece.b) L10 rfl (x_kb (x_if hm2 (fun hm6 => ?_) fun hm6 => ?_)))))
    · have L11 : Lo _ _ _ _ [.imm (enc (a_piece : (T3 (List (T3 Int Int Int)) Bool (T3 Int Int Int)))), .imm (enc (a_piece.a : (List (T3 Int Int Int)))), .imm (.bool a_piece.b), .imm (enc (a_piece.c : (T3 Int Int Int))), .imm (enc (ys1 : (List (T3 Int Int Int)))), .unk] := L10.freeze (i := 4) rfl hx1
      exact x_ret (x_lcl (x_vd (d := (enc (ys1 : (List (T3 Int Int Int))))) L11 rfl fun v10 r12 => obE hm6 fun _ hl2 hm7 => obE hm7 fun ys2 hy3 hm8 => x_lcLN (G := (fun (s2 : Unit) => [.imm (enc (a_piece : (T3 (List (T3 Int Int Int)) Bool (T3 Int Int Int)))), .imm (enc (a_piece.a : (List (T3 Int Int Int)))), .imm (.bool a_piece.b), .imm (enc (a_piece.c : (T3 Int Int Int))), .imm (enc (ys1 : (List (T3 Int Int Int)))), .unk])) (s0 := ()) (xs := ys1) L11 (fun _ _ => rfl) r12 (mapO_comp hy3) (lenOk_le hl2) (fun x2 s2 _ H2 _ u2 _ _ _ hF2 L12 r13 hn2 hy4 => obE hF2 fun y2 hm9 he2 => x_cName (d := (enc (x2 : (T3 Int Int Int)))) (Γ' := [.imm (enc (a_piece : (T3 (List (T3 Int Int Int)) Bool (T3 Int Int Int)))), .imm (enc (a_piece.a : (List (T3 Int Int Int)))), .imm (.bool a_piece.b), .imm (enc (a_piece.c : (T3 Int Int Int))), .imm (enc (ys1 : (List (T3 Int Int Int)))), .imm (enc (x2 : (T3 Int Int Int)))]) L12 r13 (show (5 : Nat) < 6 by decide) rfl fun _ L13 => x_yes (x_call (x_cons (x_vd (d := (enc (x2 : (T3 Int Int Int)))) L13 rfl fun v11 r14 => x_nil (obE hm9 fun z3 hz5 hm10 => mk_turned hz5 (L13.cond0 (.im r14 .nil) rfl) fun v12 _ F3 => k0d L13 F3 fun L14 le4 r15 => x_cy (G := (fun (s2 : Unit) => [.imm (enc (a_piece : (T3 (List (T3 Int Int Int)) Bool (T3 Int Int Int)))), .imm (enc (a_piece.a : (List (T3 Int Int Int)))), .imm (.bool a_piece.b), .imm (enc (a_piece.c : (T3 Int Int Int))), .imm (enc (ys1 : (List (T3 Int Int Int)))), .unk])) (s := s2) (s' := ()) (y := z3) (by cases hm10; cases he2; rfl) hy4 L12 L14 (.i rfl (.i rfl (.i rfl (.i rfl (.i rfl (.i rfl .e)))))) r15))))) fun p2 _ _ h02 hx2 L15 le5 => x_finP (Q := Q) (ps := (fun (r : (List (T3 Int Int Int))) => [])) (o := fun (r : (List (T3 Int Int Int))) => ml (r : (List (T3 Int Int Int)))) (e := ys2) hm8 kont (L15.finT (p := p2) (i := 6) (o := (ml (ys2 : (List (T3 Int Int Int))))) hp0 rfl h02)))
    · refine x_next ?_
      exact x_ret (x_vm L10 rfl (x_finP (Q := Q) (ps := (fun (r : (List (T3 Int Int Int))) => [])) (o := fun (r : (List (T3 Int Int Int))) => ml (r : (List (T3 Int Int Int)))) (e := ys1) hm6 kont (L10.finM (p := p1) (i := 4) hp0 rfl h01)))
abbrev sp__law_turned (K : PySem.W.Frag) : Sp := fun vs H Q _ => ∃ (X : Addr → Prop)  (a__law_p : (T3 Int Int Int)) (r : (T3 Int Int Int)), m__law_turned a__law_p = some r ∧ Cond K X H [.imm (enc (a__law_p : (T3 Int Int Int)))] vs ∧ ∀ v H', Fin K X H [] [] (.imm (enc (r : (T3 Int Int Int)))) v H' → Q v H'
theorem mk__law_turned {K : PySem.W.Frag} {X : Addr → Prop} {H : Hp} {vs : List V} {Q : VK} {E : XK}  {a__law_p : (T3 Int Int Int)} {r : (T3 Int Int Int)} (hm : m__law_turned a__law_p = some r) (c : Cond K X H [.imm (enc (a__law_p : (T3 Int Int Int)))] vs) (k : ∀ v H', Fin K X H [] [] (.imm (enc (r : (T3 Int Int Int)))) v H' → Q v H') : sp__law_turned K vs H Q E := ⟨X, a__law_p, r, hm, c, k⟩
abbrev n__law_turned : List Str := ["_law_p"]
theorem sc__law_turned : FnScope n__law_turned ["_law_p"] (defScope s__law_turned) := ⟨rfl, rfl, rfl, by decide +kernel, rfl, by decide +kernel, by decide +kernel⟩
theorem ok__law_turned (T : Txt K mg) : FnOk P w K mg base CX0 1 T.A__law_turned T.D__law_turned ["_law_p"] (sp__law_turned K) := by
  refine Fun.ok T.F__law_turned sc__law_turned (fun vs H Q E h => ?_) (fun cdv A outer s H vs Q E hr h => ?_)
  · obtain ⟨X, a__law_p, r, hm, c, kont⟩ := h
    exact c.len
  · obtain ⟨X, a__law_p, r, hm, c, kont⟩ := h
    refine ⟨_, (pss_one (ps_ret (pe_tup (pa_cons (pe_un un_neg (pe_ix (r := rIxT K) ix_tup (pv 0) pe_int (fun _ _ => rfl))) (pa_cons (pe_un un_neg (pe_ix (r := rIxT K) ix_tup (pv 0) pe_int (fun _ _ => rfl))) (pa_cons (pe_ix (r := rIxT K) ix_tup (pv 0) pe_int (fun _ _ => rfl)) pa_nil)))))), ?_⟩
    have L0 : Lo ⟨K, X, H, muts [.imm (enc (a__law_p : (T3 Int Int Int)))], n__law_turned.length⟩ X H (L2.start n__law_turned vs) [.imm (enc (a__law_p : (T3 Int Int Int)))] := c.start n__law_turned (show (1 : Nat) ≤ 1 by decide)
    unfold m__law_turned at hm
    exact x_ret (x_tup (x_cons (x_un (x_op (x_vd (d := (enc (a__law_p : (T3 Int Int Int)))) L0 rfl fun v1 r1 => x_c (x_ixTI (x := a__law_p.a) r1 rfl (x_u (x_cons (x_un (x_op (x_vd (d := (enc (a__law_p : (T3 Int Int Int)))) L0 rfl fun v2 r2 => x_c (x_ixTI (x := a__law_p.b) r2 rfl (x_u (x_cons (x_op (x_vd (d := (enc (a__law_p : (T3 Int Int Int)))) L0 rfl fun v3 r3 => x_c (x_ixTI (x := a__law_p.c) r3 rfl (x_nil (x_mkT L0 (.cons (.int _) (.cons (.int _) (.cons (.int _) .nil))) (show (3 : Nat) ≤ 16777216 by decide) fun v4 _ L1 le1 r4 => have r5 : Rep _ _ _ (enc ((T3.mk ((-a__law_p.a)) ((-a__law_p.b)) a__law_p.c) : (T3 Int Int Int))) v4 := r4; x_fin (Q := Q) (ps := (fun (r : (T3 Int Int Int)) => [])) (rs := (fun (r : (T3 Int Int Int)) => (.imm (enc (r : (T3 Int Int Int)))))) (e := (T3.mk ((-a__law_p.a)) ((-a__law_p.b)) a__law_p.c)) hm kont (L1.fin hp0 r5))))))))))))))))))))
abbrev sp_law (K : PySem.W.Frag) : Sp := fun vs H Q _ => ∃ (X : Addr → Prop)  (a__law_script : (List Int)) (r : Bool), m_law a__law_script = some r ∧ Cond K X H [.scr a__law_script] vs ∧ ∀ H', Fin K X H [] [] (.imm (.bool r)) (.bl r) H' → Q (.bl r) H'
theorem mk_law {K : PySem.W.Frag} {X : Addr → Prop} {H : Hp} {vs : List V} {Q : VK} {E : XK}  {a__law_script : (List Int)} {r : Bool} (hm : m_law a__law_script = some r) (c : Cond K X H [.scr a__law_script] vs) (k : ∀ H', Fin K X H [] [] (.imm (.bool r)) (.bl r) H' → Q (.bl r) H') : sp_law K vs H Q E := ⟨X, a__law_script, r, hm, c, k⟩
abbrev n_law : List Str := ["_law_script", "_law_sheet_here", "_law_cell_here", "_law_ring", "_law_flag", "_law_step_here", "_law_handed", "_law_again", "_law_found", "_law_lay", "_law_k", "_law_p"]
theorem sc_law : FnScope n_law ["_law_script"] (defScope s_law) := ⟨rfl, rfl, rfl, by decide +kernel, rfl, by decide +kernel, by decide +kernel⟩
theorem ok_law (T : Txt K mg) : FnOk P w K mg base CX0 6 T.A_law T.D_law ["_law_script"] (sp_law K) := by
  refine Fun.ok T.F_law sc_law (fun vs H Q E h => ?_) (fun cdv A outer s H vs Q E hr h => ?_)
  · obtain ⟨X, a__law_script, r, hm, c, kont⟩ := h
    exact c.len
  · obtain ⟨X, a__law_script, r, hm, c, kont⟩ := h
    refine ⟨_, (pss_cons (ps_set (i := 1) sc_law.nd rfl (Or.inl rfl) (pe_call (ok__law_sheet T) hr (by rfl) T.g__law_sheet T.F__law_sheet.kp T.b__law_sheet .nil pass0 (pa_cons (pe_call (ok__law_bag T) (hr.mono (by decide)) (by rfl) T.g__law_bag T.F__law_bag.kp T.b__law_bag .nil pass0 (pa_cons (pe_call (ok__law_cell T) (hr.mono (by decide)) (by rfl) T.g__law_cell T.F__law_cell.kp T.b__law_cell .nil pass0 (pa_cons (pv 0) (pa_cons pe_int pa_nil))) pa_nil)) (pa_cons pe_int (pa_cons pe_int pa_nil)))))
      (pss_cons (ps_for PassesOwn.never rfl (pi_list (pe_slice (r := rSlL K) sl_list (pv 0) (po_some pe_int) (po_some pe_int))) (pg_name (i := 2) sc_law.nd rfl (Or.inl rfl)) (pss_one (ps_set (i := 1) sc_law.nd rfl (Or.inl rfl) (pe_op op_catR (pv 1) (pe_call (ok__law_sheet T) hr (by rfl) T.g__law_sheet T.F__law_sheet.kp T.b__law_sheet .nil pass0 (pa_cons (pe_call (ok__law_bag T) (hr.mono (by decide)) (by rfl) T.g__law_bag T.F__law_bag.kp T.b__law_bag .nil pass0 (pa_cons (pv 2) pa_nil)) (pa_cons pe_int (pa_cons pe_int pa_nil))))))))
      (pss_cons (ps_for PassesOwn.never rfl (pi_list (pv 1)) (pg_tup rfl (pgs_cons (pg_name (i := 3) sc_law.nd rfl (Or.inl rfl)) (pgs_cons (pg_name (i := 4) sc_law.nd rfl (Or.inl rfl)) (pgs_cons (pg_name (i := 5) sc_law.nd rfl (Or.inl rfl)) pgs_nil)))) (pss_cons (ps_set (i := 6) sc_law.nd rfl (Or.inl rfl) (pe_callTy (r := rListX K) call_listX (by rfl) T.z_list (by decide +kernel) (pa_cons (pv 3) pa_nil)))
      (pss_cons (ps_for PassesOwn.never rfl (pi_range1 (by rfl) T.z_range (pa_cons pe_int pa_nil)) (pg_name (i := 7) sc_law.nd rfl (Or.inl rfl)) (pss_cons (ps_set (i := 8) sc_law.nd rfl (Or.inl rfl) (pe_call (ok_fresh T) (hr.mono (by decide)) (by rfl) T.g_fresh T.F_fresh.kp T.b_fresh .nil pass0 (pa_cons (pv 6) pa_nil)))
      (pss_cons (ps_if (PW.pt (pw_or (pt_cmpR (r := rNeD K) (op_neD hr.units) (pv 6) (pv 3) (nomark _)) (pw_or (pt_not (pt_val (pe_call (ok__law_is_sheet T) (hr.mono (by decide)) (by rfl) T.g__law_is_sheet T.F__law_is_sheet.kp T.b__law_is_sheet .nil pass0 (pa_cons (pe_lst (pa_cons (pv 8) pa_nil)) pa_nil)))) (pw_or1 (pt_cmpR (r := rNeD K) (op_neD hr.units) (pv 8) (pe_tup (pa_cons (pv 3) (pa_cons pe_bl (pa_cons (pe_tup (pa_cons pe_int (pa_cons pe_int (pa_cons pe_int pa_nil)))) pa_nil)))) (nomark _)))))) (pss_one (ps_ret pe_bl)) pss_nil)
      (pss_one (ps_expr (pe_bm0 PySem.F.plainAttrs_list PySem.F.slot_list_clear PySem.F.type_list_clear mt_clear (pe_ix (r := rIxT K) ix_tup (pv 8) pe_int (fun _ _ => rfl))))))))
      (pss_one (ps_for PassesOwn.never rfl (pi_range1 (by rfl) T.z_range (pa_cons pe_int pa_nil)) (pg_name (i := 7) sc_law.nd rfl (Or.inl rfl)) (pss_cons (ps_set (i := 9) sc_law.nd rfl (Or.inl rfl) (pe_call (ok_first_ring T) (hr.mono (by decide)) (by rfl) T.g_first_ring T.F_first_ring.kp T.b_first_ring .nil pass0 (pa_cons (pe_tup (pa_cons (pv 6) (pa_cons (pv 4) (pa_cons (pv 5) pa_nil)))) pa_nil)))
      (pss_cons (ps_if (PW.pt (pw_or (pt_not (pt_val (pe_callB (r := rIsi K) call_isi (by rfl) T.z_isinstance (by decide +kernel) (pa_cons (pv 9) (pa_cons (pe_bltn (v := .ty "list") (u := .type "list") (by rfl) T.z_list (by decide +kernel) rfl) pa_nil))))) (pw_or (pt_cmpR op_ne (pe_callB (r := rLenX K) call_lenX (by rfl) T.z_len (by decide +kernel) (pa_cons (pv 9) pa_nil)) (pe_callB (r := rLenX K) call_lenX (by rfl) T.z_len (by decide +kernel) (pa_cons (pv 3) pa_nil)) (nomark _)) (pw_or1 (pt_cmpR (r := rNeD K) (op_neD hr.units) (pv 6) (pv 3) (nomark _)))))) (pss_one (ps_ret pe_bl)) pss_nil)
      (pss_cons (ps_for PassesOwn.never rfl (pi_range1 (by rfl) T.z_range (pa_cons (pe_callB (r := rLenX K) call_lenX (by rfl) T.z_len (by decide +kernel) (pa_cons (pv 3) pa_nil)) pa_nil)) (pg_name (i := 10) sc_law.nd rfl (Or.inl rfl)) (pss_cons (ps_set (i := 11) sc_law.nd rfl (Or.inl rfl) (pe_ix (r := rIxL K) ix_list (pv 9) (pv 10) (fun _ _ => rfl)))
      (pss_cons (ps_if (pt_not (pt_val (pe_call (ok__law_is_point T) (hr.mono (by decide)) (by rfl) T.g__law_is_point T.F__law_is_point.kp T.b__law_is_point .nil pass0 (pa_cons (pv 11) pa_nil)))) (pss_one (ps_ret pe_bl)) pss_nil)
      (pss_cons (ps_if (pt_val (pv 4)) (pss_one (ps_set (i := 11) sc_law.nd rfl (Or.inl rfl) (pe_call (ok__law_turned T) (hr.mono (by decide)) (by rfl) T.g__law_turned T.F__law_turned.kp T.b__law_turned .nil pass0 (pa_cons (pv 11) pa_nil)))) pss_nil)
      (pss_one (ps_if (pt_cmpR (r := rNeD K) (op_neD hr.units) (pe_call (ok__law_slid T) (hr.mono (by decide)) (by rfl) T.g__law_slid T.F__law_slid.kp T.b__law_slid .nil pass0 (pa_cons (pv 11) (pa_cons (pv 5) pa_nil))) (pe_ix (r := rIxL K) ix_list (pv 3) (pv 10) (fun _ _ => rfl)) (nomark _)) (pss_one (ps_ret pe_bl)) pss_nil))))))
      (pss_one (ps_expr (pe_bm0 PySem.F.plainAttrs_list PySem.F.slot_list_clear PySem.F.type_list_clear mt_clear (pv 9))))))))))))
      (pss_one (ps_ret pe_bl))))), ?_⟩
    have L0 : Lo ⟨K, X, H, muts [.scr a__law_script], n_law.length⟩ X H (L2.start n_law vs) [.scr a__law_script, .unk, .unk, .unk, .unk, .unk, .unk, .unk, .unk, .unk, .unk, .unk] := c.start n_law (show (1 : Nat) ≤ 12 by decide)
    unfold m_law at hm
    refine x_seq (x_asg (x_call (x_cons (x_call (x_cons (x_call (x_cons (x_vscr L0 rfl fun v1 r1 => x_cons (x_c (x_nil (obE hm fun z1 hz1 hm1 => mk__law_cell hz1 (L0.cond0 (.s r1 (.im (.int _) .nil)) rfl) fun _ F1 => k0 L0 F1 fun L1 le1 => x_nil (obE hm1 fun z2 hz2 hm2 => mk__law_bag hz2 (L1.cond0 (.im (.int _) .nil) rfl) fun p1 _ F2 => k0N L1 F2 fun _ h01 hx1 L2 le2 => x_cons (x_c (x_cons (x_c (x_nil (obE hm2 fun z3 hz3 hm3 => mk__law_sheet hz3 (L2.cond1 (i := 12) (.m (L2.tmp (i := 12) rfl) (.im (.int _) (.im (.int _) .nil))) rfl rfl rfl) fun p2 _ F3 => k1i L2 F3 (i := 12) (Γ' := [.scr a__law_script, .unk, .unk, .unk, .unk, .unk, .unk, .unk, .unk, .unk, .unk, .unk, .tmp p1 (ml (z3.2 : (List Int)))]) rfl rfl rfl fun L3 le3 r3 => have r4 : Rep _ _ _ (enc (z3.1 : (List (T3 (List (T3 Int Int Int)) Bool (T3 Int Int Int))))) (.ref p2) := r3; x_set (d := (enc (z3.1 : (List (T3 (List (T3 Int Int Int)) Bool (T3 Int Int Int)))))) (Γ' := [.scr a__law_script, .imm (enc (z3.1 : (List (T3 (List (T3 Int Int Int)) Bool (T3 Int Int Int))))), .unk, .unk, .unk, .unk, .unk, .unk, .unk, .unk, .unk, .unk, .tmp p1 (ml (z3.2 : (List Int)))]) L3 r4 (show (1 : Nat) < 12 by decide) rfl fun _ L4 => ?_)))))))))))))))))
    have L5 := L4.weak (Γ' := [.scr a__law_script, .imm (enc (z3.1 : (List (T3 (List (T3 Int Int Int)) Bool (T3 Int Int Int))))), .unk, .unk, .unk, .unk, .unk, .unk, .unk, .unk, .unk, .unk]) (.k (.k (.k (.k (.k (.k (.k (.k (.k (.k (.k (.k .e))))))))))))
    refine x_seq (x_tforL (x_sl (x_vscr L5 rfl fun v3 r5 => x_part (x_c (x_partK (x_part (x_c (x_partK (x_slS L5 r5 fun v4 _ L6 le4 r6 => have r7 : Rep _ _ _ (enc ((slice a__law_script (some 1) (some 6)) : (List Int))) v4 := r6; x_foL (G := (fun (s1 : (List (T3 (List (T3 Int Int Int)) Bool (T3 Int Int Int)))) => [.scr a__law_script, .imm (enc (s1 : (List (T3 (List (T3 Int Int Int)) Bool (T3 Int Int Int))))), .unk, .unk, .unk, .unk, .unk, .unk, .unk, .unk, .unk, .unk])) (s0 := z3.1) (xs := (slice a__law_script (some 1) (some 6))) (L6.weak (Γ' := [.scr a__law_script, .imm (enc (z3.1 : (List (T3 (List (T3 Int Int Int)) Bool (T3 Int Int Int))))), .unk, .unk, .unk, .unk, .unk, .unk, .unk, .unk, .unk, .unk]) (.k (.k (.k (.k (.k (.k (.k (.k (.k (.k (.k (.k .e))))))))))))) (fun _ _ => rfl) r7 hm3 (fun x1 s1 H1 _ u1 _ _ _ _ _ hm4 L7 r8 hN1 hC1 => ?_) (fun s2 _ _ hm5 L8 => ?_))))))))))
    · refine x_set (d := (.int x1)) (Γ' := [.scr a__law_script, .imm (enc (s1 : (List (T3 (List (T3 Int Int Int)) Bool (T3 Int Int Int))))), .imm (.int x1), .unk, .unk, .unk, .unk, .unk, .unk, .unk, .unk, .unk]) L7 r8 (show (2 : Nat) < 12 by decide) rfl fun _ L9 => ?_
      refine x_asg (x_op (x_vd (d := (enc (s1 : (List (T3 (List (T3 Int Int Int)) Bool (T3 Int Int Int)))))) L9 rfl fun v5 r9 => x_call (x_cons (x_call (x_cons (x_vI (x := x1) L9 rfl (x_nil (obE hm4 fun z4 hz4 hm7 => mk__law_bag hz4 (L9.cond0 (.im (.int _) .nil) rfl) fun p3 _ F5 => k0N L9 F5 fun _ h02 hx2 L10 le5 => have r11 := le5 _ _ r9; x_cons (x_c (x_cons (x_c (x_nil (obE hm7 fun z5 hz5 hm8 => mk__law_sheet hz5 (L10.cond1 (i := 12) (.m (L10.tmp (i := 12) rfl) (.im (.int _) (.im (.int _) .nil))) rfl rfl rfl) fun p4 _ F6 => k1i L10 F6 (i := 12) (Γ' := [.scr a__law_script, .imm (enc (s1 : (List (T3 (List (T3 Int Int Int)) Bool (T3 Int Int Int))))), .imm (.int x1), .unk, .unk, .unk, .unk, .unk, .unk, .unk, .unk, .unk, .tmp p3 (ml (z5.2 : (List Int)))]) rfl rfl rfl fun L11 le6 r12 => have r13 := le6 _ _ r11; have r14 : Rep _ _ _ (enc (z5.1 : (List (T3 (List (T3 Int Int Int)) Bool (T3 Int Int Int))))) (.ref p4) := r12; x_cat L11 hm8 r13 r14 fun v6 _ hm9 L12 le7 r15 => have r16 : Rep _ _ _ (enc ((s1 ++ z5.1) : (List (T3 (List (T3 Int Int Int)) Bool (T3 Int Int Int))))) v6 := r15; x_bset (x0 := (s1 ++ z5.1)) (d := fun sheet_here_1 => (enc (sheet_here_1 : (List (T3 (List (T3 Int Int Int)) Bool (T3 Int Int Int)))))) (Γf := fun sheet_here_1 => [.scr a__law_script, .imm (enc (sheet_here_1 : (List (T3 (List (T3 Int Int Int)) Bool (T3 Int Int Int))))), .imm (.int x1), .unk, .unk, .unk, .unk, .unk, .unk, .unk, .unk, .unk, .tmp p3 (ml (z5.2 : (List Int)))]) hm9 L12 r16 (show (1 : Nat) < 12 by decide) (fun _ => rfl) fun sheet_here_1 _ hm10 L13 => ?_)))))))))))))
      have L14 := L13.weak (Γ' := [.scr a__law_script, .imm (enc (sheet_here_1 : (List (T3 (List (T3 Int Int Int)) Bool (T3 Int Int Int))))), .imm (.int x1), .unk, .unk, .unk, .unk, .unk, .unk, .unk, .unk, .unk]) (.k (.k (.k (.k (.k (.k (.k (.k (.k (.k (.k (.k .e))))))))))))
      exact x_leaf (G := (fun (s1 : (List (T3 (List (T3 Int Int Int)) Bool (T3 Int Int Int)))) => [.scr a__law_script, .imm (enc (s1 : (List (T3 (List (T3 Int Int Int)) Bool (T3 Int Int Int))))), .unk, .unk, .unk, .unk, .unk, .unk, .unk, .unk, .unk, .unk])) (e := sheet_here_1) hm10 hN1 (L14.weak (Γ' := [.scr a__law_script, .imm (enc (sheet_here_1 : (List (T3 (List (T3 Int Int Int)) Bool (T3 Int Int Int))))), .unk, .unk, .unk, .unk, .unk, .unk, .unk, .unk, .unk, .unk]) (.k (.k (.d (.k (.k (.k (.k (.k (.k (.k (.k (.k .e)))))))))))))
    have L15 := L8.weak (Γ' := [.unk, .imm (enc (s2 : (List (T3 (List (T3 Int Int Int)) Bool (T3 Int Int Int))))), .unk, .unk, .unk, .unk, .unk, .unk, .unk, .unk, .unk, .unk]) (.d (.k (.k (.k (.k (.k (.k (.k (.k (.k (.k (.k .e))))))))))))
    refine x_seq (x_tforL (x_vd (d := (enc (s2 : (List (T3 (List (T3 Int Int Int)) Bool (T3 Int Int Int)))))) L15 rfl fun v7 r17 => x_flL (G := (fun (s3 : Unit) => [.unk, .imm (enc (s2 : (List (T3 (List (T3 Int Int Int)) Bool (T3 Int Int Int))))), .unk, .unk, .unk, .unk, .unk, .unk, .unk, .unk, .unk, .unk])) (s0 := ()) (xs := s2) (ps := (fun (r : Bool) => [])) (rs := (fun (r : Bool) => (.imm (.bool r)))) (L15.weak (Γ' := [.unk, .imm (enc (s2 : (List (T3 (List (T3 Int Int Int)) Bool (T3 Int Int Int))))), .unk, .unk, .unk, .unk, .unk, .unk, .unk, .unk, .unk, .unk]) (.k (.k (.k (.k (.k (.k (.k (.k (.k (.k (.k (.k .e))))))))))))) (fun _ _ => rfl) r17 hm5 (fun x2 s3 H2 _ u2 _ _ _ _ _ hm11 L16 r18 hN2 hC2 hB2 hR2 => ?_) (fun s4 _ _ hm12 L17 => ?_) (fun _ _ _ hm13 F7 => x_finRB (Q := Q) (ps := (fun (r : Bool) => [])) (sc := fun (r : Bool) => r) hm13 kont F7)))
    · refine x_gTup r18 rfl fun vs1 rs1 => x_gCons rs1 fun v8 _ r19 rs2 => x_set (d := (enc (x2.a : (List (T3 Int Int Int))))) (Γ' := [.unk, .imm (enc (s2 : (List (T3 (List (T3 Int Int Int)) Bool (T3 Int Int Int))))), .unk, .imm (enc (x2.a : (List (T3 Int Int Int)))), .unk, .unk, .unk, .unk, .unk, .unk, .unk, .unk]) L16 r19 (show (3 : Nat) < 12 by decide) rfl fun _ L18 => x_gCons rs2 fun v9 _ r20 rs3 => x_set (d := (.bool x2.b)) (Γ' := [.unk, .imm (enc (s2 : (List (T3 (List (T3 Int Int Int)) Bool (T3 Int Int Int))))), .unk, .imm (enc (x2.a : (List (T3 Int Int Int)))), .imm (.bool x2.b), .unk, .unk, .unk, .unk, .unk, .unk, .unk]) L18 r20 (show (4 : Nat) < 12 by decide) rfl fun _ L19 => x_gCons rs3 fun v10 _ r21 rs4 => x_set (d := (enc (x2.c : (T3 Int Int Int)))) (Γ' := [.unk, .imm (enc (s2 : (List (T3 (List (T3 Int Int Int)) Bool (T3 Int Int Int))))), .unk, .imm (enc (x2.a : (List (T3 Int Int Int)))), .imm (.bool x2.b), .imm (enc (x2.c : (T3 Int Int Int))), .unk, .unk, .unk, .unk, .unk, .unk]) L19 r21 (show (5 : Nat) < 12 by decide) rfl fun _ L20 => x_gNil rs4 (?_)
      refine x_seq (x_asg (x_cb (x_cons (x_vd (d := (enc (x2.a : (List (T3 Int Int Int))))) L20 rfl fun v11 r22 => x_nil (x_listL (xs := x2.a) L20 r22 fun v12 _ L21 le8 r23 => have r24 : Rep _ _ _ (enc (x2.a : (List (T3 Int Int Int)))) v12 := r23; x_set (d := (enc (x2.a : (List (T3 Int Int Int))))) (Γ' := [.unk, .imm (enc (s2 : (List (T3 (List (T3 Int Int Int)) Bool (T3 Int Int Int))))), .unk, .imm (enc (x2.a : (List (T3 Int Int Int)))), .imm (.bool x2.b), .imm (enc (x2.c : (T3 Int Int Int))), .imm (enc (x2.a : (List (T3 Int Int Int)))), .unk, .unk, .unk, .unk, .unk]) L21 r24 (show (6 : Nat) < 12 by decide) rfl fun _ L22 => ?_)))))
      refine x_seq (x_tforR1 (x_cons (x_c (x_nil (x_r1c (n := 2) (by decide) (x_flR (G := (fun (s5 : Unit) => [.unk, .imm (enc (s2 : (List (T3 (List (T3 Int Int Int)) Bool (T3 Int Int Int))))), .unk, .imm (enc (x2.a : (List (T3 Int Int Int)))), .imm (.bool x2.b), .imm (enc (x2.c : (T3 Int Int Int))), .imm (enc (x2.a : (List (T3 Int Int Int)))), .unk, .unk, .unk, .unk, .unk])) (s0 := ()) (ps := (fun (r : Bool) => [])) (rs := (fun (r : Bool) => (.imm (.bool r)))) (L22.weak (Γ' := [.unk, .imm (enc (s2 : (List (T3 (List (T3 Int Int Int)) Bool (T3 Int Int Int))))), .unk, .imm (enc (x2.a : (List (T3 Int Int Int)))), .imm (.bool x2.b), .imm (enc (x2.c : (T3 Int Int Int))), .imm (enc (x2.a : (List (T3 Int Int Int)))), .unk, .unk, .unk, .unk, .unk]) (.k (.k (.k (.k (.k (.k (.k (.k (.k (.k (.k (.k .e))))))))))))) (fun _ _ => rfl) hm11 (fun x3 s5 H3 _ u3 _ _ _ _ _ hm14 L23 r25 hN3 hC3 hB3 hR3 => ?_) (fun s6 _ _ hm15 L24 => ?_) (fun _ _ _ hm16 F8 => x_leafR (ps := (fun (r : Bool) => [])) (rs := (fun (r : Bool) => (.imm (.bool r)))) hm16 hR2 F8)))))))
      · refine x_set (d := (.int x3)) (Γ' := [.unk, .imm (enc (s2 : (List (T3 (List (T3 Int Int Int)) Bool (T3 Int Int Int))))), .unk, .imm (enc (x2.a : (List (T3 Int Int Int)))), .imm (.bool x2.b), .imm (enc (x2.c : (T3 Int Int Int))), .imm (enc (x2.a : (List (T3 Int Int Int)))), .imm (.int x3), .unk, .unk, .unk, .unk]) L23 r25 (show (7 : Nat) < 12 by decide) rfl fun _ L25 => ?_
        obtain ⟨Zn1, hn1, hZ1⟩ := L25.mark
        have L26 : Lo _ _ _ _ [.unk, .fix (fun b => ¬ Zn1 b) (enc (s2 : (List (T3 (List (T3 Int Int Int)) Bool (T3 Int Int Int))))), .unk, .imm (enc (x2.a : (List (T3 Int Int Int)))), .imm (.bool x2.b), .imm (enc (x2.c : (T3 Int Int Int))), .imm (enc (x2.a : (List (T3 Int Int Int)))), .imm (.int x3), .unk, .unk, .unk, .unk] := L25.fix hn1 (i := 1) rfl
        have L27 : Lo _ _ _ _ [.unk, .fix (fun b => ¬ Zn1 b) (enc (s2 : (List (T3 (List (T3 Int Int Int)) Bool (T3 Int Int Int))))), .unk, .fix (fun b => ¬ Zn1 b) (enc (x2.a : (List (T3 Int Int Int)))), .imm (.bool x2.b), .imm (enc (x2.c : (T3 Int Int Int))), .imm (enc (x2.a : (List (T3 Int Int Int)))), .imm (.int x3), .unk, .unk, .unk, .unk] := L26.fix hn1 (i := 3) rfl
        have L28 : Lo _ _ _ _ [.unk, .fix (fun b => ¬ Zn1 b) (enc (s2 : (List (T3 (List (T3 Int Int Int)) Bool (T3 Int Int Int))))), .unk, .fix (fun b => ¬ Zn1 b) (enc (x2.a : (List (T3 Int Int Int)))), .imm (.bool x2.b), .fix (fun b => ¬ Zn1 b) (enc (x2.c : (T3 Int Int Int))), .imm (enc (x2.a : (List (T3 Int Int Int)))), .imm (.int x3), .unk, .unk, .unk, .unk] := L27.fix hn1 (i := 5) rfl
        have L29 : Lo _ _ _ _ [.unk, .fix (fun b => ¬ Zn1 b) (enc (s2 : (List (T3 (List (T3 Int Int Int)) Bool (T3 Int Int Int))))), .unk, .fix (fun b => ¬ Zn1 b) (enc (x2.a : (List (T3 Int Int Int)))), .imm (.bool x2.b), .fix (fun b => ¬ Zn1 b) (enc (x2.c : (T3 Int Int Int))), .fix (fun b => ¬ Zn1 b) (enc (x2.a : (List (T3 Int Int Int)))), .imm (.int x3), .unk, .unk, .unk, .unk] := L28.fix hn1 (i := 6) rfl
        refine x_seq (x_asg (x_call (x_cons (x_vfx (d := (enc (x2.a : (List (T3 Int Int Int))))) L29 rfl fun v13 r26 => x_nil (obE hm14 fun z6 hz6 hm17 => mk_fresh hz6 (L29.cond0 (.im r26 .nil) rfl) fun v14 _ F9 => k0dN hn1 L29 F9 fun L30 le9 r27 => x_setZ (d := (enc (z6 : (T3 (List (T3 Int Int Int)) Bool (T3 Int Int Int))))) (Γ' := [.unk, .fix (fun b => ¬ Zn1 b) (enc (s2 : (List (T3 (List (T3 Int Int Int)) Bool (T3 Int Int Int))))), .unk, .fix (fun b => ¬ Zn1 b) (enc (x2.a : (List (T3 Int Int Int)))), .imm (.bool x2.b), .fix (fun b => ¬ Zn1 b) (enc (x2.c : (T3 Int Int Int))), .fix (fun b => ¬ Zn1 b) (enc (x2.a : (List (T3 Int Int Int)))), .imm (.int x3), .fixN Zn1 (enc (z6 : (T3 (List (T3 Int Int Int)) Bool (T3 Int Int Int)))), .unk, .unk, .unk]) L30 r27 (show (8 : Nat) < 12 by decide) rfl fun _ L31 => ?_)))))
        refine x_seq (x_ifS (x_or (x_test (x_op (x_vfx (d := (enc (x2.a : (List (T3 Int Int Int))))) L31 rfl fun v15 r28 => x_vfx (d := (enc (x2.a : (List (T3 Int Int Int))))) L31 rfl fun v16 r29 => x_ned (x := x2.a) (y := x2.a) r28.dp r29.dp (by decide) (x_kb (x_orB L31 hm17 (fun _ hm21 _ hq => x_or (x_not (x_tB (x_call (x_cons (x_lst (x_cons (x_vfn (d := (enc (z6 : (T3 (List (T3 Int Int Int)) Bool (T3 Int Int Int))))) L31 rfl fun v28 r51 => x_nil (x_mkL L31 (.cons r51 .nil) (show (1 : Nat) ≤ 16777216 by decide) fun v29 _ L39 le16 r52 => have r53 : Rep _ _ _ (enc ([z6] : (List (T3 (List (T3 Int Int Int)) Bool (T3 Int Int Int))))) v29 := r52; x_nil (obE hm21 fun z8 hz8 hm22 => mk__law_is_sheet hz8 (L39.cond0 (.im r53 .nil) rfl) fun _ F11 => k0 L39 F11 fun L40 le17 => x_kb (x_kn (x_orB L40 hm22 (fun _ hm23 _ hq => x_test (x_op (x_vfn (d := (enc (z6 : (T3 (List (T3 Int Int Int)) Bool (T3 Int Int Int))))) L40 rfl fun v35 r63 => x_tup (x_cons (x_vfx (d := (enc (x2.a : (List (T3 Int Int Int))))) L40 rfl fun v36 r64 => x_cons (x_c (x_cons (x_tup (x_cons (x_c (x_cons (x_c (x_cons (x_c (x_nil (x_mkT L40 (.cons (.int _) (.cons (.int _) (.cons (.int _) .nil))) (show (3 : Nat) ≤ 16777216 by decide) fun v37 _ L43 le20 r65 => have r66 := le20 _ _ r63; have r67 := le20 _ _ r64; have r68 : Rep _ _ _ (enc ((T3.mk 0 0 1) : (T3 Int Int Int))) v37 := r65; x_nil (x_mkT L43 (.cons r67 (.cons (.bl _) (.cons r68 .nil))) (show (3 : Nat) ≤ 16777216 by decide) fun v38 _ L44 le21 r69 => have r70 := le21 _ _ r66; have r71 : Rep _ _ _ (enc ((T3.mk x2.a false ((T3.mk 0 0 1))) : (T3 (List (T3 Int Int Int)) Bool (T3 Int Int Int)))) v38 := r69; x_ned (x := z6) (y := (T3.mk x2.a false ((T3.mk 0 0 1)))) r70.dp r71.dp (by decide) (x_kb (x_lfT hm23 hq L44))))))))))))))))))) fun b2 _ hm24 L45 => x_lfT hm24 hq L45)))))))))))) fun b3 _ hm25 L46 => x_if hm25 (fun hm26 => ?_) fun hm26 => ?_)))))))
        · exact x_ret (x_c (x_leafR (ps := (fun (r : Bool) => [])) (rs := (fun (r : Bool) => (.imm (.bool r)))) (e := false) hm26 hR3 (L46.fin hp0 (.bl _))))
        · refine x_next ?_
          refine x_dclr1 (z := z6) (i := 8) (Γ' := [.unk, .fix (fun b => ¬ Zn1 b) (enc (s2 : (List (T3 (List (T3 Int Int Int)) Bool (T3 Int Int Int))))), .unk, .fix (fun b => ¬ Zn1 b) (enc (x2.a : (List (T3 Int Int Int)))), .imm (.bool x2.b), .fix (fun b => ¬ Zn1 b) (enc (x2.c : (T3 Int Int Int))), .fix (fun b => ¬ Zn1 b) (enc (x2.a : (List (T3 Int Int Int)))), .imm (.int x3), .unk, .unk, .unk, .unk]) L46 hZ1 rfl (List.forall_mem_cons.mpr ⟨trivial, (List.forall_mem_cons.mpr ⟨(fun _ h => h), (List.forall_mem_cons.mpr ⟨trivial, (List.forall_mem_cons.mpr ⟨(fun _ h => h), (List.forall_mem_cons.mpr ⟨OldS.B, (List.forall_mem_cons.mpr ⟨(fun _ h => h), (List.forall_mem_cons.mpr ⟨(fun _ h => h), (List.forall_mem_cons.mpr ⟨OldS.I, (List.forall_mem_cons.mpr ⟨trivial, (List.forall_mem_cons.mpr ⟨trivial, (List.forall_mem_cons.mpr ⟨trivial, (List.forall_mem_cons.mpr ⟨trivial, (fun _ h => nomatch h)⟩)⟩)⟩)⟩)⟩)⟩)⟩)⟩)⟩)⟩)⟩)⟩) rfl fun _ L47 => have L48 : Lo _ _ _ _ [.unk, .fix (fun b => ¬ Zn1 b) (enc (s2 : (List (T3 (List (T3 Int Int Int)) Bool (T3 Int Int Int))))), .unk, .fix (fun b => ¬ Zn1 b) (enc (x2.a : (List (T3 Int Int Int)))), .imm (.bool x2.b), .fix (fun b => ¬ Zn1 b) (enc (x2.c : (T3 Int Int Int))), .fix (fun b => ¬ Zn1 b) (enc (x2.a : (List (T3 Int Int Int)))), .imm (.int x3), .unk, .unk, .unk, .unk] := L47; have L49 : Lo _ _ _ _ [.unk, .imm (enc (s2 : (List (T3 (List (T3 Int Int Int)) Bool (T3 Int Int Int))))), .unk, .fix (fun b => ¬ Zn1 b) (enc (x2.a : (List (T3 Int Int Int)))), .imm (.bool x2.b), .fix (fun b => ¬ Zn1 b) (enc (x2.c : (T3 Int Int Int))), .fix (fun b => ¬ Zn1 b) (enc (x2.a : (List (T3 Int Int Int)))), .imm (.int x3), .unk, .unk, .unk, .unk] := L48.unfix (i := 1) rfl; have L50 : Lo _ _ _ _ [.unk, .imm (enc (s2 : (List (T3 (List (T3 Int Int Int)) Bool (T3 Int Int Int))))), .unk, .imm (enc (x2.a : (List (T3 Int Int Int)))), .imm (.bool x2.b), .fix (fun b => ¬ Zn1 b) (enc (x2.c : (T3 Int Int Int))), .fix (fun b => ¬ Zn1 b) (enc (x2.a : (List (T3 Int Int Int)))), .imm (.int x3), .unk, .unk, .unk, .unk] := L49.unfix (i := 3) rfl; have L51 : Lo _ _ _ _ [.unk, .imm (enc (s2 : (List (T3 (List (T3 Int Int Int)) Bool (T3 Int Int Int))))), .unk, .imm (enc (x2.a : (List (T3 Int Int Int)))), .imm (.bool x2.b), .imm (enc (x2.c : (T3 Int Int Int))), .fix (fun b => ¬ Zn1 b) (enc (x2.a : (List (T3 Int Int Int)))), .imm (.int x3), .unk, .unk, .unk, .unk] := L50.unfix (i := 5) rfl; have L52 : Lo _ _ _ _ [.unk, .imm (enc (s2 : (List (T3 (List (T3 Int Int Int)) Bool (T3 Int Int Int))))), .unk, .imm (enc (x2.a : (List (T3 Int Int Int)))), .imm (.bool x2.b), .imm (enc (x2.c : (T3 Int Int Int))), .imm (enc (x2.a : (List (T3 Int Int Int)))), .imm (.int x3), .unk, .unk, .unk, .unk] := L51.unfix (i := 6) rfl; ?_
          exact x_leafN (G := (fun (s5 : Unit) => [.unk, .imm (enc (s2 : (List (T3 (List (T3 Int Int Int)) Bool (T3 Int Int Int))))), .unk, .imm (enc (x2.a : (List (T3 Int Int Int)))), .imm (.bool x2.b), .imm (enc (x2.c : (T3 Int Int Int))), .imm (enc (x2.a : (List (T3 Int Int Int)))), .unk, .unk, .unk, .unk, .unk])) (e := ()) hm26 hN3 (L52.weak (Γ' := [.unk, .imm (enc (s2 : (List (T3 (List (T3 Int Int Int)) Bool (T3 Int Int Int))))), .unk, .imm (enc (x2.a : (List (T3 Int Int Int)))), .imm (.bool x2.b), .imm (enc (x2.c : (T3 Int Int Int))), .imm (enc (x2.a : (List (T3 Int Int Int)))), .unk, .unk, .unk, .unk, .unk]) (.k (.k (.k (.k (.k (.k (.k (.d (.k (.k (.k (.k .e)))))))))))))
      refine x_tforR1 (x_cons (x_c (x_nil (x_r1c (n := 2) (by decide) (x_flR (G := (fun (s7 : Unit) => [.unk, .imm (enc (s2 : (List (T3 (List (T3 Int Int Int)) Bool (T3 Int Int Int))))), .unk, .imm (enc (x2.a : (List (T3 Int Int Int)))), .imm (.bool x2.b), .imm (enc (x2.c : (T3 Int Int Int))), .imm (enc (x2.a : (List (T3 Int Int Int)))), .unk, .unk, .unk, .unk, .unk])) (s0 := ()) (ps := (fun (r : Bool) => [])) (rs := (fun (r : Bool) => (.imm (.bool r)))) (L24.weak (Γ' := [.unk, .imm (enc (s2 : (List (T3 (List (T3 Int Int Int)) Bool (T3 Int Int Int))))), .unk, .imm (enc (x2.a : (List (T3 Int Int Int)))), .imm (.bool x2.b), .imm (enc (x2.c : (T3 Int Int Int))), .imm (enc (x2.a : (List (T3 Int Int Int)))), .unk, .unk, .unk, .unk, .unk]) (.k (.k (.k (.k (.k (.k (.k (.k (.k (.k (.k (.k .e))))))))))))) (fun _ _ => rfl) hm15 (fun x4 s7 H4 _ u4 _ _ _ _ _ hm27 L53 r72 hN4 hC4 hB4 hR4 => ?_) (fun s8 _ _ hm28 L54 => ?_) (fun _ _ _ hm29 F12 => x_leafR (ps := (fun (r : Bool) => [])) (rs := (fun (r : Bool) => (.imm (.bool r)))) hm29 hR2 F12))))))
      · refine x_set (d := (.int x4)) (Γ' := [.unk, .imm (enc (s2 : (List (T3 (List (T3 Int Int Int)) Bool (T3 Int Int Int))))), .unk, .imm (enc (x2.a : (List (T3 Int Int Int)))), .imm (.bool x2.b), .imm (enc (x2.c : (T3 Int Int Int))), .imm (enc (x2.a : (List (T3 Int Int Int)))), .imm (.int x4), .unk, .unk, .unk, .unk]) L53 r72 (show (7 : Nat) < 12 by decide) rfl fun _ L55 => ?_
        refine x_seq (x_asg (x_call (x_cons (x_tup (x_cons (x_vd (d := (enc (x2.a : (List (T3 Int Int Int))))) L55 rfl fun v39 r73 => x_cons (x_vB (x := x2.b) L55 rfl (x_cons (x_vd (d := (enc (x2.c : (T3 Int Int Int)))) L55 rfl fun v40 r74 => x_nil (x_mkT L55 (.cons r73 (.cons (.bl _) (.cons r74 .nil))) (show (3 : Nat) ≤ 16777216 by decide) fun v41 _ L56 le22 r75 => have r76 : Rep _ _ _ (enc ((T3.mk x2.a x2.b x2.c) : (T3 (List (T3 Int Int Int)) Bool (T3 Int Int Int)))) v41 := r75; x_nil (obE hm27 fun z9 hz9 hm30 => mk_first_ring hz9 (L56.cond0 (.im r76 .nil) rfl) fun p5 _ F13 => k0N L56 F13 fun _ h03 hx3 L57 le23 => x_setN (Γ := [.unk, .imm (enc (s2 : (List (T3 (List (T3 Int Int Int)) Bool (T3 Int Int Int))))), .unk, .imm (enc (x2.a : (List (T3 Int Int Int)))), .imm (.bool x2.b), .imm (enc (x2.c : (T3 Int Int Int))), .imm (enc (x2.a : (List (T3 Int Int Int)))), .imm (.int x4), .unk, .unk, .unk, .unk]) (p := p5) (o := (ml (z9 : (List (T3 Int Int Int))))) (Γ' := [.unk, .imm (enc (s2 : (List (T3 (List (T3 Int Int Int)) Bool (T3 Int Int Int))))), .unk, .imm (enc (x2.a : (List (T3 Int Int Int)))), .imm (.bool x2.b), .imm (enc (x2.c : (T3 Int Int Int))), .imm (enc (x2.a : (List (T3 Int Int Int)))), .imm (.int x4), .unk, .mu p5 (ml (z9 : (List (T3 Int Int Int)))), .unk, .unk]) L57 (show (9 : Nat) < 12 by decide) (show (9 : Nat) < 12 by decide) rfl fun _ L58 => ?_)))))))))))
        refine x_seq (x_ifS (x_or (x_not (x_tB (x_cb (x_cons (x_vm L58 rfl (x_cons (x_c (x_nil (x_isiM (T := "list") (b := true) L58 (i := 9) rfl (show kitB "list" "list" = some true by decide +kernel) (x_kb (x_kn (x_orP (B := ((!decide ((z9.length : Int) = (x2.a.length : Int))) || (!decide (x2.a = x2.a)))) (fun _ hq => x_or (x_test (x_op (x_cb (x_cons (x_vm L58 rfl (x_nil (x_lenM (xs := z9) L58 (j := 9) rfl (x_cb (x_cons (x_vd (d := (enc (x2.a : (List (T3 Int Int Int))))) L58 rfl fun v42 r78 => x_nil (x_lenL (xs := x2.a) r78 (x_nei (x_kb (x_orP (B := (!decide (x2.a = x2.a))) (fun _ hq => x_test (x_op (x_vd (d := (enc (x2.a : (List (T3 Int Int Int))))) L58 rfl fun v43 r79 => x_vd (d := (enc (x2.a : (List (T3 Int Int Int))))) L58 rfl fun v44 r80 => x_ned (x := x2.a) (y := x2.a) r79.dp r80.dp (by decide) (x_kb (hq))))) (hq)))))))))))))))) (x_if hm30 (fun hm31 => ?_) fun hm31 => ?_)))))))))))))))
        · exact x_ret (x_c (x_leafR (ps := (fun (r : Bool) => [])) (rs := (fun (r : Bool) => (.imm (.bool r)))) (e := false) hm31 hR4 (L58.fin hp0 (.bl _))))
        · refine x_next ?_
          refine x_seq (x_tforR1 (x_cons (x_cb (x_cons (x_vd (d := (enc (x2.a : (List (T3 Int Int Int))))) L58 rfl fun v45 r81 => x_nil (x_lenL (xs := x2.a) r81 (x_nil (x_r1 hm31 fun hm32 => x_flR (G := (fun (s9 : Unit) => [.unk, .imm (enc (s2 : (List (T3 (List (T3 Int Int Int)) Bool (T3 Int Int Int))))), .unk, .imm (enc (x2.a : (List (T3 Int Int Int)))), .imm (.bool x2.b), .imm (enc (x2.c : (T3 Int Int Int))), .imm (enc (x2.a : (List (T3 Int Int Int)))), .imm (.int x4), .unk, .mu p5 (ml (z9 : (List (T3 Int Int Int)))), .unk, .unk])) (s0 := ()) (ps := (fun (r : Bool) => [])) (rs := (fun (r : Bool) => (.imm (.bool r)))) (L58.weak (Γ' := [.unk, .imm (enc (s2 : (List (T3 (List (T3 Int Int Int)) Bool (T3 Int Int Int))))), .unk, .imm (enc (x2.a : (List (T3 Int Int Int)))), .imm (.bool x2.b), .imm (enc (x2.c : (T3 Int Int Int))), .imm (enc (x2.a : (List (T3 Int Int Int)))), .imm (.int x4), .unk, .mu p5 (ml (z9 : (List (T3 Int Int Int)))), .unk, .unk]) (.k (.k (.k (.k (.k (.k (.k (.k (.k (.k (.k (.k .e))))))))))))) (fun _ _ => rfl) hm32 (fun x5 s9 H5 _ u5 _ _ _ _ _ hm33 L59 r82 hN5 hC5 hB5 hR5 => ?_) (fun s10 _ _ hm34 L60 => ?_) (fun _ _ _ hm35 F14 => x_leafR (ps := (fun (r : Bool) => [])) (rs := (fun (r : Bool) => (.imm (.bool r)))) hm35 hR4 F14)))))))))
          · refine x_set (d := (.int x5)) (Γ' := [.unk, .imm (enc (s2 : (List (T3 (List (T3 Int Int Int)) Bool (T3 Int Int Int))))), .unk, .imm (enc (x2.a : (List (T3 Int Int Int)))), .imm (.bool x2.b), .imm (enc (x2.c : (T3 Int Int Int))), .imm (enc (x2.a : (List (T3 Int Int Int)))), .imm (.int x4), .unk, .mu p5 (ml (z9 : (List (T3 Int Int Int)))), .imm (.int x5), .unk]) L59 r82 (show (10 : Nat) < 12 by decide) rfl fun _ L61 => ?_
            refine x_seq (x_asg (x_op (x_vm L61 rfl (x_vI (x := x5) L61 rfl (x_ixM (xs := z9) (j := 9) L61 rfl hm33 fun x6 v46 _ hm36 r83 => x_set (d := (enc (x6 : (T3 Int Int Int)))) (Γ' := [.unk, .imm (enc (s2 : (List (T3 (List (T3 Int Int Int)) Bool (T3 Int Int Int))))), .unk, .imm (enc (x2.a : (List (T3 Int Int Int)))), .imm (.bool x2.b), .imm (enc (x2.c : (T3 Int Int Int))), .imm (enc (x2.a : (List (T3 Int Int Int)))), .imm (.int x4), .unk, .mu p5 (ml (z9 : (List (T3 Int Int Int)))), .imm (.int x5), .imm (enc (x6 : (T3 Int Int Int)))]) L61 r83 (show (11 : Nat) < 12 by decide) rfl fun _ L62 => ?_)))))
            refine x_seq (x_ifS (x_not (x_tB (x_call (x_cons (x_vd (d := (enc (x6 : (T3 Int Int Int)))) L62 rfl fun v47 r84 => x_nil (obE hm36 fun z10 hz10 hm37 => mk__law_is_point hz10 (L62.cond0 (.im r84 .nil) rfl) fun _ F15 => k0 L62 F15 fun L63 le24 => x_kb (x_kn (x_if hm37 (fun hm38 => ?_) fun hm38 => ?_)))))))))
            · exact x_ret (x_c (x_leafR (ps := (fun (r : Bool) => [])) (rs := (fun (r : Bool) => (.imm (.bool r)))) (e := false) hm38 hR5 (L63.fin hp0 (.bl _))))
            · refine x_next ?_
              refine x_seq (x_ifS (x_tB (x_vB (x := x2.b) L63 rfl (x_kb (x_join (G := (fun (s11 : (T3 Int Int Int)) => [.unk, .imm (enc (s2 : (List (T3 (List (T3 Int Int Int)) Bool (T3 Int Int Int))))), .unk, .imm (enc (x2.a : (List (T3 Int Int Int)))), .imm (.bool x2.b), .imm (enc (x2.c : (T3 Int Int Int))), .imm (enc (x2.a : (List (T3 Int Int Int)))), .imm (.int x4), .unk, .mu p5 (ml (z9 : (List (T3 Int Int Int)))), .imm (.int x5), .imm (enc (s11 : (T3 Int Int Int)))])) L63 hm38 (fun _ hm39 _ hN6 => ?_) (fun _ hm39 _ hN6 => ?_) fun s11 X1 _ _ hm40 L64 => ?_)))))
              · refine x_asg (x_call (x_cons (x_vd (d := (enc (x6 : (T3 Int Int Int)))) L63 rfl fun v49 r85 => x_nil (obE hm39 fun z11 hz11 hm41 => mk__law_turned hz11 (L63.cond0 (.im r85 .nil) rfl) fun v50 _ F16 => k0d L63 F16 fun L65 le25 r86 => x_set (d := (enc (z11 : (T3 Int Int Int)))) (Γ' := [.unk, .imm (enc (s2 : (List (T3 (List (T3 Int Int Int)) Bool (T3 Int Int Int))))), .unk, .imm (enc (x2.a : (List (T3 Int Int Int)))), .imm (.bool x2.b), .imm (enc (x2.c : (T3 Int Int Int))), .imm (enc (x2.a : (List (T3 Int Int Int)))), .imm (.int x4), .unk, .mu p5 (ml (z9 : (List (T3 Int Int Int)))), .imm (.int x5), .imm (enc (z11 : (T3 Int Int Int)))]) L65 r86 (show (11 : Nat) < 12 by decide) rfl fun _ L66 => ?_))))
                exact x_leaf (G := (fun (s11 : (T3 Int Int Int)) => [.unk, .imm (enc (s2 : (List (T3 (List (T3 Int Int Int)) Bool (T3 Int Int Int))))), .unk, .imm (enc (x2.a : (List (T3 Int Int Int)))), .imm (.bool x2.b), .imm (enc (x2.c : (T3 Int Int Int))), .imm (enc (x2.a : (List (T3 Int Int Int)))), .imm (.int x4), .unk, .mu p5 (ml (z9 : (List (T3 Int Int Int)))), .imm (.int x5), .imm (enc (s11 : (T3 Int Int Int)))])) (e := z11) hm41 hN6 (L66.weak (Γ' := [.unk, .imm (enc (s2 : (List (T3 (List (T3 Int Int Int)) Bool (T3 Int Int Int))))), .unk, .imm (enc (x2.a : (List (T3 Int Int Int)))), .imm (.bool x2.b), .imm (enc (x2.c : (T3 Int Int Int))), .imm (enc (x2.a : (List (T3 Int Int Int)))), .imm (.int x4), .unk, .mu p5 (ml (z9 : (List (T3 Int Int Int)))), .imm (.int x5), .imm (enc (z11 : (T3 Int Int Int)))]) (.k (.k (.k (.k (.k (.k (.k (.k (.k (.k (.k (.k .e)))))))))))))
              · refine x_next ?_
                exact x_leaf (G := (fun (s11 : (T3 Int Int Int)) => [.unk, .imm (enc (s2 : (List (T3 (List (T3 Int Int Int)) Bool (T3 Int Int Int))))), .unk, .imm (enc (x2.a : (List (T3 Int Int Int)))), .imm (.bool x2.b), .imm (enc (x2.c : (T3 Int Int Int))), .imm (enc (x2.a : (List (T3 Int Int Int)))), .imm (.int x4), .unk, .mu p5 (ml (z9 : (List (T3 Int Int Int)))), .imm (.int x5), .imm (enc (s11 : (T3 Int Int Int)))])) (e := x6) hm39 hN6 (L63.weak (Γ' := [.unk, .imm (enc (s2 : (List (T3 (List (T3 Int Int Int)) Bool (T3 Int Int Int))))), .unk, .imm (enc (x2.a : (List (T3 Int Int Int)))), .imm (.bool x2.b), .imm (enc (x2.c : (T3 Int Int Int))), .imm (enc (x2.a : (List (T3 Int Int Int)))), .imm (.int x4), .unk, .mu p5 (ml (z9 : (List (T3 Int Int Int)))), .imm (.int x5), .imm (enc (x6 : (T3 Int Int Int)))]) (.k (.k (.k (.k (.k (.k (.k (.k (.k (.k (.k (.k .e)))))))))))))
              refine x_ifS (x_test (x_op (x_call (x_cons (x_vd (d := (enc (s11 : (T3 Int Int Int)))) L64 rfl fun v51 r87 => x_cons (x_vd (d := (enc (x2.c : (T3 Int Int Int)))) L64 rfl fun v52 r88 => x_nil (obE hm40 fun z12 hz12 hm42 => mk__law_slid hz12 (L64.cond0 (.im r87 (.im r88 .nil)) rfl) fun v53 _ F17 => k0d L64 F17 fun L67 le26 r89 => x_op (x_vd (d := (enc (x2.a : (List (T3 Int Int Int))))) L67 rfl fun v54 r90 => x_vI (x := x5) L67 rfl (x_ixL (xs := x2.a) hm42 r90 fun x7 v55 _ hm43 r91 => x_ned (x := z12) (y := x7) r89.dp r91.dp (by decide) (x_kb (x_if hm43 (fun hm44 => ?_) fun hm44 => ?_)))))))))))
              · exact x_ret (x_c (x_leafR (ps := (fun (r : Bool) => [])) (rs := (fun (r : Bool) => (.imm (.bool r)))) (e := false) hm44 hR5 (L67.fin hp0 (.bl _))))
              · refine x_next ?_
                exact x_leafN (G := (fun (s9 : Unit) => [.unk, .imm (enc (s2 : (List (T3 (List (T3 Int Int Int)) Bool (T3 Int Int Int))))), .unk, .imm (enc (x2.a : (List (T3 Int Int Int)))), .imm (.bool x2.b), .imm (enc (x2.c : (T3 Int Int Int))), .imm (enc (x2.a : (List (T3 Int Int Int)))), .imm (.int x4), .unk, .mu p5 (ml (z9 : (List (T3 Int Int Int)))), .unk, .unk])) (e := ()) hm44 hN5 (L67.weak (Γ' := [.unk, .imm (enc (s2 : (List (T3 (List (T3 Int Int Int)) Bool (T3 Int Int Int))))), .unk, .imm (enc (x2.a : (List (T3 Int Int Int)))), .imm (.bool x2.b), .imm (enc (x2.c : (T3 Int Int Int))), .imm (enc (x2.a : (List (T3 Int Int Int)))), .imm (.int x4), .unk, .mu p5 (ml (z9 : (List (T3 Int Int Int)))), .unk, .unk]) (.k (.k (.k (.k (.k (.k (.k (.k (.k (.k (.d (.d .e)))))))))))))
          refine x_drop (x_bm0 (x_vm L60 rfl (x_tyM L60 (i := 9) rfl (x_clear (i := 9) (Γ' := [.unk, .imm (enc (s2 : (List (T3 (List (T3 Int Int Int)) Bool (T3 Int Int Int))))), .unk, .imm (enc (x2.a : (List (T3 Int Int Int)))), .imm (.bool x2.b), .imm (enc (x2.c : (T3 Int Int Int))), .imm (enc (x2.a : (List (T3 Int Int Int)))), .imm (.int x4), .unk, .mu p5 (ml (([] : (List (T3 Int Int Int))) : (List (T3 Int Int Int)))), .unk, .unk]) L60 rfl rfl fun _ L68 le27 => ?_))))
          exact x_leafN (G := (fun (s7 : Unit) => [.unk, .imm (enc (s2 : (List (T3 (List (T3 Int Int Int)) Bool (T3 Int Int Int))))), .unk, .imm (enc (x2.a : (List (T3 Int Int Int)))), .imm (.bool x2.b), .imm (enc (x2.c : (T3 Int Int Int))), .imm (enc (x2.a : (List (T3 Int Int Int)))), .unk, .unk, .unk, .unk, .unk])) (e := ()) hm34 hN4 (L68.weak (Γ' := [.unk, .imm (enc (s2 : (List (T3 (List (T3 Int Int Int)) Bool (T3 Int Int Int))))), .unk, .imm (enc (x2.a : (List (T3 Int Int Int)))), .imm (.bool x2.b), .imm (enc (x2.c : (T3 Int Int Int))), .imm (enc (x2.a : (List (T3 Int Int Int)))), .unk, .unk, .unk, .unk, .unk]) (.k (.k (.k (.k (.k (.k (.k (.d (.k (.d (.k (.k .e)))))))))))))
      exact x_leafN (G := (fun (s3 : Unit) => [.unk, .imm (enc (s2 : (List (T3 (List (T3 Int Int Int)) Bool (T3 Int Int Int))))), .unk, .unk, .unk, .unk, .unk, .unk, .unk, .unk, .unk, .unk])) (e := ()) hm28 hN2 (L54.weak (Γ' := [.unk, .imm (enc (s2 : (List (T3 (List (T3 Int Int Int)) Bool (T3 Int Int Int))))), .unk, .unk, .unk, .unk, .unk, .unk, .unk, .unk, .unk, .unk]) (.k (.k (.k (.d (.d (.d (.d (.k (.k (.k (.k (.k .e)))))))))))))
    exact x_ret (x_c (x_finB (Q := Q) (ps := (fun (r : Bool) => [])) (sc := fun (r : Bool) => r) true hm12 kont (L17.fin hp0 (.bl _))))
end
theorem all_mk {l : PySem.W.OpenLaw} {w : World} {K : PySem.W.Frag} {h : Heap} {mg : Str → Option Value} {fa : Addr} (X : K.In h) (G : h.Ns mainGlobals mg) (hfa : mg "law" = some (.ref fa))
    {f0 : Addr} {od0 an0 : Option Addr} {sl0 : Array (Option Value)} {oc0 kV0 dc0 pm0 cd0 ct0 : Value}
    (a0 : PySem.W.nsIn K mainGlobals "_law_cell" = some (some (.ref f0))) (l0 : K.lookup f0 = some ⟨oc0, od0, .func (PySem.W.fnOf "_law_cell" "_law_cell" (defArgs s__law_cell) (defBody s__law_cell) (defScope s__law_cell) .none kV0 dc0 pm0 an0 cd0 ct0), sl0⟩) (c0 : PySem.W.codeIn K cd0 "_law_cell" = true) (k0 : PySem.W.keepIn K (.ref f0) = true)
    {f1 : Addr} {od1 an1 : Option Addr} {sl1 : Array (Option Value)} {oc1 kV1 dc1 pm1 cd1 ct1 : Value}
    (a1 : PySem.W.nsIn K mainGlobals "_law_bag" = some (some (.ref f1))) (l1 : K.lookup f1 = some ⟨oc1, od1, .func (PySem.W.fnOf "_law_bag" "_law_bag" (defArgs s__law_bag) (defBody s__law_bag) (defScope s__law_bag) .none kV1 dc1 pm1 an1 cd1 ct1), sl1⟩) (c1 : PySem.W.codeIn K cd1 "_law_bag" = true) (k1 : PySem.W.keepIn K (.ref f1) = true)
    {f2 : Addr} {od2 an2 : Option Addr} {sl2 : Array (Option Value)} {oc2 kV2 dc2 pm2 cd2 ct2 : Value}
    (a2 : PySem.W.nsIn K mainGlobals "_law_digit" = some (some (.ref f2))) (l2 : K.lookup f2 = some ⟨oc2, od2, .func (PySem.W.fnOf "_law_digit" "_law_digit" (defArgs s__law_digit) (defBody s__law_digit) (defScope s__law_digit) .none kV2 dc2 pm2 an2 cd2 ct2), sl2⟩) (c2 : PySem.W.codeIn K cd2 "_law_digit" = true) (k2 : PySem.W.keepIn K (.ref f2) = true)
    {f3 : Addr} {od3 an3 : Option Addr} {sl3 : Array (Option Value)} {oc3 kV3 dc3 pm3 cd3 ct3 : Value}
    (a3 : PySem.W.nsIn K mainGlobals "_law_point" = some (some (.ref f3))) (l3 : K.lookup f3 = some ⟨oc3, od3, .func (PySem.W.fnOf "_law_point" "_law_point" (defArgs s__law_point) (defBody s__law_point) (defScope s__law_point) .none kV3 dc3 pm3 an3 cd3 ct3), sl3⟩) (c3 : PySem.W.codeIn K cd3 "_law_point" = true) (k3 : PySem.W.keepIn K (.ref f3) = true)
    {f4 : Addr} {od4 an4 : Option Addr} {sl4 : Array (Option Value)} {oc4 kV4 dc4 pm4 cd4 ct4 : Value}
    (a4 : PySem.W.nsIn K mainGlobals "_law_step" = some (some (.ref f4))) (l4 : K.lookup f4 = some ⟨oc4, od4, .func (PySem.W.fnOf "_law_step" "_law_step" (defArgs s__law_step) (defBody s__law_step) (defScope s__law_step) .none kV4 dc4 pm4 an4 cd4 ct4), sl4⟩) (c4 : PySem.W.codeIn K cd4 "_law_step" = true) (k4 : PySem.W.keepIn K (.ref f4) = true)
    {f5 : Addr} {od5 an5 : Option Addr} {sl5 : Array (Option Value)} {oc5 kV5 dc5 pm5 cd5 ct5 : Value}
    (a5 : PySem.W.nsIn K mainGlobals "_law_slid" = some (some (.ref f5))) (l5 : K.lookup f5 = some ⟨oc5, od5, .func (PySem.W.fnOf "_law_slid" "_law_slid" (defArgs s__law_slid) (defBody s__law_slid) (defScope s__law_slid) .none kV5 dc5 pm5 an5 cd5 ct5), sl5⟩) (c5 : PySem.W.codeIn K cd5 "_law_slid" = true) (k5 : PySem.W.keepIn K (.ref f5) = true)
    {f6 : Addr} {od6 an6 : Option Addr} {sl6 : Array (Option Value)} {oc6 kV6 dc6 pm6 cd6 ct6 : Value}
    (a6 : PySem.W.nsIn K mainGlobals "_law_place" = some (some (.ref f6))) (l6 : K.lookup f6 = some ⟨oc6, od6, .func (PySem.W.fnOf "_law_place" "_law_place" (defArgs s__law_place) (defBody s__law_place) (defScope s__law_place) .none kV6 dc6 pm6 an6 cd6 ct6), sl6⟩) (c6 : PySem.W.codeIn K cd6 "_law_place" = true) (k6 : PySem.W.keepIn K (.ref f6) = true)
    {f7 : Addr} {od7 an7 : Option Addr} {sl7 : Array (Option Value)} {oc7 kV7 dc7 pm7 cd7 ct7 : Value}
    (a7 : PySem.W.nsIn K mainGlobals "_law_side" = some (some (.ref f7))) (l7 : K.lookup f7 = some ⟨oc7, od7, .func (PySem.W.fnOf "_law_side" "_law_side" (defArgs s__law_side) (defBody s__law_side) (defScope s__law_side) .none kV7 dc7 pm7 an7 cd7 ct7), sl7⟩) (c7 : PySem.W.codeIn K cd7 "_law_side" = true) (k7 : PySem.W.keepIn K (.ref f7) = true)
    {f8 : Addr} {od8 an8 : Option Addr} {sl8 : Array (Option Value)} {oc8 kV8 dc8 pm8 cd8 ct8 : Value}
    (a8 : PySem.W.nsIn K mainGlobals "_law_three" = some (some (.ref f8))) (l8 : K.lookup f8 = some ⟨oc8, od8, .func (PySem.W.fnOf "_law_three" "_law_three" (defArgs s__law_three) (defBody s__law_three) (defScope s__law_three) .none kV8 dc8 pm8 an8 cd8 ct8), sl8⟩) (c8 : PySem.W.codeIn K cd8 "_law_three" = true) (k8 : PySem.W.keepIn K (.ref f8) = true)
    {f9 : Addr} {od9 an9 : Option Addr} {sl9 : Array (Option Value)} {oc9 kV9 dc9 pm9 cd9 ct9 : Value}
    (a9 : PySem.W.nsIn K mainGlobals "_law_is_point" = some (some (.ref f9))) (l9 : K.lookup f9 = some ⟨oc9, od9, .func (PySem.W.fnOf "_law_is_point" "_law_is_point" (defArgs s__law_is_point) (defBody s__law_is_point) (defScope s__law_is_point) .none kV9 dc9 pm9 an9 cd9 ct9), sl9⟩) (c9 : PySem.W.codeIn K cd9 "_law_is_point" = true) (k9 : PySem.W.keepIn K (.ref f9) = true)
    {f10 : Addr} {od10 an10 : Option Addr} {sl10 : Array (Option Value)} {oc10 kV10 dc10 pm10 cd10 ct10 : Value}
    (a10 : PySem.W.nsIn K mainGlobals "_law_is_convex" = some (some (.ref f10))) (l10 : K.lookup f10 = some ⟨oc10, od10, .func (PySem.W.fnOf "_law_is_convex" "_law_is_convex" (defArgs s__law_is_convex) (defBody s__law_is_convex) (defScope s__law_is_convex) .none kV10 dc10 pm10 an10 cd10 ct10), sl10⟩) (c10 : PySem.W.codeIn K cd10 "_law_is_convex" = true) (k10 : PySem.W.keepIn K (.ref f10) = true)
    {f11 : Addr} {od11 an11 : Option Addr} {sl11 : Array (Option Value)} {oc11 kV11 dc11 pm11 cd11 ct11 : Value}
    (a11 : PySem.W.nsIn K mainGlobals "_law_bulging" = some (some (.ref f11))) (l11 : K.lookup f11 = some ⟨oc11, od11, .func (PySem.W.fnOf "_law_bulging" "_law_bulging" (defArgs s__law_bulging) (defBody s__law_bulging) (defScope s__law_bulging) .none kV11 dc11 pm11 an11 cd11 ct11), sl11⟩) (c11 : PySem.W.codeIn K cd11 "_law_bulging" = true) (k11 : PySem.W.keepIn K (.ref f11) = true)
    {f12 : Addr} {od12 an12 : Option Addr} {sl12 : Array (Option Value)} {oc12 kV12 dc12 pm12 cd12 ct12 : Value}
    (a12 : PySem.W.nsIn K mainGlobals "_law_sheet" = some (some (.ref f12))) (l12 : K.lookup f12 = some ⟨oc12, od12, .func (PySem.W.fnOf "_law_sheet" "_law_sheet" (defArgs s__law_sheet) (defBody s__law_sheet) (defScope s__law_sheet) .none kV12 dc12 pm12 an12 cd12 ct12), sl12⟩) (c12 : PySem.W.codeIn K cd12 "_law_sheet" = true) (k12 : PySem.W.keepIn K (.ref f12) = true)
    {f13 : Addr} {od13 an13 : Option Addr} {sl13 : Array (Option Value)} {oc13 kV13 dc13 pm13 cd13 ct13 : Value}
    (a13 : PySem.W.nsIn K mainGlobals "fresh" = some (some (.ref f13))) (l13 : K.lookup f13 = some ⟨oc13, od13, .func (PySem.W.fnOf "fresh" "fresh" (defArgs s_fresh) (defBody s_fresh) (defScope s_fresh) .none kV13 dc13 pm13 an13 cd13 ct13), sl13⟩) (c13 : PySem.W.codeIn K cd13 "fresh" = true) (k13 : PySem.W.keepIn K (.ref f13) = true)
    {f14 : Addr} {od14 an14 : Option Addr} {sl14 : Array (Option Value)} {oc14 kV14 dc14 pm14 cd14 ct14 : Value}
    (a14 : PySem.W.nsIn K mainGlobals "_law_is_sheet" = some (some (.ref f14))) (l14 : K.lookup f14 = some ⟨oc14, od14, .func (PySem.W.fnOf "_law_is_sheet" "_law_is_sheet" (defArgs s__law_is_sheet) (defBody s__law_is_sheet) (defScope s__law_is_sheet) .none kV14 dc14 pm14 an14 cd14 ct14), sl14⟩) (c14 : PySem.W.codeIn K cd14 "_law_is_sheet" = true) (k14 : PySem.W.keepIn K (.ref f14) = true)
    {f15 : Addr} {od15 an15 : Option Addr} {sl15 : Array (Option Value)} {oc15 kV15 dc15 pm15 cd15 ct15 : Value}
    (a15 : PySem.W.nsIn K mainGlobals "turned" = some (some (.ref f15))) (l15 : K.lookup f15 = some ⟨oc15, od15, .func (PySem.W.fnOf "turned" "turned" (defArgs s_turned) (defBody s_turned) (defScope s_turned) .none kV15 dc15 pm15 an15 cd15 ct15), sl15⟩) (c15 : PySem.W.codeIn K cd15 "turned" = true) (k15 : PySem.W.keepIn K (.ref f15) = true)
    {f16 : Addr} {od16 an16 : Option Addr} {sl16 : Array (Option Value)} {oc16 kV16 dc16 pm16 cd16 ct16 : Value}
    (a16 : PySem.W.nsIn K mainGlobals "greatest_divisor" = some (some (.ref f16))) (l16 : K.lookup f16 = some ⟨oc16, od16, .func (PySem.W.fnOf "greatest_divisor" "greatest_divisor" (defArgs s_greatest_divisor) (defBody s_greatest_divisor) (defScope s_greatest_divisor) .none kV16 dc16 pm16 an16 cd16 ct16), sl16⟩) (c16 : PySem.W.codeIn K cd16 "greatest_divisor" = true) (k16 : PySem.W.keepIn K (.ref f16) = true)
    {f17 : Addr} {od17 an17 : Option Addr} {sl17 : Array (Option Value)} {oc17 kV17 dc17 pm17 cd17 ct17 : Value}
    (a17 : PySem.W.nsIn K mainGlobals "point" = some (some (.ref f17))) (l17 : K.lookup f17 = some ⟨oc17, od17, .func (PySem.W.fnOf "point" "point" (defArgs s_point) (defBody s_point) (defScope s_point) .none kV17 dc17 pm17 an17 cd17 ct17), sl17⟩) (c17 : PySem.W.codeIn K cd17 "point" = true) (k17 : PySem.W.keepIn K (.ref f17) = true)
    {f18 : Addr} {od18 an18 : Option Addr} {sl18 : Array (Option Value)} {oc18 kV18 dc18 pm18 cd18 ct18 : Value}
    (a18 : PySem.W.nsIn K mainGlobals "slid" = some (some (.ref f18))) (l18 : K.lookup f18 = some ⟨oc18, od18, .func (PySem.W.fnOf "slid" "slid" (defArgs s_slid) (defBody s_slid) (defScope s_slid) .none kV18 dc18 pm18 an18 cd18 ct18), sl18⟩) (c18 : PySem.W.codeIn K cd18 "slid" = true) (k18 : PySem.W.keepIn K (.ref f18) = true)
    {f19 : Addr} {od19 an19 : Option Addr} {sl19 : Array (Option Value)} {oc19 kV19 dc19 pm19 cd19 ct19 : Value}
    (a19 : PySem.W.nsIn K mainGlobals "first_ring" = some (some (.ref f19))) (l19 : K.lookup f19 = some ⟨oc19, od19, .func (PySem.W.fnOf "first_ring" "first_ring" (defArgs s_first_ring) (defBody s_first_ring) (defScope s_first_ring) .none kV19 dc19 pm19 an19 cd19 ct19), sl19⟩) (c19 : PySem.W.codeIn K cd19 "first_ring" = true) (k19 : PySem.W.keepIn K (.ref f19) = true)
    {f20 : Addr} {od20 an20 : Option Addr} {sl20 : Array (Option Value)} {oc20 kV20 dc20 pm20 cd20 ct20 : Value}
    (a20 : PySem.W.nsIn K mainGlobals "_law_turned" = some (some (.ref f20))) (l20 : K.lookup f20 = some ⟨oc20, od20, .func (PySem.W.fnOf "_law_turned" "_law_turned" (defArgs s__law_turned) (defBody s__law_turned) (defScope s__law_turned) .none kV20 dc20 pm20 an20 cd20 ct20), sl20⟩) (c20 : PySem.W.codeIn K cd20 "_law_turned" = true) (k20 : PySem.W.keepIn K (.ref f20) = true)
    {f21 : Addr} {od21 an21 : Option Addr} {sl21 : Array (Option Value)} {oc21 kV21 dc21 pm21 cd21 ct21 : Value}
    (a21 : PySem.W.nsIn K mainGlobals "law" = some (some (.ref f21))) (l21 : K.lookup f21 = some ⟨oc21, od21, .func (PySem.W.fnOf "law" "law" (defArgs s_law) (defBody s_law) (defScope s_law) .none kV21 dc21 pm21 an21 cd21 ct21), sl21⟩) (c21 : PySem.W.codeIn K cd21 "law" = true) (k21 : PySem.W.keepIn K (.ref f21) = true)
    (z_abs : PySem.W.nsIn K mainGlobals "abs" = some none)
    (z_bool : PySem.W.nsIn K mainGlobals "bool" = some none)
    (z_int : PySem.W.nsIn K mainGlobals "int" = some none)
    (z_isinstance : PySem.W.nsIn K mainGlobals "isinstance" = some none)
    (z_len : PySem.W.nsIn K mainGlobals "len" = some none)
    (z_list : PySem.W.nsIn K mainGlobals "list" = some none)
    (z_range : PySem.W.nsIn K mainGlobals "range" = some none)
    (z_tuple : PySem.W.nsIn K mainGlobals "tuple" = some none)
    : ∃ fd : FuncData, (∀ (s : Shared) (v : Value), BindsTo s fd ⟨[v], []⟩ [("_law_script", v)]) ∧ ∀ base : Heap, K.In base → base.Ns mainGlobals mg → FnOk l.prog w K mg base CX0 6 fa fd ["_law_script"] (sp_law K) := by
  have e := hfa.symm.trans (PySem.W.mg_of X G a21)
  cases e
  let T : Txt K mg := {
    A__law_cell := f0, D__law_cell := PySem.W.fnOf "_law_cell" "_law_cell" (defArgs s__law_cell) (defBody s__law_cell) (defScope s__law_cell) .none kV0 dc0 pm0 an0 cd0 ct0, F__law_cell := fun_mk (st := s__law_cell) l0 c0 k0, g__law_cell := PySem.W.mg_of X G a0, b__law_cell := (fun_mk (st := s__law_cell) l0 c0 k0).binds (ps := ["_law_script", "_law_k"]) fun _ _ _ _ _ _ us hl => match us, hl with | [_, _], _ => rfl,
    A__law_bag := f1, D__law_bag := PySem.W.fnOf "_law_bag" "_law_bag" (defArgs s__law_bag) (defBody s__law_bag) (defScope s__law_bag) .none kV1 dc1 pm1 an1 cd1 ct1, F__law_bag := fun_mk (st := s__law_bag) l1 c1 k1, g__law_bag := PySem.W.mg_of X G a1, b__law_bag := (fun_mk (st := s__law_bag) l1 c1 k1).binds (ps := ["_law_cell_here"]) fun _ _ _ _ _ _ us hl => match us, hl with | [_], _ => rfl,
    A__law_digit := f2, D__law_digit := PySem.W.fnOf "_law_digit" "_law_digit" (defArgs s__law_digit) (defBody s__law_digit) (defScope s__law_digit) .none kV2 dc2 pm2 an2 cd2 ct2, F__law_digit := fun_mk (st := s__law_digit) l2 c2 k2, g__law_digit := PySem.W.mg_of X G a2, b__law_digit := (fun_mk (st := s__law_digit) l2 c2 k2).binds (ps := ["_law_bag_here", "_law_many"]) fun _ _ _ _ _ _ us hl => match us, hl with | [_, _], _ => rfl,
    A__law_point := f3, D__law_point := PySem.W.fnOf "_law_point" "_law_point" (defArgs s__law_point) (defBody s__law_point) (defScope s__law_point) .none kV3 dc3 pm3 an3 cd3 ct3, F__law_point := fun_mk (st := s__law_point) l3 c3 k3, g__law_point := PySem.W.mg_of X G a3, b__law_point := (fun_mk (st := s__law_point) l3 c3 k3).binds (ps := ["_law_a", "_law_b", "_law_n"]) fun _ _ _ _ _ _ us hl => match us, hl with | [_, _, _], _ => rfl,
    A__law_step := f4, D__law_step := PySem.W.fnOf "_law_step" "_law_step" (defArgs s__law_step) (defBody s__law_step) (defScope s__law_step) .none kV4 dc4 pm4 an4 cd4 ct4, F__law_step := fun_mk (st := s__law_step) l4 c4 k4, g__law_step := PySem.W.mg_of X G a4, b__law_step := (fun_mk (st := s__law_step) l4 c4 k4).binds (ps := ["_law_bag_here", "_law_most"]) fun _ _ _ _ _ _ us hl => match us, hl with | [_, _], _ => rfl,
    A__law_slid := f5, D__law_slid := PySem.W.fnOf "_law_slid" "_law_slid" (defArgs s__law_slid) (defBody s__law_slid) (defScope s__law_slid) .none kV5 dc5 pm5 an5 cd5 ct5, F__law_slid := fun_mk (st := s__law_slid) l5 c5 k5, g__law_slid := PySem.W.mg_of X G a5, b__law_slid := (fun_mk (st := s__law_slid) l5 c5 k5).binds (ps := ["_law_p", "_law_v"]) fun _ _ _ _ _ _ us hl => match us, hl with | [_, _], _ => rfl,
    A__law_place := f6, D__law_place := PySem.W.fnOf "_law_place" "_law_place" (defArgs s__law_place) (defBody s__law_place) (defScope s__law_place) .none kV6 dc6 pm6 an6 cd6 ct6, F__law_place := fun_mk (st := s__law_place) l6 c6 k6, g__law_place := PySem.W.mg_of X G a6, b__law_place := (fun_mk (st := s__law_place) l6 c6 k6).binds (ps := ["_law_bag_here", "_law_most"]) fun _ _ _ _ _ _ us hl => match us, hl with | [_, _], _ => rfl,
    A__law_side := f7, D__law_side := PySem.W.fnOf "_law_side" "_law_side" (defArgs s__law_side) (defBody s__law_side) (defScope s__law_side) .none kV7 dc7 pm7 an7 cd7 ct7, F__law_side := fun_mk (st := s__law_side) l7 c7 k7, g__law_side := PySem.W.mg_of X G a7, b__law_side := (fun_mk (st := s__law_side) l7 c7 k7).binds (ps := ["_law_p", "_law_q", "_law_r"]) fun _ _ _ _ _ _ us hl => match us, hl with | [_, _, _], _ => rfl,
    A__law_three := f8, D__law_three := PySem.W.fnOf "_law_three" "_law_three" (defArgs s__law_three) (defBody s__law_three) (defScope s__law_three) .none kV8 dc8 pm8 an8 cd8 ct8, F__law_three := fun_mk (st := s__law_three) l8 c8 k8, g__law_three := PySem.W.mg_of X G a8, b__law_three := (fun_mk (st := s__law_three) l8 c8 k8).binds (ps := ["_law_bag_here", "_law_most"]) fun _ _ _ _ _ _ us hl => match us, hl with | [_, _], _ => rfl,
    A__law_is_point := f9, D__law_is_point := PySem.W.fnOf "_law_is_point" "_law_is_point" (defArgs s__law_is_point) (defBody s__law_is_point) (defScope s__law_is_point) .none kV9 dc9 pm9 an9 cd9 ct9, F__law_is_point := fun_mk (st := s__law_is_point) l9 c9 k9, g__law_is_point := PySem.W.mg_of X G a9, b__law_is_point := (fun_mk (st := s__law_is_point) l9 c9 k9).binds (ps := ["_law_p"]) fun _ _ _ _ _ _ us hl => match us, hl with | [_], _ => rfl,
    A__law_is_convex := f10, D__law_is_convex := PySem.W.fnOf "_law_is_convex" "_law_is_convex" (defArgs s__law_is_convex) (defBody s__law_is_convex) (defScope s__law_is_convex) .none kV10 dc10 pm10 an10 cd10 ct10, F__law_is_convex := fun_mk (st := s__law_is_convex) l10 c10 k10, g__law_is_convex := PySem.W.mg_of X G a10, b__law_is_convex := (fun_mk (st := s__law_is_convex) l10 c10 k10).binds (ps := ["_law_ring"]) fun _ _ _ _ _ _ us hl => match us, hl with | [_], _ => rfl,
    A__law_bulging := f11, D__law_bulging := PySem.W.fnOf "_law_bulging" "_law_bulging" (defArgs s__law_bulging) (defBody s__law_bulging) (defScope s__law_bulging) .none kV11 dc11 pm11 an11 cd11 ct11, F__law_bulging := fun_mk (st := s__law_bulging) l11 c11 k11, g__law_bulging := PySem.W.mg_of X G a11, b__law_bulging := (fun_mk (st := s__law_bulging) l11 c11 k11).binds (ps := ["_law_bag_here", "_law_most"]) fun _ _ _ _ _ _ us hl => match us, hl with | [_, _], _ => rfl,
    A__law_sheet := f12, D__law_sheet := PySem.W.fnOf "_law_sheet" "_law_sheet" (defArgs s__law_sheet) (defBody s__law_sheet) (defScope s__law_sheet) .none kV12 dc12 pm12 an12 cd12 ct12, F__law_sheet := fun_mk (st := s__law_sheet) l12 c12 k12, g__law_sheet := PySem.W.mg_of X G a12, b__law_sheet := (fun_mk (st := s__law_sheet) l12 c12 k12).binds (ps := ["_law_bag_here", "_law_most", "_law_many"]) fun _ _ _ _ _ _ us hl => match us, hl with | [_, _, _], _ => rfl,
    A_fresh := f13, D_fresh := PySem.W.fnOf "fresh" "fresh" (defArgs s_fresh) (defBody s_fresh) (defScope s_fresh) .none kV13 dc13 pm13 an13 cd13 ct13, F_fresh := fun_mk (st := s_fresh) l13 c13 k13, g_fresh := PySem.W.mg_of X G a13, b_fresh := (fun_mk (st := s_fresh) l13 c13 k13).binds (ps := ["ring"]) fun _ _ _ _ _ _ us hl => match us, hl with | [_], _ => rfl,
    A__law_is_sheet := f14, D__law_is_sheet := PySem.W.fnOf "_law_is_sheet" "_law_is_sheet" (defArgs s__law_is_sheet) (defBody s__law_is_sheet) (defScope s__law_is_sheet) .none kV14 dc14 pm14 an14 cd14 ct14, F__law_is_sheet := fun_mk (st := s__law_is_sheet) l14 c14 k14, g__law_is_sheet := PySem.W.mg_of X G a14, b__law_is_sheet := (fun_mk (st := s__law_is_sheet) l14 c14 k14).binds (ps := ["_law_sheet_here"]) fun _ _ _ _ _ _ us hl => match us, hl with | [_], _ => rfl,
    A_turned := f15, D_turned := PySem.W.fnOf "turned" "turned" (defArgs s_turned) (defBody s_turned) (defScope s_turned) .none kV15 dc15 pm15 an15 cd15 ct15, F_turned := fun_mk (st := s_turned) l15 c15 k15, g_turned := PySem.W.mg_of X G a15, b_turned := (fun_mk (st := s_turned) l15 c15 k15).binds (ps := ["p"]) fun _ _ _ _ _ _ us hl => match us, hl with | [_], _ => rfl,
    A_greatest_divisor := f16, D_greatest_divisor := PySem.W.fnOf "greatest_divisor" "greatest_divisor" (defArgs s_greatest_divisor) (defBody s_greatest_divisor) (defScope s_greatest_divisor) .none kV16 dc16 pm16 an16 cd16 ct16, F_greatest_divisor := fun_mk (st := s_greatest_divisor) l16 c16 k16, g_greatest_divisor := PySem.W.mg_of X G a16, b_greatest_divisor := (fun_mk (st := s_greatest_divisor) l16 c16 k16).binds (ps := ["a", "b"]) fun _ _ _ _ _ _ us hl => match us, hl with | [_, _], _ => rfl,
    A_point := f17, D_point := PySem.W.fnOf "point" "point" (defArgs s_point) (defBody s_point) (defScope s_point) .none kV17 dc17 pm17 an17 cd17 ct17, F_point := fun_mk (st := s_point) l17 c17 k17, g_point := PySem.W.mg_of X G a17, b_point := (fun_mk (st := s_point) l17 c17 k17).binds (ps := ["a", "b", "n"]) fun _ _ _ _ _ _ us hl => match us, hl with | [_, _, _], _ => rfl,
    A_slid := f18, D_slid := PySem.W.fnOf "slid" "slid" (defArgs s_slid) (defBody s_slid) (defScope s_slid) .none kV18 dc18 pm18 an18 cd18 ct18, F_slid := fun_mk (st := s_slid) l18 c18 k18, g_slid := PySem.W.mg_of X G a18, b_slid := (fun_mk (st := s_slid) l18 c18 k18).binds (ps := ["p", "step"]) fun _ _ _ _ _ _ us hl => match us, hl with | [_, _], _ => rfl,
    A_first_ring := f19, D_first_ring := PySem.W.fnOf "first_ring" "first_ring" (defArgs s_first_ring) (defBody s_first_ring) (defScope s_first_ring) .none kV19 dc19 pm19 an19 cd19 ct19, F_first_ring := fun_mk (st := s_first_ring) l19 c19 k19, g_first_ring := PySem.W.mg_of X G a19, b_first_ring := (fun_mk (st := s_first_ring) l19 c19 k19).binds (ps := ["piece"]) fun _ _ _ _ _ _ us hl => match us, hl with | [_], _ => rfl,
    A__law_turned := f20, D__law_turned := PySem.W.fnOf "_law_turned" "_law_turned" (defArgs s__law_turned) (defBody s__law_turned) (defScope s__law_turned) .none kV20 dc20 pm20 an20 cd20 ct20, F__law_turned := fun_mk (st := s__law_turned) l20 c20 k20, g__law_turned := PySem.W.mg_of X G a20, b__law_turned := (fun_mk (st := s__law_turned) l20 c20 k20).binds (ps := ["_law_p"]) fun _ _ _ _ _ _ us hl => match us, hl with | [_], _ => rfl,
    A_law := fa, D_law := PySem.W.fnOf "law" "law" (defArgs s_law) (defBody s_law) (defScope s_law) .none kV21 dc21 pm21 an21 cd21 ct21, F_law := fun_mk (st := s_law) l21 c21 k21, g_law := PySem.W.mg_of X G a21, b_law := (fun_mk (st := s_law) l21 c21 k21).binds (ps := ["_law_script"]) fun _ _ _ _ _ _ us hl => match us, hl with | [_], _ => rfl,
    z_abs := PySem.W.mg_none_of X G z_abs,
    z_bool := PySem.W.mg_none_of X G z_bool,
    z_int := PySem.W.mg_none_of X G z_int,
    z_isinstance := PySem.W.mg_none_of X G z_isinstance,
    z_len := PySem.W.mg_none_of X G z_len,
    z_list := PySem.W.mg_none_of X G z_list,
    z_range := PySem.W.mg_none_of X G z_range,
    z_tuple := PySem.W.mg_none_of X G z_tuple }
  exact ⟨_, fun s v => .of_eq rfl, fun base _ _ => ok_law (P := l.prog) (w := w) (base := base) T⟩
theorem walk {l : PySem.W.OpenLaw} {q : Program} {loose : List Str} {XP : (Str → Option Value) → Heap → Prop} {YP : World → Heap → Prop} {d : DefRec} {K : Params → PySem.W.Frag} (hn : l.most = some 63) (hdf : d.params.defaults = [])
    (hY : ∀ (w : World) (h : Heap), YP w h → (K w.params).In h)
    (F : ∀ (w : World) (mg : Str → Option Value) (fa : Addr) (h : Heap), (K w.params).In h → h.Ns mainGlobals mg → mg d.name = some (.ref fa) →
      ∃ fd : FuncData, (∀ (s : Shared) (u : Value), BindsTo s fd ⟨[u], []⟩ [("_law_script", u)]) ∧ ∀ base : Heap, (K w.params).In base → base.Ns mainGlobals mg → FnOk l.prog w (K w.params) mg base CX0 6 fa fd ["_law_script"] (sp_law (K w.params))) :
    PySem.W.WalkO q loose XP YP l.row.toRowW d [] (fun f vs => PySem.call f vs) :=
  L2.walk_of (n := 63) (k := 6) (x := "_law_script") (CX := fun _ => CX0) (sp := fun w => sp_law (K w.params)) hn (by decide) hdf ⟨rfl, by decide, by decide⟩ hY F (fun _ H a ns hl _ hS => mk_law (X := fun _ => False) (law_true ns hl) ⟨.s (.of hS) .nil, List.nodup_nil, fun _ h => (nomatch h), fun _ h => h.elim⟩ fun _ _ => rfl) fun _ _ _ _ _ z => z
end Sc
open PySem PySem.W PyProof.Rows
set_option maxRecDepth 100000 in
set_option maxHeartbeats 0 in
theorem PySem.Challenge.cw_slidecut_k23_pieces_and_where_they_lay_holds : PySem.Challenge.rw_slidecut_k23_pieces_and_where_they_lay.Holds := by
  w_on; o_law; k_head; (case hw => w_witness2)
  k_fill
  refine Sc.walk (l := PySem.Challenge.rw_slidecut_k23_pieces_and_where_they_lay) rfl rfl (fun w h Y => PySem.W.kIn_of Y) ?F
  case F =>
    intro w mg fa h KX G hmg
    refine' Sc.all_mk KX G hmg ?a0 ?l0 ?c0 ?k0 ?a1 ?l1 ?c1 ?k1 ?a2 ?l2 ?c2 ?k2 ?a3 ?l3 ?c3 ?k3 ?a4 ?l4 ?c4 ?k4 ?a5 ?l5 ?c5 ?k5 ?a6 ?l6 ?c6 ?k6 ?a7 ?l7 ?c7 ?k7 ?a8 ?l8 ?c8 ?k8 ?a9 ?l9 ?c9 ?k9 ?a10 ?l10 ?c10 ?k10 ?a11 ?l11 ?c11 ?k11 ?a12 ?l12 ?c12 ?k12 ?a13 ?l13 ?c13 ?k13 ?a14 ?l14 ?c14 ?k14 ?a15 ?l15 ?c15 ?k15 ?a16 ?l16 ?c16 ?k16 ?a17 ?l17 ?c17 ?k17 ?a18 ?l18 ?c18 ?k18 ?a19 ?l19 ?c19 ?k19 ?a20 ?l20 ?c20 ?k20 ?a21 ?l21 ?c21 ?k21 ?z_abs ?z_bool ?z_int ?z_isinstance ?z_len ?z_list ?z_range ?z_tuple
    (case a0 => k_is)
    (case l0 => k_is)
    (case c0 => k_is)
    (case k0 => k_is)
    (case a1 => k_is)
    (case l1 => k_is)
    (case c1 => k_is)
    (case k1 => k_is)
    (case a2 => k_is)
    (case l2 => k_is)
    (case c2 => k_is)
    (case k2 => k_is)
    (case a3 => k_is)
    (case l3 => k_is)
    (case c3 => k_is)
    (case k3 => k_is)
    (case a4 => k_is)
    (case l4 => k_is)
    (case c4 => k_is)
    (case k4 => k_is)
    (case a5 => k_is)
    (case l5 => k_is)
    (case c5 => k_is)
    (case k5 => k_is)
    (case a6 => k_is)
    (case l6 => k_is)
    (case c6 => k_is)
    (case k6 => k_is)
    (case a7 => k_is)
    (case l7 => k_is)
    (case c7 => k_is)
    (case k7 => k_is)
    (case a8 => k_is)
    (case l8 => k_is)
    (case c8 => k_is)
    (case k8 => k_is)
    (case a9 => k_is)
    (case l9 => k_is)
    (case c9 => k_is)
    (case k9 => k_is)
    (case a10 => k_is)
    (case l10 => k_is)
    (case c10 => k_is)
    (case k10 => k_is)
    (case a11 => k_is)
    (case l11 => k_is)
    (case c11 => k_is)
    (case k11 => k_is)
    (case a12 => k_is)
    (case l12 => k_is)
    (case c12 => k_is)
    (case k12 => k_is)
    (case a13 => k_is)
    (case l13 => k_is)
    (case c13 => k_is)
    (case k13 => k_is)
    (case a14 => k_is)
    (case l14 => k_is)
    (case c14 => k_is)
    (case k14 => k_is)
    (case a15 => k_is)
    (case l15 => k_is)
    (case c15 => k_is)
    (case k15 => k_is)
    (case a16 => k_is)
    (case l16 => k_is)
    (case c16 => k_is)
    (case k16 => k_is)
    (case a17 => k_is)
    (case l17 => k_is)
    (case c17 => k_is)
    (case k17 => k_is)
    (case a18 => k_is)
    (case l18 => k_is)
    (case c18 => k_is)
    (case k18 => k_is)
    (case a19 => k_is)
    (case l19 => k_is)
    (case c19 => k_is)
    (case k19 => k_is)
    (case a20 => k_is)
    (case l20 => k_is)
    (case c20 => k_is)
    (case k20 => k_is)
    (case a21 => k_is)
    (case l21 => k_is)
    (case c21 => k_is)
    (case k21 => k_is)
    (case z_abs => k_is)
    (case z_bool => k_is)
    (case z_int => k_is)
    (case z_isinstance => k_is)
    (case z_len => k_is)
    (case z_list => k_is)
    (case z_range => k_is)
    (case z_tuple => k_is)
#print axioms PySem.Challenge.cw_slidecut_k23_pieces_and_where_they_lay_holds
