import PyProof.Rows.All
import Wide.All
import OpenK.AllK
import Wide.FinOn
import HandS.ForMost
import HandS.Wide
import HandS.IsInst
import HandS.Style
import HandS.Deep
import HandS.TryOnly
import HandS.ExcOwn
import HandS.ExcIs
import HandS.WordsExc
import KE.DataMinMax
import HandS.TupLe
import HandS.TupSets
import PySem.Challenge.RW_slidecut_k15_where_points_stand
set_option Elab.async false
set_option maxRecDepth 100000
set_option maxHeartbeats 4000000
set_option linter.unusedVariables false
namespace Sc
open PySem PySem.Spec PyProof.Rows L2

/-! ### data in the heap -/
mutual
/-- v stands for the data d; no list of it is one of X -/
inductive Rep (K : PySem.W.Frag) (X : Addr → Prop) (H : Hp) : PyData → V → Prop
  | non : Rep K X H .none .non
  | bl (b : Bool) : Rep K X H (.bool b) (.bl b)
  | int (i : Int) : Rep K X H (.int i) (.int i)
  | str (x : Str) : Rep K X H (.str x) (.str x)
  | tup {a : Addr} {ds : List PyData} {vs : List V} : SqT K H a vs → Reps K X H ds vs → Rep K X H (.tuple ds) (.ref a)
  | lst {a : Addr} {ds : List PyData} {vs : List V} : ¬ X a → Rd H a (.lst vs) → Reps K X H ds vs → Rep K X H (.list ds) (.ref a)
inductive Reps (K : PySem.W.Frag) (X : Addr → Prop) (H : Hp) : List PyData → List V → Prop
  | nil : Reps K X H [] []
  | cons {d : PyData} {ds : List PyData} {v : V} {vs : List V} : Rep K X H d v → Reps K X H ds vs → Reps K X H (d :: ds) (v :: vs)
end

/-- what may not be written stands as it stood -/
def Keep (X : Addr → Prop) (H H' : Hp) : Prop :=
  (∀ a o, H a = some o → ¬ X a → H' a = some o) ∧ (∀ a vs, H a = some (.tup vs) → H' a = some (.tup vs)) ∧ (∀ a o u, H a = some (.frz o u) → H' a = some (.frz o u))
theorem Keep.refl {X : Addr → Prop} {H : Hp} : Keep X H H := ⟨fun _ _ h _ => h, fun _ _ h => h, fun _ _ _ h => h⟩
theorem Keep.same {X : Addr → Prop} {H H' : Hp} (s : Same H H') : Keep X H H' := ⟨fun _ _ h _ => s _ _ h, fun _ _ h => s _ _ h, fun _ _ _ h => s _ _ h⟩
theorem Keep.rd {X : Addr → Prop} {H H' : Hp} (k : Keep X H H') {a : Addr} {o : HO} (n : ¬ X a) (h : Rd H a o) : Rd H' a o := by
  rcases h with h | ⟨u, h⟩
  · exact .inl (k.1 _ _ h n)
  · exact .inr ⟨u, k.2.2 _ _ _ h⟩
theorem Keep.sqT {X : Addr → Prop} {K : PySem.W.Frag} {H H' : Hp} (k : Keep X H H') {a : Addr} {vs : List V} (h : SqT K H a vs) : SqT K H' a vs := by
  rcases h with (h | ⟨o, h⟩) | h
  · exact .inl (.inl (k.2.1 _ _ h))
  · exact .inl (.inr ⟨o, k.2.2 _ _ _ h⟩)
  · exact .inr h
theorem Keep.mono {X Y : Addr → Prop} {H H' : Hp} (k : Keep X H H') (h : ∀ a, X a → Y a) : Keep Y H H' := ⟨fun a o e n => k.1 a o e fun z => n (h a z), k.2.1, k.2.2⟩
theorem Keep.trans {X : Addr → Prop} {H H1 H2 : Hp} (k : Keep X H H1) (j : Keep X H1 H2) : Keep X H H2 := ⟨fun a o e n => j.1 a o (k.1 a o e n) n, fun a v e => j.2.1 a v (k.2.1 a v e), fun a o u e => j.2.2 a o u (k.2.2 a o u e)⟩

section
variable {K : PySem.W.Frag} {X Y : Addr → Prop} {H H' : Hp}
mutual
theorem Rep.keep (k : Keep X H H') : ∀ {d : PyData} {v : V}, Rep K X H d v → Rep K X H' d v
  | _, _, .non => .non
  | _, _, .bl b => .bl b
  | _, _, .int i => .int i
  | _, _, .str x => .str x
  | _, _, .tup h r => .tup (k.sqT h) (Reps.keep k r)
  | _, _, .lst n h r => .lst n (k.rd n h) (Reps.keep k r)
theorem Reps.keep (k : Keep X H H') : ∀ {d : List PyData} {v : List V}, Reps K X H d v → Reps K X H' d v
  | _, _, .nil => .nil
  | _, _, .cons r t => .cons (Rep.keep k r) (Reps.keep k t)
end
mutual
theorem Rep.anti (h : ∀ a, Y a → X a) : ∀ {d : PyData} {v : V}, Rep K X H d v → Rep K Y H d v
  | _, _, .non => .non
  | _, _, .bl b => .bl b
  | _, _, .int i => .int i
  | _, _, .str x => .str x
  | _, _, .tup q r => .tup q (Reps.anti h r)
  | _, _, .lst n q r => .lst (fun z => n (h _ z)) q (Reps.anti h r)
theorem Reps.anti (h : ∀ a, Y a → X a) : ∀ {d : List PyData} {v : List V}, Reps K X H d v → Reps K Y H d v
  | _, _, .nil => .nil
  | _, _, .cons r t => .cons (Rep.anti h r) (Reps.anti h t)
end
theorem rd_nn {a : Addr} {o : HO} (h : Rd H a o) : H a ≠ none := by
  rcases h with h | ⟨u, h⟩ <;> rw [h] <;> exact fun z => nomatch z
mutual
/-- a new address may be forbidden -/
theorem Rep.more {p : Addr} (hp : H p = none) : ∀ {d : PyData} {v : V}, Rep K X H d v → Rep K (fun a => X a ∨ a = p) H d v
  | _, _, .non => .non
  | _, _, .bl b => .bl b
  | _, _, .int i => .int i
  | _, _, .str x => .str x
  | _, _, .tup q r => .tup q (Reps.more hp r)
  | _, _, .lst n q r => .lst (fun z => z.elim n fun e => rd_nn q (e ▸ hp)) q (Reps.more hp r)
theorem Reps.more {p : Addr} (hp : H p = none) : ∀ {d : List PyData} {v : List V}, Reps K X H d v → Reps K (fun a => X a ∨ a = p) H d v
  | _, _, .nil => .nil
  | _, _, .cons r t => .cons (Rep.more hp r) (Reps.more hp t)
end
mutual
theorem Rep.dp : ∀ {d : PyData} {v : V}, Rep K X H d v → Dp K H v d
  | _, _, .non => .non
  | _, _, .bl b => .bl b
  | _, _, .int i => .int i
  | _, _, .str x => .str x
  | _, _, .tup q r => .tup q (Reps.dp r)
  | _, _, .lst n q r => .lst (.inl q) (Reps.dp r)
theorem Reps.dp : ∀ {d : List PyData} {v : List V}, Reps K X H d v → DpAll K H v d
  | _, _, .nil => .nil
  | _, _, .cons r t => .cons (Rep.dp r) (Reps.dp t)
end
theorem Reps.length : ∀ {ds : List PyData} {vs : List V}, Reps K X H ds vs → vs.length = ds.length
  | _, _, .nil => rfl
  | _, _, .cons _ t => congrArg (· + 1) (Reps.length t)
theorem Reps.get : ∀ {ds : List PyData} {vs : List V} {i : Nat} {d : PyData}, Reps K X H ds vs → ds[i]? = some d → ∃ v, vs[i]? = some v ∧ Rep K X H d v
  | _, _, _, _, .nil, e => by simp at e
  | _, _, 0, _, .cons r _, e => by simp at e; subst e; exact ⟨_, rfl, r⟩
  | _, _, i + 1, d, .cons _ t, e => by
    obtain ⟨v, h1, h2⟩ := Reps.get (i := i) t (by simpa using e)
    exact ⟨v, by simpa using h1, h2⟩
theorem Reps.get' : ∀ {ds : List PyData} {vs : List V} {i : Nat} {v : V}, Reps K X H ds vs → vs[i]? = some v → ∃ d, ds[i]? = some d ∧ Rep K X H d v
  | _, _, _, _, .nil, e => by simp at e
  | _, _, 0, _, .cons r _, e => by simp at e; subst e; exact ⟨_, rfl, r⟩
  | _, _, i + 1, d, .cons _ t, e => by
    obtain ⟨v, h1, h2⟩ := Reps.get' (i := i) t (by simpa using e)
    exact ⟨v, by simpa using h1, h2⟩
theorem Reps.append : ∀ {d1 d2 : List PyData} {v1 v2 : List V}, Reps K X H d1 v1 → Reps K X H d2 v2 → Reps K X H (d1 ++ d2) (v1 ++ v2)
  | _, _, _, _, .nil, s => s
  | _, _, _, _, .cons r t, s => .cons r (Reps.append t s)
theorem Reps.take : ∀ {d1 : List PyData} {v1 : List V} (n : Nat), Reps K X H d1 v1 → Reps K X H (d1.take n) (v1.take n)
  | _, _, 0, _ => .nil
  | _, _, _ + 1, .nil => .nil
  | _, _, n + 1, .cons r t => .cons r (Reps.take n t)
theorem Reps.drop : ∀ {d1 : List PyData} {v1 : List V} (n : Nat), Reps K X H d1 v1 → Reps K X H (d1.drop n) (v1.drop n)
  | _, _, 0, h => h
  | _, _, _ + 1, .nil => .nil
  | _, _, n + 1, .cons _ t => Reps.drop n t
theorem Reps.set {d : PyData} {v : V} (q : Rep K X H d v) : ∀ {d1 : List PyData} {v1 : List V} (n : Nat), Reps K X H d1 v1 → Reps K X H (d1.set n d) (v1.set n v)
  | _, _, _, .nil => .nil
  | _, _, 0, .cons _ t => .cons q t
  | _, _, n + 1, .cons r t => .cons r (Reps.set q n t)
theorem Reps.reverse {ds : List PyData} {vs : List V} (h : Reps K X H ds vs) : Reps K X H ds.reverse vs.reverse := by
  induction ds generalizing vs with
  | nil => cases h; exact .nil
  | cons d ds ih => cases h with | cons r t => rw [List.reverse_cons, List.reverse_cons]; exact (ih t).append (.cons r .nil)
theorem Reps.ints : ∀ {ns : List Int}, Reps K X H (ns.map PyData.int) (ns.map V.int)
  | [] => .nil
  | n :: ns => .cons (.int n) Reps.ints
theorem Reps.toInts : ∀ {ns : List Int} {vs : List V}, Reps K X H (ns.map PyData.int) vs → vs = ns.map V.int
  | [], _, .nil => rfl
  | n :: ns, _, .cons (.int _) t => by rw [List.map_cons, Reps.toInts t]
theorem Reps.toBools : ∀ {ns : List Bool} {vs : List V}, Reps K X H (ns.map PyData.bool) vs → vs = ns.map V.bl
  | [], _, .nil => rfl
  | n :: ns, _, .cons (.bl _) t => by rw [List.map_cons, Reps.toBools t]
end

/-! ### Lean data as Python data -/
class Py (α : Type) where
  enc : α → PyData
open Py (enc)
instance : Py Int := ⟨.int⟩
instance : Py Bool := ⟨.bool⟩
instance : Py Unit := ⟨fun _ => .none⟩
instance : Py Str := ⟨.str⟩
structure T1 (α : Type) where
  a : α
  deriving DecidableEq
structure T2 (α β : Type) where
  a : α
  b : β
  deriving DecidableEq
structure T3 (α β γ : Type) where
  a : α
  b : β
  c : γ
  deriving DecidableEq
structure T4 (α β γ δ : Type) where
  a : α
  b : β
  c : γ
  d : δ
  deriving DecidableEq
structure T5 (α β γ δ ε : Type) where
  a : α
  b : β
  c : γ
  d : δ
  e : ε
  deriving DecidableEq
section
variable {α β γ δ ε : Type}
instance [Py α] : Py (T1 α) := ⟨fun x => .tuple [enc x.a]⟩
instance [Py α] [Py β] : Py (T2 α β) := ⟨fun x => .tuple [enc x.a, enc x.b]⟩
instance [Py α] [Py β] [Py γ] : Py (T3 α β γ) := ⟨fun x => .tuple [enc x.a, enc x.b, enc x.c]⟩
instance [Py α] [Py β] [Py γ] [Py δ] : Py (T4 α β γ δ) := ⟨fun x => .tuple [enc x.a, enc x.b, enc x.c, enc x.d]⟩
instance [Py α] [Py β] [Py γ] [Py δ] [Py ε] : Py (T5 α β γ δ ε) := ⟨fun x => .tuple [enc x.a, enc x.b, enc x.c, enc x.d, enc x.e]⟩
instance [Py α] : Py (List α) := ⟨fun xs => .list (xs.map enc)⟩
instance [Py α] : Py (Option α) := ⟨fun x => match x with | none => .none | some y => enc y⟩
end

/-- the script -/
def SqX (K : PySem.W.Frag) (X : Addr → Prop) (H : Hp) (ns : List Int) (v : V) : Prop := ∃ a, v = .ref a ∧ ((¬ X a ∧ Rd H a (.lst (ns.map V.int))) ∨ ∀ H', SqL K H' a (ns.map V.int))
section
variable {K : PySem.W.Frag} {X Y : Addr → Prop} {H H' : Hp} {ns : List Int} {v : V}
theorem SqX.keep (k : Keep X H H') (h : SqX K X H ns v) : SqX K X H' ns v := by
  obtain ⟨a, e, h⟩ := h
  exact ⟨a, e, h.imp (fun z => ⟨z.1, k.rd z.1 z.2⟩) id⟩
theorem SqX.anti (g : ∀ a, Y a → X a) (h : SqX K X H ns v) : SqX K Y H ns v := by
  obtain ⟨a, e, h⟩ := h
  exact ⟨a, e, h.imp (fun z => ⟨fun y => z.1 (g _ y), z.2⟩) id⟩
theorem SqX.more {p : Addr} (hp : H p = none) (h : SqX K X H ns v) : SqX K (fun a => X a ∨ a = p) H ns v := by
  obtain ⟨a, e, h⟩ := h
  exact ⟨a, e, h.imp (fun z => ⟨fun y => y.elim z.1 fun e => rd_nn z.2 (e ▸ hp), z.2⟩) id⟩
theorem SqX.sq (h : SqX K X H ns v) : ∃ a, v = .ref a ∧ SqL K H a (ns.map V.int) := by
  obtain ⟨a, e, h⟩ := h
  exact ⟨a, e, h.elim (fun z => .inl z.2) fun z => z H⟩
theorem SqX.of {a : Addr} (h : SqL K H a (ns.map V.int)) : SqX K (fun _ => False) H ns (.ref a) := ⟨a, rfl, h.elim (fun z => .inl ⟨id, z⟩) fun z => .inr fun _ => .inr z⟩
end

/-! ### the state of a def's body -/
/-- an object that the body may write -/
inductive MO where
  | lst (ds : List PyData)
/-- an object of a list -/
abbrev ml {α : Type} [Py α] (xs : List α) : MO := .lst (xs.map enc)
/-- a slot: nothing known, data, an object that may be written; tmp: such an object in no slot -/
inductive Sl where
  | unk
  | scr (ns : List Int)
  | ref (a : Addr)
  | imm (d : PyData)
  | mu (p : Addr) (o : MO)
  | tmp (p : Addr) (o : MO)
def Sl.ad : Sl → Option Addr
  | .mu p _ => some p
  | .tmp p _ => some p
  | _ => none
def muts (Γ : List Sl) : List Addr := Γ.filterMap Sl.ad
/-- the object at p is o -/
def MRep (K : PySem.W.Frag) (X : Addr → Prop) (H : Hp) (p : Addr) : MO → Prop
  | .lst ds => ∃ vs, H p = some (.lst vs) ∧ Reps K X H ds vs
def SlOk (K : PySem.W.Frag) (X : Addr → Prop) (H : Hp) (v : Option (Option V)) : Sl → Prop
  | .unk => True
  | .scr ns => ∃ u, v = some (some u) ∧ SqX K X H ns u
  | .ref a => v = some (some (.ref a))
  | .imm d => ∃ u, v = some (some u) ∧ Rep K X H d u
  | .mu p o => v = some (some (.ref p)) ∧ MRep K X H p o
  | .tmp p o => MRep K X H p o
/-- the known ones: the written part, what may be written at the entry, the heap there, whose objects the body may change -/
structure Cn where
  K : PySem.W.Frag
  X0 : Addr → Prop
  H0 : Hp
  P0 : List Addr
  n : Nat
structure Lo (C : Cn) (X : Addr → Prop) (H : Hp) (σ : L2.St) (Γ : List Sl) : Prop where
  len : σ.length = C.n
  at_ : ∀ (i : Nat) (s : Sl), Γ[i]? = some s → SlOk C.K X H σ[i]? s
  nd : (muts Γ).Nodup
  mx : ∀ p ∈ muts Γ, X p
  m0 : ∀ a, C.X0 a → X a
  xd : ∀ a, X a → H a ≠ none
  base : ∀ a o, C.H0 a = some o → a ∉ C.P0 → H a = some o
  dom : ∀ a, C.H0 a ≠ none → H a ≠ none
  own : ∀ p ∈ muts Γ, p ∈ C.P0 ∨ C.H0 p = none
  tf : ∀ a ∈ C.P0, (∀ vs, C.H0 a ≠ some (.tup vs)) ∧ (∀ o u, C.H0 a ≠ some (.frz o u))

theorem MRep.keep {K : PySem.W.Frag} {X : Addr → Prop} {H H' : Hp} {p : Addr} (k : Keep X H H') (e : H' p = H p) : ∀ {o : MO}, MRep K X H p o → MRep K X H' p o
  | .lst _, ⟨vs, h, r⟩ => ⟨vs, e.trans h, r.keep k⟩
theorem MRep.anti {K : PySem.W.Frag} {X Y : Addr → Prop} {H : Hp} {p : Addr} (h : ∀ a, Y a → X a) : ∀ {o : MO}, MRep K X H p o → MRep K Y H p o
  | .lst _, ⟨vs, q, r⟩ => ⟨vs, q, r.anti h⟩
theorem MRep.more {K : PySem.W.Frag} {X : Addr → Prop} {H : Hp} {p q : Addr} (h : H q = none) : ∀ {o : MO}, MRep K X H p o → MRep K (fun a => X a ∨ a = q) H p o
  | .lst _, ⟨vs, e, r⟩ => ⟨vs, e, r.more h⟩
theorem MRep.nn {K : PySem.W.Frag} {X : Addr → Prop} {H : Hp} {p : Addr} : ∀ {o : MO}, MRep K X H p o → H p ≠ none
  | .lst _, ⟨vs, e, r⟩ => by rw [e]; exact fun z => nomatch z
theorem MRep.ntup {K : PySem.W.Frag} {X : Addr → Prop} {H : Hp} {p : Addr} : ∀ {o : MO}, MRep K X H p o → (∀ vs, H p ≠ some (.tup vs)) ∧ (∀ u w, H p ≠ some (.frz u w))
  | .lst _, ⟨vs, e, r⟩ => by
    rw [e]
    constructor
    · intro _ z; cases z
    · intro _ _ z; cases z

theorem mem_muts {Γ : List Sl} {p : Addr} : p ∈ muts Γ ↔ ∃ (i : Nat) (s : Sl), Γ[i]? = some s ∧ s.ad = some p := by
  unfold muts
  rw [List.mem_filterMap]
  constructor
  · rintro ⟨s, hs, e⟩
    obtain ⟨i, hi⟩ := List.getElem?_of_mem hs
    exact ⟨i, s, hi, e⟩
  · rintro ⟨i, s, hi, e⟩
    exact ⟨s, List.mem_of_getElem? hi, e⟩

section
variable {C : Cn} {X : Addr → Prop} {H H' : Hp} {σ : L2.St} {Γ : List Sl}
theorem SlOk.mrep {K : PySem.W.Frag} {v : Option (Option V)} {s : Sl} {p : Addr} (h : SlOk K X H v s) (e : s.ad = some p) : ∃ o, MRep K X H p o := by
  cases s with
  | unk => cases e
  | scr ns => cases e
  | ref a => cases e
  | imm d => cases e
  | mu q o => cases e; exact ⟨o, h.2⟩
  | tmp q o => cases e; exact ⟨o, h⟩
theorem SlOk.keep {K : PySem.W.Frag} {v : Option (Option V)} (k : Keep X H H') : ∀ {s : Sl}, (∀ p, s.ad = some p → H' p = H p) → SlOk K X H v s → SlOk K X H' v s
  | .unk, _, _ => trivial
  | .scr _, _, ⟨u, e, r⟩ => ⟨u, e, r.keep k⟩
  | .ref _, _, e => e
  | .imm _, _, ⟨u, e, r⟩ => ⟨u, e, r.keep k⟩
  | .mu p _, g, ⟨e, r⟩ => ⟨e, r.keep k (g p rfl)⟩
  | .tmp p _, g, r => MRep.keep k (g p rfl) r
theorem SlOk.anti {K : PySem.W.Frag} {Y : Addr → Prop} {v : Option (Option V)} (h : ∀ a, Y a → X a) : ∀ {s : Sl}, SlOk K X H v s → SlOk K Y H v s
  | .unk, _ => trivial
  | .scr _, ⟨u, e, r⟩ => ⟨u, e, r.anti h⟩
  | .ref _, e => e
  | .imm _, ⟨u, e, r⟩ => ⟨u, e, r.anti h⟩
  | .mu p _, ⟨e, r⟩ => ⟨e, r.anti h⟩
  | .tmp p _, r => MRep.anti h r
theorem SlOk.more {K : PySem.W.Frag} {v : Option (Option V)} {q : Addr} (h : H q = none) : ∀ {s : Sl}, SlOk K X H v s → SlOk K (fun a => X a ∨ a = q) H v s
  | .unk, _ => trivial
  | .scr _, ⟨u, e, r⟩ => ⟨u, e, r.more h⟩
  | .ref _, e => e
  | .imm _, ⟨u, e, r⟩ => ⟨u, e, r.more h⟩
  | .mu p _, ⟨e, r⟩ => ⟨e, r.more h⟩
  | .tmp p _, r => MRep.more h r
theorem Lo.mem (L : Lo C X H σ Γ) {p : Addr} (h : p ∈ muts Γ) : ∃ o, MRep C.K X H p o := by
  obtain ⟨i, s, hi, e⟩ := mem_muts.mp h
  exact (L.at_ i s hi).mrep e
theorem Lo.same (L : Lo C X H σ Γ) (s : Same H H') : Lo C X H' σ Γ := by
  have hd : ∀ a, H a ≠ none → H' a = H a := fun a h => by
    cases e : H a with
    | none => exact (h e).elim
    | some o => exact s a o e
  refine ⟨L.len, fun i t hi => (L.at_ i t hi).keep (.same s) fun p e => hd p ?_, L.nd, L.mx, L.m0, fun a h => ?_, fun a o e n => s _ _ (L.base a o e n), fun a h => ?_, L.own, L.tf⟩
  · obtain ⟨o, r⟩ := (L.at_ i t hi).mrep e
    exact r.nn
  · rw [hd a (L.xd a h)]; exact L.xd a h
  · rw [hd a (L.dom a h)]; exact L.dom a h
theorem nodup_setS {s0 : Sl} (e0 : s0.ad = none) : ∀ {Γ : List Sl} {i : Nat}, (muts Γ).Nodup → (muts (Γ.set i s0)).Nodup
  | [], _, h => h
  | s :: Γ, 0, h => by
    refine List.Sublist.nodup ?_ h
    show (List.filterMap Sl.ad (s0 :: Γ)).Sublist (List.filterMap Sl.ad (s :: Γ))
    rw [List.filterMap_cons, e0]
    show (List.filterMap Sl.ad Γ).Sublist _
    rw [List.filterMap_cons]
    cases s.ad with
    | none => exact List.Sublist.refl _
    | some p => exact List.sublist_cons_self _ _
  | s :: Γ, i + 1, h => by
    have h' : (List.filterMap Sl.ad (s :: Γ)).Nodup := h
    show (List.filterMap Sl.ad (s :: Γ.set i s0)).Nodup
    rw [List.filterMap_cons] at h' ⊢
    cases e : s.ad with
    | none =>
      rw [e] at h'
      exact nodup_setS e0 (i := i) h'
    | some p =>
      rw [e] at h'
      obtain ⟨n1, n2⟩ := List.nodup_cons.mp h'
      refine List.nodup_cons.mpr ⟨fun hp => n1 ?_, nodup_setS e0 (i := i) n2⟩
      obtain ⟨t, ht, et⟩ := List.mem_filterMap.mp hp
      rcases List.mem_or_eq_of_mem_set ht with q | q
      · exact List.mem_filterMap.mpr ⟨t, q, et⟩
      · subst q; rw [e0] at et; cases et
theorem nodup_set {Γ : List Sl} {i : Nat} {d : PyData} (h : (muts Γ).Nodup) : (muts (Γ.set i (.imm d))).Nodup := nodup_setS rfl h
theorem muts_setS {s0 : Sl} (e0 : s0.ad = none) {Γ : List Sl} {i : Nat} {p : Addr} (hp : p ∈ muts (Γ.set i s0)) : p ∈ muts Γ := by
  obtain ⟨j, s, hj, e⟩ := mem_muts.mp hp
  by_cases z : j = i
  · subst z
    by_cases hi : j < Γ.length
    · rw [List.getElem?_set_self hi] at hj
      cases hj; rw [e0] at e; cases e
    · rw [List.getElem?_eq_none_iff.mpr (by rw [List.length_set]; omega)] at hj
      cases hj
  · rw [List.getElem?_set_ne (Ne.symm z)] at hj
    exact mem_muts.mpr ⟨j, s, hj, e⟩
theorem muts_set_imm {Γ : List Sl} {i : Nat} {d : PyData} {p : Addr} (hp : p ∈ muts (Γ.set i (.imm d))) : p ∈ muts Γ := by
  obtain ⟨j, s, hj, e⟩ := mem_muts.mp hp
  by_cases z : j = i
  · subst z
    by_cases hi : j < Γ.length
    · rw [List.getElem?_set_self hi] at hj
      cases hj; cases e
    · rw [List.getElem?_eq_none_iff.mpr (by rw [List.length_set]; omega)] at hj
      cases hj
  · rw [List.getElem?_set_ne (Ne.symm z)] at hj
    exact mem_muts.mpr ⟨j, s, hj, e⟩
/-- a value is stored -/
theorem Lo.set (L : Lo C X H σ Γ) {i : Nat} {v : V} {d : PyData} (r : Rep C.K X H d v) (hi : i < C.n) : Lo C X H (σ.set i (some v)) (Γ.set i (.imm d)) := by
  refine ⟨by rw [List.length_set]; exact L.len, fun j s hj => ?_, nodup_set L.nd, fun p hp => L.mx p (muts_set_imm hp), L.m0, L.xd, L.base, L.dom, fun p hp => L.own p (muts_set_imm hp), L.tf⟩
  by_cases z : j = i
  · subst z
    have hlt : j < Γ.length := by
      have h2 := (List.getElem?_eq_some_iff.mp hj).1
      rw [List.length_set] at h2; exact h2
    rw [List.getElem?_set_self hlt] at hj
    cases hj
    exact ⟨v, List.getElem?_set_self (by rw [L.len]; exact hi), r⟩
  · rw [List.getElem?_set_ne (Ne.symm z)] at hj
    rw [List.getElem?_set_ne (Ne.symm z)]
    exact L.at_ j s hj
end

section
variable {C : Cn} {X : Addr → Prop} {H H' : Hp} {σ : L2.St} {Γ Γ' : List Sl}
/-- a value that is no data is stored, or none -/
theorem Lo.setS (L : Lo C X H σ Γ) {i : Nat} {v : Option V} {s : Sl} (e : s.ad = none) (r : SlOk C.K X H (some v) s) (hi : i < C.n) : Lo C X H (σ.set i v) (Γ.set i s) := by
  refine ⟨by rw [List.length_set]; exact L.len, fun j t hj => ?_, nodup_setS e L.nd, fun p hp => L.mx p (muts_setS e hp), L.m0, L.xd, L.base, L.dom, fun p hp => L.own p (muts_setS e hp), L.tf⟩
  by_cases z : j = i
  · subst z
    have hlt : j < Γ.length := by
      have h2 := (List.getElem?_eq_some_iff.mp hj).1
      rw [List.length_set] at h2; exact h2
    rw [List.getElem?_set_self hlt] at hj
    cases hj
    rw [List.getElem?_set_self (by rw [L.len]; exact hi)]
    exact r
  · rw [List.getElem?_set_ne (Ne.symm z)] at hj
    rw [List.getElem?_set_ne (Ne.symm z)]
    exact L.at_ j t hj
end
/-- a weaker description: slots forgotten, the last ones dropped -/
def Wk : List Sl → List Sl → Prop
  | _, [] => True
  | [], s' :: Γ' => s' = .unk ∧ Wk [] Γ'
  | s :: Γ, s' :: Γ' => (s' = s ∨ s' = .unk) ∧ Wk Γ Γ'
theorem Wk.e {Γ : List Sl} : Wk Γ [] := by cases Γ <;> exact trivial
theorem Wk.k {s : Sl} {Γ Γ' : List Sl} (h : Wk Γ Γ') : Wk (s :: Γ) (s :: Γ') := ⟨.inl rfl, h⟩
theorem Wk.d {s : Sl} {Γ Γ' : List Sl} (h : Wk Γ Γ') : Wk (s :: Γ) (.unk :: Γ') := ⟨.inr rfl, h⟩
theorem Wk.get : ∀ {Γ Γ' : List Sl}, Wk Γ Γ' → ∀ {i : Nat} {s : Sl}, Γ'[i]? = some s → s = .unk ∨ Γ[i]? = some s
  | _, [], _, _, _, e => by simp at e
  | [], s' :: Γ', ⟨h, t⟩, 0, s, e => by simp at e; subst e; exact .inl h
  | [], s' :: Γ', ⟨h, t⟩, i + 1, s, e => by
    rcases Wk.get t (i := i) (s := s) (by simpa using e) with z | z
    · exact .inl z
    · simp at z
  | s0 :: Γ, s' :: Γ', ⟨h, t⟩, 0, s, e => by
    simp at e; subst e
    rcases h with h | h
    · subst h; exact .inr rfl
    · exact .inl h
  | s0 :: Γ, s' :: Γ', ⟨h, t⟩, i + 1, s, e => by
    rcases Wk.get t (i := i) (s := s) (by simpa using e) with z | z
    · exact .inl z
    · exact .inr (by simpa using z)
theorem Wk.sub : ∀ {Γ Γ' : List Sl}, Wk Γ Γ' → (muts Γ').Sublist (muts Γ)
  | _, [], _ => List.nil_sublist _
  | [], s' :: Γ', ⟨h, t⟩ => by
    subst h
    exact Wk.sub (Γ := []) (Γ' := Γ') t
  | s0 :: Γ, s' :: Γ', ⟨h, t⟩ => by
    have ih := Wk.sub t
    unfold muts at ih ⊢
    rw [List.filterMap_cons, List.filterMap_cons]
    rcases h with h | h
    · subst h
      cases s'.ad with
      | none => exact ih
      | some p => exact ih.cons_cons _
    · subst h
      show (List.filterMap Sl.ad Γ').Sublist _
      cases s0.ad with
      | none => exact ih
      | some p => exact ih.cons _

/-- what a def tells: data, or a new object of the caller's own -/
inductive Rs where
  | imm (d : PyData)
  | new (o : MO)
def RRep (K : PySem.W.Frag) (X : Addr → Prop) (H H' : Hp) : Rs → V → Prop
  | .imm d, v => Rep K X H' d v
  | .new o, v => ∃ p, v = .ref p ∧ H p = none ∧ MRep K (fun a => X a ∨ a = p) H' p o
structure Fin (K : PySem.W.Frag) (X : Addr → Prop) (H : Hp) (P0 : List Addr) (ps : List (Addr × MO)) (rs : Rs) (v : V) (H' : Hp) : Prop where
  base : ∀ a o, H a = some o → a ∉ P0 → H' a = some o
  dom : ∀ a, H a ≠ none → H' a ≠ none
  mu : ∀ q ∈ ps, MRep K X H' q.1 q.2
  res : RRep K X H H' rs v
def As (K : PySem.W.Frag) (X : Addr → Prop) (H : Hp) : List Sl → List V → Prop
  | [], vs => vs = []
  | s :: Γ, vs => ∃ v r, vs = v :: r ∧ SlOk K X H (some (some v)) s ∧ As K X H Γ r
theorem As.nil {K : PySem.W.Frag} {X : Addr → Prop} {H : Hp} : As K X H [] [] := rfl
theorem As.im {K : PySem.W.Frag} {X : Addr → Prop} {H : Hp} {d : PyData} {v : V} {Γ : List Sl} {vs : List V} (r : Rep K X H d v) (t : As K X H Γ vs) : As K X H (.imm d :: Γ) (v :: vs) := ⟨v, vs, rfl, ⟨v, rfl, r⟩, t⟩
theorem As.m {K : PySem.W.Frag} {X : Addr → Prop} {H : Hp} {p : Addr} {o : MO} {Γ : List Sl} {vs : List V} (r : MRep K X H p o) (t : As K X H Γ vs) : As K X H (.mu p o :: Γ) (.ref p :: vs) := ⟨_, vs, rfl, ⟨rfl, r⟩, t⟩
theorem As.s {K : PySem.W.Frag} {X : Addr → Prop} {H : Hp} {ns : List Int} {v : V} {Γ : List Sl} {vs : List V} (r : SqX K X H ns v) (t : As K X H Γ vs) : As K X H (.scr ns :: Γ) (v :: vs) := ⟨v, vs, rfl, ⟨v, rfl, r⟩, t⟩
/-- what a def asks of its arguments -/
structure Cond (K : PySem.W.Frag) (X : Addr → Prop) (H : Hp) (Γ : List Sl) (vs : List V) : Prop where
  as : As K X H Γ vs
  nd : (muts Γ).Nodup
  mx : ∀ p ∈ muts Γ, X p
  xd : ∀ a, X a → H a ≠ none
theorem As.len {K : PySem.W.Frag} {X : Addr → Prop} {H : Hp} : ∀ {Γ : List Sl} {vs : List V}, As K X H Γ vs → vs.length = Γ.length
  | [], _, h => by subst h; rfl
  | s :: Γ, _, ⟨v, r, e, _, t⟩ => by subst e; exact congrArg (· + 1) (As.len t)
theorem As.get {K : PySem.W.Frag} {X : Addr → Prop} {H : Hp} : ∀ {Γ : List Sl} {vs : List V}, As K X H Γ vs → ∀ {i : Nat} {s : Sl}, Γ[i]? = some s → ∃ v, vs[i]? = some v ∧ SlOk K X H (some (some v)) s
  | [], _, h, _, _, e => by simp at e
  | s :: Γ, _, ⟨v, r, e, h, t⟩, 0, s', e' => by subst e; simp at e'; subst e'; exact ⟨v, rfl, h⟩
  | s :: Γ, _, ⟨v, r, e, h, t⟩, i + 1, s', e' => by
    subst e
    obtain ⟨u, h1, h2⟩ := As.get t (i := i) (s := s') (by simpa using e')
    exact ⟨u, by simpa using h1, h2⟩
theorem Cond.len {K : PySem.W.Frag} {X : Addr → Prop} {H : Hp} {Γ : List Sl} {vs : List V} (c : Cond K X H Γ vs) : vs.length = Γ.length := c.as.len
theorem muts_unk : ∀ {Γ : List Sl} (n : Nat), muts (Γ ++ List.replicate n .unk) = muts Γ := fun {Γ} n => by
  unfold muts
  rw [List.filterMap_append]
  have : ∀ n, List.filterMap Sl.ad (List.replicate n Sl.unk) = [] := fun n => by
    induction n with
    | zero => rfl
    | succ n ih => rw [List.replicate_succ, List.filterMap_cons]; exact ih
  rw [this, List.append_nil]
theorem Cond.start {K : PySem.W.Frag} {X : Addr → Prop} {H : Hp} {Γ : List Sl} {vs : List V} (c : Cond K X H Γ vs) (N : List Str) (hn : Γ.length ≤ N.length) :
    Lo ⟨K, X, H, muts Γ, N.length⟩ X H (L2.start N vs) (Γ ++ List.replicate (N.length - Γ.length) .unk) := by
  refine ⟨?_, fun i s hi => ?_, by rw [muts_unk]; exact c.nd, fun p hp => c.mx p (by rw [muts_unk] at hp; exact hp), fun _ h => h, c.xd, fun _ _ h _ => h, fun _ h => h, fun p hp => .inl (by rw [muts_unk] at hp; exact hp), fun a ha => ?_⟩
  · show (vs.map some ++ List.replicate (N.length - vs.length) none).length = N.length
    rw [List.length_append, List.length_map, List.length_replicate, c.len]
    omega
  · by_cases h : i < Γ.length
    · rw [List.getElem?_append_left h] at hi
      obtain ⟨v, h1, h2⟩ := c.as.get hi
      have h3 : (L2.start N vs)[i]? = some (some v) := by
        show (vs.map some ++ List.replicate (N.length - vs.length) none)[i]? = _
        rw [List.getElem?_append_left (by rw [List.length_map, c.len]; exact h), List.getElem?_map, h1]
        rfl
      rw [h3]; exact h2
    · rw [List.getElem?_append_right (by omega)] at hi
      have := List.mem_of_getElem? hi
      rw [List.mem_replicate] at this
      rw [this.2]; trivial
  · obtain ⟨i, s, hi, e⟩ := mem_muts.mp (show a ∈ muts Γ from ha)
    obtain ⟨v, _, h2⟩ := c.as.get hi
    obtain ⟨o, r⟩ := h2.mrep e
    exact r.ntup

section
variable {C : Cn} {X : Addr → Prop} {H H' : Hp} {σ : L2.St} {Γ Γ' : List Sl}
theorem Lo.weak (L : Lo C X H σ Γ) (w : Wk Γ Γ') : Lo C X H σ Γ' := by
  refine ⟨L.len, fun i s hi => ?_, w.sub.nodup L.nd, fun p hp => L.mx p (w.sub.mem hp), L.m0, L.xd, L.base, L.dom, fun p hp => L.own p (w.sub.mem hp), L.tf⟩
  rcases w.get hi with z | z
  · subst z; trivial
  · exact L.at_ i s z
/-- an enclosing view is entered and left -/
abbrev Cn.at_ (C : Cn) (X : Addr → Prop) (H : Hp) (Γ : List Sl) : Cn := ⟨C.K, X, H, muts Γ, C.n⟩
theorem Lo.enter (L : Lo C X H σ Γ) : Lo (C.at_ X H Γ) X H σ Γ :=
  ⟨L.len, L.at_, L.nd, L.mx, fun _ h => h, L.xd, fun _ _ h _ => h, fun _ h => h, fun _ hp => .inl hp, fun a ha => by
    obtain ⟨o, r⟩ := L.mem (p := a) ha
    exact r.ntup⟩
theorem Lo.nown (L : Lo C X H σ Γ) {a : Addr} {o : HO} (h : C.H0 a = some o) (n : a ∉ C.P0) : a ∉ muts Γ := fun hp => by
  rcases L.own a hp with z | z
  · exact n z
  · rw [z] at h; cases h
theorem Lo.leave {X' : Addr → Prop} {σ' : L2.St} (L : Lo C X H σ Γ) (M : Lo (C.at_ X H Γ) X' H' σ' Γ') (hs : muts Γ' = muts Γ) : Lo C X H' σ' Γ' := by
  have sub : ∀ a, X a → X' a := M.m0
  refine ⟨M.len, fun i s hi => (M.at_ i s hi).anti sub, M.nd, fun p hp => L.mx p (hs ▸ hp), L.m0, fun a h => M.xd a (sub a h), fun a o e n => M.base a o (L.base a o e n) (L.nown e n), fun a h => M.dom a (L.dom a h), fun p hp => L.own p (hs ▸ hp), L.tf⟩
theorem Lo.keep {X' : Addr → Prop} {σ' : L2.St} (L : Lo C X H σ Γ) (M : Lo (C.at_ X H Γ) X' H' σ' Γ') : Keep X H H' := by
  refine ⟨fun a o e n => M.base a o e fun h => n (L.mx a h), fun a vs e => M.base a _ e fun h => ?_, fun a o u e => M.base a _ e fun h => ?_⟩
  · obtain ⟨o, r⟩ := L.mem (p := a) h
    exact r.ntup.1 _ e
  · obtain ⟨o', r⟩ := L.mem (p := a) h
    exact r.ntup.2 _ _ e
theorem Fin.leave {ps : List (Addr × MO)} {rs : Rs} {v : V} (L : Lo C X H σ Γ) (F : Fin C.K X H (muts Γ) ps rs v H') : Fin C.K C.X0 C.H0 C.P0 ps rs v H' := by
  refine ⟨fun a o e n => F.base a o (L.base a o e n) (L.nown e n), fun a h => F.dom a (L.dom a h), fun q hq => (F.mu q hq).anti L.m0, ?_⟩
  cases rs with
  | imm d => exact Rep.anti L.m0 F.res
  | new o =>
    obtain ⟨p, e, h, r⟩ := F.res
    refine ⟨p, e, ?_, r.anti fun a h => h.elim (fun z => .inl (L.m0 a z)) .inr⟩
    cases e : C.H0 p with
    | none => rfl
    | some o => exact (L.dom p (by rw [e]; exact fun z => nomatch z) h).elim
/-- the end of a def: data is told -/
theorem Lo.fin {ps : List (Addr × MO)} {d : PyData} {v : V} (L : Lo C X H σ Γ) (hp : ∀ q ∈ ps, MRep C.K X H q.1 q.2) (r : Rep C.K X H d v) : Fin C.K C.X0 C.H0 C.P0 ps (.imm d) v H :=
  ⟨L.base, L.dom, fun q hq => (hp q hq).anti L.m0, Rep.anti L.m0 r⟩
/-- .. an object that the body has made -/
theorem Lo.finN {ps : List (Addr × MO)} {o : MO} {p : Addr} (L : Lo C X H σ Γ) (hp : ∀ q ∈ ps, MRep C.K X H q.1 q.2) (hn : C.H0 p = none) (hx : X p) (r : MRep C.K X H p o) : Fin C.K C.X0 C.H0 C.P0 ps (.new o) (.ref p) H :=
  ⟨L.base, L.dom, fun q hq => (hp q hq).anti L.m0, p, rfl, hn, r.anti fun a h => h.elim (L.m0 a) fun e => e ▸ hx⟩
theorem Lo.mrep (L : Lo C X H σ Γ) {i : Nat} {p : Addr} {o : MO} (e : Γ[i]? = some (.mu p o)) : MRep C.K X H p o := (L.at_ i _ e).2

/-- behind a call that wrote nothing of ours -/
theorem Lo.after0 {rs : Rs} {v : V} {ps : List (Addr × MO)} (L : Lo C X H σ Γ) (F : Fin C.K X H [] ps rs v H') : Lo C X H' σ Γ ∧ ∀ d u, Rep C.K X H d u → Rep C.K X H' d u := by
  have s : Same H H' := fun a o e => F.base a o e (by simp)
  exact ⟨L.same s, fun _ _ r => r.keep (.same s)⟩
theorem Lo.cond (L : Lo C X H σ Γ) {Γa : List Sl} {vs : List V} (as : As C.K X H Γa vs) (nd : (muts Γa).Nodup) (sub : ∀ p ∈ muts Γa, p ∈ muts Γ) : Cond C.K X H Γa vs := ⟨as, nd, fun p h => L.mx p (sub p h), L.xd⟩
theorem Lo.get (L : Lo C X H σ Γ) {i : Nat} {d : PyData} (e : Γ[i]? = some (.imm d)) : ∃ u, σ[i]? = some (some u) ∧ Rep C.K X H d u := L.at_ i _ e

theorem ad_unique {Γ : List Sl} (nd : (muts Γ).Nodup) : ∀ {i j : Nat} {s t : Sl} {p : Addr}, Γ[i]? = some s → Γ[j]? = some t → s.ad = some p → t.ad = some p → i = j := by
  induction Γ with
  | nil => intro i j s t p h; simp at h
  | cons s0 Γ ih =>
    intro i j s t p hi hj es et
    have nd' : (List.filterMap Sl.ad (s0 :: Γ)).Nodup := nd
    have tl : (muts Γ).Nodup := by
      rw [List.filterMap_cons] at nd'
      cases e : s0.ad with
      | none => rw [e] at nd'; exact nd'
      | some q => rw [e] at nd'; exact (List.nodup_cons.mp nd').2
    have no : ∀ (k : Nat) (r : Sl), s0.ad = some p → Γ[k]? = some r → r.ad = some p → False := fun k r e0 hk er => by
      rw [List.filterMap_cons, e0] at nd'
      exact (List.nodup_cons.mp nd').1 (List.mem_filterMap.mpr ⟨r, List.mem_of_getElem? hk, er⟩)
    cases i with
    | zero =>
      cases j with
      | zero => rfl
      | succ j =>
        simp at hi hj; subst hi
        exact (no j t es hj et).elim
    | succ i =>
      cases j with
      | zero =>
        simp at hi hj; subst hj
        exact (no i s et hi es).elim
      | succ j =>
        simp at hi hj
        rw [ih tl hi hj es et]
/-- another object at the same place -/
def Sl.to (o : MO) : Sl → Sl
  | .mu p _ => .mu p o
  | .tmp p _ => .tmp p o
  | s => s
theorem muts_to {o : MO} : ∀ {Γ : List Sl} {i : Nat} {s : Sl}, Γ[i]? = some s → muts (Γ.set i (s.to o)) = muts Γ
  | [], _, _, h => by simp at h
  | s0 :: Γ, 0, s, h => by
    simp at h; subst h
    show List.filterMap Sl.ad (s0.to o :: Γ) = List.filterMap Sl.ad (s0 :: Γ)
    rw [List.filterMap_cons, List.filterMap_cons]
    have : (s0.to o).ad = s0.ad := by cases s0 <;> rfl
    rw [this]
  | s0 :: Γ, i + 1, s, h => by
    have ih := muts_to (o := o) (Γ := Γ) (i := i) (s := s) (by simpa using h)
    show List.filterMap Sl.ad (s0 :: Γ.set i (s.to o)) = List.filterMap Sl.ad (s0 :: Γ)
    rw [List.filterMap_cons, List.filterMap_cons]
    have ih' : List.filterMap Sl.ad (Γ.set i (s.to o)) = List.filterMap Sl.ad Γ := ih
    rw [ih']
/-- the object at p is written (or turned by a call): all else keeps -/
theorem Lo.wrote (L : Lo C X H σ Γ) {i : Nat} {p : Addr} {s : Sl} {o : MO} (e : Γ[i]? = some s) (es : s.ad = some p) (hk : ∀ a u, H a = some u → a ≠ p → H' a = some u) (hd : ∀ a, H a ≠ none → H' a ≠ none) (r : MRep C.K X H' p o) :
    Lo C X H' σ (Γ.set i (s.to o)) ∧ ∀ d u, Rep C.K X H d u → Rep C.K X H' d u := by
  have hpm : p ∈ muts Γ := mem_muts.mpr ⟨i, s, e, es⟩
  have hpx : X p := L.mx p hpm
  obtain ⟨o0, r0⟩ := L.mem hpm
  have kp : Keep X H H' := ⟨fun a u h n => hk a u h fun z => n (z ▸ hpx), fun a vs h => hk a _ h fun z => r0.ntup.1 _ (z ▸ h), fun a u w h => hk a _ h fun z => r0.ntup.2 _ _ (z ▸ h)⟩
  have hil : i < Γ.length := (List.getElem?_eq_some_iff.mp e).1
  refine ⟨⟨L.len, fun j t hj => ?_, by rw [muts_to e]; exact L.nd, fun q hq => L.mx q (by rw [muts_to e] at hq; exact hq), L.m0, fun a h => hd a (L.xd a h), fun a u h n => ?_, fun a h => hd a (L.dom a h), fun q hq => L.own q (by rw [muts_to e] at hq; exact hq), L.tf⟩, fun _ _ q => q.keep kp⟩
  · by_cases z : j = i
    · subst z
      rw [List.getElem?_set_self hil] at hj
      have := L.at_ j s e
      cases hj
      cases s with
      | unk => cases es
      | scr ns => cases es
      | ref a => cases es
      | imm d => cases es
      | mu q o1 => cases es; exact ⟨this.1, r⟩
      | tmp q o1 => cases es; exact r
    · rw [List.getElem?_set_ne (Ne.symm z)] at hj
      refine (L.at_ j t hj).keep kp fun q eq => ?_
      have ne : q ≠ p := fun y => z (ad_unique L.nd hj e (by rw [eq, y]) es)
      obtain ⟨o1, r1⟩ := L.mem (mem_muts.mpr ⟨j, t, hj, eq⟩)
      cases hq : H q with
      | none => exact (r1.nn hq).elim
      | some u => exact hk q u hq ne
  · have h1 := L.base a u h n
    exact hk a u h1 fun z => by
      subst z
      exact L.nown h n hpm
/-- behind a call that wrote one object -/
theorem Lo.after1 {rs : Rs} {v : V} {p : Addr} {o : MO} {s : Sl} (L : Lo C X H σ Γ) (F : Fin C.K X H [p] [(p, o)] rs v H') {i : Nat} (e : Γ[i]? = some s) (es : s.ad = some p) :
    Lo C X H' σ (Γ.set i (s.to o)) ∧ ∀ d u, Rep C.K X H d u → Rep C.K X H' d u :=
  L.wrote e es (fun a u h n => F.base a u h (by simpa using n)) F.dom (F.mu (p, o) (by simp))
/-- a new object is laid: forbidden from now on -/
theorem Lo.lay (L : Lo C X H σ Γ) {p : Addr} {o : MO} {H1 : Hp} (hn : H p = none) (s : Same H H1) (r : MRep C.K (fun a => X a ∨ a = p) H1 p o) :
    Lo C (fun a => X a ∨ a = p) H1 σ (Γ ++ [.tmp p o]) ∧ (∀ d u, Rep C.K X H d u → Rep C.K (fun a => X a ∨ a = p) H1 d u) ∧ C.H0 p = none ∧ ¬ C.X0 p := by
  have h0 : C.H0 p = none := by
    cases e : C.H0 p with
    | none => rfl
    | some o => exact (L.dom p (by rw [e]; exact fun z => nomatch z) hn).elim
  have hd : ∀ a, H a ≠ none → H1 a = H a := fun a h => by
    cases e : H a with
    | none => exact (h e).elim
    | some o => exact s a o e
  have hm : muts (Γ ++ [Sl.tmp p o]) = muts Γ ++ [p] := by unfold muts; rw [List.filterMap_append]; rfl
  have hnm : p ∉ muts Γ := fun h => L.xd p (L.mx p h) hn
  refine ⟨⟨L.len, fun i t hi => ?_, ?_, fun q hq => ?_, fun a h => .inl (L.m0 a h), fun a h => ?_, fun a u h n => s a u (L.base a u h n), fun a h => ?_, fun q hq => ?_, L.tf⟩, fun _ _ q => (q.more hn).keep (.same s), h0, fun z => L.xd p (L.m0 p z) hn⟩
  · by_cases hlt : i < Γ.length
    · rw [List.getElem?_append_left hlt] at hi
      refine ((L.at_ i t hi).more hn).keep (.same s) fun q e => hd q ?_
      obtain ⟨o', r'⟩ := (L.at_ i t hi).mrep e
      exact r'.nn
    · rw [List.getElem?_append_right (by omega)] at hi
      have ht := List.mem_of_getElem? hi
      rw [List.mem_singleton] at ht
      subst ht
      exact r
  · rw [hm]
    exact List.nodup_append.mpr ⟨L.nd, by simp, fun a ha b hb => by
      rw [List.mem_singleton] at hb
      subst hb
      intro z
      exact hnm (z ▸ ha)⟩
  · rw [hm, List.mem_append, List.mem_singleton] at hq
    exact hq.elim (fun z => .inl (L.mx q z)) .inr
  · rcases h with h | h
    · rw [hd a (L.xd a h)]; exact L.xd a h
    · subst h; exact r.nn
  · rw [hd a (L.dom a h)]; exact L.dom a h
  · rw [hm, List.mem_append, List.mem_singleton] at hq
    exact hq.elim (L.own q) fun z => .inr (z ▸ h0)
/-- the last object is given a name -/
theorem Lo.name {p : Addr} {o : MO} (L : Lo C X H σ (Γ ++ [.tmp p o])) {i : Nat} (hi : i < C.n) (hl : i < Γ.length) : Lo C X H (σ.set i (some (.ref p))) (Γ.set i (.mu p o)) := by
  have hm : muts (Γ ++ [Sl.tmp p o]) = muts Γ ++ [p] := by unfold muts; rw [List.filterMap_append]; rfl
  have nd := L.nd
  rw [hm] at nd
  obtain ⟨nd1, _, nd2⟩ := List.nodup_append.mp nd
  have hnp : p ∉ muts Γ := fun h => nd2 p h p (by simp) rfl
  have sub : ∀ q, q ∈ muts (Γ.set i (.mu p o)) → q ∈ muts (Γ ++ [Sl.tmp p o]) := fun q hq => by
    rw [hm, List.mem_append, List.mem_singleton]
    obtain ⟨j, s, hj, e⟩ := mem_muts.mp hq
    by_cases z : j = i
    · subst z
      rw [List.getElem?_set_self hl] at hj
      cases hj; cases e; exact .inr rfl
    · rw [List.getElem?_set_ne (Ne.symm z)] at hj
      exact .inl (mem_muts.mpr ⟨j, s, hj, e⟩)
  have ndp : ∀ {Γ : List Sl} {i : Nat}, (muts Γ).Nodup → p ∉ muts Γ → (muts (Γ.set i (.mu p o))).Nodup := by
    intro Γ
    induction Γ with
    | nil => intro i h _; exact h
    | cons s0 Γ ih =>
      intro i h hn
      have h' : (List.filterMap Sl.ad (s0 :: Γ)).Nodup := h
      have hn' : p ∉ List.filterMap Sl.ad (s0 :: Γ) := hn
      have hg : p ∉ muts Γ := fun z => hn' (by rw [List.filterMap_cons]; cases s0.ad with | none => exact z | some q => exact List.mem_cons_of_mem _ z)
      have hgn : (muts Γ).Nodup := by
        rw [List.filterMap_cons] at h'
        cases e : s0.ad with
        | none => rw [e] at h'; exact h'
        | some q => rw [e] at h'; exact (List.nodup_cons.mp h').2
      cases i with
      | zero => exact List.nodup_cons.mpr ⟨hg, hgn⟩
      | succ i =>
        have ih' := ih (i := i) hgn hg
        show (List.filterMap Sl.ad (s0 :: Γ.set i (.mu p o))).Nodup
        rw [List.filterMap_cons] at h' hn' ⊢
        cases e : s0.ad with
        | none => exact ih'
        | some q =>
          rw [e] at h' hn'
          refine List.nodup_cons.mpr ⟨fun z => ?_, ih'⟩
          obtain ⟨t, ht, et⟩ := List.mem_filterMap.mp (show q ∈ List.filterMap Sl.ad (Γ.set i (.mu p o)) from z)
          rcases List.mem_or_eq_of_mem_set ht with y | y
          · exact (List.nodup_cons.mp h').1 (List.mem_filterMap.mpr ⟨t, y, et⟩)
          · subst y
            cases et
            exact hn' List.mem_cons_self
  refine ⟨by rw [List.length_set]; exact L.len, fun j t hj => ?_, ndp nd1 hnp, fun q hq => L.mx q (sub q hq), L.m0, L.xd, L.base, L.dom, fun q hq => L.own q (sub q hq), L.tf⟩
  by_cases z : j = i
  · subst z
    rw [List.getElem?_set_self hl] at hj
    cases hj
    refine ⟨List.getElem?_set_self (by rw [L.len]; exact hi), ?_⟩
    exact L.at_ Γ.length (.tmp p o) (by rw [List.getElem?_append_right (Nat.le_refl _)]; simp)
  · rw [List.getElem?_set_ne (Ne.symm z)] at hj
    rw [List.getElem?_set_ne (Ne.symm z)]
    refine L.at_ j t ?_
    rw [List.getElem?_append_left (List.getElem?_eq_some_iff.mp hj).1]
    exact hj
/-- an object that is written no more is data -/
theorem Lo.freeze {p : Addr} {ds : List PyData} (L : Lo C X H σ Γ) {i : Nat} (e : Γ[i]? = some (.mu p (.lst ds))) (hx : ¬ C.X0 p) : Lo C (fun a => X a ∧ a ≠ p) H σ (Γ.set i (.imm (.list ds))) := by
  have hil : i < Γ.length := (List.getElem?_eq_some_iff.mp e).1
  refine ⟨L.len, fun j t hj => ?_, nodup_set L.nd, fun q hq => ⟨L.mx q (muts_set_imm hq), fun z => ?_⟩, fun a h => ⟨L.m0 a h, fun z => hx (z ▸ h)⟩, fun a h => L.xd a h.1, L.base, L.dom, fun q hq => L.own q (muts_set_imm hq), L.tf⟩
  · by_cases z : j = i
    · subst z
      rw [List.getElem?_set_self hil] at hj
      cases hj
      obtain ⟨h1, vs, h2, h3⟩ := L.at_ j _ e
      exact ⟨.ref p, h1, .lst (fun y => y.2 rfl) (.inl h2) (h3.anti fun a h => h.1)⟩
    · rw [List.getElem?_set_ne (Ne.symm z)] at hj
      exact (L.at_ j t hj).anti fun a h => h.1
  · subst z
    obtain ⟨j, s, hj, es⟩ := mem_muts.mp hq
    by_cases y : j = i
    · subst y
      rw [List.getElem?_set_self hil] at hj
      cases hj; cases es
    · rw [List.getElem?_set_ne (Ne.symm y)] at hj
      exact y (ad_unique L.nd hj e es rfl)
theorem RRep.imm {K : PySem.W.Frag} {X : Addr → Prop} {H H' : Hp} {ds : List PyData} {v : V} (r : RRep K X H H' (.new (.lst ds)) v) (xd : ∀ a, X a → H a ≠ none) : Rep K X H' (.list ds) v := by
  obtain ⟨p, e, hn, vs, h2, h3⟩ := r
  subst e
  exact .lst (fun z => xd p z hn) (.inl h2) (h3.anti fun _ z => .inl z)
end
open Py (enc)

/-! ### what may fail -/
/-- .. in the middle of a term -/
theorem obE {α β : Type} {m : Option α} {k : α → Option β} {r : β} {P : Prop} (h : m.bind k = some r) (f : ∀ x, m = some x → k x = some r → P) : P := by
  obtain ⟨x, a, b⟩ := Option.bind_eq_some_iff.mp h
  exact f x a b
theorem ob {α β : Type} {m : Option α} {k : α → Option β} {r : β} (h : m.bind k = some r) : ∃ x, m = some x ∧ k x = some r := Option.bind_eq_some_iff.mp h
/-- a product, a quotient, a rest, where they are told -/
def mulG (a b : Int) : Option Int := if a.natAbs.log2 + b.natAbs.log2 < 1000000 then some (a * b) else none
def divG (a b : Int) : Option Int := if b ≠ 0 ∧ b.natAbs.log2 < 9000 then some (a.fdiv b) else none
def modG (a b : Int) : Option Int := if b ≠ 0 then some (a.fmod b) else none
def lenOk (n : Nat) : Option Unit := if n ≤ 16777216 then some () else none
def guard (b : Bool) : Option Unit := if b = true then some () else none
def iabs (i : Int) : Int := if i < 0 then -i else i
def b2 (b : Bool) : Int := if b = true then 1 else 0
def ix {α : Type} (xs : List α) (i : Int) : Option α := atI xs i
theorem line_eq : sizeLine = 16777216 := sizeLine_eq

section
variable {Xc : Cx}
def cMulG (i j : Int) : Prop := i.natAbs.log2 + j.natAbs.log2 < 1000000
def cDivG (i j : Int) : Prop := j ≠ 0 ∧ j.natAbs.log2 < 9000
theorem op_divG : OpR Xc (binaryOp .FloorDiv) (rI cDivG fun i j => .int (i.fdiv j)) := opI fun i j _ _ _ _ _ hc q => floordiv_int hc.1 q (.inl (PyProof.noPylong_of_log2 hc.2))
end


/-- continuations by name, so that goals stay as they are -/
def KB (Q : Bool → Hp → Prop) : VK := fun x H => ∃ k, x = .bl k ∧ Q k H
def KNot (Q : Bool → Hp → Prop) : Bool → Hp → Prop := fun c H => Q (!c) H
def KAnd (u : TT) (σ : L2.St) (Q : Bool → Hp → Prop) : Bool → Hp → Prop := fun c H => if c = true then u σ H Q else Q false H
def KOr (u : TT) (σ : L2.St) (Q : Bool → Hp → Prop) : Bool → Hp → Prop := fun c H => if c = true then Q true H else u σ H Q
def KNotV (Q : VK) : Bool → Hp → Prop := fun c H => Q (.bl (!c)) H
def KAndV (u : TE) (σ : L2.St) (Q : VK) : Bool → Hp → Prop := fun c H => if c = true then u σ H Q else Q (.bl false) H
def KOrV (u : TE) (σ : L2.St) (Q : VK) : Bool → Hp → Prop := fun c H => if c = true then Q (.bl true) H else u σ H Q
def KIf (t u : TS) (D : Ends) (σ : L2.St) : Bool → Hp → Prop := fun c H => if c = true then t D σ H else u D σ H
def KIfE (t u : TE) (σ : L2.St) (Q : VK) : Bool → Hp → Prop := fun c H => if c = true then t σ H Q else u σ H Q
def KTup (Q : VK) : List V → Hp → Prop := fun xs H => xs.length ≤ sizeLine ∧ ∀ p, H p = none → Q (.ref p) (upd H p (.tup xs))
def KLst (Q : VK) : List V → Hp → Prop := fun xs H => xs.length ≤ sizeLine ∧ ∀ p, H p = none → Q (.ref p) (upd H p (.lst xs))
def KPar (i j : Nat) (σ : L2.St) (N : L2.St → Hp → Prop) : List V → Hp → Prop := fun vs H => ∃ v w, vs = [v, w] ∧ N ((σ.set i (some v)).set j (some w)) H

section
variable {C : Cn} {X : Addr → Prop} {H : Hp} {σ : L2.St} {Γ Γ' : List Sl} {Q : VK} {α β γ δ ε ρ : Type}
/-! ### expressions, from the left -/
theorem x_op {r : R2} {ta tb : TE} (h : ta σ H fun x H1 => tb σ H1 fun y H2 => r x y H2 Q) : tOp r ta tb σ H Q := h
theorem x_un {r : V → Hp → VK → Prop} {ta : TE} (h : ta σ H fun x H1 => r x H1 Q) : tUn r ta σ H Q := h
theorem x_c {v : V} (h : Q v H) : tC v σ H Q := h
theorem x_cons {ta : TE} {tr : TA} {Q : List V → Hp → Prop} (h : ta σ H fun x H1 => tr σ H1 fun xs H2 => Q (x :: xs) H2) : tCons ta tr σ H Q := h
theorem x_nil {Q : List V → Hp → Prop} (h : Q [] H) : tNil σ H Q := h
/-- a name of the def: data, an object that may be written, the script -/
theorem x_vd {i : Nat} {d : PyData} (L : Lo C X H σ Γ) (e : Γ[i]? = some (.imm d)) (h : ∀ v, Rep C.K X H d v → Q v H) : tVar i σ H Q := by
  obtain ⟨u, h1, h2⟩ := L.get e
  exact ⟨u, h1, h u h2⟩
theorem x_vm {i : Nat} {p : Addr} {o : MO} (L : Lo C X H σ Γ) (e : Γ[i]? = some (.mu p o)) (h : Q (.ref p) H) : tVar i σ H Q := ⟨_, (L.at_ i _ e).1, h⟩
theorem x_vscr {i : Nat} {ns : List Int} (L : Lo C X H σ Γ) (e : Γ[i]? = some (.scr ns)) (h : ∀ v, SqX C.K X H ns v → Q v H) : tVar i σ H Q := by
  obtain ⟨u, h1, h2⟩ := L.at_ i _ e
  exact ⟨u, h1, h u h2⟩
theorem repI {K : PySem.W.Frag} {x : Int} {u : V} (h : Rep K X H (PyData.int x) u) : u = (V.int x) := by cases h; rfl
theorem x_vI {i : Nat} {x : Int} (L : Lo C X H σ Γ) (e : Γ[i]? = some (.imm (PyData.int x))) (h : Q (V.int x) H) : tVar i σ H Q :=
  x_vd L e fun v r => by rw [repI (x := x) r]; exact h
theorem repB {K : PySem.W.Frag} {x : Bool} {u : V} (h : Rep K X H (PyData.bool x) u) : u = (V.bl x) := by cases h; rfl
theorem x_vB {i : Nat} {x : Bool} (L : Lo C X H σ Γ) (e : Γ[i]? = some (.imm (PyData.bool x))) (h : Q (V.bl x) H) : tVar i σ H Q :=
  x_vd L e fun v r => by rw [repB (x := x) r]; exact h
theorem repS {K : PySem.W.Frag} {x : Str} {u : V} (h : Rep K X H (PyData.str x) u) : u = (V.str x) := by cases h; rfl
theorem x_vS {i : Nat} {x : Str} (L : Lo C X H σ Γ) (e : Γ[i]? = some (.imm (PyData.str x))) (h : Q (V.str x) H) : tVar i σ H Q :=
  x_vd L e fun v r => by rw [repS (x := x) r]; exact h
theorem repN {K : PySem.W.Frag} {x : Unit} {u : V} (h : Rep K X H PyData.none u) : u = V.non := by cases h; rfl
theorem x_vN {i : Nat} {x : Unit} (L : Lo C X H σ Γ) (e : Γ[i]? = some (.imm PyData.none)) (h : Q V.non H) : tVar i σ H Q :=
  x_vd L e fun v r => by rw [repN (x := x) r]; exact h
/-! ### whole numbers -/
theorem x_r0 {g : Int → Int → V} {a b : Int} (h : Q (g a b) H) : rI0 g (.int a) (.int b) H Q := ⟨a, b, rfl, rfl, h⟩
theorem x_mulL {a b : Int} (hc : -(2 ^ 64) < a ∧ a < 2 ^ 64) (h : Q (.int (a * b)) H) : rI CMul (fun i j => .int (i * j)) (.int a) (.int b) H Q := ⟨a, b, rfl, rfl, .inl hc, h⟩
theorem x_mulR {a b : Int} (hc : -(2 ^ 64) < b ∧ b < 2 ^ 64) (h : Q (.int (a * b)) H) : rI CMul (fun i j => .int (i * j)) (.int a) (.int b) H Q := ⟨a, b, rfl, rfl, .inr hc, h⟩
theorem x_mulc {a b n : Int} (hc : a.natAbs.log2 + b.natAbs.log2 < 1000000) (e : a * b = n) (h : Q (.int n) H) : rI CMulW (fun i j => .int (i * j)) (.int a) (.int b) H Q := by subst e; exact ⟨a, b, rfl, rfl, hc, h⟩
theorem room65 {k : Nat} {A : Around} (r : Room k A) : A.units + 65 < cLine := by have := r.un; omega
theorem x_divc {a b : Int} (hc : CDiv a b) (h : Q (.int (a / b)) H) : rI CDiv (fun i j => .int (i / j)) (.int a) (.int b) H Q := ⟨a, b, rfl, rfl, hc, h⟩
theorem x_divW {a b : Int} (hc : CDivW a b) (h : Q (.int (a / b)) H) : rI CDivW (fun i j => .int (i / j)) (.int a) (.int b) H Q := ⟨a, b, rfl, rfl, hc, h⟩
theorem x_modc {a b : Int} (hc : 0 < b) (h : Q (.int (a % b)) H) : rI (fun _ j => 0 < j) (fun i j => .int (i % j)) (.int a) (.int b) H Q := ⟨a, b, rfl, rfl, hc, h⟩
theorem x_powc {a b n : Int} (hc : CPow a b) (e : a ^ b.toNat = n) (h : Q (.int n) H) : rI CPow (fun i j => .int (i ^ j.toNat)) (.int a) (.int b) H Q := by subst e; exact ⟨a, b, rfl, rfl, hc, h⟩
theorem x_mul {a b : Int} {k : Int → Option ρ} {r : ρ} (hm : (mulG a b).bind k = some r) (h : ∀ z, mulG a b = some z → k z = some r → Q (.int z) H) : rI CMulW (fun i j => .int (i * j)) (.int a) (.int b) H Q := by
  obtain ⟨z, hz, hk⟩ := ob hm
  have hz' := hz
  unfold mulG at hz'
  split at hz'
  · rename_i hc
    have e : a * b = z := Option.some.inj hz'
    subst e
    exact ⟨a, b, rfl, rfl, hc, h _ hz hk⟩
  · cases hz'
theorem x_div {a b : Int} {k : Int → Option ρ} {r : ρ} (hm : (divG a b).bind k = some r) (h : ∀ z, divG a b = some z → k z = some r → Q (.int z) H) : rI cDivG (fun i j => .int (i.fdiv j)) (.int a) (.int b) H Q := by
  obtain ⟨z, hz, hk⟩ := ob hm
  have hz' := hz
  unfold divG at hz'
  split at hz'
  · rename_i hc
    have e : a.fdiv b = z := Option.some.inj hz'
    subst e
    exact ⟨a, b, rfl, rfl, hc, h _ hz hk⟩
  · cases hz'
theorem x_mod {a b : Int} {k : Int → Option ρ} {r : ρ} (hm : (modG a b).bind k = some r) (h : ∀ z, modG a b = some z → k z = some r → Q (.int z) H) : rI (fun _ j => j ≠ 0) (fun i j => .int (i.fmod j)) (.int a) (.int b) H Q := by
  obtain ⟨z, hz, hk⟩ := ob hm
  have hz' := hz
  unfold modG at hz'
  split at hz'
  · rename_i hc
    have e : a.fmod b = z := Option.some.inj hz'
    subst e
    exact ⟨a, b, rfl, rfl, hc, h _ hz hk⟩
  · cases hz'
theorem x_u {g : Int → V} {a : Int} (h : Q (g a) H) : rU g (.int a) H Q := ⟨a, rfl, h⟩
theorem x_eqi {a b : Int} (h : Q (.bl (decide (a = b))) H) : rEq (.int a) (.int b) H Q := by
  refine ⟨rfl, ?_⟩
  have e : decide (V.int a = V.int b) = decide (a = b) := by by_cases z : a = b <;> simp [z]
  rw [e]; exact h
theorem x_nei {a b : Int} (h : Q (.bl (!decide (a = b))) H) : rNe (.int a) (.int b) H Q := by
  refine ⟨rfl, ?_⟩
  have e : decide (V.int a = V.int b) = decide (a = b) := by by_cases z : a = b <;> simp [z]
  rw [e]; exact h
theorem x_eqb {a b : Bool} (h : Q (.bl (decide (a = b))) H) : rEq (.bl a) (.bl b) H Q := by
  refine ⟨rfl, ?_⟩
  have e : decide (V.bl a = V.bl b) = decide (a = b) := by by_cases z : a = b <;> simp [z]
  rw [e]; exact h
theorem x_neb {a b : Bool} (h : Q (.bl (!decide (a = b))) H) : rNe (.bl a) (.bl b) H Q := by
  refine ⟨rfl, ?_⟩
  have e : decide (V.bl a = V.bl b) = decide (a = b) := by by_cases z : a = b <;> simp [z]
  rw [e]; exact h
theorem x_eqs {a b : Str} (h : Q (.bl (decide (a = b))) H) : rEq (.str a) (.str b) H Q := by
  refine ⟨rfl, ?_⟩
  have e : decide (V.str a = V.str b) = decide (a = b) := by by_cases z : a = b <;> simp [z]
  rw [e]; exact h
theorem x_nes {a b : Str} (h : Q (.bl (!decide (a = b))) H) : rNe (.str a) (.str b) H Q := by
  refine ⟨rfl, ?_⟩
  have e : decide (V.str a = V.str b) = decide (a = b) := by by_cases z : a = b <;> simp [z]
  rw [e]; exact h
/-- an item of a tuple -/
theorem rep_tup {K : PySem.W.Frag} {ds : List PyData} {v : V} (r : Rep K X H (.tuple ds) v) : ∃ a vs, v = .ref a ∧ SqT K H a vs ∧ Reps K X H ds vs := by
  cases r with | tup h q => exact ⟨_, _, rfl, h, q⟩
theorem rep_lst {K : PySem.W.Frag} {ds : List PyData} {v : V} (r : Rep K X H (.list ds) v) : ∃ a vs, v = .ref a ∧ ¬ X a ∧ Rd H a (.lst vs) ∧ Reps K X H ds vs := by
  cases r with | lst n h q => exact ⟨_, _, rfl, n, h, q⟩
theorem atI_reps {K : PySem.W.Frag} {ds : List PyData} {vs : List V} {i : Int} {d : PyData} (q : Reps K X H ds vs) (e : atI ds i = some d) : ∃ u, atI vs i = some u ∧ Rep K X H d u := by
  unfold atI at e ⊢
  rw [q.length]
  cases h : ixN ds.length i with
  | none => rw [h] at e; cases e
  | some j => rw [h] at e; exact q.get e
theorem x_ixT {ds : List PyData} {d : PyData} {i : Int} {v : V} (r : Rep C.K X H (.tuple ds) v) (e : atI ds i = some d) (h : ∀ u, Rep C.K X H d u → Q u H) : rIxT C.K v (.int i) H Q := by
  obtain ⟨a, vs, rfl, hs, q⟩ := rep_tup r
  obtain ⟨u, h1, h2⟩ := atI_reps q e
  exact ⟨a, vs, i, u, rfl, rfl, hs, h1, h u h2⟩
theorem x_ixTI {ds : List PyData} {x : Int} {i : Int} {v : V} (r : Rep C.K X H (.tuple ds) v) (e : atI ds i = some (PyData.int x)) (h : Q (V.int x) H) : rIxT C.K v (.int i) H Q :=
  x_ixT r e fun u q => by rw [repI (x := x) q]; exact h
theorem x_ixTB {ds : List PyData} {x : Bool} {i : Int} {v : V} (r : Rep C.K X H (.tuple ds) v) (e : atI ds i = some (PyData.bool x)) (h : Q (V.bl x) H) : rIxT C.K v (.int i) H Q :=
  x_ixT r e fun u q => by rw [repB (x := x) q]; exact h
theorem x_ixTS {ds : List PyData} {x : Str} {i : Int} {v : V} (r : Rep C.K X H (.tuple ds) v) (e : atI ds i = some (PyData.str x)) (h : Q (V.str x) H) : rIxT C.K v (.int i) H Q :=
  x_ixT r e fun u q => by rw [repS (x := x) q]; exact h
theorem x_ixTN {ds : List PyData} {x : Unit} {i : Int} {v : V} (r : Rep C.K X H (.tuple ds) v) (e : atI ds i = some PyData.none) (h : Q V.non H) : rIxT C.K v (.int i) H Q :=
  x_ixT r e fun u q => by rw [repN (x := x) q]; exact h
theorem atI_map {f : α → β} {xs : List α} {i : Int} : atI (xs.map f) i = (atI xs i).map f := by
  unfold atI
  rw [List.length_map]
  cases ixN xs.length i with
  | none => rfl
  | some j => exact List.getElem?_map ..
/-- an item of a list -/
theorem x_ixL [Py α] {xs : List α} {i : Int} {v : V} {k : α → Option ρ} {r : ρ} (hm : (ix xs i).bind k = some r) (q : Rep C.K X H (enc xs) v) (h : ∀ x u, ix xs i = some x → k x = some r → Rep C.K X H (enc x) u → Q u H) : rIxL C.K v (.int i) H Q := by
  obtain ⟨x, hx, hk⟩ := ob hm
  obtain ⟨a, vs, rfl, _, hs, q⟩ := rep_lst (ds := xs.map enc) q
  have e : atI (xs.map enc) i = some (enc x) := by rw [atI_map]; unfold ix at hx; rw [hx]; rfl
  obtain ⟨u, h1, h2⟩ := atI_reps q e
  exact ⟨a, vs, i, u, rfl, rfl, .inl hs, h1, h x u hx hk h2⟩
theorem x_ixLI {xs : List Int} {i : Int} {v : V} {k : Int → Option ρ} {r : ρ} (hm : (ix xs i).bind k = some r) (q : Rep C.K X H (enc xs) v) (h : ∀ x, ix xs i = some x → k x = some r → Q (V.int x) H) : rIxL C.K v (.int i) H Q :=
  x_ixL hm q fun x u h1 h2 r => by rw [repI (x := x) r]; exact h x h1 h2
theorem x_ixLB {xs : List Bool} {i : Int} {v : V} {k : Bool → Option ρ} {r : ρ} (hm : (ix xs i).bind k = some r) (q : Rep C.K X H (enc xs) v) (h : ∀ x, ix xs i = some x → k x = some r → Q (V.bl x) H) : rIxL C.K v (.int i) H Q :=
  x_ixL hm q fun x u h1 h2 r => by rw [repB (x := x) r]; exact h x h1 h2
theorem x_ixLS {xs : List Str} {i : Int} {v : V} {k : Str → Option ρ} {r : ρ} (hm : (ix xs i).bind k = some r) (q : Rep C.K X H (enc xs) v) (h : ∀ x, ix xs i = some x → k x = some r → Q (V.str x) H) : rIxL C.K v (.int i) H Q :=
  x_ixL hm q fun x u h1 h2 r => by rw [repS (x := x) r]; exact h x h1 h2
theorem x_ixLN {xs : List Unit} {i : Int} {v : V} {k : Unit → Option ρ} {r : ρ} (hm : (ix xs i).bind k = some r) (q : Rep C.K X H (enc xs) v) (h : ∀ x, ix xs i = some x → k x = some r → Q V.non H) : rIxL C.K v (.int i) H Q :=
  x_ixL hm q fun x u h1 h2 r => by rw [repN (x := x) r]; exact h x h1 h2
/-- .. of a list that may be written -/
theorem x_ixM [Py α] {xs : List α} {i : Int} {j : Nat} {p : Addr} {k : α → Option ρ} {r : ρ} (L : Lo C X H σ Γ) (g : Γ[j]? = some (.mu p (ml xs))) (hm : (ix xs i).bind k = some r) (h : ∀ x u, ix xs i = some x → k x = some r → Rep C.K X H (enc x) u → Q u H) : rIxL C.K (.ref p) (.int i) H Q := by
  obtain ⟨x, hx, hk⟩ := ob hm
  obtain ⟨vs, hs, q⟩ := L.mrep g
  have e : atI (xs.map enc) i = some (enc x) := by rw [atI_map]; unfold ix at hx; rw [hx]; rfl
  obtain ⟨u, h1, h2⟩ := atI_reps q e
  exact ⟨p, vs, i, u, rfl, rfl, .inl (.inl hs), h1, h x u hx hk h2⟩
theorem x_ixMI {xs : List Int} {i : Int} {j : Nat} {p : Addr} {k : Int → Option ρ} {r : ρ} (L : Lo C X H σ Γ) (g : Γ[j]? = some (.mu p (ml xs))) (hm : (ix xs i).bind k = some r) (h : ∀ x, ix xs i = some x → k x = some r → Q (V.int x) H) : rIxL C.K (.ref p) (.int i) H Q :=
  x_ixM L g hm fun x u h1 h2 r => by rw [repI (x := x) r]; exact h x h1 h2
theorem x_ixMB {xs : List Bool} {i : Int} {j : Nat} {p : Addr} {k : Bool → Option ρ} {r : ρ} (L : Lo C X H σ Γ) (g : Γ[j]? = some (.mu p (ml xs))) (hm : (ix xs i).bind k = some r) (h : ∀ x, ix xs i = some x → k x = some r → Q (V.bl x) H) : rIxL C.K (.ref p) (.int i) H Q :=
  x_ixM L g hm fun x u h1 h2 r => by rw [repB (x := x) r]; exact h x h1 h2
theorem x_ixMS {xs : List Str} {i : Int} {j : Nat} {p : Addr} {k : Str → Option ρ} {r : ρ} (L : Lo C X H σ Γ) (g : Γ[j]? = some (.mu p (ml xs))) (hm : (ix xs i).bind k = some r) (h : ∀ x, ix xs i = some x → k x = some r → Q (V.str x) H) : rIxL C.K (.ref p) (.int i) H Q :=
  x_ixM L g hm fun x u h1 h2 r => by rw [repS (x := x) r]; exact h x h1 h2
theorem x_ixMN {xs : List Unit} {i : Int} {j : Nat} {p : Addr} {k : Unit → Option ρ} {r : ρ} (L : Lo C X H σ Γ) (g : Γ[j]? = some (.mu p (ml xs))) (hm : (ix xs i).bind k = some r) (h : ∀ x, ix xs i = some x → k x = some r → Q V.non H) : rIxL C.K (.ref p) (.int i) H Q :=
  x_ixM L g hm fun x u h1 h2 r => by rw [repN (x := x) r]; exact h x h1 h2
/-- .. of the script -/
theorem x_ixS {ns : List Int} {i : Int} {v : V} {k : Int → Option ρ} {r : ρ} (hm : (ix ns i).bind k = some r) (q : SqX C.K X H ns v) (h : ∀ x, ix ns i = some x → k x = some r → Q (.int x) H) : rIxL C.K v (.int i) H Q := by
  obtain ⟨x, hx, hk⟩ := ob hm
  obtain ⟨a, rfl, hs⟩ := q.sq
  have e : atI (ns.map V.int) i = some (.int x) := by rw [atI_map]; unfold ix at hx; rw [hx]; rfl
  exact ⟨a, _, i, _, rfl, rfl, hs, e, h x hx hk⟩
/-! ### displays -/
theorem x_tup {t : TA} (h : t σ H (KTup Q)) : tTup t σ H Q := h
theorem x_lst {t : TA} (h : t σ H (KLst Q)) : tLst t σ H Q := h
theorem same_upd {p : Addr} {o : HO} (h : H p = none) : Same H (upd H p o) := fun b u e => by rw [upd_ne (ne_of_none e h)]; exact e
theorem x_mkT {ds : List PyData} {vs : List V} (L : Lo C X H σ Γ) (q : Reps C.K X H ds vs) (hl : vs.length ≤ 16777216) (h : ∀ v H1, Lo C X H1 σ Γ → (∀ d u, Rep C.K X H d u → Rep C.K X H1 d u) → Rep C.K X H1 (.tuple ds) v → Q v H1) : KTup Q vs H := by
  refine ⟨by rw [line_eq]; exact hl, fun p hp => ?_⟩
  have s : Same H (upd H p (.tup vs)) := same_upd hp
  exact h _ _ (L.same s) (fun _ _ r => r.keep (.same s)) (.tup (.of upd_same) (q.keep (.same s)))
/-- a new list, told as data -/
theorem x_mkL {ds : List PyData} {vs : List V} (L : Lo C X H σ Γ) (q : Reps C.K X H ds vs) (hl : vs.length ≤ 16777216) (h : ∀ v H1, Lo C X H1 σ Γ → (∀ d u, Rep C.K X H d u → Rep C.K X H1 d u) → Rep C.K X H1 (.list ds) v → Q v H1) : KLst Q vs H := by
  refine ⟨by rw [line_eq]; exact hl, fun p hp => ?_⟩
  have s : Same H (upd H p (.lst vs)) := same_upd hp
  have r : RRep C.K X H (upd H p (.lst vs)) (.new (.lst ds)) (.ref p) := ⟨p, rfl, hp, vs, upd_same, (q.more hp).keep (.same s)⟩
  exact h _ _ (L.same s) (fun _ _ r => r.keep (.same s)) (r.imm L.xd)
/-- a new list of the body's own -/
theorem x_mkN {ds : List PyData} {vs : List V} (L : Lo C X H σ Γ) (q : Reps C.K X H ds vs) (hl : vs.length ≤ 16777216) (h : ∀ p X' H1, C.H0 p = none → ¬ C.X0 p → Lo C X' H1 σ (Γ ++ [.tmp p (.lst ds)]) → (∀ d u, Rep C.K X H d u → Rep C.K X' H1 d u) → Q (.ref p) H1) : KLst Q vs H := by
  refine ⟨by rw [line_eq]; exact hl, fun p hp => ?_⟩
  have s : Same H (upd H p (.lst vs)) := same_upd hp
  obtain ⟨L1, le, h0, hx⟩ := L.lay hp s ⟨vs, upd_same, (q.more hp).keep (.same s)⟩
  exact h p _ _ h0 hx L1 le
/-- behind a call that tells a new object -/
theorem Lo.afterN {v : V} {o : MO} {ps : List (Addr × MO)} {P0 : List Addr} {H' : Hp} (L : Lo C X H σ Γ) (F : Fin C.K X H P0 ps (.new o) v H') (L' : Lo C X H' σ Γ') (kp : Keep X H H') (sub : ∀ p ∈ P0, p ∈ muts Γ) (hm : muts Γ' = muts Γ)
    (hat : ∀ (i : Nat) (s : Sl), Γ'[i]? = some s → (s.ad = none ∧ Γ[i]? = some s) ∨ (∃ p, s.ad = some p ∧ ∀ (q : Addr), H q = none → SlOk C.K (fun a => X a ∨ a = q) H' σ[i]? s)) :
    ∃ p, v = .ref p ∧ C.H0 p = none ∧ ¬ C.X0 p ∧ Lo C (fun a => X a ∨ a = p) H' σ (Γ' ++ [.tmp p o]) ∧ ∀ d u, Rep C.K X H d u → Rep C.K (fun a => X a ∨ a = p) H' d u := by
  obtain ⟨p, e, hn, r⟩ := F.res
  subst e
  have h0 : C.H0 p = none := by
    cases e : C.H0 p with
    | none => rfl
    | some o => exact (L.dom p (by rw [e]; exact fun z => nomatch z) hn).elim
  have kp' : Keep (fun a => X a ∨ a = p) H H' := kp.mono fun a h => .inl h
  have hm2 : muts (Γ' ++ [Sl.tmp p o]) = muts Γ' ++ [p] := by unfold muts; rw [List.filterMap_append]; rfl
  have hnm : p ∉ muts Γ' := fun h => L.xd p (L.mx p (hm ▸ h)) hn
  refine ⟨p, rfl, h0, fun z => L.xd p (L.m0 p z) hn, ⟨L.len, fun i t hi => ?_, ?_, fun q hq => ?_, fun a h => .inl (L.m0 a h), fun a h => ?_, L'.base, L'.dom, fun q hq => ?_, L.tf⟩, fun _ _ q => (q.more hn).keep kp'⟩
  · by_cases hlt : i < Γ'.length
    · rw [List.getElem?_append_left hlt] at hi
      rcases hat i t hi with ⟨h1, h2⟩ | ⟨q, h1, h2⟩
      · exact ((L.at_ i t h2).more hn).keep kp' fun q e => by rw [h1] at e; cases e
      · exact h2 p hn
    · rw [List.getElem?_append_right (by omega)] at hi
      have ht := List.mem_of_getElem? hi
      rw [List.mem_singleton] at ht
      subst ht
      exact r
  · rw [hm2]
    exact List.nodup_append.mpr ⟨L'.nd, by simp, fun a ha b hb => by
      rw [List.mem_singleton] at hb
      subst hb
      intro z
      exact hnm (z ▸ ha)⟩
  · rw [hm2, List.mem_append, List.mem_singleton] at hq
    exact hq.elim (fun z => .inl (L'.mx q z)) .inr
  · rcases h with h | h
    · exact L'.xd a h
    · subst h; exact r.nn
  · rw [hm2, List.mem_append, List.mem_singleton] at hq
    exact hq.elim (L'.own q) fun z => .inr (z ▸ h0)
theorem Lo.after0N {v : V} {o : MO} {ps : List (Addr × MO)} {H' : Hp} (L : Lo C X H σ Γ) (F : Fin C.K X H [] ps (.new o) v H') :
    ∃ p, v = .ref p ∧ C.H0 p = none ∧ ¬ C.X0 p ∧ ∃ X', Lo C X' H' σ (Γ ++ [.tmp p o]) ∧ ∀ d u, Rep C.K X H d u → Rep C.K X' H' d u := by
  have s : Same H H' := fun a o e => F.base a o e (by simp)
  have L' := (L.after0 F).1
  obtain ⟨p, a, b, c, d, e⟩ := L.afterN F L' (.same s) (by simp) rfl fun i t hi => by
    cases e : t.ad with
    | none => exact .inl ⟨rfl, hi⟩
    | some p =>
      refine .inr ⟨p, rfl, fun q hq => ((L.at_ i t hi).more hq).keep (.same s) fun p' e' => ?_⟩
      obtain ⟨o', r'⟩ := (L.at_ i t hi).mrep e'
      cases h : H p' with
      | none => exact (r'.nn h).elim
      | some u => exact s _ _ h
  exact ⟨p, a, b, c, _, d, e⟩
/-! ### tests -/
theorem x_test {t : TE} {Q : Bool → Hp → Prop} (h : t σ H (KB Q)) : tTest t σ H Q := h
theorem x_tB {t : TE} {Q : Bool → Hp → Prop} (h : t σ H (KB Q)) : tB t σ H Q := h
theorem x_kb {b : Bool} {Q : Bool → Hp → Prop} (h : Q b H) : KB Q (.bl b) H := ⟨b, rfl, h⟩
theorem x_not {t : TT} {Q : Bool → Hp → Prop} (h : t σ H (KNot Q)) : tNot t σ H Q := h
theorem x_kn {b : Bool} {Q : Bool → Hp → Prop} (h : Q (!b) H) : KNot Q b H := h
theorem x_notV {t : TE} (h : t σ H (KB (KNotV Q))) : tNotV t σ H Q := h
theorem x_knV {b : Bool} (h : Q (.bl (!b)) H) : KNotV Q b H := h
theorem x_and {t u : TT} {Q : Bool → Hp → Prop} (h : t σ H (KAnd u σ Q)) : tAnd t u σ H Q := h
theorem x_or {t u : TT} {Q : Bool → Hp → Prop} (h : t σ H (KOr u σ Q)) : tOr t u σ H Q := h
theorem x_andV {t u : TE} (h : t σ H (KB (KAndV u σ Q))) : tAndV t u σ H Q := h
theorem x_orV {t u : TE} (h : t σ H (KB (KOrV u σ Q))) : tOrV t u σ H Q := h
theorem x_ifE {t : TT} {ta tb : TE} (h : t σ H (KIfE ta tb σ Q)) : tIf t ta tb σ H Q := h
/-- a second part that can't fail and changes nothing -/
theorem x_andP {A B : Bool} {u : TT} {Q : Bool → Hp → Prop} (hu : ∀ Q' : Bool → Hp → Prop, Q' B H → u σ H Q') (h : Q (A && B) H) : KAnd u σ Q A H := by
  cases A with
  | true => exact hu Q h
  | false => exact h
theorem x_orP {A B : Bool} {u : TT} {Q : Bool → Hp → Prop} (hu : ∀ Q' : Bool → Hp → Prop, Q' B H → u σ H Q') (h : Q (A || B) H) : KOr u σ Q A H := by
  cases A with
  | false => exact hu Q h
  | true => exact h
theorem x_andVP {A B : Bool} {u : TE} (hu : ∀ Q' : VK, Q' (.bl B) H → u σ H Q') (h : Q (.bl (A && B)) H) : KAndV u σ Q A H := by
  cases A with
  | true => exact hu Q h
  | false => exact h
theorem x_orVP {A B : Bool} {u : TE} (hu : ∀ Q' : VK, Q' (.bl B) H → u σ H Q') (h : Q (.bl (A || B)) H) : KOrV u σ Q A H := by
  cases A with
  | false => exact hu Q h
  | true => exact h
/-- .. that may: it runs only then -/
theorem x_andB {A : Bool} {m : Option Bool} {k : Bool → Option ρ} {r : ρ} {u : TT} {Q : Bool → Hp → Prop} (L : Lo C X H σ Γ) (hm : (if A = true then m else some false).bind k = some r)
    (hu : ∀ b, m = some b → ∀ Q' : Bool → Hp → Prop, (∀ H2, Lo C X H2 σ Γ → Q' b H2) → u σ H Q') (h : ∀ b H2, k b = some r → Lo C X H2 σ Γ → Q b H2) : KAnd u σ Q A H := by
  cases A with
  | true =>
    obtain ⟨b, e, hk⟩ := ob hm
    exact hu b e Q fun H2 l => h b H2 hk l
  | false => exact h false H hm L
theorem x_orB {A : Bool} {m : Option Bool} {k : Bool → Option ρ} {r : ρ} {u : TT} {Q : Bool → Hp → Prop} (L : Lo C X H σ Γ) (hm : (if A = true then some true else m).bind k = some r)
    (hu : ∀ b, m = some b → ∀ Q' : Bool → Hp → Prop, (∀ H2, Lo C X H2 σ Γ → Q' b H2) → u σ H Q') (h : ∀ b H2, k b = some r → Lo C X H2 σ Γ → Q b H2) : KOr u σ Q A H := by
  cases A with
  | false =>
    obtain ⟨b, e, hk⟩ := ob hm
    exact hu b e Q fun H2 l => h b H2 hk l
  | true => exact h true H hm L
theorem x_andVB {A : Bool} {m : Option Bool} {k : Bool → Option ρ} {r : ρ} {u : TE} (L : Lo C X H σ Γ) (hm : (if A = true then m else some false).bind k = some r)
    (hu : ∀ b, m = some b → ∀ Q' : VK, (∀ H2, Lo C X H2 σ Γ → Q' (.bl b) H2) → u σ H Q') (h : ∀ b H2, k b = some r → Lo C X H2 σ Γ → Q (.bl b) H2) : KAndV u σ Q A H := by
  cases A with
  | true =>
    obtain ⟨b, e, hk⟩ := ob hm
    exact hu b e Q fun H2 l => h b H2 hk l
  | false => exact h false H hm L
theorem x_orVB {A : Bool} {m : Option Bool} {k : Bool → Option ρ} {r : ρ} {u : TE} (L : Lo C X H σ Γ) (hm : (if A = true then some true else m).bind k = some r)
    (hu : ∀ b, m = some b → ∀ Q' : VK, (∀ H2, Lo C X H2 σ Γ → Q' (.bl b) H2) → u σ H Q') (h : ∀ b H2, k b = some r → Lo C X H2 σ Γ → Q (.bl b) H2) : KOrV u σ Q A H := by
  cases A with
  | false =>
    obtain ⟨b, e, hk⟩ := ob hm
    exact hu b e Q fun H2 l => h b H2 hk l
  | true => exact h true H hm L
theorem x_lfT {B b : Bool} {Q' : Bool → Hp → Prop} (hm : some B = some b) (hQ : ∀ H2, Lo C X H2 σ Γ → Q' b H2) (L : Lo C X H σ Γ) : Q' B H := by cases hm; exact hQ _ L
theorem x_lfV {B b : Bool} {Q' : VK} (hm : some B = some b) (hQ : ∀ H2, Lo C X H2 σ Γ → Q' (.bl b) H2) (L : Lo C X H σ Γ) : Q' (.bl B) H := by cases hm; exact hQ _ L
/-! ### statements -/
section
variable {nx bk ct : L2.St → Hp → Prop} {rt : VK}
theorem x_seq {t u : TS} (h : t ⟨u ⟨nx, rt, bk, ct⟩, rt, bk, ct⟩ σ H) : tSeq t u ⟨nx, rt, bk, ct⟩ σ H := h
theorem x_next (h : nx σ H) : tNext ⟨nx, rt, bk, ct⟩ σ H := h
theorem x_cont (h : ct σ H) : tCont ⟨nx, rt, bk, ct⟩ σ H := h
theorem x_break (h : bk σ H) : tBreak ⟨nx, rt, bk, ct⟩ σ H := h
theorem x_asg {te : TE} {g : TG} (h : te σ H fun x H1 => g x σ H1 nx) : tAsg te g ⟨nx, rt, bk, ct⟩ σ H := h
theorem x_ret {te : TE} (h : te σ H rt) : tRet te ⟨nx, rt, bk, ct⟩ σ H := h
theorem x_retN (h : rt .non H) : tRetN ⟨nx, rt, bk, ct⟩ σ H := h
theorem x_drop {te : TE} (h : te σ H fun _ H1 => nx σ H1) : tDrop te ⟨nx, rt, bk, ct⟩ σ H := h
end
theorem x_ifS {c : TT} {t u : TS} {D : Ends} (h : c σ H (KIf t u D σ)) : tIfS c t u D σ H := h
/-- a branch ends the body: the rest stands in the other one -/
theorem x_if {t u : TS} {D : Ends} {c : Bool} {mA mB : Option ρ} {r : ρ} (hm : (if c = true then mA else mB) = some r) (hA : mA = some r → t D σ H) (hB : mB = some r → u D σ H) : KIf t u D σ c H := by
  cases c with
  | true => exact hA hm
  | false => exact hB hm
theorem x_ifX {t u : TE} {c : Bool} {mA mB : Option ρ} {r : ρ} (hm : (if c = true then mA else mB) = some r) (hA : mA = some r → t σ H Q) (hB : mB = some r → u σ H Q) : KIfE t u σ Q c H := by
  cases c with
  | true => exact hA hm
  | false => exact hB hm
theorem x_set {d : PyData} {i : Nat} {v : V} {N : L2.St → Hp → Prop} (L : Lo C X H σ Γ) (r : Rep C.K X H d v) (hi : i < C.n) (e : Γ.set i (.imm d) = Γ') (h : ∀ σ', Lo C X H σ' Γ' → N σ' H) : gName i v σ H N := by
  subst e
  exact h _ (L.set r hi)
/-- a new object gets a name -/
theorem x_setN {p : Addr} {o : MO} {i : Nat} {N : L2.St → Hp → Prop} (L : Lo C X H σ (Γ ++ [.tmp p o])) (hi : i < C.n) (hl : i < Γ.length) (e : Γ.set i (.mu p o) = Γ') (h : ∀ σ', Lo C X H σ' Γ' → N σ' H) : gName i (.ref p) σ H N := by
  subst e
  exact h _ (L.name hi hl)
/-- two names at once -/
theorem x_par {i j : Nat} {ta : TA} {nx bk ct : L2.St → Hp → Prop} {rt : VK} (h : ta σ H (KPar i j σ nx)) : tPar i j ta ⟨nx, rt, bk, ct⟩ σ H := h
theorem x_par2 {x y : PyData} {i j : Nat} {v w : V} {N : L2.St → Hp → Prop} (L : Lo C X H σ Γ) (r : Rep C.K X H x v) (q : Rep C.K X H y w) (hi : i < C.n) (hj : j < C.n) (e : (Γ.set i (.imm x)).set j (.imm y) = Γ') (h : ∀ σ', Lo C X H σ' Γ' → N σ' H) :
    KPar i j σ N [v, w] H := by
  subst e
  exact ⟨v, w, rfl, h _ ((L.set r hi).set q hj)⟩
def KPar3 (i j l : Nat) (σ : L2.St) (N : L2.St → Hp → Prop) : List V → Hp → Prop := fun vs H => ∃ u v w, vs = [u, v, w] ∧ N (((σ.set i (some u)).set j (some v)).set l (some w)) H
theorem x_par3 {i j l : Nat} {ta : TA} {nx bk ct : L2.St → Hp → Prop} {rt : VK} (h : ta σ H (KPar3 i j l σ nx)) : tPar3 i j l ta ⟨nx, rt, bk, ct⟩ σ H := h
theorem x_par3r {x y z : PyData} {i j l : Nat} {u v w : V} {N : L2.St → Hp → Prop} (L : Lo C X H σ Γ) (r : Rep C.K X H x u) (q : Rep C.K X H y v) (t : Rep C.K X H z w) (hi : i < C.n) (hj : j < C.n) (hl : l < C.n) (e : ((Γ.set i (.imm x)).set j (.imm y)).set l (.imm z) = Γ') (h : ∀ σ', Lo C X H σ' Γ' → N σ' H) :
    KPar3 i j l σ N [u, v, w] H := by
  subst e
  exact ⟨u, v, w, rfl, h _ (((L.set r hi).set q hj).set t hl)⟩
/-- a tuple is parted to names -/
theorem x_gTup {ds : List PyData} {v : V} {n : Nat} {t : TGs} {N : L2.St → Hp → Prop} (r : Rep C.K X H (.tuple ds) v) (hl : ds.length = n) (h : ∀ vs, Reps C.K X H ds vs → t vs σ H N) : gTup C.K n t v σ H N := by
  obtain ⟨a, vs, rfl, hs, q⟩ := rep_tup r
  exact ⟨a, vs, rfl, hs, q.length.trans hl, h vs q⟩
theorem x_gCons {d : PyData} {ds : List PyData} {vs : List V} {t : TG} {u : TGs} {N : L2.St → Hp → Prop} (q : Reps C.K X H (d :: ds) vs) (h : ∀ v r, Rep C.K X H d v → Reps C.K X H ds r → t v σ H fun σ' H' => u r σ' H' N) : gCons t u vs σ H N := by
  cases q with | cons r t => exact ⟨_, _, rfl, h _ _ r t⟩
theorem x_gNil {vs : List V} {N : L2.St → Hp → Prop} (q : Reps C.K X H [] vs) (h : N σ H) : gNil vs σ H N := by
  cases q; exact ⟨rfl, h⟩
/-- an item of a list is written -/
theorem x_gSub {to ti : TE} {t : TSet} {v : V} {N : L2.St → Hp → Prop} (h : to σ H fun o H1 => ti σ H1 fun i H2 => t o i v H2 (N σ)) : gSub to ti t v σ H N := h
def setI (xs : List α) (i : Int) (x : α) : Option (List α) := (ixN xs.length i).map fun j => xs.set j x
theorem x_setI [Py α] {xs : List α} {x : α} {i : Int} {j : Nat} {p : Addr} {v : V} {N : Hp → Prop} {k : List α → Option ρ} {r : ρ} (L : Lo C X H σ Γ) (g : Γ[j]? = some (.mu p (ml xs))) (hm : (setI xs i x).bind k = some r) (q : Rep C.K X H (enc x) v)
    (h : ∀ ys H1, setI xs i x = some ys → k ys = some r → Lo C X H1 σ (Γ.set j (.mu p (ml ys))) → N H1) : rSetL (.ref p) (.int i) v H N := by
  obtain ⟨ys, e, hk⟩ := ob hm
  have e' := e
  unfold setI at e'
  obtain ⟨vs, hs, rs⟩ := L.mrep g
  have hl : vs.length = xs.length := by rw [rs.length, List.length_map]
  cases hj : ixN xs.length i with
  | none => rw [hj] at e'; cases e'
  | some m =>
    rw [hj] at e'
    have e2 : xs.set m x = ys := Option.some.inj e'
    refine ⟨p, vs, i, m, rfl, rfl, hs, by rw [hl]; exact hj, ?_⟩
    have hX : X p := L.mx p (mem_muts.mpr ⟨j, _, g, rfl⟩)
    have kp : Keep X H (upd H p (.lst (vs.set m v))) := ⟨fun a u h n => by rw [upd_ne (fun z => n (by rw [z]; exact hX))]; exact h, fun a us h => by rw [upd_ne (fun z => by rw [z, hs] at h; cases h)]; exact h, fun a u w h => by rw [upd_ne (fun z => by rw [z, hs] at h; cases h)]; exact h⟩
    have := L.wrote (H' := upd H p (.lst (vs.set m v))) (o := ml ys) g rfl (fun a u h n => by rw [upd_ne n]; exact h) (fun a h => by
      by_cases z : a = p
      · rw [z, upd_same]; exact fun y => nomatch y
      · rw [upd_ne z]; exact h) ⟨_, upd_same, by rw [← e2, List.map_set]; exact (rs.set q m).keep kp⟩
    exact h ys _ e hk this.1
end
open Py (enc)

/-- how a loop's turn ends: the next one, out of the loop, out of the def -/
inductive Lp (τ ρ : Type) where
  | nxt (s : τ)
  | brk (s : τ)
  | ret (r : ρ)
def loopL {α τ ρ : Type} (f : α → τ → Option (Lp τ ρ)) : List α → τ → Option (Lp τ ρ)
  | [], s => some (.nxt s)
  | x :: xs, s => (f x s).bind fun o => match o with
    | .nxt s' => loopL f xs s'
    | .brk s' => some (.brk s')
    | .ret r => some (.ret r)
/-- a loop that is left by its end alone -/
def foldO {α τ : Type} (f : α → τ → Option τ) : List α → τ → Option τ
  | [], s => some s
  | x :: xs, s => (f x s).bind fun s' => foldO f xs s'
def loopW {τ ρ : Type} (f : τ → Option (Lp τ ρ)) : Nat → τ → Option (Lp τ ρ)
  | 0, _ => none
  | n + 1, s => (f s).bind fun o => match o with
    | .nxt s' => loopW f n s'
    | .brk s' => some (.brk s')
    | .ret r => some (.ret r)
/-- a while without a break or a return -/
def whileO {τ : Type} (c : τ → Bool) (f : τ → Option τ) : Nat → τ → Option τ
  | 0, _ => none
  | n + 1, s => if c s = true then (f s).bind fun s' => whileO c f n s' else some s
def rangeL (lo : Int) (n : Nat) : List Int := (List.range n).map fun (k : Nat) => lo + (k : Int)

/-- what a loop told -/
def Lp.out {τ ρ ρ' : Type} (o : Lp τ ρ) (j : ρ → Option ρ') (k : τ → Option ρ') : Option ρ' := match o with
  | .nxt s => k s
  | .brk s => k s
  | .ret r => j r
/-- the rest of a loop, of a comprehension, by name -/
def KForL (K : PySem.W.Frag) (g : TG) (tb : TS) (D : Ends) (σ : L2.St) (v : V) (H : Hp) : Prop := ∃ a, v = V.ref a ∧ (∃ xs, SqL K H a xs) ∧ ∃ W : Nat → Nat → L2.St → Hp → Prop, (∃ m, W 0 m σ H) ∧ ∀ i m σ H, W i m σ H →
      ((Itl K a).stop i H ∧ D.nx σ H) ∨ ((Itl K a).go i H ∧ ∃ N : L2.St → Hp → Prop, (∀ σ' H', N σ' H' → ∃ m', m' < m ∧ W (i + 1) m' σ' H') ∧ ∀ x H', (Itl K a).yld i H x H' → g x σ H' fun σ2 H2 => tb { D with nx := N, ct := N, bk := D.nx } σ2 H2)
def KForT (K : PySem.W.Frag) (g : TG) (tb : TS) (D : Ends) (σ : L2.St) (v : V) (H : Hp) : Prop := ∃ a, v = V.ref a ∧ (∃ xs, SqT K H a xs) ∧ ∃ W : Nat → Nat → L2.St → Hp → Prop, (∃ m, W 0 m σ H) ∧ ∀ i m σ H, W i m σ H →
      ((Itt K a).stop i H ∧ D.nx σ H) ∨ ((Itt K a).go i H ∧ ∃ N : L2.St → Hp → Prop, (∀ σ' H', N σ' H' → ∃ m', m' < m ∧ W (i + 1) m' σ' H') ∧ ∀ x H', (Itt K a).yld i H x H' → g x σ H' fun σ2 H2 => tb { D with nx := N, ct := N, bk := D.nx } σ2 H2)
def KForR (lo : Int) (n : Nat) (g : TG) (tb : TS) (D : Ends) (σ : L2.St) (H : Hp) : Prop := ∃ W : Nat → Nat → L2.St → Hp → Prop, (∃ m, W 0 m σ H) ∧ ∀ i m σ H, W i m σ H →
      ((Itr lo n).stop i H ∧ D.nx σ H) ∨ ((Itr lo n).go i H ∧ ∃ N : L2.St → Hp → Prop, (∀ σ' H', N σ' H' → ∃ m', m' < m ∧ W (i + 1) m' σ' H') ∧ ∀ x H', (Itr lo n).yld i H x H' → g x σ H' fun σ2 H2 => tb { D with nx := N, ct := N, bk := D.nx } σ2 H2)
def KWh (tb : TS) (D : Ends) (σ : L2.St) : Bool → Hp → Prop := fun b H => if b = true then tb D σ H else D.bk σ H
def KRng1 (R : Int → Nat → Hp → Prop) : List V → Hp → Prop := fun vs H => ∃ j : Int, vs = [.int j] ∧ -(2 ^ 62) ≤ j ∧ j < 2 ^ 62 ∧ R 0 j.toNat H
def KRng2 (R : Int → Nat → Hp → Prop) : List V → Hp → Prop := fun vs H => ∃ i j : Int, vs = [.int i, .int j] ∧ (-(2 ^ 62) ≤ i ∧ i < 2 ^ 62 ∧ -(2 ^ 62) ≤ j ∧ j < 2 ^ 62) ∧ R i (j - i).toNat H
theorem x_whIf {tb : TS} {nx bk ct : L2.St → Hp → Prop} {rt : VK} {σ : L2.St} {H : Hp} {ρ : Type} {c : Bool} {mA mB : Option ρ} {r : ρ} (hm : (if c = true then mA else mB) = some r) (hA : mA = some r → tb ⟨nx, rt, bk, ct⟩ σ H) (hB : mB = some r → bk σ H) : KWh tb ⟨nx, rt, bk, ct⟩ σ c H := by
  cases c with
  | true => exact hA hm
  | false => exact hB hm
section
variable {C : Cn} {X : Addr → Prop} {H : Hp} {σ : L2.St} {Γ Γ' : List Sl} {Q : VK} {α β τ ρ : Type}
theorem loop_drop {f : α → τ → Option (Lp τ ρ)} {xs : List α} {i : Nat} {x : α} {s : τ} {o : Lp τ ρ} (hx : xs[i]? = some x) (h : loopL f (xs.drop i) s = some o) :
    ∃ o1, f x s = some o1 ∧ (∀ s', o1 = .nxt s' → loopL f (xs.drop (i + 1)) s' = some o) ∧ (∀ s', o1 = .brk s' → o = .brk s') ∧ (∀ r, o1 = .ret r → o = .ret r) := by
  obtain ⟨hl, hx⟩ := List.getElem?_eq_some_iff.mp hx
  rw [List.drop_eq_getElem_cons hl, hx] at h
  obtain ⟨o1, h1, h2⟩ := ob h
  refine ⟨o1, h1, fun s' e => ?_, fun s' e => ?_, fun r e => ?_⟩
  · subst e; exact h2
  · subst e; exact (Option.some.inj h2).symm
  · subst e; exact (Option.some.inj h2).symm
/-- what a loop's body shows of one turn -/
def Body (C : Cn) (X : Addr → Prop) (G : τ → List Sl) (ps : ρ → List (Addr × MO)) (rs : ρ → Rs) (d : PyData) (s : τ) (o : Option (Lp τ ρ)) (g : TG) (tb : TS) : Prop :=
  ∀ (H : Hp) (σ : L2.St) (u : V) (nx : L2.St → Hp → Prop) (rt : VK) (bk ct : L2.St → Hp → Prop) (o1 : Lp τ ρ), o = some o1 → Lo ⟨C.K, X, H, muts (G s), C.n⟩ X H σ (G s) → Rep C.K X H d u →
    (∀ s', o1 = .nxt s' → ∀ X' σ' H', Lo ⟨C.K, X, H, muts (G s), C.n⟩ X' H' σ' (G s') → nx σ' H') →
    (∀ s', o1 = .nxt s' → ∀ X' σ' H', Lo ⟨C.K, X, H, muts (G s), C.n⟩ X' H' σ' (G s') → ct σ' H') →
    (∀ s', o1 = .brk s' → ∀ X' σ' H', Lo ⟨C.K, X, H, muts (G s), C.n⟩ X' H' σ' (G s') → bk σ' H') →
    (∀ r, o1 = .ret r → ∀ v H', Fin C.K X H (muts (G s)) (ps r) (rs r) v H' → rt v H') → g u σ H fun σ2 H2 => tb ⟨nx, rt, bk, ct⟩ σ2 H2
theorem x_for [Py α] {xs : List α} {f : α → τ → Option (Lp τ ρ)} {G : τ → List Sl} {ps : ρ → List (Addr × MO)} {rs : ρ → Rs} {s0 : τ} {o : Lp τ ρ} {v : V} {g : TG} {tb : TS} {nx bk ct : L2.St → Hp → Prop} {rt : VK}
    (L : Lo C X H σ (G s0)) (hG : ∀ s s', muts (G s) = muts (G s')) (r : Rep C.K X H (enc xs) v) (hm : loopL f xs s0 = some o)
    (body : ∀ x s, Body C X G ps rs (enc x) s (f x s) g tb)
    (done : ∀ s, o = .nxt s → ∀ σ' H', Lo C X H' σ' (G s) → nx σ' H') (brk : ∀ s, o = .brk s → ∀ σ' H', Lo C X H' σ' (G s) → nx σ' H')
    (ret : ∀ q, o = .ret q → ∀ v H', Fin C.K C.X0 C.H0 C.P0 (ps q) (rs q) v H' → rt v H') :
    KForL C.K g tb ⟨nx, rt, bk, ct⟩ σ v H := by
  obtain ⟨a, vs, rfl, hna, hrd, hrs⟩ := rep_lst (ds := xs.map enc) r
  refine ⟨a, rfl, ⟨vs, .inl hrd⟩, for_list (K := C.K) (a := a) (xs := vs) (fun i σ' H' => ∃ s, Lo C X H' σ' (G s) ∧ Rep C.K X H' (enc xs) (.ref a) ∧ Rd H' a (.lst vs) ∧ loopL f (xs.drop i) s = some o)
    ⟨s0, L, r, hrd, hm⟩ (fun i σ' H' _ ⟨s, _, _, h, _⟩ => .inl h) ?_ ?_⟩
  · rintro i y σ' H' hy ⟨s, L', r', hd', hm'⟩
    obtain ⟨a', vs', e', _, hrd', hrs'⟩ := rep_lst (ds := xs.map enc) r'
    cases e'
    have ev : vs' = vs := by
      rcases hd' with h1 | ⟨_, h1⟩ <;> rcases hrd' with h2 | ⟨_, h2⟩ <;> rw [h1] at h2 <;> cases h2 <;> rfl
    subst ev
    obtain ⟨d, hd, rd⟩ := hrs'.get' hy
    rw [List.getElem?_map] at hd
    cases hx : xs[i]? with
    | none => rw [hx] at hd; cases hd
    | some x =>
      rw [hx] at hd
      cases hd
      obtain ⟨o1, h1, h2, h3, h4⟩ := loop_drop hx hm'
      refine body x s H' σ' y _ _ _ _ o1 h1 L'.enter rd ?_ ?_ ?_ ?_
      · intro s' e X' σ'' H'' L''
        have k := L'.keep L''
        exact ⟨s', L'.leave L'' (hG _ _), r'.keep k, k.rd hna hrd', h2 s' e⟩
      · intro s' e X' σ'' H'' L''
        have k := L'.keep L''
        exact ⟨s', L'.leave L'' (hG _ _), r'.keep k, k.rd hna hrd', h2 s' e⟩
      · intro s' e X' σ'' H'' L''
        exact brk s' (h3 s' e) _ _ (L'.leave L'' (hG _ _))
      · intro q e v' H'' F
        exact ret q (h4 q e) v' H'' (F.leave L')
  · rintro σ' H' ⟨s, L', _, _, hm'⟩
    rw [hrs.length, List.length_map, List.drop_length] at hm'
    exact done s (Option.some.inj hm').symm _ _ L'
/-- .. over a tuple of such items -/
theorem x_forT [Py α] {xs : List α} {f : α → τ → Option (Lp τ ρ)} {G : τ → List Sl} {ps : ρ → List (Addr × MO)} {rs : ρ → Rs} {s0 : τ} {o : Lp τ ρ} {v : V} {g : TG} {tb : TS} {nx bk ct : L2.St → Hp → Prop} {rt : VK}
    (L : Lo C X H σ (G s0)) (hG : ∀ s s', muts (G s) = muts (G s')) (r : Rep C.K X H (.tuple (xs.map enc)) v) (hm : loopL f xs s0 = some o)
    (body : ∀ x s, Body C X G ps rs (enc x) s (f x s) g tb)
    (done : ∀ s, o = .nxt s → ∀ σ' H', Lo C X H' σ' (G s) → nx σ' H') (brk : ∀ s, o = .brk s → ∀ σ' H', Lo C X H' σ' (G s) → nx σ' H')
    (ret : ∀ q, o = .ret q → ∀ v H', Fin C.K C.X0 C.H0 C.P0 (ps q) (rs q) v H' → rt v H') :
    KForT C.K g tb ⟨nx, rt, bk, ct⟩ σ v H := by
  obtain ⟨a, vs, rfl, hrd, hrs⟩ := rep_tup r
  refine ⟨a, rfl, ⟨vs, hrd⟩, for_tup (K := C.K) (a := a) (xs := vs) (fun i σ' H' => ∃ s, Lo C X H' σ' (G s) ∧ SqT C.K H' a vs ∧ Reps C.K X H' (xs.map enc) vs ∧ loopL f (xs.drop i) s = some o)
    ⟨s0, L, hrd, hrs, hm⟩ (fun i σ' H' _ ⟨s, _, h, _⟩ => h) ?_ ?_⟩
  · rintro i y σ' H' hy ⟨s, L', hrd', hrs', hm'⟩
    obtain ⟨d, hd, rd⟩ := hrs'.get' hy
    rw [List.getElem?_map] at hd
    cases hx : xs[i]? with
    | none => rw [hx] at hd; cases hd
    | some x =>
      rw [hx] at hd
      cases hd
      obtain ⟨o1, h1, h2, h3, h4⟩ := loop_drop hx hm'
      refine body x s H' σ' y _ _ _ _ o1 h1 L'.enter rd ?_ ?_ ?_ ?_
      · intro s' e X' σ'' H'' L''
        have k := L'.keep L''
        exact ⟨s', L'.leave L'' (hG _ _), k.sqT hrd', hrs'.keep k, h2 s' e⟩
      · intro s' e X' σ'' H'' L''
        have k := L'.keep L''
        exact ⟨s', L'.leave L'' (hG _ _), k.sqT hrd', hrs'.keep k, h2 s' e⟩
      · intro s' e X' σ'' H'' L''
        exact brk s' (h3 s' e) _ _ (L'.leave L'' (hG _ _))
      · intro q e v' H'' F
        exact ret q (h4 q e) v' H'' (F.leave L')
  · rintro σ' H' ⟨s, L', _, _, hm'⟩
    rw [hrs.length, List.length_map, List.drop_length] at hm'
    exact done s (Option.some.inj hm').symm _ _ L'
theorem rangeL_get {lo : Int} {n i : Nat} (h : i < n) : (rangeL lo n)[i]? = some (lo + (i : Int)) := by
  unfold rangeL
  rw [List.getElem?_map, List.getElem?_range h]
  rfl
/-- .. over a range -/
theorem x_forR {f : Int → τ → Option (Lp τ ρ)} {G : τ → List Sl} {ps : ρ → List (Addr × MO)} {rs : ρ → Rs} {s0 : τ} {o : Lp τ ρ} {lo : Int} {n : Nat} {g : TG} {tb : TS} {nx bk ct : L2.St → Hp → Prop} {rt : VK}
    (L : Lo C X H σ (G s0)) (hG : ∀ s s', muts (G s) = muts (G s')) (hm : loopL f (rangeL lo n) s0 = some o)
    (body : ∀ x s, Body C X G ps rs (enc x) s (f x s) g tb)
    (done : ∀ s, o = .nxt s → ∀ σ' H', Lo C X H' σ' (G s) → nx σ' H') (brk : ∀ s, o = .brk s → ∀ σ' H', Lo C X H' σ' (G s) → nx σ' H')
    (ret : ∀ q, o = .ret q → ∀ v H', Fin C.K C.X0 C.H0 C.P0 (ps q) (rs q) v H' → rt v H') :
    KForR lo n g tb ⟨nx, rt, bk, ct⟩ σ H := by
  refine for_range (fun i σ' H' => ∃ s, Lo C X H' σ' (G s) ∧ loopL f ((rangeL lo n).drop i) s = some o) ⟨s0, L, hm⟩ ?_ ?_
  · rintro i σ' H' hi ⟨s, L', hm'⟩
    obtain ⟨o1, h1, h2, h3, h4⟩ := loop_drop (rangeL_get hi) hm'
    refine body (lo + (i : Int)) s H' σ' _ _ _ _ _ o1 h1 L'.enter (.int _) ?_ ?_ ?_ ?_
    · intro s' e X' σ'' H'' L''
      exact ⟨s', L'.leave L'' (hG _ _), h2 s' e⟩
    · intro s' e X' σ'' H'' L''
      exact ⟨s', L'.leave L'' (hG _ _), h2 s' e⟩
    · intro s' e X' σ'' H'' L''
      exact brk s' (h3 s' e) _ _ (L'.leave L'' (hG _ _))
    · intro q e v' H'' F
      exact ret q (h4 q e) v' H'' (F.leave L')
  · rintro σ' H' ⟨s, L', hm'⟩
    have hl : (rangeL lo n).length = n := by unfold rangeL; rw [List.length_map, List.length_range]
    have : (rangeL lo n).drop n = [] := List.drop_eq_nil_of_le (by omega)
    rw [this] at hm'
    exact done s (Option.some.inj hm').symm _ _ L'
/-- .. over the script -/
theorem x_forS {xs : List Int} {f : Int → τ → Option (Lp τ ρ)} {G : τ → List Sl} {ps : ρ → List (Addr × MO)} {rs : ρ → Rs} {s0 : τ} {o : Lp τ ρ} {v : V} {g : TG} {tb : TS} {nx bk ct : L2.St → Hp → Prop} {rt : VK}
    (L : Lo C X H σ (G s0)) (hG : ∀ s s', muts (G s) = muts (G s')) (r : SqX C.K X H xs v) (hm : loopL f xs s0 = some o)
    (body : ∀ x s, Body C X G ps rs (enc x) s (f x s) g tb)
    (done : ∀ s, o = .nxt s → ∀ σ' H', Lo C X H' σ' (G s) → nx σ' H') (brk : ∀ s, o = .brk s → ∀ σ' H', Lo C X H' σ' (G s) → nx σ' H')
    (ret : ∀ q, o = .ret q → ∀ v H', Fin C.K C.X0 C.H0 C.P0 (ps q) (rs q) v H' → rt v H') :
    KForL C.K g tb ⟨nx, rt, bk, ct⟩ σ v H := by
  obtain ⟨a, rfl, hs⟩ := r.sq
  refine ⟨a, rfl, ⟨_, hs⟩, for_list (K := C.K) (a := a) (xs := xs.map V.int) (fun i σ' H' => ∃ s, Lo C X H' σ' (G s) ∧ SqX C.K X H' xs (.ref a) ∧ loopL f (xs.drop i) s = some o)
    ⟨s0, L, r, hm⟩ (fun i σ' H' _ ⟨s, _, h, _⟩ => by obtain ⟨a', e, h⟩ := h.sq; cases e; exact h) ?_ ?_⟩
  · rintro i y σ' H' hy ⟨s, L', r', hm'⟩
    rw [List.getElem?_map] at hy
    cases hx : xs[i]? with
    | none => rw [hx] at hy; cases hy
    | some x =>
      rw [hx] at hy
      cases hy
      obtain ⟨o1, h1, h2, h3, h4⟩ := loop_drop hx hm'
      refine body x s H' σ' _ _ _ _ _ o1 h1 L'.enter (.int _) ?_ ?_ ?_ ?_
      · intro s' e X' σ'' H'' L''
        exact ⟨s', L'.leave L'' (hG _ _), r'.keep (L'.keep L''), h2 s' e⟩
      · intro s' e X' σ'' H'' L''
        exact ⟨s', L'.leave L'' (hG _ _), r'.keep (L'.keep L''), h2 s' e⟩
      · intro s' e X' σ'' H'' L''
        exact brk s' (h3 s' e) _ _ (L'.leave L'' (hG _ _))
      · intro q e v' H'' F
        exact ret q (h4 q e) v' H'' (F.leave L')
  · rintro σ' H' ⟨s, L', _, hm'⟩
    rw [List.length_map, List.drop_length] at hm'
    exact done s (Option.some.inj hm').symm _ _ L'
/-- a while: f runs the test, too, and tells brk where it is not so -/
theorem x_while {f : τ → Option (Lp τ ρ)} {G : τ → List Sl} {ps : ρ → List (Addr × MO)} {rs : ρ → Rs} {s0 : τ} {o : Lp τ ρ} {n : Nat} {c : TT} {tb : TS} {nx bk ct : L2.St → Hp → Prop} {rt : VK}
    (L : Lo C X H σ (G s0)) (hG : ∀ s s', muts (G s) = muts (G s')) (hm : loopW f n s0 = some o)
    (body : ∀ s, ∀ (H : Hp) (σ : L2.St) (nx : L2.St → Hp → Prop) (rt : VK) (bk ct : L2.St → Hp → Prop) (o1 : Lp τ ρ), f s = some o1 → Lo ⟨C.K, X, H, muts (G s), C.n⟩ X H σ (G s) →
      (∀ s', o1 = .nxt s' → ∀ X' σ' H', Lo ⟨C.K, X, H, muts (G s), C.n⟩ X' H' σ' (G s') → nx σ' H') →
      (∀ s', o1 = .nxt s' → ∀ X' σ' H', Lo ⟨C.K, X, H, muts (G s), C.n⟩ X' H' σ' (G s') → ct σ' H') →
      (∀ s', o1 = .brk s' → ∀ X' σ' H', Lo ⟨C.K, X, H, muts (G s), C.n⟩ X' H' σ' (G s') → bk σ' H') →
      (∀ r, o1 = .ret r → ∀ v H', Fin C.K X H (muts (G s)) (ps r) (rs r) v H' → rt v H') →
      ∀ Qc : Bool → Hp → Prop, (∀ b H1, KWh tb ⟨nx, rt, bk, ct⟩ σ b H1 → Qc b H1) → c σ H Qc)
    (done : ∀ s, o = .brk s → ∀ σ' H', Lo C X H' σ' (G s) → nx σ' H')
    (ret : ∀ q, o = .ret q → ∀ v H', Fin C.K C.X0 C.H0 C.P0 (ps q) (rs q) v H' → rt v H') : tWhile c tb ⟨nx, rt, bk, ct⟩ σ H := by
  refine ⟨fun m σ' H' => ∃ s, Lo C X H' σ' (G s) ∧ loopW f m s = some o, ⟨n, s0, L, hm⟩, ?_⟩
  rintro m σ' H' ⟨s, L', hm'⟩
  cases m with
  | zero => cases hm'
  | succ m =>
    obtain ⟨o1, h1, h2⟩ := ob hm'
    refine body s H' σ' (fun σ' H' => ∃ s, Lo C X H' σ' (G s) ∧ loopW f m s = some o) rt nx (fun σ' H' => ∃ s, Lo C X H' σ' (G s) ∧ loopW f m s = some o) o1 h1 L'.enter ?_ ?_ ?_ ?_ _ ?_
    · intro s' e X' σ'' H'' L''
      subst e
      exact ⟨s', L'.leave L'' (hG _ _), h2⟩
    · intro s' e X' σ'' H'' L''
      subst e
      exact ⟨s', L'.leave L'' (hG _ _), h2⟩
    · intro s' e X' σ'' H'' L''
      subst e
      exact done s' (Option.some.inj h2).symm _ _ (L'.leave L'' (hG _ _))
    · intro q e v' H'' F
      subst e
      exact ret q (Option.some.inj h2).symm v' H'' (F.leave L')
    · intro b H1 q
      cases b with
      | true => exact ⟨fun σ' H' => ∃ s, Lo C X H' σ' (G s) ∧ loopW f m s = some o, fun σ1 H1 ⟨s1, L1, h⟩ => ⟨m, Nat.lt_succ_self _, s1, L1, h⟩, q⟩
      | false => exact q


/-! ### loops, with what stands behind them -/
def BodyO (C : Cn) (X : Addr → Prop) (G : τ → List Sl) (d : PyData) (s : τ) (o : Option τ) (g : TG) (tb : TS) : Prop :=
  ∀ (H : Hp) (σ : L2.St) (u : V) (nx : L2.St → Hp → Prop) (rt : VK) (bk ct : L2.St → Hp → Prop) (s1 : τ), o = some s1 → Lo ⟨C.K, X, H, muts (G s), C.n⟩ X H σ (G s) → Rep C.K X H d u →
    (∀ X' σ' H', Lo ⟨C.K, X, H, muts (G s), C.n⟩ X' H' σ' (G s1) → nx σ' H') →
    (∀ X' σ' H', Lo ⟨C.K, X, H, muts (G s), C.n⟩ X' H' σ' (G s1) → ct σ' H') → g u σ H fun σ2 H2 => tb ⟨nx, rt, bk, ct⟩ σ2 H2
theorem foldO_loop {f : α → τ → Option τ} : ∀ {xs : List α} {s s' : τ}, foldO f xs s = some s' → loopL (ρ := Empty) (fun x s => (f x s).bind fun s => some (.nxt s)) xs s = some (.nxt s')
  | [], s, s', h => by cases h; rfl
  | x :: xs, s, s', h => by
    obtain ⟨t, h1, h2⟩ := ob h
    show ((f x s).bind fun s => some (Lp.nxt (ρ := Empty) s)).bind _ = _
    rw [h1]
    exact foldO_loop h2
theorem BodyO.body {G : τ → List Sl} {d : PyData} {s : τ} {o : Option τ} {g : TG} {tb : TS} (b : BodyO C X G d s o g tb) : Body (ρ := Empty) C X G (fun _ => []) (fun _ => .imm .none) d s (o.bind fun s => some (.nxt s)) g tb := by
  intro H σ u nx rt bk ct o1 hm L r hN hC hB hR
  obtain ⟨s1, h1, h2⟩ := ob hm
  cases h2
  exact b H σ u nx rt bk ct s1 h1 L r (hN s1 rfl) (hC s1 rfl)
theorem x_foL [Py α] {xs : List α} {f : α → τ → Option τ} {G : τ → List Sl} {s0 : τ} {v : V} {g : TG} {tb : TS} {nx bk ct : L2.St → Hp → Prop} {rt : VK} {k : τ → Option ρ} {res : ρ}
    (L : Lo C X H σ (G s0)) (hG : ∀ s s', muts (G s) = muts (G s')) (r : Rep C.K X H (enc xs) v) (hm : (foldO f xs s0).bind k = some res)
    (body : ∀ x s, BodyO C X G (enc x) s (f x s) g tb) (done : ∀ s σ' H', k s = some res → Lo C X H' σ' (G s) → nx σ' H') : KForL C.K g tb ⟨nx, rt, bk, ct⟩ σ v H := by
  obtain ⟨s1, h1, h2⟩ := ob hm
  exact x_for (ρ := Empty) (o := .nxt s1) (ps := fun _ => []) (rs := fun _ => .imm .none) L hG r (foldO_loop h1) (fun x s => (body x s).body) (fun s e σ' H' L' => by cases e; exact done _ _ _ h2 L') (fun s e => nomatch e) (fun q => nomatch q)
theorem x_flL [Py α] {xs : List α} {f : α → τ → Option (Lp τ ρ)} {G : τ → List Sl} {ps : ρ → List (Addr × MO)} {rs : ρ → Rs} {s0 : τ} {v : V} {g : TG} {tb : TS} {nx bk ct : L2.St → Hp → Prop} {rt : VK} {k : τ → Option β} {j : ρ → Option β} {res : β}
    (L : Lo C X H σ (G s0)) (hG : ∀ s s', muts (G s) = muts (G s')) (r : Rep C.K X H (enc xs) v) (hm : (loopL f xs s0).bind (fun o => o.out j k) = some res)
    (body : ∀ x s, Body C X G ps rs (enc x) s (f x s) g tb) (done : ∀ s σ' H', k s = some res → Lo C X H' σ' (G s) → nx σ' H')
    (ret : ∀ q v H', j q = some res → Fin C.K C.X0 C.H0 C.P0 (ps q) (rs q) v H' → rt v H') : KForL C.K g tb ⟨nx, rt, bk, ct⟩ σ v H := by
  obtain ⟨o, h1, h2⟩ := ob hm
  exact x_for L hG r h1 body (fun s e σ' H' L' => done _ _ _ (by rw [e] at h2; exact h2) L') (fun s e σ' H' L' => done _ _ _ (by rw [e] at h2; exact h2) L') (fun q e v H' F => ret _ _ _ (by rw [e] at h2; exact h2) F)
theorem x_foT [Py α] {xs : List α} {f : α → τ → Option τ} {G : τ → List Sl} {s0 : τ} {v : V} {g : TG} {tb : TS} {nx bk ct : L2.St → Hp → Prop} {rt : VK} {k : τ → Option ρ} {res : ρ}
    (L : Lo C X H σ (G s0)) (hG : ∀ s s', muts (G s) = muts (G s')) (r : Rep C.K X H (.tuple (xs.map enc)) v) (hm : (foldO f xs s0).bind k = some res)
    (body : ∀ x s, BodyO C X G (enc x) s (f x s) g tb) (done : ∀ s σ' H', k s = some res → Lo C X H' σ' (G s) → nx σ' H') : KForT C.K g tb ⟨nx, rt, bk, ct⟩ σ v H := by
  obtain ⟨s1, h1, h2⟩ := ob hm
  exact x_forT (ρ := Empty) (o := .nxt s1) (ps := fun _ => []) (rs := fun _ => .imm .none) L hG r (foldO_loop h1) (fun x s => (body x s).body) (fun s e σ' H' L' => by cases e; exact done _ _ _ h2 L') (fun s e => nomatch e) (fun q => nomatch q)
theorem x_flT [Py α] {xs : List α} {f : α → τ → Option (Lp τ ρ)} {G : τ → List Sl} {ps : ρ → List (Addr × MO)} {rs : ρ → Rs} {s0 : τ} {v : V} {g : TG} {tb : TS} {nx bk ct : L2.St → Hp → Prop} {rt : VK} {k : τ → Option β} {j : ρ → Option β} {res : β}
    (L : Lo C X H σ (G s0)) (hG : ∀ s s', muts (G s) = muts (G s')) (r : Rep C.K X H (.tuple (xs.map enc)) v) (hm : (loopL f xs s0).bind (fun o => o.out j k) = some res)
    (body : ∀ x s, Body C X G ps rs (enc x) s (f x s) g tb) (done : ∀ s σ' H', k s = some res → Lo C X H' σ' (G s) → nx σ' H')
    (ret : ∀ q v H', j q = some res → Fin C.K C.X0 C.H0 C.P0 (ps q) (rs q) v H' → rt v H') : KForT C.K g tb ⟨nx, rt, bk, ct⟩ σ v H := by
  obtain ⟨o, h1, h2⟩ := ob hm
  exact x_forT L hG r h1 body (fun s e σ' H' L' => done _ _ _ (by rw [e] at h2; exact h2) L') (fun s e σ' H' L' => done _ _ _ (by rw [e] at h2; exact h2) L') (fun q e v H' F => ret _ _ _ (by rw [e] at h2; exact h2) F)
theorem x_foS {xs : List Int} {f : Int → τ → Option τ} {G : τ → List Sl} {s0 : τ} {v : V} {g : TG} {tb : TS} {nx bk ct : L2.St → Hp → Prop} {rt : VK} {k : τ → Option ρ} {res : ρ}
    (L : Lo C X H σ (G s0)) (hG : ∀ s s', muts (G s) = muts (G s')) (r : SqX C.K X H xs v) (hm : (foldO f xs s0).bind k = some res)
    (body : ∀ x s, BodyO C X G (enc x) s (f x s) g tb) (done : ∀ s σ' H', k s = some res → Lo C X H' σ' (G s) → nx σ' H') : KForL C.K g tb ⟨nx, rt, bk, ct⟩ σ v H := by
  obtain ⟨s1, h1, h2⟩ := ob hm
  exact x_forS (ρ := Empty) (o := .nxt s1) (ps := fun _ => []) (rs := fun _ => .imm .none) L hG r (foldO_loop h1) (fun x s => (body x s).body) (fun s e σ' H' L' => by cases e; exact done _ _ _ h2 L') (fun s e => nomatch e) (fun q => nomatch q)
theorem x_flS {xs : List Int} {f : Int → τ → Option (Lp τ ρ)} {G : τ → List Sl} {ps : ρ → List (Addr × MO)} {rs : ρ → Rs} {s0 : τ} {v : V} {g : TG} {tb : TS} {nx bk ct : L2.St → Hp → Prop} {rt : VK} {k : τ → Option β} {j : ρ → Option β} {res : β}
    (L : Lo C X H σ (G s0)) (hG : ∀ s s', muts (G s) = muts (G s')) (r : SqX C.K X H xs v) (hm : (loopL f xs s0).bind (fun o => o.out j k) = some res)
    (body : ∀ x s, Body C X G ps rs (enc x) s (f x s) g tb) (done : ∀ s σ' H', k s = some res → Lo C X H' σ' (G s) → nx σ' H')
    (ret : ∀ q v H', j q = some res → Fin C.K C.X0 C.H0 C.P0 (ps q) (rs q) v H' → rt v H') : KForL C.K g tb ⟨nx, rt, bk, ct⟩ σ v H := by
  obtain ⟨o, h1, h2⟩ := ob hm
  exact x_forS L hG r h1 body (fun s e σ' H' L' => done _ _ _ (by rw [e] at h2; exact h2) L') (fun s e σ' H' L' => done _ _ _ (by rw [e] at h2; exact h2) L') (fun q e v H' F => ret _ _ _ (by rw [e] at h2; exact h2) F)
theorem x_foR {f : Int → τ → Option τ} {G : τ → List Sl} {s0 : τ} {lo : Int} {n : Nat} {g : TG} {tb : TS} {nx bk ct : L2.St → Hp → Prop} {rt : VK} {k : τ → Option ρ} {res : ρ}
    (L : Lo C X H σ (G s0)) (hG : ∀ s s', muts (G s) = muts (G s')) (hm : (foldO f (rangeL lo n) s0).bind k = some res)
    (body : ∀ x s, BodyO C X G (enc x) s (f x s) g tb) (done : ∀ s σ' H', k s = some res → Lo C X H' σ' (G s) → nx σ' H') : KForR lo n g tb ⟨nx, rt, bk, ct⟩ σ H := by
  obtain ⟨s1, h1, h2⟩ := ob hm
  exact x_forR (ρ := Empty) (o := .nxt s1) (ps := fun _ => []) (rs := fun _ => .imm .none) L hG (foldO_loop h1) (fun x s => (body x s).body) (fun s e σ' H' L' => by cases e; exact done _ _ _ h2 L') (fun s e => nomatch e) (fun q => nomatch q)
theorem x_flR {f : Int → τ → Option (Lp τ ρ)} {G : τ → List Sl} {ps : ρ → List (Addr × MO)} {rs : ρ → Rs} {s0 : τ} {lo : Int} {n : Nat} {g : TG} {tb : TS} {nx bk ct : L2.St → Hp → Prop} {rt : VK} {k : τ → Option β} {j : ρ → Option β} {res : β}
    (L : Lo C X H σ (G s0)) (hG : ∀ s s', muts (G s) = muts (G s')) (hm : (loopL f (rangeL lo n) s0).bind (fun o => o.out j k) = some res)
    (body : ∀ x s, Body C X G ps rs (enc x) s (f x s) g tb) (done : ∀ s σ' H', k s = some res → Lo C X H' σ' (G s) → nx σ' H')
    (ret : ∀ q v H', j q = some res → Fin C.K C.X0 C.H0 C.P0 (ps q) (rs q) v H' → rt v H') : KForR lo n g tb ⟨nx, rt, bk, ct⟩ σ H := by
  obtain ⟨o, h1, h2⟩ := ob hm
  exact x_forR L hG h1 body (fun s e σ' H' L' => done _ _ _ (by rw [e] at h2; exact h2) L') (fun s e σ' H' L' => done _ _ _ (by rw [e] at h2; exact h2) L') (fun q e v H' F => ret _ _ _ (by rw [e] at h2; exact h2) F)
def BodyW (C : Cn) (X : Addr → Prop) (G : τ → List Sl) (ps : ρ → List (Addr × MO)) (rs : ρ → Rs) (s : τ) (o : Option (Lp τ ρ)) (c : TT) (tb : TS) : Prop :=
  ∀ (H : Hp) (σ : L2.St) (nx : L2.St → Hp → Prop) (rt : VK) (bk ct : L2.St → Hp → Prop) (o1 : Lp τ ρ), o = some o1 → Lo ⟨C.K, X, H, muts (G s), C.n⟩ X H σ (G s) →
    (∀ s', o1 = .nxt s' → ∀ X' σ' H', Lo ⟨C.K, X, H, muts (G s), C.n⟩ X' H' σ' (G s') → nx σ' H') →
    (∀ s', o1 = .nxt s' → ∀ X' σ' H', Lo ⟨C.K, X, H, muts (G s), C.n⟩ X' H' σ' (G s') → ct σ' H') →
    (∀ s', o1 = .brk s' → ∀ X' σ' H', Lo ⟨C.K, X, H, muts (G s), C.n⟩ X' H' σ' (G s') → bk σ' H') →
    (∀ r, o1 = .ret r → ∀ v H', Fin C.K X H (muts (G s)) (ps r) (rs r) v H' → rt v H') →
    ∀ Qc : Bool → Hp → Prop, (∀ b H1, KWh tb ⟨nx, rt, bk, ct⟩ σ b H1 → Qc b H1) → c σ H Qc
theorem x_wh {f : τ → Option (Lp τ ρ)} {G : τ → List Sl} {ps : ρ → List (Addr × MO)} {rs : ρ → Rs} {s0 : τ} {n : Nat} {c : TT} {tb : TS} {nx bk ct : L2.St → Hp → Prop} {rt : VK} {k : τ → Option β} {j : ρ → Option β} {res : β}
    (L : Lo C X H σ (G s0)) (hG : ∀ s s', muts (G s) = muts (G s')) (hm : (loopW f n s0).bind (fun o => o.out j k) = some res)
    (body : ∀ s, BodyW C X G ps rs s (f s) c tb) (done : ∀ s σ' H', k s = some res → Lo C X H' σ' (G s) → nx σ' H')
    (ret : ∀ q v H', j q = some res → Fin C.K C.X0 C.H0 C.P0 (ps q) (rs q) v H' → rt v H') : tWhile c tb ⟨nx, rt, bk, ct⟩ σ H := by
  obtain ⟨o, h1, h2⟩ := ob hm
  refine x_while L hG h1 body (fun s e σ' H' L' => done _ _ _ (by rw [e] at h2; exact h2) L') (fun q e v H' F => ret _ _ _ (by rw [e] at h2; exact h2) F)
/-- the heads of loops -/
theorem x_tforL {te : TE} {g : TG} {tb : TS} {D : Ends} {K : PySem.W.Frag} (h : te σ H (KForL K g tb D σ)) : tFor (iList K te) g tb D σ H := h
theorem x_tforT {te : TE} {g : TG} {tb : TS} {D : Ends} {K : PySem.W.Frag} (h : te σ H (KForT K g tb D σ)) : tFor (iTup K te) g tb D σ H := h
theorem x_tforR1 {ta : TA} {g : TG} {tb : TS} {D : Ends} (h : ta σ H (KRng1 fun lo n H => KForR lo n g tb D σ H)) : tFor (iRng1 ta) g tb D σ H := h
theorem x_tforR2 {ta : TA} {g : TG} {tb : TS} {D : Ends} (h : ta σ H (KRng2 fun lo n H => KForR lo n g tb D σ H)) : tFor (iRng2 ta) g tb D σ H := h
def rngOk (j : Int) : Option Unit := if -(2 ^ 62) ≤ j ∧ j < 2 ^ 62 then some () else none
theorem rng_ok {j : Int} {k : Unit → Option ρ} {r : ρ} (hm : (rngOk j).bind k = some r) : (-(2 ^ 62) ≤ j ∧ j < 2 ^ 62) ∧ k () = some r := by
  obtain ⟨_, e, hk⟩ := ob hm
  unfold rngOk at e
  split at e
  · exact ⟨by assumption, hk⟩
  · cases e
theorem x_r1 {j : Int} {k : Unit → Option ρ} {r : ρ} {R : Int → Nat → Hp → Prop} (hm : (rngOk j).bind k = some r) (h : k () = some r → R 0 j.toNat H) : KRng1 R [.int j] H := by
  obtain ⟨⟨a, b⟩, hk⟩ := rng_ok hm
  exact ⟨j, rfl, a, b, h hk⟩
theorem x_r1c {j : Int} {n : Nat} {R : Int → Nat → Hp → Prop} (hj : (-(2 ^ 62) ≤ j ∧ j < 2 ^ 62) ∧ j.toNat = n) (h : R 0 n H) : KRng1 R [.int j] H := ⟨j, rfl, hj.1.1, hj.1.2, by rw [hj.2]; exact h⟩
theorem x_r2 {i j : Int} {k : Unit → Option ρ} {r : ρ} {R : Int → Nat → Hp → Prop} (hm : ((rngOk i).bind fun _ => rngOk j).bind k = some r) (h : k () = some r → R i (j - i).toNat H) : KRng2 R [.int i, .int j] H := by
  obtain ⟨u, e, hk⟩ := ob hm
  obtain ⟨⟨a, b⟩, e2⟩ := rng_ok e
  obtain ⟨⟨c, d⟩, _⟩ := rng_ok (k := fun _ => some ()) (r := ()) (by rw [e2]; rfl)
  exact ⟨i, j, rfl, ⟨a, b, c, d⟩, h hk⟩
/-! ### comprehensions -/
def compL {α β τ : Type} (f : α → τ → Option (Option β × τ)) : List α → τ → Option (List β × τ)
  | [], s => some ([], s)
  | x :: xs, s => (f x s).bind fun r => (compL f xs r.2).bind fun q => some ((match r.1 with | some y => y :: q.1 | none => q.1), q.2)
def mapO {α β : Type} (f : α → Option β) : List α → Option (List β)
  | [] => some []
  | x :: xs => (f x).bind fun y => (mapO f xs).bind fun ys => some (y :: ys)
def filO {α β : Type} (f : α → Option (Option β)) : List α → Option (List β)
  | [] => some []
  | x :: xs => (f x).bind fun y => (filO f xs).bind fun ys => some (match y with | some z => z :: ys | none => ys)
def mapS {α β τ : Type} (f : α → τ → Option (β × τ)) : List α → τ → Option (List β × τ)
  | [], s => some ([], s)
  | x :: xs, s => (f x s).bind fun r => (mapS f xs r.2).bind fun q => some (r.1 :: q.1, q.2)
theorem mapO_comp {f : α → Option β} : ∀ {xs : List α} {ys : List β}, mapO f xs = some ys → compL (τ := Unit) (fun x s => (f x).bind fun y => some (some y, s)) xs () = some (ys, ())
  | [], ys, h => by cases h; rfl
  | x :: xs, ys, h => by
    obtain ⟨y, h1, h⟩ := ob h
    obtain ⟨zs, h2, h⟩ := ob h
    cases h
    show ((f x).bind fun y => some (some y, ())).bind _ = _
    rw [h1]
    show (compL (τ := Unit) (fun x s => (f x).bind fun y => some (some y, s)) xs ()).bind _ = _
    rw [mapO_comp h2]
    rfl
theorem filO_comp {f : α → Option (Option β)} : ∀ {xs : List α} {ys : List β}, filO f xs = some ys → compL (τ := Unit) (fun x s => (f x).bind fun y => some (y, s)) xs () = some (ys, ())
  | [], ys, h => by cases h; rfl
  | x :: xs, ys, h => by
    obtain ⟨y, h1, h⟩ := ob h
    obtain ⟨zs, h2, h⟩ := ob h
    cases h
    show ((f x).bind fun y => some (y, ())).bind _ = _
    rw [h1]
    show (compL (τ := Unit) (fun x s => (f x).bind fun y => some (y, s)) xs ()).bind _ = _
    rw [filO_comp h2]
    cases y <;> rfl
theorem mapS_comp {f : α → τ → Option (β × τ)} : ∀ {xs : List α} {s : τ} {q : List β × τ}, mapS f xs s = some q → compL (fun x s => (f x s).bind fun y => some (some y.1, y.2)) xs s = some q
  | [], s, q, h => by cases h; rfl
  | x :: xs, s, q, h => by
    obtain ⟨y, h1, h⟩ := ob h
    obtain ⟨zs, h2, h⟩ := ob h
    cases h
    show ((f x s).bind fun y => some (some y.1, y.2)).bind _ = _
    rw [h1]
    show (compL (fun x s => (f x s).bind fun y => some (some y.1, y.2)) xs y.2).bind _ = _
    rw [mapS_comp h2]
    rfl
/-- what is known behind a block of its own names -/
def Bk : List Sl → List Sl → List Sl → Prop
  | [], _, [] => True
  | s :: Γ, s2 :: Γ2, s' :: Γ' => ((s' = s ∧ s.ad = none) ∨ (∃ p o o', s = .mu p o ∧ s2 = .mu p o' ∧ s' = .mu p o') ∨ (∃ p o o', s = .tmp p o ∧ s2 = .tmp p o' ∧ s' = .tmp p o')) ∧ Bk Γ Γ2 Γ'
  | _, _, _ => False
theorem Bk.e {Γ2 : List Sl} : Bk [] Γ2 [] := trivial
theorem Bk.i {s s2 : Sl} {Γ Γ2 Γ' : List Sl} (e : s.ad = none) (h : Bk Γ Γ2 Γ') : Bk (s :: Γ) (s2 :: Γ2) (s :: Γ') := ⟨.inl ⟨rfl, e⟩, h⟩
theorem Bk.m {p : Addr} {o o' : MO} {Γ Γ2 Γ' : List Sl} (h : Bk Γ Γ2 Γ') : Bk (.mu p o :: Γ) (.mu p o' :: Γ2) (.mu p o' :: Γ') := ⟨.inr (.inl ⟨p, o, o', rfl, rfl, rfl⟩), h⟩
theorem Bk.t {p : Addr} {o o' : MO} {Γ Γ2 Γ' : List Sl} (h : Bk Γ Γ2 Γ') : Bk (.tmp p o :: Γ) (.tmp p o' :: Γ2) (.tmp p o' :: Γ') := ⟨.inr (.inr ⟨p, o, o', rfl, rfl, rfl⟩), h⟩
theorem Bk.get : ∀ {Γ Γ2 Γ' : List Sl}, Bk Γ Γ2 Γ' → ∀ {i : Nat} {s' : Sl}, Γ'[i]? = some s' → (Γ[i]? = some s' ∧ s'.ad = none) ∨ (∃ p o o', Γ[i]? = some (.mu p o) ∧ Γ2[i]? = some (.mu p o') ∧ s' = .mu p o') ∨ (∃ p o o', Γ[i]? = some (.tmp p o) ∧ Γ2[i]? = some (.tmp p o') ∧ s' = .tmp p o')
  | [], _, [], _, _, _, e => by simp at e
  | [], _, _ :: _, h, _, _, _ => h.elim
  | s :: Γ, [], Γ', h, _, _, _ => by cases Γ' <;> exact h.elim
  | s :: Γ, s2 :: Γ2, [], h, _, _, _ => h.elim
  | s :: Γ, s2 :: Γ2, s0 :: Γ', ⟨h, t⟩, 0, s', e => by
    simp at e; subst e
    rcases h with ⟨h, h2⟩ | ⟨p, o, o', h1, h2, h3⟩ | ⟨p, o, o', h1, h2, h3⟩
    · subst h; exact .inl ⟨rfl, h2⟩
    · subst h1 h2 h3; exact .inr (.inl ⟨p, o, o', rfl, rfl, rfl⟩)
    · subst h1 h2 h3; exact .inr (.inr ⟨p, o, o', rfl, rfl, rfl⟩)
  | s :: Γ, s2 :: Γ2, s0 :: Γ', ⟨h, t⟩, i + 1, s', e => by
    have := Bk.get t (i := i) (s' := s') (by simpa using e)
    simpa using this
theorem Bk.muts : ∀ {Γ Γ2 Γ' : List Sl}, Bk Γ Γ2 Γ' → muts Γ' = muts Γ
  | [], _, [], _ => rfl
  | [], _, _ :: _, h => h.elim
  | s :: Γ, [], Γ', h => by cases Γ' <;> exact h.elim
  | s :: Γ, s2 :: Γ2, [], h => h.elim
  | s :: Γ, s2 :: Γ2, s0 :: Γ', ⟨h, t⟩ => by
    have ih := Bk.muts t
    unfold Sc.muts at ih ⊢
    rw [List.filterMap_cons, List.filterMap_cons, ih]
    have : s0.ad = s.ad := by
      rcases h with ⟨h, h2⟩ | ⟨p, o, o', h1, h2, h3⟩ | ⟨p, o, o', h1, h2, h3⟩
      · rw [h]
      · rw [h1, h3]; rfl
      · rw [h1, h3]; rfl
    rw [this]
theorem Lo.back {X' : Addr → Prop} {H' : Hp} {σ2 : L2.St} {Γ2 : List Sl} (L : Lo C X H σ Γ) (M : Lo (C.at_ X H Γ) X' H' σ2 Γ2) (b : Bk Γ Γ2 Γ') : Lo C X H' σ Γ' := by
  have sub : ∀ a, X a → X' a := M.m0
  have hm := b.muts
  refine ⟨L.len, fun i s hi => ?_, by rw [hm]; exact L.nd, fun p hp => L.mx p (hm ▸ hp), L.m0, fun a h => M.xd a (sub a h), fun a o e n => M.base a o (L.base a o e n) (L.nown e n), fun a h => M.dom a (L.dom a h), fun p hp => L.own p (hm ▸ hp), L.tf⟩
  rcases b.get hi with ⟨h1, h2⟩ | ⟨p, o, o', h1, h2, h3⟩ | ⟨p, o, o', h1, h2, h3⟩
  · exact (L.at_ i s h1).keep (L.keep M) fun p e => by rw [h2] at e; cases e
  · subst h3
    exact ⟨(L.at_ i _ h1).1, (M.at_ i _ h2).2.anti sub⟩
  · subst h3
    exact MRep.anti sub (M.at_ i _ h2)
theorem Lo.xanti {Y : Addr → Prop} (L : Lo C X H σ Γ) (h : ∀ a, Y a → X a) (hm : ∀ p ∈ muts Γ, Y p) (h0 : ∀ a, C.X0 a → Y a) : Lo C Y H σ Γ :=
  ⟨L.len, fun i s hi => (L.at_ i s hi).anti h, L.nd, hm, h0, fun a z => L.xd a (h a z), L.base, L.dom, L.own, L.tf⟩
/-- the object at p, of no slot, is written -/
theorem Lo.wroteX {p : Addr} {o o' : HO} (L : Lo C X H σ Γ) (hX : X p) (hn : p ∉ muts Γ) (h : H p = some o) (h0 : C.H0 p = none) (nt : ∀ vs, o ≠ .tup vs) (nf : ∀ u w, o ≠ .frz u w) :
    Lo C X (upd H p o') σ Γ ∧ Keep X H (upd H p o') := by
  have kp : Keep X H (upd H p o') := ⟨fun a u e n => by rw [upd_ne (fun z => n (by rw [z]; exact hX))]; exact e, fun a vs e => by rw [upd_ne (fun z => by rw [z, h] at e; exact nt vs (Option.some.inj e))]; exact e, fun a u w e => by rw [upd_ne (fun z => by rw [z, h] at e; exact nf u w (Option.some.inj e))]; exact e⟩
  have hd : ∀ a, H a ≠ none → upd H p o' a ≠ none := fun a e => by
    by_cases z : a = p
    · rw [z, upd_same]; exact fun y => nomatch y
    · rw [upd_ne z]; exact e
  refine ⟨⟨L.len, fun i s hi => (L.at_ i s hi).keep kp fun q e => upd_ne fun z => hn ?_, L.nd, L.mx, L.m0, fun a z => hd a (L.xd a z), fun a u e n => ?_, fun a e => hd a (L.dom a e), L.own, L.tf⟩, kp⟩
  · subst z; exact mem_muts.mpr ⟨i, s, hi, e⟩
  · rw [upd_ne fun z => by rw [z, h0] at e; cases e]
    exact L.base a u e n
theorem comp_drop {f : α → τ → Option (Option β × τ)} {xs : List α} {i : Nat} {x : α} {s : τ} {q : List β × τ} (hx : xs[i]? = some x) (h : compL f (xs.drop i) s = some q) :
    ∃ r q', f x s = some r ∧ compL f (xs.drop (i + 1)) r.2 = some q' ∧ q = ((match r.1 with | some y => y :: q'.1 | none => q'.1), q'.2) := by
  obtain ⟨hl, hx⟩ := List.getElem?_eq_some_iff.mp hx
  rw [List.drop_eq_getElem_cons hl, hx] at h
  obtain ⟨r, h1, h2⟩ := ob h
  obtain ⟨q', h3, h4⟩ := ob h2
  exact ⟨r, q', h1, h3, (Option.some.inj h4).symm⟩
/-- the rest of a comprehension, by name -/
def KLcL (K : PySem.W.Frag) (g : TG) (tt : TT) (te : TE) (ws : List Nat) (σ : L2.St) (Q : VK) (v : V) (H : Hp) : Prop := ∃ a, v = V.ref a ∧ (∃ xs, SqL K H a xs) ∧ ∀ D, H D = none → ∃ W : Nat → Nat → Hp → Prop, (∃ m, W 0 m (upd H D (.lst []))) ∧ ∀ i m H, W i m H →
      ((Itl K a).stop i H ∧ Q (.ref D) H) ∨ ((Itl K a).go i H ∧ ∃ Nx : Hp → Prop, (∀ H', Nx H' → ∃ m', m' < m ∧ W (i + 1) m' H') ∧ ∀ x H', (Itl K a).yld i H x H' → g x (wipe σ ws) H' fun σ2 H2 => wipe σ2 ws = wipe σ ws ∧ tt σ2 H2 fun b H3 =>
        if b = true then te σ2 H3 fun y H4 => ∃ acc, H4 D = some (.lst acc) ∧ acc.length < sizeLine ∧ Nx (upd H4 D (.lst (acc ++ [y]))) else Nx H3)
def KLcT (K : PySem.W.Frag) (g : TG) (tt : TT) (te : TE) (ws : List Nat) (σ : L2.St) (Q : VK) (v : V) (H : Hp) : Prop := ∃ a, v = V.ref a ∧ (∃ xs, SqT K H a xs) ∧ ∀ D, H D = none → ∃ W : Nat → Nat → Hp → Prop, (∃ m, W 0 m (upd H D (.lst []))) ∧ ∀ i m H, W i m H →
      ((Itt K a).stop i H ∧ Q (.ref D) H) ∨ ((Itt K a).go i H ∧ ∃ Nx : Hp → Prop, (∀ H', Nx H' → ∃ m', m' < m ∧ W (i + 1) m' H') ∧ ∀ x H', (Itt K a).yld i H x H' → g x (wipe σ ws) H' fun σ2 H2 => wipe σ2 ws = wipe σ ws ∧ tt σ2 H2 fun b H3 =>
        if b = true then te σ2 H3 fun y H4 => ∃ acc, H4 D = some (.lst acc) ∧ acc.length < sizeLine ∧ Nx (upd H4 D (.lst (acc ++ [y]))) else Nx H3)
def KLcR (lo : Int) (n : Nat) (g : TG) (tt : TT) (te : TE) (ws : List Nat) (σ : L2.St) (Q : VK) (H : Hp) : Prop := ∀ D, H D = none → ∃ W : Nat → Nat → Hp → Prop, (∃ m, W 0 m (upd H D (.lst []))) ∧ ∀ i m H, W i m H →
      ((Itr lo n).stop i H ∧ Q (.ref D) H) ∨ ((Itr lo n).go i H ∧ ∃ Nx : Hp → Prop, (∀ H', Nx H' → ∃ m', m' < m ∧ W (i + 1) m' H') ∧ ∀ x H', (Itr lo n).yld i H x H' → g x (wipe σ ws) H' fun σ2 H2 => wipe σ2 ws = wipe σ ws ∧ tt σ2 H2 fun b H3 =>
        if b = true then te σ2 H3 fun y H4 => ∃ acc, H4 D = some (.lst acc) ∧ acc.length < sizeLine ∧ Nx (upd H4 D (.lst (acc ++ [y]))) else Nx H3)
theorem x_lcl {K : PySem.W.Frag} {tl te : TE} {g : TG} {tt : TT} {ws : List Nat} (h : tl σ H (KLcL K g tt te ws σ Q)) : tLc (iList K tl) g tt te ws σ H Q := h
theorem x_lct {K : PySem.W.Frag} {tl te : TE} {g : TG} {tt : TT} {ws : List Nat} (h : tl σ H (KLcT K g tt te ws σ Q)) : tLc (iTup K tl) g tt te ws σ H Q := h
theorem x_lcr1 {ta : TA} {te : TE} {g : TG} {tt : TT} {ws : List Nat} (h : ta σ H (KRng1 fun lo n H => KLcR lo n g tt te ws σ Q H)) : tLc (iRng1 ta) g tt te ws σ H Q := h
theorem x_lcr2 {ta : TA} {te : TE} {g : TG} {tt : TT} {ws : List Nat} (h : ta σ H (KRng2 fun lo n H => KLcR lo n g tt te ws σ Q H)) : tLc (iRng2 ta) g tt te ws σ H Q := h
/-- what a comprehension's block shows of one turn -/
def BodyC [Py β] (C : Cn) (X : Addr → Prop) (G : τ → List Sl) (d : PyData) (s : τ) (o : Option (Option β × τ)) (g : TG) (tt : TT) (te : TE) (vs : List Nat) : Prop :=
  ∀ (X : Addr → Prop) (H : Hp) (σ : L2.St) (u : V) (r : Option β × τ) (Qn : Hp → Prop) (Qy : VK), o = some r → Lo ⟨C.K, X, H, muts (G s), C.n⟩ X H σ (G s) → Rep C.K X H d u →
    (r.1 = none → ∀ H', Lo ⟨C.K, X, H, muts (G s), C.n⟩ X H' σ (G r.2) → Qn H') →
    (∀ y, r.1 = some y → ∀ v H', Lo ⟨C.K, X, H, muts (G s), C.n⟩ X H' σ (G r.2) → Rep C.K X H' (enc y) v → Qy v H') →
    g u (wipe σ vs) H fun σ2 H2 => wipe σ2 vs = wipe σ vs ∧ tt σ2 H2 fun b H3 => if b = true then te σ2 H3 Qy else Qn H3
theorem x_lcL0 [Py α] [Py β] {xs : List α} {f : α → τ → Option (Option β × τ)} {G : τ → List Sl} {s0 : τ} {q : List β × τ} {v : V} {g : TG} {tt : TT} {te : TE} {ws : List Nat}
    (L : Lo C X H σ (G s0)) (hG : ∀ s s', muts (G s) = muts (G s')) (r : Rep C.K X H (enc xs) v) (hm : compL f xs s0 = some q) (hl : xs.length ≤ 16777216)
    (body : ∀ x s, BodyC C X G (enc x) s (f x s) g tt te ws)
    (done : ∀ D H', H D = none → C.H0 D = none → ¬ C.X0 D → Lo C (fun a => X a ∨ a = D) H' σ (G q.2) → Keep X H H' → MRep C.K (fun a => X a ∨ a = D) H' D (ml q.1) → Q (.ref D) H') :
    KLcL C.K g tt te ws σ Q v H := by
  obtain ⟨a, us, rfl, hna, hrd, hrs⟩ := rep_lst (ds := xs.map enc) r
  refine ⟨a, rfl, ⟨us, .inl hrd⟩, fun D hD => ?_⟩
  have h0 : C.H0 D = none := by
    cases e : C.H0 D with
    | none => rfl
    | some o => exact (L.dom D (by rw [e]; exact fun z => nomatch z) hD).elim
  have hDm : ∀ s, D ∉ muts (G s) := fun s h => L.xd D (L.mx D (hG s s0 ▸ h)) hD
  have sm : Same H (upd H D (.lst [])) := same_upd hD
  have lay := L.lay (p := D) (o := .lst []) hD sm ⟨[], upd_same, .nil⟩
  have L1 : Lo C (fun a => X a ∨ a = D) (upd H D (.lst [])) σ (G s0) := by
    refine ⟨L.len, fun i s hi => ?_, L.nd, fun p hp => .inl (L.mx p hp), fun a h => .inl (L.m0 a h), lay.1.xd, lay.1.base, lay.1.dom, L.own, L.tf⟩
    refine lay.1.at_ i s ?_
    rw [List.getElem?_append_left (List.getElem?_eq_some_iff.mp hi).1]
    exact hi
  have hna' : ¬ (X a ∨ a = D) := fun h => h.elim hna fun e => by
    subst e
    exact rd_nn hrd hD
  refine lc_list (K := C.K) (a := a) (xs := us) (fun i H' => ∃ s ys acc q', Lo C (fun a => X a ∨ a = D) H' σ (G s) ∧ Reps C.K (fun a => X a ∨ a = D) H' (xs.map enc) us ∧ Rd H' a (.lst us) ∧ H' D = some (.lst acc) ∧ Reps C.K (fun a => X a ∨ a = D) H' (ys.map enc) acc ∧
      compL f (xs.drop i) s = some q' ∧ q = (ys ++ q'.1, q'.2) ∧ ys.length ≤ i ∧ Keep X H H' ∧ (∀ a, H a ≠ none → H' a ≠ none))
    ⟨s0, [], [], q, L1, (hrs.more hD).keep (.same sm), Keep.rd (.same sm) hna hrd, upd_same, .nil, hm, rfl, Nat.le_refl _, .same sm, fun a h => ?_⟩ (fun i H' _ ⟨s, ys, acc, q', _, _, h, _⟩ => .inl h) ?_ ?_
  · by_cases z : a = D
    · rw [z, upd_same]; exact fun y => nomatch y
    · rw [upd_ne z]; exact h
  · rintro i y H' hy ⟨s, ys, acc, q', L', hr', hd', hacc, hys, hq', eq, hyl, hk, hdm⟩
    obtain ⟨d, hd, rd⟩ := hr'.get' hy
    rw [List.getElem?_map] at hd
    cases hx : xs[i]? with
    | none => rw [hx] at hd; cases hd
    | some x =>
      rw [hx] at hd
      cases hd
      have hil : i < xs.length := (List.getElem?_eq_some_iff.mp hx).1
      obtain ⟨r1, q1, h1, h2, h3⟩ := comp_drop hx hq'
      refine body x s _ H' σ y r1 _ _ h1 L'.enter rd ?_ ?_
      · intro e H'' M
        have k := L'.keep M
        have kd : H'' D = some (.lst acc) := M.base D _ hacc (hDm s)
        refine ⟨r1.2, ys, acc, q1, L'.leave M (hG _ _), hr'.keep k, k.rd hna' hd', kd, hys.keep k, h2, ?_, Nat.le_succ_of_le hyl, ?_, fun a h => M.dom a (hdm a h)⟩
        · rw [eq, h3, e]
        · refine ⟨fun b o hb n => ?_, fun b vs hb => k.2.1 b vs (hk.2.1 b vs hb), fun b o u hb => k.2.2 b o u (hk.2.2 b o u hb)⟩
          have hbD : b ≠ D := fun z => by rw [z, hD] at hb; cases hb
          exact k.1 b o (hk.1 b o hb n) fun z => z.elim n hbD
      · intro yv e v H'' M rv
        have k := L'.keep M
        have kd : H'' D = some (.lst acc) := M.base D _ hacc (hDm s)
        have L2 := L'.leave M (hG _ _)
        obtain ⟨L3, k3⟩ := L2.wroteX (p := D) (o' := .lst (acc ++ [v])) (.inr rfl) (hDm _) kd h0 (fun _ z => nomatch z) (fun _ _ z => nomatch z)
        have k4 := k.trans k3
        have hal : acc.length = ys.length := by rw [hys.length, List.length_map]
        refine ⟨acc, kd, by rw [line_eq]; omega, r1.2, ys ++ [yv], acc ++ [v], q1, L3, hr'.keep k4, k4.rd hna' hd', upd_same, ?_, h2, ?_, ?_, ?_, ?_⟩
        · rw [List.map_append]
          exact (hys.keep k4).append (.cons (rv.keep k3) .nil)
        · rw [eq, h3, e]
          show (ys ++ yv :: q1.1, q1.2) = (ys ++ [yv] ++ q1.1, q1.2)
          rw [List.append_assoc]; rfl
        · rw [List.length_append]; exact Nat.succ_le_succ hyl
        · refine ⟨fun b o hb n => ?_, fun b vs hb => k4.2.1 b vs (hk.2.1 b vs hb), fun b o u hb => k4.2.2 b o u (hk.2.2 b o u hb)⟩
          have hbD : b ≠ D := fun z => by rw [z, hD] at hb; cases hb
          exact k4.1 b o (hk.1 b o hb n) fun z => z.elim n hbD
        · intro a h
          by_cases z : a = D
          · rw [z, upd_same]; exact fun y => nomatch y
          · rw [upd_ne z]; exact M.dom a (hdm a h)
  · rintro H' ⟨s, ys, acc, q', L', _, _, hacc, hys, hq', eq, _, hk, hdm⟩
    rw [hrs.length, List.length_map, List.drop_length] at hq'
    cases hq'
    rw [List.append_nil] at eq
    subst eq
    exact done D H' hD h0 (fun z => L.xd D (L.m0 D z) hD) L' hk ⟨acc, hacc, hys⟩
theorem x_lcT0 [Py α] [Py β] {xs : List α} {f : α → τ → Option (Option β × τ)} {G : τ → List Sl} {s0 : τ} {q : List β × τ} {v : V} {g : TG} {tt : TT} {te : TE} {ws : List Nat}
    (L : Lo C X H σ (G s0)) (hG : ∀ s s', muts (G s) = muts (G s')) (r : Rep C.K X H (.tuple (xs.map enc)) v) (hm : compL f xs s0 = some q) (hl : xs.length ≤ 16777216)
    (body : ∀ x s, BodyC C X G (enc x) s (f x s) g tt te ws)
    (done : ∀ D H', H D = none → C.H0 D = none → ¬ C.X0 D → Lo C (fun a => X a ∨ a = D) H' σ (G q.2) → Keep X H H' → MRep C.K (fun a => X a ∨ a = D) H' D (ml q.1) → Q (.ref D) H') :
    KLcT C.K g tt te ws σ Q v H := by
  obtain ⟨a, us, rfl, hrd, hrs⟩ := rep_tup r
  refine ⟨a, rfl, ⟨us, hrd⟩, fun D hD => ?_⟩
  have h0 : C.H0 D = none := by
    cases e : C.H0 D with
    | none => rfl
    | some o => exact (L.dom D (by rw [e]; exact fun z => nomatch z) hD).elim
  have hDm : ∀ s, D ∉ muts (G s) := fun s h => L.xd D (L.mx D (hG s s0 ▸ h)) hD
  have sm : Same H (upd H D (.lst [])) := same_upd hD
  have lay := L.lay (p := D) (o := .lst []) hD sm ⟨[], upd_same, .nil⟩
  have L1 : Lo C (fun a => X a ∨ a = D) (upd H D (.lst [])) σ (G s0) := by
    refine ⟨L.len, fun i s hi => ?_, L.nd, fun p hp => .inl (L.mx p hp), fun a h => .inl (L.m0 a h), lay.1.xd, lay.1.base, lay.1.dom, L.own, L.tf⟩
    refine lay.1.at_ i s ?_
    rw [List.getElem?_append_left (List.getElem?_eq_some_iff.mp hi).1]
    exact hi
  refine lc_tup (K := C.K) (a := a) (xs := us) (fun i H' => ∃ s ys acc q', Lo C (fun a => X a ∨ a = D) H' σ (G s) ∧ Reps C.K (fun a => X a ∨ a = D) H' (xs.map enc) us ∧ SqT C.K H' a us ∧ H' D = some (.lst acc) ∧ Reps C.K (fun a => X a ∨ a = D) H' (ys.map enc) acc ∧
      compL f (xs.drop i) s = some q' ∧ q = (ys ++ q'.1, q'.2) ∧ ys.length ≤ i ∧ Keep X H H' ∧ (∀ a, H a ≠ none → H' a ≠ none))
    ⟨s0, [], [], q, L1, (hrs.more hD).keep (.same sm), Keep.sqT (X := fun a => X a ∨ a = D) (.same sm) hrd, upd_same, .nil, hm, rfl, Nat.le_refl _, .same sm, fun a h => ?_⟩ (fun i H' _ ⟨s, ys, acc, q', _, _, h, _⟩ => h) ?_ ?_
  · by_cases z : a = D
    · rw [z, upd_same]; exact fun y => nomatch y
    · rw [upd_ne z]; exact h
  · rintro i y H' hy ⟨s, ys, acc, q', L', hr', hd', hacc, hys, hq', eq, hyl, hk, hdm⟩
    obtain ⟨d, hd, rd⟩ := hr'.get' hy
    rw [List.getElem?_map] at hd
    cases hx : xs[i]? with
    | none => rw [hx] at hd; cases hd
    | some x =>
      rw [hx] at hd
      cases hd
      have hil : i < xs.length := (List.getElem?_eq_some_iff.mp hx).1
      obtain ⟨r1, q1, h1, h2, h3⟩ := comp_drop hx hq'
      refine body x s _ H' σ y r1 _ _ h1 L'.enter rd ?_ ?_
      · intro e H'' M
        have k := L'.keep M
        have kd : H'' D = some (.lst acc) := M.base D _ hacc (hDm s)
        refine ⟨r1.2, ys, acc, q1, L'.leave M (hG _ _), hr'.keep k, k.sqT hd', kd, hys.keep k, h2, ?_, Nat.le_succ_of_le hyl, ?_, fun a h => M.dom a (hdm a h)⟩
        · rw [eq, h3, e]
        · refine ⟨fun b o hb n => ?_, fun b vs hb => k.2.1 b vs (hk.2.1 b vs hb), fun b o u hb => k.2.2 b o u (hk.2.2 b o u hb)⟩
          have hbD : b ≠ D := fun z => by rw [z, hD] at hb; cases hb
          exact k.1 b o (hk.1 b o hb n) fun z => z.elim n hbD
      · intro yv e v H'' M rv
        have k := L'.keep M
        have kd : H'' D = some (.lst acc) := M.base D _ hacc (hDm s)
        have L2 := L'.leave M (hG _ _)
        obtain ⟨L3, k3⟩ := L2.wroteX (p := D) (o' := .lst (acc ++ [v])) (.inr rfl) (hDm _) kd h0 (fun _ z => nomatch z) (fun _ _ z => nomatch z)
        have k4 := k.trans k3
        have hal : acc.length = ys.length := by rw [hys.length, List.length_map]
        refine ⟨acc, kd, by rw [line_eq]; omega, r1.2, ys ++ [yv], acc ++ [v], q1, L3, hr'.keep k4, k4.sqT hd', upd_same, ?_, h2, ?_, ?_, ?_, ?_⟩
        · rw [List.map_append]
          exact (hys.keep k4).append (.cons (rv.keep k3) .nil)
        · rw [eq, h3, e]
          show (ys ++ yv :: q1.1, q1.2) = (ys ++ [yv] ++ q1.1, q1.2)
          rw [List.append_assoc]; rfl
        · rw [List.length_append]; exact Nat.succ_le_succ hyl
        · refine ⟨fun b o hb n => ?_, fun b vs hb => k4.2.1 b vs (hk.2.1 b vs hb), fun b o u hb => k4.2.2 b o u (hk.2.2 b o u hb)⟩
          have hbD : b ≠ D := fun z => by rw [z, hD] at hb; cases hb
          exact k4.1 b o (hk.1 b o hb n) fun z => z.elim n hbD
        · intro a h
          by_cases z : a = D
          · rw [z, upd_same]; exact fun y => nomatch y
          · rw [upd_ne z]; exact M.dom a (hdm a h)
  · rintro H' ⟨s, ys, acc, q', L', _, _, hacc, hys, hq', eq, _, hk, hdm⟩
    rw [hrs.length, List.length_map, List.drop_length] at hq'
    cases hq'
    rw [List.append_nil] at eq
    subst eq
    exact done D H' hD h0 (fun z => L.xd D (L.m0 D z) hD) L' hk ⟨acc, hacc, hys⟩
theorem x_lcR0 [Py β] {lo : Int} {n : Nat} {f : Int → τ → Option (Option β × τ)} {G : τ → List Sl} {s0 : τ} {q : List β × τ} {g : TG} {tt : TT} {te : TE} {ws : List Nat}
    (L : Lo C X H σ (G s0)) (hG : ∀ s s', muts (G s) = muts (G s')) (hm : compL f (rangeL lo n) s0 = some q) (hl : n ≤ 16777216)
    (body : ∀ x s, BodyC C X G (enc x) s (f x s) g tt te ws)
    (done : ∀ D H', H D = none → C.H0 D = none → ¬ C.X0 D → Lo C (fun a => X a ∨ a = D) H' σ (G q.2) → Keep X H H' → MRep C.K (fun a => X a ∨ a = D) H' D (ml q.1) → Q (.ref D) H') :
    KLcR lo n g tt te ws σ Q H := by
  intro D hD
  have h0 : C.H0 D = none := by
    cases e : C.H0 D with
    | none => rfl
    | some o => exact (L.dom D (by rw [e]; exact fun z => nomatch z) hD).elim
  have hDm : ∀ s, D ∉ muts (G s) := fun s h => L.xd D (L.mx D (hG s s0 ▸ h)) hD
  have sm : Same H (upd H D (.lst [])) := same_upd hD
  have lay := L.lay (p := D) (o := .lst []) hD sm ⟨[], upd_same, .nil⟩
  have L1 : Lo C (fun a => X a ∨ a = D) (upd H D (.lst [])) σ (G s0) := by
    refine ⟨L.len, fun i s hi => ?_, L.nd, fun p hp => .inl (L.mx p hp), fun a h => .inl (L.m0 a h), lay.1.xd, lay.1.base, lay.1.dom, L.own, L.tf⟩
    refine lay.1.at_ i s ?_
    rw [List.getElem?_append_left (List.getElem?_eq_some_iff.mp hi).1]
    exact hi
  refine lc_range (lo := lo) (n := n) (fun i H' => ∃ s ys acc q', Lo C (fun a => X a ∨ a = D) H' σ (G s) ∧ H' D = some (.lst acc) ∧ Reps C.K (fun a => X a ∨ a = D) H' (ys.map enc) acc ∧
      compL f ((rangeL lo n).drop i) s = some q' ∧ q = (ys ++ q'.1, q'.2) ∧ ys.length ≤ i ∧ Keep X H H')
    ⟨s0, [], [], q, L1, upd_same, .nil, hm, rfl, Nat.le_refl _, .same sm⟩ ?_ ?_
  · rintro i H' hi ⟨s, ys, acc, q', L', hacc, hys, hq', eq, hyl, hk⟩
    obtain ⟨r1, q1, h1, h2, h3⟩ := comp_drop (rangeL_get hi) hq'
    refine body (lo + (i : Int)) s _ H' σ _ r1 _ _ h1 L'.enter (.int _) ?_ ?_
    · intro e H'' M
      have k := L'.keep M
      have kd : H'' D = some (.lst acc) := M.base D _ hacc (hDm s)
      refine ⟨r1.2, ys, acc, q1, L'.leave M (hG _ _), kd, hys.keep k, h2, ?_, Nat.le_succ_of_le hyl, ?_⟩
      · rw [eq, h3, e]
      · refine ⟨fun b o hb n => ?_, fun b vs hb => k.2.1 b vs (hk.2.1 b vs hb), fun b o u hb => k.2.2 b o u (hk.2.2 b o u hb)⟩
        have hbD : b ≠ D := fun z => by rw [z, hD] at hb; cases hb
        exact k.1 b o (hk.1 b o hb n) fun z => z.elim n hbD
    · intro yv e v H'' M rv
      have k := L'.keep M
      have kd : H'' D = some (.lst acc) := M.base D _ hacc (hDm s)
      have L2 := L'.leave M (hG _ _)
      obtain ⟨L3, k3⟩ := L2.wroteX (p := D) (o' := .lst (acc ++ [v])) (.inr rfl) (hDm _) kd h0 (fun _ z => nomatch z) (fun _ _ z => nomatch z)
      have k4 := k.trans k3
      have hal : acc.length = ys.length := by rw [hys.length, List.length_map]
      refine ⟨acc, kd, by rw [line_eq]; omega, r1.2, ys ++ [yv], acc ++ [v], q1, L3, upd_same, ?_, h2, ?_, ?_, ?_⟩
      · rw [List.map_append]
        exact (hys.keep k4).append (.cons (rv.keep k3) .nil)
      · rw [eq, h3, e]
        show (ys ++ yv :: q1.1, q1.2) = (ys ++ [yv] ++ q1.1, q1.2)
        rw [List.append_assoc]; rfl
      · rw [List.length_append]; exact Nat.succ_le_succ hyl
      · refine ⟨fun b o hb n => ?_, fun b vs hb => k4.2.1 b vs (hk.2.1 b vs hb), fun b o u hb => k4.2.2 b o u (hk.2.2 b o u hb)⟩
        have hbD : b ≠ D := fun z => by rw [z, hD] at hb; cases hb
        exact k4.1 b o (hk.1 b o hb n) fun z => z.elim n hbD
  · rintro H' ⟨s, ys, acc, q', L', hacc, hys, hq', eq, _, hk⟩
    have hl : (rangeL lo n).length = n := by unfold rangeL; rw [List.length_map, List.length_range]
    have : (rangeL lo n).drop n = [] := List.drop_eq_nil_of_le (by omega)
    rw [this] at hq'
    cases hq'
    rw [List.append_nil] at eq
    subst eq
    exact done D H' hD h0 (fun z => L.xd D (L.m0 D z) hD) L' hk ⟨acc, hacc, hys⟩
theorem Lo.addT {D : Addr} {o : MO} {H' : Hp} (L : Lo C X H σ Γ) (hD : H D = none) (h0 : C.H0 D = none) (M : Lo C (fun a => X a ∨ a = D) H' σ Γ') (hm : muts Γ' = muts Γ) (r : MRep C.K (fun a => X a ∨ a = D) H' D o) : Lo C (fun a => X a ∨ a = D) H' σ (Γ' ++ [.tmp D o]) := by
  have hm2 : muts (Γ' ++ [Sl.tmp D o]) = muts Γ' ++ [D] := by unfold muts; rw [List.filterMap_append]; rfl
  have hnm : D ∉ muts Γ' := fun h => L.xd D (L.mx D (hm ▸ h)) hD
  refine ⟨M.len, fun i t hi => ?_, ?_, fun q hq => ?_, M.m0, M.xd, M.base, M.dom, fun q hq => ?_, M.tf⟩
  · by_cases hlt : i < Γ'.length
    · rw [List.getElem?_append_left hlt] at hi
      exact M.at_ i t hi
    · rw [List.getElem?_append_right (by omega)] at hi
      have ht := List.mem_of_getElem? hi
      rw [List.mem_singleton] at ht
      subst ht
      exact r
  · rw [hm2]
    exact List.nodup_append.mpr ⟨M.nd, by simp, fun a ha b hb => by
      rw [List.mem_singleton] at hb
      subst hb
      intro z
      exact hnm (z ▸ ha)⟩
  · rw [hm2, List.mem_append, List.mem_singleton] at hq
    exact hq.elim (M.mx q) .inr
  · rw [hm2, List.mem_append, List.mem_singleton] at hq
    exact hq.elim (M.own q) fun z => .inr (z ▸ h0)
/-- a comprehension's new list, as data -/
theorem lc_data [Py β] {D : Addr} {ys : List β} {H' : Hp} (L : Lo C X H σ Γ) (hD : H D = none) (M : Lo C (fun a => X a ∨ a = D) H' σ Γ') (hm : muts Γ' = muts Γ) (k : Keep X H H') (r : MRep C.K (fun a => X a ∨ a = D) H' D (ml ys))
    (h : Lo C X H' σ Γ' → (∀ d u, Rep C.K X H d u → Rep C.K X H' d u) → Rep C.K X H' (enc ys) (.ref D) → Q (.ref D) H') : Q (.ref D) H' := by
  obtain ⟨vs, h1, h2⟩ := r
  exact h (M.xanti (fun _ h => .inl h) (fun p hp => L.mx p (hm ▸ hp)) L.m0) (fun _ _ q => q.keep k) (.lst (fun z => L.xd D z hD) (.inl h1) (h2.anti fun _ z => .inl z))
/-- .. as the body's own -/
theorem lc_own [Py β] {D : Addr} {ys : List β} {H' : Hp} (L : Lo C X H σ Γ) (hD : H D = none) (h0 : C.H0 D = none) (M : Lo C (fun a => X a ∨ a = D) H' σ Γ') (hm : muts Γ' = muts Γ) (k : Keep X H H') (r : MRep C.K (fun a => X a ∨ a = D) H' D (ml ys))
    (h : Lo C (fun a => X a ∨ a = D) H' σ (Γ' ++ [.tmp D (ml ys)]) → (∀ d u, Rep C.K X H d u → Rep C.K (fun a => X a ∨ a = D) H' d u) → Q (.ref D) H') : Q (.ref D) H' :=
  h (L.addT hD h0 M hm r) fun _ _ q => (q.more hD).keep (k.mono fun _ z => .inl z)
theorem x_lcL [Py α] [Py β] {xs : List α} {f : α → τ → Option (Option β × τ)} {v : V} {G : τ → List Sl} {s0 : τ} {q : List β × τ} {g : TG} {tt : TT} {te : TE} {ws : List Nat} (L : Lo C X H σ (G s0)) (hG : ∀ s s', muts (G s) = muts (G s')) (r : Rep C.K X H (enc xs) v) (hm : compL f xs s0 = some q) (hl : xs.length ≤ 16777216)
    (body : ∀ x s, BodyC C X G (enc x) s (f x s) g tt te ws) (h : ∀ D H', Lo C X H' σ (G q.2) → (∀ d u, Rep C.K X H d u → Rep C.K X H' d u) → Rep C.K X H' (enc q.1) (.ref D) → Q (.ref D) H') : KLcL C.K g tt te ws σ Q v H :=
  x_lcL0 L hG r hm hl body (fun D H' hD h0 hx M k m => lc_data L hD M (hG _ _) k m (h D H'))
theorem x_lcLN [Py α] [Py β] {xs : List α} {f : α → τ → Option (Option β × τ)} {v : V} {G : τ → List Sl} {s0 : τ} {q : List β × τ} {g : TG} {tt : TT} {te : TE} {ws : List Nat} (L : Lo C X H σ (G s0)) (hG : ∀ s s', muts (G s) = muts (G s')) (r : Rep C.K X H (enc xs) v) (hm : compL f xs s0 = some q) (hl : xs.length ≤ 16777216)
    (body : ∀ x s, BodyC C X G (enc x) s (f x s) g tt te ws) (h : ∀ D X' H', C.H0 D = none → ¬ C.X0 D → Lo C X' H' σ (G q.2 ++ [.tmp D (ml q.1)]) → (∀ d u, Rep C.K X H d u → Rep C.K X' H' d u) → Q (.ref D) H') : KLcL C.K g tt te ws σ Q v H :=
  x_lcL0 L hG r hm hl body (fun D H' hD h0 hx M k m => lc_own L hD h0 M (hG _ _) k m (h D _ H' h0 hx))
theorem x_lcT [Py α] [Py β] {xs : List α} {f : α → τ → Option (Option β × τ)} {v : V} {G : τ → List Sl} {s0 : τ} {q : List β × τ} {g : TG} {tt : TT} {te : TE} {ws : List Nat} (L : Lo C X H σ (G s0)) (hG : ∀ s s', muts (G s) = muts (G s')) (r : Rep C.K X H (.tuple (xs.map enc)) v) (hm : compL f xs s0 = some q) (hl : xs.length ≤ 16777216)
    (body : ∀ x s, BodyC C X G (enc x) s (f x s) g tt te ws) (h : ∀ D H', Lo C X H' σ (G q.2) → (∀ d u, Rep C.K X H d u → Rep C.K X H' d u) → Rep C.K X H' (enc q.1) (.ref D) → Q (.ref D) H') : KLcT C.K g tt te ws σ Q v H :=
  x_lcT0 L hG r hm hl body (fun D H' hD h0 hx M k m => lc_data L hD M (hG _ _) k m (h D H'))
theorem x_lcTN [Py α] [Py β] {xs : List α} {f : α → τ → Option (Option β × τ)} {v : V} {G : τ → List Sl} {s0 : τ} {q : List β × τ} {g : TG} {tt : TT} {te : TE} {ws : List Nat} (L : Lo C X H σ (G s0)) (hG : ∀ s s', muts (G s) = muts (G s')) (r : Rep C.K X H (.tuple (xs.map enc)) v) (hm : compL f xs s0 = some q) (hl : xs.length ≤ 16777216)
    (body : ∀ x s, BodyC C X G (enc x) s (f x s) g tt te ws) (h : ∀ D X' H', C.H0 D = none → ¬ C.X0 D → Lo C X' H' σ (G q.2 ++ [.tmp D (ml q.1)]) → (∀ d u, Rep C.K X H d u → Rep C.K X' H' d u) → Q (.ref D) H') : KLcT C.K g tt te ws σ Q v H :=
  x_lcT0 L hG r hm hl body (fun D H' hD h0 hx M k m => lc_own L hD h0 M (hG _ _) k m (h D _ H' h0 hx))
theorem x_lcR [Py β] {lo : Int} {n : Nat} {f : Int → τ → Option (Option β × τ)} {G : τ → List Sl} {s0 : τ} {q : List β × τ} {g : TG} {tt : TT} {te : TE} {ws : List Nat} (L : Lo C X H σ (G s0)) (hG : ∀ s s', muts (G s) = muts (G s')) (hm : compL f (rangeL lo n) s0 = some q) (hl : n ≤ 16777216)
    (body : ∀ x s, BodyC C X G (enc x) s (f x s) g tt te ws) (h : ∀ D H', Lo C X H' σ (G q.2) → (∀ d u, Rep C.K X H d u → Rep C.K X H' d u) → Rep C.K X H' (enc q.1) (.ref D) → Q (.ref D) H') : KLcR lo n g tt te ws σ Q H :=
  x_lcR0 L hG hm hl body (fun D H' hD h0 hx M k m => lc_data L hD M (hG _ _) k m (h D H'))
theorem x_lcRN [Py β] {lo : Int} {n : Nat} {f : Int → τ → Option (Option β × τ)} {G : τ → List Sl} {s0 : τ} {q : List β × τ} {g : TG} {tt : TT} {te : TE} {ws : List Nat} (L : Lo C X H σ (G s0)) (hG : ∀ s s', muts (G s) = muts (G s')) (hm : compL f (rangeL lo n) s0 = some q) (hl : n ≤ 16777216)
    (body : ∀ x s, BodyC C X G (enc x) s (f x s) g tt te ws) (h : ∀ D X' H', C.H0 D = none → ¬ C.X0 D → Lo C X' H' σ (G q.2 ++ [.tmp D (ml q.1)]) → (∀ d u, Rep C.K X H d u → Rep C.K X' H' d u) → Q (.ref D) H') : KLcR lo n g tt te ws σ Q H :=
  x_lcR0 L hG hm hl body (fun D H' hD h0 hx M k m => lc_own L hD h0 M (hG _ _) k m (h D _ H' h0 hx))
/-- one turn of a comprehension -/
def KCt (te : TE) (σ : L2.St) (Qy : VK) (Qn : Hp → Prop) : Bool → Hp → Prop := fun b H => if b = true then te σ H Qy else Qn H
theorem Lo.cset {i : Nat} {u : V} {d : PyData} (L : Lo C X H σ Γ) (r : Rep C.K X H d u) (hi : i < C.n) {σ0 : L2.St} (e : ∀ j, j ≠ i → σ0[j]? = σ[j]?) (el : σ0.length = σ.length) : Lo C X H (σ0.set i (some u)) (Γ.set i (.imm d)) := by
  have e2 : σ0.set i (some u) = σ.set i (some u) := by
    apply List.ext_getElem?
    intro j
    by_cases z : j = i
    · subst z; rw [List.getElem?_set, List.getElem?_set, el, if_pos rfl, if_pos rfl]
    · rw [List.getElem?_set_ne (Ne.symm z), List.getElem?_set_ne (Ne.symm z), e j z]
  rw [e2]; exact L.set r hi
theorem x_cName {i : Nat} {u : V} {d : PyData} {tt : TT} {te : TE} {Qy : VK} {Qn : Hp → Prop} (L : Lo C X H σ Γ) (r : Rep C.K X H d u) (hi : i < C.n) (e : Γ.set i (.imm d) = Γ') (h : ∀ σ2, Lo C X H σ2 Γ' → tt σ2 H (KCt te σ2 Qy Qn)) :
    gName i u (wipe σ [i]) H fun σ2 H2 => wipe σ2 [i] = wipe σ [i] ∧ tt σ2 H2 fun b H3 => if b = true then te σ2 H3 Qy else Qn H3 := by
  subst e
  refine ⟨?_, h _ (L.cset r hi (fun j z => ?_) ?_)⟩
  · show ((σ.set i none).set i (some u)).set i none = σ.set i none
    rw [List.set_set, List.set_set]
  · exact List.getElem?_set_ne (Ne.symm z)
  · exact List.length_set
theorem x_cTup {i j : Nat} {u : V} {d1 d2 : PyData} {tt : TT} {te : TE} {Qy : VK} {Qn : Hp → Prop} (L : Lo C X H σ Γ) (r : Rep C.K X H (.tuple [d1, d2]) u) (hi : i < C.n) (hj : j < C.n) (ne : i ≠ j) (e : (Γ.set i (.imm d1)).set j (.imm d2) = Γ') (h : ∀ σ2, Lo C X H σ2 Γ' → tt σ2 H (KCt te σ2 Qy Qn)) :
    gTup C.K 2 (gCons (gName i) (gCons (gName j) gNil)) u (wipe σ [i, j]) H fun σ2 H2 => wipe σ2 [i, j] = wipe σ [i, j] ∧ tt σ2 H2 fun b H3 => if b = true then te σ2 H3 Qy else Qn H3 := by
  subst e
  obtain ⟨a, vs, rfl, hs, q⟩ := rep_tup r
  cases q with
  | @cons _ _ v1 _ r1 q => cases q with
    | @cons _ _ v2 _ r2 q => cases q with
      | nil =>
        refine ⟨a, _, rfl, hs, rfl, v1, [v2], rfl, v2, [], rfl, rfl, ?_⟩
        have e3 : (((σ.set j none).set i none).set i (some v1)).set j (some v2) = (σ.set i (some v1)).set j (some v2) := by
          rw [List.set_set, List.set_comm none (some v1) ne.symm, List.set_set]
        refine ⟨?_, ?_⟩
        · show (((((σ.set j none).set i none).set i (some v1)).set j (some v2)).set j none).set i none = (σ.set j none).set i none
          rw [e3, List.set_set, List.set_comm _ _ ne.symm, List.set_set, List.set_comm _ _ ne]
        · have q := h _ ((L.set r1 hi).set r2 hj)
          rw [← e3] at q
          exact q
theorem x_yes {te : TE} {Qy : VK} {Qn : Hp → Prop} (h : te σ H Qy) : tYes σ H (KCt te σ Qy Qn) := h
theorem x_ct {te : TE} {Qy : VK} {Qn : Hp → Prop} {c : Bool} {mA mB : Option ρ} {r : ρ} (hm : (if c = true then mA else mB) = some r) (hA : mA = some r → te σ H Qy) (hB : mB = some r → Qn H) : KCt te σ Qy Qn c H := by
  cases c with
  | true => exact hA hm
  | false => exact hB hm
theorem x_cy [Py β] {X' : Addr → Prop} {σ2 : L2.St} {H' : Hp} {K : PySem.W.Frag} {n : Nat} {G : τ → List Sl} {s s' : τ} {Γ2 : List Sl} {y : β} {r : Option β × τ} {v : V} {Qy : VK} (er : r = (some y, s')) (hy : ∀ y, r.1 = some y → ∀ v H', Lo ⟨K, X, H, muts (G s), n⟩ X H' σ (G r.2) → Rep K X H' (enc y) v → Qy v H')
    (L : Lo ⟨K, X, H, muts (G s), n⟩ X H σ (G s)) (M : Lo ⟨K, X, H, muts (G s), n⟩ X' H' σ2 Γ2) (b : Bk (G s) Γ2 (G s')) (q : Rep K X' H' (enc y) v) : Qy v H' := by
  subst er
  exact hy y rfl v H' (L.back M b) (Rep.anti M.m0 q)
theorem x_cn [Py β] {X' : Addr → Prop} {σ2 : L2.St} {H' : Hp} {K : PySem.W.Frag} {n : Nat} {G : τ → List Sl} {s s' : τ} {Γ2 : List Sl} {r : Option β × τ} {Qn : Hp → Prop} (er : r = (none, s')) (hn : r.1 = none → ∀ H', Lo ⟨K, X, H, muts (G s), n⟩ X H' σ (G r.2) → Qn H')
    (L : Lo ⟨K, X, H, muts (G s), n⟩ X H σ (G s)) (M : Lo ⟨K, X, H, muts (G s), n⟩ X' H' σ2 Γ2) (b : Bk (G s) Γ2 (G s')) : Qn H' := by
  subst er
  exact hn rfl H' (L.back M b)
end
open Py (enc)

/-! ### equality of data -/
class PyE (α : Type) [Py α] [DecidableEq α] where
  d : Nat
  eqv : ∀ x y : α, PyData.eqv (enc x) (enc y) = decide (x = y)
  lay : ∀ x : α, PyData.canLay0 (enc x) = true
  dep : ∀ x : α, PyData.depth (enc x) ≤ d
instance : PyE Int := ⟨0, fun x y => by
  show PyData.eqv (.int x) (.int y) = _
  unfold PyData.eqv
  by_cases z : x = y <;> simp [z], fun _ => rfl, fun _ => Nat.le_refl _⟩
instance : PyE Bool := ⟨0, fun x y => by cases x <;> cases y <;> rfl, fun _ => rfl, fun _ => Nat.le_refl _⟩
section
variable {α β γ δ ε : Type} [Py α] [DecidableEq α] [Py β] [DecidableEq β] [Py γ] [DecidableEq γ] [Py δ] [DecidableEq δ] [Py ε] [DecidableEq ε]
theorem eqvAll_nil : PyData.eqvAll [] [] = true := by unfold PyData.eqvAll; rfl
theorem eqvAll_cons {x y : PyData} {xs ys : List PyData} : PyData.eqvAll (x :: xs) (y :: ys) = (PyData.eqv x y && PyData.eqvAll xs ys) := by rw [PyData.eqvAll]
theorem eqv_tup {xs ys : List PyData} : PyData.eqv (.tuple xs) (.tuple ys) = PyData.eqvAll xs ys := by rw [PyData.eqv]
theorem eqv_lst {xs ys : List PyData} : PyData.eqv (.list xs) (.list ys) = PyData.eqvAll xs ys := by rw [PyData.eqv]
theorem layAll_nil : PyData.canLayAll0 [] = true := by unfold PyData.canLayAll0; rfl
theorem layAll_cons {x : PyData} {xs : List PyData} : PyData.canLayAll0 (x :: xs) = (PyData.canLay0 x && PyData.canLayAll0 xs) := by rw [PyData.canLayAll0]
theorem lay_tup {xs : List PyData} : PyData.canLay0 (.tuple xs) = PyData.canLayAll0 xs := by rw [PyData.canLay0]
theorem lay_lst {xs : List PyData} : PyData.canLay0 (.list xs) = PyData.canLayAll0 xs := by rw [PyData.canLay0]
theorem depAll_nil : PyData.depthAll [] = 0 := by unfold PyData.depthAll; rfl
theorem depAll_cons {x : PyData} {xs : List PyData} : PyData.depthAll (x :: xs) = max (PyData.depth x) (PyData.depthAll xs) := by rw [PyData.depthAll]
theorem dep_tup {xs : List PyData} : PyData.depth (.tuple xs) = PyData.depthAll xs + 1 := by rw [PyData.depth]
theorem dep_lst {xs : List PyData} : PyData.depth (.list xs) = PyData.depthAll xs + 1 := by rw [PyData.depth]
instance [PyE α] [PyE β] : PyE (T2 α β) where
  d := max (PyE.d α) (PyE.d β) + 1
  eqv := fun ⟨a, b⟩ ⟨a', b'⟩ => by
    show PyData.eqv (.tuple [enc a, enc b]) (.tuple [enc a', enc b']) = _
    rw [eqv_tup, eqvAll_cons, eqvAll_cons, eqvAll_nil, PyE.eqv, PyE.eqv]
    by_cases h1 : a = a' <;> by_cases h2 : b = b' <;> simp [h1, h2]
  lay := fun ⟨a, b⟩ => by
    show PyData.canLay0 (.tuple [enc a, enc b]) = true
    rw [lay_tup, layAll_cons, layAll_cons, layAll_nil, PyE.lay, PyE.lay]; rfl
  dep := fun ⟨a, b⟩ => by
    show PyData.depth (.tuple [enc a, enc b]) ≤ _
    rw [dep_tup, depAll_cons, depAll_cons, depAll_nil]
    have := PyE.dep a
    have := PyE.dep b
    omega
instance [PyE α] [PyE β] [PyE γ] : PyE (T3 α β γ) where
  d := max (PyE.d α) (max (PyE.d β) (PyE.d γ)) + 1
  eqv := fun ⟨a, b, c⟩ ⟨a', b', c'⟩ => by
    show PyData.eqv (.tuple [enc a, enc b, enc c]) (.tuple [enc a', enc b', enc c']) = _
    rw [eqv_tup, eqvAll_cons, eqvAll_cons, eqvAll_cons, eqvAll_nil, PyE.eqv, PyE.eqv, PyE.eqv]
    by_cases h1 : a = a' <;> by_cases h2 : b = b' <;> by_cases h3 : c = c' <;> simp [h1, h2, h3]
  lay := fun ⟨a, b, c⟩ => by
    show PyData.canLay0 (.tuple [enc a, enc b, enc c]) = true
    rw [lay_tup, layAll_cons, layAll_cons, layAll_cons, layAll_nil, PyE.lay, PyE.lay, PyE.lay]; rfl
  dep := fun ⟨a, b, c⟩ => by
    show PyData.depth (.tuple [enc a, enc b, enc c]) ≤ _
    rw [dep_tup, depAll_cons, depAll_cons, depAll_cons, depAll_nil]
    have := PyE.dep a
    have := PyE.dep b
    have := PyE.dep c
    omega
instance [PyE α] [PyE β] [PyE γ] [PyE δ] : PyE (T4 α β γ δ) where
  d := max (PyE.d α) (max (PyE.d β) (max (PyE.d γ) (PyE.d δ))) + 1
  eqv := fun ⟨a, b, c, d⟩ ⟨a', b', c', d'⟩ => by
    show PyData.eqv (.tuple [enc a, enc b, enc c, enc d]) (.tuple [enc a', enc b', enc c', enc d']) = _
    rw [eqv_tup, eqvAll_cons, eqvAll_cons, eqvAll_cons, eqvAll_cons, eqvAll_nil, PyE.eqv, PyE.eqv, PyE.eqv, PyE.eqv]
    by_cases h1 : a = a' <;> by_cases h2 : b = b' <;> by_cases h3 : c = c' <;> by_cases h4 : d = d' <;> simp [h1, h2, h3, h4]
  lay := fun ⟨a, b, c, d⟩ => by
    show PyData.canLay0 (.tuple [enc a, enc b, enc c, enc d]) = true
    rw [lay_tup, layAll_cons, layAll_cons, layAll_cons, layAll_cons, layAll_nil, PyE.lay, PyE.lay, PyE.lay, PyE.lay]; rfl
  dep := fun ⟨a, b, c, d⟩ => by
    show PyData.depth (.tuple [enc a, enc b, enc c, enc d]) ≤ _
    rw [dep_tup, depAll_cons, depAll_cons, depAll_cons, depAll_cons, depAll_nil]
    have := PyE.dep a
    have := PyE.dep b
    have := PyE.dep c
    have := PyE.dep d
    omega
instance [PyE α] : PyE (List α) where
  d := PyE.d α + 1
  eqv := fun xs ys => by
    show PyData.eqv (.list (xs.map enc)) (.list (ys.map enc)) = _
    rw [eqv_lst]
    induction xs generalizing ys with
    | nil => cases ys with
      | nil => rw [List.map_nil, eqvAll_nil]; rfl
      | cons y ys => rw [List.map_nil, List.map_cons, PyData.eqvAll]; rfl
    | cons x xs ih => cases ys with
      | nil => rw [List.map_nil, List.map_cons, PyData.eqvAll]; rfl
      | cons y ys =>
        rw [List.map_cons, List.map_cons, eqvAll_cons, ih, PyE.eqv]
        by_cases h1 : x = y <;> by_cases h2 : xs = ys <;> simp [h1, h2]
  lay := fun xs => by
    show PyData.canLay0 (.list (xs.map enc)) = true
    rw [lay_lst]
    induction xs with
    | nil => rw [List.map_nil, layAll_nil]
    | cons x xs ih => rw [List.map_cons, layAll_cons, PyE.lay, ih]; rfl
  dep := fun xs => by
    show PyData.depth (.list (xs.map enc)) ≤ _
    rw [dep_lst]
    refine Nat.succ_le_succ ?_
    induction xs with
    | nil => rw [List.map_nil, depAll_nil]; exact Nat.zero_le _
    | cons x xs ih =>
      rw [List.map_cons, depAll_cons]
      have := PyE.dep x
      omega
theorem shaped_of [PyE α] (h : PyE.d α ≤ 64) (x : α) : SeqAt.shaped (enc x) = true := by
  unfold SeqAt.shaped
  have := PyE.dep x
  rw [PyE.lay, Bool.true_and]
  exact decide_eq_true (by omega)
end

section
variable {C : Cn} {X : Addr → Prop} {H : Hp} {σ : L2.St} {Γ Γ' : List Sl} {Q : VK} {α β γ δ ε ρ : Type}
/-! ### what a value stands for, in any shape -/
theorem Lo.dpM [Py α] {xs : List α} {i : Nat} {p : Addr} (L : Lo C X H σ Γ) (g : Γ[i]? = some (.mu p (ml xs))) : Dp C.K H (.ref p) (enc xs) := by
  obtain ⟨vs, hs, q⟩ := L.mrep g
  exact .lst (.inl (.inl hs)) (Reps.dp q)
theorem x_eqd [Py α] [DecidableEq α] [PyE α] {x y : α} {u v : V} (r : Dp C.K H u (enc x)) (q : Dp C.K H v (enc y)) (h64 : PyE.d α ≤ 64) (h : Q (.bl (decide (x = y))) H) : rEqD C.K u v H Q :=
  ⟨_, _, r, q, shaped_of h64 x, shaped_of h64 y, by rw [PyE.eqv]; exact h⟩
theorem x_ned [Py α] [DecidableEq α] [PyE α] {x y : α} {u v : V} (r : Dp C.K H u (enc x)) (q : Dp C.K H v (enc y)) (h64 : PyE.d α ≤ 64) (h : Q (.bl (!decide (x = y))) H) : rNeD C.K u v H Q :=
  ⟨_, _, r, q, shaped_of h64 x, shaped_of h64 y, by rw [PyE.eqv]; exact h⟩
/-- x in xs -/
def memB {α : Type} [DecidableEq α] (x : α) (xs : List α) : Bool := xs.any fun z => decide (z = x)
theorem any_eqv [Py α] [DecidableEq α] [PyE α] {x : α} {xs : List α} : ((xs.map enc).any fun z => PyData.eqv z (enc x)) = memB x xs := by
  unfold memB
  rw [List.any_map]
  congr 1
  funext z
  exact PyE.eqv z x
theorem x_ind [Py α] [DecidableEq α] [PyE α] {x : α} {ys : List α} {u v : V} (r : Dp C.K H u (enc x)) (q : Dp C.K H v (enc ys)) (h64 : PyE.d (List α) ≤ 64) (h : Q (.bl (memB x ys)) H) : rInD C.K u v H Q :=
  ⟨_, _, r, q, shaped_of (Nat.le_trans (Nat.le_succ _) h64) x, shaped_of h64 ys, by rw [any_eqv]; exact h⟩
theorem x_nind [Py α] [DecidableEq α] [PyE α] {x : α} {ys : List α} {u v : V} (r : Dp C.K H u (enc x)) (q : Dp C.K H v (enc ys)) (h64 : PyE.d (List α) ≤ 64) (h : Q (.bl (!memB x ys)) H) : rNotInD C.K u v H Q :=
  ⟨_, _, r, q, shaped_of (Nat.le_trans (Nat.le_succ _) h64) x, shaped_of h64 ys, by rw [any_eqv]; exact h⟩
/-! ### None -/
class NN (α : Type) [Py α] : Prop where
  ne : ∀ x : α, enc x ≠ PyData.none
instance : NN Int := ⟨fun _ z => nomatch z⟩
instance : NN Bool := ⟨fun _ z => nomatch z⟩
instance : NN Str := ⟨fun _ z => nomatch z⟩
instance {α : Type} [Py α] : NN (List α) := ⟨fun _ z => nomatch z⟩
instance {α : Type} [Py α] : NN (T1 α) := ⟨fun _ z => nomatch z⟩
instance {α β : Type} [Py α] [Py β] : NN (T2 α β) := ⟨fun _ z => nomatch z⟩
instance {α β γ : Type} [Py α] [Py β] [Py γ] : NN (T3 α β γ) := ⟨fun _ z => nomatch z⟩
instance {α β γ δ : Type} [Py α] [Py β] [Py γ] [Py δ] : NN (T4 α β γ δ) := ⟨fun _ z => nomatch z⟩
theorem rep_non {K : PySem.W.Frag} {d : PyData} {v : V} (r : Rep K X H d v) (ne : d ≠ .none) : v ≠ .non := by
  cases r <;> intro z <;> first | exact ne rfl | cases z
def rIsNX : R2 := fun x y H Q => y = .non ∧ Q (.bl (decide (x = .non))) H
def rNotNX : R2 := fun x y H Q => y = .non ∧ Q (.bl (!decide (x = .non))) H
theorem op_isNX {Xc : Cx} : OpR Xc (compareOp .Is) rIsNX := op_isN
theorem op_notNX {Xc : Cx} : OpR Xc (compareOp .IsNot) rNotNX := op_notN
theorem dec_none [Py α] [NN α] {K : PySem.W.Frag} {o : Option α} {v : V} (r : Rep K X H (enc o) v) : decide (v = V.non) = o.isNone := by
  cases o with
  | none => cases (show Rep K X H PyData.none v from r); rfl
  | some x => simp [rep_non (show Rep K X H (enc x) v from r) (NN.ne x)]
theorem x_isNO [Py α] [NN α] {o : Option α} {v : V} (r : Rep C.K X H (enc o) v) (h : Q (.bl o.isNone) H) : rIsNX v .non H Q := ⟨rfl, by rw [dec_none r]; exact h⟩
theorem x_notNO [Py α] [NN α] {o : Option α} {v : V} (r : Rep C.K X H (enc o) v) (h : Q (.bl (!o.isNone)) H) : rNotNX v .non H Q := ⟨rfl, by rw [dec_none r]; exact h⟩
theorem x_isNS {v : V} {b : Bool} (e : decide (v = V.non) = b) (h : Q (.bl b) H) : rIsNX v .non H Q := ⟨rfl, by rw [e]; exact h⟩
theorem x_notNS {v : V} {b : Bool} (e : decide (v = V.non) = b) (h : Q (.bl (!b)) H) : rNotNX v .non H Q := ⟨rfl, by rw [e]; exact h⟩
theorem x_isND [Py α] [NN α] {x : α} {v : V} (r : Rep C.K X H (enc x) v) (h : Q (.bl false) H) : rIsNX v .non H Q := ⟨rfl, by rw [show decide (v = V.non) = false from by simp [rep_non r (NN.ne x)]]; exact h⟩
theorem x_notND [Py α] [NN α] {x : α} {v : V} (r : Rep C.K X H (enc x) v) (h : Q (.bl (!false)) H) : rNotNX v .non H Q := ⟨rfl, by rw [show decide (v = V.non) = false from by simp [rep_non r (NN.ne x)]]; exact h⟩
/-- a value that is not None -/
theorem Lo.someS [Py α] {o : Option α} {x : α} {i : Nat} (L : Lo C X H σ Γ) (g : Γ[i]? = some (.imm (enc o))) (e : o = some x) (eΓ : Γ.set i (.imm (enc x)) = Γ') : Lo C X H σ Γ' := by
  subst eΓ
  have hil : i < Γ.length := (List.getElem?_eq_some_iff.mp g).1
  have : Γ.set i (.imm (enc x)) = Γ := by
    apply List.ext_getElem?
    intro j
    by_cases z : j = i
    · subst z; rw [List.getElem?_set_self hil, g, e]; rfl
    · rw [List.getElem?_set_ne (Ne.symm z)]
  rw [this]; exact L
instance [Py α] [NN α] [DecidableEq α] [PyE α] : PyE (Option α) where
  d := PyE.d α
  eqv := fun x y => by
    have hn : ∀ z : α, PyData.eqv .none (enc z) = false ∧ PyData.eqv (enc z) .none = false := fun z => by
      have := NN.ne z
      constructor
      · cases h : enc z <;> first | exact (this h).elim | (unfold PyData.eqv; rfl)
      · cases h : enc z <;> first | exact (this h).elim | (unfold PyData.eqv; rfl)
    cases x with
    | none => cases y with
      | none => show PyData.eqv .none .none = _; unfold PyData.eqv; rfl
      | some y => show PyData.eqv .none (enc y) = _; rw [(hn y).1]; rfl
    | some x => cases y with
      | none => show PyData.eqv (enc x) .none = _; rw [(hn x).2]; rfl
      | some y => show PyData.eqv (enc x) (enc y) = _; rw [PyE.eqv]; by_cases z : x = y <;> simp [z]
  lay := fun x => by
    cases x with
    | none => rfl
    | some x => exact PyE.lay x
  dep := fun x => by
    cases x with
    | none => exact Nat.zero_le _
    | some x => exact PyE.dep x
/-! ### built-ins -/
theorem x_cb {r : List V → Hp → VK → Prop} {t : TA} (h : t σ H fun vs H1 => r vs H1 Q) : tCB r t σ H Q := h
theorem x_call {sp : Sp} {E : XK} {t : TA} (h : t σ H fun vs H1 => sp (vs ++ []) H1 Q E) : tCall sp [] E t σ H Q := h
def rLenX (K : PySem.W.Frag) : List V → Hp → VK → Prop := fun xs H Q => ∃ p ys, xs = [.ref p] ∧ (SqL K H p ys ∨ SqT K H p ys) ∧ Q (.int ys.length) H
theorem call_lenX {Xc : Cx} : CallR Xc (.builtin "len") (rLenX Xc.K) := call_len_seq
def rAbsX : List V → Hp → VK → Prop := fun xs H Q => ∃ i, xs = [.int i] ∧ Q (.int (if i < 0 then -i else i)) H
theorem call_absX {Xc : Cx} : CallR Xc (.builtin "abs") rAbsX := call_abs
def rIntX : List V → Hp → VK → Prop := fun xs H Q => (∃ i, xs = [.int i] ∧ Q (.int i) H) ∨ ∃ k, xs = [.bl k] ∧ Q (.int (if k then 1 else 0)) H
theorem call_intX {Xc : Cx} : CallR Xc (.type "int") rIntX := call_int1
def rMaxX : List V → Hp → VK → Prop := fun xs H Q => ∃ i j, xs = [.int i, .int j] ∧ Q (.int (if j > i then j else i)) H
theorem call_maxX {Xc : Cx} (hc : Xc.calm = true) : CallR Xc (.builtin "max") rMaxX := call_max2 hc
def rMinX : List V → Hp → VK → Prop := fun xs H Q => ∃ i j, xs = [.int i, .int j] ∧ Q (.int (if j < i then j else i)) H
theorem call_minX {Xc : Cx} (hc : Xc.calm = true) : CallR Xc (.builtin "min") rMinX := call_min2 hc
def rListX (K : PySem.W.Frag) : List V → Hp → VK → Prop := fun xs H Q => ∃ p ys, xs = [.ref p] ∧ (SqL K H p ys ∨ SqT K H p ys) ∧ ∀ l, H l = none → Q (.ref l) (upd H l (.lst ys))
theorem call_listX {Xc : Cx} : CallR Xc (.type "list") (rListX Xc.K) := call_list_of
theorem x_lenL [Py α] {xs : List α} {v : V} (r : Rep C.K X H (enc xs) v) (h : Q (.int (xs.length : Int)) H) : rLenX C.K [v] H Q := by
  obtain ⟨a, vs, rfl, _, hs, q⟩ := rep_lst (ds := xs.map enc) r
  refine ⟨a, vs, rfl, .inl (.inl hs), ?_⟩
  rw [q.length, List.length_map]; exact h
theorem x_lenS {ns : List Int} {v : V} (r : SqX C.K X H ns v) (h : Q (.int (ns.length : Int)) H) : rLenX C.K [v] H Q := by
  obtain ⟨a, rfl, hs⟩ := r.sq
  refine ⟨a, _, rfl, .inl hs, ?_⟩
  rw [List.length_map]; exact h
theorem x_lenM [Py α] {xs : List α} {j : Nat} {p : Addr} (L : Lo C X H σ Γ) (g : Γ[j]? = some (.mu p (ml xs))) (h : Q (.int (xs.length : Int)) H) : rLenX C.K [.ref p] H Q := by
  obtain ⟨vs, hs, q⟩ := L.mrep g
  refine ⟨p, vs, rfl, .inl (.inl (.inl hs)), ?_⟩
  rw [q.length, List.length_map]; exact h
theorem x_lenT {ds : List PyData} {n : Int} {v : V} (r : Rep C.K X H (.tuple ds) v) (e : (ds.length : Int) = n) (h : Q (.int n) H) : rLenX C.K [v] H Q := by
  obtain ⟨a, vs, rfl, hs, q⟩ := rep_tup r
  refine ⟨a, vs, rfl, .inr hs, ?_⟩
  rw [q.length, e]; exact h
/-- a value's type -/
def tyName : PyData → String
  | .none => "NoneType"
  | .bool _ => "bool"
  | .int _ => "int"
  | .str _ => "str"
  | .list _ => "list"
  | .tuple _ => "tuple"
  | .dict _ => "dict"
theorem Rep.ty {d : PyData} {v : V} (r : Rep C.K X H d v) : TyX C.K H v (.type (tyName d)) := by
  cases r with
  | non => exact .base .non
  | bl b => exact .base (.bl b)
  | int i => exact .base (.int i)
  | str x => exact .base (.str x)
  | tup h q =>
    rcases h with (h | ⟨o, h⟩) | ⟨o, its, n, hk, hc, _⟩
    · exact .base (.tup h)
    · exact .fTuple h
    · exact .kTuple hk hc
  | lst n h q =>
    rcases h with h | ⟨o, h⟩
    · exact .base (.lst h)
    · exact .base (.frz h)
theorem x_isi {d : PyData} {v : V} {T : String} {b : Bool} (r : Rep C.K X H d v) (e : kitB (tyName d) T = some b) (h : Q (.bl b) H) : rIsi C.K [v, .ty T] H Q :=
  ⟨v, .ty T, _, .type T, b, rfl, .ty T, r.ty, kit_ty e, h⟩
theorem x_isiI {K : PySem.W.Frag} {x : Int} {T : String} {b : Bool} (e : kitB (tyName (PyData.int x)) T = some b) (h : Q (.bl b) H) : rIsi K [(V.int x), .ty T] H Q :=
  x_isi (C := ⟨K, fun _ => False, H, [], 0⟩) (X := fun _ => False) (d := (PyData.int x)) (.int _) e h
theorem x_isiB {K : PySem.W.Frag} {x : Bool} {T : String} {b : Bool} (e : kitB (tyName (PyData.bool x)) T = some b) (h : Q (.bl b) H) : rIsi K [(V.bl x), .ty T] H Q :=
  x_isi (C := ⟨K, fun _ => False, H, [], 0⟩) (X := fun _ => False) (d := (PyData.bool x)) (.bl _) e h
theorem x_isiS {K : PySem.W.Frag} {x : Str} {T : String} {b : Bool} (e : kitB (tyName (PyData.str x)) T = some b) (h : Q (.bl b) H) : rIsi K [(V.str x), .ty T] H Q :=
  x_isi (C := ⟨K, fun _ => False, H, [], 0⟩) (X := fun _ => False) (d := (PyData.str x)) (.str _) e h
theorem x_isiN {K : PySem.W.Frag} {x : Unit} {T : String} {b : Bool} (e : kitB (tyName PyData.none) T = some b) (h : Q (.bl b) H) : rIsi K [V.non, .ty T] H Q :=
  x_isi (C := ⟨K, fun _ => False, H, [], 0⟩) (X := fun _ => False) (d := PyData.none) .non e h
theorem x_isiM {i : Nat} {p : Addr} {ds : List PyData} {T : String} {b : Bool} (L : Lo C X H σ Γ) (g : Γ[i]? = some (.mu p (.lst ds))) (e : kitB "list" T = some b) (h : Q (.bl b) H) : rIsi C.K [.ref p, .ty T] H Q := by
  obtain ⟨vs, hs, q⟩ := L.mrep g
  exact ⟨.ref p, .ty T, _, .type T, b, rfl, .ty T, .base (.lst hs), kit_ty e, h⟩
theorem x_abs {a : Int} (h : Q (.int (iabs a)) H) : rAbsX [V.int a] H Q := ⟨a, rfl, h⟩
theorem x_intb {b : Bool} (h : Q (.int (b2 b)) H) : rIntX [V.bl b] H Q := .inr ⟨b, rfl, h⟩
theorem x_inti {a : Int} (h : Q (.int a) H) : rIntX [V.int a] H Q := .inl ⟨a, rfl, h⟩
def imax (a b : Int) : Int := if b > a then b else a
def imin (a b : Int) : Int := if b < a then b else a
theorem x_max {a b : Int} (h : Q (.int (imax a b)) H) : rMaxX [V.int a, V.int b] H Q := ⟨a, b, rfl, h⟩
theorem x_min {a b : Int} (h : Q (.int (imin a b)) H) : rMinX [V.int a, V.int b] H Q := ⟨a, b, rfl, h⟩
theorem x_all {bs : List Bool} {v : V} (r : Rep C.K X H (enc bs) v) (h : Q (.bl (bs.all id)) H) : rAll C.K [v] H Q := by
  obtain ⟨a, vs, rfl, _, hs, q⟩ := rep_lst (ds := bs.map enc) r
  have e := Reps.toBools q
  subst e
  exact ⟨a, bs, rfl, .inl hs, h⟩
theorem x_sum {ns : List Int} {v : V} (r : Rep C.K X H (enc ns) v) (h : Q (.int ns.sum) H) : rSum C.K [v] H Q := by
  obtain ⟨a, vs, rfl, _, hs, q⟩ := rep_lst (ds := ns.map enc) r
  have e := Reps.toInts q
  subst e
  exact ⟨a, ns, rfl, .inl hs, h⟩
theorem x_any {bs : List Bool} {v : V} (r : Rep C.K X H (enc bs) v) (h : Q (.bl (bs.any id)) H) : rAny C.K [v] H Q := by
  obtain ⟨a, vs, rfl, _, hs, q⟩ := rep_lst (ds := bs.map enc) r
  have e := Reps.toBools q
  subst e
  exact ⟨a, bs, rfl, .inl hs, h⟩
/-! ### slices, sums of lists -/
def slice {α : Type} (xs : List α) (lo hi : Option Int) : List α := (xs.drop (HT.sIx xs.length 0 lo)).take (HT.sIx xs.length xs.length hi - HT.sIx xs.length 0 lo)
def KPart (Q : Option Int → Hp → Prop) : VK := fun x H => ∃ i, x = .int i ∧ Q (some i) H
theorem x_sl {r : V → Option Int → Option Int → Hp → VK → Prop} {te : TE} {tl th : TO} (h : te σ H fun x H1 => tl σ H1 fun l H2 => th σ H2 fun u H3 => r x l u H3 Q) : tSl r te tl th σ H Q := h
theorem x_noP {Q : Option Int → Hp → Prop} (h : Q none H) : tNoPart σ H Q := h
theorem x_part {t : TE} {Q : Option Int → Hp → Prop} (h : t σ H (KPart Q)) : tPart t σ H Q := h
theorem x_partK {i : Int} {Q : Option Int → Hp → Prop} (h : Q (some i) H) : KPart Q (.int i) H := ⟨i, rfl, h⟩
theorem reps_slice {K : PySem.W.Frag} [Py α] {xs : List α} {vs : List V} {lo hi : Option Int} (q : Reps K X H (xs.map enc) vs) : Reps K X H ((slice xs lo hi).map enc) (cutV vs lo hi) := by
  have e : vs.length = xs.length := by rw [q.length, List.length_map]
  unfold slice cutV
  rw [e, List.map_take, List.map_drop]
  exact (q.drop _).take _
/-- a new list, told as data or as the body's own -/
theorem x_new {ds : List PyData} {vs : List V} (L : Lo C X H σ Γ) (q : Reps C.K X H ds vs) (h : ∀ v H1, Lo C X H1 σ Γ → (∀ d u, Rep C.K X H d u → Rep C.K X H1 d u) → Rep C.K X H1 (.list ds) v → Q v H1) : ∀ p, H p = none → Q (.ref p) (upd H p (.lst vs)) := fun p hp => by
  have s : Same H (upd H p (.lst vs)) := same_upd hp
  have r : RRep C.K X H (upd H p (.lst vs)) (.new (.lst ds)) (.ref p) := ⟨p, rfl, hp, vs, upd_same, (q.more hp).keep (.same s)⟩
  exact h _ _ (L.same s) (fun _ _ r => r.keep (.same s)) (r.imm L.xd)
theorem x_newN {ds : List PyData} {vs : List V} (L : Lo C X H σ Γ) (q : Reps C.K X H ds vs) (h : ∀ p X' H1, C.H0 p = none → ¬ C.X0 p → Lo C X' H1 σ (Γ ++ [.tmp p (.lst ds)]) → (∀ d u, Rep C.K X H d u → Rep C.K X' H1 d u) → Q (.ref p) H1) : ∀ p, H p = none → Q (.ref p) (upd H p (.lst vs)) := fun p hp => by
  have s : Same H (upd H p (.lst vs)) := same_upd hp
  obtain ⟨L1, le, h0, hx⟩ := L.lay hp s ⟨vs, upd_same, (q.more hp).keep (.same s)⟩
  exact h p _ _ h0 hx L1 le
theorem x_slL [Py α] {xs : List α} {v : V} {lo hi : Option Int} (L : Lo C X H σ Γ) (r : Rep C.K X H (enc xs) v) (h : ∀ v H1, Lo C X H1 σ Γ → (∀ d u, Rep C.K X H d u → Rep C.K X H1 d u) → Rep C.K X H1 (enc (slice xs lo hi)) v → Q v H1) : rSlL C.K v lo hi H Q := by
  obtain ⟨a, vs, rfl, _, hs, q⟩ := rep_lst (ds := xs.map enc) r
  exact ⟨a, vs, rfl, .inl hs, x_new L (reps_slice q) h⟩
theorem x_slN [Py α] {xs : List α} {v : V} {lo hi : Option Int} (L : Lo C X H σ Γ) (r : Rep C.K X H (enc xs) v) (h : ∀ p X' H1, C.H0 p = none → ¬ C.X0 p → Lo C X' H1 σ (Γ ++ [.tmp p (ml (slice xs lo hi))]) → (∀ d u, Rep C.K X H d u → Rep C.K X' H1 d u) → Q (.ref p) H1) : rSlL C.K v lo hi H Q := by
  obtain ⟨a, vs, rfl, _, hs, q⟩ := rep_lst (ds := xs.map enc) r
  exact ⟨a, vs, rfl, .inl hs, x_newN L (reps_slice q) h⟩
theorem x_slM [Py α] {xs : List α} {i : Nat} {p : Addr} {lo hi : Option Int} (L : Lo C X H σ Γ) (g : Γ[i]? = some (.mu p (ml xs))) (h : ∀ v H1, Lo C X H1 σ Γ → (∀ d u, Rep C.K X H d u → Rep C.K X H1 d u) → Rep C.K X H1 (enc (slice xs lo hi)) v → Q v H1) : rSlL C.K (.ref p) lo hi H Q := by
  obtain ⟨vs, hs, q⟩ := L.mrep g
  exact ⟨p, vs, rfl, .inl (.inl hs), x_new L (reps_slice q) h⟩
theorem x_slMN [Py α] {xs : List α} {i : Nat} {p : Addr} {lo hi : Option Int} (L : Lo C X H σ Γ) (g : Γ[i]? = some (.mu p (ml xs))) (h : ∀ p X' H1, C.H0 p = none → ¬ C.X0 p → Lo C X' H1 σ (Γ ++ [.tmp p (ml (slice xs lo hi))]) → (∀ d u, Rep C.K X H d u → Rep C.K X' H1 d u) → Q (.ref p) H1) : rSlL C.K (.ref p) lo hi H Q := by
  obtain ⟨vs, hs, q⟩ := L.mrep g
  exact ⟨p, vs, rfl, .inl (.inl hs), x_newN L (reps_slice q) h⟩
theorem x_slS {ns : List Int} {v : V} {lo hi : Option Int} (L : Lo C X H σ Γ) (r : SqX C.K X H ns v) (h : ∀ v H1, Lo C X H1 σ Γ → (∀ d u, Rep C.K X H d u → Rep C.K X H1 d u) → Rep C.K X H1 (enc (slice ns lo hi)) v → Q v H1) : rSlL C.K v lo hi H Q := by
  obtain ⟨a, rfl, hs⟩ := r.sq
  refine ⟨a, _, rfl, hs, x_new L (reps_slice (xs := ns) ?_) h⟩
  exact Reps.ints
/-- a part of a tuple -/
theorem x_slT {ds es : List PyData} {v : V} {lo hi : Option Int} (n : Nat) (L : Lo C X H σ Γ) (r : Rep C.K X H (.tuple ds) v) (hn : ds.length = n) (e : (ds.drop (HT.sIx ds.length 0 lo)).take (HT.sIx ds.length ds.length hi - HT.sIx ds.length 0 lo) = es) (ne : ¬ (HT.sIx n 0 lo = 0 ∧ HT.sIx n n hi = n))
    (h : ∀ v H1, Lo C X H1 σ Γ → (∀ d u, Rep C.K X H d u → Rep C.K X H1 d u) → Rep C.K X H1 (.tuple es) v → Q v H1) : rSlT C.K v lo hi H Q := by
  obtain ⟨a, vs, rfl, hs, q⟩ := rep_tup r
  have e2 : vs.length = ds.length := q.length
  refine ⟨a, vs, rfl, hs, by rw [e2, hn]; exact ne, fun p hp => ?_⟩
  have s : Same H (upd H p (.tup (cutV vs lo hi))) := same_upd hp
  have q2 : Reps C.K X H es (cutV vs lo hi) := by
    rw [← e]
    unfold cutV
    rw [e2]
    exact (q.drop _).take _
  exact h _ _ (L.same s) (fun _ _ r => r.keep (.same s)) (.tup (.of upd_same) (q2.keep (.same s)))
/-- xs[::-1] -/
def KRev (K : PySem.W.Frag) (Q : VK) : VK := fun x H => ∃ a xs, x = .ref a ∧ SqL K H a xs ∧ ∀ p, H p = none → Q (.ref p) (upd H p (.lst xs.reverse))
theorem x_revL {K : PySem.W.Frag} {te : TE} (h : te σ H (KRev K Q)) : tRevL K te σ H Q := h
theorem x_revv [Py α] {xs : List α} {v : V} (L : Lo C X H σ Γ) (r : Rep C.K X H (enc xs) v) (h : ∀ v H1, Lo C X H1 σ Γ → (∀ d u, Rep C.K X H d u → Rep C.K X H1 d u) → Rep C.K X H1 (enc xs.reverse) v → Q v H1) : KRev C.K Q v H := by
  obtain ⟨a, vs, rfl, _, hs, q⟩ := rep_lst (ds := xs.map enc) r
  exact ⟨a, vs, rfl, .inl hs, x_new (ds := xs.reverse.map enc) L (by rw [List.map_reverse]; exact q.reverse) h⟩
theorem x_revN [Py α] {xs : List α} {v : V} (L : Lo C X H σ Γ) (r : Rep C.K X H (enc xs) v) (h : ∀ p X' H1, C.H0 p = none → ¬ C.X0 p → Lo C X' H1 σ (Γ ++ [.tmp p (ml xs.reverse)]) → (∀ d u, Rep C.K X H d u → Rep C.K X' H1 d u) → Q (.ref p) H1) : KRev C.K Q v H := by
  obtain ⟨a, vs, rfl, _, hs, q⟩ := rep_lst (ds := xs.map enc) r
  exact ⟨a, vs, rfl, .inl hs, x_newN (ds := xs.reverse.map enc) L (by rw [List.map_reverse]; exact q.reverse) h⟩
/-- list(xs) -/
theorem x_listL [Py α] {xs : List α} {v : V} (L : Lo C X H σ Γ) (r : Rep C.K X H (enc xs) v) (h : ∀ v H1, Lo C X H1 σ Γ → (∀ d u, Rep C.K X H d u → Rep C.K X H1 d u) → Rep C.K X H1 (enc xs) v → Q v H1) : rListX C.K [v] H Q := by
  obtain ⟨a, vs, rfl, _, hs, q⟩ := rep_lst (ds := xs.map enc) r
  exact ⟨a, vs, rfl, .inl (.inl hs), x_new L q h⟩
theorem x_listN [Py α] {xs : List α} {v : V} (L : Lo C X H σ Γ) (r : Rep C.K X H (enc xs) v) (h : ∀ p X' H1, C.H0 p = none → ¬ C.X0 p → Lo C X' H1 σ (Γ ++ [.tmp p (ml xs)]) → (∀ d u, Rep C.K X H d u → Rep C.K X' H1 d u) → Q (.ref p) H1) : rListX C.K [v] H Q := by
  obtain ⟨a, vs, rfl, _, hs, q⟩ := rep_lst (ds := xs.map enc) r
  exact ⟨a, vs, rfl, .inl (.inl hs), x_newN L q h⟩
theorem x_listM [Py α] {xs : List α} {i : Nat} {p : Addr} (L : Lo C X H σ Γ) (g : Γ[i]? = some (.mu p (ml xs))) (h : ∀ v H1, Lo C X H1 σ Γ → (∀ d u, Rep C.K X H d u → Rep C.K X H1 d u) → Rep C.K X H1 (enc xs) v → Q v H1) : rListX C.K [.ref p] H Q := by
  obtain ⟨vs, hs, q⟩ := L.mrep g
  exact ⟨p, vs, rfl, .inl (.inl (.inl hs)), x_new L q h⟩
def rCatR : R2 := fun x y H Q => ∃ l b xs zs, x = .ref l ∧ y = .ref b ∧ Rd H l (.lst xs) ∧ Rd H b (.lst zs) ∧ xs.length + zs.length ≤ sizeLine ∧ ∀ p, H p = none → Q (.ref p) (upd H p (.lst (xs ++ zs)))
theorem op_catR {Xc : Cx} : OpR Xc (binaryOp .Add) rCatR := by
  intro pins s σ H x y v u Q I rx ry h
  obtain ⟨l, b, xs, zs, rfl, rfl, hH, hB, hz, q⟩ := h
  cases rx
  cases ry
  obtain ⟨z, its, n, r, e⟩ := hH.ok I.hok
  obtain ⟨z2, its2, n2, r2, e2⟩ := hB.ok I.hok
  have hl := r.length
  have hl2 := r2.length
  refine PySem.P.add_list e e2 ?_ (by rw [List.size_toArray, List.size_toArray]; omega)
  have ea : its.toArray ++ its2.toArray = (its ++ its2).toArray := by simp
  rw [ea]
  exact ⟨.ref _, _, I.lnew (t' := s.toks) (r.append r2) (by rw [List.length_append]; omega), rfl, q _ I.fresh⟩
theorem len_ok {n : Nat} {k : Unit → Option ρ} {r : ρ} (hm : (lenOk n).bind k = some r) : n ≤ 16777216 ∧ k () = some r := by
  obtain ⟨_, e, hk⟩ := ob hm
  unfold lenOk at e
  split at e
  · exact ⟨by assumption, hk⟩
  · cases e
theorem lenOk_le {n : Nat} {u : Unit} (h : lenOk n = some u) : n ≤ 16777216 := by
  unfold lenOk at h
  split at h
  · assumption
  · cases h
theorem x_cat [Py α] {xs ys : List α} {u v : V} {k : Unit → Option ρ} {r : ρ} (L : Lo C X H σ Γ) (hm : (lenOk (xs.length + ys.length)).bind k = some r) (p : Rep C.K X H (enc xs) u) (q : Rep C.K X H (enc ys) v)
    (h : ∀ v H1, k () = some r → Lo C X H1 σ Γ → (∀ d u, Rep C.K X H d u → Rep C.K X H1 d u) → Rep C.K X H1 (enc (xs ++ ys)) v → Q v H1) : rCatR u v H Q := by
  obtain ⟨hl, hk⟩ := len_ok hm
  obtain ⟨a, vs, rfl, _, hs, q1⟩ := rep_lst (ds := xs.map enc) p
  obtain ⟨b, ws, rfl, _, ht, q2⟩ := rep_lst (ds := ys.map enc) q
  have q3 : Reps C.K X H ((xs ++ ys).map enc) (vs ++ ws) := by rw [List.map_append]; exact q1.append q2
  exact ⟨a, b, vs, ws, rfl, rfl, hs, ht, by rw [line_eq, q1.length, q2.length, List.length_map, List.length_map]; exact hl, x_new L q3 fun v H1 => h v H1 hk⟩
theorem x_catN [Py α] {xs ys : List α} {u v : V} {k : Unit → Option ρ} {r : ρ} (L : Lo C X H σ Γ) (hm : (lenOk (xs.length + ys.length)).bind k = some r) (p : Rep C.K X H (enc xs) u) (q : Rep C.K X H (enc ys) v)
    (h : ∀ p X' H1, k () = some r → C.H0 p = none → ¬ C.X0 p → Lo C X' H1 σ (Γ ++ [.tmp p (ml (xs ++ ys))]) → (∀ d u, Rep C.K X H d u → Rep C.K X' H1 d u) → Q (.ref p) H1) : rCatR u v H Q := by
  obtain ⟨hl, hk⟩ := len_ok hm
  obtain ⟨a, vs, rfl, _, hs, q1⟩ := rep_lst (ds := xs.map enc) p
  obtain ⟨b, ws, rfl, _, ht, q2⟩ := rep_lst (ds := ys.map enc) q
  have q3 : Reps C.K X H ((xs ++ ys).map enc) (vs ++ ws) := by rw [List.map_append]; exact q1.append q2
  exact ⟨a, b, vs, ws, rfl, rfl, hs, ht, by rw [line_eq, q1.length, q2.length, List.length_map, List.length_map]; exact hl, x_newN L q3 fun p X' H1 => h p X' H1 hk⟩
/-! ### methods of lists -/
theorem x_bm {T : String} {r : V → List V → Hp → VK → Prop} {to : TE} {t : TA} (h : to σ H fun x H1 => tyV C.K T x H1 ∧ t σ H1 fun xs H2 => r x xs H2 Q) : tBM C.K T r to t σ H Q := h
theorem x_bm0 {T : String} {r : V → List V → Hp → VK → Prop} {to : TE} (h : to σ H fun x H1 => tyV C.K T x H1 ∧ r x [] H1 Q) : tBM0 C.K T r to σ H Q := h
theorem x_tyM {i : Nat} {p : Addr} {ds : List PyData} {P : Prop} (L : Lo C X H σ Γ) (g : Γ[i]? = some (.mu p (.lst ds))) (h : P) : tyV C.K "list" (.ref p) H ∧ P := by
  obtain ⟨vs, hs, _⟩ := L.mrep g
  exact ⟨.inl ⟨rfl, vs, .inl (.inl hs)⟩, h⟩
/-- the list in a slot is written -/
theorem Lo.write (L : Lo C X H σ Γ) {i : Nat} {p : Addr} {ds es : List PyData} {vs ws : List V} (g : Γ[i]? = some (.mu p (.lst ds))) (hs : H p = some (.lst vs)) (q : Reps C.K X H es ws) :
    Lo C X (upd H p (.lst ws)) σ (Γ.set i (.mu p (.lst es))) ∧ (∀ d u, Rep C.K X H d u → Rep C.K X (upd H p (.lst ws)) d u) := by
  have hX : X p := L.mx p (mem_muts.mpr ⟨i, _, g, rfl⟩)
  have kp : Keep X H (upd H p (.lst ws)) := ⟨fun a u h n => by rw [upd_ne (fun z => n (by rw [z]; exact hX))]; exact h, fun a us h => by rw [upd_ne (fun z => by rw [z, hs] at h; cases h)]; exact h, fun a u w h => by rw [upd_ne (fun z => by rw [z, hs] at h; cases h)]; exact h⟩
  exact L.wrote (H' := upd H p (.lst ws)) (o := .lst es) g rfl (fun a u h n => by rw [upd_ne n]; exact h) (fun a h => by
      by_cases z : a = p
      · rw [z, upd_same]; exact fun y => nomatch y
      · rw [upd_ne z]; exact h) ⟨ws, upd_same, q.keep kp⟩
theorem x_append [Py α] {xs : List α} {x : α} {v : V} {i : Nat} {p : Addr} {k : Unit → Option ρ} {r : ρ} (L : Lo C X H σ Γ) (g : Γ[i]? = some (.mu p (ml xs))) (hm : (lenOk (xs.length + 1)).bind k = some r) (q : Rep C.K X H (enc x) v) (e : Γ.set i (.mu p (ml (xs ++ [x]))) = Γ')
    (h : ∀ H1, k () = some r → Lo C X H1 σ Γ' → (∀ d u, Rep C.K X H d u → Rep C.K X H1 d u) → Q .non H1) : rAppend (.ref p) [v] H Q := by
  subst e
  obtain ⟨hl, hk⟩ := len_ok hm
  obtain ⟨vs, hs, rs⟩ := L.mrep g
  have hlen : vs.length = xs.length := by rw [rs.length, List.length_map]
  obtain ⟨L1, le⟩ := L.write (es := (xs ++ [x]).map enc) (ws := vs ++ [v]) g hs (by rw [List.map_append]; exact rs.append (.cons q .nil))
  exact ⟨p, vs, v, rfl, rfl, hs, by rw [line_eq]; omega, h _ hk L1 le⟩
def rExtendR : V → List V → Hp → VK → Prop := fun x vs H Q => ∃ l b xs zs, x = .ref l ∧ vs = [.ref b] ∧ H l = some (.lst xs) ∧ Rd H b (.lst zs) ∧ xs.length + zs.length ≤ sizeLine ∧ Q .non (upd H l (.lst (xs ++ zs)))
theorem mt_extendR {Xc : Cx} : MtM Xc "list.extend" rExtendR := by
  intro pins s σ H x vs v us Q I rx rv h
  obtain ⟨l, b, xs, zs, rfl, rfl, hH, hB, hz, q⟩ := h
  cases rx
  obtain ⟨u, rfl, ru⟩ := rv.one
  cases ru
  obtain ⟨z, its, n, r, hl, e⟩ := I.lstM hH
  obtain ⟨z2, its2, n2, r2, e2⟩ := hB.ok I.hok
  have hl2 := r2.length
  have hsz : its.toArray.size + its2.toArray.size ≤ sizeLine := by rw [List.size_toArray, List.size_toArray]; omega
  have hlong : ¬ (!its.toArray.isEmpty && Builtin.List.listTooLong (its.toArray.size + its2.toArray.size)) = true := by
    rw [notLongL hsz, Bool.and_false]
    exact Bool.false_ne_true
  refine call_meets F.slot_list_extend ⟨_, e, rfl⟩ F.entry_list_extend (F.args_list_extend_2 _ _)
    (AutoSeq1.list_extend_list_list_0 l its.toArray n b its2.toArray n2 hlong (by rw [List.size_toArray]; omega) (by omega)) ⟨e, e2, ?_⟩
  refine ⟨.non, _, I.lset (its' := its ++ its2) hH e (by simp) (r.append r2) ?_, rfl, q⟩
  rw [List.length_append]
  omega
theorem x_extend [Py α] {xs ys : List α} {v : V} {i : Nat} {p : Addr} {k : Unit → Option ρ} {r : ρ} (L : Lo C X H σ Γ) (g : Γ[i]? = some (.mu p (ml xs))) (hm : (lenOk (xs.length + ys.length)).bind k = some r) (q : Rep C.K X H (enc ys) v) (e : Γ.set i (.mu p (ml (xs ++ ys))) = Γ')
    (h : ∀ H1, k () = some r → Lo C X H1 σ Γ' → (∀ d u, Rep C.K X H d u → Rep C.K X H1 d u) → Q .non H1) : rExtendR (.ref p) [v] H Q := by
  subst e
  obtain ⟨hl, hk⟩ := len_ok hm
  obtain ⟨vs, hs, rs⟩ := L.mrep g
  obtain ⟨b, ws, rfl, _, ht, q2⟩ := rep_lst (ds := ys.map enc) q
  obtain ⟨L1, le⟩ := L.write (es := (xs ++ ys).map enc) (ws := vs ++ ws) g hs (by rw [List.map_append]; exact rs.append q2)
  exact ⟨p, b, vs, ws, rfl, rfl, hs, ht, by rw [line_eq, rs.length, q2.length, List.length_map, List.length_map]; exact hl, h _ hk L1 le⟩
/-! ### what a call asks, and what stands behind it -/
theorem nd0 {Γa : List Sl} (e : muts Γa = []) : (muts Γa).Nodup := by rw [e]; exact List.nodup_nil
theorem nd1 {Γa : List Sl} {p : Addr} (e : muts Γa = [p]) : (muts Γa).Nodup := by rw [e]; simp
theorem Lo.cond0 (L : Lo C X H σ Γ) {Γa : List Sl} {vs : List V} (as : As C.K X H Γa vs) (e : muts Γa = []) : Cond C.K X H Γa vs := L.cond as (nd0 e) (by rw [e]; intro _ h; cases h)
theorem Lo.cond1 (L : Lo C X H σ Γ) {Γa : List Sl} {vs : List V} {i : Nat} {s : Sl} {p : Addr} (as : As C.K X H Γa vs) (e : muts Γa = [p]) (g : Γ[i]? = some s) (es : s.ad = some p) : Cond C.K X H Γa vs := L.cond as (nd1 e) (by
  rw [e]; intro q h
  rw [List.mem_singleton] at h
  subst h
  exact mem_muts.mpr ⟨i, s, g, es⟩)
theorem hp0 {K : PySem.W.Frag} : ∀ q ∈ ([] : List (Addr × MO)), MRep K X H q.1 q.2 := fun _ h => nomatch h
theorem hp1 {K : PySem.W.Frag} {p : Addr} {o : MO} (h : MRep K X H p o) : ∀ q ∈ [(p, o)], MRep K X H q.1 q.2 := fun q hq => by
  rw [List.mem_singleton] at hq
  subst hq
  exact h
theorem Lo.tmp (L : Lo C X H σ Γ) {i : Nat} {p : Addr} {o : MO} (e : Γ[i]? = some (.tmp p o)) : MRep C.K X H p o := L.at_ i _ e
/-- behind a call -/
theorem k0 {v : V} {H' : Hp} {rs : Rs} {ps : List (Addr × MO)} {G : Prop} (L : Lo C X H σ Γ) (F : Fin C.K X H [] ps rs v H') (h : Lo C X H' σ Γ → (∀ d u, Rep C.K X H d u → Rep C.K X H' d u) → G) : G := h (L.after0 F).1 (L.after0 F).2
theorem k0d {v : V} {H' : Hp} {d : PyData} {ps : List (Addr × MO)} {G : Prop} (L : Lo C X H σ Γ) (F : Fin C.K X H [] ps (.imm d) v H') (h : Lo C X H' σ Γ → (∀ d u, Rep C.K X H d u → Rep C.K X H' d u) → Rep C.K X H' d v → G) : G := h (L.after0 F).1 (L.after0 F).2 F.res
/-- .. that tells a new list, as data -/
theorem k0i {v : V} {H' : Hp} {ds : List PyData} {ps : List (Addr × MO)} {G : Prop} (L : Lo C X H σ Γ) (F : Fin C.K X H [] ps (.new (.lst ds)) v H') (h : Lo C X H' σ Γ → (∀ d u, Rep C.K X H d u → Rep C.K X H' d u) → Rep C.K X H' (.list ds) v → G) : G := h (L.after0 F).1 (L.after0 F).2 (RRep.imm F.res L.xd)
/-- .. as the body's own -/
theorem k0N {p : Addr} {H' : Hp} {o : MO} {ps : List (Addr × MO)} {P : Prop} (L : Lo C X H σ Γ) (F : Fin C.K X H [] ps (.new o) (.ref p) H') (h : ∀ X', C.H0 p = none → ¬ C.X0 p → Lo C X' H' σ (Γ ++ [.tmp p o]) → (∀ d u, Rep C.K X H d u → Rep C.K X' H' d u) → P) : P := by
  obtain ⟨p', e, a, b, X', c, d⟩ := L.after0N F
  cases e
  exact h X' a b c d
/-- .. that wrote the object of one slot -/
theorem k1 {v : V} {H' : Hp} {rs : Rs} {p : Addr} {o : MO} {s : Sl} {G : Prop} (L : Lo C X H σ Γ) (F : Fin C.K X H [p] [(p, o)] rs v H') {i : Nat} (e : Γ[i]? = some s) (es : s.ad = some p) (eΓ : Γ.set i (s.to o) = Γ') (h : Lo C X H' σ Γ' → (∀ d u, Rep C.K X H d u → Rep C.K X H' d u) → G) : G := by
  subst eΓ
  exact h (L.after1 F e es).1 (L.after1 F e es).2
theorem k1d {v : V} {H' : Hp} {d : PyData} {p : Addr} {o : MO} {s : Sl} {G : Prop} (L : Lo C X H σ Γ) (F : Fin C.K X H [p] [(p, o)] (.imm d) v H') {i : Nat} (e : Γ[i]? = some s) (es : s.ad = some p) (eΓ : Γ.set i (s.to o) = Γ') (h : Lo C X H' σ Γ' → (∀ d u, Rep C.K X H d u → Rep C.K X H' d u) → Rep C.K X H' d v → G) : G := by
  subst eΓ
  exact h (L.after1 F e es).1 (L.after1 F e es).2 F.res
theorem k1i {v : V} {H' : Hp} {ds : List PyData} {p : Addr} {o : MO} {s : Sl} {G : Prop} (L : Lo C X H σ Γ) (F : Fin C.K X H [p] [(p, o)] (.new (.lst ds)) v H') {i : Nat} (e : Γ[i]? = some s) (es : s.ad = some p) (eΓ : Γ.set i (s.to o) = Γ') (h : Lo C X H' σ Γ' → (∀ d u, Rep C.K X H d u → Rep C.K X H' d u) → Rep C.K X H' (.list ds) v → G) : G := by
  subst eΓ
  exact h (L.after1 F e es).1 (L.after1 F e es).2 (RRep.imm F.res L.xd)
/-- .. and tells a new one, the body's own -/
theorem ints_any {K : PySem.W.Frag} {X Y : Addr → Prop} : ∀ {xs : List Int} {vs : List V}, Reps K X H (xs.map enc) vs → Reps K Y H (xs.map enc) vs
  | [], _, .nil => .nil
  | _ :: _, _, .cons (.int i) t => .cons (.int i) (ints_any t)
theorem k1N {q : Addr} {H' : Hp} {o' : MO} {p : Addr} {xs : List Int} {s : Sl} {P : Prop} (L : Lo C X H σ Γ) (F : Fin C.K X H [p] [(p, ml xs)] (.new o') (.ref q) H') {i : Nat} (e : Γ[i]? = some s) (es : s.ad = some p) (eΓ : Γ.set i (s.to (ml xs)) = Γ') (h : ∀ X', C.H0 q = none → ¬ C.X0 q → Lo C X' H' σ (Γ' ++ [.tmp q o']) → (∀ d u, Rep C.K X H d u → Rep C.K X' H' d u) → P) : P := by
  subst eΓ
  have hpm : p ∈ muts Γ := mem_muts.mpr ⟨i, s, e, es⟩
  have hpx : X p := L.mx p hpm
  obtain ⟨o0, r0⟩ := L.mem hpm
  have kp : Keep X H H' := ⟨fun a u h n => F.base a u h fun z => n (by rw [List.mem_singleton] at z; exact z ▸ hpx), fun a vs h => F.base a _ h fun z => by rw [List.mem_singleton] at z; exact r0.ntup.1 _ (z ▸ h), fun a u w h => F.base a _ h fun z => by rw [List.mem_singleton] at z; exact r0.ntup.2 _ _ (z ▸ h)⟩
  have L' := (L.after1 F e es).1
  have hil : i < Γ.length := (List.getElem?_eq_some_iff.mp e).1
  obtain ⟨q', e', a, b, c, d⟩ := L.afterN F L' kp (by intro q hq; rw [List.mem_singleton] at hq; exact hq ▸ hpm) (muts_to e) fun j t hj => by
    have hs := L'.at_ j t hj
    by_cases z : j = i
    · subst z
      rw [List.getElem?_set_self hil] at hj
      cases hj
      have hp' : (s.to (ml xs)).ad = some p := by
        cases s with
        | unk => cases es
        | scr ns => cases es
        | ref a => cases es
        | imm d => cases es
        | mu p' o1 => exact es
        | tmp p' o1 => exact es
      refine .inr ⟨p, hp', fun q hq => ?_⟩
      obtain ⟨vs, h1, h2⟩ := F.mu (p, ml xs) (by simp)
      have this : MRep C.K (fun a => X a ∨ a = q) H' p (ml xs) := ⟨vs, h1, ints_any h2⟩
      cases s with
      | unk => cases es
      | scr ns => cases es
      | ref a => cases es
      | imm d => cases es
      | mu p' o1 => cases es; exact ⟨hs.1, this⟩
      | tmp p' o1 => cases es; exact this
    · rw [List.getElem?_set_ne (Ne.symm z)] at hj
      cases ea : t.ad with
      | none => exact .inl ⟨rfl, hj⟩
      | some p' =>
        refine .inr ⟨p', rfl, fun q hq => ((L.at_ j t hj).more hq).keep (kp.mono fun a h => .inl h) fun p'' e'' => ?_⟩
        rw [ea] at e''; cases e''
        obtain ⟨o', r'⟩ := (L.at_ j t hj).mrep ea
        have ne : p' ≠ p := fun y => z (ad_unique L.nd hj e (by rw [ea, y]) es)
        cases h : H p' with
        | none => exact (r'.nn h).elim
        | some u => exact F.base p' u h (by simpa using ne)
  cases e'
  exact h _ a b c d
/-- an object of the body's own is told -/
theorem Lo.finM {ps : List (Addr × MO)} {o : MO} {p : Addr} {i : Nat} (L : Lo C X H σ Γ) (hp : ∀ q ∈ ps, MRep C.K X H q.1 q.2) (e : Γ[i]? = some (.mu p o)) (hn : C.H0 p = none) : Fin C.K C.X0 C.H0 C.P0 ps (.new o) (.ref p) H :=
  L.finN hp hn (L.mx p (mem_muts.mpr ⟨i, _, e, rfl⟩)) (L.mrep e)
theorem Lo.finT {ps : List (Addr × MO)} {o : MO} {p : Addr} {i : Nat} (L : Lo C X H σ Γ) (hp : ∀ q ∈ ps, MRep C.K X H q.1 q.2) (e : Γ[i]? = some (.tmp p o)) (hn : C.H0 p = none) : Fin C.K C.X0 C.H0 C.P0 ps (.new o) (.ref p) H :=
  L.finN hp hn (L.mx p (mem_muts.mpr ⟨i, _, e, rfl⟩)) (L.tmp e)
/-! ### the ends of bodies, turns, branches -/
theorem x_fin {K : PySem.W.Frag} {H0 : Hp} {P0 : List Addr} {ps : ρ → List (Addr × MO)} {rs : ρ → Rs} {e r : ρ} {v : V} (hm : some e = some r) (kont : ∀ v H', Fin K X H0 P0 (ps r) (rs r) v H' → Q v H') (F : Fin K X H0 P0 (ps e) (rs e) v H) : Q v H := by
  cases hm; exact kont v H F
theorem x_finP {K : PySem.W.Frag} {H0 : Hp} {P0 : List Addr} {ps : ρ → List (Addr × MO)} {o : ρ → MO} {e r : ρ} {p : Addr} (hm : some e = some r) (kont : ∀ p H', Fin K X H0 P0 (ps r) (.new (o r)) (.ref p) H' → Q (.ref p) H') (F : Fin K X H0 P0 (ps e) (.new (o e)) (.ref p) H) : Q (.ref p) H := by
  cases hm; exact kont p H F
theorem x_finRP {K : PySem.W.Frag} {H0 : Hp} {P0 : List Addr} {ps : ρ → List (Addr × MO)} {o : ρ → MO} {e r : ρ} {v : V} (hm : some e = some r) (kont : ∀ p H', Fin K X H0 P0 (ps r) (.new (o r)) (.ref p) H' → Q (.ref p) H') (F : Fin K X H0 P0 (ps e) (.new (o e)) v H) : Q v H := by
  cases hm
  obtain ⟨p, rfl, _⟩ := F.res
  exact kont p H F
theorem x_finI {K : PySem.W.Frag} {H0 : Hp} {P0 : List Addr} {ps : ρ → List (Addr × MO)} {sc : ρ → Int} {r : ρ} (e : ρ) (hm : some e = some r) (kont : ∀ H', (fun x => Fin K X H0 P0 (ps r) (.imm (PyData.int x)) (V.int x) H') (sc r) → (fun x => Q (V.int x) H') (sc r)) (F : (fun x => Fin K X H0 P0 (ps e) (.imm (PyData.int x)) (V.int x) H) (sc e)) : (fun x => Q (V.int x) H) (sc e) := by
  cases hm; exact kont H F
theorem x_finRI {K : PySem.W.Frag} {H0 : Hp} {P0 : List Addr} {ps : ρ → List (Addr × MO)} {sc : ρ → Int} {e r : ρ} {v : V} (hm : some e = some r) (kont : ∀ H', (fun x => Fin K X H0 P0 (ps r) (.imm (PyData.int x)) (V.int x) H') (sc r) → (fun x => Q (V.int x) H') (sc r)) (F : Fin K X H0 P0 (ps e) (.imm ((fun x => (PyData.int x)) (sc e))) v H) : Q v H := by
  cases hm
  have q := repI (x := sc e) F.res
  subst q
  exact kont H F
theorem x_finB {K : PySem.W.Frag} {H0 : Hp} {P0 : List Addr} {ps : ρ → List (Addr × MO)} {sc : ρ → Bool} {r : ρ} (e : ρ) (hm : some e = some r) (kont : ∀ H', (fun x => Fin K X H0 P0 (ps r) (.imm (PyData.bool x)) (V.bl x) H') (sc r) → (fun x => Q (V.bl x) H') (sc r)) (F : (fun x => Fin K X H0 P0 (ps e) (.imm (PyData.bool x)) (V.bl x) H) (sc e)) : (fun x => Q (V.bl x) H) (sc e) := by
  cases hm; exact kont H F
theorem x_finRB {K : PySem.W.Frag} {H0 : Hp} {P0 : List Addr} {ps : ρ → List (Addr × MO)} {sc : ρ → Bool} {e r : ρ} {v : V} (hm : some e = some r) (kont : ∀ H', (fun x => Fin K X H0 P0 (ps r) (.imm (PyData.bool x)) (V.bl x) H') (sc r) → (fun x => Q (V.bl x) H') (sc r)) (F : Fin K X H0 P0 (ps e) (.imm ((fun x => (PyData.bool x)) (sc e))) v H) : Q v H := by
  cases hm
  have q := repB (x := sc e) F.res
  subst q
  exact kont H F
theorem x_finS {K : PySem.W.Frag} {H0 : Hp} {P0 : List Addr} {ps : ρ → List (Addr × MO)} {sc : ρ → Str} {r : ρ} (e : ρ) (hm : some e = some r) (kont : ∀ H', (fun x => Fin K X H0 P0 (ps r) (.imm (PyData.str x)) (V.str x) H') (sc r) → (fun x => Q (V.str x) H') (sc r)) (F : (fun x => Fin K X H0 P0 (ps e) (.imm (PyData.str x)) (V.str x) H) (sc e)) : (fun x => Q (V.str x) H) (sc e) := by
  cases hm; exact kont H F
theorem x_finRS {K : PySem.W.Frag} {H0 : Hp} {P0 : List Addr} {ps : ρ → List (Addr × MO)} {sc : ρ → Str} {e r : ρ} {v : V} (hm : some e = some r) (kont : ∀ H', (fun x => Fin K X H0 P0 (ps r) (.imm (PyData.str x)) (V.str x) H') (sc r) → (fun x => Q (V.str x) H') (sc r)) (F : Fin K X H0 P0 (ps e) (.imm ((fun x => (PyData.str x)) (sc e))) v H) : Q v H := by
  cases hm
  have q := repS (x := sc e) F.res
  subst q
  exact kont H F
theorem x_finN {K : PySem.W.Frag} {H0 : Hp} {P0 : List Addr} {ps : ρ → List (Addr × MO)} {sc : ρ → Unit} {r : ρ} (e : ρ) (hm : some e = some r) (kont : ∀ H', (fun x => Fin K X H0 P0 (ps r) (.imm PyData.none) V.non H') (sc r) → (fun x => Q V.non H') (sc r)) (F : (fun x => Fin K X H0 P0 (ps e) (.imm PyData.none) V.non H) (sc e)) : (fun x => Q V.non H) (sc e) := by
  cases hm; exact kont H F
theorem x_finRN {K : PySem.W.Frag} {H0 : Hp} {P0 : List Addr} {ps : ρ → List (Addr × MO)} {sc : ρ → Unit} {e r : ρ} {v : V} (hm : some e = some r) (kont : ∀ H', (fun x => Fin K X H0 P0 (ps r) (.imm PyData.none) V.non H') (sc r) → (fun x => Q V.non H') (sc r)) (F : Fin K X H0 P0 (ps e) (.imm ((fun x => PyData.none) (sc e))) v H) : Q v H := by
  cases hm
  have q := repN (x := sc e) F.res
  subst q
  exact kont H F
theorem x_leaf {τ : Type} {C' : Cn} {G : τ → List Sl} {e s : τ} {N : L2.St → Hp → Prop} (hm : some e = some s) (hN : ∀ X' σ' H', Lo C' X' H' σ' (G s) → N σ' H') (L : Lo C' X H σ (G e)) : N σ H := by
  cases hm; exact hN _ _ _ L
theorem x_leafN {τ : Type} {C' : Cn} {G : τ → List Sl} {e : τ} {o : Lp τ ρ} {N : L2.St → Hp → Prop} (hm : some (.nxt e) = some o) (hN : ∀ s, o = .nxt s → ∀ X' σ' H', Lo C' X' H' σ' (G s) → N σ' H') (L : Lo C' X H σ (G e)) : N σ H :=
  hN e (Option.some.inj hm).symm _ _ _ L
theorem x_leafB {τ : Type} {C' : Cn} {G : τ → List Sl} {e : τ} {o : Lp τ ρ} {N : L2.St → Hp → Prop} (hm : some (.brk e) = some o) (hN : ∀ s, o = .brk s → ∀ X' σ' H', Lo C' X' H' σ' (G s) → N σ' H') (L : Lo C' X H σ (G e)) : N σ H :=
  hN e (Option.some.inj hm).symm _ _ _ L
theorem x_leafR {τ : Type} {K : PySem.W.Frag} {H0 : Hp} {P0 : List Addr} {ps : ρ → List (Addr × MO)} {rs : ρ → Rs} {e : ρ} {o : Lp τ ρ} {v : V} {N : VK} (hm : some (.ret e) = some o) (hR : ∀ r, o = .ret r → ∀ v H', Fin K X H0 P0 (ps r) (rs r) v H' → N v H') (F : Fin K X H0 P0 (ps e) (rs e) v H) : N v H :=
  hR e (Option.some.inj hm).symm _ _ F
/-- branches that come together again -/
theorem x_join {τ : Type} {c : Bool} {mA mB : Option τ} {k : τ → Option ρ} {r : ρ} {G : τ → List Sl} {t u : TS} {nx bk ct : L2.St → Hp → Prop} {rt : VK} (L : Lo C X H σ Γ) (hm : (if c = true then mA else mB).bind k = some r)
    (hA : ∀ b, mA = some b → ∀ N : L2.St → Hp → Prop, (∀ X' σ' H', Lo C X' H' σ' (G b) → N σ' H') → t ⟨N, rt, bk, ct⟩ σ H)
    (hB : ∀ b, mB = some b → ∀ N : L2.St → Hp → Prop, (∀ X' σ' H', Lo C X' H' σ' (G b) → N σ' H') → u ⟨N, rt, bk, ct⟩ σ H)
    (h : ∀ b X' σ' H', k b = some r → Lo C X' H' σ' (G b) → nx σ' H') : KIf t u ⟨nx, rt, bk, ct⟩ σ c H := by
  cases c with
  | true =>
    obtain ⟨b, e, hk⟩ := ob hm
    exact hA b e nx fun X' σ' H' L => h b X' σ' H' hk L
  | false =>
    obtain ⟨b, e, hk⟩ := ob hm
    exact hB b e nx fun X' σ' H' L => h b X' σ' H' hk L
/-- a value is given a name of its own -/
theorem x_bset {d : α → PyData} {x0 : α} {i : Nat} {v : V} {k : α → Option ρ} {r : ρ} {N : L2.St → Hp → Prop} {Γf : α → List Sl} (hm : (some x0).bind k = some r) (L : Lo C X H σ Γ) (q : Rep C.K X H (d x0) v) (hi : i < C.n) (e : ∀ x, Γ.set i (.imm (d x)) = Γf x) (h : ∀ x σ', k x = some r → Lo C X H σ' (Γf x) → N σ' H) : gName i v σ H N :=
  h x0 _ hm (by rw [← e]; exact L.set q hi)
end
open Py (enc)
/-! ### defs that raise -/
theorem fn_or {P : Program} {w : World} {K : PySem.W.Frag} {mg : Str → Option Value} {base : Heap} {k : Nat} {f : Addr} {fd : FuncData} {ps : List Str} {sp1 sp2 : Sp} (F1 : FnOk P w K mg base (L2.CX P w) k f fd ps sp1) (F2 : FnOk P w K mg base CX0 k f fd ps sp2) :
    FnOk P w K mg base (L2.CX P w) k f fd ps (fun vs H Q E => sp1 vs H Q E ∨ sp2 vs H Q E) := by
  refine ⟨fun vs H Q E h => h.elim (F1.len vs H Q E) (F2.len vs H Q E), fun A outer s H args us vs Q E hr he hb hv hs => ?_⟩
  rcases hs with h | h
  · exact F1.run A outer s H args us vs Q E hr he hb hv h
  · refine codeAny_mono (F2.run A outer s H args us vs Q E hr he hb hv h) fun r s' q => ?_
    cases r with
    | ok r => cases r <;> first | exact q | exact (show False from q).elim
    | error e => exact (show False from q).elim
theorem Lo.same0 {C : Cn} {X : Addr → Prop} {H : Hp} {σ : L2.St} {Γ : List Sl} (L : Lo C X H σ Γ) (e : C.P0 = []) : Same C.H0 H := fun a o h => L.base a o h (by rw [e]; exact fun z => nomatch z)
section
variable {C : Cn} {X : Addr → Prop} {H : Hp} {σ : L2.St} {Γ Γ' : List Sl} {Q : VK} {α β ρ : Type}
theorem x_callS {sp : Sp} {E : L2.St → XK} {t : TA} (h : t σ H fun vs H1 => sp vs H1 Q (E σ)) : tCallS sp E t σ H Q := h
theorem x_either {S1 S2 : Prop} {A B : Option ρ} {m : Option Unit} {r : ρ} (hm : (if m.isSome = true then A else B) = some r) (h1 : m = some () → A = some r → S1) (h2 : B = some r → S2) : S1 ∨ S2 := by
  cases m with
  | some u => exact .inl (h1 rfl hm)
  | none => exact .inr (h2 hm)
theorem x_catch {K : PySem.W.Frag} {c : Value} {D : Addr} {i : Nat} {ts : Addr → Value → Option Addr → TS} {Wout : WX} {nx bk ct : L2.St → Hp → Prop} {rt : VK} (he : PySem.W.exmOne K (.ref D) c = some true)
    (h : ∀ a, H a = none → ts a (.ref D) none ⟨fun σ' H' => nx (σ'.set i none) H', rt, fun σ' H' => bk (σ'.set i none) H', fun σ' H' => ct (σ'.set i none) H'⟩ (σ.set i (some (.ref a))) H) : wAs K c i ts Wout ⟨nx, rt, bk, ct⟩ (.ref D) none σ H :=
  ⟨true, he, fun _ => h, fun z => nomatch z⟩
theorem x_catch0 {K : PySem.W.Frag} {c : Value} {D : Addr} {ts : Addr → Value → Option Addr → TS} {Wout : WX} {Ds : Ends} (he : PySem.W.exmOne K (.ref D) c = some true)
    (h : ∀ a, H a = none → ts a (.ref D) none Ds σ H) : wOnly K c ts Wout Ds (.ref D) none σ H :=
  ⟨true, he, fun _ => h, fun z => nomatch z⟩
theorem x_vr {i : Nat} {a : Addr} (L : Lo C X H σ Γ) (e : Γ[i]? = some (.ref a)) (h : Q (.ref a) H) : tVar i σ H Q := ⟨_, L.at_ i _ e, h⟩
/-- isinstance of the error that is handled -/
def rIsG (K : PySem.W.Frag) (cls : Value) (d : Option Addr) (a : Addr) : List V → Hp → VK → Prop := fun xs H Q => ∃ (D : Addr) (c : V) (cv : Value) (b : Bool), cls = .ref D ∧ d = none ∧ ExcC K D ∧ xs = [.ref a, c] ∧ (∀ u, RelV c u → u = cv) ∧ PySem.W.kitOne K (.ref D) cv = some b ∧ Q (.bl b) H
theorem call_isG {Xc : Cx} {a : Addr} {oe : Obj} {pn : List (Addr × Obj)} {cls : Value} {d : Option Addr} (hz : Zc cls d oe) (hf : ∃ vs, oe.data = .fields vs) : CallR (Xc.suite a ((a, oe) :: pn)) (.builtin "isinstance") (rIsG Xc.K cls d a) := by
  intro pins s σ H xs us Q I r h
  obtain ⟨D, c, cv, b, rfl, rfl, E, rfl, hc, k, q⟩ := h
  exact call_isE E hz hf pins s σ H _ us Q I r ⟨c, cv, b, rfl, hc, k, q⟩
def rIsGT (K : PySem.W.Frag) (cls : Value) (d : Option Addr) (a : Addr) : List V → Hp → VK → Prop := fun xs H Q => ∃ (D tp : Addr) (cs : List V) (ws : List Value) (b : Bool), cls = .ref D ∧ d = none ∧ ExcC K D ∧ xs = [.ref a, .ref tp] ∧ H tp = some (.tup cs) ∧ Paired ClsV cs ws ∧ PySem.W.kitAny K (.ref D) ws = some b ∧ Q (.bl b) H
theorem call_isGT {Xc : Cx} {a : Addr} {oe : Obj} {pn : List (Addr × Obj)} {cls : Value} {d : Option Addr} (hz : Zc cls d oe) (hf : ∃ vs, oe.data = .fields vs) : CallR (Xc.suite a ((a, oe) :: pn)) (.builtin "isinstance") (rIsGT Xc.K cls d a) := by
  intro pins s σ H xs us Q I r h
  obtain ⟨D, tp, cs, ws, b, rfl, rfl, Ex, rfl, hT, k, e, q⟩ := h
  cases r with
  | cons rx rr =>
    cases rr with
    | cons rt rr =>
      cases rr
      cases rx
      rename_i u2
      cases (show u2 = Value.ref tp from rt)
      obtain ⟨hget, _⟩ := I.pin (a, oe) (List.mem_append.mpr (.inl List.mem_cons_self))
      obtain ⟨vs, hv⟩ := hf
      have J : PySem.W.InstAt s.heap a oe D none := by
        obtain ⟨oc, od, oda, osl⟩ := oe
        obtain ⟨h1, h2⟩ := hz
        dsimp only at h1 h2 hv
        subst h1 h2 hv
        exact ⟨hget, rfl, rfl, trivial⟩
      obtain ⟨_, its, rv, o, h1, h2, n, h3⟩ := (show ObjOk _ _ H s.heap tp (.tup cs) from I.hok tp _ hT)
      have e3 := ClsV.all k rv
      subst e3
      obtain ⟨oc, od, dt, sl⟩ := o
      simp only at h2 h3
      subst h2 h3
      exact PySem.W.kia_tup (PySem.W.handS_kitx_exc Ex.hg Ex.hk Ex.hs Ex.hd Ex.ha Ex.hn Ex.ht Ex.hm) I.kIn J h1 e (fun z => nomatch z) fun tk => ⟨.bl b, H, I.kept (t' := tk) fun _ _ z => z, rfl, q⟩
theorem x_isG {K : PySem.W.Frag} {D a C2 : Addr} {b : Bool} (E : ExcC K D) (k : PySem.W.kitOne K (.ref D) (.ref C2) = some b) (h : Q (.bl b) H) : rIsG K (.ref D) none a [.ref a, .ref C2] H Q :=
  ⟨D, _, _, b, rfl, rfl, E, rfl, fun _ r => r, k, h⟩
theorem x_isGB {K : PySem.W.Frag} {D a : Addr} {T : String} {b : Bool} (E : ExcC K D) (k : PySem.W.kitOne K (.ref D) (.type T) = some b) (h : Q (.bl b) H) : rIsG K (.ref D) none a [.ref a, .ty T] H Q :=
  ⟨D, _, _, b, rfl, rfl, E, rfl, fun _ r => r, k, h⟩
theorem x_isGT {K : PySem.W.Frag} {D a tp : Addr} {cs : List V} {ws : List Value} {b : Bool} (E : ExcC K D) (hT : H tp = some (.tup cs)) (p : Paired ClsV cs ws) (k : PySem.W.kitAny K (.ref D) ws = some b) (h : Q (.bl b) H) : rIsGT K (.ref D) none a [.ref a, .ref tp] H Q :=
  ⟨D, tp, cs, ws, b, rfl, rfl, E, rfl, hT, p, k, h⟩
theorem kit_self {K : PySem.W.Frag} {D : Addr} : PySem.W.kitOne K (.ref D) (.ref D) = some true := by
  unfold PySem.W.kitOne
  rw [if_pos (beq_iff_eq.mpr rfl)]
theorem kit_ref {K : PySem.W.Frag} {D E : Addr} {b : Bool} (hne : (Value.ref D == Value.ref E) = false) (hd : PySem.W.hasDictIn K E = true) (ht : PySem.W.typeIn K (.ref E) = some (.type "type")) (hs : PySem.W.subIn K (.ref D) (.ref E) = some b) : PySem.W.kitOne K (.ref D) (.ref E) = some b := by
  obtain ⟨cd, hc, _⟩ := PySem.W.any_some hd
  have e2 : ((PySem.W.clsIn K E).isSome && PySem.W.typeIn K (.ref E) == some (.type "type")) = true := by rw [hc, ht] <;> rfl
  unfold PySem.W.kitOne
  rw [if_neg (by rw [hne]; exact Bool.false_ne_true)]
  show (if ((PySem.W.clsIn K E).isSome && PySem.W.typeIn K (.ref E) == some (.type "type")) = true then PySem.W.subIn K (.ref D) (.ref E) else none) = some b
  rw [if_pos e2]; exact hs
theorem kit_typ {K : PySem.W.Frag} {D : Addr} {T : String} {b : Bool} (hk : PySem.W.kitMeta T = true) (hs : PySem.W.subIn K (.ref D) (.type T) = some b) : PySem.W.kitOne K (.ref D) (.type T) = some b := by
  unfold PySem.W.kitOne
  rw [if_neg (by intro z; cases (beq_iff_eq.mp z))]
  show (if PySem.W.kitMeta T = true then PySem.W.subIn K (.ref D) (.type T) else none) = some b
  rw [if_pos hk]; exact hs
/-- a tuple of classes -/
theorem x_mkC {vs : List V} (L : Lo C X H σ Γ) (hl : vs.length ≤ 16777216) (h : ∀ p H1, Lo C X H1 σ Γ → H1 p = some (.tup vs) → Q (.ref p) H1) : KTup Q vs H := by
  refine ⟨by rw [line_eq]; exact hl, fun p hp => ?_⟩
  exact h p _ (L.same (same_upd hp)) upd_same
end
open Py (enc)
/-! ### tuples of ints: sets, order -/
class IT (α : Type) [Py α] where
  nums : α → List Int
  enc_eq : ∀ x, enc x = .tuple ((nums x).map .int)
  inj : ∀ x y, nums x = nums y → x = y
instance : IT (T2 Int Int) := ⟨fun x => [x.a, x.b], fun _ => rfl, fun x y h => by cases x; cases y; simp_all⟩
instance : IT (T3 Int Int Int) := ⟨fun x => [x.a, x.b, x.c], fun _ => rfl, fun x y h => by cases x; cases y; simp_all⟩
section
variable {K : PySem.W.Frag} {X : Addr → Prop} {H : Hp} {α : Type}
theorem rep_it [Py α] [IT α] {x : α} {v : V} (r : Rep K X H (enc x) v) : ∃ a, v = .ref a ∧ SqT K H a ((IT.nums x).map V.int) := by
  rw [IT.enc_eq] at r
  obtain ⟨a, vs, rfl, hs, q⟩ := rep_tup r
  rw [Reps.toInts q] at hs
  exact ⟨a, rfl, hs⟩
theorem reps_it [Py α] [IT α] : ∀ {xs : List α} {vs : List V}, Reps K X H (xs.map enc) vs → ∃ ks : List (Addr × List Int), vs = ks.map (fun p => V.ref p.1) ∧ ks.map (·.2) = xs.map IT.nums ∧ ∀ p ∈ ks, SqT K H p.1 (p.2.map V.int)
  | [], _, .nil => ⟨[], rfl, rfl, fun _ h => nomatch h⟩
  | x :: xs, _, .cons r t => by
    obtain ⟨a, rfl, hs⟩ := rep_it r
    obtain ⟨ks, rfl, h2, h3⟩ := reps_it t
    refine ⟨(a, IT.nums x) :: ks, rfl, by rw [List.map_cons, List.map_cons, h2], fun p hp => ?_⟩
    rcases List.mem_cons.mp hp with e | hp
    · subst e; exact hs
    · exact h3 p hp
end
/-- the distinct ones -/
def dset {α : Type} [DecidableEq α] : List α → List α
  | [] => []
  | x :: xs => if x ∈ dset xs then dset xs else x :: dset xs
theorem mem_dset {α : Type} [DecidableEq α] {x : α} : ∀ {xs : List α}, x ∈ dset xs ↔ x ∈ xs
  | [] => Iff.rfl
  | y :: xs => by
    unfold dset
    by_cases h : y ∈ dset xs
    · rw [if_pos h, List.mem_cons, mem_dset]
      exact ⟨.inr, fun z => z.elim (fun e => e ▸ mem_dset.mp h) id⟩
    · rw [if_neg h, List.mem_cons, List.mem_cons, mem_dset]
theorem nodup_dset {α : Type} [DecidableEq α] : ∀ {xs : List α}, (dset xs).Nodup
  | [] => List.nodup_nil
  | y :: xs => by
    unfold dset
    by_cases h : y ∈ dset xs
    · rw [if_pos h]; exact nodup_dset
    · rw [if_neg h]; exact List.nodup_cons.mpr ⟨h, nodup_dset⟩
theorem nodup_le {α : Type} [DecidableEq α] : ∀ {l m : List α}, l.Nodup → (∀ x ∈ l, x ∈ m) → l.length ≤ m.length
  | [], _, _, _ => Nat.zero_le _
  | x :: l, m, h, s => by
    obtain ⟨h1, h2⟩ := List.nodup_cons.mp h
    have hx := s x List.mem_cons_self
    have := nodup_le (l := l) (m := m.erase x) h2 fun y hy => (List.mem_erase_of_ne (fun e => by subst e; exact h1 hy)).mpr (s y (List.mem_cons_of_mem _ hy))
    rw [List.length_erase_of_mem hx] at this
    have hp := List.length_pos_of_mem hx
    rw [List.length_cons]; omega
theorem dset_map {α β : Type} [DecidableEq α] [DecidableEq β] {f : α → β} (hf : ∀ x y, f x = f y → x = y) : ∀ {xs : List α}, (dset (xs.map f)).length = (dset xs).length
  | [] => rfl
  | y :: xs => by
    rw [List.map_cons]
    unfold dset
    have e : f y ∈ dset (xs.map f) ↔ y ∈ dset xs := by
      rw [mem_dset, mem_dset, List.mem_map]
      exact ⟨fun ⟨z, h1, h2⟩ => hf _ _ h2 ▸ h1, fun h => ⟨y, h, rfl⟩⟩
    by_cases h : y ∈ dset xs
    · rw [if_pos h, if_pos (e.mpr h), dset_map hf]
    · rw [if_neg h, if_neg (fun z => h (e.mp z)), List.length_cons, List.length_cons, dset_map hf]
section
variable {X : Cx}
def tLenSetT (K : PySem.W.Frag) (ta : TE) : TE := fun σ H Q => ta σ H fun x H1 => ∃ (l : Addr) (ks : List (Addr × List Int)), x = V.ref l ∧ SqL K H1 l (ks.map fun p => V.ref p.1) ∧ (∀ p ∈ ks, SqT K H1 p.1 (p.2.map V.int)) ∧ ks.length < 64 ∧ Q (.int (dset (ks.map (·.2))).length) H1
theorem pe_lenSetT {a : Expr} {ta : TE} {p p2 q pos : Pos} (hc : X.calm = true) (hu : X.A.units + 64 < cLine) (hg : Gl X "len") (hm : X.mg "len" = none) (hg2 : Gl X "set") (hm2 : X.mg "set" = none) (ha : PE X a ta)
    (na : starEach [a] X.env = (false, eval a X.env) :: starEach [] X.env := by rfl) : PE X (.Call (.Name "len" p) [.Call (.Name "set" p2) [a] [] q] [] pos) (tLenSetT X.K ta) := by
  refine ⟨fun pins s σ H Q I h => ?_⟩
  refine Call_ (ld_blt I hg hm PySem.boot_len ?_)
  refine PyProof.Rows.callWith_builtin1 (PyProof.Rows.args_cons ?_ rfl) rfl rfl
  refine Call_ (ld_blt I hg2 hm2 PyProof.Rows.boot_set ?_)
  refine PyProof.Rows.callWith_type1 (PyProof.Rows.args_cons (thn (ha.run pins s σ H _ I h) fun v s1 ⟨x, H1, I1, r1, q1⟩ => PyProof.Rows.args_nil ?_) na) na rfl
  obtain ⟨l, ks, rfl, hq, hk, hf, q1⟩ := q1
  cases r1
  obtain ⟨its, rv, pl, hz⟩ := I1.list hq
  refine call_set_tups (P := X.prog) (w := X.w) ks (I1.ok.hd hc) pl.isList (by simpa using refs_of_vals rv) (fun p hp => I1.isT (hk p hp)) hf (by omega) fun h' tk L es ep t R g k => ?_
  refine PyProof.Rows.args_nil ?_
  obtain ⟨o, ho, hex, hd⟩ := R.ob
  have e1 : es.size = L.length := by
    have := congrArg List.length R.rows
    rw [Array.length_toList] at this
    rw [this]
    unfold rowsOf
    first | rw [List.length_map] | simp
  have hn : L.length = (dset (ks.map (·.2))).length := by
    refine Nat.le_antisymm ?_ ?_
    · have := nodup_le (m := dset (ks.map (·.2))) R.nd fun x hx => by
        obtain ⟨p, hp, e⟩ := List.mem_map.mp hx
        subst e
        exact mem_dset.mpr (List.mem_map.mpr ⟨p, List.mem_of_mem_take (g.sub p hp), rfl⟩)
      rwa [List.length_map] at this
    · have := nodup_le (m := L.map (·.2)) (nodup_dset (xs := ks.map (·.2))) fun x hx => by
        obtain ⟨p, hp, e⟩ := List.mem_map.mp (mem_dset.mp hx)
        subst e
        exact g.all p (by rw [List.take_length]; exact hp)
      rwa [List.length_map] at this
  have I2 : Inv X pins σ H1 { s1 with heap := h', toks := tk } := I1.kept fun b o e => k b o e
  have hf := R.few
  refine call_len_set ho hex hd (SetTR.fits (s := { s1 with heap := h', toks := tk }) R) (by rw [e1] <;> omega) ⟨.int (dset (ks.map (·.2))).length, H1, I2.tok _, ⟨_, by rw [e1, hn]⟩, q1⟩
end
def fewOk (n : Nat) : Option Unit := if n < 64 then some () else none
section
variable {C : Cn} {X : Addr → Prop} {H : Hp} {σ : L2.St} {Γ Γ' : List Sl} {Q : VK} {α β ρ : Type}
def KSet (K : PySem.W.Frag) (Q : VK) : VK := fun x H1 => ∃ (l : Addr) (ks : List (Addr × List Int)), x = V.ref l ∧ SqL K H1 l (ks.map fun p => V.ref p.1) ∧ (∀ p ∈ ks, SqT K H1 p.1 (p.2.map V.int)) ∧ ks.length < 64 ∧ Q (.int (dset (ks.map (·.2))).length) H1
theorem x_lenSet {K : PySem.W.Frag} {ta : TE} (h : ta σ H (KSet K Q)) : tLenSetT K ta σ H Q := h
theorem x_kset [Py α] [IT α] [DecidableEq α] {xs : List α} {v : V} {k : Unit → Option ρ} {r : ρ} (hm : (fewOk xs.length).bind k = some r) (q : Rep C.K X H (enc xs) v) (h : k () = some r → Q (.int (dset xs).length) H) : KSet C.K Q v H := by
  obtain ⟨_, e, hk⟩ := ob hm
  have h64 : xs.length < 64 := by
    unfold fewOk at e
    split at e
    · assumption
    · cases e
  obtain ⟨a, vs, rfl, _, hs, q⟩ := rep_lst (ds := xs.map enc) q
  obtain ⟨ks, rfl, h2, h3⟩ := reps_it q
  have hl : ks.length = xs.length := by
    have := congrArg List.length h2
    rwa [List.length_map, List.length_map] at this
  refine ⟨a, ks, rfl, .inl hs, h3, by rw [hl]; exact h64, ?_⟩
  rw [h2, dset_map IT.inj]
  exact h hk
/-! order of pairs -/
def ltP (p q : T2 Int Int) : Bool := decide (p.a < q.a) || (decide (p.a = q.a) && decide (p.b < q.b))
def leP (p q : T2 Int Int) : Bool := decide (p.a < q.a) || (decide (p.a = q.a) && decide (p.b ≤ q.b))
def maxP (p q : T2 Int Int) : T2 Int Int := if ltP p q = true then q else p
def minP (p q : T2 Int Int) : T2 Int Int := if ltP q p = true then q else p
theorem lexAt_le {a b c d : Int} : Ob.lexAt (fun j => decide ([a, b].getD j 0 = [c, d].getD j 0)) (fun j => decide ([a, b].getD j 0 ≤ [c, d].getD j 0)) (decide (([a, b] : List Int).length ≤ ([c, d] : List Int).length)) 0 (min ([a, b] : List Int).length ([c, d] : List Int).length) = leP ⟨a, b⟩ ⟨c, d⟩ := by
  show Ob.lexAt _ _ _ 0 2 = _
  rw [Ob.lexAt_succ, Ob.lexAt_succ, Ob.lexAt_zero]
  unfold leP
  simp only [List.getD_eq_getElem?_getD, List.getElem?_cons_zero, List.getElem?_cons_succ, Option.getD_some, decide_eq_true_eq, List.length_cons, List.length_nil]
  rcases Int.lt_trichotomy a c with z | z | z
  · have z1 : ¬ a = c := by omega
    have z2 : a ≤ c := by omega
    simp [z, z1, z2]
  · subst z
    by_cases y : b = d
    · subst y; simp
    · simp [y]
  · have z1 : ¬ a = c := by omega
    have z2 : ¬ a ≤ c := by omega
    have z3 : ¬ a < c := by omega
    simp [z1, z2, z3]
def rLeP (K : PySem.W.Frag) : R2 := rLeT K
theorem op_leP {Xc : Cx} (hu : Xc.A.units < cLine) : OpR Xc (compareOp .LtE) (rLeP Xc.K) := op_leT hu
theorem x_leP {p q : T2 Int Int} {u v : V} (r : Rep C.K X H (enc p) u) (s : Rep C.K X H (enc q) v) (h : Q (.bl (leP p q)) H) : rLeP C.K u v H Q := by
  obtain ⟨a, rfl, ha⟩ := rep_it r
  obtain ⟨b, rfl, hb⟩ := rep_it s
  refine ⟨a, b, [p.a, p.b], [q.a, q.b], rfl, rfl, ha, hb, ?_⟩
  rw [lexAt_le]
  exact h
end
/-! max, min of two pairs -/
section
variable {prog : Program} {w : World} {A : Around} {E : Value → Shared → Prop} {s : Shared}
open PySem.W in
theorem call_max_twoH {a b : Value} {Q : Value → Shared → Prop} (hh : A.handled = none) (bt : Nat → Nat → Bool)
    (hc : CmpIn prog w A.in1 .Gt s.heap (fun i v => #[a, b][i]? = some v) bt)
    (h : ∀ h' tk, (∀ c o, s.heap.get? c = some o → h'.get? c = some o) → Q (if bt 1 0 = true then b else a) { s with heap := h', toks := tk }) :
    wpAny (model prog w) A (call (.builtin "max") [a, b]) Q E s := by
  have hname : (toString "max" ++ toString ".loop" : String) = "max.loop" := by decide
  refine call_function_tree F.kind_max F.plain_max F.entry_max (F.args_max2 _ _) ?_
  show wpAny _ A.in1 (Builtin.Builtins.bindParams "max" ["key", "default"] 0 ⟨[], []⟩ >>= _) _ _ s
  refine wpAny_bind (wpAny_of_eq (show Builtin.Builtins.bindParams "max" ["key", "default"] 0 ⟨[], []⟩ = pure [none, none] from rfl) ?_)
  show wpAny _ A.in1 (newTuple [a, b] >>= _) _ _ s
  refine wpAny_bind (wpAny_newObj_type ?_)
  have hT : (s.heap.push { cls := .type "tuple", data := .seq #[a, b] }).IsTuple s.heap.objs.size #[a, b] := ⟨_, Heap.get?_push_size _ rfl, rfl, 0, rfl⟩
  refine wpAny_bind (iter_tupleW (s := { s with heap := s.heap.push { cls := .type "tuple", data := .seq #[a, b] } }) (by exact hh) hT fun s₂ e W st hfp hwr hold => ?_)
  refine wpAny_bind (wpAny_newObj_type ?_)
  have hSf : s₂.heap.objs.size ∉ _ := fun hm => Nat.lt_irrefl _ (hfp _ hm)
  rw [hname]
  have k0 : ∀ c o, s.heap.get? c = some o → s₂.heap.get? c = some o := fun c o e => hold c o (Heap.get?_push_of_some _ e)
  refine wpAny_pure ⟨plainId_quiet F.plain_max_loop _, codeAny_max_loop_firstH W s.heap (fun c o e => hwr c o (Heap.get?_push_of_some _ e)) bt hc s₂.heap.objs.size hSf (fresh_in k0) [] (show 0 < 2 by decide) (fun c o e => Heap.get?_push_of_some _ (k0 c o e)) (W.frame _ _ _ _ st (Nat.le_refl _) fun c _ o e => Heap.get?_push_of_some _ e) (Heap.get?_push_size _ rfl) fun v s' hP hm => ?_⟩
  have m := Moved.drop_new (tk := s₂.toks) hm (Nat.le_refl _)
  obtain ⟨h', tk, e', hk'⟩ := moved_old e rfl m
  subst e'
  have hv : v = if bt 1 0 = true then b else a := by
    have hP' : #[a, b][argBest bt 1]? = some v := hP
    have e1 : argBest bt 1 = if bt 1 0 = true then 1 else 0 := rfl
    rw [e1] at hP'
    by_cases z : bt 1 0 = true
    · rw [if_pos z] at hP' ⊢; simpa using hP'.symm
    · rw [if_neg z] at hP' ⊢; simpa using hP'.symm
  rw [hv]
  exact h h' tk fun c o e => hk' c o (Heap.get?_push_of_some _ e)
open PySem.W in
theorem call_min_twoH {a b : Value} {Q : Value → Shared → Prop} (hh : A.handled = none) (bt : Nat → Nat → Bool)
    (hc : CmpIn prog w A.in1 .Lt s.heap (fun i v => #[a, b][i]? = some v) bt)
    (h : ∀ h' tk, (∀ c o, s.heap.get? c = some o → h'.get? c = some o) → Q (if bt 1 0 = true then b else a) { s with heap := h', toks := tk }) :
    wpAny (model prog w) A (call (.builtin "min") [a, b]) Q E s := by
  have hname : (toString "min" ++ toString ".loop" : String) = "min.loop" := by decide
  refine call_function_tree F.kind_min F.plain_min F.entry_min (F.args_min2 _ _) ?_
  show wpAny _ A.in1 (Builtin.Builtins.bindParams "min" ["key", "default"] 0 ⟨[], []⟩ >>= _) _ _ s
  refine wpAny_bind (wpAny_of_eq (show Builtin.Builtins.bindParams "min" ["key", "default"] 0 ⟨[], []⟩ = pure [none, none] from rfl) ?_)
  show wpAny _ A.in1 (newTuple [a, b] >>= _) _ _ s
  refine wpAny_bind (wpAny_newObj_type ?_)
  have hT : (s.heap.push { cls := .type "tuple", data := .seq #[a, b] }).IsTuple s.heap.objs.size #[a, b] := ⟨_, Heap.get?_push_size _ rfl, rfl, 0, rfl⟩
  refine wpAny_bind (iter_tupleW (s := { s with heap := s.heap.push { cls := .type "tuple", data := .seq #[a, b] } }) (by exact hh) hT fun s₂ e W st hfp hwr hold => ?_)
  refine wpAny_bind (wpAny_newObj_type ?_)
  have hSf : s₂.heap.objs.size ∉ _ := fun hm => Nat.lt_irrefl _ (hfp _ hm)
  rw [hname]
  have k0 : ∀ c o, s.heap.get? c = some o → s₂.heap.get? c = some o := fun c o e => hold c o (Heap.get?_push_of_some _ e)
  refine wpAny_pure ⟨plainId_quiet F.plain_min_loop _, codeAny_min_loop_firstH W s.heap (fun c o e => hwr c o (Heap.get?_push_of_some _ e)) bt hc s₂.heap.objs.size hSf (fresh_in k0) [] (show 0 < 2 by decide) (fun c o e => Heap.get?_push_of_some _ (k0 c o e)) (W.frame _ _ _ _ st (Nat.le_refl _) fun c _ o e => Heap.get?_push_of_some _ e) (Heap.get?_push_size _ rfl) fun v s' hP hm => ?_⟩
  have m := Moved.drop_new (tk := s₂.toks) hm (Nat.le_refl _)
  obtain ⟨h', tk, e', hk'⟩ := moved_old e rfl m
  subst e'
  have hv : v = if bt 1 0 = true then b else a := by
    have hP' : #[a, b][argBest bt 1]? = some v := hP
    have e1 : argBest bt 1 = if bt 1 0 = true then 1 else 0 := rfl
    rw [e1] at hP'
    by_cases z : bt 1 0 = true
    · rw [if_pos z] at hP' ⊢; simpa using hP'.symm
    · rw [if_neg z] at hP' ⊢; simpa using hP'.symm
  rw [hv]
  exact h h' tk fun c o e => hk' c o (Heap.get?_push_of_some _ e)
end
theorem lexAt_lt {a b c d : Int} : Ob.lexAt (fun j => decide ([a, b].getD j 0 = [c, d].getD j 0)) (fun j => decide ([a, b].getD j 0 < [c, d].getD j 0)) (decide (2 < 2)) 0 (min 2 2) = ltP ⟨a, b⟩ ⟨c, d⟩ := by
  show Ob.lexAt _ _ _ 0 2 = _
  rw [Ob.lexAt_succ, Ob.lexAt_succ, Ob.lexAt_zero]
  unfold ltP
  simp only [List.getD_eq_getElem?_getD, List.getElem?_cons_zero, List.getElem?_cons_succ, Option.getD_some, decide_eq_true_eq]
  rcases Int.lt_trichotomy a c with z | z | z
  · have z1 : ¬ a = c := by omega
    simp [z, z1]
  · subst z
    by_cases y : b = d
    · subst y; simp
    · simp [y]
  · have z1 : ¬ a = c := by omega
    have z3 : ¬ a < c := by omega
    simp [z1, z3]
theorem lexAt_gt {a b c d : Int} : Ob.lexAt (fun j => decide ([a, b].getD j 0 = [c, d].getD j 0)) (fun j => decide ([c, d].getD j 0 < [a, b].getD j 0)) (decide (2 < 2)) 0 (min 2 2) = ltP ⟨c, d⟩ ⟨a, b⟩ := by
  show Ob.lexAt _ _ _ 0 2 = _
  rw [Ob.lexAt_succ, Ob.lexAt_succ, Ob.lexAt_zero]
  unfold ltP
  simp only [List.getD_eq_getElem?_getD, List.getElem?_cons_zero, List.getElem?_cons_succ, Option.getD_some, decide_eq_true_eq]
  rcases Int.lt_trichotomy c a with z | z | z
  · have z1 : ¬ a = c := by omega
    have z2 : ¬ c = a := by omega
    simp [z, z1]
  · subst z
    by_cases y : b = d
    · subst y; simp
    · have : ¬ d = b := fun e => y e.symm
      simp [y]
  · have z1 : ¬ a = c := by omega
    have z2 : ¬ c = a := by omega
    have z3 : ¬ c < a := by omega
    simp [z1, z2, z3]
section
variable {Xc : Cx}
open PySem.W in
theorem cmp_pair {A : Around} {s : Shared} {l1 l2 : Addr} {i1 i2 : List Value} {p q : T2 Int Int} (hu : A.units < cLine) (h1 : s.heap.IsTuple l1 i1.toArray) (h2 : s.heap.IsTuple l2 i2.toArray) (n1 : IntsAre i1 [p.a, p.b]) (n2 : IntsAre i2 [q.a, q.b]) :
    Ob.RcOp .Lt A s (.ref l1) (.ref l2) (ltP p q) ∧ Ob.RcOp .Gt A s (.ref l1) (.ref l2) (ltP q p) := by
  have at1 : ∀ j (h1 : j < i1.toArray.size), ∃ t, i1.toArray[j] = .int ([p.a, p.b].getD j 0) t := fun j h1 => PyProof.Rows.IntsAre.int_at n1 _ _ (by simp at h1; simp [h1])
  have at2 : ∀ j (h1 : j < i2.toArray.size), ∃ t, i2.toArray[j] = .int ([q.a, q.b].getD j 0) t := fun j h1 => PyProof.Rows.IntsAre.int_at n2 _ _ (by simp at h1; simp [h1])
  have e1 : i1.toArray.size = 2 := by rw [List.size_toArray]; exact n1.length
  have e2 : i2.toArray.size = 2 := by rw [List.size_toArray]; exact n2.length
  have he : ∀ j (h1 : j < i1.toArray.size) (h2 : j < i2.toArray.size), SeqAt.EqAt A.in1 s i1.toArray[j] i2.toArray[j] (decide ([p.a, p.b].getD j 0 = [q.a, q.b].getD j 0)) := fun j h1 h2 => by
    obtain ⟨t, et⟩ := at1 j h1
    obtain ⟨t', et'⟩ := at2 j h2
    rw [et, et']
    have z : ([p.a, p.b].getD j 0 == [q.a, q.b].getD j 0) = decide ([p.a, p.b].getD j 0 = [q.a, q.b].getD j 0) := by
      by_cases y : [p.a, p.b].getD j 0 = [q.a, q.b].getD j 0
      · rw [decide_eq_true y]; exact beq_iff_eq.mpr y
      · rw [decide_eq_false y]; exact beq_eq_false_iff_ne.mpr y
    rw [← z]
    exact SeqAt.EqAt.int_int _ _ _ _
  have R1 := Ob.RcOp.tuples_lt (r := fun j => decide ([p.a, p.b].getD j 0 < [q.a, q.b].getD j 0)) h1 h2 hu he fun j h1 h2 _ => by
    obtain ⟨t, et⟩ := at1 j h1
    obtain ⟨t', et'⟩ := at2 j h2
    rw [et, et']
    exact Ob.RcOp.lt_int _ _ _ _
  have R2 := Ob.RcOp.tuples_gt (r := fun j => decide ([q.a, q.b].getD j 0 < [p.a, p.b].getD j 0)) h1 h2 hu he fun j h1 h2 _ => by
    obtain ⟨t, et⟩ := at1 j h1
    obtain ⟨t', et'⟩ := at2 j h2
    rw [et, et']
    exact Ob.RcOp.gt_int _ _ _ _
  rw [e1, e2] at R1 R2
  rw [lexAt_lt] at R1
  rw [show decide (2 > 2) = decide (2 < 2) from rfl, lexAt_gt] at R2
  exact ⟨R1, R2⟩
def rMaxP (K : PySem.W.Frag) : List V → Hp → VK → Prop := fun xs H Q => ∃ (a b : Addr) (p q : T2 Int Int), xs = [.ref a, .ref b] ∧ SqT K H a [.int p.a, .int p.b] ∧ SqT K H b [.int q.a, .int q.b] ∧ Q (if ltP p q = true then .ref b else .ref a) H
open PySem.W in
theorem call_maxP (hu : Xc.A.units + 64 < cLine) (hc : Xc.calm = true) : CallR Xc (.builtin "max") (rMaxP Xc.K) := by
  intro pins s σ H xs us Q I r h
  obtain ⟨a, b, p, q, rfl, ha, hb, k⟩ := h
  obtain ⟨u, w', rfl, e1, e2⟩ := vals2 r
  cases (show u = Value.ref a from e1)
  cases (show w' = Value.ref b from e2)
  obtain ⟨i1, r1, t1, _⟩ := I.tuple ha
  obtain ⟨i2, r2, t2, _⟩ := I.tuple hb
  have n1 : IntsAre i1 [p.a, p.b] := Vals.ints (ns := [p.a, p.b]) r1
  have n2 : IntsAre i2 [q.a, q.b] := Vals.ints (ns := [q.a, q.b]) r2
  have up : ∀ {s' : Shared} {l : Addr} {its : Array Value}, (∀ c o, s.heap.get? c = some o → s'.heap.get? c = some o) → s.heap.IsTuple l its → s'.heap.IsTuple l its := fun hk ⟨o, ho, hc, n, hd⟩ => ⟨o, hk _ _ ho, hc, n, hd⟩
  have hu1 : (Xc.A.in1).units < cLine := by show Xc.A.units + 1 < cLine; omega
  refine call_max_twoH (I.ok.hd hc) (fun i j => if i = j then false else if i = 1 then ltP p q else ltP q p) (fun i j vi vj s' Q E hk hi hj hq => ?_) fun h' tk k' => ⟨_, H, I.kept k', ?_, k⟩
  · have at2 : ∀ {i v}, #[Value.ref a, Value.ref b][i]? = some v → (i = 0 ∧ v = .ref a) ∨ (i = 1 ∧ v = .ref b) := fun {i v} h => by
      match i with
      | 0 => exact .inl ⟨rfl, by simpa using h.symm⟩
      | 1 => exact .inr ⟨rfl, by simpa using h.symm⟩
      | n + 2 => simp at h
    have self : ∀ (x : T2 Int Int), ltP x x = false := fun x => by simp [ltP]
    rcases at2 hi with ⟨rfl, rfl⟩ | ⟨rfl, rfl⟩ <;> rcases at2 hj with ⟨rfl, rfl⟩ | ⟨rfl, rfl⟩
    · have := (cmp_pair (s := s') hu1 (up hk t1) (up hk t1) n1 n1).2
      rw [self] at this
      exact this Xc.prog Xc.w E Q hq
    · exact (cmp_pair (s := s') hu1 (up hk t1) (up hk t2) n1 n2).2 Xc.prog Xc.w E Q hq
    · exact (cmp_pair (s := s') hu1 (up hk t2) (up hk t1) n2 n1).2 Xc.prog Xc.w E Q hq
    · have := (cmp_pair (s := s') hu1 (up hk t2) (up hk t2) n2 n2).2
      rw [self] at this
      exact this Xc.prog Xc.w E Q hq
  · show RelV _ (if ltP p q = true then Value.ref b else Value.ref a)
    split <;> rfl
theorem x_maxP {C : Cn} {X : Addr → Prop} {H : Hp} {Q : VK} {p q : T2 Int Int} {u v : V} (r : Rep C.K X H (enc p) u) (t : Rep C.K X H (enc q) v) (h : ∀ w, Rep C.K X H (enc (maxP p q)) w → Q w H) : rMaxP C.K [u, v] H Q := by
  obtain ⟨a, ea, ha⟩ := rep_it r
  obtain ⟨b, eb, hb⟩ := rep_it t
  subst ea eb
  refine ⟨a, b, p, q, rfl, ha, hb, h _ ?_⟩
  unfold maxP
  by_cases z : ltP p q = true
  · rw [if_pos z, if_pos z]; exact t
  · rw [if_neg z, if_neg z]; exact r
def rMinP (K : PySem.W.Frag) : List V → Hp → VK → Prop := fun xs H Q => ∃ (a b : Addr) (p q : T2 Int Int), xs = [.ref a, .ref b] ∧ SqT K H a [.int p.a, .int p.b] ∧ SqT K H b [.int q.a, .int q.b] ∧ Q (if ltP q p = true then .ref b else .ref a) H
open PySem.W in
theorem call_minP (hu : Xc.A.units + 64 < cLine) (hc : Xc.calm = true) : CallR Xc (.builtin "min") (rMinP Xc.K) := by
  intro pins s σ H xs us Q I r h
  obtain ⟨a, b, p, q, rfl, ha, hb, k⟩ := h
  obtain ⟨u, w', rfl, e1, e2⟩ := vals2 r
  cases (show u = Value.ref a from e1)
  cases (show w' = Value.ref b from e2)
  obtain ⟨i1, r1, t1, _⟩ := I.tuple ha
  obtain ⟨i2, r2, t2, _⟩ := I.tuple hb
  have n1 : IntsAre i1 [p.a, p.b] := Vals.ints (ns := [p.a, p.b]) r1
  have n2 : IntsAre i2 [q.a, q.b] := Vals.ints (ns := [q.a, q.b]) r2
  have up : ∀ {s' : Shared} {l : Addr} {its : Array Value}, (∀ c o, s.heap.get? c = some o → s'.heap.get? c = some o) → s.heap.IsTuple l its → s'.heap.IsTuple l its := fun hk ⟨o, ho, hc, n, hd⟩ => ⟨o, hk _ _ ho, hc, n, hd⟩
  have hu1 : (Xc.A.in1).units < cLine := by show Xc.A.units + 1 < cLine; omega
  refine call_min_twoH (I.ok.hd hc) (fun i j => if i = j then false else if i = 1 then ltP q p else ltP p q) (fun i j vi vj s' Q E hk hi hj hq => ?_) fun h' tk k' => ⟨_, H, I.kept k', ?_, k⟩
  · have at2 : ∀ {i v}, #[Value.ref a, Value.ref b][i]? = some v → (i = 0 ∧ v = .ref a) ∨ (i = 1 ∧ v = .ref b) := fun {i v} h => by
      match i with
      | 0 => exact .inl ⟨rfl, by simpa using h.symm⟩
      | 1 => exact .inr ⟨rfl, by simpa using h.symm⟩
      | n + 2 => simp at h
    have self : ∀ (x : T2 Int Int), ltP x x = false := fun x => by simp [ltP]
    rcases at2 hi with ⟨rfl, rfl⟩ | ⟨rfl, rfl⟩ <;> rcases at2 hj with ⟨rfl, rfl⟩ | ⟨rfl, rfl⟩
    · have := (cmp_pair (s := s') hu1 (up hk t1) (up hk t1) n1 n1).1
      rw [self] at this
      exact this Xc.prog Xc.w E Q hq
    · exact (cmp_pair (s := s') hu1 (up hk t1) (up hk t2) n1 n2).1 Xc.prog Xc.w E Q hq
    · exact (cmp_pair (s := s') hu1 (up hk t2) (up hk t1) n2 n1).1 Xc.prog Xc.w E Q hq
    · have := (cmp_pair (s := s') hu1 (up hk t2) (up hk t2) n2 n2).1
      rw [self] at this
      exact this Xc.prog Xc.w E Q hq
  · show RelV _ (if ltP q p = true then Value.ref b else Value.ref a)
    split <;> rfl
theorem x_minP {C : Cn} {X : Addr → Prop} {H : Hp} {Q : VK} {p q : T2 Int Int} {u v : V} (r : Rep C.K X H (enc p) u) (t : Rep C.K X H (enc q) v) (h : ∀ w, Rep C.K X H (enc (minP p q)) w → Q w H) : rMinP C.K [u, v] H Q := by
  obtain ⟨a, ea, ha⟩ := rep_it r
  obtain ⟨b, eb, hb⟩ := rep_it t
  subst ea eb
  refine ⟨a, b, p, q, rfl, ha, hb, h _ ?_⟩
  unfold minP
  by_cases z : ltP q p = true
  · rw [if_pos z, if_pos z]; exact t
  · rw [if_neg z, if_neg z]; exact r
/-! ### is of bools -/
def rIsBX : R2 := fun x y H Q => ∃ a b : Bool, x = .bl a ∧ y = .bl b ∧ Q (.bl (decide (a = b))) H
def rNotBX : R2 := fun x y H Q => ∃ a b : Bool, x = .bl a ∧ y = .bl b ∧ Q (.bl (!decide (a = b))) H
theorem op_isBX : OpR Xc (compareOp .Is) rIsBX := op_isBl
theorem op_notBX : OpR Xc (compareOp .IsNot) rNotBX := op_notBl
theorem x_isBX {H : Hp} {Q : VK} {a b : Bool} (h : Q (.bl (decide (a = b))) H) : rIsBX (.bl a) (.bl b) H Q := ⟨a, b, rfl, rfl, h⟩
theorem x_notBX {H : Hp} {Q : VK} {a b : Bool} (h : Q (.bl (!decide (a = b))) H) : rNotBX (.bl a) (.bl b) H Q := ⟨a, b, rfl, rfl, h⟩
end
theorem pi_listK {K : PySem.W.Frag} {X : Cx} {tg l : Expr} {tl : TE} (hK : X.K = K) (hl : PE X l tl) : PI X tg l (iList K tl) := by subst hK; exact pi_list hl
theorem pi_tupK {K : PySem.W.Frag} {X : Cx} {tg l : Expr} {tl : TE} (hK : X.K = K) (hl : PE X l tl) : PI X tg l (iTup K tl) := by subst hK; exact pi_tup hl
theorem lookup_relabel_fc {env : Env} : ∀ {names : List (Str × NameKind)} {x : Str}, names.lookup x = some .cell ∨ names.lookup x = some .free →
    (names.map fun (n, k) => if (k == NameKind.free && env.scope.kind == .function && env.kindOf n == some .cell) then (n, NameKind.cell) else (n, k)).lookup x = some .cell ∨ (names.map fun (n, k) => if (k == NameKind.free && env.scope.kind == .function && env.kindOf n == some .cell) then (n, NameKind.cell) else (n, k)).lookup x = some .free
  | [], _, h => by simp at h
  | (n, k) :: r, x, h => by
    have ih := @lookup_relabel_fc env r x
    show List.lookup x ((if (k == NameKind.free && env.scope.kind == .function && env.kindOf n == some .cell) = true then (n, NameKind.cell) else (n, k)) :: _) = _ ∨ List.lookup x ((if (k == NameKind.free && env.scope.kind == .function && env.kindOf n == some .cell) = true then (n, NameKind.cell) else (n, k)) :: _) = _
    cases hx : x == n with
    | true =>
      simp only [List.lookup_cons, hx] at h
      by_cases hc : (k == NameKind.free && env.scope.kind == .function && env.kindOf n == some .cell) = true
      · rw [if_pos hc]; left; simp [List.lookup_cons, hx]
      · rw [if_neg hc]; simp only [List.lookup_cons, hx]; exact h
    | false =>
      simp only [List.lookup_cons, hx] at h
      by_cases hc : (k == NameKind.free && env.scope.kind == .function && env.kindOf n == some .cell) = true
      · rw [if_pos hc]; simp only [List.lookup_cons, hx]; exact ih h
      · rw [if_neg hc]; simp only [List.lookup_cons, hx]; exact ih h
theorem blkOk_in {N : List Str} {scope0 scope : Scope} {own : List (Str × Nat)} {cl : List (Str × Addr)} {C : Addr} {env : Env} (h : blkC N scope0 scope own = true) : BlkOk N (compEnvC scope0 cl C env).scope scope own := by
  have b := blkOk_by h
  exact ⟨b.kind, b.uniq, b.ix, fun y hy e => lookup_relabel_fc (b.free y hy e), b.own⟩
/-! ### chains of two comparisons -/
section
variable {C : Cn} {X : Addr → Prop} {H : Hp} {σ : L2.St} {Γ Γ' : List Sl} {Q : VK} {α β ρ : Type}
def KCh (tc : TE) (r' : R2) (σ : L2.St) (y : V) (Q : VK) : VK := fun z H3 => ∃ k, z = .bl k ∧ (if k = true then tc σ H3 fun w' H4 => r' y w' H4 Q else Q (.bl false) H3)
theorem x_chain {r r' : R2} {ta tb tc : TE} (h : ta σ H fun x H1 => tb σ H1 fun y H2 => r x y H2 (KCh tc r' σ y Q)) : tChain r r' ta tb tc σ H Q := h
theorem x_chP {A B : Bool} {tc : TE} {r' : R2} {y : V} (hu : ∀ Q' : VK, Q' (.bl B) H → tc σ H fun w H4 => r' y w H4 Q') (h : Q (.bl (A && B)) H) : KCh tc r' σ y Q (.bl A) H := by
  refine ⟨A, rfl, ?_⟩
  cases A with
  | true => exact hu Q h
  | false => exact h
/-! ### xs.reverse() -/
theorem x_reverse [Py α] {xs : List α} {i : Nat} {p : Addr} (L : Lo C X H σ Γ) (g : Γ[i]? = some (.mu p (ml xs))) (e : Γ.set i (.mu p (ml xs.reverse)) = Γ')
    (h : ∀ H1, Lo C X H1 σ Γ' → (∀ d u, Rep C.K X H d u → Rep C.K X H1 d u) → Q .non H1) : rReverse (.ref p) [] H Q := by
  subst e
  obtain ⟨vs, hs, rs⟩ := L.mrep g
  obtain ⟨L1, le⟩ := L.write (es := xs.reverse.map enc) (ws := vs.reverse) g hs (by rw [List.map_reverse]; exact rs.reverse)
  exact ⟨p, vs, rfl, rfl, hs, h _ L1 le⟩
/-! ### a list of the body's own is lent to a call that keeps nothing of it -/
abbrev X0 : Addr → Prop := fun _ => False
theorem Rep.x0 {K : PySem.W.Frag} {d : PyData} {v : V} (r : Rep K X H d v) : Rep K X0 H d v := r.anti fun _ h => h.elim
theorem SqX.x0 {K : PySem.W.Frag} {ns : List Int} {v : V} (r : SqX K X H ns v) : SqX K X0 H ns v := r.anti fun _ h => h.elim
theorem Lo.lend (L : Lo C X H σ Γ) {i : Nat} {p : Addr} {ds : List PyData} (e : Γ[i]? = some (.mu p (.lst ds))) : Rep C.K X0 H (.list ds) (.ref p) := by
  obtain ⟨vs, h1, h2⟩ := L.mrep e
  exact .lst (fun h => h) (.inl h1) (h2.anti fun _ h => h.elim)
theorem Lo.condL (L : Lo C X H σ Γ) {Γa : List Sl} {vs : List V} (as : As C.K X0 H Γa vs) (e : muts Γa = []) : Cond C.K X0 H Γa vs := ⟨as, nd0 e, (by rw [e]; intro _ h; cases h), fun _ h => h.elim⟩
/-- data without a list in it -/
class Flat (α : Type) [Py α] : Prop where
  up : ∀ {K : PySem.W.Frag} {X Y : Addr → Prop} {H : Hp} {x : α} {v : V}, Rep K X H (enc x) v → Rep K Y H (enc x) v
instance : Flat Int := ⟨fun r => by cases r; exact .int _⟩
instance : Flat Bool := ⟨fun r => by cases r; exact .bl _⟩
instance : Flat Str := ⟨fun r => by cases r; exact .str _⟩
instance {α β : Type} [Py α] [Py β] [Flat α] [Flat β] : Flat (T2 α β) := ⟨fun r => by
  cases r with | tup h q =>
    cases q with | cons a q => cases q with | cons b q => cases q; exact .tup h (.cons (Flat.up a) (.cons (Flat.up b) .nil))⟩
instance {α β γ : Type} [Py α] [Py β] [Py γ] [Flat α] [Flat β] [Flat γ] : Flat (T3 α β γ) := ⟨fun r => by
  cases r with | tup h q =>
    cases q with | cons a q => cases q with | cons b q => cases q with | cons c q => cases q; exact .tup h (.cons (Flat.up a) (.cons (Flat.up b) (.cons (Flat.up c) .nil)))⟩
theorem k0L {v : V} {H' : Hp} {rs : Rs} {ps : List (Addr × MO)} {G : Prop} (L : Lo C X H σ Γ) (F : Fin C.K X0 H [] ps rs v H') (h : Lo C X H' σ Γ → (∀ d u, Rep C.K X H d u → Rep C.K X H' d u) → G) : G := by
  have s : Same H H' := fun a o e => F.base a o e (by simp)
  exact h (L.same s) fun _ _ r => r.keep (.same s)
theorem k0Ld [Py α] [Flat α] {v : V} {H' : Hp} {x : α} {ps : List (Addr × MO)} {G : Prop} (L : Lo C X H σ Γ) (F : Fin C.K X0 H [] ps (.imm (enc x)) v H') (h : Lo C X H' σ Γ → (∀ d u, Rep C.K X H d u → Rep C.K X H' d u) → Rep C.K X H' (enc x) v → G) : G := by
  have s : Same H H' := fun a o e => F.base a o e (by simp)
  exact h (L.same s) (fun _ _ r => r.keep (.same s)) (Flat.up (show Rep C.K X0 H' (enc x) v from F.res))
end
def m__law_cell (a__law_script : (List Int)) (a__law_k : Int) : Option Int :=
 if (decide (a__law_k < (a__law_script.length : Int))) = true then
 ((ix a__law_script a__law_k).bind fun x1 =>
 some x1)
 else
 (some 0)
def m__law_bag (a__law_cell_here : Int) : Option (List Int) :=
 if (decide (1000000000000000000 ≤ a__law_cell_here)) = true then
 (some ([a__law_cell_here, (a__law_cell_here % 2147483647)]))
 else
 (some ([0, ((((a__law_cell_here % 2147483647) * 69621) + 7) % 2147483647)]))
def m__law_draw (a__law_bag_here : (List Int)) (a__law_many : Int) : Option (Int × (List Int)) :=
 (ix a__law_bag_here 0).bind fun x1 =>
 if (decide (0 < x1)) = true then
 ((ix a__law_bag_here 0).bind fun x2 =>
 (modG x2 a__law_many).bind fun z1 =>
 (ix a__law_bag_here 0).bind fun x3 =>
 (divG x3 a__law_many).bind fun z2 =>
 (setI a__law_bag_here 0 z2).bind fun y1 =>
 some ((z1, y1)))
 else
 ((ix a__law_bag_here 1).bind fun x4 =>
 (setI a__law_bag_here 1 ((((x4 * 48271) + 4099) % 2147483647))).bind fun y2 =>
 (ix y2 1).bind fun x5 =>
 (ix y2 1).bind fun x6 =>
 (mulG x5 (((x6 / 65536) + 7))).bind fun z3 =>
 (modG (((z3 % 2147483629) / 32)) a__law_many).bind fun z4 =>
 some ((z4, y2)))
def m__law_chain (a__law_bag_here : (List Int)) (a__law_wide : Int) (a__law_most : Int) : Option ((List Int) × (List Int)) :=
 ((rngOk 1).bind fun _ => rngOk a__law_wide).bind fun _ =>
 (lenOk ((a__law_wide - 1).toNat)).bind fun _ =>
 (compL (fun (x1 : Int) (s1 : (List Int)) =>
 ((m__law_draw s1 2).bind fun z1 =>
 if (decide (z1.1 = 1)) = true then
 (some (some x1, z1.2))
 else
 (some (none, z1.2)))) (rangeL 1 (a__law_wide - 1).toNat) a__law_bag_here).bind fun q1 =>
 (some ((slice q1.1 none (some ((a__law_most - 2)))))).bind fun (inner_1 : (List Int)) =>
 (lenOk (([0]).length + inner_1.length)).bind fun _ =>
 (lenOk ((([0] ++ inner_1)).length + ([a__law_wide]).length)).bind fun _ =>
 some (((([0] ++ inner_1) ++ [a__law_wide]), q1.2))
def m__law_strip (a__law_bag_here : (List Int)) (a__law_wide : Int) (a__law_most : Int) : Option ((List (T2 Int Int)) × (List Int)) :=
 (m__law_chain a__law_bag_here a__law_wide a__law_most).bind fun z1 =>
 (lenOk z1.1.length).bind fun _ =>
 (mapS (fun (x1 : Int) (s1 : (List Int)) =>
 ((m__law_draw s1 4).bind fun z2 =>
 some ((T2.mk x1 z2.1), z2.2))) z1.1 z1.2).bind fun q1 =>
 (m__law_chain q1.2 a__law_wide a__law_most).bind fun z3 =>
 (lenOk z3.1.length).bind fun _ =>
 (mapS (fun (x2 : Int) (s2 : (List Int)) =>
 ((m__law_draw s2 3).bind fun z4 =>
 some ((T2.mk x2 ((4 + z4.1))), z4.2))) z3.1 z3.2).bind fun q2 =>
 (lenOk (q1.1.length + q2.1.reverse.length)).bind fun _ =>
 some (((q1.1 ++ q2.1.reverse), q2.2))
def m__law_cross (a__law_o : (T2 Int Int)) (a__law_p : (T2 Int Int)) (a__law_q : (T2 Int Int)) : Option Int :=
 (mulG ((a__law_p.a - a__law_o.a)) ((a__law_q.b - a__law_o.b))).bind fun z1 =>
 (mulG ((a__law_p.b - a__law_o.b)) ((a__law_q.a - a__law_o.a))).bind fun z2 =>
 some ((z1 - z2))
def m__law_back (a__law_p : (T2 Int Int)) (a__law_q : (T2 Int Int)) (a__law_r : (T2 Int Int)) : Option Bool :=
 (mulG ((a__law_p.a - a__law_q.a)) ((a__law_r.a - a__law_q.a))).bind fun z1 =>
 (mulG ((a__law_p.b - a__law_q.b)) ((a__law_r.b - a__law_q.b))).bind fun z2 =>
 (m__law_cross a__law_p a__law_q a__law_r).bind fun z3 =>
 some (((decide (z3 = 0)) && (decide (0 < (z1 + z2)))))
def m__law_touch (a__law_p : (T2 Int Int)) (a__law_q : (T2 Int Int)) (a__law_r : (T2 Int Int)) (a__law_s : (T2 Int Int)) : Option Bool :=
 (some ((T2.mk ((a__law_q.a - a__law_p.a)) ((a__law_q.b - a__law_p.b))))).bind fun (go_1 : (T2 Int Int)) =>
 (some ((T2.mk ((a__law_s.a - a__law_r.a)) ((a__law_s.b - a__law_r.b))))).bind fun (way_1 : (T2 Int Int)) =>
 (some ((T2.mk ((a__law_r.a - a__law_p.a)) ((a__law_r.b - a__law_p.b))))).bind fun (gap_1 : (T2 Int Int)) =>
 (mulG go_1.a way_1.b).bind fun z1 =>
 (mulG go_1.b way_1.a).bind fun z2 =>
 (some ((z1 - z2))).bind fun (whole_1 : Int) =>
 if (decide (whole_1 = 0)) = true then
 ((some ((maxP ((minP a__law_p a__law_q)) ((minP a__law_r a__law_s))))).bind fun (low_1 : (T2 Int Int)) =>
 (some ((minP ((maxP a__law_p a__law_q)) ((maxP a__law_r a__law_s))))).bind fun (high_1 : (T2 Int Int)) =>
 (m__law_cross a__law_p a__law_q a__law_r).bind fun z3 =>
 some (((decide (z3 = 0)) && (leP low_1 high_1))))
 else
 ((mulG gap_1.a way_1.b).bind fun z4 =>
 (mulG gap_1.b way_1.a).bind fun z5 =>
 (some ((z4 - z5))).bind fun (first_1 : Int) =>
 (mulG gap_1.a go_1.b).bind fun z6 =>
 (mulG gap_1.b go_1.a).bind fun z7 =>
 (some ((z6 - z7))).bind fun (second_1 : Int) =>
 (if (decide (whole_1 < 0)) = true then
 (some (((-whole_1), (-first_1), (-second_1))))
 else
 (some ((whole_1, first_1, second_1)))).bind fun (s1 : (Int × Int × Int)) =>
 some ((((decide (0 ≤ s1.2.1)) && (decide (s1.2.1 ≤ s1.1))) && ((decide (0 ≤ s1.2.2)) && (decide (s1.2.2 ≤ s1.1))))))
def m__law_simple (a__law_ring : (List (T2 Int Int))) : Option Bool :=
 (some ((a__law_ring.length : Int))).bind fun (many_1 : Int) =>
 (if (decide (many_1 < 3)) = true then some true else
 ((fewOk a__law_ring.length).bind fun _ =>
 some ((decide (((dset a__law_ring).length : Int) < many_1))))).bind fun b1 =>
 if b1 = true then
 (some false)
 else
 ((rngOk many_1).bind fun _ =>
 (loopL (ρ := Bool) (fun (x1 : Int) (s1 : Unit) =>
 ((ix a__law_ring ((x1 - 2))).bind fun x2 =>
 (ix a__law_ring ((x1 - 1))).bind fun x3 =>
 (ix a__law_ring x1).bind fun x4 =>
 (m__law_back x2 x3 x4).bind fun z1 =>
 if z1 = true then
 (some (.ret false))
 else
 ((rngOk x1).bind fun _ =>
 (loopL (ρ := Bool) (fun (x5 : Int) (s3 : Unit) =>
 ((modG ((x1 - x5)) many_1).bind fun z2 =>
 (some ((memB z2 ([1, (many_1 - 1)])))).bind fun (near_1 : Bool) =>
 (ix a__law_ring ((x1 - 1))).bind fun x6 =>
 (ix a__law_ring x1).bind fun x7 =>
 (some ((T2.mk x6 x7))).bind fun (one_1 : (T2 (T2 Int Int) (T2 Int Int))) =>
 (ix a__law_ring ((x5 - 1))).bind fun x8 =>
 (ix a__law_ring x5).bind fun x9 =>
 (some ((T2.mk x8 x9))).bind fun (two_1 : (T2 (T2 Int Int) (T2 Int Int))) =>
 (if (!near_1) = true then
 ((m__law_touch one_1.a one_1.b two_1.a two_1.b).bind fun z4 =>
 some z4)
 else some false).bind fun b2 =>
 if b2 = true then
 (some (.ret false))
 else
 (some (.nxt (()))))) (rangeL 0 x1.toNat) (())).bind fun o => o.out (fun r => some (.ret r)) fun (s4 : Unit) =>
 some (.nxt (()))))) (rangeL 0 many_1.toNat) (())).bind fun o => o.out (fun r => some r) fun (s2 : Unit) =>
 some true)
def m__law_twice (a__law_ring : (List (T2 Int Int))) : Option Int :=
 (rngOk ((a__law_ring.length : Int))).bind fun _ =>
 (foldO (fun (x1 : Int) (s1 : Int) =>
 ((ix a__law_ring ((x1 - 1))).bind fun x2 =>
 (ix a__law_ring x1).bind fun x3 =>
 (mulG x2.a x3.b).bind fun z1 =>
 (mulG x3.a x2.b).bind fun z2 =>
 (some (((s1 + z1) - z2))).bind fun (found_1 : Int) =>
 some found_1)) (rangeL 0 ((a__law_ring.length : Int)).toNat) 0).bind fun (s2 : Int) =>
 some s2
def m__law_shape (a__law_bag_here : (List Int)) (a__law_most : Int) : Option ((List (T2 Int Int)) × (List Int)) :=
 (m__law_draw a__law_bag_here 4).bind fun z1 =>
 if (decide (z1.1 = 3)) = true then
 ((m__law_strip z1.2 6 ((a__law_most / 2))).bind fun z2 =>
 some ((z2.1, z2.2)))
 else
 ((rngOk ((3 + z1.1))).bind fun _ =>
 (lenOk (((3 + z1.1)).toNat)).bind fun _ =>
 (mapS (fun (x1 : Int) (s1 : (List Int)) =>
 ((m__law_draw s1 7).bind fun z3 =>
 (m__law_draw z3.2 7).bind fun z4 =>
 some ((T2.mk z3.1 z4.1), z4.2))) (rangeL 0 ((3 + z1.1)).toNat) z1.2).bind fun q1 =>
 (m__law_simple q1.1).bind fun z5 =>
 (if (!z5) = true then some true else
 ((m__law_twice q1.1).bind fun z7 =>
 some ((decide (z7 = 0))))).bind fun b1 =>
 if b1 = true then
 ((m__law_draw q1.2 4).bind fun z8 =>
 (m__law_draw z8.2 6).bind fun z9 =>
 (m__law_draw z9.2 3).bind fun z10 =>
 (m__law_twice ([(T2.mk 0 0), (T2.mk 6 z8.1), (T2.mk z9.1 ((4 + z10.1)))])).bind fun z11 =>
 (if (decide (z11 < 0)) = true then
 (some (([(T2.mk 0 0), (T2.mk 6 z8.1), (T2.mk z9.1 ((4 + z10.1)))]).reverse))
 else
 (some ([(T2.mk 0 0), (T2.mk 6 z8.1), (T2.mk z9.1 ((4 + z10.1)))]))).bind fun (s2 : (List (T2 Int Int))) =>
 some ((s2, z10.2)))
 else
 ((m__law_twice q1.1).bind fun z12 =>
 (if (decide (z12 < 0)) = true then
 (some q1.1.reverse)
 else
 (some q1.1)).bind fun (s3 : (List (T2 Int Int))) =>
 some ((s3, q1.2))))
def m__law_slid (a__law_ring : (List (T2 Int Int))) (a__law_right : Int) (a__law_up : Int) : Option (List (T2 Int Int)) :=
 (lenOk a__law_ring.length).bind fun _ =>
 (mapO (fun (x1 : (T2 Int Int)) =>
 (some ((T2.mk ((x1.a + a__law_right)) ((x1.b + a__law_up)))))) a__law_ring).bind fun ys1 =>
 some ys1
def m__law_cloth (a__law_bag_here : (List Int)) : Option ((List (List (T2 Int Int))) × (List Int)) :=
 (m__law_draw a__law_bag_here 8).bind fun z1 =>
 (m__law_shape z1.2 10).bind fun z2 =>
 if (decide (z1.1 < 3)) = true then
 (some (([z2.1], z2.2)))
 else
 (if (decide (z1.1 = 3)) = true then
 ((m__law_shape z2.2 10).bind fun z3 =>
 (m__law_draw z3.2 3).bind fun z4 =>
 (m__law_draw z4.2 9).bind fun z5 =>
 (m__law_slid z3.1 ((8 + z4.1)) ((z5.1 - 4))).bind fun z6 =>
 some (([z2.1, z6], z5.2)))
 else
 (if (decide (z1.1 = 4)) = true then
 (some (([z2.1.reverse, [(T2.mk ((-2)) ((-2))), (T2.mk 9 ((-1))), (T2.mk 10 9), (T2.mk ((-1)) 8)]], z2.2)))
 else
 (if (decide (z1.1 = 5)) = true then
 (some (([[(T2.mk ((-4)) ((-3))), (T2.mk 11 ((-4))), (T2.mk 12 11), (T2.mk ((-3)) 10)], z2.1, [(T2.mk ((-1)) 8), (T2.mk 8 9), (T2.mk 9 ((-1))), (T2.mk ((-2)) ((-2)))]], z2.2)))
 else
 (if (decide (z1.1 = 6)) = true then
 ((m__law_draw z2.2 9).bind fun z7 =>
 (rngOk z7.1).bind fun _ =>
 (foldO (fun (x1 : Int) (s1 : ((List Int) × (List (List (T2 Int Int))))) =>
 ((m__law_draw s1.1 5).bind fun z8 =>
 (m__law_draw z8.2 5).bind fun z9 =>
 (some ([(T2.mk 0 0), (T2.mk 5 z8.1), (T2.mk z9.1 6)])).bind fun (three_1 : (List (T2 Int Int))) =>
 (m__law_draw z9.2 9).bind fun z10 =>
 (m__law_slid three_1 ((7 * x1)) z10.1).bind fun z11 =>
 (lenOk (s1.2.length + 1)).bind fun _ =>
 some ((z10.2, (s1.2 ++ [z11]))))) (rangeL 0 z7.1.toNat) ((z7.2, ([] : (List (List (T2 Int Int))))))).bind fun (s2 : ((List Int) × (List (List (T2 Int Int))))) =>
 some ((s2.2, s2.1)))
 else
 ((m__law_strip z2.2 11 12).bind fun z12 =>
 some (([z12.1], z12.2)))))))
def m__law_bottom (a__law_bag_here : (List Int)) : Option (Int × (List Int)) :=
 (m__law_draw a__law_bag_here 8).bind fun z1 =>
 (ix ([1, 1, 2, 3, 12, 997, (1000000000000 + 39), 1]) z1.1).bind fun x1 =>
 some ((x1, z1.2))
def m__law_gcd (a__law_one : Int) (a__law_two : Int) : Option Int :=
 (some ((iabs a__law_one))).bind fun (one_1 : Int) =>
 (some ((iabs a__law_two))).bind fun (two_1 : Int) =>
 (loopW (ρ := Empty) (fun (s1 : (Int × Int)) =>
 (if (decide (0 < s1.2)) = true then
 ((modG s1.1 s1.2).bind fun z1 =>
 some (.nxt ((s1.2, z1))))
 else
 (some (.brk ((s1.1, s1.2)))))) (two_1.natAbs + 2) ((one_1, two_1))).bind fun o => o.out (fun (e : Empty) => e.elim) fun (s2 : (Int × Int)) =>
 some s2.1
def m__law_point (a__law_a : Int) (a__law_b : Int) (a__law_n : Int) : Option (T3 Int Int Int) :=
 (m__law_gcd a__law_a a__law_n).bind fun z1 =>
 (m__law_gcd z1 a__law_b).bind fun z2 =>
 (if (decide (a__law_n < 0)) = true then
 ((some ((-z2))).bind fun (both_1 : Int) =>
 some both_1)
 else
 (some z2)).bind fun (s1 : Int) =>
 (divG a__law_a s1).bind fun z3 =>
 (divG a__law_b s1).bind fun z4 =>
 (divG a__law_n s1).bind fun z5 =>
 some ((T3.mk z3 z4 z5))
def m__law_handed (a__law_rings : (List (List (T2 Int Int)))) (a__law_n : Int) : Option (List (List (T3 Int Int Int))) :=
 (lenOk a__law_rings.length).bind fun _ =>
 (mapO (fun (x1 : (List (T2 Int Int))) =>
 ((lenOk x1.length).bind fun _ =>
 (mapO (fun (x2 : (T2 Int Int)) =>
 ((m__law_point x2.a x2.b a__law_n).bind fun z1 =>
 some z1)) x1).bind fun ys2 =>
 some ys2)) a__law_rings).bind fun ys1 =>
 some ys1
def m__law_spot (a__law_bag_here : (List Int)) (a__law_rings : (List (List (T2 Int Int)))) : Option ((T2 Int Int) × (List Int)) :=
 (m__law_draw a__law_bag_here 6).bind fun z1 =>
 (m__law_draw z1.2 24).bind fun z2 =>
 (m__law_draw z2.2 22).bind fun z3 =>
 (some ((T2.mk ((12 * (z2.1 - 6))) ((12 * (z3.1 - 6)))))).bind fun (any_spot_1 : (T2 Int Int)) =>
 if ((decide (z1.1 = 0)) || (decide ((a__law_rings.length : Int) = 0))) = true then
 (some ((any_spot_1, z3.2)))
 else
 (if (decide (z1.1 = 1)) = true then
 ((m__law_draw z3.2 12).bind fun z4 =>
 (m__law_draw z4.2 12).bind fun z5 =>
 some (((T2.mk ((any_spot_1.a + z4.1)) ((any_spot_1.b + z5.1))), z5.2)))
 else
 ((m__law_draw z3.2 ((a__law_rings.length : Int))).bind fun z6 =>
 (ix a__law_rings z6.1).bind fun x1 =>
 (m__law_draw z6.2 ((x1.length : Int))).bind fun z7 =>
 if (decide (z1.1 = 2)) = true then
 ((ix x1 z7.1).bind fun x2 =>
 some ((x2, z7.2)))
 else
 (if (decide (z1.1 = 3)) = true then
 ((ix x1 z7.1).bind fun x3 =>
 some (((T2.mk any_spot_1.a x3.b), z7.2)))
 else
 (if (decide (z1.1 = 4)) = true then
 ((ix x1 z7.1).bind fun x4 =>
 some (((T2.mk x4.a any_spot_1.b), z7.2)))
 else
 ((m__law_draw z7.2 11).bind fun z8 =>
 (some ((1 + z8.1))).bind fun (part_1 : Int) =>
 (ix x1 ((z7.1 - 1))).bind fun x5 =>
 (ix x1 z7.1).bind fun x6 =>
 (mulG x5.a part_1).bind fun z9 =>
 (mulG x6.a ((12 - part_1))).bind fun z10 =>
 (mulG x5.b part_1).bind fun z11 =>
 (mulG x6.b ((12 - part_1))).bind fun z12 =>
 some (((T2.mk (((z9 + z10) / 12)) (((z11 + z12) / 12))), z8.2)))))))
def m_sides_of (a_ring : (List (T3 Int Int Int))) : Option (List (T2 (T3 Int Int Int) (T3 Int Int Int))) :=
 (rngOk ((a_ring.length : Int))).bind fun _ =>
 (lenOk (((a_ring.length : Int)).toNat)).bind fun _ =>
 (mapO (fun (x1 : Int) =>
 ((ix a_ring ((x1 - 1))).bind fun x2 =>
 (ix a_ring x1).bind fun x3 =>
 some ((T2.mk x2 x3)))) (rangeL 0 ((a_ring.length : Int)).toNat)).bind fun ys1 =>
 some ys1
def m_crossed (a_p : (T3 Int Int Int)) (a_q : (T3 Int Int Int)) : Option (T3 Int Int Int) :=
 (mulG a_p.b a_q.c).bind fun z1 =>
 (mulG a_p.c a_q.b).bind fun z2 =>
 (mulG a_p.c a_q.a).bind fun z3 =>
 (mulG a_p.a a_q.c).bind fun z4 =>
 (mulG a_p.a a_q.b).bind fun z5 =>
 (mulG a_p.b a_q.a).bind fun z6 =>
 some ((T3.mk ((z1 - z2)) ((z3 - z4)) ((z5 - z6))))
def m_side (a_p : (T3 Int Int Int)) (a_q : (T3 Int Int Int)) (a_r : (T3 Int Int Int)) : Option Int :=
 (m_crossed a_p a_q).bind fun z1 =>
 (mulG z1.a a_r.a).bind fun z2 =>
 (mulG z1.b a_r.b).bind fun z3 =>
 (mulG z1.c a_r.c).bind fun z4 =>
 (some (((z2 + z3) + z4))).bind fun (number_1 : Int) =>
 if (decide (number_1 = 0)) = true then
 (some 0)
 else
 (if (decide (0 < number_1)) = true then
 (some 1)
 else
 (some ((-1))))
def m_is_amid_b (a_a : (T2 Int Int)) (a_b : (T2 Int Int)) (a_c : (T2 Int Int)) : Option Bool :=
 (mulG a_a.a a_b.b).bind fun z1 =>
 (mulG a_b.a a_a.b).bind fun z2 =>
 if (decide (z2 < z1)) = true then
 (none)
 else
 ((mulG a_a.a a_c.b).bind fun z3 =>
 (mulG a_c.a a_a.b).bind fun z4 =>
 (if (decide (z3 ≤ z4)) = true then
 ((mulG a_c.a a_b.b).bind fun z7 =>
 (mulG a_b.a a_c.b).bind fun z8 =>
 some ((decide (z7 ≤ z8))))
 else some false).bind fun b1 =>
 some b1)
def m_is_amid (a_a : (T2 Int Int)) (a_b : (T2 Int Int)) (a_c : (T2 Int Int)) : Option Bool :=
 (mulG a_a.a a_b.b).bind fun z1 =>
 (mulG a_b.a a_a.b).bind fun z2 =>
 if (decide (z2 < z1)) = true then
 ((m_is_amid_b a_b a_a a_c).bind fun z3 =>
 some z3)
 else
 ((mulG a_a.a a_c.b).bind fun z4 =>
 (mulG a_c.a a_a.b).bind fun z5 =>
 (if (decide (z4 ≤ z5)) = true then
 ((mulG a_c.a a_b.b).bind fun z8 =>
 (mulG a_b.a a_c.b).bind fun z9 =>
 some ((decide (z8 ≤ z9))))
 else some false).bind fun b1 =>
 some b1)
def m_lies_on (a_p : (T3 Int Int Int)) (a_q : (T3 Int Int Int)) (a_r : (T3 Int Int Int)) : Option Bool :=
 (m_side a_p a_q a_r).bind fun z1 =>
 if (!decide (z1 = 0)) = true then
 (some false)
 else
 ((m_is_amid ((T2.mk a_p.a a_p.c)) ((T2.mk a_q.a a_q.c)) ((T2.mk a_r.a a_r.c))).bind fun z2 =>
 if (!z2) = true then
 (some false)
 else
 ((m_is_amid ((T2.mk a_p.b a_p.c)) ((T2.mk a_q.b a_q.c)) ((T2.mk a_r.b a_r.c))).bind fun z3 =>
 some z3))
def m_is_higher (a_p : (T3 Int Int Int)) (a_q : (T3 Int Int Int)) : Option Bool :=
 (mulG a_p.b a_q.c).bind fun z1 =>
 (mulG a_q.b a_p.c).bind fun z2 =>
 some ((decide (z2 < z1)))
def m_goes_by (a_p : (T3 Int Int Int)) (a_q : (T3 Int Int Int)) (a_r : (T3 Int Int Int)) : Option Bool :=
 (m_is_higher a_q a_r).bind fun z1 =>
 (if z1 = true then
 ((m_is_higher a_p a_r).bind fun z3 =>
 some ((!z3)))
 else some false).bind fun b1 =>
 if b1 = true then
 ((m_side a_p a_q a_r).bind fun z4 =>
 some ((decide (z4 = 1))))
 else
 ((m_is_higher a_p a_r).bind fun z5 =>
 (if z5 = true then
 ((m_is_higher a_q a_r).bind fun z7 =>
 some ((!z7)))
 else some false).bind fun b2 =>
 if b2 = true then
 ((m_side a_p a_q a_r).bind fun z8 =>
 some ((decide (z8 = (-1)))))
 else
 (some false))
def m_is_within (a_ring : (List (T3 Int Int Int))) (a_p : (T3 Int Int Int)) : Option Bool :=
 (m_sides_of a_ring).bind fun z1 =>
 (lenOk z1.length).bind fun _ =>
 (filO (fun (x1 : (T2 (T3 Int Int Int) (T3 Int Int Int))) =>
 ((m_goes_by x1.a x1.b a_p).bind fun z2 =>
 if z2 = true then
 (some (some x1))
 else
 (some none))) z1).bind fun ys1 =>
 some ((decide (((ys1.length : Int) % 2) = 1)))
def m_stands (a_cloth : (List (List (T3 Int Int Int)))) (a_p : (T3 Int Int Int)) : Option Str :=
 (loopL (ρ := Str) (fun (x1 : (List (T3 Int Int Int))) (s1 : Unit) =>
 ((m_sides_of x1).bind fun z1 =>
 (loopL (ρ := Str) (fun (x2 : (T2 (T3 Int Int Int) (T3 Int Int Int))) (s3 : Unit) =>
 ((m_lies_on x2.a x2.b a_p).bind fun z2 =>
 if z2 = true then
 (some (.ret (("side" : Str))))
 else
 (some (.nxt (()))))) z1 (())).bind fun o => o.out (fun r => some (.ret r)) fun (s4 : Unit) =>
 some (.nxt (())))) a_cloth (())).bind fun o => o.out (fun r => some r) fun (s2 : Unit) =>
 (lenOk a_cloth.length).bind fun _ =>
 (filO (fun (x3 : (List (T3 Int Int Int))) =>
 ((m_is_within x3 a_p).bind fun z3 =>
 if z3 = true then
 (some (some x3))
 else
 (some none))) a_cloth).bind fun ys1 =>
 if (decide (((ys1.length : Int) % 2) = 1)) = true then
 (some (("in" : Str)))
 else
 (some (("out" : Str)))
def m__law_within (a__law_ring : (List (T2 Int Int))) (a__law_p : (T2 Int Int)) : Option Bool :=
 (rngOk ((a__law_ring.length : Int))).bind fun _ =>
 (foldO (fun (x1 : Int) (s1 : Bool) =>
 ((ix a__law_ring ((x1 - 1))).bind fun x2 =>
 (ix a__law_ring x1).bind fun x3 =>
 (if (!decide ((decide (x2.a ≤ a__law_p.a)) = (decide (x3.a ≤ a__law_p.a)))) = true then
 ((m__law_cross x2 x3 a__law_p).bind fun z1 =>
 (if (((decide (z1 < 0)) && (decide (x2.a < x3.a))) || ((decide (0 < z1)) && (decide (x3.a < x2.a)))) = true then
 ((some ((!s1))).bind fun (odd_1 : Bool) =>
 some odd_1)
 else
 (some s1)).bind fun (s4 : Bool) =>
 some s4)
 else
 (some s1)).bind fun (s3 : Bool) =>
 some s3)) (rangeL 0 ((a__law_ring.length : Int)).toNat) false).bind fun (s2 : Bool) =>
 some s2
def m__law_place (a__law_rings : (List (List (T2 Int Int)))) (a__law_p : (T2 Int Int)) : Option Str :=
 (loopL (ρ := Str) (fun (x1 : (List (T2 Int Int))) (s1 : Bool) =>
 ((rngOk ((x1.length : Int))).bind fun _ =>
 (loopL (ρ := Str) (fun (x2 : Int) (s3 : Unit) =>
 ((ix x1 ((x2 - 1))).bind fun x3 =>
 (ix x1 x2).bind fun x4 =>
 (mulG ((x3.a - a__law_p.a)) ((x4.a - a__law_p.a))).bind fun z1 =>
 (mulG ((x3.b - a__law_p.b)) ((x4.b - a__law_p.b))).bind fun z2 =>
 (m__law_cross x3 x4 a__law_p).bind fun z3 =>
 if ((decide (z3 = 0)) && (decide ((z1 + z2) ≤ 0))) = true then
 (some (.ret (("side" : Str))))
 else
 (some (.nxt (()))))) (rangeL 0 ((x1.length : Int)).toNat) (())).bind fun o => o.out (fun r => some (.ret r)) fun (s4 : Unit) =>
 (m__law_within x1 a__law_p).bind fun z4 =>
 (if z4 = true then
 ((some ((!s1))).bind fun (odd_1 : Bool) =>
 some odd_1)
 else
 (some s1)).bind fun (s5 : Bool) =>
 some (.nxt s5))) a__law_rings false).bind fun o => o.out (fun r => some r) fun (s2 : Bool) =>
 (ix ([("out" : Str), ("in" : Str)]) ((b2 s2))).bind fun x5 =>
 some x5
def m_law (a__law_script : (List Int)) : Option Bool :=
 (m__law_cell a__law_script 0).bind fun z1 =>
 (m__law_bag z1).bind fun z2 =>
 (m__law_cloth z2).bind fun z3 =>
 (lenOk z3.1.length).bind fun _ =>
 (mapO (fun (x1 : (List (T2 Int Int))) =>
 ((lenOk x1.length).bind fun _ =>
 (mapO (fun (x2 : (T2 Int Int)) =>
 (some ((T2.mk ((12 * x2.a)) ((12 * x2.b)))))) x1).bind fun ys2 =>
 some ys2)) z3.1).bind fun ys1 =>
 (m__law_bottom z3.2).bind fun z4 =>
 (some ((12 * z4.1))).bind fun (n_1 : Int) =>
 (m__law_handed ys1 n_1).bind fun z5 =>
 (lenOk z5.length).bind fun _ =>
 (mapO (fun (x3 : (List (T3 Int Int Int))) =>
 (some x3)) z5).bind fun ys3 =>
 (m__law_cell a__law_script 1).bind fun z6 =>
 (lenOk (([z6]).length + ((slice a__law_script (some 2) (some 41))).length)).bind fun _ =>
 (loopL (ρ := Bool) (fun (x4 : Int) (s4 : Unit) =>
 ((m__law_bag x4).bind fun z7 =>
 (m__law_spot z7 ys1).bind fun z8 =>
 (m__law_point z8.1.a z8.1.b n_1).bind fun z9 =>
 (m_stands ys3 z9).bind fun z10 =>
 (if (!true) = true then some true else
 ((m__law_place ys1 z8.1).bind fun z12 =>
 some (((!decide (z10 = z12)) || (!decide (ys3 = z5)))))).bind fun b1 =>
 if b1 = true then
 (some (.ret false))
 else
 (some (.nxt (()))))) ([z6] ++ (slice a__law_script (some 2) (some 41))) (())).bind fun o => o.out (fun r => some r) fun (s5 : Unit) =>
 some true
/-! ### plain: loops, sizes -/
theorem foldO_inv {α τ : Type} {f : α → τ → Option τ} (I : Nat → τ → Prop) : ∀ {xs : List α} {s : τ} (k : Nat), (∀ j x s, I j s → ∃ s', f x s = some s' ∧ I (j + 1) s') → I k s → ∃ s', foldO f xs s = some s' ∧ I (k + xs.length) s'
  | [], s, k, _, h => ⟨s, rfl, h⟩
  | x :: xs, s, k, hf, h => by
    obtain ⟨s1, e1, h1⟩ := hf k x s h
    obtain ⟨s2, e2, h2⟩ := foldO_inv I (xs := xs) (k + 1) hf h1
    refine ⟨s2, ?_, by rw [List.length_cons, Nat.add_comm xs.length 1, ← Nat.add_assoc]; exact h2⟩
    show (f x s).bind _ = _
    rw [e1]; exact e2
/-- .. without a count -/
theorem foldO_inv' {α τ : Type} {f : α → τ → Option τ} (I : τ → Prop) {xs : List α} {s : τ} (hf : ∀ x s, I s → ∃ s', f x s = some s' ∧ I s') (h : I s) : ∃ s', foldO f xs s = some s' ∧ I s' :=
  foldO_inv (fun _ => I) 0 (fun _ => hf) h
/-- a loop that is never left early -/
theorem loopL_inv {α τ ρ : Type} {f : α → τ → Option (Lp τ ρ)} (I : τ → Prop) : ∀ {xs : List α} {s : τ}, (∀ x s, x ∈ xs → I s → ∃ s', f x s = some (.nxt s') ∧ I s') → I s → ∃ s', loopL f xs s = some (.nxt s') ∧ I s'
  | [], s, _, h => ⟨s, rfl, h⟩
  | x :: xs, s, hf, h => by
    obtain ⟨s1, e1, h1⟩ := hf x s List.mem_cons_self h
    obtain ⟨s2, e2, h2⟩ := loopL_inv I (xs := xs) (fun y s hy => hf y s (List.mem_cons_of_mem _ hy)) h1
    refine ⟨s2, ?_, h2⟩
    show (f x s).bind _ = _
    rw [e1]; exact e2
theorem log2_le {a n : Nat} (h : a < 2 ^ n) : a.log2 ≤ n := by
  by_cases z : a = 0
  · subst z; simp
  · exact Nat.le_of_lt ((Nat.log2_lt z).mpr h)
theorem mulG_ok (n m : Nat) {a b : Int} (ha : a.natAbs < 2 ^ n) (hb : b.natAbs < 2 ^ m) (h : n + m < 1000000) : mulG a b = some (a * b) := by
  unfold mulG
  rw [if_pos (Nat.lt_of_le_of_lt (Nat.add_le_add (log2_le ha) (log2_le hb)) h)]
theorem modG_pos {a b : Int} (h : 0 < b) : modG a b = some (a % b) := by
  unfold modG
  rw [if_pos (by omega), Int.fmod_eq_emod_of_nonneg _ (by omega)]
theorem divG_pos (n : Nat) {a b : Int} (h : 0 < b) (hb : b.natAbs < 2 ^ n) (hn : n < 9000) : divG a b = some (a / b) := by
  unfold divG
  rw [if_pos ⟨by omega, Nat.lt_of_le_of_lt (log2_le hb) hn⟩, Int.fdiv_eq_ediv_of_nonneg _ (by omega)]
theorem lenOk_ok {n : Nat} (h : n ≤ 16777216) : lenOk n = some () := by unfold lenOk; rw [if_pos h]
theorem slice_len {α : Type} (xs : List α) (lo hi : Option Int) : (slice xs lo hi).length ≤ xs.length := by
  unfold slice
  rw [List.length_take, List.length_drop]
  omega
theorem ix_lt {α : Type} {xs : List α} {k : Nat} (h : k < xs.length) : ix xs (k : Int) = some xs[k] := by
  unfold ix atI ixN
  have h1 : ¬ ((k : Int) < 0) := by omega
  simp [h]
theorem iabs_eq (i : Int) : iabs i = (i.natAbs : Int) := by unfold iabs; split <;> omega
theorem loopL_bind {α τ ρ β : Type} {f : α → τ → Option (Lp τ ρ)} {xs : List α} {s : τ} {g : Lp τ ρ → Option β} {v : β} (I : τ → Prop) (hf : ∀ x s, x ∈ xs → I s → ∃ s', f x s = some (.nxt s') ∧ I s') (h0 : I s) (hg : ∀ s', I s' → g (.nxt s') = some v) : (loopL f xs s).bind g = some v := by
  obtain ⟨s1, e, h⟩ := loopL_inv I hf h0
  rw [e]; exact hg s1 h
theorem foldO_bind {α τ β : Type} {f : α → τ → Option τ} {xs : List α} {s : τ} {g : τ → Option β} {v : β} (I : τ → Prop) (hf : ∀ x s, I s → ∃ s', f x s = some s' ∧ I s') (h0 : I s) (hg : ∀ s', I s' → g s' = some v) : (foldO f xs s).bind g = some v := by
  obtain ⟨s1, e, h⟩ := foldO_inv' I hf h0
  rw [e]; exact hg s1 h
/-! ### plain: the bag -/
def Bag (xs : List Int) : Prop := ∃ a b : Int, xs = [a, b] ∧ 0 ≤ a ∧ 0 ≤ b ∧ b < 2147483647
theorem draw_ok {xs : List Int} {many : Int} (h : Bag xs) (hm : 0 < many) (hM : many < 18446744073709551616) : ∃ r ys, m__law_draw xs many = some (r, ys) ∧ Bag ys ∧ 0 ≤ r ∧ r < many := by
  obtain ⟨a, b, rfl, h1, h2, h3⟩ := h
  unfold m__law_draw
  have i0 : ∀ x y : Int, ix [x, y] 0 = some x := fun _ _ => rfl
  have i1 : ∀ x y : Int, ix [x, y] 1 = some y := fun _ _ => rfl
  have s0 : ∀ x y z : Int, setI [x, y] 0 z = some [z, y] := fun _ _ _ => rfl
  have s1 : ∀ x y z : Int, setI [x, y] 1 z = some [x, z] := fun _ _ _ => rfl
  simp only [i0, i1, s0, s1, Option.bind_some]
  by_cases z : 0 < a
  · rw [if_pos (by simpa using z), modG_pos hm, divG_pos 64 hm (by omega) (by decide)]
    exact ⟨_, _, rfl, ⟨_, _, rfl, Int.ediv_nonneg h1 (by omega), h2, h3⟩, Int.emod_nonneg _ (by omega), Int.emod_lt_of_pos _ hm⟩
  · rw [if_neg (by simpa using z)]
    have e1 : 0 ≤ (b * 48271 + 4099) % 2147483647 := Int.emod_nonneg _ (by decide)
    have e2 : (b * 48271 + 4099) % 2147483647 < 2147483647 := Int.emod_lt_of_pos _ (by decide)
    rw [mulG_ok 64 64 (by omega) (by omega) (by decide)]
    simp only [Option.bind_some]
    rw [modG_pos hm]
    exact ⟨_, _, rfl, ⟨_, _, rfl, h1, e1, e2⟩, Int.emod_nonneg _ (by omega), Int.emod_lt_of_pos _ hm⟩
theorem bag_ok (n : Int) : ∃ xs, m__law_bag n = some xs ∧ Bag xs := by
  unfold m__law_bag
  by_cases z : 1000000000000000000 ≤ n
  · rw [if_pos (by simpa using z)]
    exact ⟨_, rfl, _, _, rfl, by omega, by omega, by omega⟩
  · rw [if_neg (by simpa using z)]
    exact ⟨_, rfl, _, _, rfl, by omega, by omega, by omega⟩
theorem gcd_loop {β : Type} : ∀ (n : Nat) (a b : Int), 0 ≤ a → 0 ≤ b → b.natAbs < n →
    loopW (ρ := β) (fun (s : Int × Int) => if (decide (0 < s.2)) = true then ((modG s.1 s.2).bind fun z => some (.nxt (s.2, z))) else (some (.brk (s.1, s.2)))) n (a, b) = some (.brk ((Int.gcd a b : Int), 0))
  | 0, a, b, _, _, h => by omega
  | n + 1, a, b, ha, hb, h => by
    unfold loopW
    by_cases z : 0 < b
    · have h1 := Int.emod_nonneg a (show b ≠ 0 by omega)
      have h2 := Int.emod_lt_of_pos a z
      rw [if_pos (by simpa using z), modG_pos z]
      simp only [Option.bind_some]
      rw [gcd_loop n b (a % b) (by omega) h1 (by omega)]
      congr 4
      rw [Int.gcd_comm, Int.emod_def, Int.gcd_comm]
      rw [show a - b * (a / b) = a + b * (-(a / b)) by rw [Int.mul_neg, Int.sub_eq_add_neg]]
      rw [Int.gcd_add_mul_left_right, Int.gcd_comm]
    · have e : b = 0 := by omega
      subst e
      rw [if_neg (by simp)]
      simp only [Option.bind_some]
      rw [Int.gcd_zero_right]
      congr 3
      omega
theorem gcd_pos {a b : Int} (h : 0 < b) : (0 : Int) < (Int.gcd a b : Int) := by
  have := Int.gcd_pos_of_ne_zero_right (a := a) (b := b) (by omega)
  omega
theorem gcd_le {a b : Int} (h : 0 < b) : (Int.gcd a b : Int) ≤ b := Int.le_of_dvd h (Int.gcd_dvd_right a b)
theorem gcd_ok (a b : Int) : m__law_gcd a b = some (Int.gcd a b : Int) := by
  unfold m__law_gcd
  simp only [Option.bind_some, iabs_eq]
  rw [gcd_loop _ _ _ (by omega) (by omega) (by omega)]
  simp only [Option.bind_some, Lp.out]
  congr 2
/-- lowest terms -/
structure Low (t b : Int) (r : T2 Int Int) : Prop where
  pos : 0 < r.b
  le : r.b ≤ b
  abs : r.a.natAbs ≤ t.natAbs
  eq : r.a * b = t * r.b
  one : Int.gcd r.a r.b = 1
theorem low_mk {t b : Int} (h : 0 < b) : Low t b ⟨t / (Int.gcd t b : Int), b / (Int.gcd t b : Int)⟩ := by
  have hg := gcd_pos (a := t) h
  have h1 : (Int.gcd t b : Int) * (t / (Int.gcd t b : Int)) = t := Int.mul_ediv_cancel' (Int.gcd_dvd_left t b)
  have h2 : (Int.gcd t b : Int) * (b / (Int.gcd t b : Int)) = b := Int.mul_ediv_cancel' (Int.gcd_dvd_right t b)
  have hp : 0 < b / (Int.gcd t b : Int) := by
    rcases Int.lt_trichotomy (b / (Int.gcd t b : Int)) 0 with z | z | z
    · have := Int.mul_neg_of_pos_of_neg hg z; omega
    · rw [z, Int.mul_zero] at h2; omega
    · exact z
  refine ⟨hp, Int.ediv_le_self _ (by omega), ?_, ?_, ?_⟩
  · exact Int.natAbs_ediv_le_natAbs _ _
  · show t / _ * b = t * (b / _)
    generalize hG : (Int.gcd t b : Int) = g at *
    generalize hx : t / g = x at *
    generalize hy : b / g = y at *
    rw [← h1, ← h2]
    rw [← Int.mul_assoc, Int.mul_comm x g]
  · show Int.gcd (t / _) (b / _) = 1
    exact Int.gcd_ediv_gcd_ediv_gcd (by omega)
/-! ### plain: sizes -/
theorem pow_le {a n m : Nat} (h : a < 2 ^ n) (hn : n ≤ m) : a < 2 ^ m := Nat.lt_of_lt_of_le h (Nat.pow_le_pow_right (by decide) hn)
theorem sz_mul {a b : Int} {n m : Nat} (ha : a.natAbs < 2 ^ n) (hb : b.natAbs < 2 ^ m) : (a * b).natAbs < 2 ^ (n + m) := by
  rw [Int.natAbs_mul, Nat.pow_add]
  exact Nat.mul_lt_mul'' ha hb
theorem sz_add {a b : Int} {n : Nat} (ha : a.natAbs < 2 ^ n) (hb : b.natAbs < 2 ^ n) : (a + b).natAbs < 2 ^ (n + 1) := by
  rw [Nat.pow_succ]; omega
theorem sz_sub {a b : Int} {n : Nat} (ha : a.natAbs < 2 ^ n) (hb : b.natAbs < 2 ^ n) : (a - b).natAbs < 2 ^ (n + 1) := by
  rw [Nat.pow_succ]; omega
/-! ### plain: ratios -/
structure Rt (n : Nat) (r : T2 Int Int) : Prop where
  pos : 0 < r.b
  sa : r.a.natAbs < 2 ^ n
  sb : r.b.natAbs < 2 ^ n
  one : Int.gcd r.a r.b = 1
theorem Rt.mono {n m : Nat} {r : T2 Int Int} (h : Rt n r) (hn : n ≤ m) : Rt m r := ⟨h.pos, pow_le h.sa hn, pow_le h.sb hn, h.one⟩
theorem Low.rt {t b : Int} {r : T2 Int Int} {n : Nat} (w : Low t b r) (ht : t.natAbs < 2 ^ n) (hb : b.natAbs < 2 ^ n) : Rt n r :=
  ⟨w.pos, Nat.lt_of_le_of_lt w.abs ht, Nat.lt_of_le_of_lt (by have := w.pos; have := w.le; omega) hb, w.one⟩
theorem gcd_dvd {a b d : Int} (h : b ∣ a * d) (g : Int.gcd a b = 1) : b ∣ d := by
  rw [← Int.natAbs_dvd_natAbs, Int.natAbs_mul] at h
  rw [← Int.natAbs_dvd_natAbs]
  exact Nat.Coprime.dvd_of_dvd_mul_left (by rw [Nat.Coprime, Nat.gcd_comm]; exact g) h
theorem rt_same {r q : T2 Int Int} (h1 : 0 < r.b) (h2 : 0 < q.b) (g1 : Int.gcd r.a r.b = 1) (g2 : Int.gcd q.a q.b = 1) (e : r.a * q.b = q.a * r.b) : r = q := by
  obtain ⟨a, b⟩ := r
  obtain ⟨c, d⟩ := q
  simp only at *
  have d1 : b ∣ d := by
    have : b ∣ a * d := ⟨c, by rw [e, Int.mul_comm]⟩
    exact gcd_dvd this g1
  have d2 : d ∣ b := by
    have : d ∣ c * b := ⟨a, by rw [← e, Int.mul_comm]⟩
    exact gcd_dvd this g2
  have l1 := Int.le_of_dvd h2 d1
  have l2 := Int.le_of_dvd h1 d2
  have eb : b = d := by omega
  subst eb
  have : a = c := Int.eq_of_mul_eq_mul_right (by omega) e
  rw [this]
theorem Low.is {t b : Int} {r q : T2 Int Int} {n : Nat} (w : Low t b r) (hb : 0 < b) (h : Rt n q) (e : q.a * b = t * q.b) : r = q := by
  refine rt_same w.pos h.pos w.one h.one ?_
  have h1 := w.eq
  refine Int.eq_of_mul_eq_mul_right (show b ≠ 0 by omega) ?_
  grind
/-! ### plain: points -/
def g3 (a b n : Int) : Nat := Int.gcd (Int.gcd a n : Int) b
theorem g3_pos {a b n : Int} (h : n ≠ 0) : 0 < g3 a b n := by
  unfold g3
  have := Int.gcd_pos_of_ne_zero_right (a := a) (b := n) h
  exact Int.gcd_pos_of_ne_zero_left _ (by omega)
theorem g3_a {a b n : Int} : (g3 a b n : Int) ∣ a := Int.dvd_trans (Int.gcd_dvd_left _ _) (Int.gcd_dvd_left _ _)
theorem g3_n {a b n : Int} : (g3 a b n : Int) ∣ n := Int.dvd_trans (Int.gcd_dvd_left _ _) (Int.gcd_dvd_right _ _)
theorem g3_b {a b n : Int} : (g3 a b n : Int) ∣ b := Int.gcd_dvd_right _ _
theorem g3_le {a b n : Int} (h : 0 < n) : (g3 a b n : Int) ≤ n := Int.le_of_dvd h g3_n
theorem g3_mul (k a b n : Int) : g3 (k * a) (k * b) (k * n) = k.natAbs * g3 a b n := by
  unfold g3
  rw [Int.gcd_mul_left, Int.natCast_mul]
  rcases Int.natAbs_eq k with e | e
  · rw [← e, Int.gcd_mul_left]
  · have : (k.natAbs : Int) = -k := by omega
    rw [this, Int.neg_mul, Int.gcd_comm, Int.gcd_neg, Int.gcd_comm, Int.gcd_mul_left]
theorem g3_dvd {a b n d x : Int} (h : g3 a b n = 1) (ha : d ∣ a * x) (hb : d ∣ b * x) (hn : d ∣ n * x) : d ∣ x := by
  have h1 : g3 (x * a) (x * b) (x * n) = x.natAbs := by rw [g3_mul, h, Nat.mul_one]
  have h2 : d ∣ (g3 (x * a) (x * b) (x * n) : Int) := by
    unfold g3
    exact Int.dvd_coe_gcd (Int.dvd_coe_gcd (by rw [Int.mul_comm]; exact ha) (by rw [Int.mul_comm]; exact hn)) (by rw [Int.mul_comm]; exact hb)
  rw [h1] at h2
  exact Int.dvd_natAbs.mp h2
structure Low3 (a b n : Int) (r : T3 Int Int Int) : Prop where
  pos : 0 < r.c
  le : r.c ≤ n
  sa : r.a.natAbs ≤ a.natAbs
  sb : r.b.natAbs ≤ b.natAbs
  ea : r.a * n = a * r.c
  eb : r.b * n = b * r.c
  one : g3 r.a r.b r.c = 1
structure Pt (n : Nat) (r : T3 Int Int Int) : Prop where
  pos : 0 < r.c
  sa : r.a.natAbs < 2 ^ n
  sb : r.b.natAbs < 2 ^ n
  sc : r.c.natAbs < 2 ^ n
  one : g3 r.a r.b r.c = 1
theorem Pt.mono {n m : Nat} {r : T3 Int Int Int} (h : Pt n r) (hn : n ≤ m) : Pt m r := ⟨h.pos, pow_le h.sa hn, pow_le h.sb hn, pow_le h.sc hn, h.one⟩
theorem Low3.pt {a b n : Int} {r : T3 Int Int Int} {k : Nat} (w : Low3 a b n r) (ha : a.natAbs < 2 ^ k) (hb : b.natAbs < 2 ^ k) (hn : n.natAbs < 2 ^ k) : Pt k r :=
  ⟨w.pos, Nat.lt_of_le_of_lt w.sa ha, Nat.lt_of_le_of_lt w.sb hb, Nat.lt_of_le_of_lt (by have := w.pos; have := w.le; omega) hn, w.one⟩
theorem low3_mk {a b n : Int} (h : 0 < n) : Low3 a b n ⟨a / (g3 a b n : Int), b / (g3 a b n : Int), n / (g3 a b n : Int)⟩ := by
  have hg : (0 : Int) < (g3 a b n : Int) := by have := g3_pos (a := a) (b := b) (n := n) (by omega); omega
  have h1 : (g3 a b n : Int) * (a / (g3 a b n : Int)) = a := Int.mul_ediv_cancel' g3_a
  have h2 : (g3 a b n : Int) * (b / (g3 a b n : Int)) = b := Int.mul_ediv_cancel' g3_b
  have h3 : (g3 a b n : Int) * (n / (g3 a b n : Int)) = n := Int.mul_ediv_cancel' g3_n
  have hp : 0 < n / (g3 a b n : Int) := by
    rcases Int.lt_trichotomy (n / (g3 a b n : Int)) 0 with z | z | z
    · have := Int.mul_neg_of_pos_of_neg hg z; omega
    · rw [z, Int.mul_zero] at h3; omega
    · exact z
  have h4 := g3_mul (g3 a b n : Int) (a / (g3 a b n : Int)) (b / (g3 a b n : Int)) (n / (g3 a b n : Int))
  rw [h1, h2, h3] at h4
  have h5 : g3 (a / (g3 a b n : Int)) (b / (g3 a b n : Int)) (n / (g3 a b n : Int)) = 1 := by
    have e : ((g3 a b n : Nat) : Int).natAbs = g3 a b n := Int.natAbs_natCast _
    rw [e] at h4
    exact Nat.eq_of_mul_eq_mul_left (show 0 < g3 a b n by omega) (by rw [Nat.mul_one]; exact h4.symm)
  refine ⟨hp, Int.ediv_le_self _ (by omega), Int.natAbs_ediv_le_natAbs _ _, Int.natAbs_ediv_le_natAbs _ _, ?_, ?_, h5⟩
  · show a / _ * n = a * (n / _)
    generalize hG : (g3 a b n : Int) = g at *
    generalize hx : a / g = x at *
    generalize hy : n / g = y at *
    rw [← h1, ← h3]; grind
  · show b / _ * n = b * (n / _)
    generalize hG : (g3 a b n : Int) = g at *
    generalize hx : b / g = x at *
    generalize hy : n / g = y at *
    rw [← h2, ← h3]; grind
theorem pt_same {p q : T3 Int Int Int} (h1 : 0 < p.c) (h2 : 0 < q.c) (g1 : g3 p.a p.b p.c = 1) (g2 : g3 q.a q.b q.c = 1) (ea : p.a * q.c = q.a * p.c) (eb : p.b * q.c = q.b * p.c) : p = q := by
  obtain ⟨a, b, c⟩ := p
  obtain ⟨x, y, z⟩ := q
  simp only at *
  have d1 : c ∣ z := g3_dvd g1 ⟨x, by rw [ea, Int.mul_comm]⟩ ⟨y, by rw [eb, Int.mul_comm]⟩ ⟨z, rfl⟩
  have d2 : z ∣ c := g3_dvd g2 ⟨a, by rw [← ea, Int.mul_comm]⟩ ⟨b, by rw [← eb, Int.mul_comm]⟩ ⟨c, rfl⟩
  have l1 := Int.le_of_dvd h2 d1
  have l2 := Int.le_of_dvd h1 d2
  have e : c = z := by omega
  subst e
  have e1 : a = x := Int.eq_of_mul_eq_mul_right (by omega) ea
  have e2 : b = y := Int.eq_of_mul_eq_mul_right (by omega) eb
  rw [e1, e2]
theorem Low3.is' {a b n : Int} {r q : T3 Int Int Int} (w : Low3 a b n r) (hn : 0 < n) (h : 0 < q.c) (g : g3 q.a q.b q.c = 1) (ea : q.a * n = a * q.c) (eb : q.b * n = b * q.c) : r = q := by
  refine pt_same w.pos h w.one g ?_ ?_
  · have h1 := w.ea
    refine Int.eq_of_mul_eq_mul_right (show n ≠ 0 by omega) ?_
    grind
  · have h1 := w.eb
    refine Int.eq_of_mul_eq_mul_right (show n ≠ 0 by omega) ?_
    grind
theorem Low3.is {a b n : Int} {r q : T3 Int Int Int} {k : Nat} (w : Low3 a b n r) (hn : 0 < n) (h : Pt k q) (ea : q.a * n = a * q.c) (eb : q.b * n = b * q.c) : r = q := w.is' hn h.pos h.one ea eb
theorem Low3.both {a b n : Int} {r q : T3 Int Int Int} (w : Low3 a b n r) (v : Low3 a b n q) (hn : 0 < n) : r = q := w.is' hn v.pos v.one v.ea v.eb
theorem lawpt_ok {a b n : Int} (h : 0 < n) (hn : n.natAbs < 2 ^ 8000) : ∃ r, m__law_point a b n = some r ∧ Low3 a b n r := by
  unfold m__law_point
  have hg : (0 : Int) < (g3 a b n : Int) := by have := g3_pos (a := a) (b := b) (n := n) (by omega); omega
  have hl := g3_le (a := a) (b := b) h
  have hs : (g3 a b n : Int).natAbs < 2 ^ 8000 := Nat.lt_of_le_of_lt (by omega) hn
  rw [gcd_ok]
  simp only [Option.bind_some]
  rw [gcd_ok]
  simp only [Option.bind_some]
  rw [if_neg (by simp; omega)]
  simp only [Option.bind_some]
  have e3 : ((Int.gcd (Int.gcd a n : Int) b : Nat) : Int) = (g3 a b n : Int) := rfl
  rw [e3, divG_pos 8000 hg hs (by decide), divG_pos 8000 hg hs (by decide), divG_pos 8000 hg hs (by decide)]
  exact ⟨_, rfl, low3_mk h⟩
/-- the law's loop over its cells -/
theorem cell0_ok (ns : List Int) : ∃ c, m__law_cell ns 0 = some c := by
  unfold m__law_cell
  by_cases z : 0 < ns.length
  · rw [if_pos (by simpa using z)]
    have := ix_lt z
    rw [show ((0 : Nat) : Int) = 0 from rfl] at this
    rw [this]; exact ⟨_, rfl⟩
  · rw [if_neg (by simpa using z)]; exact ⟨_, rfl⟩
theorem cell_ok (ns : List Int) (k : Nat) : ∃ c, m__law_cell ns (k : Int) = some c := by
  unfold m__law_cell
  by_cases z : k < ns.length
  · rw [if_pos (by simpa using z), ix_lt z]; exact ⟨_, rfl⟩
  · rw [if_neg (by simpa using z)]; exact ⟨_, rfl⟩
/-! ### plain: lists by place -/
theorem foldO_at {α τ : Type} {f : α → τ → Option τ} (I : Nat → τ → Prop) : ∀ {xs : List α} {s : τ} (k : Nat), (∀ j x s, xs[j]? = some x → I (k + j) s → ∃ s', f x s = some s' ∧ I (k + j + 1) s') → I k s → ∃ s', foldO f xs s = some s' ∧ I (k + xs.length) s'
  | [], s, k, _, h => ⟨s, rfl, h⟩
  | x :: xs, s, k, hf, h => by
    obtain ⟨s1, e1, h1⟩ := hf 0 x s rfl h
    obtain ⟨s2, e2, h2⟩ := foldO_at I (xs := xs) (s := s1) (k + 1) (fun j y s hy hi => by
      have := hf (j + 1) y s (by simpa using hy) (by rw [show k + (j + 1) = k + 1 + j by omega]; exact hi)
      rwa [show k + (j + 1) + 1 = k + 1 + j + 1 by omega] at this) (by simpa using h1)
    refine ⟨s2, ?_, by rw [List.length_cons, show k + (xs.length + 1) = k + 1 + xs.length by omega]; exact h2⟩
    show (f x s).bind _ = _
    rw [e1]; exact e2
theorem rangeL_len (lo : Int) (n : Nat) : (rangeL lo n).length = n := by unfold rangeL; rw [List.length_map, List.length_range]
theorem rangeL_at {lo : Int} {n j : Nat} {x : Int} (h : (rangeL lo n)[j]? = some x) : x = lo + (j : Int) ∧ j < n := by
  have hl : j < n := by
    have := (List.getElem?_eq_some_iff.mp h).1
    rwa [rangeL_len] at this
  rw [rangeL_get hl] at h
  exact ⟨(Option.some.inj h).symm, hl⟩
theorem foldO_range {τ : Type} {f : Int → τ → Option τ} {lo : Int} {n : Nat} {s : τ} (I : Nat → τ → Prop) (hf : ∀ j s, j < n → I j s → ∃ s', f (lo + (j : Int)) s = some s' ∧ I (j + 1) s') (h : I 0 s) : ∃ s', foldO f (rangeL lo n) s = some s' ∧ I n s' := by
  obtain ⟨s', e, h'⟩ := foldO_at I (xs := rangeL lo n) (s := s) (f := f) 0 (fun j x s hx hi => by
    obtain ⟨e, hl⟩ := rangeL_at hx
    subst e
    rw [Nat.zero_add] at hi ⊢
    exact hf j s hl hi) h
  rw [Nat.zero_add, rangeL_len] at h'
  exact ⟨s', e, h'⟩
theorem ix_neg {α : Type} {xs : List α} {k : Nat} (h : k < xs.length) : ix xs (-1 - (k : Int)) = some (xs[xs.length - 1 - k]'(by omega)) := by
  unfold ix atI ixN
  rw [if_neg (by omega), if_pos (by omega)]
  simp only [Option.bind_some]
  rw [show (-1 - (k : Int) + (xs.length : Int)).toNat = xs.length - 1 - k by omega]
  exact List.getElem?_eq_getElem _
theorem slice_from {α : Type} {xs : List α} {k : Nat} (h : k ≤ xs.length) : slice xs (some (k : Int)) none = xs.drop k := by
  unfold slice
  rw [HT.sIx_nat, HT.sIx_none, Nat.min_eq_left h]
  exact List.take_of_length_le (by rw [List.length_drop]; omega)
theorem slice_to {α : Type} {xs : List α} {k : Nat} (h : k ≤ xs.length) : slice xs none (some (k : Int)) = xs.take k := by
  unfold slice
  rw [HT.sIx_nat, HT.sIx_none, Nat.min_eq_left h]
  rfl
theorem mapO_all {α β : Type} {f : α → Option β} {g : α → β} : ∀ {xs : List α}, (∀ x ∈ xs, f x = some (g x)) → mapO f xs = some (xs.map g)
  | [], _ => rfl
  | x :: xs, h => by
    show (f x).bind _ = _
    rw [h x List.mem_cons_self]
    simp only [Option.bind_some]
    rw [mapO_all fun y hy => h y (List.mem_cons_of_mem _ hy)]
    rfl
/-! ### plain: closed ways -/
section
variable {α : Type}
def ps (f : α → α → Int) : α → List α → Int
  | _, [] => 0
  | a, x :: xs => f a x + ps f x xs
theorem ps_append (f : α → α → Int) : ∀ (a : α) (xs ys : List α) (b : α), xs.getLast? = some b → ps f a (xs ++ ys) = ps f a xs + ps f b ys
  | a, [], ys, b, h => by cases h
  | a, [x], ys, b, h => by cases h; simp [ps]
  | a, x :: y :: xs, ys, b, h => by
    have := ps_append f x (y :: xs) ys b (by simpa using h)
    show f a x + ps f x (y :: xs ++ ys) = f a x + ps f x (y :: xs) + ps f b ys
    rw [this]; omega
/-- once round -/
def cy (f : α → α → Int) (xs : List α) : Int := match xs.getLast? with
  | some l => ps f l xs
  | none => 0
theorem cy_rot (f : α → α → Int) (xs ys : List α) : cy f (xs ++ ys) = cy f (ys ++ xs) := by
  cases hx : xs.getLast? with
  | none => rw [List.getLast?_eq_none_iff] at hx; subst hx; simp
  | some a =>
    cases hy : ys.getLast? with
    | none => rw [List.getLast?_eq_none_iff] at hy; subst hy; simp
    | some b =>
      have e1 : (xs ++ ys).getLast? = some b := by rw [List.getLast?_append, hy]; rfl
      have e2 : (ys ++ xs).getLast? = some a := by rw [List.getLast?_append, hx]; rfl
      unfold cy
      rw [e1, e2]
      show ps f b (xs ++ ys) = ps f a (ys ++ xs)
      rw [ps_append f b xs ys a hx, ps_append f a ys xs b hy]; omega
theorem ps_one (f : α → α → Int) : ∀ (a : α) (xs : List α) (b c : α), (a :: xs).getLast? = some c → ps f a (xs ++ [b]) = ps f a xs + f c b
  | a, [], b, c, h => by cases h; simp [ps]
  | a, x :: xs, b, c, h => by
    have := ps_one f x xs b c (by simpa using h)
    show f a x + ps f x (xs ++ [b]) = f a x + ps f x xs + f c b
    rw [this]; omega
theorem ps_rev (f : α → α → Int) (hf : ∀ a b, f b a = -f a b) : ∀ (xs : List α) (a b : α), ps f b (xs.reverse ++ [a]) = -ps f a (xs ++ [b])
  | [], a, b => by simp [ps, hf a b]
  | x :: xs, a, b => by
    have ih := ps_rev f hf xs x b
    rw [List.reverse_cons]
    have e : ((b :: (xs.reverse ++ [x])).getLast?) = some x := by simp [List.getLast?_cons]
    rw [ps_one f b (xs.reverse ++ [x]) a x e, ih]
    show -ps f x (xs ++ [b]) + f x a = -(f a x + ps f x (xs ++ [b]))
    rw [hf a x]; omega
theorem cy_rev (f : α → α → Int) (hf : ∀ a b, f b a = -f a b) (xs : List α) : cy f xs.reverse = -cy f xs := by
  cases xs with
  | nil => rfl
  | cons x t =>
    obtain ⟨l, hl⟩ : ∃ l, (x :: t).getLast? = some l := by cases h : (x :: t).getLast? with
      | none => rw [List.getLast?_eq_none_iff] at h; cases h
      | some l => exact ⟨l, rfl⟩
    have e1 : (x :: t).reverse.getLast? = some x := by simp
    unfold cy
    rw [hl, e1]
    show ps f x (x :: t).reverse = -ps f l (x :: t)
    rw [List.reverse_cons, ps_rev f hf t x x, ps_one f x t x l hl]
    show -(ps f x t + f l x) = -(f l x + ps f x t)
    omega
end
abbrev P3 : Type := T3 Int Int Int
def prev (xs : List P3) (j : Nat) : P3 := xs.getD (if j = 0 then xs.length - 1 else j - 1) ⟨0, 0, 0⟩
theorem ix_prev {xs : List P3} {j : Nat} (h : j < xs.length) : ix xs ((j : Int) - 1) = some (prev xs j) := by
  unfold prev
  by_cases z : j = 0
  · subst z
    have := ix_neg (xs := xs) (k := 0) h
    rw [show (-1 : Int) - ((0 : Nat) : Int) = ((0 : Nat) : Int) - 1 by omega] at this
    rw [this, if_pos rfl, List.getD_eq_getElem?_getD, List.getElem?_eq_getElem (by omega)]
    rfl
  · have h2 : j - 1 < xs.length := by omega
    have := ix_lt h2
    rw [show ((j - 1 : Nat) : Int) = (j : Int) - 1 by omega] at this
    rw [this, if_neg z, List.getD_eq_getElem?_getD, List.getElem?_eq_getElem h2]
    rfl
theorem prev_mem {xs : List P3} {j : Nat} (h : j < xs.length) : prev xs j ∈ xs := by
  unfold prev
  rw [List.getD_eq_getElem?_getD]
  have hl : (if j = 0 then xs.length - 1 else j - 1) < xs.length := by split <;> omega
  rw [List.getElem?_eq_getElem hl]
  exact List.getElem_mem hl
/-- the sum so far -/
def St (f : P3 → P3 → Int) (xs : List P3) : Nat → Int
  | 0 => 0
  | k + 1 => St f xs k + f (prev xs k) (xs.getD k ⟨0, 0, 0⟩)
theorem st_ps (f : P3 → P3 → Int) (xs : List P3) : ∀ k, k < xs.length → St f xs k + ps f (prev xs k) (xs.drop k) = ps f (prev xs 0) xs
  | 0, h => by simp [St]
  | k + 1, h => by
    have ih := st_ps f xs k (by omega)
    rw [List.drop_eq_getElem_cons (show k < xs.length by omega)] at ih
    show St f xs k + f (prev xs k) (xs.getD k ⟨0, 0, 0⟩) + ps f (prev xs (k + 1)) (xs.drop (k + 1)) = _
    have e : xs.getD k ⟨0, 0, 0⟩ = xs[k] := by rw [List.getD_eq_getElem?_getD, List.getElem?_eq_getElem (by omega)]; rfl
    have e2 : prev xs (k + 1) = xs[k] := by
      unfold prev
      rw [if_neg (by omega), Nat.add_sub_cancel]; exact e
    rw [e2, e]
    have ih' : St f xs k + (f (prev xs k) xs[k] + ps f xs[k] (xs.drop (k + 1))) = ps f (prev xs 0) xs := ih
    omega
theorem st_cy (f : P3 → P3 → Int) (xs : List P3) (h : 0 < xs.length) : St f xs xs.length = cy f xs := by
  obtain ⟨n, hn⟩ : ∃ n, xs.length = n + 1 := ⟨xs.length - 1, by omega⟩
  have e0 : xs.getLast? = some (prev xs 0) := by
    unfold prev
    rw [List.getLast?_eq_getElem?, if_pos rfl, List.getD_eq_getElem?_getD, List.getElem?_eq_getElem (by omega)]
    rfl
  have := st_ps f xs n (by omega)
  unfold cy
  rw [e0]
  show _ = ps f (prev xs 0) xs
  rw [← this, hn, List.drop_eq_getElem_cons (show n < xs.length by omega), List.drop_eq_nil_of_le (by omega)]
  show St f xs n + f (prev xs n) (xs.getD n ⟨0, 0, 0⟩) = St f xs n + (f (prev xs n) xs[n] + 0)
  rw [List.getD_eq_getElem?_getD, List.getElem?_eq_getElem (by omega)]
  simp
/-- the bottoms of all -/
def PB : List P3 → Int
  | [] => 1
  | p :: xs => p.c * PB xs
theorem pb_append : ∀ (xs ys : List P3), PB (xs ++ ys) = PB xs * PB ys
  | [], ys => by simp [PB]
  | x :: xs, ys => by show x.c * PB (xs ++ ys) = x.c * PB xs * PB ys; rw [pb_append xs ys, Int.mul_assoc]
theorem pb_dvd : ∀ {xs : List P3} {p : P3}, p ∈ xs → p.c ∣ PB xs
  | x :: xs, p, h => by
    rcases List.mem_cons.mp h with e | e
    · subst e; exact Int.dvd_mul_right _ _
    · exact Int.dvd_trans (pb_dvd e) (Int.dvd_mul_left _ _)
theorem pb_pos : ∀ {xs : List P3}, (∀ p ∈ xs, 0 < p.c) → 0 < PB xs
  | [], _ => by decide
  | x :: xs, h => Int.mul_pos (h x List.mem_cons_self) (pb_pos fun p hp => h p (List.mem_cons_of_mem _ hp))
/-- twice the triangle with (0, 0), over P * P -/
def cr (P : Int) (p q : P3) : Int := (p.a * q.b - q.a * p.b) * ((P / p.c) * (P / q.c))
theorem cr_neg (P : Int) (p q : P3) : cr P q p = -cr P p q := by unfold cr; grind
theorem cr_eq {P : Int} {p q : P3} (hp : p.c ∣ P) (hq : q.c ∣ P) : cr P p q * (p.c * q.c) = (p.a * q.b - q.a * p.b) * (P * P) := by
  unfold cr
  have h1 := Int.ediv_mul_cancel hp
  have h2 := Int.ediv_mul_cancel hq
  generalize P / p.c = u at *
  generalize P / q.c = v at *
  grind
/-! ### plain: the sides of a closed way -/
section
variable {α β : Type}
def sdf : α → List α → List (T2 α α)
  | _, [] => []
  | a, x :: xs => ⟨a, x⟩ :: sdf x xs
def sd (xs : List α) : List (T2 α α) := match xs.getLast? with
  | some l => sdf l xs
  | none => []
theorem sdf_len : ∀ (a : α) (xs : List α), (sdf a xs).length = xs.length
  | _, [] => rfl
  | a, x :: xs => by show (sdf x xs).length + 1 = _; rw [sdf_len]; rfl
theorem sd_len (xs : List α) : (sd xs).length = xs.length := by
  unfold sd
  cases h : xs.getLast? with
  | none => rw [List.getLast?_eq_none_iff] at h; subst h; rfl
  | some l => exact sdf_len l xs
theorem sdf_at : ∀ {xs : List α} {a : α} {j : Nat} {q : α}, xs[j]? = some q → (sdf a xs)[j]? = some ⟨(a :: xs)[j]?.getD q, q⟩
  | [], _, _, _, h => by simp at h
  | x :: xs, a, 0, q, h => by simp at h; subst h; rfl
  | x :: xs, a, j + 1, q, h => by
    have := sdf_at (xs := xs) (a := x) (j := j) (q := q) (by simpa using h)
    show (sdf x xs)[j]? = _
    rw [this]
    rfl
/-- side j: the item ahead, item j -/
theorem sd_at {xs : List α} {j : Nat} (h : j < xs.length) : ∃ p q, (sd xs)[j]? = some ⟨p, q⟩ ∧ ix xs ((j : Int) - 1) = some p ∧ ix xs (j : Int) = some q ∧ p ∈ xs ∧ q ∈ xs := by
  obtain ⟨l, hl⟩ : ∃ l, xs.getLast? = some l := by
    cases h2 : xs.getLast? with
    | none => rw [List.getLast?_eq_none_iff] at h2; subst h2; simp at h
    | some l => exact ⟨l, rfl⟩
  have hq : xs[j]? = some xs[j] := List.getElem?_eq_getElem h
  have e := sdf_at (a := l) hq
  have es : sd xs = sdf l xs := by unfold sd; rw [hl]
  rw [es]
  by_cases z : j = 0
  · subst z
    refine ⟨l, xs[0], e, ?_, ix_lt h, List.mem_of_getLast? hl, List.getElem_mem h⟩
    have := ix_neg (xs := xs) (k := 0) h
    rw [show (-1 : Int) - ((0 : Nat) : Int) = ((0 : Nat) : Int) - 1 by omega] at this
    rw [this]
    rw [List.getLast?_eq_getElem?] at hl
    rw [← hl, List.getElem?_eq_getElem (by omega)]
    simp
  · have h2 : j - 1 < xs.length := by omega
    have e1 : (l :: xs)[j]?.getD xs[j] = xs[j - 1] := by
      obtain ⟨i, rfl⟩ : ∃ i, j = i + 1 := ⟨j - 1, by omega⟩
      show xs[i]?.getD _ = _
      rw [List.getElem?_eq_getElem (by omega)]
      rfl
    rw [e1] at e
    refine ⟨xs[j - 1], xs[j], e, ?_, ix_lt h, List.getElem_mem h2, List.getElem_mem h⟩
    have := ix_lt h2
    rw [show ((j - 1 : Nat) : Int) = (j : Int) - 1 by omega] at this
    exact this
theorem sd_mem {xs : List α} {p q : α} (h : ⟨p, q⟩ ∈ sd xs) : p ∈ xs ∧ q ∈ xs := by
  obtain ⟨j, hj⟩ := List.getElem?_of_mem h
  have hl := (List.getElem?_eq_some_iff.mp hj).1
  rw [sd_len] at hl
  obtain ⟨p', q', e, _, _, h1, h2⟩ := sd_at hl
  rw [hj] at e
  cases e
  exact ⟨h1, h2⟩
theorem sdf_map (f : α → β) : ∀ (a : α) (xs : List α), sdf (f a) (xs.map f) = (sdf a xs).map fun s => ⟨f s.a, f s.b⟩
  | _, [] => rfl
  | a, x :: xs => by show _ :: sdf (f x) (xs.map f) = _; rw [sdf_map f x xs]; rfl
theorem sd_map (f : α → β) (xs : List α) : sd (xs.map f) = (sd xs).map fun s => ⟨f s.a, f s.b⟩ := by
  unfold sd
  rw [List.getLast?_map]
  cases xs.getLast? with
  | none => rfl
  | some l => exact sdf_map f l xs
theorem ps_sum (f : α → α → Int) : ∀ (a : α) (xs : List α), ps f a xs = ((sdf a xs).map fun s => f s.a s.b).sum
  | _, [] => rfl
  | a, x :: xs => by show f a x + ps f x xs = _; rw [ps_sum f x xs]; rfl
theorem cy_sum (f : α → α → Int) (xs : List α) : cy f xs = ((sd xs).map fun s => f s.a s.b).sum := by
  unfold cy sd
  cases xs.getLast? with
  | none => rfl
  | some l => exact ps_sum f l xs
theorem cy_map (f : β → β → Int) (h : α → β) (xs : List α) : cy f (xs.map h) = cy (fun a b => f (h a) (h b)) xs := by
  rw [cy_sum, cy_sum, sd_map, List.map_map]
  rfl
theorem ps_tel (φ : α → Int) : ∀ (a : α) (xs : List α) (l : α), (a :: xs).getLast? = some l → ps (fun p q => φ q - φ p) a xs = φ l - φ a
  | a, [], l, h => by cases h; simp [ps]
  | a, x :: xs, l, h => by
    have := ps_tel φ x xs l (by simpa using h)
    show φ x - φ a + ps _ x xs = _
    rw [this]; omega
theorem cy_tel (φ : α → Int) (xs : List α) : cy (fun p q => φ q - φ p) xs = 0 := by
  unfold cy
  cases h : xs.getLast? with
  | none => rfl
  | some l =>
    show ps _ l xs = 0
    rw [ps_tel φ l xs l (by rw [List.getLast?_cons, h]; rfl)]; omega
theorem cy_congr {f g : α → α → Int} {xs : List α} (h : ∀ p ∈ xs, ∀ q ∈ xs, f p q = g p q) : cy f xs = cy g xs := by
  rw [cy_sum, cy_sum]
  congr 1
  refine List.map_congr_left fun s hs => ?_
  obtain ⟨p, q⟩ := s
  exact h p (sd_mem hs).1 q (sd_mem hs).2
theorem cy_add (f g : α → α → Int) (xs : List α) : cy (fun p q => f p q + g p q) xs = cy f xs + cy g xs := by
  rw [cy_sum, cy_sum, cy_sum]
  induction sd xs with
  | nil => rfl
  | cons s l ih => rw [List.map_cons, List.map_cons, List.map_cons, List.sum_cons, List.sum_cons, List.sum_cons, ih]; omega
theorem cy_mul (k : Int) (f : α → α → Int) (xs : List α) : cy (fun p q => k * f p q) xs = k * cy f xs := by
  rw [cy_sum, cy_sum]
  induction sd xs with
  | nil => simp
  | cons s l ih => rw [List.map_cons, List.map_cons, List.sum_cons, List.sum_cons, ih, Int.mul_add]
theorem cy_le {f : α → α → Int} {xs : List α} {B : Nat} (h : ∀ p ∈ xs, ∀ q ∈ xs, (f p q).natAbs ≤ B) : (cy f xs).natAbs ≤ xs.length * B := by
  rw [cy_sum, ← sd_len xs]
  have : ∀ s ∈ sd xs, (f s.a s.b).natAbs ≤ B := fun s hs => h _ (sd_mem hs).1 _ (sd_mem hs).2
  revert this
  induction sd xs with
  | nil => intro _; simp
  | cons s l ih =>
    intro this
    have h1 := this s List.mem_cons_self
    have h2 := ih fun t ht => this t (List.mem_cons_of_mem _ ht)
    rw [List.map_cons, List.sum_cons, List.length_cons, Nat.succ_mul]
    omega
end
/-! ### loops with a state -/
theorem mapS_inv {α β τ : Type} {f : α → τ → Option (β × τ)} (I : τ → Prop) (P : α → β → Prop) : ∀ {xs : List α} {s : τ}, (∀ x s, x ∈ xs → I s → ∃ y s', f x s = some (y, s') ∧ I s' ∧ P x y) → I s → ∃ ys s', mapS f xs s = some (ys, s') ∧ I s' ∧ ys.length = xs.length ∧ ∀ y ∈ ys, ∃ x ∈ xs, P x y
  | [], s, _, h => ⟨[], s, rfl, h, rfl, fun _ h => nomatch h⟩
  | x :: xs, s, hf, h => by
    obtain ⟨y, s1, e1, h1, p1⟩ := hf x s List.mem_cons_self h
    obtain ⟨ys, s2, e2, h2, l2, p2⟩ := mapS_inv I P (xs := xs) (fun x s hx => hf x s (List.mem_cons_of_mem _ hx)) h1
    refine ⟨y :: ys, s2, ?_, h2, by rw [List.length_cons, List.length_cons, l2], fun z hz => ?_⟩
    · show (f x s).bind _ = _
      rw [e1]
      show (mapS f xs s1).bind _ = _
      rw [e2]; rfl
    · rcases List.mem_cons.mp hz with e | hz
      · subst e; exact ⟨x, List.mem_cons_self, p1⟩
      · obtain ⟨w, hw, p⟩ := p2 z hz
        exact ⟨w, List.mem_cons_of_mem _ hw, p⟩
theorem compL_inv {α β τ : Type} {f : α → τ → Option (Option β × τ)} (I : τ → Prop) (P : α → β → Prop) : ∀ {xs : List α} {s : τ}, (∀ x s, x ∈ xs → I s → ∃ y s', f x s = some (y, s') ∧ I s' ∧ ∀ z, y = some z → P x z) → I s → ∃ ys s', compL f xs s = some (ys, s') ∧ I s' ∧ ys.length ≤ xs.length ∧ ∀ y ∈ ys, ∃ x ∈ xs, P x y
  | [], s, _, h => ⟨[], s, rfl, h, Nat.le_refl _, fun _ h => nomatch h⟩
  | x :: xs, s, hf, h => by
    obtain ⟨y, s1, e1, h1, p1⟩ := hf x s List.mem_cons_self h
    obtain ⟨ys, s2, e2, h2, l2, p2⟩ := compL_inv I P (xs := xs) (fun x s hx => hf x s (List.mem_cons_of_mem _ hx)) h1
    have e3 : ∀ y', y' = y → compL f (x :: xs) s = some ((match y' with | some z => z :: ys | none => ys), s2) := by
      intro y' ey
      subst ey
      show (f x s).bind _ = _
      rw [e1]
      show (compL f xs s1).bind _ = _
      rw [e2]; rfl
    have e3 := e3 y rfl
    cases y with
    | none => exact ⟨ys, s2, e3, h2, by rw [List.length_cons]; omega, fun z hz => by
        obtain ⟨w, hw, p⟩ := p2 z hz
        exact ⟨w, List.mem_cons_of_mem _ hw, p⟩⟩
    | some y => exact ⟨y :: ys, s2, e3, h2, by rw [List.length_cons, List.length_cons]; omega, fun z hz => by
        rcases List.mem_cons.mp hz with e | hz
        · subst e; exact ⟨x, List.mem_cons_self, p1 _ rfl⟩
        · obtain ⟨w, hw, p⟩ := p2 z hz
          exact ⟨w, List.mem_cons_of_mem _ hw, p⟩⟩
theorem slice_sub {α : Type} {xs : List α} {lo hi : Option Int} {x : α} (h : x ∈ slice xs lo hi) : x ∈ xs := by
  unfold slice at h
  exact List.mem_of_mem_drop (List.mem_of_mem_take h)
theorem rngOk_ok {n : Int} (h1 : -1000000 ≤ n) (h2 : n ≤ 1000000) : rngOk n = some () := by unfold rngOk; rw [if_pos (by omega)]
theorem rangeL_mem {lo : Int} {n : Nat} {x : Int} (h : x ∈ rangeL lo n) : lo ≤ x ∧ x < lo + (n : Int) := by
  obtain ⟨j, hj⟩ := List.getElem?_of_mem h
  obtain ⟨e, l⟩ := rangeL_at hj
  omega
/-- a loop that tells whether all turns pass -/
theorem loopL_all {α ρ : Type} {f : α → Unit → Option (Lp Unit ρ)} {r : ρ} (P : α → Prop) : ∀ {xs : List α}, (∀ x ∈ xs, (P x ∧ f x () = some (.nxt ())) ∨ (¬ P x ∧ f x () = some (.ret r))) → ((∀ x ∈ xs, P x) ∧ loopL f xs () = some (.nxt ())) ∨ ((∃ x ∈ xs, ¬ P x) ∧ loopL f xs () = some (.ret r))
  | [], _ => .inl ⟨fun _ h => (nomatch h), rfl⟩
  | x :: xs, h => by
    rcases h x List.mem_cons_self with ⟨p, e⟩ | ⟨p, e⟩
    · rcases loopL_all P (xs := xs) fun y hy => h y (List.mem_cons_of_mem _ hy) with ⟨q, e2⟩ | ⟨⟨y, hy, q⟩, e2⟩
      · refine .inl ⟨fun y hy => ?_, ?_⟩
        · rcases List.mem_cons.mp hy with z | hy
          · subst z; exact p
          · exact q y hy
        · show (f x ()).bind _ = _
          rw [e]; exact e2
      · refine .inr ⟨⟨y, List.mem_cons_of_mem _ hy, q⟩, ?_⟩
        show (f x ()).bind _ = _
        rw [e]; exact e2
    · refine .inr ⟨⟨x, List.mem_cons_self, p⟩, ?_⟩
      show (f x ()).bind _ = _
      rw [e]; rfl
/-! ### plain: the cloth drawn -/
abbrev P2 : Type := T2 Int Int
def Sm (B : Nat) (p : P2) : Prop := p.a.natAbs ≤ B ∧ p.b.natAbs ≤ B
structure Dr (B n : Nat) (xs : List P2) : Prop where
  sm : ∀ p ∈ xs, Sm B p
  le : xs.length ≤ n
theorem Sm.mono {B C : Nat} {p : P2} (h : Sm B p) (l : B ≤ C) : Sm C p := ⟨Nat.le_trans h.1 l, Nat.le_trans h.2 l⟩
theorem Dr.mono {B C n m : Nat} {xs : List P2} (h : Dr B n xs) (l : B ≤ C) (k : n ≤ m) : Dr C m xs := ⟨fun p hp => (h.sm p hp).mono l, Nat.le_trans h.le k⟩
theorem lit_lt {a : Int} {B : Nat} (h : a.natAbs ≤ B) (hB : B < 2 ^ 30 := by decide) : a.natAbs < 2 ^ 30 := Nat.lt_of_le_of_lt h hB
theorem mulS {a b : Int} (ha : a.natAbs < 2 ^ 400) (hb : b.natAbs < 2 ^ 400) : mulG a b = some (a * b) := mulG_ok 400 400 ha hb (by decide)
def cr2 (p q : P2) : Int := p.a * q.b - q.a * p.b
theorem sz400 {a : Int} {k : Nat} (h : a.natAbs ≤ k) (hk : k < 2 ^ 60 := by decide) : a.natAbs < 2 ^ 400 := Nat.lt_of_le_of_lt h (Nat.lt_trans hk (by decide))
theorem chain_ok {xs : List Int} (h : Bag xs) {w m : Int} (h1 : 2 ≤ w) (h2 : w ≤ 11) (h3 : 3 ≤ m) (h4 : m ≤ 12) : ∃ c ys, m__law_chain xs w m = some (c, ys) ∧ Bag ys ∧ c.length ≤ 12 ∧ 0 < c.length ∧ ∀ x ∈ c, 0 ≤ x ∧ x ≤ 11 := by
  unfold m__law_chain
  rw [rngOk_ok (by omega) (by omega), Option.bind_some, rngOk_ok (by omega) (by omega), Option.bind_some, lenOk_ok (by omega), Option.bind_some]
  obtain ⟨ys, y1, e, hb, hl, hp⟩ := compL_inv (f := fun (x1 : Int) (s1 : (List Int)) => ((m__law_draw s1 2).bind fun z1 => if (decide (z1.1 = 1)) = true then (some (some x1, z1.2)) else (some (none, z1.2)))) Bag (fun x y => y = x) (xs := rangeL 1 (w - 1).toNat) (s := xs) (fun x s hx hs => by
    obtain ⟨r, ys, e, hb, _, _⟩ := draw_ok hs (many := 2) (by decide) (by decide)
    rw [e, Option.bind_some]
    by_cases z : r = 1
    · rw [if_pos (by simpa using z)]
      exact ⟨_, _, rfl, hb, fun z e => (Option.some.inj e).symm⟩
    · rw [if_neg (by simpa using z)]
      exact ⟨_, _, rfl, hb, fun z e => nomatch e⟩) h
  rw [e, Option.bind_some]
  rw [rangeL_len] at hl
  have hsl := slice_len ys none (some (m - 2))
  simp only [Option.bind_some]
  rw [lenOk_ok (by simp only [List.length_cons, List.length_nil]; omega), Option.bind_some, lenOk_ok (by simp only [List.length_append, List.length_cons, List.length_nil]; omega), Option.bind_some]
  refine ⟨_, _, rfl, hb, by simp only [List.length_append, List.length_cons, List.length_nil]; omega, by simp, fun x hx => ?_⟩
  simp only [List.mem_append, List.mem_singleton] at hx
  rcases hx with (e | hx) | e
  · omega
  · obtain ⟨z, hz, e⟩ := hp x (slice_sub hx)
    have := rangeL_mem hz
    omega
  · omega
theorem strip_ok {xs : List Int} (h : Bag xs) {w m : Int} (h1 : 2 ≤ w) (h2 : w ≤ 11) (h3 : 3 ≤ m) (h4 : m ≤ 12) : ∃ c ys, m__law_strip xs w m = some (c, ys) ∧ Bag ys ∧ Dr 11 24 c ∧ 0 < c.length := by
  unfold m__law_strip
  obtain ⟨c1, y1, e1, b1, l1, n1, p1⟩ := chain_ok h h1 h2 h3 h4
  rw [e1, Option.bind_some, lenOk_ok (by simp only; omega), Option.bind_some]
  obtain ⟨q1, y2, e2, b2, l2, p2⟩ := mapS_inv (f := fun (x1 : Int) (s1 : (List Int)) => ((m__law_draw s1 4).bind fun z2 => some ((T2.mk x1 z2.1), z2.2))) Bag (fun x y => y.a = x ∧ 0 ≤ y.b ∧ y.b < 4) (xs := c1) (s := y1) (fun x s hx hs => by
    obtain ⟨r, ys, e, hb, l, u⟩ := draw_ok hs (many := 4) (by decide) (by decide)
    rw [e, Option.bind_some]
    exact ⟨_, _, rfl, hb, rfl, l, u⟩) b1
  simp only
  rw [e2, Option.bind_some]
  obtain ⟨c3, y3, e3, b3, l3, n3, p3⟩ := chain_ok b2 h1 h2 h3 h4
  simp only
  rw [e3, Option.bind_some, lenOk_ok (by simp only; omega), Option.bind_some]
  obtain ⟨q4, y4, e4, b4, l4, p4⟩ := mapS_inv (f := fun (x1 : Int) (s1 : (List Int)) => ((m__law_draw s1 3).bind fun z2 => some ((T2.mk x1 (4 + z2.1)), z2.2))) Bag (fun x y => y.a = x ∧ 0 ≤ y.b ∧ y.b < 7) (xs := c3) (s := y3) (fun x s hx hs => by
    obtain ⟨r, ys, e, hb, l, u⟩ := draw_ok hs (many := 3) (by decide) (by decide)
    rw [e, Option.bind_some]
    exact ⟨_, _, rfl, hb, rfl, by show 0 ≤ 4 + r; omega, by show 4 + r < 7; omega⟩) b3
  simp only
  rw [e4, Option.bind_some, lenOk_ok (by rw [List.length_reverse]; simp only; omega), Option.bind_some]
  refine ⟨_, _, rfl, b4, ⟨fun p hp => ?_, by rw [List.length_append, List.length_reverse]; simp only at *; omega⟩, by rw [List.length_append]; simp only at *; omega⟩
  rcases List.mem_append.mp hp with hp | hp
  · obtain ⟨x, hx, e, u, v⟩ := p2 p hp
    have := p1 x hx
    exact ⟨by omega, by omega⟩
  · obtain ⟨x, hx, e, u, v⟩ := p4 p (List.mem_reverse.mp hp)
    have := p3 x hx
    exact ⟨by omega, by omega⟩
/-! what the drawn ring's functions tell -/
def crs3 (o p q : P2) : Int := (p.a - o.a) * (q.b - o.b) - (p.b - o.b) * (q.a - o.a)
theorem cross_ok {B : Nat} (hB : B ≤ 2 ^ 40) {o p q : P2} (ho : Sm B o) (hp : Sm B p) (hq : Sm B q) : m__law_cross o p q = some (crs3 o p q) := by
  unfold m__law_cross
  obtain ⟨o1, o2⟩ := ho
  obtain ⟨p1, p2⟩ := hp
  obtain ⟨q1, q2⟩ := hq
  rw [mulS (sz400 (k := 2 ^ 41) (by omega)) (sz400 (k := 2 ^ 41) (by omega)), mulS (sz400 (k := 2 ^ 41) (by omega)) (sz400 (k := 2 ^ 41) (by omega))]
  rfl
theorem back_ok {B : Nat} (hB : B ≤ 2 ^ 40) {p q r : P2} (hp : Sm B p) (hq : Sm B q) (hr : Sm B r) : m__law_back p q r = some (decide (crs3 p q r = 0) && decide (0 < (p.a - q.a) * (r.a - q.a) + (p.b - q.b) * (r.b - q.b))) := by
  unfold m__law_back
  rw [cross_ok hB hp hq hr]
  obtain ⟨o1, o2⟩ := hr
  obtain ⟨p1, p2⟩ := hp
  obtain ⟨q1, q2⟩ := hq
  rw [mulS (sz400 (k := 2 ^ 41) (by omega)) (sz400 (k := 2 ^ 41) (by omega)), mulS (sz400 (k := 2 ^ 41) (by omega)) (sz400 (k := 2 ^ 41) (by omega))]
  rfl
/-- whether two sides touch, as the law reckons it -/
def tch (p q r s : P2) : Bool :=
  let d := (q.a - p.a) * (s.b - r.b) - (q.b - p.b) * (s.a - r.a)
  let u := (r.a - p.a) * (s.b - r.b) - (r.b - p.b) * (s.a - r.a)
  let v := (r.a - p.a) * (q.b - p.b) - (r.b - p.b) * (q.a - p.a)
  if d = 0 then decide (crs3 p q r = 0) && leP (maxP (minP p q) (minP r s)) (minP (maxP p q) (maxP r s))
  else if d < 0 then (decide (0 ≤ -u) && decide (-u ≤ -d)) && (decide (0 ≤ -v) && decide (-v ≤ -d))
  else (decide (0 ≤ u) && decide (u ≤ d)) && (decide (0 ≤ v) && decide (v ≤ d))
theorem touch_ok {B : Nat} (hB : B ≤ 2 ^ 40) {p q r s : P2} (hp : Sm B p) (hq : Sm B q) (hr : Sm B r) (hs : Sm B s) : m__law_touch p q r s = some (tch p q r s) := by
  unfold m__law_touch
  have hc := cross_ok hB hp hq hr
  obtain ⟨p1, p2⟩ := hp
  obtain ⟨q1, q2⟩ := hq
  obtain ⟨r1, r2⟩ := hr
  obtain ⟨s1, s2⟩ := hs
  simp only [Option.bind_some]
  rw [mulS (sz400 (k := 2 ^ 41) (by omega)) (sz400 (k := 2 ^ 41) (by omega)), mulS (sz400 (k := 2 ^ 41) (by omega)) (sz400 (k := 2 ^ 41) (by omega)), mulS (sz400 (k := 2 ^ 41) (by omega)) (sz400 (k := 2 ^ 41) (by omega)), mulS (sz400 (k := 2 ^ 41) (by omega)) (sz400 (k := 2 ^ 41) (by omega)), mulS (sz400 (k := 2 ^ 41) (by omega)) (sz400 (k := 2 ^ 41) (by omega)), mulS (sz400 (k := 2 ^ 41) (by omega)) (sz400 (k := 2 ^ 41) (by omega))]
  simp only [Option.bind_some, hc]
  unfold tch
  simp only
  by_cases z : (q.a - p.a) * (s.b - r.b) - (q.b - p.b) * (s.a - r.a) = 0
  · rw [if_pos (by simpa using z), if_pos z]
  · rw [if_neg (by simpa using z), if_neg z]
    by_cases y : (q.a - p.a) * (s.b - r.b) - (q.b - p.b) * (s.a - r.a) < 0
    · rw [if_pos (by simpa using y), if_pos y]; rfl
    · rw [if_neg (by simpa using y), if_neg y]; rfl
/-! ### plain: a simple ring, as the law reckons it -/
theorem ix_in {α : Type} {xs : List α} {i : Int} (h1 : -(xs.length : Int) ≤ i) (h2 : i < xs.length) : ∃ p, ix xs i = some p ∧ p ∈ xs := by
  by_cases z : 0 ≤ i
  · obtain ⟨k, rfl⟩ : ∃ k : Nat, i = (k : Int) := ⟨i.toNat, by omega⟩
    have hk : k < xs.length := by omega
    exact ⟨_, ix_lt hk, List.getElem_mem hk⟩
  · obtain ⟨k, rfl⟩ : ∃ k : Nat, i = -1 - (k : Int) := ⟨(-1 - i).toNat, by omega⟩
    have hk : k < xs.length := by omega
    exact ⟨_, ix_neg hk, List.getElem_mem _⟩
def atz (xs : List P2) (i : Int) : P2 := (ix xs i).getD ⟨0, 0⟩
theorem ix_atz {xs : List P2} {i : Int} (h1 : -(xs.length : Int) ≤ i) (h2 : i < xs.length) : ix xs i = some (atz xs i) ∧ atz xs i ∈ xs := by
  obtain ⟨p, e, m⟩ := ix_in h1 h2
  unfold atz
  rw [e]
  exact ⟨rfl, m⟩
theorem dset_le {α : Type} [DecidableEq α] : ∀ {xs : List α}, (dset xs).length ≤ xs.length
  | [] => Nat.le_refl _
  | x :: xs => by
    unfold dset
    have := dset_le (xs := xs)
    split
    · rw [List.length_cons]; omega
    · rw [List.length_cons, List.length_cons]; omega
theorem dset_nodup {α : Type} [DecidableEq α] : ∀ {xs : List α}, (dset xs).length = xs.length ↔ xs.Nodup
  | [] => by simp [dset]
  | x :: xs => by
    have ih := dset_nodup (xs := xs)
    have hl := dset_le (xs := xs)
    unfold dset
    by_cases h : x ∈ dset xs
    · rw [if_pos h, List.length_cons]
      exact ⟨fun z => by omega, fun z => absurd (mem_dset.mp h) (List.nodup_cons.mp z).1⟩
    · rw [if_neg h, List.length_cons, List.length_cons, List.nodup_cons]
      exact ⟨fun z => ⟨fun y => h (mem_dset.mpr y), ih.mp (by omega)⟩, fun z => by rw [ih.mpr z.2]⟩
def bck (p q r : P2) : Bool := decide (crs3 p q r = 0) && decide (0 < (p.a - q.a) * (r.a - q.a) + (p.b - q.b) * (r.b - q.b))
def nearB (n k j : Int) : Bool := memB ((k - j) % n) [1, n - 1]
structure LS (xs : List P2) : Prop where
  len : 3 ≤ xs.length
  nd : xs.Nodup
  bk : ∀ k : Int, 0 ≤ k → k < xs.length → bck (atz xs (k - 2)) (atz xs (k - 1)) (atz xs k) = false
  tc : ∀ k j : Int, 0 ≤ j → j < k → k < xs.length → nearB xs.length k j = false → tch (atz xs (k - 1)) (atz xs k) (atz xs (j - 1)) (atz xs j) = false
theorem simple_ok {B n : Nat} (hB : B ≤ 2 ^ 40) (hn : n < 64) {xs : List P2} (h : Dr B n xs) : ∃ b, m__law_simple xs = some b ∧ (b = true ↔ LS xs) := by
  have hl := h.le
  unfold m__law_simple
  rw [Option.bind_some]
  have e1 : (if decide ((xs.length : Int) < 3) = true then some true else (fewOk xs.length).bind fun _ => some (decide (((dset xs).length : Int) < (xs.length : Int)))) = some (decide (xs.length < 3) || !decide xs.Nodup) := by
    by_cases z : (xs.length : Int) < 3
    · rw [if_pos (by simpa using z)]
      have : xs.length < 3 := by omega
      simp [this]
    · rw [if_neg (by simpa using z)]
      have z' : ¬ xs.length < 3 := by omega
      unfold fewOk
      rw [if_pos (by omega), Option.bind_some]
      congr 1
      have h1 := dset_nodup (xs := xs)
      have h2 := dset_le (xs := xs)
      by_cases y : xs.Nodup
      · have := h1.mpr y
        simp [z', y, this]
      · have : (dset xs).length ≠ xs.length := fun e => y (h1.mp e)
        have : ((dset xs).length : Int) < (xs.length : Int) := by omega
        simp [y, this]
  rw [e1, Option.bind_some]
  by_cases z : (decide (xs.length < 3) || !decide xs.Nodup) = true
  · rw [if_pos z]
    refine ⟨false, rfl, fun e => (nomatch e), fun L => ?_⟩
    have h1 := L.len
    have h2 := L.nd
    have h3 : ¬ xs.length < 3 := by omega
    simp [h2, h3] at z
  · rw [if_neg z, rngOk_ok (by omega) (by omega), Option.bind_some]
    have z3 : 3 ≤ xs.length := by
      by_cases y : xs.length < 3
      · simp [y] at z
      · omega
    have znd : xs.Nodup := by
      by_cases y : xs.Nodup
      · exact y
      · simp [y] at z
    have sm : ∀ i : Int, -(xs.length : Int) ≤ i → i < xs.length → ix xs i = some (atz xs i) ∧ Sm B (atz xs i) := fun i h1 h2 => by
      obtain ⟨a, b⟩ := ix_atz h1 h2
      exact ⟨a, h.sm _ b⟩
    have A := loopL_all (f := fun (x1 : Int) (s1 : Unit) => ((ix xs ((x1 - 2))).bind fun x2 => (ix xs ((x1 - 1))).bind fun x3 => (ix xs x1).bind fun x4 => (m__law_back x2 x3 x4).bind fun z1 => if z1 = true then (some (.ret false)) else ((rngOk x1).bind fun _ =>
        (loopL (ρ := Bool) (fun (x5 : Int) (s3 : Unit) => ((modG ((x1 - x5)) (xs.length : Int)).bind fun z2 => (some ((memB z2 ([1, ((xs.length : Int) - 1)])))).bind fun (near_1 : Bool) => (ix xs ((x1 - 1))).bind fun x6 => (ix xs x1).bind fun x7 => (some ((T2.mk x6 x7))).bind fun (one_1 : (T2 (T2 Int Int) (T2 Int Int))) => (ix xs ((x5 - 1))).bind fun x8 => (ix xs x5).bind fun x9 => (some ((T2.mk x8 x9))).bind fun (two_1 : (T2 (T2 Int Int) (T2 Int Int))) =>
          (if (!near_1) = true then ((m__law_touch one_1.a one_1.b two_1.a two_1.b).bind fun z4 => some z4) else some false).bind fun b2 => if b2 = true then (some (.ret false)) else (some (.nxt (()))))) (rangeL 0 x1.toNat) (())).bind fun o => o.out (fun r => some (.ret r)) fun (s4 : Unit) => some (.nxt (()))))) (r := false)
      (fun k => bck (atz xs (k - 2)) (atz xs (k - 1)) (atz xs k) = false ∧ ∀ j ∈ rangeL 0 k.toNat, nearB xs.length k j = true ∨ tch (atz xs (k - 1)) (atz xs k) (atz xs (j - 1)) (atz xs j) = false) (xs := rangeL 0 ((xs.length : Int)).toNat) fun k hk => by
        have hk := rangeL_mem hk
        obtain ⟨a1, a2⟩ := sm (k - 2) (by omega) (by omega)
        obtain ⟨b1, b2⟩ := sm (k - 1) (by omega) (by omega)
        obtain ⟨c1, c2⟩ := sm k (by omega) (by omega)
        simp only [a1, b1, c1, Option.bind_some]
        rw [back_ok hB a2 b2 c2, Option.bind_some]
        by_cases y : bck (atz xs (k - 2)) (atz xs (k - 1)) (atz xs k) = true
        · right
          refine ⟨fun e => absurd (y.symm.trans e.1) (by decide), ?_⟩
          exact if_pos y
        · have y' : bck (atz xs (k - 2)) (atz xs (k - 1)) (atz xs k) = false := by simpa using y
          rw [show (if (decide (crs3 (atz xs (k - 2)) (atz xs (k - 1)) (atz xs k) = 0) && decide (0 < ((atz xs (k - 2)).a - (atz xs (k - 1)).a) * ((atz xs k).a - (atz xs (k - 1)).a) + ((atz xs (k - 2)).b - (atz xs (k - 1)).b) * ((atz xs k).b - (atz xs (k - 1)).b))) = true then _ else _) = _ from if_neg y]
          rw [rngOk_ok (by omega) (by omega), Option.bind_some]
          have A := loopL_all (f := fun (x5 : Int) (s3 : Unit) => ((modG ((k - x5)) (xs.length : Int)).bind fun z2 => (some ((memB z2 ([1, ((xs.length : Int) - 1)])))).bind fun (near_1 : Bool) => (some ((T2.mk (atz xs (k - 1)) (atz xs k)))).bind fun (one_1 : (T2 (T2 Int Int) (T2 Int Int))) => (ix xs ((x5 - 1))).bind fun x8 => (ix xs x5).bind fun x9 => (some ((T2.mk x8 x9))).bind fun (two_1 : (T2 (T2 Int Int) (T2 Int Int))) =>
            (if (!near_1) = true then ((m__law_touch one_1.a one_1.b two_1.a two_1.b).bind fun z4 => some z4) else some false).bind fun b2 => if b2 = true then (some (.ret false)) else (some (.nxt (()))))) (r := false)
            (fun j => nearB xs.length k j = true ∨ tch (atz xs (k - 1)) (atz xs k) (atz xs (j - 1)) (atz xs j) = false) (xs := rangeL 0 k.toNat) fun j hj => by
              have hj := rangeL_mem hj
              obtain ⟨d1, d2⟩ := sm (j - 1) (by omega) (by omega)
              obtain ⟨f1, f2⟩ := sm j (by omega) (by omega)
              rw [modG_pos (by omega), Option.bind_some, Option.bind_some]
              simp only [d1, f1, Option.bind_some]
              cases hn : nearB xs.length k j with
              | true =>
                left
                refine ⟨.inl rfl, ?_⟩
                have : memB ((k - j) % (xs.length : Int)) [1, (xs.length : Int) - 1] = true := hn
                rw [this]; rfl
              | false =>
                have : memB ((k - j) % (xs.length : Int)) [1, (xs.length : Int) - 1] = false := hn
                rw [this, if_pos (show (!false) = true from rfl), touch_ok hB b2 c2 d2 f2, Option.bind_some, Option.bind_some]
                cases ht : tch (atz xs (k - 1)) (atz xs k) (atz xs (j - 1)) (atz xs j) with
                | true => exact .inr ⟨fun e => (by rcases e with e | e <;> cases e), rfl⟩
                | false => exact .inl ⟨.inr rfl, rfl⟩
          rcases A with ⟨A, e⟩ | ⟨A, e⟩
          · left
            refine ⟨⟨y', A⟩, ?_⟩
            refine (congrArg (fun o => Option.bind o _) e).trans ?_
            rfl
          · right
            refine ⟨fun q => ?_, ?_⟩
            · obtain ⟨j, hj, n⟩ := A
              exact n (q.2 j hj)
            · refine (congrArg (fun o => Option.bind o _) e).trans ?_
              rfl
    rcases A with ⟨A, e⟩ | ⟨A, e⟩
    · refine ⟨true, (congrArg (fun o => Option.bind o _) e).trans rfl, fun _ => ⟨z3, znd, fun k h1 h2 => ?_, fun k j h1 h2 h3 h4 => ?_⟩, fun _ => rfl⟩
      · have hm : k ∈ rangeL 0 ((xs.length : Int)).toNat := by
          unfold rangeL
          exact List.mem_map.mpr ⟨k.toNat, List.mem_range.mpr (by omega), by omega⟩
        exact (A k hm).1
      · have hm : k ∈ rangeL 0 ((xs.length : Int)).toNat := by
          unfold rangeL
          exact List.mem_map.mpr ⟨k.toNat, List.mem_range.mpr (by omega), by omega⟩
        have hj : j ∈ rangeL 0 k.toNat := by
          unfold rangeL
          exact List.mem_map.mpr ⟨j.toNat, List.mem_range.mpr (by omega), by omega⟩
        rcases (A k hm).2 j hj with q | q
        · rw [q] at h4; cases h4
        · exact q
    · refine ⟨false, (congrArg (fun o => Option.bind o _) e).trans rfl, fun e => (nomatch e), fun L => ?_⟩
      obtain ⟨k, hk, n⟩ := A
      have hk := rangeL_mem hk
      refine absurd ⟨L.bk k (by omega) (by omega), fun j hj => ?_⟩ n
      have hj := rangeL_mem hj
      cases hn : nearB xs.length k j with
      | true => exact .inl rfl
      | false => exact .inr (L.tc k j (by omega) (by omega) (by omega) hn)
/-! ### plain: twice a ring's area -/
theorem twice_ok {B n : Nat} (hB : B ≤ 2 ^ 40) (hn : n ≤ 1000) {xs : List P2} (h : Dr B n xs) : m__law_twice xs = some (cy cr2 xs) := by
  unfold m__law_twice
  have hl := h.le
  rw [rngOk_ok (by omega) (by omega), Option.bind_some]
  obtain ⟨r, e, i⟩ := foldO_range (f := fun (x1 : Int) (s1 : Int) => ((ix xs ((x1 - 1))).bind fun x2 => (ix xs x1).bind fun x3 => (mulG x2.a x3.b).bind fun z1 => (mulG x3.a x2.b).bind fun z2 => (some (((s1 + z1) - z2))).bind fun (found_1 : Int) => some found_1)) (lo := 0) (n := ((xs.length : Int)).toNat) (s := 0)
    (fun k r => r = (((sd xs).take k).map fun s => cr2 s.a s.b).sum) (fun j s hj i => by
      have hj' : j < xs.length := by omega
      obtain ⟨p, q, e1, e2, e3, m1, m2⟩ := sd_at hj'
      obtain ⟨p1, p2⟩ := h.sm p m1
      obtain ⟨q1, q2⟩ := h.sm q m2
      rw [Int.zero_add, e2, e3, Option.bind_some, Option.bind_some, mulS (sz400 (k := 2 ^ 41) (by omega)) (sz400 (k := 2 ^ 41) (by omega)), mulS (sz400 (k := 2 ^ 41) (by omega)) (sz400 (k := 2 ^ 41) (by omega))]
      refine ⟨_, rfl, ?_⟩
      rw [List.take_succ, e1, i, List.map_append, List.sum_append]
      show _ = _ + (p.a * q.b - q.a * p.b + 0)
      omega) (by simp)
  refine (congrArg (fun o => Option.bind o _) e).trans ?_
  rw [Option.bind_some, i, cy_sum, List.take_of_length_le (by rw [sd_len]; omega)]
theorem bottom_ok {xs : List Int} (h : Bag xs) : ∃ n ys, m__law_bottom xs = some (n, ys) ∧ Bag ys ∧ 0 < n ∧ n ≤ 1000000000039 := by
  unfold m__law_bottom
  obtain ⟨r1, y1, e1, b1, l1, u1⟩ := draw_ok h (many := 8) (by decide) (by decide)
  rw [e1, Option.bind_some]
  simp only
  obtain ⟨p, e, m⟩ := ix_in (xs := [(1 : Int), 1, 2, 3, 12, 997, (1000000000000 + 39), 1]) (i := r1) (by show -8 ≤ r1; omega) (by show r1 < 8; omega)
  rw [e]
  refine ⟨_, _, rfl, b1, ?_⟩
  simp only [List.mem_cons, List.not_mem_nil, or_false] at m
  omega
/-- a point over n -/
def hd (n : Int) (p : P2) : P3 := ⟨p.a / (g3 p.a p.b n : Int), p.b / (g3 p.a p.b n : Int), n / (g3 p.a p.b n : Int)⟩
theorem hd_low {n : Int} (hn : 0 < n) (p : P2) : Low3 p.a p.b n (hd n p) := low3_mk hn
theorem lawpt_hd {n : Int} (hn : 0 < n) (h2 : n ≤ 12000000000468) (p : P2) : m__law_point p.a p.b n = some (hd n p) := by
  obtain ⟨r, e, w⟩ := lawpt_ok (a := p.a) (b := p.b) hn (pow_le (n := 200) (by omega) (by decide))
  rw [e, w.both (hd_low hn p) hn]
theorem handed_ok {B n : Nat} (hn : n ≤ 1000) {rs : List (List P2)} {m : Int} (hm : 0 < m) (h2 : m ≤ 12000000000468) (hl : rs.length ≤ 1000) (h : ∀ xs ∈ rs, Dr B n xs) : m__law_handed rs m = some (rs.map fun xs => xs.map (hd m)) := by
  unfold m__law_handed
  rw [lenOk_ok (by omega), Option.bind_some, mapO_all (g := fun xs => xs.map (hd m)) (fun x hx => by
    have := (h x hx).le
    rw [lenOk_ok (by omega), Option.bind_some, mapO_all (g := hd m) (fun y _ => by rw [lawpt_hd hm h2]; rfl)]
    rfl)]
  rfl
/-! ### plain: points over one bottom -/
/-- r is u over P -/
structure Ov (P : Int) (r : P3) (u : P2) : Prop where
  pos : 0 < r.c
  ea : r.a * P = u.a * r.c
  eb : r.b * P = u.b * r.c
  one : g3 r.a r.b r.c = 1
theorem Ov.dvd {P : Int} {r : P3} {u : P2} (h : Ov P r u) : r.c ∣ P := g3_dvd h.one ⟨u.a, by rw [h.ea, Int.mul_comm]⟩ ⟨u.b, by rw [h.eb, Int.mul_comm]⟩ ⟨P, rfl⟩
theorem Ov.a {P : Int} {r : P3} {u : P2} (h : Ov P r u) : r.a * (P / r.c) = u.a := by
  obtain ⟨k, hk⟩ := h.dvd
  have hp := h.pos
  have e : P / r.c = k := by rw [hk, Int.mul_ediv_cancel_left _ (by omega)]
  rw [e]
  refine Int.eq_of_mul_eq_mul_right (show r.c ≠ 0 by omega) ?_
  rw [← h.ea, hk, Int.mul_assoc, Int.mul_comm k]
theorem Ov.b {P : Int} {r : P3} {u : P2} (h : Ov P r u) : r.b * (P / r.c) = u.b := by
  obtain ⟨k, hk⟩ := h.dvd
  have hp := h.pos
  have e : P / r.c = k := by rw [hk, Int.mul_ediv_cancel_left _ (by omega)]
  rw [e]
  refine Int.eq_of_mul_eq_mul_right (show r.c ≠ 0 by omega) ?_
  rw [← h.eb, hk, Int.mul_assoc, Int.mul_comm k]
theorem cr_ov {P : Int} {r s : P3} {u v : P2} (h : Ov P r u) (g : Ov P s v) : cr P r s = cr2 u v := by
  unfold cr cr2
  rw [← h.a, ← h.b, ← g.a, ← g.b]
  grind
theorem hd_ov {n : Int} (hn : 0 < n) (p : P2) : Ov n (hd n p) p := by
  have w := hd_low hn p
  exact ⟨w.pos, w.ea, w.eb, w.one⟩
theorem hd_pt {n : Int} (hn : 0 < n) {p : P2} {k : Nat} (ha : p.a.natAbs < 2 ^ k) (hb : p.b.natAbs < 2 ^ k) (h2 : n.natAbs < 2 ^ k) : Pt k (hd n p) := (hd_low hn p).pt ha hb h2
theorem low3_ov {a b c P A B : Int} {r : P3} (w : Low3 a b c r) (hc : c ≠ 0) (ea : a * P = A * c) (eb : b * P = B * c) : Ov P r ⟨A, B⟩ := by
  refine ⟨w.pos, Int.eq_of_mul_eq_mul_right hc ?_, Int.eq_of_mul_eq_mul_right hc ?_, w.one⟩
  · have := w.ea
    show r.a * P * c = A * r.c * c
    rw [Int.mul_right_comm, this, Int.mul_right_comm, ea]
    rw [Int.mul_right_comm]
  · have := w.eb
    show r.b * P * c = B * r.c * c
    rw [Int.mul_right_comm, this, Int.mul_right_comm, eb]
    rw [Int.mul_right_comm]
/-! ### plain: points on sides, sides that meet -/
/-- r between p and q -/
def bt (p q r : Int) : Prop := (r - p) * (r - q) ≤ 0
theorem bt_iff {p q r : Int} : bt p q r ↔ (p ≤ r ∧ r ≤ q) ∨ (q ≤ r ∧ r ≤ p) := by
  unfold bt
  constructor
  · intro h
    rcases Int.lt_trichotomy r p with a | a | a <;> rcases Int.lt_trichotomy r q with b | b | b <;> try omega
    · have := Int.mul_pos_of_neg_of_neg (show r - p < 0 by omega) (show r - q < 0 by omega); omega
    · have := Int.mul_pos (show 0 < r - p by omega) (show 0 < r - q by omega); omega
  · rintro (⟨a, b⟩ | ⟨a, b⟩)
    · exact Int.mul_nonpos_of_nonneg_of_nonpos (by omega) (by omega)
    · exact Int.mul_nonpos_of_nonpos_of_nonneg (by omega) (by omega)
theorem sq_pos {d : Int} (h : d ≠ 0) : 0 < d * d := by
  rcases Int.lt_or_gt_of_ne h with z | z
  · exact Int.mul_pos_of_neg_of_neg z z
  · exact Int.mul_pos z z
theorem sq_nn (d : Int) : 0 ≤ d * d := by
  by_cases z : d = 0
  · subst z; decide
  · exact Int.le_of_lt (sq_pos z)
theorem nonpos_of {a k : Int} (h : a * k ≤ 0) (hk : 0 < k) : a ≤ 0 := by
  rcases Int.lt_or_le 0 a with z | z
  · have := Int.mul_pos z hk; omega
  · exact z
theorem nonpos_mul {a k : Int} (h : a ≤ 0) (hk : 0 ≤ k) : a * k ≤ 0 := Int.mul_nonpos_of_nonpos_of_nonneg h hk
theorem scale_bt {e d u c : Int} (h : e * d = u * c) : (e * (e - c)) * (d * d) = (u * (u - d)) * (c * c) := by
  have h1 : (e * (e - c)) * (d * d) = (e * d) * (e * d - c * d) := by clear h; grind
  have h2 : (u * (u - d)) * (c * c) = (u * c) * (u * c - c * d) := by clear h; grind
  rw [h1, h2, h]
theorem bt_to {e d u c : Int} (h : e * d = u * c) (hd : d ≠ 0) (hu : u * (u - d) ≤ 0) : e * (e - c) ≤ 0 :=
  nonpos_of (by rw [scale_bt h]; exact nonpos_mul hu (sq_nn c)) (sq_pos hd)
/-- on a line: r in the box of p and q, told along another way -/
theorem box_iff {ex ey dx dy wx wy : Int} (hp : dx * ey = dy * ex) (hd : dx * wy - dy * wx ≠ 0) : (ex * (ex - dx) ≤ 0 ∧ ey * (ey - dy) ≤ 0) ↔ (ex * wy - ey * wx) * ((ex * wy - ey * wx) - (dx * wy - dy * wx)) ≤ 0 := by
  have h1 : ex * (dx * wy - dy * wx) = (ex * wy - ey * wx) * dx := by grind
  have h2 : ey * (dx * wy - dy * wx) = (ex * wy - ey * wx) * dy := by grind
  constructor
  · rintro ⟨a, b⟩
    by_cases z : dx = 0
    · have zy : dy ≠ 0 := fun y => hd (by rw [z, y]; simp)
      exact bt_to h2.symm zy b
    · exact bt_to h1.symm z a
  · intro h
    exact ⟨bt_to h1 hd h, bt_to h2 hd h⟩
theorem par_iff {ax ay bx byy ex ey : Int} (hp : ax * byy = ay * bx) (ha : ax ≠ 0 ∨ ay ≠ 0) (h : ex * ay = ey * ax) : ex * byy = ey * bx := by
  rcases ha with z | z
  · refine Int.eq_of_mul_eq_mul_right z ?_
    have : ex * byy * ax = ex * (ax * byy) := by clear h hp; grind
    rw [this, hp]
    have : ex * (ay * bx) = (ex * ay) * bx := by clear h hp; grind
    rw [this, h]
    clear h hp; grind
  · refine Int.eq_of_mul_eq_mul_right z ?_
    have : ex * byy * ay = (ex * ay) * byy := by clear h hp; grind
    rw [this, h]
    have : ey * ax * byy = ey * (ax * byy) := by clear h hp; grind
    rw [this, hp]
    clear h hp; grind
/-- r lies on the side p q -/
def On (p q r : P2) : Prop := crs3 p q r = 0 ∧ bt p.a q.a r.a ∧ bt p.b q.b r.b
theorem p2_ne {p q : P2} (h : p ≠ q) : q.a - p.a ≠ 0 ∨ q.b - p.b ≠ 0 := by
  by_cases z : q.a - p.a = 0
  · right
    intro y
    apply h
    cases p; cases q
    simp only at z y
    congr 1 <;> omega
  · exact .inl z
/-- back along a side -/
theorem bck_iff {p q r : P2} (h1 : p ≠ q) (h2 : q ≠ r) : bck p q r = true ↔ On p q r ∨ On q r p := by
  unfold bck On
  rw [Bool.and_eq_true, decide_eq_true_eq, decide_eq_true_eq]
  have e2 : crs3 q r p = crs3 p q r := by unfold crs3; grind
  rw [e2]
  unfold bt
  have hc : crs3 p q r = 0 ↔ (p.a - q.a) * (r.b - q.b) = (p.b - q.b) * (r.a - q.a) := by
    unfold crs3
    constructor <;> intro h <;> grind
  rw [hc]
  have n1 : p.a - q.a ≠ 0 ∨ p.b - q.b ≠ 0 := p2_ne (Ne.symm h1)
  have n2 : r.a - q.a ≠ 0 ∨ r.b - q.b ≠ 0 := p2_ne h2
  have a1 : (r.a - p.a) * (r.a - q.a) = (r.a - q.a) * ((r.a - q.a) - (p.a - q.a)) := by grind
  have a2 : (r.b - p.b) * (r.b - q.b) = (r.b - q.b) * ((r.b - q.b) - (p.b - q.b)) := by grind
  have a3 : (p.a - q.a) * (p.a - r.a) = (p.a - q.a) * ((p.a - q.a) - (r.a - q.a)) := by grind
  have a4 : (p.b - q.b) * (p.b - r.b) = (p.b - q.b) * ((p.b - q.b) - (r.b - q.b)) := by grind
  rw [a1, a2, a3, a4]
  generalize p.a - q.a = dx at *
  generalize p.b - q.b = dy at *
  generalize r.a - q.a = ex at *
  generalize r.b - q.b = ey at *
  clear a1 a2 a3 a4 e2 hc h1 h2
  constructor
  · rintro ⟨c, s⟩
    have pr : (dx * ex) * (dy * ey) = (dx * ey) * (dx * ey) := by
      have : (dx * ex) * (dy * ey) = (dx * ey) * (dy * ex) := by clear c; grind
      rw [this, ← c]
    have x0 : 0 ≤ dx * ex := by
      rcases Int.lt_or_le (dx * ex) 0 with z | z
      · have : 0 < dy * ey := by omega
        have := Int.mul_neg_of_neg_of_pos z this
        have := sq_nn (dx * ey)
        omega
      · exact z
    have y0 : 0 ≤ dy * ey := by
      rcases Int.lt_or_le (dy * ey) 0 with z | z
      · have : 0 < dx * ex := by omega
        have := Int.mul_neg_of_pos_of_neg this z
        have := sq_nn (dx * ey)
        omega
      · exact z
    have key : ∀ {a b : Int}, 0 ≤ a * b → a * a ≤ b * b → a * (a - b) ≤ 0 := by
      intro a b h1 h2
      by_cases z : a * (a - b) ≤ 0
      · exact z
      · have h3 : 0 < a * (a - b) := by omega
        -- a (a - b) > 0, (a - b)(a + b) ≤ 0
        have h4 : (a * (a - b)) * (a * (a + b)) = (a * a) * (a * a - b * b) := by clear h1 h2 z h3; grind
        have h5 : 0 ≤ a * (a + b) := by have := sq_nn a; have : a * (a + b) = a * a + a * b := by rw [Int.mul_add]
                                        omega
        have h6 : (a * a) * (a * a - b * b) ≤ 0 := Int.mul_nonpos_of_nonneg_of_nonpos (sq_nn a) (by omega)
        have h7 : a * (a + b) ≤ 0 := by
          rcases Int.lt_or_le 0 (a * (a + b)) with y | y
          · have := Int.mul_pos h3 y; omega
          · exact y
        have h8 : a * (a + b) = a * a + a * b := by rw [Int.mul_add]
        have h9 := sq_nn a
        have h10 : a * a = 0 := by omega
        have h11 : a = 0 := by
          rcases Int.mul_eq_zero.mp h10 with z | z <;> exact z
        subst h11
        simp at h3
    have sq : (ex * ex) * (dy * dy) = (ey * ey) * (dx * dx) := by
      have : (ex * ex) * (dy * dy) = (dy * ex) * (dy * ex) := by clear c pr s x0 y0 key; grind
      rw [this, ← c]
      clear c pr s x0 y0 key; grind
    have c1 : 0 ≤ ex * dx := by rw [Int.mul_comm]; exact x0
    have c2 : 0 ≤ ey * dy := by rw [Int.mul_comm]; exact y0
    have mono : ∀ {a b c d : Int}, a * d = b * c → 0 ≤ a → 0 ≤ b → 0 ≤ c → 0 < d → a ≤ c → b ≤ d ∨ c = 0 := by
      intro a b c d h ha hb hc hd hac
      by_cases z : c = 0
      · exact .inr z
      · left
        rcases Int.lt_or_le d b with y | y
        · have h1 : d * c < b * c := Int.mul_lt_mul_of_pos_right y (by omega)
          have h2 : a * d ≤ c * d := Int.mul_le_mul_of_nonneg_right hac (by omega)
          rw [Int.mul_comm c d] at h2
          omega
        · exact y
    -- compare the lengths along x, else along y
    by_cases z : dx = 0
    · have zy : dy ≠ 0 := by rcases n1 with y | y; exact absurd z y; exact y
      have ex0 : ex = 0 := by
        subst z
        have : dy * ex = 0 := by rw [← c]; simp
        rcases Int.mul_eq_zero.mp this with y | y
        · exact absurd y zy
        · exact y
      subst z; subst ex0
      rcases Int.le_total (ey * ey) (dy * dy) with l | l
      · exact .inl ⟨c, by simp, key c2 l⟩
      · exact .inr ⟨c, by simp, key y0 l⟩
    · have dd := sq_pos z
      rcases Int.le_total (ex * ex) (dx * dx) with l | l
      · refine .inl ⟨c, key c1 l, key c2 ?_⟩
        rcases Int.lt_or_le (dy * dy) (ey * ey) with y | y
        · have h1 : (dy * dy) * (dx * dx) < (ey * ey) * (dx * dx) := Int.mul_lt_mul_of_pos_right y dd
          have h2 : (ex * ex) * (dy * dy) ≤ (dx * dx) * (dy * dy) := Int.mul_le_mul_of_nonneg_right l (sq_nn dy)
          rw [Int.mul_comm (dx * dx) (dy * dy)] at h2
          omega
        · exact y
      · refine .inr ⟨c, key x0 l, key y0 ?_⟩
        rcases Int.lt_or_le (ey * ey) (dy * dy) with y | y
        · have ee : 0 < ex * ex := by omega
          have h1 : (ey * ey) * (ex * ex) < (dy * dy) * (ex * ex) := Int.mul_lt_mul_of_pos_right y ee
          have h2 : (dx * dx) * (ey * ey) ≤ (ex * ex) * (ey * ey) := Int.mul_le_mul_of_nonneg_right l (sq_nn ey)
          rw [Int.mul_comm (dx * dx) (ey * ey), Int.mul_comm (ex * ex) (ey * ey)] at h2
          rw [Int.mul_comm (dy * dy) (ex * ex)] at h1
          omega
        · exact y
  · have pos : ∀ {a b : Int}, a * (a - b) ≤ 0 → 0 ≤ b * a ∧ (a ≠ 0 → 0 < b * a) := by
      intro a b h
      have h1 : a * (a - b) = a * a - b * a := by rw [Int.mul_sub, Int.mul_comm a b]
      have h2 := sq_nn a
      refine ⟨by omega, fun z => ?_⟩
      have := sq_pos z
      omega
    rintro (⟨c, x, y⟩ | ⟨c, x, y⟩)
    · refine ⟨c, ?_⟩
      obtain ⟨x1, x2⟩ := pos x
      obtain ⟨y1, y2⟩ := pos y
      rcases n2 with z | z
      · have := x2 z; omega
      · have := y2 z; omega
    · refine ⟨c, ?_⟩
      obtain ⟨x1, x2⟩ := pos x
      obtain ⟨y1, y2⟩ := pos y
      rw [Int.mul_comm] at x1 x2 y1 y2
      rcases n1 with z | z
      · have := x2 z; omega
      · have := y2 z; omega
/-- the sides p q and r s have a point in common -/
def Met (p q r s : P2) : Prop := (On p q r ∨ On p q s ∨ On r s p ∨ On r s q) ∨ (crs3 p q r * crs3 p q s < 0 ∧ crs3 r s p * crs3 r s q < 0)
theorem lt_cases (a b : Int) : a * b < 0 ∨ a * b = 0 ∨ 0 < a * b := by omega
theorem ov_iff {L : P2 → Prop} {f : P2 → Int} (hl : ∀ x y, L x → L y → ltP x y = decide (f x < f y)) (he : ∀ x y, L x → L y → leP x y = decide (f x ≤ f y)) {p q r s : P2} (hp : L p) (hq : L q) (hr : L r) (hs : L s) :
    leP (maxP (minP p q) (minP r s)) (minP (maxP p q) (maxP r s)) = true ↔ bt (f p) (f q) (f r) ∨ bt (f p) (f q) (f s) ∨ bt (f r) (f s) (f p) ∨ bt (f r) (f s) (f q) := by
  have mn : ∀ x y, L x → L y → L (minP x y) ∧ f (minP x y) = min (f x) (f y) := fun x y hx hy => by
    unfold minP
    rw [hl y x hy hx]
    by_cases z : f y < f x
    · rw [if_pos (by simpa using z)]; exact ⟨hy, by omega⟩
    · rw [if_neg (by simpa using z)]; exact ⟨hx, by omega⟩
  have mx : ∀ x y, L x → L y → L (maxP x y) ∧ f (maxP x y) = max (f x) (f y) := fun x y hx hy => by
    unfold maxP
    rw [hl x y hx hy]
    by_cases z : f x < f y
    · rw [if_pos (by simpa using z)]; exact ⟨hy, by omega⟩
    · rw [if_neg (by simpa using z)]; exact ⟨hx, by omega⟩
  obtain ⟨a1, a2⟩ := mn p q hp hq
  obtain ⟨b1, b2⟩ := mn r s hr hs
  obtain ⟨c1, c2⟩ := mx p q hp hq
  obtain ⟨d1, d2⟩ := mx r s hr hs
  obtain ⟨e1, e2⟩ := mx _ _ a1 b1
  obtain ⟨f1, f2⟩ := mn _ _ c1 d1
  rw [he _ _ e1 f1, decide_eq_true_eq, e2, f2, a2, b2, c2, d2, bt_iff, bt_iff, bt_iff, bt_iff]
  clear mn mx a1 a2 b1 b2 c1 c2 d1 d2 e1 e2 f1 f2 hl he hp hq hr hs
  omega
theorem On.par {p q r : P2} (n : q.a - p.a ≠ 0) (c : crs3 p q r = 0) : On p q r ↔ bt p.a q.a r.a := by
  unfold On
  refine ⟨fun h => h.2.1, fun h => ⟨c, h, ?_⟩⟩
  unfold bt at *
  have := bt_to (e := r.b - p.b) (d := q.a - p.a) (u := r.a - p.a) (c := q.b - p.b) (by unfold crs3 at c; rw [Int.mul_comm (r.b - p.b), Int.mul_comm (r.a - p.a)]; omega) n (by rw [show r.a - p.a - (q.a - p.a) = r.a - q.a by omega]; exact h)
  rwa [show r.b - p.b - (q.b - p.b) = r.b - q.b by omega] at this
theorem On.up {p q r : P2} (n : q.a - p.a = 0) (m : r.a = p.a) (c : crs3 p q r = 0) : On p q r ↔ bt p.b q.b r.b := by
  unfold On
  refine ⟨fun h => h.2.2, fun h => ⟨c, ?_, h⟩⟩
  unfold bt
  rw [m]; simp
theorem tch_iff {p q r s : P2} (hpq : p ≠ q) (hrs : r ≠ s) : tch p q r s = true ↔ Met p q r s := by
  have n1 := p2_ne hpq
  have n2 := p2_ne hrs
  have c2 : crs3 p q s = crs3 p q r + ((q.a - p.a) * (s.b - r.b) - (q.b - p.b) * (s.a - r.a)) := by unfold crs3; grind
  have c4 : crs3 r s q = crs3 r s p - ((q.a - p.a) * (s.b - r.b) - (q.b - p.b) * (s.a - r.a)) := by unfold crs3; grind
  have eu : (r.a - p.a) * (s.b - r.b) - (r.b - p.b) * (s.a - r.a) = crs3 r s p := by unfold crs3; grind
  have ev : (r.a - p.a) * (q.b - p.b) - (r.b - p.b) * (q.a - p.a) = -crs3 p q r := by unfold crs3; grind
  by_cases hd : (q.a - p.a) * (s.b - r.b) - (q.b - p.b) * (s.a - r.a) = 0
  · -- the lines are parallel
    rw [hd, Int.add_zero] at c2
    rw [hd, Int.sub_zero] at c4
    have cc : crs3 p q r = 0 ↔ crs3 r s p = 0 := by
      constructor
      · intro z
        have := par_iff (ax := q.a - p.a) (ay := q.b - p.b) (bx := s.a - r.a) (byy := s.b - r.b) (ex := r.a - p.a) (ey := r.b - p.b) (by omega) n1 (by unfold crs3 at z; rw [Int.mul_comm (r.a - p.a), Int.mul_comm (r.b - p.b)]; omega)
        rw [← eu]; omega
      · intro z
        have := par_iff (ax := s.a - r.a) (ay := s.b - r.b) (bx := q.a - p.a) (byy := q.b - p.b) (ex := r.a - p.a) (ey := r.b - p.b) (by rw [Int.mul_comm (s.a - r.a), Int.mul_comm (s.b - r.b)]; omega) n2 (by rw [← eu] at z; omega)
        have e := ev
        omega
    have t : tch p q r s = (decide (crs3 p q r = 0) && leP (maxP (minP p q) (minP r s)) (minP (maxP p q) (maxP r s))) := by
      unfold tch
      simp only
      rw [if_pos hd]
    rw [t]
    by_cases z : crs3 p q r = 0
    · have z3 := cc.mp z
      have z2 : crs3 p q s = 0 := by rw [c2]; exact z
      have z4 : crs3 r s q = 0 := by rw [c4]; exact z3
      have M : Met p q r s ↔ On p q r ∨ On p q s ∨ On r s p ∨ On r s q := by
        unfold Met
        rw [z, z3]
        simp
      rw [M, z]
      show (decide ((0 : Int) = 0) && _) = true ↔ _
      rw [show decide ((0 : Int) = 0) = true from rfl, Bool.true_and]
      have ln : ∀ x, crs3 p q x = 0 → (x.b - p.b) * (q.a - p.a) = (q.b - p.b) * (x.a - p.a) := fun x h => by unfold crs3 at h; rw [Int.mul_comm (x.b - p.b)]; omega
      have zp : crs3 p q p = 0 := by unfold crs3; simp
      have zq : crs3 p q q = 0 := by unfold crs3; grind
      by_cases y : q.a - p.a = 0
      · have yb : q.b - p.b ≠ 0 := by rcases n1 with h | h; exact absurd y h; exact h
        have sa : ∀ x, crs3 p q x = 0 → x.a = p.a := fun x h => by
          have := ln x h
          rw [y, Int.mul_zero] at this
          rcases Int.mul_eq_zero.mp this.symm with w | w
          · exact absurd w yb
          · omega
        have ra := sa r z
        have sa' := sa s z2
        rw [ov_iff (L := fun x => x.a = p.a) (f := fun x => x.b) (fun x y hx hy => by unfold ltP; simp [hx, hy]) (fun x y hx hy => by unfold leP; simp [hx, hy]) rfl (by omega) ra sa',
          On.up y ra z, On.up y sa' z2, On.up (by omega) (by omega) z3, On.up (by omega) (by omega) z4]
      · have yr : s.a - r.a ≠ 0 := fun h => by
          rw [h, Int.mul_zero, Int.sub_zero] at hd
          rcases Int.mul_eq_zero.mp hd with w | w
          · exact y w
          · rcases n2 with v | v
            · exact v h
            · exact v w
        have same : ∀ u v, crs3 p q u = 0 → crs3 p q v = 0 → u.a = v.a → u.b = v.b := fun u v hu hv e => by
          have h1 := ln u hu
          have h2 := ln v hv
          rw [e, ← h2] at h1
          have := Int.eq_of_mul_eq_mul_right y h1
          omega
        rw [ov_iff (L := fun x => crs3 p q x = 0) (f := fun x => x.a) (fun u v hu hv => by
            unfold ltP
            by_cases e : u.a = v.a
            · simp [e, same u v hu hv e]
            · simp [e]) (fun u v hu hv => by
            unfold leP
            by_cases e : u.a = v.a
            · simp [e, same u v hu hv e]
            · have : u.a < v.a ↔ u.a ≤ v.a := by omega
              simp [e, this]) zp zq z z2,
          On.par y z, On.par y z2, On.par yr z3, On.par yr z4]
    · rw [show decide (crs3 p q r = 0) = false by simpa using z, Bool.false_and]
      refine ⟨fun e => (nomatch e), fun m => ?_⟩
      have z3 : crs3 r s p ≠ 0 := fun h => z (cc.mpr h)
      rcases m with (h | h | h | h) | h
      · exact absurd h.1 z
      · exact absurd (c2 ▸ h.1) z
      · exact absurd h.1 z3
      · exact absurd (c4 ▸ h.1) z3
      · have := h.1
        rw [c2] at this
        have := sq_nn (crs3 p q r)
        omega
  · -- the lines cross
    have t : tch p q r s = true ↔ crs3 p q r * crs3 p q s ≤ 0 ∧ crs3 r s p * crs3 r s q ≤ 0 := by
      unfold tch
      simp only
      rw [if_neg hd, eu, ev, c2, c4]
      generalize (q.a - p.a) * (s.b - r.b) - (q.b - p.b) * (s.a - r.a) = d at *
      generalize crs3 p q r = v at *
      generalize crs3 r s p = u at *
      have h1 : v * (v + d) ≤ 0 ↔ bt 0 d (-v) := by unfold bt; rw [show (-v - 0) * (-v - d) = v * (v + d) by grind]
      have h2 : u * (u - d) ≤ 0 ↔ bt 0 d u := by unfold bt; rw [show (u - 0) * (u - d) = u * (u - d) by grind]
      rw [h1, h2, bt_iff, bt_iff]
      split
      · simp only [Bool.and_eq_true, decide_eq_true_eq]; omega
      · simp only [Bool.and_eq_true, decide_eq_true_eq]; omega
    rw [t]
    have o1 : On p q r ↔ crs3 p q r = 0 ∧ crs3 r s p * crs3 r s q ≤ 0 := by
      unfold On bt
      refine and_congr_right fun z => ?_
      have := box_iff (ex := r.a - p.a) (ey := r.b - p.b) (dx := q.a - p.a) (dy := q.b - p.b) (wx := s.a - r.a) (wy := s.b - r.b) (by unfold crs3 at z; omega) hd
      rw [c4, ← eu, ← this, show r.a - p.a - (q.a - p.a) = r.a - q.a by omega, show r.b - p.b - (q.b - p.b) = r.b - q.b by omega]
    have o2 : On p q s ↔ crs3 p q s = 0 ∧ crs3 r s p * crs3 r s q ≤ 0 := by
      unfold On bt
      refine and_congr_right fun z => ?_
      have := box_iff (ex := s.a - p.a) (ey := s.b - p.b) (dx := q.a - p.a) (dy := q.b - p.b) (wx := s.a - r.a) (wy := s.b - r.b) (by unfold crs3 at z; omega) hd
      rw [show (s.a - p.a) * (s.b - r.b) - (s.b - p.b) * (s.a - r.a) = crs3 r s p by unfold crs3; grind] at this
      rw [c4, ← this, show s.a - p.a - (q.a - p.a) = s.a - q.a by omega, show s.b - p.b - (q.b - p.b) = s.b - q.b by omega]
    have hd' : (s.a - r.a) * (q.b - p.b) - (s.b - r.b) * (q.a - p.a) ≠ 0 := fun z => hd (by rw [Int.mul_comm (s.a - r.a), Int.mul_comm (s.b - r.b)] at z; omega)
    have ed : (s.a - r.a) * (q.b - p.b) - (s.b - r.b) * (q.a - p.a) = -((q.a - p.a) * (s.b - r.b) - (q.b - p.b) * (s.a - r.a)) := by rw [Int.mul_comm (s.a - r.a), Int.mul_comm (s.b - r.b)]; omega
    have neg : ∀ v d : Int, v * (v - -d) ≤ 0 ↔ v * (v + d) ≤ 0 := fun v d => by rw [show v - -d = v + d by omega]
    have o3 : On r s p ↔ crs3 r s p = 0 ∧ crs3 p q r * crs3 p q s ≤ 0 := by
      unfold On bt
      refine and_congr_right fun z => ?_
      have := box_iff (ex := p.a - r.a) (ey := p.b - r.b) (dx := s.a - r.a) (dy := s.b - r.b) (wx := q.a - p.a) (wy := q.b - p.b) (by unfold crs3 at z; omega) hd'
      rw [show (p.a - r.a) * (q.b - p.b) - (p.b - r.b) * (q.a - p.a) = crs3 p q r by unfold crs3; grind, ed, neg] at this
      rw [c2, ← this, show p.a - r.a - (s.a - r.a) = p.a - s.a by omega, show p.b - r.b - (s.b - r.b) = p.b - s.b by omega]
    have o4 : On r s q ↔ crs3 r s q = 0 ∧ crs3 p q r * crs3 p q s ≤ 0 := by
      unfold On bt
      refine and_congr_right fun z => ?_
      have := box_iff (ex := q.a - r.a) (ey := q.b - r.b) (dx := s.a - r.a) (dy := s.b - r.b) (wx := q.a - p.a) (wy := q.b - p.b) (by unfold crs3 at z; omega) hd'
      rw [show (q.a - r.a) * (q.b - p.b) - (q.b - r.b) * (q.a - p.a) = crs3 p q r by unfold crs3; grind, ed, neg] at this
      rw [c2, ← this, show q.a - r.a - (s.a - r.a) = q.a - s.a by omega, show q.b - r.b - (s.b - r.b) = q.b - s.b by omega]
    unfold Met
    rw [o1, o2, o3, o4]
    generalize crs3 p q r = a at *
    generalize crs3 p q s = b at *
    generalize crs3 r s p = c at *
    generalize crs3 r s q = d at *
    have z1 : a * b = 0 ↔ a = 0 ∨ b = 0 := Int.mul_eq_zero
    have z2 : c * d = 0 ↔ c = 0 ∨ d = 0 := Int.mul_eq_zero
    generalize a * b = x at *
    generalize c * d = y at *
    clear o1 o2 o3 o4 t c2 c4 eu ev hd hd' ed neg
    omega
def det (p q r : T3 Int Int Int) : Int := (p.b * q.c - p.c * q.b) * r.a + (p.c * q.a - p.a * q.c) * r.b + (p.a * q.b - p.b * q.a) * r.c
def sg (n : Int) : Int := if n = 0 then 0 else if 0 < n then 1 else -1
theorem sg_neg (n : Int) : sg (-n) = -sg n := by unfold sg; (repeat' split) <;> omega
theorem sg_mul {k n : Int} (h : 0 < k) : sg (k * n) = sg n := by
  unfold sg
  rcases Int.lt_trichotomy n 0 with z | z | z
  · have := Int.mul_neg_of_pos_of_neg h z
    (repeat' split) <;> omega
  · subst z; simp
  · have := Int.mul_pos h z
    (repeat' split) <;> omega
theorem crossed_ok {p q : T3 Int Int Int} {n m : Nat} (hp : Pt n p) (hq : Pt m q) (h : n + m ≤ 7000) : m_crossed p q = some ⟨p.b * q.c - p.c * q.b, p.c * q.a - p.a * q.c, p.a * q.b - p.b * q.a⟩ := by
  unfold m_crossed
  rw [mulG_ok _ _ hp.sb hq.sc (by omega), mulG_ok _ _ hp.sc hq.sb (by omega), mulG_ok _ _ hp.sc hq.sa (by omega), mulG_ok _ _ hp.sa hq.sc (by omega), mulG_ok _ _ hp.sa hq.sb (by omega), mulG_ok _ _ hp.sb hq.sa (by omega)]
  rfl
theorem side_ok {p q r : T3 Int Int Int} {n : Nat} (hp : Pt n p) (hq : Pt n q) (hr : Pt n r) (h : n ≤ 3000) : m_side p q r = some (sg (det p q r)) := by
  unfold m_side
  rw [crossed_ok hp hq (by omega)]
  simp only [Option.bind_some]
  rw [mulG_ok _ _ (sz_sub (sz_mul hp.sb hq.sc) (sz_mul hp.sc hq.sb)) hr.sa (by omega), mulG_ok _ _ (sz_sub (sz_mul hp.sc hq.sa) (sz_mul hp.sa hq.sc)) hr.sb (by omega), mulG_ok _ _ (sz_sub (sz_mul hp.sa hq.sb) (sz_mul hp.sb hq.sa)) hr.sc (by omega)]
  simp only [Option.bind_some]
  show _ = some (sg (det p q r))
  unfold sg det
  (try simp only [decide_eq_true_eq])
  (repeat' split) <;> rfl
/-! ### plain: the program's points on sides, over one bottom -/
theorem ov_k {P : Int} {r : P3} {u : P2} (h : Ov P r u) (hP : 0 < P) : ∃ k : Int, 0 < k ∧ k * r.c = P ∧ k * r.a = u.a ∧ k * r.b = u.b := by
  refine ⟨P / r.c, Int.ediv_pos_of_pos_of_dvd hP (Int.le_of_lt h.pos) h.dvd, Int.ediv_mul_cancel h.dvd, ?_, ?_⟩
  · rw [Int.mul_comm]; exact h.a
  · rw [Int.mul_comm]; exact h.b
theorem det_ov {P : Int} {p q r : P3} {u v w : P2} (hP : 0 < P) (hp : Ov P p u) (hq : Ov P q v) (hr : Ov P r w) : sg (det p q r) = sg (crs3 u v w) := by
  obtain ⟨k, k0, k1, k2, k3⟩ := ov_k hp hP
  obtain ⟨l, l0, l1, l2, l3⟩ := ov_k hq hP
  obtain ⟨m, m0, m1, m2, m3⟩ := ov_k hr hP
  have e : (k * l * m) * det p q r = P * crs3 u v w := by
    unfold det crs3
    have : (k * l * m) * ((p.b * q.c - p.c * q.b) * r.a + (p.c * q.a - p.a * q.c) * r.b + (p.a * q.b - p.b * q.a) * r.c) = ((k * p.b) * (l * q.c) - (k * p.c) * (l * q.b)) * (m * r.a) + ((k * p.c) * (l * q.a) - (k * p.a) * (l * q.c)) * (m * r.b) + ((k * p.a) * (l * q.b) - (k * p.b) * (l * q.a)) * (m * r.c) := by
      clear k1 k2 k3 l1 l2 l3 m1 m2 m3; grind
    rw [this, k1, k2, k3, l1, l2, l3, m1, m2, m3]
    clear this k1 k2 k3 l1 l2 l3 m1 m2 m3; grind
  rw [← sg_mul (n := det p q r) (Int.mul_pos (Int.mul_pos k0 l0) m0), e, sg_mul hP]
theorem cmp_ov {P a b c d u v : Int} (hP : 0 < P) (hc : 0 < c) (hd : 0 < d) (ha : a * P = u * c) (hb : b * P = v * d) : a * d ≤ b * c ↔ u ≤ v := by
  have e1 : a * d * P = u * (c * d) := by rw [Int.mul_right_comm, ha, Int.mul_assoc]
  have e2 : b * c * P = v * (c * d) := by rw [Int.mul_right_comm, hb, Int.mul_assoc, Int.mul_comm d c]
  have cd := Int.mul_pos hc hd
  constructor
  · intro h
    have := Int.mul_le_mul_of_nonneg_right h (Int.le_of_lt hP)
    rw [e1, e2] at this
    exact Int.le_of_mul_le_mul_right this cd
  · intro h
    have := Int.mul_le_mul_of_nonneg_right h (Int.le_of_lt cd)
    rw [← e1, ← e2] at this
    exact Int.le_of_mul_le_mul_right this hP
/-- a number over its bottom, of 1200 bits -/
structure N1 (P : Int) (x : T2 Int Int) (u : Int) : Prop where
  pos : 0 < x.b
  eq : x.a * P = u * x.b
  sa : x.a.natAbs < 2 ^ 1200
  sb : x.b.natAbs < 2 ^ 1200
theorem amid_ok {P : Int} (hP : 0 < P) {x y z : T2 Int Int} {u v w : Int} (hx : N1 P x u) (hy : N1 P y v) (hz : N1 P z w) : ∃ b, m_is_amid x y z = some b ∧ (b = true ↔ bt u v w) := by
  have core : ∀ {x y z : T2 Int Int} {u v w : Int}, N1 P x u → N1 P y v → N1 P z w → u ≤ v → ∃ b, (if decide (x.a * z.b ≤ z.a * x.b) = true then (mulG z.a y.b).bind fun z7 => (mulG y.a z.b).bind fun z8 => some (decide (z7 ≤ z8)) else some false) = some b ∧ (b = true ↔ bt u v w) := by
    intro x y z u v w hx hy hz huv
    have c1 := cmp_ov hP hx.pos hz.pos hx.eq hz.eq
    have c2 := cmp_ov hP hz.pos hy.pos hz.eq hy.eq
    by_cases h : x.a * z.b ≤ z.a * x.b
    · rw [if_pos (by simpa using h), mulG_ok _ _ hz.sa hy.sb (by decide), Option.bind_some, mulG_ok _ _ hy.sa hz.sb (by decide), Option.bind_some]
      refine ⟨_, rfl, ?_⟩
      rw [decide_eq_true_eq, c2, bt_iff]
      have := c1.mp h
      omega
    · rw [if_neg (by simpa using h)]
      refine ⟨_, rfl, ?_⟩
      rw [bt_iff]
      have : ¬ u ≤ w := fun y => h (c1.mpr y)
      constructor
      · intro e; cases e
      · omega
  unfold m_is_amid
  rw [mulG_ok _ _ hx.sa hy.sb (by decide), Option.bind_some, mulG_ok _ _ hy.sa hx.sb (by decide), Option.bind_some]
  have c := cmp_ov hP hx.pos hy.pos hx.eq hy.eq
  by_cases h : u ≤ v
  · have h' := c.mpr h
    rw [if_neg (by simpa using h'), mulG_ok _ _ hx.sa hz.sb (by decide), Option.bind_some, mulG_ok _ _ hz.sa hx.sb (by decide), Option.bind_some]
    obtain ⟨b, e, i⟩ := core hx hy hz h
    exact ⟨b, (congrArg (fun o => Option.bind o _) e).trans rfl, i⟩
  · have h' : ¬ x.a * y.b ≤ y.a * x.b := fun z => h (c.mp z)
    rw [if_pos (by simpa using h')]
    unfold m_is_amid_b
    rw [mulG_ok _ _ hy.sa hx.sb (by decide), Option.bind_some, mulG_ok _ _ hx.sa hy.sb (by decide), Option.bind_some, if_neg (by simp; omega), mulG_ok _ _ hy.sa hz.sb (by decide), Option.bind_some, mulG_ok _ _ hz.sa hy.sb (by decide), Option.bind_some]
    obtain ⟨b, e, i⟩ := core hy hx hz (by omega)
    refine ⟨b, ?_, ?_⟩
    · rw [show (if decide (y.a * z.b ≤ z.a * y.b) = true then (mulG z.a x.b).bind fun z7 => (mulG x.a z.b).bind fun z8 => some (decide (z7 ≤ z8)) else some false) = some b from e]; rfl
    · rw [i, bt_iff, bt_iff]; omega
/-- a point of the program: over P it is u -/
structure Pv (P : Int) (r : P3) (u : P2) : Prop where
  ov : Ov P r u
  pt : Pt 100 r
theorem Pv.x {P : Int} {r : P3} {u : P2} (h : Pv P r u) : N1 P (T2.mk r.a r.c) u.a := ⟨h.ov.pos, h.ov.ea, pow_le h.pt.sa (by decide), pow_le h.pt.sc (by decide)⟩
theorem Pv.y {P : Int} {r : P3} {u : P2} (h : Pv P r u) : N1 P (T2.mk r.b r.c) u.b := ⟨h.ov.pos, h.ov.eb, pow_le h.pt.sb (by decide), pow_le h.pt.sc (by decide)⟩
theorem side_pv {P : Int} (hP : 0 < P) {p q r : P3} {u v w : P2} (hp : Pv P p u) (hq : Pv P q v) (hr : Pv P r w) : m_side p q r = some (sg (crs3 u v w)) := by
  rw [side_ok hp.pt hq.pt hr.pt (by decide), det_ov hP hp.ov hq.ov hr.ov]
theorem sg0 {n : Int} : sg n = 0 ↔ n = 0 := by unfold sg; (repeat' split) <;> omega
theorem on_ok {P : Int} (hP : 0 < P) {p q r : P3} {u v w : P2} (hp : Pv P p u) (hq : Pv P q v) (hr : Pv P r w) : ∃ b, m_lies_on p q r = some b ∧ (b = true ↔ On u v w) := by
  unfold m_lies_on
  rw [side_pv hP hp hq hr, Option.bind_some]
  by_cases z : crs3 u v w = 0
  · rw [if_neg (by simp [sg0, z])]
    obtain ⟨b1, e1, i1⟩ := amid_ok hP hp.x hq.x hr.x
    obtain ⟨b2, e2, i2⟩ := amid_ok hP hp.y hq.y hr.y
    rw [e1, Option.bind_some]
    unfold On
    cases b1 with
    | false => exact ⟨false, rfl, fun e => (nomatch e), fun h => absurd (i1.mpr h.2.1) (by decide)⟩
    | true =>
      rw [if_neg (by decide), e2]
      exact ⟨b2, rfl, i2.trans ⟨fun h => ⟨z, i1.mp rfl, h⟩, fun h => h.2.2⟩⟩
  · rw [if_pos (by simp [sg0, z])]
    exact ⟨false, rfl, fun e => (nomatch e), fun h => absurd h.1 z⟩
/-! ### plain: simple rings -/
theorem ix_map {α β : Type} (f : α → β) (xs : List α) (i : Int) : ix (xs.map f) i = (ix xs i).map f := by
  unfold ix atI
  rw [List.length_map]
  cases ixN xs.length i with
  | none => rfl
  | some j => exact List.getElem?_map
theorem mapO_range {β : Type} {f : Int → Option β} {lo : Int} : ∀ {ys : List β}, (∀ j (h : j < ys.length), f (lo + (j : Int)) = some ys[j]) → mapO f (rangeL lo ys.length) = some ys := by
  intro ys
  induction ys generalizing lo with
  | nil => intro _; rfl
  | cons y ys ih =>
    intro h
    have e : rangeL lo (ys.length + 1) = lo :: rangeL (lo + 1) ys.length := by
      unfold rangeL
      rw [List.range_succ_eq_map, List.map_cons, List.map_map]
      congr 1
      · simp
      · refine List.map_congr_left fun k _ => ?_
        show lo + ((k + 1 : Nat) : Int) = lo + 1 + (k : Int)
        omega
    rw [List.length_cons, e]
    have h0 := h 0 (by simp)
    show (f lo).bind _ = _
    rw [show lo = lo + ((0 : Nat) : Int) by simp, h0]
    show (mapO f _).bind _ = _
    rw [show lo + ((0 : Nat) : Int) + 1 = lo + 1 by simp, ih fun j hj => by
      have := h (j + 1) (by rw [List.length_cons]; omega)
      rw [show lo + 1 + (j : Int) = lo + ((j + 1 : Nat) : Int) by omega]
      exact this]
    rfl
theorem sides_sd {xs : List P3} (hl : xs.length ≤ 1000) : m_sides_of xs = some (sd xs) := by
  unfold m_sides_of
  rw [rngOk_ok (by omega) (by omega), Option.bind_some, lenOk_ok (by omega), Option.bind_some, Int.toNat_natCast, ← sd_len xs, mapO_range (ys := sd xs) fun j hj => by
    rw [sd_len] at hj
    obtain ⟨p, q, e1, e2, e3, _, _⟩ := sd_at hj
    rw [Int.zero_add, e2, e3]
    have := List.getElem?_eq_some_iff.mp e1
    obtain ⟨_, e⟩ := this
    rw [e]; rfl]
  rfl
theorem sd_ix {α : Type} {xs : List α} {k : Int} (h0 : 0 ≤ k) (h1 : k < xs.length) : ∃ p q, ix (sd xs) k = some ⟨p, q⟩ ∧ ix xs (k - 1) = some p ∧ ix xs k = some q := by
  obtain ⟨j, rfl⟩ : ∃ j : Nat, k = (j : Int) := ⟨k.toNat, by omega⟩
  have hj : j < xs.length := by omega
  obtain ⟨p, q, e1, e2, e3, _, _⟩ := sd_at hj
  refine ⟨p, q, ?_, e2, e3⟩
  have : j < (sd xs).length := by rw [sd_len]; exact hj
  rw [ix_lt this, ← List.getElem?_eq_getElem this]
  exact e1
/-! ### plain: rings apart, within, cloths -/
theorem loopL_map {α β τ ρ : Type} {f : β → τ → Option (Lp τ ρ)} {g : α → β} : ∀ {xs : List α} {s : τ}, loopL f (xs.map g) s = loopL (fun x => f (g x)) xs s
  | [], _ => rfl
  | x :: xs, s => by
    show (f (g x) s).bind _ = (f (g x) s).bind _
    congr 1
    funext o
    cases o with
    | nxt s' => exact loopL_map
    | brk s' => rfl
    | ret r => rfl
theorem filO_all {α : Type} {f : α → Option (Option α)} {c : α → Bool} : ∀ {xs : List α}, (∀ x ∈ xs, f x = some (if c x = true then some x else none)) → filO f xs = some (xs.filter c)
  | [], _ => rfl
  | x :: xs, h => by
    show (f x).bind _ = _
    rw [h x List.mem_cons_self, Option.bind_some, filO_all fun y hy => h y (List.mem_cons_of_mem _ hy), Option.bind_some, List.filter_cons]
    cases c x <;> rfl
/-- the side u v is met once by going level to the right from w -/
def gbB (u v w : P2) : Bool := if (decide (w.b < v.b) && !decide (w.b < u.b)) = true then decide (0 < crs3 u v w) else if (decide (w.b < u.b) && !decide (w.b < v.b)) = true then decide (crs3 u v w < 0) else false
theorem higher_ok {P : Int} (hP : 0 < P) {p q : P3} {u v : P2} (hp : Pv P p u) (hq : Pv P q v) : m_is_higher p q = some (decide (v.b < u.b)) := by
  unfold m_is_higher
  rw [mulG_ok _ _ hp.pt.sb hq.pt.sc (by decide), Option.bind_some, mulG_ok _ _ hq.pt.sb hp.pt.sc (by decide), Option.bind_some]
  have c := cmp_ov hP hp.ov.pos hq.ov.pos hp.ov.eb hq.ov.eb
  congr 1
  by_cases z : v.b < u.b
  · rw [decide_eq_true z, decide_eq_true_eq]
    rcases Int.lt_or_le (q.b * p.c) (p.b * q.c) with y | y
    · exact y
    · have := c.mp y; omega
  · rw [decide_eq_false z, decide_eq_false_iff_not]
    have := c.mpr (by omega)
    omega
theorem sg1 {n : Int} : sg n = 1 ↔ 0 < n := by unfold sg; (repeat' split) <;> omega
theorem sgm {n : Int} : sg n = -1 ↔ n < 0 := by unfold sg; (repeat' split) <;> omega
theorem goes_ok {P : Int} (hP : 0 < P) {p q r : P3} {u v w : P2} (hp : Pv P p u) (hq : Pv P q v) (hr : Pv P r w) : m_goes_by p q r = some (gbB u v w) := by
  unfold m_goes_by gbB
  rw [higher_ok hP hq hr, higher_ok hP hp hr, side_pv hP hp hq hr]
  by_cases a : w.b < v.b <;> by_cases b : w.b < u.b <;> simp [a, b, sg1, sgm]
def wn (us : List P2) (w : P2) : Nat := ((sd us).filter fun s => gbB s.a s.b w).length
theorem within_ok {P : Int} (hP : 0 < P) {us : List P2} {h : P2 → P3} (hu : ∀ u ∈ us, Pv P (h u) u) (hl : us.length ≤ 1000) {r : P3} {w : P2} (hr : Pv P r w) : m_is_within (us.map h) r = some (decide ((wn us w : Int) % 2 = 1)) := by
  unfold m_is_within
  rw [sides_sd (by rw [List.length_map]; exact hl), Option.bind_some, lenOk_ok (by rw [sd_len, List.length_map]; omega), Option.bind_some, filO_all (c := fun x : T2 P3 P3 => (m_goes_by x.a x.b r).getD false) fun x hx => by
    rw [sd_map] at hx
    obtain ⟨s, hs, e⟩ := List.mem_map.mp hx
    subst e
    rw [goes_ok hP (hu _ (sd_mem hs).1) (hu _ (sd_mem hs).2) hr, Option.bind_some, Option.getD_some]
    split <;> rfl]
  rw [Option.bind_some, sd_map, List.filter_map, List.length_map]
  unfold wn
  have : (sd us).filter ((fun x : T2 P3 P3 => (m_goes_by x.a x.b r).getD false) ∘ fun s : T2 P2 P2 => T2.mk (h s.a) (h s.b)) = (sd us).filter fun s => gbB s.a s.b w := by
    refine List.filter_congr fun s hs => ?_
    show (m_goes_by (h s.a) (h s.b) r).getD false = _
    rw [goes_ok hP (hu _ (sd_mem hs).1) (hu _ (sd_mem hs).2) hr]; rfl
  rw [this]
def inn (rs : List (List P2)) (w : P2) : Nat := (rs.filter fun us => decide ((wn us w : Int) % 2 = 1)).length
/-! ### plain: strips have an area -/
theorem compL_sub {α τ : Type} {f : α → τ → Option (Option α × τ)} (I : τ → Prop) : ∀ {xs : List α} {s : τ}, (∀ x s, x ∈ xs → I s → ∃ y s', f x s = some (y, s') ∧ I s' ∧ ∀ z, y = some z → z = x) → I s → ∃ ys s', compL f xs s = some (ys, s') ∧ I s' ∧ ys.Sublist xs
  | [], s, _, h => ⟨[], s, rfl, h, List.Sublist.refl _⟩
  | x :: xs, s, hf, h => by
    obtain ⟨y, s1, e1, h1, p1⟩ := hf x s List.mem_cons_self h
    obtain ⟨ys, s2, e2, h2, l2⟩ := compL_sub I (xs := xs) (fun x s hx => hf x s (List.mem_cons_of_mem _ hx)) h1
    have e3 : ∀ y', y' = y → compL f (x :: xs) s = some ((match y' with | some z => z :: ys | none => ys), s2) := by
      intro y' ey
      subst ey
      show (f x s).bind _ = _
      rw [e1]
      show (compL f xs s1).bind _ = _
      rw [e2]; rfl
    have e3 := e3 y rfl
    cases y with
    | none => exact ⟨ys, s2, e3, h2, l2.cons _⟩
    | some y => exact ⟨y :: ys, s2, e3, h2, by rw [p1 y rfl]; exact l2.cons_cons _⟩
theorem mapS_map {α β τ : Type} {f : α → τ → Option (β × τ)} (I : τ → Prop) (g : β → α) (P : β → Prop) : ∀ {xs : List α} {s : τ}, (∀ x s, x ∈ xs → I s → ∃ y s', f x s = some (y, s') ∧ I s' ∧ g y = x ∧ P y) → I s → ∃ ys s', mapS f xs s = some (ys, s') ∧ I s' ∧ ys.map g = xs ∧ ∀ y ∈ ys, P y
  | [], s, _, h => ⟨[], s, rfl, h, rfl, fun _ h => nomatch h⟩
  | x :: xs, s, hf, h => by
    obtain ⟨y, s1, e1, h1, p1, q1⟩ := hf x s List.mem_cons_self h
    obtain ⟨ys, s2, e2, h2, l2, p2⟩ := mapS_map I g P (xs := xs) (fun x s hx => hf x s (List.mem_cons_of_mem _ hx)) h1
    refine ⟨y :: ys, s2, ?_, h2, by rw [List.map_cons, l2, p1], fun z hz => ?_⟩
    · show (f x s).bind _ = _
      rw [e1]
      show (mapS f xs s1).bind _ = _
      rw [e2]; rfl
    · rcases List.mem_cons.mp hz with e | hz
      · subst e; exact q1
      · exact p2 z hz
theorem range_sorted (lo : Int) (n : Nat) : (rangeL lo n).Pairwise (· ≤ ·) := by
  unfold rangeL
  rw [List.pairwise_map]
  refine List.Pairwise.imp (fun h => ?_) List.pairwise_lt_range
  omega
theorem chain2_ok {xs : List Int} (h : Bag xs) {w m : Int} (h1 : 2 ≤ w) (h2 : w ≤ 11) (h3 : 3 ≤ m) (h4 : m ≤ 12) : ∃ t ys, m__law_chain xs w m = some (0 :: (t ++ [w]), ys) ∧ Bag ys ∧ t.length ≤ 10 ∧ (0 :: (t ++ [w])).Pairwise (· ≤ ·) ∧ ∀ x ∈ t, 0 ≤ x ∧ x ≤ w := by
  unfold m__law_chain
  rw [rngOk_ok (by omega) (by omega), Option.bind_some, rngOk_ok (by omega) (by omega), Option.bind_some, lenOk_ok (by omega), Option.bind_some]
  obtain ⟨ys, y1, e, hb, hs⟩ := compL_sub (f := fun (x1 : Int) (s1 : (List Int)) => ((m__law_draw s1 2).bind fun z1 => if (decide (z1.1 = 1)) = true then (some (some x1, z1.2)) else (some (none, z1.2)))) Bag (xs := rangeL 1 (w - 1).toNat) (s := xs) (fun x s hx hs => by
    obtain ⟨r, ys, e, hb, _, _⟩ := draw_ok hs (many := 2) (by decide) (by decide)
    rw [e, Option.bind_some]
    by_cases z : r = 1
    · rw [if_pos (by simpa using z)]
      exact ⟨_, _, rfl, hb, fun z e => (Option.some.inj e).symm⟩
    · rw [if_neg (by simpa using z)]
      exact ⟨_, _, rfl, hb, fun z e => nomatch e⟩) h
  rw [e, Option.bind_some]
  have hl := hs.length_le
  rw [rangeL_len] at hl
  have hsl := slice_len ys none (some (m - 2))
  simp only [Option.bind_some]
  rw [lenOk_ok (by simp only [List.length_cons, List.length_nil]; omega), Option.bind_some, lenOk_ok (by simp only [List.length_append, List.length_cons, List.length_nil]; omega), Option.bind_some]
  have sub : (slice ys none (some (m - 2))).Sublist (rangeL 1 (w - 1).toNat) := ((List.take_sublist _ _).trans (List.drop_sublist _ _)).trans hs
  have bd : ∀ x ∈ slice ys none (some (m - 2)), 1 ≤ x ∧ x < w := fun x hx => by
    have := rangeL_mem (sub.mem hx)
    omega
  refine ⟨slice ys none (some (m - 2)), y1, rfl, hb, by omega, ?_, fun x hx => by have := bd x hx; omega⟩
  refine List.pairwise_cons.mpr ⟨fun x hx => ?_, List.pairwise_append.mpr ⟨(range_sorted _ _).sublist sub, by simp, fun x hx y hy => ?_⟩⟩
  · rcases List.mem_append.mp hx with hx | hx
    · have := bd x hx; omega
    · rw [List.mem_singleton] at hx; omega
  · rw [List.mem_singleton] at hy; have := bd x hx; omega
def trap (p q : P2) : Int := (q.a - p.a) * (p.b + q.b)
theorem cy_trap (xs : List P2) : cy cr2 xs = -cy trap xs := by
  have e : ∀ p ∈ xs, ∀ q ∈ xs, cr2 p q = -1 * trap p q + (q.a * q.b - p.a * p.b) := fun p _ q _ => by unfold cr2 trap; grind
  rw [cy_congr e, cy_add, cy_mul, cy_tel (fun p : P2 => p.a * p.b)]
  omega
theorem trap_lo : ∀ {L : List P2} {p l : P2}, (p :: L).Pairwise (fun p q => p.a ≤ q.a) → (∀ q ∈ p :: L, q.b ≤ 3) → (p :: L).getLast? = some l → ps trap p L ≤ 6 * (l.a - p.a)
  | [], p, l, _, _, h => by cases h; simp [ps]
  | q :: L, p, l, hp, hb, h => by
    obtain ⟨h1, h2⟩ := List.pairwise_cons.mp hp
    have ih := trap_lo (L := L) (p := q) (l := l) h2 (fun x hx => hb x (List.mem_cons_of_mem _ hx)) (by simpa using h)
    have a1 := h1 q List.mem_cons_self
    have b1 := hb p List.mem_cons_self
    have b2 := hb q (List.mem_cons_of_mem _ List.mem_cons_self)
    show trap p q + ps trap q L ≤ _
    have : trap p q ≤ 6 * (q.a - p.a) := by
      unfold trap
      rw [Int.mul_comm]
      exact Int.mul_le_mul_of_nonneg_right (by omega) (by omega)
    omega
theorem trap_hi : ∀ {L : List P2} {p l : P2}, (p :: L).Pairwise (fun p q => q.a ≤ p.a) → (∀ q ∈ p :: L, 4 ≤ q.b) → (p :: L).getLast? = some l → ps trap p L ≤ 8 * (l.a - p.a)
  | [], p, l, _, _, h => by cases h; simp [ps]
  | q :: L, p, l, hp, hb, h => by
    obtain ⟨h1, h2⟩ := List.pairwise_cons.mp hp
    have ih := trap_hi (L := L) (p := q) (l := l) h2 (fun x hx => hb x (List.mem_cons_of_mem _ hx)) (by simpa using h)
    have a1 := h1 q List.mem_cons_self
    have b1 := hb p List.mem_cons_self
    have b2 := hb q (List.mem_cons_of_mem _ List.mem_cons_self)
    show trap p q + ps trap q L ≤ _
    have : trap p q ≤ 8 * (q.a - p.a) := by
      unfold trap
      have := Int.mul_le_mul_of_nonneg_right (show (8 : Int) ≤ p.b + q.b by omega) (show 0 ≤ p.a - q.a by omega)
      have e : (q.a - p.a) * (p.b + q.b) = -((p.b + q.b) * (p.a - q.a)) := by clear this; grind
      rw [e]; omega
    omega
/-- two chains from 0 to w, the low one below 4, the high one from 4 on -/
theorem strip_pos {lo hi : List P2} {w : Int} (hw : 0 < w) {t u : List Int} (el : lo.map (·.a) = 0 :: (t ++ [w])) (eh : hi.map (·.a) = 0 :: (u ++ [w])) (sl : (0 :: (t ++ [w])).Pairwise (· ≤ ·)) (sh : (0 :: (u ++ [w])).Pairwise (· ≤ ·)) (bl : ∀ p ∈ lo, p.b ≤ 3) (bh : ∀ p ∈ hi, 4 ≤ p.b) : 0 < cy cr2 (lo ++ hi.reverse) := by
  have pl : lo.Pairwise (fun p q => p.a ≤ q.a) := by rw [← el, List.pairwise_map] at sl; exact sl
  have ph : hi.Pairwise (fun p q => p.a ≤ q.a) := by rw [← eh, List.pairwise_map] at sh; exact sh
  cases lo with
  | nil => cases el
  | cons p0 L =>
    cases hi with
    | nil => cases eh
    | cons h0 M =>
      have p0a : p0.a = 0 := by rw [List.map_cons] at el; injection el
      have h0a : h0.a = 0 := by rw [List.map_cons] at eh; injection eh
      obtain ⟨pl', epl⟩ : ∃ l, (p0 :: L).getLast? = some l := ⟨_, List.getLast?_cons⟩
      obtain ⟨hl', ehl⟩ : ∃ l, (h0 :: M).getLast? = some l := ⟨_, List.getLast?_cons⟩
      have la : pl'.a = w := by
        have := congrArg List.getLast? el
        rw [List.getLast?_map, epl, ← List.cons_append, List.getLast?_append] at this
        simpa using this
      have ha : hl'.a = w := by
        have := congrArg List.getLast? eh
        rw [List.getLast?_map, ehl, ← List.cons_append, List.getLast?_append] at this
        simpa using this
      rw [cy_trap]
      have er : ∃ R, (h0 :: M).reverse = hl' :: R := by
        cases hr : (h0 :: M).reverse with
        | nil => have := congrArg List.length hr; simp at this
        | cons y R =>
          have : (h0 :: M).reverse.head? = some y := by rw [hr]; rfl
          rw [List.head?_reverse, ehl] at this
          cases this
          exact ⟨R, rfl⟩
      obtain ⟨R, er⟩ := er
      have lastw : ((p0 :: L) ++ (h0 :: M).reverse).getLast? = some h0 := by
        rw [List.getLast?_append, List.getLast?_reverse]; rfl
      unfold cy
      rw [lastw]
      show 0 < -ps trap h0 ((p0 :: L) ++ (h0 :: M).reverse)
      rw [er]
      show 0 < -(trap h0 p0 + ps trap p0 (L ++ hl' :: R))
      have e1 : ps trap p0 (L ++ hl' :: R) = ps trap p0 L + ps trap pl' (hl' :: R) := by
        cases L with
        | nil => cases epl; simp [ps]
        | cons x L => exact ps_append trap p0 (x :: L) (hl' :: R) pl' (by simpa using epl)
      rw [e1]
      show 0 < -(trap h0 p0 + (ps trap p0 L + (trap pl' hl' + ps trap hl' R)))
      have t1 : trap h0 p0 = 0 := by unfold trap; rw [p0a, h0a]; simp
      have t2 : trap pl' hl' = 0 := by unfold trap; rw [la, ha]; simp
      have t3 := trap_lo pl bl epl
      have lastR : (hl' :: R).getLast? = some h0 := by rw [← er, List.getLast?_reverse]; rfl
      have t4 := trap_hi (L := R) (p := hl') (l := h0) (by rw [← er, List.pairwise_reverse]; exact ph) (fun q hq => bh q (by rw [← er] at hq; exact List.mem_reverse.mp hq)) lastR
      omega
theorem strip2_ok {xs : List Int} (h : Bag xs) {w m : Int} (h1 : 2 ≤ w) (h2 : w ≤ 11) (h3 : 3 ≤ m) (h4 : m ≤ 12) : ∃ c ys, m__law_strip xs w m = some (c, ys) ∧ Bag ys ∧ Dr 11 24 c ∧ 0 < c.length ∧ cy cr2 c ≠ 0 := by
  unfold m__law_strip
  obtain ⟨c1, y1, e1, b1, l1, s1, p1⟩ := chain2_ok h h1 h2 h3 h4
  rw [e1, Option.bind_some, lenOk_ok (by simp only [List.length_append, List.length_cons, List.length_nil]; omega), Option.bind_some]
  obtain ⟨q1, y2, e2, b2, l2, p2⟩ := mapS_map (f := fun (x1 : Int) (s1 : (List Int)) => ((m__law_draw s1 4).bind fun z2 => some ((T2.mk x1 z2.1), z2.2))) Bag (fun y : P2 => y.a) (fun y => 0 ≤ y.b ∧ y.b < 4) (xs := 0 :: (c1 ++ [w])) (s := y1) (fun x s hx hs => by
    obtain ⟨r, ys, e, hb, l, u⟩ := draw_ok hs (many := 4) (by decide) (by decide)
    rw [e, Option.bind_some]
    exact ⟨_, _, rfl, hb, rfl, l, u⟩) b1
  simp only
  rw [e2, Option.bind_some]
  obtain ⟨c3, y3, e3, b3, l3, s3, p3⟩ := chain2_ok b2 h1 h2 h3 h4
  simp only
  rw [e3, Option.bind_some, lenOk_ok (by simp only [List.length_append, List.length_cons, List.length_nil]; omega), Option.bind_some]
  obtain ⟨q4, y4, e4, b4, l4, p4⟩ := mapS_map (f := fun (x1 : Int) (s1 : (List Int)) => ((m__law_draw s1 3).bind fun z2 => some ((T2.mk x1 (4 + z2.1)), z2.2))) Bag (fun y : P2 => y.a) (fun y => 4 ≤ y.b ∧ y.b < 7) (xs := 0 :: (c3 ++ [w])) (s := y3) (fun x s hx hs => by
    obtain ⟨r, ys, e, hb, l, u⟩ := draw_ok hs (many := 3) (by decide) (by decide)
    rw [e, Option.bind_some]
    exact ⟨_, _, rfl, hb, rfl, by show 4 ≤ 4 + r; omega, by show 4 + r < 7; omega⟩) b3
  have n1 : q1.length ≤ 12 := by
    have := congrArg List.length l2
    rw [List.length_map] at this
    simp only [List.length_append, List.length_cons, List.length_nil] at this
    omega
  have n4 : q4.length ≤ 12 := by
    have := congrArg List.length l4
    rw [List.length_map] at this
    simp only [List.length_append, List.length_cons, List.length_nil] at this
    omega
  have n0 : 0 < q1.length := by
    have := congrArg List.length l2
    rw [List.length_map] at this
    simp only [List.length_append, List.length_cons, List.length_nil] at this
    omega
  simp only
  rw [e4, Option.bind_some, lenOk_ok (by rw [List.length_reverse]; simp only; omega), Option.bind_some]
  have bd : ∀ {q : List P2} {t : List Int}, q.map (·.a) = 0 :: (t ++ [w]) → (∀ x ∈ t, 0 ≤ x ∧ x ≤ w) → ∀ p ∈ q, 0 ≤ p.a ∧ p.a ≤ w := fun {q t} e ht p hp => by
    have : p.a ∈ q.map (·.a) := List.mem_map_of_mem hp
    rw [e] at this
    simp only [List.mem_cons, List.mem_append, List.not_mem_nil, or_false] at this
    rcases this with e | e | e
    · omega
    · exact ht _ e
    · omega
  refine ⟨_, _, rfl, b4, ⟨fun p hp => ?_, by rw [List.length_append, List.length_reverse]; simp only at *; omega⟩, by rw [List.length_append]; simp only at *; omega, Int.ne_of_gt (strip_pos (w := w) (by omega) l2 l4 s1 s3 (fun p hp => by have := p2 p hp; omega) (fun p hp => (p4 p hp).1))⟩
  rcases List.mem_append.mp hp with hp | hp
  · have := bd l2 p1 p hp
    have := p2 p hp
    exact ⟨by omega, by omega⟩
  · have := bd l4 p3 p (List.mem_reverse.mp hp)
    have := p4 p (List.mem_reverse.mp hp)
    exact ⟨by omega, by omega⟩
/-! ### plain: rings drawn -/
theorem dr_rev {B n : Nat} {xs : List P2} (h : Dr B n xs) : Dr B n xs.reverse := ⟨fun p hp => h.sm p (List.mem_reverse.mp hp), by rw [List.length_reverse]; exact h.le⟩
theorem dr3 {B : Nat} {a b c : P2} (ha : Sm B a) (hb : Sm B b) (hc : Sm B c) : Dr B 24 [a, b, c] := ⟨fun p hp => by
  simp only [List.mem_cons, List.not_mem_nil, or_false] at hp
  rcases hp with e | e | e <;> subst e <;> assumption, by show 3 ≤ 24; decide⟩
theorem dr4 {B : Nat} {a b c d : P2} (ha : Sm B a) (hb : Sm B b) (hc : Sm B c) (hd : Sm B d) : Dr B 24 [a, b, c, d] := ⟨fun p hp => by
  simp only [List.mem_cons, List.not_mem_nil, or_false] at hp
  rcases hp with e | e | e | e <;> subst e <;> assumption, by show 4 ≤ 24; decide⟩
/-- a drawn ring: not empty -/
structure Ne (B : Nat) (xs : List P2) : Prop where
  dr : Dr B 24 xs
  ne : 0 < xs.length
  nz : cy cr2 xs ≠ 0
theorem cr2_neg (p q : P2) : cr2 q p = -cr2 p q := by unfold cr2; omega
theorem Ne.rev {B : Nat} {xs : List P2} (h : Ne B xs) : Ne B xs.reverse := ⟨dr_rev h.dr, by rw [List.length_reverse]; exact h.ne, by rw [cy_rev _ cr2_neg]; have := h.nz; omega⟩
theorem Ne.mono {B C : Nat} {xs : List P2} (h : Ne B xs) (l : B ≤ C) : Ne C xs := ⟨h.dr.mono l (Nat.le_refl _), h.ne, h.nz⟩
theorem tri_nz {d1 d2 d3 : Int} (h1 : 0 ≤ d1) (h2 : d1 < 4) (h3 : 0 ≤ d2) (h4 : d2 < 6) (h5 : 0 ≤ d3) : cy cr2 [T2.mk 0 0, T2.mk 6 d1, T2.mk d2 (4 + d3)] ≠ 0 := by
  show (d2 * 0 - 0 * (4 + d3)) + ((0 * d1 - 6 * 0) + ((6 * (4 + d3) - d2 * d1) + 0)) ≠ 0
  rcases (show d1 = 0 ∨ d1 = 1 ∨ d1 = 2 ∨ d1 = 3 by omega) with z | z | z | z <;> subst z <;> omega
theorem shape_ok {xs : List Int} (h : Bag xs) : ∃ c ys, m__law_shape xs 10 = some (c, ys) ∧ Bag ys ∧ Ne 20 c := by
  unfold m__law_shape
  obtain ⟨r1, y1, e1, b1, l1, u1⟩ := draw_ok h (many := 4) (by decide) (by decide)
  rw [e1, Option.bind_some]
  simp only
  by_cases z : r1 = 3
  · rw [if_pos (by simpa using z)]
    obtain ⟨c, y2, e2, b2, d2, n2, z2⟩ := strip2_ok b1 (w := 6) (m := 10 / 2) (by decide) (by decide) (by decide) (by decide)
    rw [e2]
    exact ⟨_, _, rfl, b2, d2.mono (by decide) (by decide), n2, z2⟩
  · rw [if_neg (by simpa using z), rngOk_ok (by omega) (by omega), Option.bind_some, lenOk_ok (by omega), Option.bind_some]
    obtain ⟨q1, y2, e2, b2, l2, p2⟩ := mapS_inv (f := fun (x1 : Int) (s1 : (List Int)) => ((m__law_draw s1 7).bind fun z3 => (m__law_draw z3.2 7).bind fun z4 => some ((T2.mk z3.1 z4.1), z4.2))) Bag (fun x y => Sm 20 y) (xs := rangeL 0 ((3 + r1)).toNat) (s := y1) (fun x s hx hs => by
      obtain ⟨r, ys, e, hb, l, u⟩ := draw_ok hs (many := 7) (by decide) (by decide)
      obtain ⟨r', ys', e', hb', l', u'⟩ := draw_ok hb (many := 7) (by decide) (by decide)
      rw [e, Option.bind_some, e', Option.bind_some]
      exact ⟨_, _, rfl, hb', by show r.natAbs ≤ 20; omega, by show r'.natAbs ≤ 20; omega⟩) b1
    rw [e2, Option.bind_some]
    rw [rangeL_len] at l2
    have n1 : Dr 20 24 q1 := ⟨fun p hp => by obtain ⟨_, _, q⟩ := p2 p hp; exact q, by omega⟩
    have n0 : 0 < q1.length := by omega
    obtain ⟨b, eb, _⟩ := simple_ok (by decide) (by decide) n1
    have tail : ∀ {c : List P2}, Ne 20 c → ∀ y : List Int, Bag y → ∃ (c' : List P2) (ys' : List Int), ((m__law_twice c).bind fun z12 => (if (decide (z12 < 0)) = true then (some c.reverse) else (some c)).bind fun (s3 : (List (T2 Int Int))) => some ((s3, y))) = some (c', ys') ∧ Bag ys' ∧ Ne 20 c' := by
      intro c hc y hy
      rw [twice_ok (by decide) (by decide) hc.dr, Option.bind_some]
      by_cases z : cy cr2 c < 0
      · rw [if_pos (by simpa using z)]
        exact ⟨_, _, rfl, hy, hc.rev⟩
      · rw [if_neg (by simpa using z)]
        exact ⟨_, _, rfl, hy, hc⟩
    simp only
    rw [eb, Option.bind_some]
    obtain ⟨b', eb', ib'⟩ : ∃ b', (if (!b) = true then some true else (m__law_twice q1).bind fun z7 => some (decide (z7 = 0))) = some b' ∧ (b' = false → cy cr2 q1 ≠ 0) := by
      rw [twice_ok (by decide) (by decide) n1]
      cases b with
      | false => exact ⟨true, rfl, fun e => nomatch e⟩
      | true => exact ⟨_, rfl, fun e => by simpa using e⟩
    rw [eb', Option.bind_some]
    cases b' with
    | true =>
      rw [if_pos rfl]
      obtain ⟨d1, y3, e3, b3, l3, u3⟩ := draw_ok b2 (many := 4) (by decide) (by decide)
      obtain ⟨d2, y4, e4, b4, l4, u4⟩ := draw_ok b3 (many := 6) (by decide) (by decide)
      obtain ⟨d3, y5, e5, b5, l5, u5⟩ := draw_ok b4 (many := 3) (by decide) (by decide)
      rw [e3, Option.bind_some, e4, Option.bind_some, e5, Option.bind_some]
      refine tail ⟨dr3 ⟨by decide, by decide⟩ ⟨(show (6 : Int).natAbs ≤ 20 by decide), by show d1.natAbs ≤ 20; omega⟩ ⟨by show d2.natAbs ≤ 20; omega, by show (4 + d3).natAbs ≤ 20; omega⟩, by simp, tri_nz (by omega) (by omega) (by omega) (by omega) (by omega)⟩ y5 b5
    | false => exact tail ⟨n1, n0, ib' rfl⟩ y2 b2
theorem tri5_nz {d e : Int} (h1 : 0 ≤ d) (h2 : d < 5) (h3 : 0 ≤ e) (h4 : e < 5) : cy cr2 [T2.mk 0 0, T2.mk 5 d, T2.mk e 6] ≠ 0 := by
  show (e * 0 - 0 * 6) + ((0 * d - 5 * 0) + ((5 * 6 - e * d) + 0)) ≠ 0
  rcases (show d = 0 ∨ d = 1 ∨ d = 2 ∨ d = 3 ∨ d = 4 by omega) with z | z | z | z | z <;> subst z <;> omega
def mv (r u : Int) (p : P2) : P2 := ⟨p.a + r, p.b + u⟩
theorem slid2_ok {B n : Nat} {xs : List P2} (hn : n ≤ 1000) (h : Dr B n xs) (r u : Int) : m__law_slid xs r u = some (xs.map (mv r u)) := by
  unfold m__law_slid
  have := h.le
  rw [lenOk_ok (by omega), Option.bind_some, mapO_all (f := fun (x1 : T2 Int Int) => some (T2.mk (x1.a + r) (x1.b + u))) (g := mv r u) (fun x _ => rfl)]
  rfl
theorem dr_mv {B C n : Nat} {xs : List P2} {r u : Int} (h : Dr B n xs) (hr : r.natAbs ≤ C) (hu : u.natAbs ≤ C) : Dr (B + C) n (xs.map (mv r u)) := ⟨fun p hp => by
  obtain ⟨q, hq, e⟩ := List.mem_map.mp hp
  have := h.sm q hq
  subst e
  exact ⟨by show (q.a + r).natAbs ≤ _; have := this.1; omega, by show (q.b + u).natAbs ≤ _; have := this.2; omega⟩, by rw [List.length_map]; exact h.le⟩
theorem cy_mv (r u : Int) (xs : List P2) : cy cr2 (xs.map (mv r u)) = cy cr2 xs := by
  rw [cy_map]
  have e : ∀ p ∈ xs, ∀ q ∈ xs, cr2 (mv r u p) (mv r u q) = cr2 p q + ((r * q.b - u * q.a) - (r * p.b - u * p.a)) := fun p _ q _ => by
    unfold cr2 mv
    simp only
    grind
  rw [cy_congr e, cy_add, cy_tel (fun p : P2 => r * p.b - u * p.a), Int.add_zero]
theorem Ne.mv {B C : Nat} {xs : List P2} {r u : Int} (h : Ne B xs) (hr : r.natAbs ≤ C) (hu : u.natAbs ≤ C) : Ne (B + C) (xs.map (mv r u)) := ⟨dr_mv h.dr hr hu, by rw [List.length_map]; exact h.ne, by rw [cy_mv]; exact h.nz⟩
/-- a drawn cloth -/
structure Cl (B : Nat) (rs : List (List P2)) : Prop where
  rg : ∀ xs ∈ rs, Ne B xs
  le : rs.length ≤ 8
theorem cloth_ok {xs : List Int} (h : Bag xs) : ∃ c ys, m__law_cloth xs = some (c, ys) ∧ Bag ys ∧ Cl 100 c := by
  unfold m__law_cloth
  obtain ⟨r1, y1, e1, b1, l1, u1⟩ := draw_ok h (many := 8) (by decide) (by decide)
  obtain ⟨c1, y2, e2, b2, n1⟩ := shape_ok b1
  rw [e1, Option.bind_some, e2, Option.bind_some]
  simp only
  have one : ∀ {c : List P2}, Ne 100 c → Cl 100 [c] := fun hc => ⟨fun x hx => by rw [List.mem_singleton] at hx; subst hx; exact hc, by show 1 ≤ 8; decide⟩
  have lit : ∀ {a b c d : P2}, Sm 100 a → Sm 100 b → Sm 100 c → Sm 100 d → cy cr2 [a, b, c, d] ≠ 0 → Ne 100 [a, b, c, d] := fun ha hb hc hd hz => ⟨dr4 ha hb hc hd, by simp, hz⟩
  have n1' : Ne 100 c1 := n1.mono (by decide)
  by_cases z : r1 < 3
  · rw [if_pos (by simpa using z)]
    exact ⟨_, _, rfl, b2, one n1'⟩
  · rw [if_neg (by simpa using z)]
    by_cases z : r1 = 3
    · rw [if_pos (by simpa using z)]
      obtain ⟨c3, y3, e3, b3, n3⟩ := shape_ok b2
      obtain ⟨d1, y4, e4, b4, l4, u4⟩ := draw_ok b3 (many := 3) (by decide) (by decide)
      obtain ⟨d2, y5, e5, b5, l5, u5⟩ := draw_ok b4 (many := 9) (by decide) (by decide)
      rw [e3, Option.bind_some, e4, Option.bind_some, e5, Option.bind_some]
      simp only
      rw [slid2_ok (by decide) n3.dr, Option.bind_some]
      refine ⟨_, _, rfl, b5, fun x hx => ?_, by show 2 ≤ 8; decide⟩
      simp only [List.mem_cons, List.not_mem_nil, or_false] at hx
      rcases hx with e | e
      · subst e; exact n1'
      · subst e; exact (n3.mv (C := 20) (by omega) (by omega)).mono (by decide)
    · rw [if_neg (by simpa using z)]
      by_cases z : r1 = 4
      · rw [if_pos (by simpa using z)]
        refine ⟨_, _, rfl, b2, fun x hx => ?_, by show 2 ≤ 8; decide⟩
        simp only [List.mem_cons, List.not_mem_nil, or_false] at hx
        rcases hx with e | e
        · subst e; exact n1'.rev
        · subst e; exact lit ⟨by decide, by decide⟩ ⟨by decide, by decide⟩ ⟨by decide, by decide⟩ ⟨by decide, by decide⟩ (by decide)
      · rw [if_neg (by simpa using z)]
        by_cases z : r1 = 5
        · rw [if_pos (by simpa using z)]
          refine ⟨_, _, rfl, b2, fun x hx => ?_, by show 3 ≤ 8; decide⟩
          simp only [List.mem_cons, List.not_mem_nil, or_false] at hx
          rcases hx with e | e | e
          · subst e; exact lit ⟨by decide, by decide⟩ ⟨by decide, by decide⟩ ⟨by decide, by decide⟩ ⟨by decide, by decide⟩ (by decide)
          · subst e; exact n1'
          · subst e; exact lit ⟨by decide, by decide⟩ ⟨by decide, by decide⟩ ⟨by decide, by decide⟩ ⟨by decide, by decide⟩ (by decide)
        · rw [if_neg (by simpa using z)]
          by_cases z : r1 = 6
          · rw [if_pos (by simpa using z)]
            obtain ⟨d1, y3, e3, b3, l3, u3⟩ := draw_ok b2 (many := 9) (by decide) (by decide)
            rw [e3, Option.bind_some]
            simp only
            rw [rngOk_ok (by omega) (by omega), Option.bind_some]
            obtain ⟨⟨s1, s2⟩, e, i⟩ := foldO_range (f := fun (x1 : Int) (s1 : ((List Int) × (List (List (T2 Int Int))))) => ((m__law_draw s1.1 5).bind fun z8 => (m__law_draw z8.2 5).bind fun z9 => (some ([(T2.mk 0 0), (T2.mk 5 z8.1), (T2.mk z9.1 6)])).bind fun (three_1 : (List (T2 Int Int))) => (m__law_draw z9.2 9).bind fun z10 => (m__law_slid three_1 ((7 * x1)) z10.1).bind fun z11 => (lenOk (s1.2.length + 1)).bind fun _ => some ((z10.2, (s1.2 ++ [z11]))))) (lo := 0) (n := d1.toNat) (s := (y3, []))
              (fun k s => Bag s.1 ∧ s.2.length = k ∧ ∀ x ∈ s.2, Ne 100 x) (fun j s hj ⟨i1, i2, i3⟩ => by
                obtain ⟨f1, y4, e4, b4, l4, u4⟩ := draw_ok i1 (many := 5) (by decide) (by decide)
                obtain ⟨f2, y5, e5, b5, l5, u5⟩ := draw_ok b4 (many := 5) (by decide) (by decide)
                obtain ⟨f3, y6, e6, b6, l6, u6⟩ := draw_ok b5 (many := 9) (by decide) (by decide)
                have n3 : Ne 20 [T2.mk 0 0, T2.mk 5 f1, T2.mk f2 6] := ⟨dr3 ⟨by decide, by decide⟩ ⟨(show (5 : Int).natAbs ≤ 20 by decide), by show f1.natAbs ≤ 20; omega⟩ ⟨by show f2.natAbs ≤ 20; omega, (show (6 : Int).natAbs ≤ 20 by decide)⟩, by simp, tri5_nz l4 u4 l5 u5⟩
                rw [e4, Option.bind_some, e5, Option.bind_some, Option.bind_some, e6, Option.bind_some]
                simp only
                rw [slid2_ok (by decide) n3.dr, Option.bind_some, lenOk_ok (by omega), Option.bind_some]
                refine ⟨_, rfl, b6, by rw [List.length_append, i2]; rfl, fun x hx => ?_⟩
                rcases List.mem_append.mp hx with hx | hx
                · exact i3 x hx
                · rw [List.mem_singleton] at hx
                  subst hx
                  exact (n3.mv (C := 80) (by omega) (by omega)).mono (by decide)) ⟨b3, rfl, fun _ h => nomatch h⟩
            refine ⟨s2, s1, (congrArg (fun o => Option.bind o _) e).trans rfl, i.1, i.2.2, ?_⟩
            have := i.2.1
            simp only at this
            omega
          · rw [if_neg (by simpa using z)]
            obtain ⟨c, y3, e3, b3, d3, n3, z3⟩ := strip2_ok b2 (w := 11) (m := 12) (by decide) (by decide) (by decide) (by decide)
            rw [e3]
            exact ⟨_, _, rfl, b3, one ⟨d3.mono (by decide) (by decide), n3, z3⟩⟩
/-! ### plain: level or upright, the same parity -/
def upB (u v w : P2) : Bool := (!decide ((decide (u.a ≤ w.a)) = (decide (v.a ≤ w.a)))) && ((decide (crs3 u v w < 0) && decide (u.a < v.a)) || (decide (0 < crs3 u v w) && decide (v.a < u.a)))
def un (us : List P2) (w : P2) : Nat := ((sd us).filter fun s => upB s.a s.b w).length
def qd (w u : P2) : Int := if w.a < u.a ∧ w.b < u.b then 1 else 0
theorem mul_sg (x y : Int) : (0 < x → 0 < y → 0 < x * y) ∧ (0 < x → y ≤ 0 → x * y ≤ 0) ∧ (x ≤ 0 → 0 < y → x * y ≤ 0) ∧ (x ≤ 0 → y ≤ 0 → 0 ≤ x * y) :=
  ⟨Int.mul_pos, fun a b => Int.mul_nonpos_of_nonneg_of_nonpos (Int.le_of_lt a) b, fun a b => Int.mul_nonpos_of_nonpos_of_nonneg a (Int.le_of_lt b), fun a b => Int.mul_nonneg_of_nonpos_of_nonpos a b⟩
theorem side_par {u v w : P2} (h : ¬ On u v w) : (gbB u v w = upB u v w) ↔ qd w u = qd w v := by
  have hc : crs3 u v w = (u.a - w.a) * (v.b - w.b) - (u.b - w.b) * (v.a - w.a) := by unfold crs3; grind
  obtain ⟨x1, x2, x3, x4⟩ := mul_sg (u.a - w.a) (v.b - w.b)
  obtain ⟨y1, y2, y3, y4⟩ := mul_sg (u.b - w.b) (v.a - w.a)
  have ho : crs3 u v w = 0 → ¬ (((u.a ≤ w.a ∧ w.a ≤ v.a) ∨ (v.a ≤ w.a ∧ w.a ≤ u.a)) ∧ ((u.b ≤ w.b ∧ w.b ≤ v.b) ∨ (v.b ≤ w.b ∧ w.b ≤ u.b))) := fun z y => h ⟨z, bt_iff.mpr y.1, bt_iff.mpr y.2⟩
  rw [hc] at ho
  have g : gbB u v w = true ↔ (w.b < v.b ∧ ¬ w.b < u.b ∧ 0 < crs3 u v w) ∨ (w.b < u.b ∧ ¬ w.b < v.b ∧ crs3 u v w < 0) := by
    unfold gbB
    by_cases a : w.b < v.b <;> by_cases b : w.b < u.b <;> simp [a, b]
  have f : upB u v w = true ↔ (u.a ≤ w.a ∧ w.a < v.a ∧ crs3 u v w < 0) ∨ (v.a ≤ w.a ∧ w.a < u.a ∧ 0 < crs3 u v w) := by
    unfold upB
    rw [Bool.and_eq_true, Bool.or_eq_true, Bool.and_eq_true, Bool.and_eq_true, decide_eq_true_eq, decide_eq_true_eq, decide_eq_true_eq, decide_eq_true_eq]
    by_cases a : u.a ≤ w.a <;> by_cases b : v.a ≤ w.a <;> simp [a, b] <;> omega
  rw [hc] at g f
  rw [Bool.eq_iff_iff, g, f]
  generalize (u.a - w.a) * (v.b - w.b) = x at *
  generalize (u.b - w.b) * (v.a - w.a) = y at *
  have hq : qd w u = qd w v ↔ ((w.a < u.a ∧ w.b < u.b) ↔ (w.a < v.a ∧ w.b < v.b)) := by
    unfold qd
    by_cases a : w.a < u.a ∧ w.b < u.b <;> by_cases b : w.a < v.a ∧ w.b < v.b <;> simp [a, b]
  rw [hq]
  clear g f hc h hq
  have e1 : u.a ≤ w.a ↔ ¬ w.a < u.a := by omega
  have e2 : v.a ≤ w.a ↔ ¬ w.a < v.a := by omega
  rw [e1, e2]
  by_cases a : w.a < u.a <;> by_cases b : w.b < u.b <;> by_cases c : w.a < v.a <;> by_cases d : w.b < v.b <;> simp only [a, b, c, d, and_self, and_true, true_and, and_false, false_and, not_true_eq_false, not_false_eq_true, false_or, or_false, iff_self, true_iff, iff_true, false_iff, iff_false] <;> omega
theorem count_par {α : Type} {f g : α → Bool} {p q : α → Int} : ∀ {l : List α}, (∀ s ∈ l, (p s = 0 ∨ p s = 1) ∧ (q s = 0 ∨ q s = 1) ∧ ((f s = g s) ↔ p s = q s)) → (((l.filter f).length : Int) + ((l.filter g).length : Int) + (l.map fun s => q s - p s).sum) % 2 = 0
  | [], _ => rfl
  | s :: l, h => by
    have ih := count_par (l := l) fun t ht => h t (List.mem_cons_of_mem _ ht)
    obtain ⟨h1, h2, h3⟩ := h s List.mem_cons_self
    rw [List.filter_cons, List.filter_cons, List.map_cons, List.sum_cons]
    cases hf : f s <;> cases hg : g s <;> simp only [hf, hg, if_true, Bool.false_eq_true, if_false, List.length_cons] at * <;> (have := h3; simp at this; omega)
theorem within_par {us : List P2} {w : P2} (h : ∀ s ∈ sd us, ¬ On s.a s.b w) : ((wn us w : Int) % 2 = 1) ↔ ((un us w : Int) % 2 = 1) := by
  have := count_par (f := fun s : T2 P2 P2 => gbB s.a s.b w) (g := fun s : T2 P2 P2 => upB s.a s.b w) (p := fun s => qd w s.a) (q := fun s => qd w s.b) (l := sd us) fun s hs => by
    refine ⟨?_, ?_, side_par (h s hs)⟩
    · unfold qd; split <;> simp
    · unfold qd; split <;> simp
  have t : ((sd us).map fun s => qd w s.b - qd w s.a).sum = 0 := by
    have := cy_tel (qd w) us
    rw [cy_sum] at this
    exact this
  rw [t] at this
  unfold wn un
  omega
theorem lawwithin_ok {B n : Nat} (hB : B ≤ 2 ^ 40) (hn : n ≤ 1000) {us : List P2} (h : Dr B n us) {w : P2} (hw : Sm B w) : m__law_within us w = some (decide ((un us w : Int) % 2 = 1)) := by
  unfold m__law_within
  have hl := h.le
  rw [rngOk_ok (by omega) (by omega), Option.bind_some]
  obtain ⟨r, e, i⟩ := foldO_range (f := fun (x1 : Int) (s1 : Bool) => ((ix us ((x1 - 1))).bind fun x2 => (ix us x1).bind fun x3 => (if (!decide ((decide (x2.a ≤ w.a)) = (decide (x3.a ≤ w.a)))) = true then ((m__law_cross x2 x3 w).bind fun z1 => (if (((decide (z1 < 0)) && (decide (x2.a < x3.a))) || ((decide (0 < z1)) && (decide (x3.a < x2.a)))) = true then ((some ((!s1))).bind fun (odd_1 : Bool) => some odd_1) else (some s1)).bind fun (s4 : Bool) => some s4) else (some s1)).bind fun (s3 : Bool) => some s3)) (lo := 0) (n := ((us.length : Int)).toNat) (s := false)
    (fun k r => r = decide (((((sd us).take k).filter fun s => upB s.a s.b w).length : Int) % 2 = 1)) (fun j s hj i => by
      have hj' : j < us.length := by omega
      obtain ⟨p, q, e1, e2, e3, m1, m2⟩ := sd_at hj'
      rw [Int.zero_add, e2, e3, Option.bind_some, Option.bind_some, cross_ok hB (h.sm p m1) (h.sm q m2) hw]
      refine ⟨decide (((((sd us).take (j + 1)).filter fun s => upB s.a s.b w).length : Int) % 2 = 1), ?_, rfl⟩
      rw [List.take_add_one, e1, List.filter_append]
      show _ = some (decide ((((((sd us).take j).filter fun s => upB s.a s.b w) ++ ([T2.mk p q].filter fun s => upB s.a s.b w)).length : Int) % 2 = 1))
      rw [List.length_append, List.filter_cons, List.filter_nil]
      subst i
      generalize (((sd us).take j).filter fun s => upB s.a s.b w).length = m
      have up : upB p q w = ((!decide ((decide (p.a ≤ w.a)) = (decide (q.a ≤ w.a)))) && ((decide (crs3 p q w < 0) && decide (p.a < q.a)) || (decide (0 < crs3 p q w) && decide (q.a < p.a)))) := rfl
      show _ = some (decide (((m + (if upB p q w = true then [T2.mk p q] else []).length : Nat) : Int) % 2 = 1))
      have flip : decide (((m + 1 : Nat) : Int) % 2 = 1) = !decide ((m : Int) % 2 = 1) := by
        by_cases z : (m : Int) % 2 = 1
        · have : ¬ ((m + 1 : Nat) : Int) % 2 = 1 := by omega
          rw [decide_eq_true z, decide_eq_false this]; rfl
        · have : ((m + 1 : Nat) : Int) % 2 = 1 := by omega
          rw [decide_eq_false z, decide_eq_true this]; rfl
      rw [up]
      cases hA : (!decide ((decide (p.a ≤ w.a)) = (decide (q.a ≤ w.a)))) with
      | false => rw [if_neg (by decide)]; rfl
      | true =>
        rw [if_pos rfl, Option.bind_some, Bool.true_and]
        cases hB : ((decide (crs3 p q w < 0) && decide (p.a < q.a)) || (decide (0 < crs3 p q w) && decide (q.a < p.a))) with
        | false => rw [if_neg (by decide)]; rfl
        | true =>
          rw [if_pos rfl, if_pos rfl]
          show some (!decide ((m : Int) % 2 = 1)) = some (decide (((m + 1 : Nat) : Int) % 2 = 1))
          rw [flip]) (by simp)
  refine (congrArg (fun o => Option.bind o _) e).trans ?_
  rw [Option.bind_some, i, List.take_of_length_le (by rw [sd_len]; omega)]
  rfl
/-! ### plain k15 -/
theorem on_dot {u v w : P2} : (crs3 u v w = 0 ∧ (u.a - w.a) * (v.a - w.a) + (u.b - w.b) * (v.b - w.b) ≤ 0) ↔ On u v w := by
  have hc : crs3 u v w = (u.a - w.a) * (v.b - w.b) - (u.b - w.b) * (v.a - w.a) := by unfold crs3; grind
  unfold On bt
  have e1 : (w.a - u.a) * (w.a - v.a) = (u.a - w.a) * (v.a - w.a) := by grind
  have e2 : (w.b - u.b) * (w.b - v.b) = (u.b - w.b) * (v.b - w.b) := by grind
  rw [e1, e2]
  constructor
  · rintro ⟨z, l⟩
    refine ⟨z, ?_⟩
    rw [hc] at z
    have hq : ((u.a - w.a) * (v.a - w.a)) * ((u.b - w.b) * (v.b - w.b)) = ((u.a - w.a) * (v.b - w.b)) * ((u.a - w.a) * (v.b - w.b)) := by
      have : (u.b - w.b) * (v.a - w.a) = (u.a - w.a) * (v.b - w.b) := by omega
      grind
    have hn := sq_nn ((u.a - w.a) * (v.b - w.b))
    rw [← hq] at hn
    clear hq z hc e1 e2
    generalize (u.a - w.a) * (v.a - w.a) = x at *
    generalize (u.b - w.b) * (v.b - w.b) = y at *
    constructor
    · by_cases g : x ≤ 0
      · exact g
      · have := Int.mul_neg_of_pos_of_neg (a := x) (b := y) (by omega) (by omega)
        omega
    · by_cases g : y ≤ 0
      · exact g
      · have := Int.mul_neg_of_neg_of_pos (a := x) (b := y) (by omega) (by omega)
        omega
  · rintro ⟨z, l, m⟩
    exact ⟨z, by omega⟩
theorem par_flip (m : Nat) : decide (((m + 1 : Nat) : Int) % 2 = 1) = !decide ((m : Int) % 2 = 1) := by
  by_cases z : (m : Int) % 2 = 1
  · have : ¬ ((m + 1 : Nat) : Int) % 2 = 1 := by omega
    rw [decide_eq_true z, decide_eq_false this]; rfl
  · have : ((m + 1 : Nat) : Int) % 2 = 1 := by omega
    rw [decide_eq_false z, decide_eq_true this]; rfl
theorem loopL_flip {α ρ : Type} {f : α → Bool → Option (Lp Bool ρ)} {r : ρ} (P : α → Prop) (c : α → Bool) : ∀ {xs : List α} {s : Bool}, (∀ x ∈ xs, ∀ s, (P x ∧ f x s = some (.nxt (s ^^ c x))) ∨ (¬ P x ∧ f x s = some (.ret r))) → ((∀ x ∈ xs, P x) ∧ loopL f xs s = some (.nxt (s ^^ decide (((xs.filter c).length : Int) % 2 = 1)))) ∨ ((∃ x ∈ xs, ¬ P x) ∧ loopL f xs s = some (.ret r))
  | [], s, _ => .inl ⟨fun _ h => (nomatch h), by simp [loopL]⟩
  | x :: xs, s, h => by
    rcases h x List.mem_cons_self s with ⟨p, e⟩ | ⟨p, e⟩
    · rcases loopL_flip P c (xs := xs) (s := s ^^ c x) fun y hy => h y (List.mem_cons_of_mem _ hy) with ⟨q, e2⟩ | ⟨⟨y, hy, q⟩, e2⟩
      · refine .inl ⟨fun y hy => ?_, ?_⟩
        · rcases List.mem_cons.mp hy with z | hy
          · subst z; exact p
          · exact q y hy
        · show (f x s).bind _ = _
          rw [e]
          show loopL f xs (s ^^ c x) = _
          rw [e2, List.filter_cons]
          generalize (xs.filter c) = l
          cases c x with
          | false => rw [if_neg (by decide), Bool.xor_false]
          | true =>
            rw [if_pos rfl, List.length_cons, par_flip]
            generalize decide ((l.length : Int) % 2 = 1) = b
            cases s <;> cases b <;> rfl
      · refine .inr ⟨⟨y, List.mem_cons_of_mem _ hy, q⟩, ?_⟩
        show (f x s).bind _ = _
        rw [e]; exact e2
    · refine .inr ⟨⟨x, List.mem_cons_self, p⟩, ?_⟩
      show (f x s).bind _ = _
      rw [e]; rfl
theorem out_nxt {τ ρ ρ' : Type} (s : τ) (j : ρ → Option ρ') (k : τ → Option ρ') : (Lp.nxt s : Lp τ ρ).out j k = k s := rfl
def OffR (w : P2) (us : List P2) : Prop := ∀ s ∈ sd us, ¬ On s.a s.b w
theorem stands_ok {P : Int} (hP : 0 < P) {rs : List (List P2)} {h : P2 → P3} (hv : ∀ us ∈ rs, ∀ u ∈ us, Pv P (h u) u) (hl : ∀ us ∈ rs, us.length ≤ 1000) (hr : rs.length ≤ 1000) {r : P3} {w : P2} (hw : Pv P r w) : ((∀ us ∈ rs, OffR w us) ∧ m_stands (rs.map fun us => us.map h) r = some (if (inn rs w : Int) % 2 = 1 then ("in" : Str) else ("out" : Str))) ∨ ((∃ us ∈ rs, ¬ OffR w us) ∧ m_stands (rs.map fun us => us.map h) r = some ("side" : Str)) := by
  unfold m_stands
  rw [loopL_map]
  rcases loopL_all (f := fun (x : List P2) (s1 : Unit) => ((m_sides_of (x.map h)).bind fun z1 => (loopL (ρ := Str) (fun (x2 : (T2 (T3 Int Int Int) (T3 Int Int Int))) (s3 : Unit) => ((m_lies_on x2.a x2.b r).bind fun z2 => if z2 = true then (some (.ret (("side" : Str)))) else (some (.nxt (()))))) z1 (())).bind fun o => o.out (fun r => some (.ret r)) fun (s4 : Unit) => some (Lp.nxt (τ := Unit) (ρ := Str) (())))) (r := ("side" : Str)) (OffR w) (xs := rs) fun us hus => by
    have lu := hl us hus
    rw [sides_sd (by rw [List.length_map]; exact lu), Option.bind_some, sd_map, loopL_map]
    rcases loopL_all (f := fun (x : T2 P2 P2) (s3 : Unit) => ((m_lies_on (h x.a) (h x.b) r).bind fun z2 => if z2 = true then (some (Lp.ret (τ := Unit) (ρ := Str) (("side" : Str)))) else (some (.nxt (()))))) (r := ("side" : Str)) (fun s => ¬ On s.a s.b w) (xs := sd us) fun s hs => by
      obtain ⟨b, e, i⟩ := on_ok hP (hv us hus _ (sd_mem hs).1) (hv us hus _ (sd_mem hs).2) hw
      rw [e, Option.bind_some]
      cases b with
      | true => exact .inr ⟨fun z => z (i.mp rfl), if_pos rfl⟩
      | false => exact .inl ⟨fun z => (nomatch i.mpr z), if_neg (by decide)⟩ with ⟨q, e⟩ | ⟨⟨s, hs, q⟩, e⟩
    · refine .inl ⟨q, ?_⟩
      refine (congrArg (fun o => Option.bind o _) e).trans ?_
      rfl
    · refine .inr ⟨fun z => q (z s hs), ?_⟩
      refine (congrArg (fun o => Option.bind o _) e).trans ?_
      rfl with ⟨q, e⟩ | ⟨q, e⟩
  · refine .inl ⟨q, ?_⟩
    refine (congrArg (fun o => Option.bind o _) e).trans ?_
    rw [Option.bind_some]
    show Option.bind _ _ = _
    rw [lenOk_ok (by rw [List.length_map]; omega), Option.bind_some]
    rw [filO_all (c := fun x : List P3 => (m_is_within x r).getD false) fun x hx => by
      obtain ⟨vs, hvs, e⟩ := List.mem_map.mp hx
      subst e
      rw [within_ok hP (hv vs hvs) (hl vs hvs) hw, Option.bind_some, Option.getD_some]
      split <;> rfl]
    rw [Option.bind_some, List.filter_map, List.length_map]
    have ef : ∀ c : List P3 → Bool, (∀ vs ∈ rs, c (vs.map h) = decide ((wn vs w : Int) % 2 = 1)) → (rs.filter (c ∘ fun us => us.map h)).length = inn rs w := fun c hc => congrArg List.length (List.filter_congr hc)
    rw [ef _ fun vs hvs => by rw [within_ok hP (hv vs hvs) (hl vs hvs) hw]; rfl]
    by_cases z : (inn rs w : Int) % 2 = 1
    · rw [if_pos (decide_eq_true z), if_pos z]
    · rw [if_neg (by rw [decide_eq_true_eq]; exact z), if_neg z]
  · refine .inr ⟨q, ?_⟩
    refine (congrArg (fun o => Option.bind o _) e).trans ?_
    rfl
theorem place_ok {B n : Nat} (hB : B ≤ 2 ^ 40) (hn : n ≤ 1000) {rs : List (List P2)} (h : ∀ us ∈ rs, Dr B n us) {w : P2} (hw : Sm B w) : ((∀ us ∈ rs, OffR w us) ∧ m__law_place rs w = some (if (inn rs w : Int) % 2 = 1 then ("in" : Str) else ("out" : Str))) ∨ ((∃ us ∈ rs, ¬ OffR w us) ∧ m__law_place rs w = some ("side" : Str)) := by
  unfold m__law_place
  rcases loopL_flip (f := fun (x1 : (List (T2 Int Int))) (s1 : Bool) =>
   ((rngOk ((x1.length : Int))).bind fun _ =>
   (loopL (ρ := Str) (fun (x2 : Int) (s3 : Unit) =>
   ((ix x1 ((x2 - 1))).bind fun x3 =>
   (ix x1 x2).bind fun x4 =>
   (mulG ((x3.a - w.a)) ((x4.a - w.a))).bind fun z1 =>
   (mulG ((x3.b - w.b)) ((x4.b - w.b))).bind fun z2 =>
   (m__law_cross x3 x4 w).bind fun z3 =>
   if ((decide (z3 = 0)) && (decide ((z1 + z2) ≤ 0))) = true then
   (some (.ret (("side" : Str))))
   else
   (some (.nxt (()))))) (rangeL 0 ((x1.length : Int)).toNat) (())).bind fun o => o.out (fun r => some (.ret r)) fun (s4 : Unit) =>
   (m__law_within x1 w).bind fun z4 =>
   (if z4 = true then
   ((some ((!s1))).bind fun (odd_1 : Bool) =>
   some odd_1)
   else
   (some s1)).bind fun (s5 : Bool) =>
   some (Lp.nxt (τ := Bool) (ρ := Str) s5))) (r := ("side" : Str)) (OffR w) (fun us => decide ((un us w : Int) % 2 = 1)) (xs := rs) (s := false) fun us hus s => by
    have hd := h us hus
    have hl := hd.le
    rw [rngOk_ok (by omega) (by omega), Option.bind_some]
    rcases loopL_all (f := fun (x2 : Int) (s3 : Unit) =>
       ((ix us ((x2 - 1))).bind fun x3 =>
       (ix us x2).bind fun x4 =>
       (mulG ((x3.a - w.a)) ((x4.a - w.a))).bind fun z1 =>
       (mulG ((x3.b - w.b)) ((x4.b - w.b))).bind fun z2 =>
       (m__law_cross x3 x4 w).bind fun z3 =>
       if ((decide (z3 = 0)) && (decide ((z1 + z2) ≤ 0))) = true then
       (some (Lp.ret (τ := Unit) (ρ := Str) (("side" : Str))))
       else
       (some (.nxt (()))))) (r := ("side" : Str)) (fun x => ∀ s, (sd us)[x.toNat]? = some s → ¬ On s.a s.b w) (xs := rangeL 0 ((us.length : Int)).toNat) fun x hx => by
      obtain ⟨g1, g2⟩ := rangeL_mem hx
      obtain ⟨k, rfl⟩ : ∃ k : Nat, x = (k : Int) := ⟨x.toNat, by omega⟩
      obtain ⟨p, q, e1, e2, e3, m1, m2⟩ := sd_at (xs := us) (j := k) (by omega)
      obtain ⟨p1, p2⟩ := hd.sm p m1
      obtain ⟨q1, q2⟩ := hd.sm q m2
      obtain ⟨w1, w2⟩ := hw
      rw [e2, Option.bind_some, e3, Option.bind_some, mulG_ok 45 45 (by omega) (by omega) (by decide), Option.bind_some, mulG_ok 45 45 (by omega) (by omega) (by decide), Option.bind_some, cross_ok hB (hd.sm p m1) (hd.sm q m2) ⟨w1, w2⟩, Option.bind_some]
      have key : (((decide (crs3 p q w = 0)) && (decide ((p.a - w.a) * (q.a - w.a) + (p.b - w.b) * (q.b - w.b) ≤ 0))) = true) ↔ On p q w := by
        rw [Bool.and_eq_true, decide_eq_true_eq, decide_eq_true_eq]; exact on_dot
      rw [Int.toNat_natCast, e1]
      by_cases o : On p q w
      · exact .inr ⟨fun z => z _ rfl o, if_pos (key.mpr o)⟩
      · exact .inl ⟨fun s hs => by cases hs; exact o, if_neg fun z => o (key.mp z)⟩ with ⟨q, e⟩ | ⟨⟨x, hx, q⟩, e⟩
    · refine .inl ⟨fun s hs => ?_, ?_⟩
      · obtain ⟨j, hj⟩ := List.getElem?_of_mem hs
        have lj := (List.getElem?_eq_some_iff.mp hj).1
        rw [sd_len] at lj
        have mj : (j : Int) ∈ rangeL 0 ((us.length : Int)).toNat := by
          unfold rangeL
          exact List.mem_map.mpr ⟨j, List.mem_range.mpr (by omega), by omega⟩
        exact q (j : Int) mj s (by rw [Int.toNat_natCast]; exact hj)
      · refine (congrArg (fun o => Option.bind o _) e).trans ?_
        rw [Option.bind_some, out_nxt]
        rw [lawwithin_ok hB hn hd hw, Option.bind_some]
        generalize decide ((un us w : Int) % 2 = 1) = b
        cases b with
        | false => rw [if_neg (by decide), Option.bind_some, Bool.xor_false]
        | true => rw [if_pos rfl, Option.bind_some, Option.bind_some, Bool.xor_true]
    · refine .inr ⟨fun z => q fun s hs => z s (List.mem_of_getElem? hs), ?_⟩
      refine (congrArg (fun o => Option.bind o _) e).trans ?_
      rfl with ⟨q, e⟩ | ⟨q, e⟩
  · refine .inl ⟨q, ?_⟩
    refine (congrArg (fun o => Option.bind o _) e).trans ?_
    rw [Option.bind_some, Bool.false_xor]
    have ef : inn rs w = (rs.filter fun us => decide ((un us w : Int) % 2 = 1)).length := by
      unfold inn
      refine congrArg List.length (List.filter_congr fun vs hvs => ?_)
      rw [decide_eq_decide]
      exact within_par (q vs hvs)
    rw [ef]
    by_cases z : ((rs.filter fun us => decide ((un us w : Int) % 2 = 1)).length : Int) % 2 = 1
    · rw [if_pos z, decide_eq_true z]; rfl
    · rw [if_neg z, decide_eq_false z]; rfl
  · refine .inr ⟨q, ?_⟩
    refine (congrArg (fun o => Option.bind o _) e).trans ?_
    rfl
theorem mid_le {x y k : Int} (hx : x.natAbs ≤ 1200) (hy : y.natAbs ≤ 1200) (h1 : 1 ≤ k) (h2 : k ≤ 11) : ((x * k + y * (12 - k)) / 12).natAbs ≤ 1200 := by
  have a1 := Int.mul_le_mul_of_nonneg_right (a := x) (b := 1200) (c := k) (by omega) (by omega)
  have a2 := Int.mul_le_mul_of_nonneg_right (a := -1200) (b := x) (c := k) (by omega) (by omega)
  have b1 := Int.mul_le_mul_of_nonneg_right (a := y) (b := 1200) (c := 12 - k) (by omega) (by omega)
  have b2 := Int.mul_le_mul_of_nonneg_right (a := -1200) (b := y) (c := 12 - k) (by omega) (by omega)
  generalize x * k = p at *
  generalize y * (12 - k) = q at *
  omega
theorem spot_ok {xs : List Int} (h : Bag xs) {rs : List (List P2)} (hd : ∀ us ∈ rs, Dr 1200 24 us ∧ 0 < us.length) (hl : rs.length ≤ 8) : ∃ w ys, m__law_spot xs rs = some (w, ys) ∧ Sm 1200 w := by
  unfold m__law_spot
  obtain ⟨r1, y1, e1, b1, l1, u1⟩ := draw_ok h (many := 6) (by decide) (by decide)
  obtain ⟨r2, y2, e2, b2, l2, u2⟩ := draw_ok b1 (many := 24) (by decide) (by decide)
  obtain ⟨r3, y3, e3, b3, l3, u3⟩ := draw_ok b2 (many := 22) (by decide) (by decide)
  rw [e1, Option.bind_some]
  simp only
  rw [e2, Option.bind_some]
  simp only
  rw [e3, Option.bind_some]
  simp only
  rw [Option.bind_some]
  by_cases z : r1 = 0 ∨ (rs.length : Int) = 0
  · rw [if_pos (by simp at z ⊢; exact z)]
    exact ⟨_, _, rfl, show (12 * (r2 - 6)).natAbs ≤ 1200 by omega, show (12 * (r3 - 6)).natAbs ≤ 1200 by omega⟩
  · rw [if_neg (by simp at z ⊢; omega)]
    by_cases z1 : r1 = 1
    · rw [if_pos (by simpa using z1)]
      obtain ⟨r4, y4, e4, b4, l4, u4⟩ := draw_ok b3 (many := 12) (by decide) (by decide)
      obtain ⟨r5, y5, e5, b5, l5, u5⟩ := draw_ok b4 (many := 12) (by decide) (by decide)
      rw [e4, Option.bind_some]
      simp only
      rw [e5, Option.bind_some]
      exact ⟨_, _, rfl, show (12 * (r2 - 6) + r4).natAbs ≤ 1200 by omega, show (12 * (r3 - 6) + r5).natAbs ≤ 1200 by omega⟩
    · rw [if_neg (by simpa using z1)]
      obtain ⟨r4, y4, e4, b4, l4, u4⟩ := draw_ok b3 (many := (rs.length : Int)) (by omega) (by omega)
      obtain ⟨k, rfl⟩ : ∃ k : Nat, r4 = (k : Int) := ⟨r4.toNat, by omega⟩
      have hk : k < rs.length := by omega
      obtain ⟨d, ne⟩ := hd _ (List.getElem_mem hk)
      have dl := d.le
      obtain ⟨r5, y5, e5, b5, l5, u5⟩ := draw_ok b4 (many := ((rs[k]).length : Int)) (by omega) (by omega)
      obtain ⟨j, rfl⟩ : ∃ j : Nat, r5 = (j : Int) := ⟨r5.toNat, by omega⟩
      obtain ⟨p, q, _, i2, i3, m1, m2⟩ := sd_at (xs := rs[k]) (j := j) (by omega)
      obtain ⟨p1, p2⟩ := d.sm p m1
      obtain ⟨q1, q2⟩ := d.sm q m2
      rw [e4, Option.bind_some]
      simp only
      rw [ix_lt hk, Option.bind_some, e5, Option.bind_some]
      simp only
      rw [i3, Option.bind_some, Option.bind_some, Option.bind_some]
      by_cases z2 : r1 = 2
      · rw [if_pos (by simpa using z2)]
        exact ⟨_, _, rfl, q1, q2⟩
      · rw [if_neg (by simpa using z2)]
        by_cases z3 : r1 = 3
        · rw [if_pos (by simpa using z3)]
          exact ⟨_, _, rfl, show (12 * (r2 - 6)).natAbs ≤ 1200 by omega, q2⟩
        · rw [if_neg (by simpa using z3)]
          by_cases z4 : r1 = 4
          · rw [if_pos (by simpa using z4)]
            exact ⟨_, _, rfl, q1, show (12 * (r3 - 6)).natAbs ≤ 1200 by omega⟩
          · rw [if_neg (by simpa using z4)]
            obtain ⟨r6, y6, e6, b6, l6, u6⟩ := draw_ok b5 (many := 11) (by decide) (by decide)
            rw [e6, Option.bind_some, Option.bind_some, i2, Option.bind_some, Option.bind_some]
            simp only
            rw [mulG_ok 11 11 (by omega) (by omega) (by decide), Option.bind_some, mulG_ok 11 11 (by omega) (by omega) (by decide), Option.bind_some, mulG_ok 11 11 (by omega) (by omega) (by decide), Option.bind_some, mulG_ok 11 11 (by omega) (by omega) (by decide), Option.bind_some]
            exact ⟨_, _, rfl, mid_le p1 q1 (by omega) (by omega), mid_le p2 q2 (by omega) (by omega)⟩
theorem law_true : ∀ ns : List Int, ns.length ≤ 63 → m_law ns = some true := by
  intro ns hl
  unfold m_law
  obtain ⟨c0, hc0⟩ := cell_ok ns 0
  obtain ⟨c1, hc1⟩ := cell_ok ns 1
  have hs := slice_len ns (some 2) (some 41)
  obtain ⟨g, eg, bg⟩ := bag_ok c0
  obtain ⟨rs, y1, e1, b1, cl⟩ := cloth_ok bg
  have cle := cl.le
  rw [show (0 : Int) = ((0 : Nat) : Int) from rfl] at *
  rw [hc0, Option.bind_some, eg, Option.bind_some, e1, Option.bind_some]
  simp only
  rw [lenOk_ok (by omega), Option.bind_some]
  rw [mapO_all (g := fun us : List P2 => us.map fun p => T2.mk (12 * p.a) (12 * p.b)) fun us hus => by
    have := (cl.rg us hus).dr.le
    rw [lenOk_ok (by omega), Option.bind_some, mapO_all (g := fun p : P2 => T2.mk (12 * p.a) (12 * p.b)) fun _ _ => rfl]; rfl]
  obtain ⟨n0, y4, e4, b4, n1, n2⟩ := bottom_ok b1
  rw [Option.bind_some, e4, Option.bind_some, Option.bind_some]
  simp only
  have dr : ∀ us ∈ rs.map (fun us : List P2 => us.map fun p => T2.mk (12 * p.a) (12 * p.b)), Dr 1200 24 us ∧ 0 < us.length := fun us hus => by
    obtain ⟨vs, hvs, e⟩ := List.mem_map.mp hus
    subst e
    have hv := cl.rg vs hvs
    refine ⟨⟨fun p hp => ?_, by rw [List.length_map]; exact hv.dr.le⟩, by rw [List.length_map]; exact hv.ne⟩
    obtain ⟨q, hq, e⟩ := List.mem_map.mp hp
    subst e
    obtain ⟨q1, q2⟩ := hv.dr.sm q hq
    exact ⟨show (12 * q.a).natAbs ≤ 1200 by omega, show (12 * q.b).natAbs ≤ 1200 by omega⟩
  have lR : (rs.map (fun us : List P2 => us.map fun p => T2.mk (12 * p.a) (12 * p.b))).length ≤ 8 := by rw [List.length_map]; exact cle
  generalize rs.map (fun us : List P2 => us.map fun p => T2.mk (12 * p.a) (12 * p.b)) = qs at *
  obtain ⟨n, hn⟩ : ∃ n, n = 12 * n0 := ⟨_, rfl⟩
  rw [← hn, handed_ok (by decide : (24 : Nat) ≤ 1000) (by omega) (by omega) (by omega) (fun us hus => (dr us hus).1), Option.bind_some]
  rw [lenOk_ok (by rw [List.length_map]; omega), Option.bind_some, mapO_all (g := fun x => x) (fun _ _ => rfl), Option.bind_some, List.map_id']
  rw [show (1 : Int) = ((1 : Nat) : Int) from rfl] at *
  rw [hc1, Option.bind_some, lenOk_ok (by simp only [List.length_cons, List.length_nil]; omega), Option.bind_some]
  have sn : n.natAbs < 2 ^ 45 := by omega
  have hv : ∀ u : P2, Sm 1200 u → Pv n (hd n u) u := fun u hu => ⟨hd_ov (by omega) u, (hd_pt (by omega) (k := 45) (by have := hu.1; omega) (by have := hu.2; omega) (by omega)).mono (by decide)⟩
  refine loopL_bind (fun _ => True) ?_ trivial fun _ _ => rfl
  intro x s _ _
  refine ⟨(), ?_, trivial⟩
  obtain ⟨g2, eg2, bg2⟩ := bag_ok x
  obtain ⟨w, yw, ew, sw⟩ := spot_ok bg2 dr lR
  rw [eg2, Option.bind_some, ew, Option.bind_some]
  simp only
  rw [lawpt_hd (by omega) (by omega) w, Option.bind_some]
  have A := stands_ok (P := n) (by omega) (rs := qs) (h := hd n) (fun us hus u hu => hv u ((dr us hus).1.sm u hu)) (fun us hus => by have := (dr us hus).1.le; omega) (by omega) (hv w sw)
  have C := place_ok (B := 1200) (n := 24) (by decide) (by decide) (rs := qs) (fun us hus => (dr us hus).1) sw
  have : ∃ t, m_stands (qs.map fun us => us.map (hd n)) (hd n w) = some t ∧ m__law_place qs w = some t := by
    rcases A with ⟨a1, a2⟩ | ⟨⟨us, hus, a1⟩, a2⟩
    · rcases C with ⟨c1, c2⟩ | ⟨⟨us, hus, c1⟩, c2⟩
      · exact ⟨_, a2, c2⟩
      · exact absurd (a1 us hus) c1
    · rcases C with ⟨c1, c2⟩ | ⟨_, c2⟩
      · exact absurd (c1 us hus) a1
      · exact ⟨_, a2, c2⟩
  obtain ⟨t, t1, t2⟩ := this
  rw [t1, Option.bind_some, if_neg (by decide), t2, Option.bind_some, Option.bind_some, if_neg (by simp)]
def top (i : Nat) : Stmt := PySem.Challenge.pw_slidecut_k15_where_points_stand.main.body.getD i (.Pass ⟨0, 0, 0, 0⟩)
abbrev s__law_cell : Stmt := top 12
abbrev s__law_bag : Stmt := top 13
abbrev s__law_draw : Stmt := top 14
abbrev s__law_chain : Stmt := top 24
abbrev s__law_strip : Stmt := top 25
abbrev s__law_cross : Stmt := top 17
abbrev s__law_back : Stmt := top 20
abbrev s__law_touch : Stmt := top 19
abbrev s__law_simple : Stmt := top 21
abbrev s__law_twice : Stmt := top 18
abbrev s__law_shape : Stmt := top 26
abbrev s__law_slid : Stmt := top 27
abbrev s__law_cloth : Stmt := top 28
abbrev s__law_bottom : Stmt := top 23
abbrev s__law_gcd : Stmt := top 15
abbrev s__law_point : Stmt := top 16
abbrev s__law_handed : Stmt := top 29
abbrev s__law_spot : Stmt := top 31
abbrev s_sides_of : Stmt := top 4
abbrev s_crossed : Stmt := top 1
abbrev s_side : Stmt := top 2
abbrev s_is_amid : Stmt := top 5
abbrev s_lies_on : Stmt := top 6
abbrev s_is_higher : Stmt := top 7
abbrev s_goes_by : Stmt := top 8
abbrev s_is_within : Stmt := top 9
abbrev s_stands : Stmt := top 10
abbrev s__law_within : Stmt := top 22
abbrev s__law_place : Stmt := top 30
abbrev s_law : Stmt := top 32
structure Txt (K : PySem.W.Frag) (mg : Str → Option Value) where
  A__law_cell : Addr
  D__law_cell : FuncData
  F__law_cell : Fun K "_law_cell" "_law_cell" s__law_cell A__law_cell D__law_cell
  g__law_cell : mg "_law_cell" = some (.ref A__law_cell)
  b__law_cell : Binds K D__law_cell ["_law_script", "_law_k"] []
  A__law_bag : Addr
  D__law_bag : FuncData
  F__law_bag : Fun K "_law_bag" "_law_bag" s__law_bag A__law_bag D__law_bag
  g__law_bag : mg "_law_bag" = some (.ref A__law_bag)
  b__law_bag : Binds K D__law_bag ["_law_cell_here"] []
  A__law_draw : Addr
  D__law_draw : FuncData
  F__law_draw : Fun K "_law_draw" "_law_draw" s__law_draw A__law_draw D__law_draw
  g__law_draw : mg "_law_draw" = some (.ref A__law_draw)
  b__law_draw : Binds K D__law_draw ["_law_bag_here", "_law_many"] []
  A__law_chain : Addr
  D__law_chain : FuncData
  F__law_chain : Fun K "_law_chain" "_law_chain" s__law_chain A__law_chain D__law_chain
  g__law_chain : mg "_law_chain" = some (.ref A__law_chain)
  b__law_chain : Binds K D__law_chain ["_law_bag_here", "_law_wide", "_law_most"] []
  A__law_strip : Addr
  D__law_strip : FuncData
  F__law_strip : Fun K "_law_strip" "_law_strip" s__law_strip A__law_strip D__law_strip
  g__law_strip : mg "_law_strip" = some (.ref A__law_strip)
  b__law_strip : Binds K D__law_strip ["_law_bag_here", "_law_wide", "_law_most"] []
  A__law_cross : Addr
  D__law_cross : FuncData
  F__law_cross : Fun K "_law_cross" "_law_cross" s__law_cross A__law_cross D__law_cross
  g__law_cross : mg "_law_cross" = some (.ref A__law_cross)
  b__law_cross : Binds K D__law_cross ["_law_o", "_law_p", "_law_q"] []
  A__law_back : Addr
  D__law_back : FuncData
  F__law_back : Fun K "_law_back" "_law_back" s__law_back A__law_back D__law_back
  g__law_back : mg "_law_back" = some (.ref A__law_back)
  b__law_back : Binds K D__law_back ["_law_p", "_law_q", "_law_r"] []
  A__law_touch : Addr
  D__law_touch : FuncData
  F__law_touch : Fun K "_law_touch" "_law_touch" s__law_touch A__law_touch D__law_touch
  g__law_touch : mg "_law_touch" = some (.ref A__law_touch)
  b__law_touch : Binds K D__law_touch ["_law_p", "_law_q", "_law_r", "_law_s"] []
  A__law_simple : Addr
  D__law_simple : FuncData
  F__law_simple : Fun K "_law_simple" "_law_simple" s__law_simple A__law_simple D__law_simple
  g__law_simple : mg "_law_simple" = some (.ref A__law_simple)
  b__law_simple : Binds K D__law_simple ["_law_ring"] []
  A__law_twice : Addr
  D__law_twice : FuncData
  F__law_twice : Fun K "_law_twice" "_law_twice" s__law_twice A__law_twice D__law_twice
  g__law_twice : mg "_law_twice" = some (.ref A__law_twice)
  b__law_twice : Binds K D__law_twice ["_law_ring"] []
  A__law_shape : Addr
  D__law_shape : FuncData
  F__law_shape : Fun K "_law_shape" "_law_shape" s__law_shape A__law_shape D__law_shape
  g__law_shape : mg "_law_shape" = some (.ref A__law_shape)
  b__law_shape : Binds K D__law_shape ["_law_bag_here", "_law_most"] []
  A__law_slid : Addr
  D__law_slid : FuncData
  F__law_slid : Fun K "_law_slid" "_law_slid" s__law_slid A__law_slid D__law_slid
  g__law_slid : mg "_law_slid" = some (.ref A__law_slid)
  b__law_slid : Binds K D__law_slid ["_law_ring", "_law_right", "_law_up"] []
  A__law_cloth : Addr
  D__law_cloth : FuncData
  F__law_cloth : Fun K "_law_cloth" "_law_cloth" s__law_cloth A__law_cloth D__law_cloth
  g__law_cloth : mg "_law_cloth" = some (.ref A__law_cloth)
  b__law_cloth : Binds K D__law_cloth ["_law_bag_here"] []
  A__law_bottom : Addr
  D__law_bottom : FuncData
  F__law_bottom : Fun K "_law_bottom" "_law_bottom" s__law_bottom A__law_bottom D__law_bottom
  g__law_bottom : mg "_law_bottom" = some (.ref A__law_bottom)
  b__law_bottom : Binds K D__law_bottom ["_law_bag_here"] []
  A__law_gcd : Addr
  D__law_gcd : FuncData
  F__law_gcd : Fun K "_law_gcd" "_law_gcd" s__law_gcd A__law_gcd D__law_gcd
  g__law_gcd : mg "_law_gcd" = some (.ref A__law_gcd)
  b__law_gcd : Binds K D__law_gcd ["_law_one", "_law_two"] []
  A__law_point : Addr
  D__law_point : FuncData
  F__law_point : Fun K "_law_point" "_law_point" s__law_point A__law_point D__law_point
  g__law_point : mg "_law_point" = some (.ref A__law_point)
  b__law_point : Binds K D__law_point ["_law_a", "_law_b", "_law_n"] []
  A__law_handed : Addr
  D__law_handed : FuncData
  F__law_handed : Fun K "_law_handed" "_law_handed" s__law_handed A__law_handed D__law_handed
  g__law_handed : mg "_law_handed" = some (.ref A__law_handed)
  b__law_handed : Binds K D__law_handed ["_law_rings", "_law_n"] []
  A__law_spot : Addr
  D__law_spot : FuncData
  F__law_spot : Fun K "_law_spot" "_law_spot" s__law_spot A__law_spot D__law_spot
  g__law_spot : mg "_law_spot" = some (.ref A__law_spot)
  b__law_spot : Binds K D__law_spot ["_law_bag_here", "_law_rings"] []
  A_sides_of : Addr
  D_sides_of : FuncData
  F_sides_of : Fun K "sides_of" "sides_of" s_sides_of A_sides_of D_sides_of
  g_sides_of : mg "sides_of" = some (.ref A_sides_of)
  b_sides_of : Binds K D_sides_of ["ring"] []
  A_crossed : Addr
  D_crossed : FuncData
  F_crossed : Fun K "crossed" "crossed" s_crossed A_crossed D_crossed
  g_crossed : mg "crossed" = some (.ref A_crossed)
  b_crossed : Binds K D_crossed ["p", "q"] []
  A_side : Addr
  D_side : FuncData
  F_side : Fun K "side" "side" s_side A_side D_side
  g_side : mg "side" = some (.ref A_side)
  b_side : Binds K D_side ["p", "q", "r"] []
  A_is_amid : Addr
  D_is_amid : FuncData
  F_is_amid : Fun K "is_amid" "is_amid" s_is_amid A_is_amid D_is_amid
  g_is_amid : mg "is_amid" = some (.ref A_is_amid)
  b_is_amid : Binds K D_is_amid ["a", "b", "c"] []
  A_lies_on : Addr
  D_lies_on : FuncData
  F_lies_on : Fun K "lies_on" "lies_on" s_lies_on A_lies_on D_lies_on
  g_lies_on : mg "lies_on" = some (.ref A_lies_on)
  b_lies_on : Binds K D_lies_on ["p", "q", "r"] []
  A_is_higher : Addr
  D_is_higher : FuncData
  F_is_higher : Fun K "is_higher" "is_higher" s_is_higher A_is_higher D_is_higher
  g_is_higher : mg "is_higher" = some (.ref A_is_higher)
  b_is_higher : Binds K D_is_higher ["p", "q"] []
  A_goes_by : Addr
  D_goes_by : FuncData
  F_goes_by : Fun K "goes_by" "goes_by" s_goes_by A_goes_by D_goes_by
  g_goes_by : mg "goes_by" = some (.ref A_goes_by)
  b_goes_by : Binds K D_goes_by ["p", "q", "r"] []
  A_is_within : Addr
  D_is_within : FuncData
  F_is_within : Fun K "is_within" "is_within" s_is_within A_is_within D_is_within
  g_is_within : mg "is_within" = some (.ref A_is_within)
  b_is_within : Binds K D_is_within ["ring", "p"] []
  A_stands : Addr
  D_stands : FuncData
  F_stands : Fun K "stands" "stands" s_stands A_stands D_stands
  g_stands : mg "stands" = some (.ref A_stands)
  b_stands : Binds K D_stands ["cloth", "p"] []
  A__law_within : Addr
  D__law_within : FuncData
  F__law_within : Fun K "_law_within" "_law_within" s__law_within A__law_within D__law_within
  g__law_within : mg "_law_within" = some (.ref A__law_within)
  b__law_within : Binds K D__law_within ["_law_ring", "_law_p"] []
  A__law_place : Addr
  D__law_place : FuncData
  F__law_place : Fun K "_law_place" "_law_place" s__law_place A__law_place D__law_place
  g__law_place : mg "_law_place" = some (.ref A__law_place)
  b__law_place : Binds K D__law_place ["_law_rings", "_law_p"] []
  A_law : Addr
  D_law : FuncData
  F_law : Fun K "law" "law" s_law A_law D_law
  g_law : mg "law" = some (.ref A_law)
  b_law : Binds K D_law ["_law_script"] []
  z_abs : mg "abs" = none
  z_int : mg "int" = none
  z_isinstance : mg "isinstance" = none
  z_len : mg "len" = none
  z_list : mg "list" = none
  z_max : mg "max" = none
  z_min : mg "min" = none
  z_range : mg "range" = none
  z_set : mg "set" = none
  z_str : mg "str" = none
section
variable {P : Program} {w : World} {K : PySem.W.Frag} {mg : Str → Option Value} {base : Heap}
abbrev sp__law_cell (K : PySem.W.Frag) : Sp := fun vs H Q _ => ∃ (X : Addr → Prop)  (a__law_script : (List Int)) (a__law_k : Int) (r : Int), m__law_cell a__law_script a__law_k = some r ∧ Cond K X H [.scr a__law_script, .imm (.int a__law_k)] vs ∧ ∀ H', Fin K X H [] [] (.imm (.int r)) (.int r) H' → Q (.int r) H'
theorem mk__law_cell {K : PySem.W.Frag} {X : Addr → Prop} {H : Hp} {vs : List V} {Q : VK} {E : XK}  {a__law_script : (List Int)} {a__law_k : Int} {r : Int} (hm : m__law_cell a__law_script a__law_k = some r) (c : Cond K X H [.scr a__law_script, .imm (.int a__law_k)] vs) (k : ∀ H', Fin K X H [] [] (.imm (.int r)) (.int r) H' → Q (.int r) H') : sp__law_cell K vs H Q E := ⟨X, a__law_script, a__law_k, r, hm, c, k⟩
abbrev n__law_cell : List Str := ["_law_script", "_law_k"]
theorem sc__law_cell : FnScope n__law_cell ["_law_script", "_law_k"] (defScope s__law_cell) := ⟨rfl, rfl, rfl, by decide +kernel, rfl, by decide +kernel, by decide +kernel⟩
theorem ok__law_cell (T : Txt K mg) : FnOk P w K mg base CX0 1 T.A__law_cell T.D__law_cell ["_law_script", "_law_k"] (sp__law_cell K) := by
  refine Fun.ok T.F__law_cell sc__law_cell (fun vs H Q E h => ?_) (fun cdv A outer s H vs Q E hr h => ?_)
  · obtain ⟨X, a__law_script, a__law_k, r, hm, c, kont⟩ := h
    exact c.len
  · obtain ⟨X, a__law_script, a__law_k, r, hm, c, kont⟩ := h
    refine ⟨_, (pss_cons (ps_if (pt_cmpR op_lt (pv 1) (pe_callB (r := rLenX K) call_lenX (by rfl) T.z_len (by decide +kernel) (pa_cons (pv 0) pa_nil)) (nomark _)) (pss_one (ps_ret (pe_ix (r := rIxL K) ix_list (pv 0) (pv 1) (fun _ _ => rfl)))) pss_nil)
      (pss_one (ps_ret pe_int))), ?_⟩
    have L0 : Lo ⟨K, X, H, muts [.scr a__law_script, .imm (.int a__law_k)], n__law_cell.length⟩ X H (L2.start n__law_cell vs) [.scr a__law_script, .imm (.int a__law_k)] := c.start n__law_cell (show (2 : Nat) ≤ 2 by decide)
    unfold m__law_cell at hm
    refine x_seq (x_ifS (x_test (x_op (x_vI (x := a__law_k) L0 rfl (x_cb (x_cons (x_vscr L0 rfl fun v1 r1 => x_nil (x_lenS r1 (x_r0 (x_kb (x_if hm (fun hm1 => ?_) fun hm1 => ?_)))))))))))
    · exact x_ret (x_op (x_vscr L0 rfl fun v2 r2 => x_vI (x := a__law_k) L0 rfl (x_ixS hm1 r2 fun x1 _ hm2 => x_finI (Q := Q) (ps := (fun (r : Int) => [])) (sc := fun (r : Int) => r) x1 hm2 kont (L0.fin hp0 (.int _)))))
    · refine x_next ?_
      exact x_ret (x_c (x_finI (Q := Q) (ps := (fun (r : Int) => [])) (sc := fun (r : Int) => r) 0 hm1 kont (L0.fin hp0 (.int _))))
abbrev sp__law_bag (K : PySem.W.Frag) : Sp := fun vs H Q _ => ∃ (X : Addr → Prop)  (a__law_cell_here : Int) (r : (List Int)), m__law_bag a__law_cell_here = some r ∧ Cond K X H [.imm (.int a__law_cell_here)] vs ∧ ∀ p H', Fin K X H [] [] (.new (ml (r : (List Int)))) (.ref p) H' → Q (.ref p) H'
theorem mk__law_bag {K : PySem.W.Frag} {X : Addr → Prop} {H : Hp} {vs : List V} {Q : VK} {E : XK}  {a__law_cell_here : Int} {r : (List Int)} (hm : m__law_bag a__law_cell_here = some r) (c : Cond K X H [.imm (.int a__law_cell_here)] vs) (k : ∀ p H', Fin K X H [] [] (.new (ml (r : (List Int)))) (.ref p) H' → Q (.ref p) H') : sp__law_bag K vs H Q E := ⟨X, a__law_cell_here, r, hm, c, k⟩
abbrev n__law_bag : List Str := ["_law_cell_here"]
theorem sc__law_bag : FnScope n__law_bag ["_law_cell_here"] (defScope s__law_bag) := ⟨rfl, rfl, rfl, by decide +kernel, rfl, by decide +kernel, by decide +kernel⟩
theorem ok__law_bag (T : Txt K mg) : FnOk P w K mg base CX0 1 T.A__law_bag T.D__law_bag ["_law_cell_here"] (sp__law_bag K) := by
  refine Fun.ok T.F__law_bag sc__law_bag (fun vs H Q E h => ?_) (fun cdv A outer s H vs Q E hr h => ?_)
  · obtain ⟨X, a__law_cell_here, r, hm, c, kont⟩ := h
    exact c.len
  · obtain ⟨X, a__law_cell_here, r, hm, c, kont⟩ := h
    refine ⟨_, (pss_cons (ps_if (pt_cmpR op_ge (pv 0) (pe_op op_pow pe_int pe_int) (nomark _)) (pss_one (ps_ret (pe_lst (pa_cons (pv 0) (pa_cons (pe_op op_mod (pv 0) pe_int) pa_nil))))) pss_nil)
      (pss_one (ps_ret (pe_lst (pa_cons pe_int (pa_cons (pe_op op_mod (pe_op op_add (pe_op op_mul (pe_op op_mod (pv 0) pe_int) pe_int) pe_int) pe_int) pa_nil)))))), ?_⟩
    have L0 : Lo ⟨K, X, H, muts [.imm (.int a__law_cell_here)], n__law_bag.length⟩ X H (L2.start n__law_bag vs) [.imm (.int a__law_cell_here)] := c.start n__law_bag (show (1 : Nat) ≤ 1 by decide)
    unfold m__law_bag at hm
    refine x_seq (x_ifS (x_test (x_op (x_vI (x := a__law_cell_here) L0 rfl (x_op (x_c (x_c (x_powc (n := 1000000000000000000) ⟨by decide, by decide, by decide⟩ (by decide +kernel) (x_r0 (x_kb (x_if hm (fun hm1 => ?_) fun hm1 => ?_)))))))))))
    · exact x_ret (x_lst (x_cons (x_vI (x := a__law_cell_here) L0 rfl (x_cons (x_op (x_vI (x := a__law_cell_here) L0 rfl (x_c (x_modc (by decide) (x_nil (x_mkN L0 (.cons (.int _) (.cons (.int _) .nil)) (show (2 : Nat) ≤ 16777216 by decide) fun p1 _ _ h01 hx1 L1 le1 => x_finP (Q := Q) (ps := (fun (r : (List Int)) => [])) (o := fun (r : (List Int)) => ml (r : (List Int))) (e := [a__law_cell_here, (a__law_cell_here % 2147483647)]) hm1 kont (L1.finT (p := p1) (i := 1) (o := ml ([a__law_cell_here, (a__law_cell_here % 2147483647)] : (List Int))) hp0 rfl h01)))))))))))
    · refine x_next ?_
      exact x_ret (x_lst (x_cons (x_c (x_cons (x_op (x_op (x_op (x_op (x_vI (x := a__law_cell_here) L0 rfl (x_c (x_modc (by decide) (x_c (x_mulR (by decide) (x_c (x_r0 (x_c (x_modc (by decide) (x_nil (x_mkN L0 (.cons (.int _) (.cons (.int _) .nil)) (show (2 : Nat) ≤ 16777216 by decide) fun p2 _ _ h02 hx2 L2 le2 => x_finP (Q := Q) (ps := (fun (r : (List Int)) => [])) (o := fun (r : (List Int)) => ml (r : (List Int))) (e := [0, ((((a__law_cell_here % 2147483647) * 69621) + 7) % 2147483647)]) hm1 kont (L2.finT (p := p2) (i := 1) (o := ml ([0, ((((a__law_cell_here % 2147483647) * 69621) + 7) % 2147483647)] : (List Int))) hp0 rfl h02))))))))))))))))))))
abbrev sp__law_draw (K : PySem.W.Frag) : Sp := fun vs H Q _ => ∃ (X : Addr → Prop) (p__law_bag_here : Addr) (a__law_bag_here : (List Int)) (a__law_many : Int) (r : (Int × (List Int))), m__law_draw a__law_bag_here a__law_many = some r ∧ Cond K X H [.mu p__law_bag_here (ml (a__law_bag_here : (List Int))), .imm (.int a__law_many)] vs ∧ ∀ H', Fin K X H [p__law_bag_here] [(p__law_bag_here, ml (r.2 : (List Int)))] (.imm (.int r.1)) (.int r.1) H' → Q (.int r.1) H'
theorem mk__law_draw {K : PySem.W.Frag} {X : Addr → Prop} {H : Hp} {vs : List V} {Q : VK} {E : XK} {p__law_bag_here : Addr} {a__law_bag_here : (List Int)} {a__law_many : Int} {r : (Int × (List Int))} (hm : m__law_draw a__law_bag_here a__law_many = some r) (c : Cond K X H [.mu p__law_bag_here (ml (a__law_bag_here : (List Int))), .imm (.int a__law_many)] vs) (k : ∀ H', Fin K X H [p__law_bag_here] [(p__law_bag_here, ml (r.2 : (List Int)))] (.imm (.int r.1)) (.int r.1) H' → Q (.int r.1) H') : sp__law_draw K vs H Q E := ⟨X, p__law_bag_here, a__law_bag_here, a__law_many, r, hm, c, k⟩
abbrev n__law_draw : List Str := ["_law_bag_here", "_law_many", "_law_found"]
theorem sc__law_draw : FnScope n__law_draw ["_law_bag_here", "_law_many"] (defScope s__law_draw) := ⟨rfl, rfl, rfl, by decide +kernel, rfl, by decide +kernel, by decide +kernel⟩
theorem ok__law_draw (T : Txt K mg) : FnOk P w K mg base CX0 1 T.A__law_draw T.D__law_draw ["_law_bag_here", "_law_many"] (sp__law_draw K) := by
  refine Fun.ok T.F__law_draw sc__law_draw (fun vs H Q E h => ?_) (fun cdv A outer s H vs Q E hr h => ?_)
  · obtain ⟨X, p__law_bag_here, a__law_bag_here, a__law_many, r, hm, c, kont⟩ := h
    exact c.len
  · obtain ⟨X, p__law_bag_here, a__law_bag_here, a__law_many, r, hm, c, kont⟩ := h
    refine ⟨_, (pss_cons (ps_if (pt_cmpR op_gt (pe_ix (r := rIxL K) ix_list (pv 0) pe_int (fun _ _ => rfl)) pe_int (nomark _)) (pss_cons (ps_set (i := 2) sc__law_draw.nd rfl (Or.inl rfl) (pe_op op_modN (pe_ix (r := rIxL K) ix_list (pv 0) pe_int (fun _ _ => rfl)) (pv 1)))
      (pss_cons (ps_asg (pe_op op_divG (pe_ix (r := rIxL K) ix_list (pv 0) pe_int (fun _ _ => rfl)) (pv 1)) (pg_sub (pv 0) pe_int set_list))
      (pss_one (ps_ret (pv 2))))) pss_nil)
      (pss_cons (ps_asg (pe_op op_mod (pe_op op_add (pe_op op_mul (pe_ix (r := rIxL K) ix_list (pv 0) pe_int (fun _ _ => rfl)) pe_int) pe_int) pe_int) (pg_sub (pv 0) pe_int set_list))
      (pss_one (ps_ret (pe_op op_modN (pe_op op_fdiv (pe_op op_mod (pe_op op_mulW (pe_ix (r := rIxL K) ix_list (pv 0) pe_int (fun _ _ => rfl)) (pe_op op_add (pe_op op_fdiv (pe_ix (r := rIxL K) ix_list (pv 0) pe_int (fun _ _ => rfl)) pe_int) pe_int)) pe_int) pe_int) (pv 1)))))), ?_⟩
    have L0 : Lo ⟨K, X, H, muts [.mu p__law_bag_here (ml (a__law_bag_here : (List Int))), .imm (.int a__law_many)], n__law_draw.length⟩ X H (L2.start n__law_draw vs) [.mu p__law_bag_here (ml (a__law_bag_here : (List Int))), .imm (.int a__law_many), .unk] := c.start n__law_draw (show (2 : Nat) ≤ 3 by decide)
    unfold m__law_draw at hm
    refine x_seq (x_ifS (x_test (x_op (x_op (x_vm L0 rfl (x_c (x_ixMI (xs := a__law_bag_here) (j := 0) L0 rfl hm fun x1 _ hm1 => x_c (x_r0 (x_kb (x_if hm1 (fun hm2 => ?_) fun hm2 => ?_))))))))))
    · refine x_seq (x_asg (x_op (x_op (x_vm L0 rfl (x_c (x_ixMI (xs := a__law_bag_here) (j := 0) L0 rfl hm2 fun x2 _ hm3 => x_vI (x := a__law_many) L0 rfl (x_mod hm3 fun z1 _ hm4 => x_set (d := (.int z1)) (Γ' := [.mu p__law_bag_here (ml (a__law_bag_here : (List Int))), .imm (.int a__law_many), .imm (.int z1)]) L0 (.int _) (show (2 : Nat) < 3 by decide) rfl fun _ L1 => ?_)))))))
      refine x_seq (x_asg (x_op (x_op (x_vm L1 rfl (x_c (x_ixMI (xs := a__law_bag_here) (j := 0) L1 rfl hm4 fun x3 _ hm5 => x_vI (x := a__law_many) L1 rfl (x_div hm5 fun z2 _ hm6 => x_gSub (x_vm L1 rfl (x_c (x_setI (xs := a__law_bag_here) (x := z2) (j := 0) L1 rfl hm6 (.int _) fun y1 _ _ hm7 L2 => have L3 : Lo _ _ _ _ [.mu p__law_bag_here (ml (y1 : (List Int))), .imm (.int a__law_many), .imm (.int z1)] := L2; ?_))))))))))
      exact x_ret (x_vI (x := z1) L3 rfl (x_finI (Q := Q) (ps := (fun (r : (Int × (List Int))) => [(p__law_bag_here, ml (r.2 : (List Int)))])) (sc := fun (r : (Int × (List Int))) => r.1) ((z1, y1)) hm7 kont (L3.fin (hp1 (L3.mrep (i := 0) rfl)) (.int _))))
    · refine x_next ?_
      refine x_seq (x_asg (x_op (x_op (x_op (x_op (x_vm L0 rfl (x_c (x_ixMI (xs := a__law_bag_here) (j := 0) L0 rfl hm2 fun x4 _ hm8 => x_c (x_mulR (by decide) (x_c (x_r0 (x_c (x_modc (by decide) (x_gSub (x_vm L0 rfl (x_c (x_setI (xs := a__law_bag_here) (x := (((x4 * 48271) + 4099) % 2147483647)) (j := 0) L0 rfl hm8 (.int _) fun y2 _ _ hm9 L4 => have L5 : Lo _ _ _ _ [.mu p__law_bag_here (ml (y2 : (List Int))), .imm (.int a__law_many), .unk] := L4; ?_)))))))))))))))))
      exact x_ret (x_op (x_op (x_op (x_op (x_op (x_vm L5 rfl (x_c (x_ixMI (xs := y2) (j := 0) L5 rfl hm9 fun x5 _ hm10 => x_op (x_op (x_op (x_vm L5 rfl (x_c (x_ixMI (xs := y2) (j := 0) L5 rfl hm10 fun x6 _ hm11 => x_c (x_divc ⟨by decide, by decide⟩ (x_c (x_r0 (x_mul hm11 fun z3 _ hm12 => x_c (x_modc (by decide) (x_c (x_divc ⟨by decide, by decide⟩ (x_vI (x := a__law_many) L5 rfl (x_mod hm12 fun z4 _ hm13 => x_finI (Q := Q) (ps := (fun (r : (Int × (List Int))) => [(p__law_bag_here, ml (r.2 : (List Int)))])) (sc := fun (r : (Int × (List Int))) => r.1) ((z4, y2)) hm13 kont (L5.fin (hp1 (L5.mrep (i := 0) rfl)) (.int _))))))))))))))))))))))))
abbrev sp__law_chain (K : PySem.W.Frag) : Sp := fun vs H Q _ => ∃ (X : Addr → Prop) (p__law_bag_here : Addr) (a__law_bag_here : (List Int)) (a__law_wide : Int) (a__law_most : Int) (r : ((List Int) × (List Int))), m__law_chain a__law_bag_here a__law_wide a__law_most = some r ∧ Cond K X H [.mu p__law_bag_here (ml (a__law_bag_here : (List Int))), .imm (.int a__law_wide), .imm (.int a__law_most)] vs ∧ ∀ p H', Fin K X H [p__law_bag_here] [(p__law_bag_here, ml (r.2 : (List Int)))] (.new (ml (r.1 : (List Int)))) (.ref p) H' → Q (.ref p) H'
theorem mk__law_chain {K : PySem.W.Frag} {X : Addr → Prop} {H : Hp} {vs : List V} {Q : VK} {E : XK} {p__law_bag_here : Addr} {a__law_bag_here : (List Int)} {a__law_wide : Int} {a__law_most : Int} {r : ((List Int) × (List Int))} (hm : m__law_chain a__law_bag_here a__law_wide a__law_most = some r) (c : Cond K X H [.mu p__law_bag_here (ml (a__law_bag_here : (List Int))), .imm (.int a__law_wide), .imm (.int a__law_most)] vs) (k : ∀ p H', Fin K X H [p__law_bag_here] [(p__law_bag_here, ml (r.2 : (List Int)))] (.new (ml (r.1 : (List Int)))) (.ref p) H' → Q (.ref p) H') : sp__law_chain K vs H Q E := ⟨X, p__law_bag_here, a__law_bag_here, a__law_wide, a__law_most, r, hm, c, k⟩
abbrev n__law_chain : List Str := ["_law_bag_here", "_law_wide", "_law_most", "_law_inner", "_law_x"]
theorem sc__law_chain : FnScope n__law_chain ["_law_bag_here", "_law_wide", "_law_most"] (defScope s__law_chain) := ⟨rfl, rfl, rfl, by decide +kernel, rfl, by decide +kernel, by decide +kernel⟩
theorem ok__law_chain (T : Txt K mg) : FnOk P w K mg base CX0 2 T.A__law_chain T.D__law_chain ["_law_bag_here", "_law_wide", "_law_most"] (sp__law_chain K) := by
  refine Fun.ok T.F__law_chain sc__law_chain (fun vs H Q E h => ?_) (fun cdv A outer s H vs Q E hr h => ?_)
  · obtain ⟨X, p__law_bag_here, a__law_bag_here, a__law_wide, a__law_most, r, hm, c, kont⟩ := h
    exact c.len
  · obtain ⟨X, p__law_bag_here, a__law_bag_here, a__law_wide, a__law_most, r, hm, c, kont⟩ := h
    refine ⟨_, (pss_cons (ps_set (i := 3) sc__law_chain.nd rfl (Or.inl rfl) (pe_slice (r := rSlL K) sl_list (pe_lc (own := [("_law_x", 4)]) (g := gName 4) (tt := _) rfl sc__law_chain.nd (pi_range2 (by rfl) T.z_range (pa_cons pe_int (pa_cons (pv 1) pa_nil))) (blkOk_by (N := n__law_chain) (sc := defScope s__law_chain) (by decide +kernel)) (fun _ _ _ _ _ => (pg_name (i := 4) sc__law_chain.nd rfl (Or.inl rfl))) (fun _ _ _ _ _ => (pts_one (pt_cmpR op_eq (pe_call (ok__law_draw T) hr (by rfl) T.g__law_draw T.F__law_draw.kp T.b__law_draw .nil pass0 (pa_cons (pv 0) (pa_cons pe_int pa_nil))) pe_int (nomark _)))) (fun _ _ _ _ _ => (pv 4))) po_none (po_some (pe_op op_sub (pv 2) pe_int))))
      (pss_one (ps_ret (pe_op op_catR (pe_op op_catR (pe_lst (pa_cons pe_int pa_nil)) (pv 3)) (pe_lst (pa_cons (pv 1) pa_nil)))))), ?_⟩
    have L0 : Lo ⟨K, X, H, muts [.mu p__law_bag_here (ml (a__law_bag_here : (List Int))), .imm (.int a__law_wide), .imm (.int a__law_most)], n__law_chain.length⟩ X H (L2.start n__law_chain vs) [.mu p__law_bag_here (ml (a__law_bag_here : (List Int))), .imm (.int a__law_wide), .imm (.int a__law_most), .unk, .unk] := c.start n__law_chain (show (3 : Nat) ≤ 5 by decide)
    unfold m__law_chain at hm
    refine x_seq (x_asg (x_sl (x_lcr2 (x_cons (x_c (x_cons (x_vI (x := a__law_wide) L0 rfl (x_nil (x_r2 hm fun hm1 => obE hm1 fun _ hl1 hm2 => obE hm2 fun q1 hy1 hm3 => x_lcR (G := (fun (s1 : (List Int)) => [.mu p__law_bag_here (ml (s1 : (List Int))), .imm (.int a__law_wide), .imm (.int a__law_most), .unk, .unk])) (s0 := a__law_bag_here) L0 (fun _ _ => rfl) hy1 (lenOk_le hl1) (fun x1 s1 _ H1 _ u1 _ _ _ hF1 L1 r1 hn1 hy2 => x_cName (d := (.int x1)) (Γ' := [.mu p__law_bag_here (ml (s1 : (List Int))), .imm (.int a__law_wide), .imm (.int a__law_most), .unk, .imm (.int x1)]) L1 r1 (show (4 : Nat) < 5 by decide) rfl fun _ L2 => x_test (x_op (x_call (x_cons (x_vm L2 rfl (x_cons (x_c (x_nil (obE hF1 fun z1 hz1 hm5 => mk__law_draw hz1 (L2.cond1 (i := 0) (.m (L2.mrep (i := 0) rfl) (.im (.int _) .nil)) rfl rfl rfl) fun _ F1 => k1 L2 F1 (i := 0) (Γ' := [.mu p__law_bag_here (ml (z1.2 : (List Int))), .imm (.int a__law_wide), .imm (.int a__law_most), .unk, .imm (.int x1)]) rfl rfl rfl fun L3 le1 => x_c (x_eqi (x_kb (x_ct hm5 (fun hm6 => x_vI (x := x1) L3 rfl (x_cy (G := (fun (s1 : (List Int)) => [.mu p__law_bag_here (ml (s1 : (List Int))), .imm (.int a__law_wide), .imm (.int a__law_most), .unk, .unk])) (s := s1) (s' := z1.2) (y := x1) (by cases hm6; rfl) hy2 L1 L3 (.m (.i rfl (.i rfl (.i rfl (.i rfl .e))))) (.int _))) (fun hm6 => x_cn (G := (fun (s1 : (List Int)) => [.mu p__law_bag_here (ml (s1 : (List Int))), .imm (.int a__law_wide), .imm (.int a__law_most), .unk, .unk])) (s := s1) (s' := z1.2) (by cases hm6; rfl) hn1 L1 L3 (.m (.i rfl (.i rfl (.i rfl (.i rfl .e)))))))))))))))))) fun p1 _ L4 le2 r2 => have L5 : Lo _ _ _ _ [.mu p__law_bag_here (ml (q1.2 : (List Int))), .imm (.int a__law_wide), .imm (.int a__law_most), .unk, .unk] := L4; have r3 : Rep _ _ _ (enc (q1.1 : (List Int))) (.ref p1) := r2; x_noP (x_part (x_op (x_vI (x := a__law_most) L5 rfl (x_c (x_r0 (x_partK (x_slL (xs := q1.1) L5 r3 fun v2 _ L6 le3 r4 => have r5 : Rep _ _ _ (enc ((slice q1.1 none (some ((a__law_most - 2)))) : (List Int))) v2 := r4; x_bset (x0 := (slice q1.1 none (some ((a__law_most - 2))))) (d := fun inner_1 => (enc (inner_1 : (List Int)))) (Γf := fun inner_1 => [.mu p__law_bag_here (ml (q1.2 : (List Int))), .imm (.int a__law_wide), .imm (.int a__law_most), .imm (enc (inner_1 : (List Int))), .unk]) hm3 L6 r5 (show (3 : Nat) < 5 by decide) (fun _ => rfl) fun inner_1 _ hm7 L7 => ?_))))))))))))))))
    exact x_ret (x_op (x_op (x_lst (x_cons (x_c (x_nil (x_mkL L7 (.cons (.int _) .nil) (show (1 : Nat) ≤ 16777216 by decide) fun v3 _ L8 le4 r6 => have r7 : Rep _ _ _ (enc ([0] : (List Int))) v3 := r6; x_vd (d := (enc (inner_1 : (List Int)))) L8 rfl fun v4 r8 => x_cat L8 hm7 r7 r8 fun v5 _ hm8 L9 le5 r9 => have r10 : Rep _ _ _ (enc (([0] ++ inner_1) : (List Int))) v5 := r9; x_lst (x_cons (x_vI (x := a__law_wide) L9 rfl (x_nil (x_mkL L9 (.cons (.int _) .nil) (show (1 : Nat) ≤ 16777216 by decide) fun v6 _ L10 le6 r11 => have r12 := le6 _ _ r10; have r13 : Rep _ _ _ (enc ([a__law_wide] : (List Int))) v6 := r11; x_catN L10 hm8 r12 r13 fun p2 _ _ hm9 h01 hx1 L11 le7 => x_finP (Q := Q) (ps := (fun (r : ((List Int) × (List Int))) => [(p__law_bag_here, ml (r.2 : (List Int)))])) (o := fun (r : ((List Int) × (List Int))) => ml (r.1 : (List Int))) (e := ((([0] ++ inner_1) ++ [a__law_wide]), q1.2)) hm9 kont (L11.finT (p := p2) (i := 5) (o := ml ((([0] ++ inner_1) ++ [a__law_wide]) : (List Int))) (hp1 (L11.mrep (i := 0) rfl)) rfl h01))))))))))))
abbrev sp__law_strip (K : PySem.W.Frag) : Sp := fun vs H Q _ => ∃ (X : Addr → Prop) (p__law_bag_here : Addr) (a__law_bag_here : (List Int)) (a__law_wide : Int) (a__law_most : Int) (r : ((List (T2 Int Int)) × (List Int))), m__law_strip a__law_bag_here a__law_wide a__law_most = some r ∧ Cond K X H [.mu p__law_bag_here (ml (a__law_bag_here : (List Int))), .imm (.int a__law_wide), .imm (.int a__law_most)] vs ∧ ∀ p H', Fin K X H [p__law_bag_here] [(p__law_bag_here, ml (r.2 : (List Int)))] (.new (ml (r.1 : (List (T2 Int Int))))) (.ref p) H' → Q (.ref p) H'
theorem mk__law_strip {K : PySem.W.Frag} {X : Addr → Prop} {H : Hp} {vs : List V} {Q : VK} {E : XK} {p__law_bag_here : Addr} {a__law_bag_here : (List Int)} {a__law_wide : Int} {a__law_most : Int} {r : ((List (T2 Int Int)) × (List Int))} (hm : m__law_strip a__law_bag_here a__law_wide a__law_most = some r) (c : Cond K X H [.mu p__law_bag_here (ml (a__law_bag_here : (List Int))), .imm (.int a__law_wide), .imm (.int a__law_most)] vs) (k : ∀ p H', Fin K X H [p__law_bag_here] [(p__law_bag_here, ml (r.2 : (List Int)))] (.new (ml (r.1 : (List (T2 Int Int))))) (.ref p) H' → Q (.ref p) H') : sp__law_strip K vs H Q E := ⟨X, p__law_bag_here, a__law_bag_here, a__law_wide, a__law_most, r, hm, c, k⟩
abbrev n__law_strip : List Str := ["_law_bag_here", "_law_wide", "_law_most", "_law_low", "_law_high", "_law_x"]
theorem sc__law_strip : FnScope n__law_strip ["_law_bag_here", "_law_wide", "_law_most"] (defScope s__law_strip) := ⟨rfl, rfl, rfl, by decide +kernel, rfl, by decide +kernel, by decide +kernel⟩
theorem ok__law_strip (T : Txt K mg) : FnOk P w K mg base CX0 3 T.A__law_strip T.D__law_strip ["_law_bag_here", "_law_wide", "_law_most"] (sp__law_strip K) := by
  refine Fun.ok T.F__law_strip sc__law_strip (fun vs H Q E h => ?_) (fun cdv A outer s H vs Q E hr h => ?_)
  · obtain ⟨X, p__law_bag_here, a__law_bag_here, a__law_wide, a__law_most, r, hm, c, kont⟩ := h
    exact c.len
  · obtain ⟨X, p__law_bag_here, a__law_bag_here, a__law_wide, a__law_most, r, hm, c, kont⟩ := h
    refine ⟨_, (pss_cons (ps_setLc (i := 3) (own := [("_law_x", 5)])  (g := gName 5) (tt := tYes) rfl sc__law_strip.nd rfl rfl (sw_true rfl rfl rfl (by decide +kernel)) (pi_list (pe_call (ok__law_chain T) hr (by rfl) T.g__law_chain T.F__law_chain.kp T.b__law_chain .nil pass0 (pa_cons (pv 0) (pa_cons (pv 1) (pa_cons (pv 2) pa_nil))))) (blkOk_by (N := n__law_strip) (sc := defScope s__law_strip) (by decide +kernel)) (fun _ _ _ _ _ => (pg_name (i := 5) sc__law_strip.nd rfl (Or.inl rfl))) (fun _ _ _ _ _ => pts_nil) (fun _ _ _ _ _ => (pe_tup (pa_cons (pv 5) (pa_cons (pe_call (ok__law_draw T) (hr.mono (by decide)) (by rfl) T.g__law_draw T.F__law_draw.kp T.b__law_draw .nil pass0 (pa_cons (pv 0) (pa_cons pe_int pa_nil))) pa_nil)))))
      (pss_cons (ps_setLc (i := 4) (own := [("_law_x", 5)])  (g := gName 5) (tt := tYes) rfl sc__law_strip.nd rfl rfl (sw_true rfl rfl rfl (by decide +kernel)) (pi_list (pe_call (ok__law_chain T) hr (by rfl) T.g__law_chain T.F__law_chain.kp T.b__law_chain .nil pass0 (pa_cons (pv 0) (pa_cons (pv 1) (pa_cons (pv 2) pa_nil))))) (blkOk_by (N := n__law_strip) (sc := defScope s__law_strip) (by decide +kernel)) (fun _ _ _ _ _ => (pg_name (i := 5) sc__law_strip.nd rfl (Or.inl rfl))) (fun _ _ _ _ _ => pts_nil) (fun _ _ _ _ _ => (pe_tup (pa_cons (pv 5) (pa_cons (pe_op op_add pe_int (pe_call (ok__law_draw T) (hr.mono (by decide)) (by rfl) T.g__law_draw T.F__law_draw.kp T.b__law_draw .nil pass0 (pa_cons (pv 0) (pa_cons pe_int pa_nil)))) pa_nil)))))
      (pss_one (ps_ret (pe_op op_catR (pv 3) (pe_revL (pv 4))))))), ?_⟩
    have L0 : Lo ⟨K, X, H, muts [.mu p__law_bag_here (ml (a__law_bag_here : (List Int))), .imm (.int a__law_wide), .imm (.int a__law_most)], n__law_strip.length⟩ X H (L2.start n__law_strip vs) [.mu p__law_bag_here (ml (a__law_bag_here : (List Int))), .imm (.int a__law_wide), .imm (.int a__law_most), .unk, .unk, .unk] := c.start n__law_strip (show (3 : Nat) ≤ 6 by decide)
    unfold m__law_strip at hm
    refine x_seq (x_asg (x_lcl (x_call (x_cons (x_vm L0 rfl (x_cons (x_vI (x := a__law_wide) L0 rfl (x_cons (x_vI (x := a__law_most) L0 rfl (x_nil (obE hm fun z1 hz1 hm1 => mk__law_chain hz1 (L0.cond1 (i := 0) (.m (L0.mrep (i := 0) rfl) (.im (.int _) (.im (.int _) .nil))) rfl rfl rfl) fun p1 _ F1 => k1i L0 F1 (i := 0) (Γ' := [.mu p__law_bag_here (ml (z1.2 : (List Int))), .imm (.int a__law_wide), .imm (.int a__law_most), .unk, .unk, .unk]) rfl rfl rfl fun L1 le1 r1 => have r2 : Rep _ _ _ (enc (z1.1 : (List Int))) (.ref p1) := r1; obE hm1 fun _ hl1 hm2 => obE hm2 fun q1 hy1 hm3 => x_lcL (G := (fun (s1 : (List Int)) => [.mu p__law_bag_here (ml (s1 : (List Int))), .imm (.int a__law_wide), .imm (.int a__law_most), .unk, .unk, .unk])) (s0 := z1.2) (xs := z1.1) L1 (fun _ _ => rfl) r2 (mapS_comp hy1) (lenOk_le hl1) (fun x1 s1 _ H1 _ u1 _ _ _ hF1 L2 r3 hn1 hy2 => obE hF1 fun y1 hm4 he1 => x_cName (d := (.int x1)) (Γ' := [.mu p__law_bag_here (ml (s1 : (List Int))), .imm (.int a__law_wide), .imm (.int a__law_most), .unk, .unk, .imm (.int x1)]) L2 r3 (show (5 : Nat) < 6 by decide) rfl fun _ L3 => x_yes (x_tup (x_cons (x_vI (x := x1) L3 rfl (x_cons (x_call (x_cons (x_vm L3 rfl (x_cons (x_c (x_nil (obE hm4 fun z2 hz2 hm5 => mk__law_draw hz2 (L3.cond1 (i := 0) (.m (L3.mrep (i := 0) rfl) (.im (.int _) .nil)) rfl rfl rfl) fun _ F2 => k1 L3 F2 (i := 0) (Γ' := [.mu p__law_bag_here (ml (z2.2 : (List Int))), .imm (.int a__law_wide), .imm (.int a__law_most), .unk, .unk, .imm (.int x1)]) rfl rfl rfl fun L4 le2 => x_nil (x_mkT L4 (.cons (.int _) (.cons (.int _) .nil)) (show (2 : Nat) ≤ 16777216 by decide) fun v2 _ L5 le3 r4 => have r5 : Rep _ _ _ (enc ((T2.mk x1 z2.1) : (T2 Int Int))) v2 := r4; x_cy (G := (fun (s1 : (List Int)) => [.mu p__law_bag_here (ml (s1 : (List Int))), .imm (.int a__law_wide), .imm (.int a__law_most), .unk, .unk, .unk])) (s := s1) (s' := z2.2) (y := (T2.mk x1 z2.1)) (by cases hm5; cases he1; rfl) hy2 L2 L5 (.m (.i rfl (.i rfl (.i rfl (.i rfl (.i rfl .e)))))) r5))))))))))))) fun p2 _ L6 le4 r6 => have L7 : Lo _ _ _ _ [.mu p__law_bag_here (ml (q1.2 : (List Int))), .imm (.int a__law_wide), .imm (.int a__law_most), .unk, .unk, .unk] := L6; have r7 : Rep _ _ _ (enc (q1.1 : (List (T2 Int Int)))) (.ref p2) := r6; x_set (d := (enc (q1.1 : (List (T2 Int Int))))) (Γ' := [.mu p__law_bag_here (ml (q1.2 : (List Int))), .imm (.int a__law_wide), .imm (.int a__law_most), .imm (enc (q1.1 : (List (T2 Int Int)))), .unk, .unk]) L7 r7 (show (3 : Nat) < 6 by decide) rfl fun _ L8 => ?_)))))))))))
    refine x_seq (x_asg (x_lcl (x_call (x_cons (x_vm L8 rfl (x_cons (x_vI (x := a__law_wide) L8 rfl (x_cons (x_vI (x := a__law_most) L8 rfl (x_nil (obE hm3 fun z3 hz3 hm6 => mk__law_chain hz3 (L8.cond1 (i := 0) (.m (L8.mrep (i := 0) rfl) (.im (.int _) (.im (.int _) .nil))) rfl rfl rfl) fun p3 _ F3 => k1i L8 F3 (i := 0) (Γ' := [.mu p__law_bag_here (ml (z3.2 : (List Int))), .imm (.int a__law_wide), .imm (.int a__law_most), .imm (enc (q1.1 : (List (T2 Int Int)))), .unk, .unk]) rfl rfl rfl fun L9 le5 r8 => have r9 : Rep _ _ _ (enc (z3.1 : (List Int))) (.ref p3) := r8; obE hm6 fun _ hl2 hm7 => obE hm7 fun q2 hy3 hm8 => x_lcL (G := (fun (s2 : (List Int)) => [.mu p__law_bag_here (ml (s2 : (List Int))), .imm (.int a__law_wide), .imm (.int a__law_most), .imm (enc (q1.1 : (List (T2 Int Int)))), .unk, .unk])) (s0 := z3.2) (xs := z3.1) L9 (fun _ _ => rfl) r9 (mapS_comp hy3) (lenOk_le hl2) (fun x2 s2 _ H2 _ u2 _ _ _ hF2 L10 r10 hn2 hy4 => obE hF2 fun y2 hm9 he2 => x_cName (d := (.int x2)) (Γ' := [.mu p__law_bag_here (ml (s2 : (List Int))), .imm (.int a__law_wide), .imm (.int a__law_most), .imm (enc (q1.1 : (List (T2 Int Int)))), .unk, .imm (.int x2)]) L10 r10 (show (5 : Nat) < 6 by decide) rfl fun _ L11 => x_yes (x_tup (x_cons (x_vI (x := x2) L11 rfl (x_cons (x_op (x_c (x_call (x_cons (x_vm L11 rfl (x_cons (x_c (x_nil (obE hm9 fun z4 hz4 hm10 => mk__law_draw hz4 (L11.cond1 (i := 0) (.m (L11.mrep (i := 0) rfl) (.im (.int _) .nil)) rfl rfl rfl) fun _ F4 => k1 L11 F4 (i := 0) (Γ' := [.mu p__law_bag_here (ml (z4.2 : (List Int))), .imm (.int a__law_wide), .imm (.int a__law_most), .imm (enc (q1.1 : (List (T2 Int Int)))), .unk, .imm (.int x2)]) rfl rfl rfl fun L12 le6 => x_r0 (x_nil (x_mkT L12 (.cons (.int _) (.cons (.int _) .nil)) (show (2 : Nat) ≤ 16777216 by decide) fun v4 _ L13 le7 r11 => have r12 : Rep _ _ _ (enc ((T2.mk x2 ((4 + z4.1))) : (T2 Int Int))) v4 := r11; x_cy (G := (fun (s2 : (List Int)) => [.mu p__law_bag_here (ml (s2 : (List Int))), .imm (.int a__law_wide), .imm (.int a__law_most), .imm (enc (q1.1 : (List (T2 Int Int)))), .unk, .unk])) (s := s2) (s' := z4.2) (y := (T2.mk x2 ((4 + z4.1)))) (by cases hm10; cases he2; rfl) hy4 L10 L13 (.m (.i rfl (.i rfl (.i rfl (.i rfl (.i rfl .e)))))) r12)))))))))))))))) fun p4 _ L14 le8 r13 => have L15 : Lo _ _ _ _ [.mu p__law_bag_here (ml (q2.2 : (List Int))), .imm (.int a__law_wide), .imm (.int a__law_most), .imm (enc (q1.1 : (List (T2 Int Int)))), .unk, .unk] := L14; have r14 : Rep _ _ _ (enc (q2.1 : (List (T2 Int Int)))) (.ref p4) := r13; x_set (d := (enc (q2.1 : (List (T2 Int Int))))) (Γ' := [.mu p__law_bag_here (ml (q2.2 : (List Int))), .imm (.int a__law_wide), .imm (.int a__law_most), .imm (enc (q1.1 : (List (T2 Int Int)))), .imm (enc (q2.1 : (List (T2 Int Int)))), .unk]) L15 r14 (show (4 : Nat) < 6 by decide) rfl fun _ L16 => ?_)))))))))))
    exact x_ret (x_op (x_vd (d := (enc (q1.1 : (List (T2 Int Int))))) L16 rfl fun v5 r15 => x_revL (x_vd (d := (enc (q2.1 : (List (T2 Int Int))))) L16 rfl fun v6 r16 => x_revv (xs := q2.1) L16 r16 fun v7 _ L17 le9 r17 => have r18 := le9 _ _ r15; have r19 : Rep _ _ _ (enc (q2.1.reverse : (List (T2 Int Int)))) v7 := r17; x_catN L17 hm8 r18 r19 fun p5 _ _ hm11 h01 hx1 L18 le10 => x_finP (Q := Q) (ps := (fun (r : ((List (T2 Int Int)) × (List Int))) => [(p__law_bag_here, ml (r.2 : (List Int)))])) (o := fun (r : ((List (T2 Int Int)) × (List Int))) => ml (r.1 : (List (T2 Int Int)))) (e := ((q1.1 ++ q2.1.reverse), q2.2)) hm11 kont (L18.finT (p := p5) (i := 6) (o := ml ((q1.1 ++ q2.1.reverse) : (List (T2 Int Int)))) (hp1 (L18.mrep (i := 0) rfl)) rfl h01))))
abbrev sp__law_cross (K : PySem.W.Frag) : Sp := fun vs H Q _ => ∃ (X : Addr → Prop)  (a__law_o : (T2 Int Int)) (a__law_p : (T2 Int Int)) (a__law_q : (T2 Int Int)) (r : Int), m__law_cross a__law_o a__law_p a__law_q = some r ∧ Cond K X H [.imm (enc (a__law_o : (T2 Int Int))), .imm (enc (a__law_p : (T2 Int Int))), .imm (enc (a__law_q : (T2 Int Int)))] vs ∧ ∀ H', Fin K X H [] [] (.imm (.int r)) (.int r) H' → Q (.int r) H'
theorem mk__law_cross {K : PySem.W.Frag} {X : Addr → Prop} {H : Hp} {vs : List V} {Q : VK} {E : XK}  {a__law_o : (T2 Int Int)} {a__law_p : (T2 Int Int)} {a__law_q : (T2 Int Int)} {r : Int} (hm : m__law_cross a__law_o a__law_p a__law_q = some r) (c : Cond K X H [.imm (enc (a__law_o : (T2 Int Int))), .imm (enc (a__law_p : (T2 Int Int))), .imm (enc (a__law_q : (T2 Int Int)))] vs) (k : ∀ H', Fin K X H [] [] (.imm (.int r)) (.int r) H' → Q (.int r) H') : sp__law_cross K vs H Q E := ⟨X, a__law_o, a__law_p, a__law_q, r, hm, c, k⟩
abbrev n__law_cross : List Str := ["_law_o", "_law_p", "_law_q"]
theorem sc__law_cross : FnScope n__law_cross ["_law_o", "_law_p", "_law_q"] (defScope s__law_cross) := ⟨rfl, rfl, rfl, by decide +kernel, rfl, by decide +kernel, by decide +kernel⟩
theorem ok__law_cross (T : Txt K mg) : FnOk P w K mg base CX0 1 T.A__law_cross T.D__law_cross ["_law_o", "_law_p", "_law_q"] (sp__law_cross K) := by
  refine Fun.ok T.F__law_cross sc__law_cross (fun vs H Q E h => ?_) (fun cdv A outer s H vs Q E hr h => ?_)
  · obtain ⟨X, a__law_o, a__law_p, a__law_q, r, hm, c, kont⟩ := h
    exact c.len
  · obtain ⟨X, a__law_o, a__law_p, a__law_q, r, hm, c, kont⟩ := h
    refine ⟨_, (pss_one (ps_ret (pe_op op_sub (pe_op op_mulW (pe_op op_sub (pe_ix (r := rIxT K) ix_tup (pv 1) pe_int (fun _ _ => rfl)) (pe_ix (r := rIxT K) ix_tup (pv 0) pe_int (fun _ _ => rfl))) (pe_op op_sub (pe_ix (r := rIxT K) ix_tup (pv 2) pe_int (fun _ _ => rfl)) (pe_ix (r := rIxT K) ix_tup (pv 0) pe_int (fun _ _ => rfl)))) (pe_op op_mulW (pe_op op_sub (pe_ix (r := rIxT K) ix_tup (pv 1) pe_int (fun _ _ => rfl)) (pe_ix (r := rIxT K) ix_tup (pv 0) pe_int (fun _ _ => rfl))) (pe_op op_sub (pe_ix (r := rIxT K) ix_tup (pv 2) pe_int (fun _ _ => rfl)) (pe_ix (r := rIxT K) ix_tup (pv 0) pe_int (fun _ _ => rfl))))))), ?_⟩
    have L0 : Lo ⟨K, X, H, muts [.imm (enc (a__law_o : (T2 Int Int))), .imm (enc (a__law_p : (T2 Int Int))), .imm (enc (a__law_q : (T2 Int Int)))], n__law_cross.length⟩ X H (L2.start n__law_cross vs) [.imm (enc (a__law_o : (T2 Int Int))), .imm (enc (a__law_p : (T2 Int Int))), .imm (enc (a__law_q : (T2 Int Int)))] := c.start n__law_cross (show (3 : Nat) ≤ 3 by decide)
    unfold m__law_cross at hm
    exact x_ret (x_op (x_op (x_op (x_op (x_vd (d := (enc (a__law_p : (T2 Int Int)))) L0 rfl fun v1 r1 => x_c (x_ixTI (x := a__law_p.a) r1 rfl (x_op (x_vd (d := (enc (a__law_o : (T2 Int Int)))) L0 rfl fun v2 r2 => x_c (x_ixTI (x := a__law_o.a) r2 rfl (x_r0 (x_op (x_op (x_vd (d := (enc (a__law_q : (T2 Int Int)))) L0 rfl fun v3 r3 => x_c (x_ixTI (x := a__law_q.b) r3 rfl (x_op (x_vd (d := (enc (a__law_o : (T2 Int Int)))) L0 rfl fun v4 r4 => x_c (x_ixTI (x := a__law_o.b) r4 rfl (x_r0 (x_mul hm fun z1 _ hm1 => x_op (x_op (x_op (x_vd (d := (enc (a__law_p : (T2 Int Int)))) L0 rfl fun v5 r5 => x_c (x_ixTI (x := a__law_p.b) r5 rfl (x_op (x_vd (d := (enc (a__law_o : (T2 Int Int)))) L0 rfl fun v6 r6 => x_c (x_ixTI (x := a__law_o.b) r6 rfl (x_r0 (x_op (x_op (x_vd (d := (enc (a__law_q : (T2 Int Int)))) L0 rfl fun v7 r7 => x_c (x_ixTI (x := a__law_q.a) r7 rfl (x_op (x_vd (d := (enc (a__law_o : (T2 Int Int)))) L0 rfl fun v8 r8 => x_c (x_ixTI (x := a__law_o.a) r8 rfl (x_r0 (x_mul hm1 fun z2 _ hm2 => x_r0 (x_finI (Q := Q) (ps := (fun (r : Int) => [])) (sc := fun (r : Int) => r) ((z1 - z2)) hm2 kont (L0.fin hp0 (.int _)))))))))))))))))))))))))))))))))))))))
abbrev sp__law_back (K : PySem.W.Frag) : Sp := fun vs H Q _ => ∃ (X : Addr → Prop)  (a__law_p : (T2 Int Int)) (a__law_q : (T2 Int Int)) (a__law_r : (T2 Int Int)) (r : Bool), m__law_back a__law_p a__law_q a__law_r = some r ∧ Cond K X H [.imm (enc (a__law_p : (T2 Int Int))), .imm (enc (a__law_q : (T2 Int Int))), .imm (enc (a__law_r : (T2 Int Int)))] vs ∧ ∀ H', Fin K X H [] [] (.imm (.bool r)) (.bl r) H' → Q (.bl r) H'
theorem mk__law_back {K : PySem.W.Frag} {X : Addr → Prop} {H : Hp} {vs : List V} {Q : VK} {E : XK}  {a__law_p : (T2 Int Int)} {a__law_q : (T2 Int Int)} {a__law_r : (T2 Int Int)} {r : Bool} (hm : m__law_back a__law_p a__law_q a__law_r = some r) (c : Cond K X H [.imm (enc (a__law_p : (T2 Int Int))), .imm (enc (a__law_q : (T2 Int Int))), .imm (enc (a__law_r : (T2 Int Int)))] vs) (k : ∀ H', Fin K X H [] [] (.imm (.bool r)) (.bl r) H' → Q (.bl r) H') : sp__law_back K vs H Q E := ⟨X, a__law_p, a__law_q, a__law_r, r, hm, c, k⟩
abbrev n__law_back : List Str := ["_law_p", "_law_q", "_law_r", "_law_across", "_law_upward"]
theorem sc__law_back : FnScope n__law_back ["_law_p", "_law_q", "_law_r"] (defScope s__law_back) := ⟨rfl, rfl, rfl, by decide +kernel, rfl, by decide +kernel, by decide +kernel⟩
theorem ok__law_back (T : Txt K mg) : FnOk P w K mg base CX0 2 T.A__law_back T.D__law_back ["_law_p", "_law_q", "_law_r"] (sp__law_back K) := by
  refine Fun.ok T.F__law_back sc__law_back (fun vs H Q E h => ?_) (fun cdv A outer s H vs Q E hr h => ?_)
  · obtain ⟨X, a__law_p, a__law_q, a__law_r, r, hm, c, kont⟩ := h
    exact c.len
  · obtain ⟨X, a__law_p, a__law_q, a__law_r, r, hm, c, kont⟩ := h
    refine ⟨_, (pss_cons (ps_set (i := 3) sc__law_back.nd rfl (Or.inl rfl) (pe_op op_mulW (pe_op op_sub (pe_ix (r := rIxT K) ix_tup (pv 0) pe_int (fun _ _ => rfl)) (pe_ix (r := rIxT K) ix_tup (pv 1) pe_int (fun _ _ => rfl))) (pe_op op_sub (pe_ix (r := rIxT K) ix_tup (pv 2) pe_int (fun _ _ => rfl)) (pe_ix (r := rIxT K) ix_tup (pv 1) pe_int (fun _ _ => rfl)))))
      (pss_cons (ps_set (i := 4) sc__law_back.nd rfl (Or.inl rfl) (pe_op op_mulW (pe_op op_sub (pe_ix (r := rIxT K) ix_tup (pv 0) pe_int (fun _ _ => rfl)) (pe_ix (r := rIxT K) ix_tup (pv 1) pe_int (fun _ _ => rfl))) (pe_op op_sub (pe_ix (r := rIxT K) ix_tup (pv 2) pe_int (fun _ _ => rfl)) (pe_ix (r := rIxT K) ix_tup (pv 1) pe_int (fun _ _ => rfl)))))
      (pss_one (ps_ret (pe_and (pe_cmpR op_eq (pe_call (ok__law_cross T) hr (by rfl) T.g__law_cross T.F__law_cross.kp T.b__law_cross .nil pass0 (pa_cons (pv 0) (pa_cons (pv 1) (pa_cons (pv 2) pa_nil)))) pe_int (nomark _)) (pe_one (pe_cmpR op_gt (pe_op op_add (pv 3) (pv 4)) pe_int (nomark _)))))))), ?_⟩
    have L0 : Lo ⟨K, X, H, muts [.imm (enc (a__law_p : (T2 Int Int))), .imm (enc (a__law_q : (T2 Int Int))), .imm (enc (a__law_r : (T2 Int Int)))], n__law_back.length⟩ X H (L2.start n__law_back vs) [.imm (enc (a__law_p : (T2 Int Int))), .imm (enc (a__law_q : (T2 Int Int))), .imm (enc (a__law_r : (T2 Int Int))), .unk, .unk] := c.start n__law_back (show (3 : Nat) ≤ 5 by decide)
    unfold m__law_back at hm
    refine x_seq (x_asg (x_op (x_op (x_op (x_vd (d := (enc (a__law_p : (T2 Int Int)))) L0 rfl fun v1 r1 => x_c (x_ixTI (x := a__law_p.a) r1 rfl (x_op (x_vd (d := (enc (a__law_q : (T2 Int Int)))) L0 rfl fun v2 r2 => x_c (x_ixTI (x := a__law_q.a) r2 rfl (x_r0 (x_op (x_op (x_vd (d := (enc (a__law_r : (T2 Int Int)))) L0 rfl fun v3 r3 => x_c (x_ixTI (x := a__law_r.a) r3 rfl (x_op (x_vd (d := (enc (a__law_q : (T2 Int Int)))) L0 rfl fun v4 r4 => x_c (x_ixTI (x := a__law_q.a) r4 rfl (x_r0 (x_mul hm fun z1 _ hm1 => x_set (d := (.int z1)) (Γ' := [.imm (enc (a__law_p : (T2 Int Int))), .imm (enc (a__law_q : (T2 Int Int))), .imm (enc (a__law_r : (T2 Int Int))), .imm (.int z1), .unk]) L0 (.int _) (show (3 : Nat) < 5 by decide) rfl fun _ L1 => ?_)))))))))))))))))))
    refine x_seq (x_asg (x_op (x_op (x_op (x_vd (d := (enc (a__law_p : (T2 Int Int)))) L1 rfl fun v5 r5 => x_c (x_ixTI (x := a__law_p.b) r5 rfl (x_op (x_vd (d := (enc (a__law_q : (T2 Int Int)))) L1 rfl fun v6 r6 => x_c (x_ixTI (x := a__law_q.b) r6 rfl (x_r0 (x_op (x_op (x_vd (d := (enc (a__law_r : (T2 Int Int)))) L1 rfl fun v7 r7 => x_c (x_ixTI (x := a__law_r.b) r7 rfl (x_op (x_vd (d := (enc (a__law_q : (T2 Int Int)))) L1 rfl fun v8 r8 => x_c (x_ixTI (x := a__law_q.b) r8 rfl (x_r0 (x_mul hm1 fun z2 _ hm2 => x_set (d := (.int z2)) (Γ' := [.imm (enc (a__law_p : (T2 Int Int))), .imm (enc (a__law_q : (T2 Int Int))), .imm (enc (a__law_r : (T2 Int Int))), .imm (.int z1), .imm (.int z2)]) L1 (.int _) (show (4 : Nat) < 5 by decide) rfl fun _ L2 => ?_)))))))))))))))))))
    exact x_ret (x_andV (x_op (x_call (x_cons (x_vd (d := (enc (a__law_p : (T2 Int Int)))) L2 rfl fun v9 r9 => x_cons (x_vd (d := (enc (a__law_q : (T2 Int Int)))) L2 rfl fun v10 r10 => x_cons (x_vd (d := (enc (a__law_r : (T2 Int Int)))) L2 rfl fun v11 r11 => x_nil (obE hm2 fun z3 hz1 hm3 => mk__law_cross hz1 (L2.cond0 (.im r9 (.im r10 (.im r11 .nil))) rfl) fun _ F1 => k0 L2 F1 fun L3 le1 => x_c (x_eqi (x_kb (x_andVP (B := (decide (0 < (z1 + z2)))) (fun _ hq => x_op (x_op (x_vI (x := z1) L3 rfl (x_vI (x := z2) L3 rfl (x_r0 (x_c (x_r0 (hq)))))))) (x_finB (Q := Q) (ps := (fun (r : Bool) => [])) (sc := fun (r : Bool) => r) (((decide (z3 = 0)) && (decide (0 < (z1 + z2))))) hm3 kont (L3.fin hp0 (.bl _))))))))))))))
abbrev sp__law_touch (K : PySem.W.Frag) : Sp := fun vs H Q _ => ∃ (X : Addr → Prop)  (a__law_p : (T2 Int Int)) (a__law_q : (T2 Int Int)) (a__law_r : (T2 Int Int)) (a__law_s : (T2 Int Int)) (r : Bool), m__law_touch a__law_p a__law_q a__law_r a__law_s = some r ∧ Cond K X H [.imm (enc (a__law_p : (T2 Int Int))), .imm (enc (a__law_q : (T2 Int Int))), .imm (enc (a__law_r : (T2 Int Int))), .imm (enc (a__law_s : (T2 Int Int)))] vs ∧ ∀ H', Fin K X H [] [] (.imm (.bool r)) (.bl r) H' → Q (.bl r) H'
theorem mk__law_touch {K : PySem.W.Frag} {X : Addr → Prop} {H : Hp} {vs : List V} {Q : VK} {E : XK}  {a__law_p : (T2 Int Int)} {a__law_q : (T2 Int Int)} {a__law_r : (T2 Int Int)} {a__law_s : (T2 Int Int)} {r : Bool} (hm : m__law_touch a__law_p a__law_q a__law_r a__law_s = some r) (c : Cond K X H [.imm (enc (a__law_p : (T2 Int Int))), .imm (enc (a__law_q : (T2 Int Int))), .imm (enc (a__law_r : (T2 Int Int))), .imm (enc (a__law_s : (T2 Int Int)))] vs) (k : ∀ H', Fin K X H [] [] (.imm (.bool r)) (.bl r) H' → Q (.bl r) H') : sp__law_touch K vs H Q E := ⟨X, a__law_p, a__law_q, a__law_r, a__law_s, r, hm, c, k⟩
abbrev n__law_touch : List Str := ["_law_p", "_law_q", "_law_r", "_law_s", "_law_go", "_law_way", "_law_gap", "_law_whole", "_law_low", "_law_high", "_law_first", "_law_second"]
theorem sc__law_touch : FnScope n__law_touch ["_law_p", "_law_q", "_law_r", "_law_s"] (defScope s__law_touch) := ⟨rfl, rfl, rfl, by decide +kernel, rfl, by decide +kernel, by decide +kernel⟩
theorem ok__law_touch (T : Txt K mg) : FnOk P w K mg base CX0 2 T.A__law_touch T.D__law_touch ["_law_p", "_law_q", "_law_r", "_law_s"] (sp__law_touch K) := by
  refine Fun.ok T.F__law_touch sc__law_touch (fun vs H Q E h => ?_) (fun cdv A outer s H vs Q E hr h => ?_)
  · obtain ⟨X, a__law_p, a__law_q, a__law_r, a__law_s, r, hm, c, kont⟩ := h
    exact c.len
  · obtain ⟨X, a__law_p, a__law_q, a__law_r, a__law_s, r, hm, c, kont⟩ := h
    refine ⟨_, (pss_cons (ps_set (i := 4) sc__law_touch.nd rfl (Or.inl rfl) (pe_tup (pa_cons (pe_op op_sub (pe_ix (r := rIxT K) ix_tup (pv 1) pe_int (fun _ _ => rfl)) (pe_ix (r := rIxT K) ix_tup (pv 0) pe_int (fun _ _ => rfl))) (pa_cons (pe_op op_sub (pe_ix (r := rIxT K) ix_tup (pv 1) pe_int (fun _ _ => rfl)) (pe_ix (r := rIxT K) ix_tup (pv 0) pe_int (fun _ _ => rfl))) pa_nil))))
      (pss_cons (ps_set (i := 5) sc__law_touch.nd rfl (Or.inl rfl) (pe_tup (pa_cons (pe_op op_sub (pe_ix (r := rIxT K) ix_tup (pv 3) pe_int (fun _ _ => rfl)) (pe_ix (r := rIxT K) ix_tup (pv 2) pe_int (fun _ _ => rfl))) (pa_cons (pe_op op_sub (pe_ix (r := rIxT K) ix_tup (pv 3) pe_int (fun _ _ => rfl)) (pe_ix (r := rIxT K) ix_tup (pv 2) pe_int (fun _ _ => rfl))) pa_nil))))
      (pss_cons (ps_set (i := 6) sc__law_touch.nd rfl (Or.inl rfl) (pe_tup (pa_cons (pe_op op_sub (pe_ix (r := rIxT K) ix_tup (pv 2) pe_int (fun _ _ => rfl)) (pe_ix (r := rIxT K) ix_tup (pv 0) pe_int (fun _ _ => rfl))) (pa_cons (pe_op op_sub (pe_ix (r := rIxT K) ix_tup (pv 2) pe_int (fun _ _ => rfl)) (pe_ix (r := rIxT K) ix_tup (pv 0) pe_int (fun _ _ => rfl))) pa_nil))))
      (pss_cons (ps_set (i := 7) sc__law_touch.nd rfl (Or.inl rfl) (pe_op op_sub (pe_op op_mulW (pe_ix (r := rIxT K) ix_tup (pv 4) pe_int (fun _ _ => rfl)) (pe_ix (r := rIxT K) ix_tup (pv 5) pe_int (fun _ _ => rfl))) (pe_op op_mulW (pe_ix (r := rIxT K) ix_tup (pv 4) pe_int (fun _ _ => rfl)) (pe_ix (r := rIxT K) ix_tup (pv 5) pe_int (fun _ _ => rfl)))))
      (pss_cons (ps_if (pt_cmpR op_eq (pv 7) pe_int (nomark _)) (pss_cons (ps_set (i := 8) sc__law_touch.nd rfl (Or.inl rfl) (pe_callB (r := rMaxP K) (call_maxP hr.units rfl) (by rfl) T.z_max (by decide +kernel) (pa_cons (pe_callB (r := rMinP K) (call_minP hr.units rfl) (by rfl) T.z_min (by decide +kernel) (pa_cons (pv 0) (pa_cons (pv 1) pa_nil))) (pa_cons (pe_callB (r := rMinP K) (call_minP hr.units rfl) (by rfl) T.z_min (by decide +kernel) (pa_cons (pv 2) (pa_cons (pv 3) pa_nil))) pa_nil))))
      (pss_cons (ps_set (i := 9) sc__law_touch.nd rfl (Or.inl rfl) (pe_callB (r := rMinP K) (call_minP hr.units rfl) (by rfl) T.z_min (by decide +kernel) (pa_cons (pe_callB (r := rMaxP K) (call_maxP hr.units rfl) (by rfl) T.z_max (by decide +kernel) (pa_cons (pv 0) (pa_cons (pv 1) pa_nil))) (pa_cons (pe_callB (r := rMaxP K) (call_maxP hr.units rfl) (by rfl) T.z_max (by decide +kernel) (pa_cons (pv 2) (pa_cons (pv 3) pa_nil))) pa_nil))))
      (pss_one (ps_ret (pe_and (pe_cmpR op_eq (pe_call (ok__law_cross T) hr (by rfl) T.g__law_cross T.F__law_cross.kp T.b__law_cross .nil pass0 (pa_cons (pv 0) (pa_cons (pv 1) (pa_cons (pv 2) pa_nil)))) pe_int (nomark _)) (pe_one (pe_cmpR (r := rLeP K) (op_leP hr.units0) (pv 8) (pv 9) (nomark _)))))))) pss_nil)
      (pss_cons (ps_set (i := 10) sc__law_touch.nd rfl (Or.inl rfl) (pe_op op_sub (pe_op op_mulW (pe_ix (r := rIxT K) ix_tup (pv 6) pe_int (fun _ _ => rfl)) (pe_ix (r := rIxT K) ix_tup (pv 5) pe_int (fun _ _ => rfl))) (pe_op op_mulW (pe_ix (r := rIxT K) ix_tup (pv 6) pe_int (fun _ _ => rfl)) (pe_ix (r := rIxT K) ix_tup (pv 5) pe_int (fun _ _ => rfl)))))
      (pss_cons (ps_set (i := 11) sc__law_touch.nd rfl (Or.inl rfl) (pe_op op_sub (pe_op op_mulW (pe_ix (r := rIxT K) ix_tup (pv 6) pe_int (fun _ _ => rfl)) (pe_ix (r := rIxT K) ix_tup (pv 4) pe_int (fun _ _ => rfl))) (pe_op op_mulW (pe_ix (r := rIxT K) ix_tup (pv 6) pe_int (fun _ _ => rfl)) (pe_ix (r := rIxT K) ix_tup (pv 4) pe_int (fun _ _ => rfl)))))
      (pss_cons (ps_if (pt_cmpR op_lt (pv 7) pe_int (nomark _)) (pss_one (ps_par3 (i := 7) (j := 10) (l := 11) (by rfl) sc__law_touch.nd rfl rfl rfl (by decide) (by decide) (by decide) rfl rfl rfl (pa_cons (pe_un un_neg (pv 7)) (pa_cons (pe_un un_neg (pv 10)) (pa_cons (pe_un un_neg (pv 11)) pa_nil))) (by rfl))) pss_nil)
      (pss_one (ps_ret (pe_and (pe_chain op_le op_le pe_int (pv 10) (pv 7)) (pe_one (pe_chain op_le op_le pe_int (pv 11) (pv 7)))))))))))))), ?_⟩
    have L0 : Lo ⟨K, X, H, muts [.imm (enc (a__law_p : (T2 Int Int))), .imm (enc (a__law_q : (T2 Int Int))), .imm (enc (a__law_r : (T2 Int Int))), .imm (enc (a__law_s : (T2 Int Int)))], n__law_touch.length⟩ X H (L2.start n__law_touch vs) [.imm (enc (a__law_p : (T2 Int Int))), .imm (enc (a__law_q : (T2 Int Int))), .imm (enc (a__law_r : (T2 Int Int))), .imm (enc (a__law_s : (T2 Int Int))), .unk, .unk, .unk, .unk, .unk, .unk, .unk, .unk] := c.start n__law_touch (show (4 : Nat) ≤ 12 by decide)
    unfold m__law_touch at hm
    refine x_seq (x_asg (x_tup (x_cons (x_op (x_op (x_vd (d := (enc (a__law_q : (T2 Int Int)))) L0 rfl fun v1 r1 => x_c (x_ixTI (x := a__law_q.a) r1 rfl (x_op (x_vd (d := (enc (a__law_p : (T2 Int Int)))) L0 rfl fun v2 r2 => x_c (x_ixTI (x := a__law_p.a) r2 rfl (x_r0 (x_cons (x_op (x_op (x_vd (d := (enc (a__law_q : (T2 Int Int)))) L0 rfl fun v3 r3 => x_c (x_ixTI (x := a__law_q.b) r3 rfl (x_op (x_vd (d := (enc (a__law_p : (T2 Int Int)))) L0 rfl fun v4 r4 => x_c (x_ixTI (x := a__law_p.b) r4 rfl (x_r0 (x_nil (x_mkT L0 (.cons (.int _) (.cons (.int _) .nil)) (show (2 : Nat) ≤ 16777216 by decide) fun v5 _ L1 le1 r5 => have r6 : Rep _ _ _ (enc ((T2.mk ((a__law_q.a - a__law_p.a)) ((a__law_q.b - a__law_p.b))) : (T2 Int Int))) v5 := r5; x_bset (x0 := (T2.mk ((a__law_q.a - a__law_p.a)) ((a__law_q.b - a__law_p.b)))) (d := fun go_1 => (enc (go_1 : (T2 Int Int)))) (Γf := fun go_1 => [.imm (enc (a__law_p : (T2 Int Int))), .imm (enc (a__law_q : (T2 Int Int))), .imm (enc (a__law_r : (T2 Int Int))), .imm (enc (a__law_s : (T2 Int Int))), .imm (enc (go_1 : (T2 Int Int))), .unk, .unk, .unk, .unk, .unk, .unk, .unk]) hm L1 r6 (show (4 : Nat) < 12 by decide) (fun _ => rfl) fun go_1 _ hm1 L2 => ?_))))))))))))))))))))))
    refine x_seq (x_asg (x_tup (x_cons (x_op (x_op (x_vd (d := (enc (a__law_s : (T2 Int Int)))) L2 rfl fun v6 r7 => x_c (x_ixTI (x := a__law_s.a) r7 rfl (x_op (x_vd (d := (enc (a__law_r : (T2 Int Int)))) L2 rfl fun v7 r8 => x_c (x_ixTI (x := a__law_r.a) r8 rfl (x_r0 (x_cons (x_op (x_op (x_vd (d := (enc (a__law_s : (T2 Int Int)))) L2 rfl fun v8 r9 => x_c (x_ixTI (x := a__law_s.b) r9 rfl (x_op (x_vd (d := (enc (a__law_r : (T2 Int Int)))) L2 rfl fun v9 r10 => x_c (x_ixTI (x := a__law_r.b) r10 rfl (x_r0 (x_nil (x_mkT L2 (.cons (.int _) (.cons (.int _) .nil)) (show (2 : Nat) ≤ 16777216 by decide) fun v10 _ L3 le2 r11 => have r12 : Rep _ _ _ (enc ((T2.mk ((a__law_s.a - a__law_r.a)) ((a__law_s.b - a__law_r.b))) : (T2 Int Int))) v10 := r11; x_bset (x0 := (T2.mk ((a__law_s.a - a__law_r.a)) ((a__law_s.b - a__law_r.b)))) (d := fun way_1 => (enc (way_1 : (T2 Int Int)))) (Γf := fun way_1 => [.imm (enc (a__law_p : (T2 Int Int))), .imm (enc (a__law_q : (T2 Int Int))), .imm (enc (a__law_r : (T2 Int Int))), .imm (enc (a__law_s : (T2 Int Int))), .imm (enc (go_1 : (T2 Int Int))), .imm (enc (way_1 : (T2 Int Int))), .unk, .unk, .unk, .unk, .unk, .unk]) hm1 L3 r12 (show (5 : Nat) < 12 by decide) (fun _ => rfl) fun way_1 _ hm2 L4 => ?_))))))))))))))))))))))
    refine x_seq (x_asg (x_tup (x_cons (x_op (x_op (x_vd (d := (enc (a__law_r : (T2 Int Int)))) L4 rfl fun v11 r13 => x_c (x_ixTI (x := a__law_r.a) r13 rfl (x_op (x_vd (d := (enc (a__law_p : (T2 Int Int)))) L4 rfl fun v12 r14 => x_c (x_ixTI (x := a__law_p.a) r14 rfl (x_r0 (x_cons (x_op (x_op (x_vd (d := (enc (a__law_r : (T2 Int Int)))) L4 rfl fun v13 r15 => x_c (x_ixTI (x := a__law_r.b) r15 rfl (x_op (x_vd (d := (enc (a__law_p : (T2 Int Int)))) L4 rfl fun v14 r16 => x_c (x_ixTI (x := a__law_p.b) r16 rfl (x_r0 (x_nil (x_mkT L4 (.cons (.int _) (.cons (.int _) .nil)) (show (2 : Nat) ≤ 16777216 by decide) fun v15 _ L5 le3 r17 => have r18 : Rep _ _ _ (enc ((T2.mk ((a__law_r.a - a__law_p.a)) ((a__law_r.b - a__law_p.b))) : (T2 Int Int))) v15 := r17; x_bset (x0 := (T2.mk ((a__law_r.a - a__law_p.a)) ((a__law_r.b - a__law_p.b)))) (d := fun gap_1 => (enc (gap_1 : (T2 Int Int)))) (Γf := fun gap_1 => [.imm (enc (a__law_p : (T2 Int Int))), .imm (enc (a__law_q : (T2 Int Int))), .imm (enc (a__law_r : (T2 Int Int))), .imm (enc (a__law_s : (T2 Int Int))), .imm (enc (go_1 : (T2 Int Int))), .imm (enc (way_1 : (T2 Int Int))), .imm (enc (gap_1 : (T2 Int Int))), .unk, .unk, .unk, .unk, .unk]) hm2 L5 r18 (show (6 : Nat) < 12 by decide) (fun _ => rfl) fun gap_1 _ hm3 L6 => ?_))))))))))))))))))))))
    refine x_seq (x_asg (x_op (x_op (x_op (x_vd (d := (enc (go_1 : (T2 Int Int)))) L6 rfl fun v16 r19 => x_c (x_ixTI (x := go_1.a) r19 rfl (x_op (x_vd (d := (enc (way_1 : (T2 Int Int)))) L6 rfl fun v17 r20 => x_c (x_ixTI (x := way_1.b) r20 rfl (x_mul hm3 fun z1 _ hm4 => x_op (x_op (x_vd (d := (enc (go_1 : (T2 Int Int)))) L6 rfl fun v18 r21 => x_c (x_ixTI (x := go_1.b) r21 rfl (x_op (x_vd (d := (enc (way_1 : (T2 Int Int)))) L6 rfl fun v19 r22 => x_c (x_ixTI (x := way_1.a) r22 rfl (x_mul hm4 fun z2 _ hm5 => x_r0 (x_bset (x0 := (z1 - z2)) (d := fun whole_1 => (.int whole_1)) (Γf := fun whole_1 => [.imm (enc (a__law_p : (T2 Int Int))), .imm (enc (a__law_q : (T2 Int Int))), .imm (enc (a__law_r : (T2 Int Int))), .imm (enc (a__law_s : (T2 Int Int))), .imm (enc (go_1 : (T2 Int Int))), .imm (enc (way_1 : (T2 Int Int))), .imm (enc (gap_1 : (T2 Int Int))), .imm (.int whole_1), .unk, .unk, .unk, .unk]) hm5 L6 (.int _) (show (7 : Nat) < 12 by decide) (fun _ => rfl) fun whole_1 _ hm6 L7 => ?_))))))))))))))))))
    refine x_seq (x_ifS (x_test (x_op (x_vI (x := whole_1) L7 rfl (x_c (x_eqi (x_kb (x_if hm6 (fun hm7 => ?_) fun hm7 => ?_))))))))
    · refine x_seq (x_asg (x_cb (x_cons (x_cb (x_cons (x_vd (d := (enc (a__law_p : (T2 Int Int)))) L7 rfl fun v20 r23 => x_cons (x_vd (d := (enc (a__law_q : (T2 Int Int)))) L7 rfl fun v21 r24 => x_nil (x_minP (p := a__law_p) (q := a__law_q) r23 r24 fun v22 r25 => x_cons (x_cb (x_cons (x_vd (d := (enc (a__law_r : (T2 Int Int)))) L7 rfl fun v23 r26 => x_cons (x_vd (d := (enc (a__law_s : (T2 Int Int)))) L7 rfl fun v24 r27 => x_nil (x_minP (p := a__law_r) (q := a__law_s) r26 r27 fun v25 r28 => x_nil (x_maxP (p := (minP a__law_p a__law_q)) (q := (minP a__law_r a__law_s)) r25 r28 fun v26 r29 => x_bset (x0 := (maxP ((minP a__law_p a__law_q)) ((minP a__law_r a__law_s)))) (d := fun low_1 => (enc (low_1 : (T2 Int Int)))) (Γf := fun low_1 => [.imm (enc (a__law_p : (T2 Int Int))), .imm (enc (a__law_q : (T2 Int Int))), .imm (enc (a__law_r : (T2 Int Int))), .imm (enc (a__law_s : (T2 Int Int))), .imm (enc (go_1 : (T2 Int Int))), .imm (enc (way_1 : (T2 Int Int))), .imm (enc (gap_1 : (T2 Int Int))), .imm (.int whole_1), .imm (enc (low_1 : (T2 Int Int))), .unk, .unk, .unk]) hm7 L7 r29 (show (8 : Nat) < 12 by decide) (fun _ => rfl) fun low_1 _ hm8 L8 => ?_))))))))))))))
      refine x_seq (x_asg (x_cb (x_cons (x_cb (x_cons (x_vd (d := (enc (a__law_p : (T2 Int Int)))) L8 rfl fun v27 r30 => x_cons (x_vd (d := (enc (a__law_q : (T2 Int Int)))) L8 rfl fun v28 r31 => x_nil (x_maxP (p := a__law_p) (q := a__law_q) r30 r31 fun v29 r32 => x_cons (x_cb (x_cons (x_vd (d := (enc (a__law_r : (T2 Int Int)))) L8 rfl fun v30 r33 => x_cons (x_vd (d := (enc (a__law_s : (T2 Int Int)))) L8 rfl fun v31 r34 => x_nil (x_maxP (p := a__law_r) (q := a__law_s) r33 r34 fun v32 r35 => x_nil (x_minP (p := (maxP a__law_p a__law_q)) (q := (maxP a__law_r a__law_s)) r32 r35 fun v33 r36 => x_bset (x0 := (minP ((maxP a__law_p a__law_q)) ((maxP a__law_r a__law_s)))) (d := fun high_1 => (enc (high_1 : (T2 Int Int)))) (Γf := fun high_1 => [.imm (enc (a__law_p : (T2 Int Int))), .imm (enc (a__law_q : (T2 Int Int))), .imm (enc (a__law_r : (T2 Int Int))), .imm (enc (a__law_s : (T2 Int Int))), .imm (enc (go_1 : (T2 Int Int))), .imm (enc (way_1 : (T2 Int Int))), .imm (enc (gap_1 : (T2 Int Int))), .imm (.int whole_1), .imm (enc (low_1 : (T2 Int Int))), .imm (enc (high_1 : (T2 Int Int))), .unk, .unk]) hm8 L8 r36 (show (9 : Nat) < 12 by decide) (fun _ => rfl) fun high_1 _ hm9 L9 => ?_))))))))))))))
      exact x_ret (x_andV (x_op (x_call (x_cons (x_vd (d := (enc (a__law_p : (T2 Int Int)))) L9 rfl fun v34 r37 => x_cons (x_vd (d := (enc (a__law_q : (T2 Int Int)))) L9 rfl fun v35 r38 => x_cons (x_vd (d := (enc (a__law_r : (T2 Int Int)))) L9 rfl fun v36 r39 => x_nil (obE hm9 fun z3 hz1 hm10 => mk__law_cross hz1 (L9.cond0 (.im r37 (.im r38 (.im r39 .nil))) rfl) fun _ F1 => k0 L9 F1 fun L10 le4 => x_c (x_eqi (x_kb (x_andVP (B := (leP low_1 high_1)) (fun _ hq => x_op (x_vd (d := (enc (low_1 : (T2 Int Int)))) L10 rfl fun v38 r40 => x_vd (d := (enc (high_1 : (T2 Int Int)))) L10 rfl fun v39 r41 => x_leP (p := low_1) (q := high_1) r40 r41 (hq))) (x_finB (Q := Q) (ps := (fun (r : Bool) => [])) (sc := fun (r : Bool) => r) (((decide (z3 = 0)) && (leP low_1 high_1))) hm10 kont (L10.fin hp0 (.bl _))))))))))))))
    · refine x_next ?_
      refine x_seq (x_asg (x_op (x_op (x_op (x_vd (d := (enc (gap_1 : (T2 Int Int)))) L7 rfl fun v40 r42 => x_c (x_ixTI (x := gap_1.a) r42 rfl (x_op (x_vd (d := (enc (way_1 : (T2 Int Int)))) L7 rfl fun v41 r43 => x_c (x_ixTI (x := way_1.b) r43 rfl (x_mul hm7 fun z4 _ hm11 => x_op (x_op (x_vd (d := (enc (gap_1 : (T2 Int Int)))) L7 rfl fun v42 r44 => x_c (x_ixTI (x := gap_1.b) r44 rfl (x_op (x_vd (d := (enc (way_1 : (T2 Int Int)))) L7 rfl fun v43 r45 => x_c (x_ixTI (x := way_1.a) r45 rfl (x_mul hm11 fun z5 _ hm12 => x_r0 (x_bset (x0 := (z4 - z5)) (d := fun first_1 => (.int first_1)) (Γf := fun first_1 => [.imm (enc (a__law_p : (T2 Int Int))), .imm (enc (a__law_q : (T2 Int Int))), .imm (enc (a__law_r : (T2 Int Int))), .imm (enc (a__law_s : (T2 Int Int))), .imm (enc (go_1 : (T2 Int Int))), .imm (enc (way_1 : (T2 Int Int))), .imm (enc (gap_1 : (T2 Int Int))), .imm (.int whole_1), .unk, .unk, .imm (.int first_1), .unk]) hm12 L7 (.int _) (show (10 : Nat) < 12 by decide) (fun _ => rfl) fun first_1 _ hm13 L11 => ?_))))))))))))))))))
      refine x_seq (x_asg (x_op (x_op (x_op (x_vd (d := (enc (gap_1 : (T2 Int Int)))) L11 rfl fun v44 r46 => x_c (x_ixTI (x := gap_1.a) r46 rfl (x_op (x_vd (d := (enc (go_1 : (T2 Int Int)))) L11 rfl fun v45 r47 => x_c (x_ixTI (x := go_1.b) r47 rfl (x_mul hm13 fun z6 _ hm14 => x_op (x_op (x_vd (d := (enc (gap_1 : (T2 Int Int)))) L11 rfl fun v46 r48 => x_c (x_ixTI (x := gap_1.b) r48 rfl (x_op (x_vd (d := (enc (go_1 : (T2 Int Int)))) L11 rfl fun v47 r49 => x_c (x_ixTI (x := go_1.a) r49 rfl (x_mul hm14 fun z7 _ hm15 => x_r0 (x_bset (x0 := (z6 - z7)) (d := fun second_1 => (.int second_1)) (Γf := fun second_1 => [.imm (enc (a__law_p : (T2 Int Int))), .imm (enc (a__law_q : (T2 Int Int))), .imm (enc (a__law_r : (T2 Int Int))), .imm (enc (a__law_s : (T2 Int Int))), .imm (enc (go_1 : (T2 Int Int))), .imm (enc (way_1 : (T2 Int Int))), .imm (enc (gap_1 : (T2 Int Int))), .imm (.int whole_1), .unk, .unk, .imm (.int first_1), .imm (.int second_1)]) hm15 L11 (.int _) (show (11 : Nat) < 12 by decide) (fun _ => rfl) fun second_1 _ hm16 L12 => ?_))))))))))))))))))
      refine x_seq (x_ifS (x_test (x_op (x_vI (x := whole_1) L12 rfl (x_c (x_r0 (x_kb (x_join (G := (fun (s1 : (Int × Int × Int)) => [.imm (enc (a__law_p : (T2 Int Int))), .imm (enc (a__law_q : (T2 Int Int))), .imm (enc (a__law_r : (T2 Int Int))), .imm (enc (a__law_s : (T2 Int Int))), .imm (enc (go_1 : (T2 Int Int))), .imm (enc (way_1 : (T2 Int Int))), .imm (enc (gap_1 : (T2 Int Int))), .imm (.int s1.1), .unk, .unk, .imm (.int s1.2.1), .imm (.int s1.2.2)])) L12 hm16 (fun _ hm17 _ hN1 => ?_) (fun _ hm17 _ hN1 => ?_) fun s1 X1 _ _ hm18 L13 => ?_))))))))
      · refine x_par3 (x_cons (x_un (x_vI (x := whole_1) L12 rfl (x_u (x_cons (x_un (x_vI (x := first_1) L12 rfl (x_u (x_cons (x_un (x_vI (x := second_1) L12 rfl (x_u (x_nil (x_par3r (x := (.int ((-whole_1)))) (y := (.int ((-first_1)))) (z := (.int ((-second_1)))) (Γ' := [.imm (enc (a__law_p : (T2 Int Int))), .imm (enc (a__law_q : (T2 Int Int))), .imm (enc (a__law_r : (T2 Int Int))), .imm (enc (a__law_s : (T2 Int Int))), .imm (enc (go_1 : (T2 Int Int))), .imm (enc (way_1 : (T2 Int Int))), .imm (enc (gap_1 : (T2 Int Int))), .imm (.int ((-whole_1))), .unk, .unk, .imm (.int ((-first_1))), .imm (.int ((-second_1)))]) L12 (.int _) (.int _) (.int _) (show (7 : Nat) < 12 by decide) (show (10 : Nat) < 12 by decide) (show (11 : Nat) < 12 by decide) rfl fun _ L14 => ?_))))))))))))))
        exact x_leaf (G := (fun (s1 : (Int × Int × Int)) => [.imm (enc (a__law_p : (T2 Int Int))), .imm (enc (a__law_q : (T2 Int Int))), .imm (enc (a__law_r : (T2 Int Int))), .imm (enc (a__law_s : (T2 Int Int))), .imm (enc (go_1 : (T2 Int Int))), .imm (enc (way_1 : (T2 Int Int))), .imm (enc (gap_1 : (T2 Int Int))), .imm (.int s1.1), .unk, .unk, .imm (.int s1.2.1), .imm (.int s1.2.2)])) (e := ((-whole_1), (-first_1), (-second_1))) hm17 hN1 (L14.weak (Γ' := [.imm (enc (a__law_p : (T2 Int Int))), .imm (enc (a__law_q : (T2 Int Int))), .imm (enc (a__law_r : (T2 Int Int))), .imm (enc (a__law_s : (T2 Int Int))), .imm (enc (go_1 : (T2 Int Int))), .imm (enc (way_1 : (T2 Int Int))), .imm (enc (gap_1 : (T2 Int Int))), .imm (.int ((-whole_1))), .unk, .unk, .imm (.int ((-first_1))), .imm (.int ((-second_1)))]) (.k (.k (.k (.k (.k (.k (.k (.k (.k (.k (.k (.k .e)))))))))))))
      · refine x_next ?_
        exact x_leaf (G := (fun (s1 : (Int × Int × Int)) => [.imm (enc (a__law_p : (T2 Int Int))), .imm (enc (a__law_q : (T2 Int Int))), .imm (enc (a__law_r : (T2 Int Int))), .imm (enc (a__law_s : (T2 Int Int))), .imm (enc (go_1 : (T2 Int Int))), .imm (enc (way_1 : (T2 Int Int))), .imm (enc (gap_1 : (T2 Int Int))), .imm (.int s1.1), .unk, .unk, .imm (.int s1.2.1), .imm (.int s1.2.2)])) (e := (whole_1, first_1, second_1)) hm17 hN1 (L12.weak (Γ' := [.imm (enc (a__law_p : (T2 Int Int))), .imm (enc (a__law_q : (T2 Int Int))), .imm (enc (a__law_r : (T2 Int Int))), .imm (enc (a__law_s : (T2 Int Int))), .imm (enc (go_1 : (T2 Int Int))), .imm (enc (way_1 : (T2 Int Int))), .imm (enc (gap_1 : (T2 Int Int))), .imm (.int whole_1), .unk, .unk, .imm (.int first_1), .imm (.int second_1)]) (.k (.k (.k (.k (.k (.k (.k (.k (.k (.k (.k (.k .e)))))))))))))
      exact x_ret (x_andV (x_chain (x_c (x_vI (x := s1.2.1) L13 rfl (x_r0 (x_chP (B := (decide (s1.2.1 ≤ s1.1))) (fun _ hq => x_vI (x := s1.1) L13 rfl (x_r0 (hq))) (x_kb (x_andVP (B := ((decide (0 ≤ s1.2.2)) && (decide (s1.2.2 ≤ s1.1)))) (fun _ hq => x_chain (x_c (x_vI (x := s1.2.2) L13 rfl (x_r0 (x_chP (B := (decide (s1.2.2 ≤ s1.1))) (fun _ hq => x_vI (x := s1.1) L13 rfl (x_r0 (hq))) (hq)))))) (x_finB (Q := Q) (ps := (fun (r : Bool) => [])) (sc := fun (r : Bool) => r) ((((decide (0 ≤ s1.2.1)) && (decide (s1.2.1 ≤ s1.1))) && ((decide (0 ≤ s1.2.2)) && (decide (s1.2.2 ≤ s1.1))))) hm18 kont (L13.fin hp0 (.bl _)))))))))))
abbrev sp__law_simple (K : PySem.W.Frag) : Sp := fun vs H Q _ => ∃ (X : Addr → Prop)  (a__law_ring : (List (T2 Int Int))) (r : Bool), m__law_simple a__law_ring = some r ∧ Cond K X H [.imm (enc (a__law_ring : (List (T2 Int Int))))] vs ∧ ∀ H', Fin K X H [] [] (.imm (.bool r)) (.bl r) H' → Q (.bl r) H'
theorem mk__law_simple {K : PySem.W.Frag} {X : Addr → Prop} {H : Hp} {vs : List V} {Q : VK} {E : XK}  {a__law_ring : (List (T2 Int Int))} {r : Bool} (hm : m__law_simple a__law_ring = some r) (c : Cond K X H [.imm (enc (a__law_ring : (List (T2 Int Int))))] vs) (k : ∀ H', Fin K X H [] [] (.imm (.bool r)) (.bl r) H' → Q (.bl r) H') : sp__law_simple K vs H Q E := ⟨X, a__law_ring, r, hm, c, k⟩
abbrev n__law_simple : List Str := ["_law_ring", "_law_many", "_law_k", "_law_j", "_law_near", "_law_one", "_law_two"]
theorem sc__law_simple : FnScope n__law_simple ["_law_ring"] (defScope s__law_simple) := ⟨rfl, rfl, rfl, by decide +kernel, rfl, by decide +kernel, by decide +kernel⟩
theorem ok__law_simple (T : Txt K mg) : FnOk P w K mg base CX0 3 T.A__law_simple T.D__law_simple ["_law_ring"] (sp__law_simple K) := by
  refine Fun.ok T.F__law_simple sc__law_simple (fun vs H Q E h => ?_) (fun cdv A outer s H vs Q E hr h => ?_)
  · obtain ⟨X, a__law_ring, r, hm, c, kont⟩ := h
    exact c.len
  · obtain ⟨X, a__law_ring, r, hm, c, kont⟩ := h
    refine ⟨_, (pss_cons (ps_set (i := 1) sc__law_simple.nd rfl (Or.inl rfl) (pe_callB (r := rLenX K) call_lenX (by rfl) T.z_len (by decide +kernel) (pa_cons (pv 0) pa_nil)))
      (pss_cons (ps_if (PW.pt (pw_or (pt_cmpR op_lt (pv 1) pe_int (nomark _)) (pw_or1 (pt_cmpR op_lt (pe_lenSetT rfl hr.units (by rfl) T.z_len (by rfl) T.z_set (pv 0)) (pv 1) (nomark _))))) (pss_one (ps_ret pe_bl)) pss_nil)
      (pss_cons (ps_for PassesOwn.never rfl (pi_range1 (by rfl) T.z_range (pa_cons (pv 1) pa_nil)) (pg_name (i := 2) sc__law_simple.nd rfl (Or.inl rfl)) (pss_cons (ps_if (pt_val (pe_call (ok__law_back T) hr (by rfl) T.g__law_back T.F__law_back.kp T.b__law_back .nil pass0 (pa_cons (pe_ix (r := rIxL K) ix_list (pv 0) (pe_op op_sub (pv 2) pe_int) (fun _ _ => rfl)) (pa_cons (pe_ix (r := rIxL K) ix_list (pv 0) (pe_op op_sub (pv 2) pe_int) (fun _ _ => rfl)) (pa_cons (pe_ix (r := rIxL K) ix_list (pv 0) (pv 2) (fun _ _ => rfl)) pa_nil))))) (pss_one (ps_ret pe_bl)) pss_nil)
      (pss_one (ps_for PassesOwn.never rfl (pi_range1 (by rfl) T.z_range (pa_cons (pv 2) pa_nil)) (pg_name (i := 3) sc__law_simple.nd rfl (Or.inl rfl)) (pss_cons (ps_set (i := 4) sc__law_simple.nd rfl (Or.inl rfl) (pe_cmpR (r := rInD K) (op_inD (room65 hr)) (pe_op op_modN (pe_op op_sub (pv 2) (pv 3)) (pv 1)) (pe_lst (pa_cons pe_int (pa_cons (pe_op op_sub (pv 1) pe_int) pa_nil))) (by rfl)))
      (pss_cons (ps_set (i := 5) sc__law_simple.nd rfl (Or.inl rfl) (pe_tup (pa_cons (pe_ix (r := rIxL K) ix_list (pv 0) (pe_op op_sub (pv 2) pe_int) (fun _ _ => rfl)) (pa_cons (pe_ix (r := rIxL K) ix_list (pv 0) (pv 2) (fun _ _ => rfl)) pa_nil))))
      (pss_cons (ps_set (i := 6) sc__law_simple.nd rfl (Or.inl rfl) (pe_tup (pa_cons (pe_ix (r := rIxL K) ix_list (pv 0) (pe_op op_sub (pv 3) pe_int) (fun _ _ => rfl)) (pa_cons (pe_ix (r := rIxL K) ix_list (pv 0) (pv 3) (fun _ _ => rfl)) pa_nil))))
      (pss_one (ps_if (PW.pt (pw_and (pt_not (pt_val (pv 4))) (pw_and1 (pt_val (pe_call (ok__law_touch T) hr (by rfl) T.g__law_touch T.F__law_touch.kp T.b__law_touch .nil pass0 (pa_cons (pe_ix (r := rIxT K) ix_tup (pv 5) pe_int (fun _ _ => rfl)) (pa_cons (pe_ix (r := rIxT K) ix_tup (pv 5) pe_int (fun _ _ => rfl)) (pa_cons (pe_ix (r := rIxT K) ix_tup (pv 6) pe_int (fun _ _ => rfl)) (pa_cons (pe_ix (r := rIxT K) ix_tup (pv 6) pe_int (fun _ _ => rfl)) pa_nil))))))))) (pss_one (ps_ret pe_bl)) pss_nil)))))))))
      (pss_one (ps_ret pe_bl))))), ?_⟩
    have L0 : Lo ⟨K, X, H, muts [.imm (enc (a__law_ring : (List (T2 Int Int))))], n__law_simple.length⟩ X H (L2.start n__law_simple vs) [.imm (enc (a__law_ring : (List (T2 Int Int)))), .unk, .unk, .unk, .unk, .unk, .unk] := c.start n__law_simple (show (1 : Nat) ≤ 7 by decide)
    unfold m__law_simple at hm
    refine x_seq (x_asg (x_cb (x_cons (x_vd (d := (enc (a__law_ring : (List (T2 Int Int))))) L0 rfl fun v1 r1 => x_nil (x_lenL (xs := a__law_ring) r1 (x_bset (x0 := (a__law_ring.length : Int)) (d := fun many_1 => (.int many_1)) (Γf := fun many_1 => [.imm (enc (a__law_ring : (List (T2 Int Int)))), .imm (.int many_1), .unk, .unk, .unk, .unk, .unk]) hm L0 (.int _) (show (1 : Nat) < 7 by decide) (fun _ => rfl) fun many_1 _ hm1 L1 => ?_))))))
    refine x_seq (x_ifS (x_or (x_test (x_op (x_vI (x := many_1) L1 rfl (x_c (x_r0 (x_kb (x_orB L1 hm1 (fun _ hm3 _ hq => x_test (x_op (x_lenSet (x_vd (d := (enc (a__law_ring : (List (T2 Int Int))))) L1 rfl fun v3 r3 => x_kset (xs := a__law_ring) hm3 r3 fun hm4 => x_vI (x := many_1) L1 rfl (x_r0 (x_kb (x_lfT hm4 hq L1))))))) fun b1 _ hm5 L2 => x_if hm5 (fun hm6 => ?_) fun hm6 => ?_)))))))))
    · exact x_ret (x_c (x_finB (Q := Q) (ps := (fun (r : Bool) => [])) (sc := fun (r : Bool) => r) false hm6 kont (L2.fin hp0 (.bl _))))
    · refine x_next ?_
      refine x_seq (x_tforR1 (x_cons (x_vI (x := many_1) L2 rfl (x_nil (x_r1 hm6 fun hm7 => x_flR (G := (fun (s1 : Unit) => [.imm (enc (a__law_ring : (List (T2 Int Int)))), .imm (.int many_1), .unk, .unk, .unk, .unk, .unk])) (s0 := ()) (ps := (fun (r : Bool) => [])) (rs := (fun (r : Bool) => (.imm (.bool r)))) (L2.weak (Γ' := [.imm (enc (a__law_ring : (List (T2 Int Int)))), .imm (.int many_1), .unk, .unk, .unk, .unk, .unk]) (.k (.k (.k (.k (.k (.k (.k .e)))))))) (fun _ _ => rfl) hm7 (fun x1 s1 H1 _ u1 _ _ _ _ _ hm8 L3 r4 hN1 hC1 hB1 hR1 => ?_) (fun s2 _ _ hm9 L4 => ?_) (fun _ _ _ hm10 F1 => x_finRB (Q := Q) (ps := (fun (r : Bool) => [])) (sc := fun (r : Bool) => r) hm10 kont F1))))))
      · refine x_set (d := (.int x1)) (Γ' := [.imm (enc (a__law_ring : (List (T2 Int Int)))), .imm (.int many_1), .imm (.int x1), .unk, .unk, .unk, .unk]) L3 r4 (show (2 : Nat) < 7 by decide) rfl fun _ L5 => ?_
        refine x_seq (x_ifS (x_tB (x_call (x_cons (x_op (x_vd (d := (enc (a__law_ring : (List (T2 Int Int))))) L5 rfl fun v4 r5 => x_op (x_vI (x := x1) L5 rfl (x_c (x_r0 (x_ixL (xs := a__law_ring) hm8 r5 fun x2 v5 _ hm11 r6 => x_cons (x_op (x_vd (d := (enc (a__law_ring : (List (T2 Int Int))))) L5 rfl fun v6 r7 => x_op (x_vI (x := x1) L5 rfl (x_c (x_r0 (x_ixL (xs := a__law_ring) hm11 r7 fun x3 v7 _ hm12 r8 => x_cons (x_op (x_vd (d := (enc (a__law_ring : (List (T2 Int Int))))) L5 rfl fun v8 r9 => x_vI (x := x1) L5 rfl (x_ixL (xs := a__law_ring) hm12 r9 fun x4 v9 _ hm13 r10 => x_nil (obE hm13 fun z1 hz1 hm14 => mk__law_back hz1 (L5.cond0 (.im r6 (.im r8 (.im r10 .nil))) rfl) fun _ F2 => k0 L5 F2 fun L6 le1 => x_kb (x_if hm14 (fun hm15 => ?_) fun hm15 => ?_)))))))))))))))))))))
        · exact x_ret (x_c (x_leafR (ps := (fun (r : Bool) => [])) (rs := (fun (r : Bool) => (.imm (.bool r)))) (e := false) hm15 hR1 (L6.fin hp0 (.bl _))))
        · refine x_next ?_
          refine x_tforR1 (x_cons (x_vI (x := x1) L6 rfl (x_nil (x_r1 hm15 fun hm16 => x_flR (G := (fun (s3 : Unit) => [.imm (enc (a__law_ring : (List (T2 Int Int)))), .imm (.int many_1), .imm (.int x1), .unk, .unk, .unk, .unk])) (s0 := ()) (ps := (fun (r : Bool) => [])) (rs := (fun (r : Bool) => (.imm (.bool r)))) (L6.weak (Γ' := [.imm (enc (a__law_ring : (List (T2 Int Int)))), .imm (.int many_1), .imm (.int x1), .unk, .unk, .unk, .unk]) (.k (.k (.k (.k (.k (.k (.k .e)))))))) (fun _ _ => rfl) hm16 (fun x5 s3 H2 _ u2 _ _ _ _ _ hm17 L7 r11 hN2 hC2 hB2 hR2 => ?_) (fun s4 _ _ hm18 L8 => ?_) (fun _ _ _ hm19 F3 => x_leafR (ps := (fun (r : Bool) => [])) (rs := (fun (r : Bool) => (.imm (.bool r)))) hm19 hR1 F3)))))
          · refine x_set (d := (.int x5)) (Γ' := [.imm (enc (a__law_ring : (List (T2 Int Int)))), .imm (.int many_1), .imm (.int x1), .imm (.int x5), .unk, .unk, .unk]) L7 r11 (show (3 : Nat) < 7 by decide) rfl fun _ L9 => ?_
            refine x_seq (x_asg (x_op (x_op (x_op (x_vI (x := x1) L9 rfl (x_vI (x := x5) L9 rfl (x_r0 (x_vI (x := many_1) L9 rfl (x_mod hm17 fun z2 _ hm20 => x_lst (x_cons (x_c (x_cons (x_op (x_vI (x := many_1) L9 rfl (x_c (x_r0 (x_nil (x_mkL L9 (.cons (.int _) (.cons (.int _) .nil)) (show (2 : Nat) ≤ 16777216 by decide) fun v11 _ L10 le2 r12 => have r13 : Rep _ _ _ (enc ([1, (many_1 - 1)] : (List Int))) v11 := r12; x_ind (x := z2) (ys := [1, (many_1 - 1)]) (Rep.dp (K := K) (X := fun _ => False) (d := (.int z2)) (.int _)) r13.dp (by decide) (x_bset (x0 := (memB z2 ([1, (many_1 - 1)]))) (d := fun near_1 => (.bool near_1)) (Γf := fun near_1 => [.imm (enc (a__law_ring : (List (T2 Int Int)))), .imm (.int many_1), .imm (.int x1), .imm (.int x5), .imm (.bool near_1), .unk, .unk]) hm20 L10 (.bl _) (show (4 : Nat) < 7 by decide) (fun _ => rfl) fun near_1 _ hm21 L11 => ?_)))))))))))))))))))
            refine x_seq (x_asg (x_tup (x_cons (x_op (x_vd (d := (enc (a__law_ring : (List (T2 Int Int))))) L11 rfl fun v12 r14 => x_op (x_vI (x := x1) L11 rfl (x_c (x_r0 (x_ixL (xs := a__law_ring) hm21 r14 fun x6 v13 _ hm22 r15 => x_cons (x_op (x_vd (d := (enc (a__law_ring : (List (T2 Int Int))))) L11 rfl fun v14 r16 => x_vI (x := x1) L11 rfl (x_ixL (xs := a__law_ring) hm22 r16 fun x7 v15 _ hm23 r17 => x_nil (x_mkT L11 (.cons r15 (.cons r17 .nil)) (show (2 : Nat) ≤ 16777216 by decide) fun v16 _ L12 le3 r18 => have r19 : Rep _ _ _ (enc ((T2.mk x6 x7) : (T2 (T2 Int Int) (T2 Int Int)))) v16 := r18; x_bset (x0 := (T2.mk x6 x7)) (d := fun one_1 => (enc (one_1 : (T2 (T2 Int Int) (T2 Int Int))))) (Γf := fun one_1 => [.imm (enc (a__law_ring : (List (T2 Int Int)))), .imm (.int many_1), .imm (.int x1), .imm (.int x5), .imm (.bool near_1), .imm (enc (one_1 : (T2 (T2 Int Int) (T2 Int Int)))), .unk]) hm23 L12 r19 (show (5 : Nat) < 7 by decide) (fun _ => rfl) fun one_1 _ hm24 L13 => ?_)))))))))))))
            refine x_seq (x_asg (x_tup (x_cons (x_op (x_vd (d := (enc (a__law_ring : (List (T2 Int Int))))) L13 rfl fun v17 r20 => x_op (x_vI (x := x5) L13 rfl (x_c (x_r0 (x_ixL (xs := a__law_ring) hm24 r20 fun x8 v18 _ hm25 r21 => x_cons (x_op (x_vd (d := (enc (a__law_ring : (List (T2 Int Int))))) L13 rfl fun v19 r22 => x_vI (x := x5) L13 rfl (x_ixL (xs := a__law_ring) hm25 r22 fun x9 v20 _ hm26 r23 => x_nil (x_mkT L13 (.cons r21 (.cons r23 .nil)) (show (2 : Nat) ≤ 16777216 by decide) fun v21 _ L14 le4 r24 => have r25 : Rep _ _ _ (enc ((T2.mk x8 x9) : (T2 (T2 Int Int) (T2 Int Int)))) v21 := r24; x_bset (x0 := (T2.mk x8 x9)) (d := fun two_1 => (enc (two_1 : (T2 (T2 Int Int) (T2 Int Int))))) (Γf := fun two_1 => [.imm (enc (a__law_ring : (List (T2 Int Int)))), .imm (.int many_1), .imm (.int x1), .imm (.int x5), .imm (.bool near_1), .imm (enc (one_1 : (T2 (T2 Int Int) (T2 Int Int)))), .imm (enc (two_1 : (T2 (T2 Int Int) (T2 Int Int))))]) hm26 L14 r25 (show (6 : Nat) < 7 by decide) (fun _ => rfl) fun two_1 _ hm27 L15 => ?_)))))))))))))
            refine x_ifS (x_and (x_not (x_tB (x_vB (x := near_1) L15 rfl (x_kb (x_kn (x_andB L15 hm27 (fun _ hm29 _ hq => x_tB (x_call (x_cons (x_op (x_vd (d := (enc (one_1 : (T2 (T2 Int Int) (T2 Int Int))))) L15 rfl fun v31 r34 => x_c (x_ixT (d := (enc (one_1.a : (T2 Int Int)))) r34 rfl fun v32 r35 => x_cons (x_op (x_vd (d := (enc (one_1 : (T2 (T2 Int Int) (T2 Int Int))))) L15 rfl fun v33 r36 => x_c (x_ixT (d := (enc (one_1.b : (T2 Int Int)))) r36 rfl fun v34 r37 => x_cons (x_op (x_vd (d := (enc (two_1 : (T2 (T2 Int Int) (T2 Int Int))))) L15 rfl fun v35 r38 => x_c (x_ixT (d := (enc (two_1.a : (T2 Int Int)))) r38 rfl fun v36 r39 => x_cons (x_op (x_vd (d := (enc (two_1 : (T2 (T2 Int Int) (T2 Int Int))))) L15 rfl fun v37 r40 => x_c (x_ixT (d := (enc (two_1.b : (T2 Int Int)))) r40 rfl fun v38 r41 => x_nil (obE hm29 fun z4 hz3 hm30 => mk__law_touch hz3 (L15.cond0 (.im r35 (.im r37 (.im r39 (.im r41 .nil)))) rfl) fun _ F5 => k0 L15 F5 fun L17 le6 => x_kb (x_lfT hm30 hq L17))))))))))))))))) fun b2 _ hm31 L18 => x_if hm31 (fun hm32 => ?_) fun hm32 => ?_)))))))
            · exact x_ret (x_c (x_leafR (ps := (fun (r : Bool) => [])) (rs := (fun (r : Bool) => (.imm (.bool r)))) (e := false) hm32 hR2 (L18.fin hp0 (.bl _))))
            · refine x_next ?_
              exact x_leafN (G := (fun (s3 : Unit) => [.imm (enc (a__law_ring : (List (T2 Int Int)))), .imm (.int many_1), .imm (.int x1), .unk, .unk, .unk, .unk])) (e := ()) hm32 hN2 (L18.weak (Γ' := [.imm (enc (a__law_ring : (List (T2 Int Int)))), .imm (.int many_1), .imm (.int x1), .unk, .unk, .unk, .unk]) (.k (.k (.k (.d (.d (.d (.d .e))))))))
          exact x_leafN (G := (fun (s1 : Unit) => [.imm (enc (a__law_ring : (List (T2 Int Int)))), .imm (.int many_1), .unk, .unk, .unk, .unk, .unk])) (e := ()) hm18 hN1 (L8.weak (Γ' := [.imm (enc (a__law_ring : (List (T2 Int Int)))), .imm (.int many_1), .unk, .unk, .unk, .unk, .unk]) (.k (.k (.d (.k (.k (.k (.k .e))))))))
      exact x_ret (x_c (x_finB (Q := Q) (ps := (fun (r : Bool) => [])) (sc := fun (r : Bool) => r) true hm9 kont (L4.fin hp0 (.bl _))))
abbrev sp__law_twice (K : PySem.W.Frag) : Sp := fun vs H Q _ => ∃ (X : Addr → Prop)  (a__law_ring : (List (T2 Int Int))) (r : Int), m__law_twice a__law_ring = some r ∧ Cond K X H [.imm (enc (a__law_ring : (List (T2 Int Int))))] vs ∧ ∀ H', Fin K X H [] [] (.imm (.int r)) (.int r) H' → Q (.int r) H'
theorem mk__law_twice {K : PySem.W.Frag} {X : Addr → Prop} {H : Hp} {vs : List V} {Q : VK} {E : XK}  {a__law_ring : (List (T2 Int Int))} {r : Int} (hm : m__law_twice a__law_ring = some r) (c : Cond K X H [.imm (enc (a__law_ring : (List (T2 Int Int))))] vs) (k : ∀ H', Fin K X H [] [] (.imm (.int r)) (.int r) H' → Q (.int r) H') : sp__law_twice K vs H Q E := ⟨X, a__law_ring, r, hm, c, k⟩
abbrev n__law_twice : List Str := ["_law_ring", "_law_found", "_law_k", "_law_p", "_law_q"]
theorem sc__law_twice : FnScope n__law_twice ["_law_ring"] (defScope s__law_twice) := ⟨rfl, rfl, rfl, by decide +kernel, rfl, by decide +kernel, by decide +kernel⟩
theorem ok__law_twice (T : Txt K mg) : FnOk P w K mg base CX0 1 T.A__law_twice T.D__law_twice ["_law_ring"] (sp__law_twice K) := by
  refine Fun.ok T.F__law_twice sc__law_twice (fun vs H Q E h => ?_) (fun cdv A outer s H vs Q E hr h => ?_)
  · obtain ⟨X, a__law_ring, r, hm, c, kont⟩ := h
    exact c.len
  · obtain ⟨X, a__law_ring, r, hm, c, kont⟩ := h
    refine ⟨_, (pss_cons (ps_set (i := 1) sc__law_twice.nd rfl (Or.inl rfl) pe_int)
      (pss_cons (ps_for PassesOwn.never rfl (pi_range1 (by rfl) T.z_range (pa_cons (pe_callB (r := rLenX K) call_lenX (by rfl) T.z_len (by decide +kernel) (pa_cons (pv 0) pa_nil)) pa_nil)) (pg_name (i := 2) sc__law_twice.nd rfl (Or.inl rfl)) (pss_cons (ps_set (i := 3) sc__law_twice.nd rfl (Or.inl rfl) (pe_ix (r := rIxL K) ix_list (pv 0) (pe_op op_sub (pv 2) pe_int) (fun _ _ => rfl)))
      (pss_cons (ps_set (i := 4) sc__law_twice.nd rfl (Or.inl rfl) (pe_ix (r := rIxL K) ix_list (pv 0) (pv 2) (fun _ _ => rfl)))
      (pss_one (ps_set (i := 1) sc__law_twice.nd rfl (Or.inl rfl) (pe_op op_sub (pe_op op_add (pv 1) (pe_op op_mulW (pe_ix (r := rIxT K) ix_tup (pv 3) pe_int (fun _ _ => rfl)) (pe_ix (r := rIxT K) ix_tup (pv 4) pe_int (fun _ _ => rfl)))) (pe_op op_mulW (pe_ix (r := rIxT K) ix_tup (pv 4) pe_int (fun _ _ => rfl)) (pe_ix (r := rIxT K) ix_tup (pv 3) pe_int (fun _ _ => rfl)))))))))
      (pss_one (ps_ret (pv 1))))), ?_⟩
    have L0 : Lo ⟨K, X, H, muts [.imm (enc (a__law_ring : (List (T2 Int Int))))], n__law_twice.length⟩ X H (L2.start n__law_twice vs) [.imm (enc (a__law_ring : (List (T2 Int Int)))), .unk, .unk, .unk, .unk] := c.start n__law_twice (show (1 : Nat) ≤ 5 by decide)
    unfold m__law_twice at hm
    refine x_seq (x_asg (x_c (x_set (d := (.int 0)) (Γ' := [.imm (enc (a__law_ring : (List (T2 Int Int)))), .imm (.int 0), .unk, .unk, .unk]) L0 (.int _) (show (1 : Nat) < 5 by decide) rfl fun _ L1 => ?_)))
    refine x_seq (x_tforR1 (x_cons (x_cb (x_cons (x_vd (d := (enc (a__law_ring : (List (T2 Int Int))))) L1 rfl fun v1 r1 => x_nil (x_lenL (xs := a__law_ring) r1 (x_nil (x_r1 hm fun hm1 => x_foR (G := (fun (s1 : Int) => [.imm (enc (a__law_ring : (List (T2 Int Int)))), .imm (.int s1), .unk, .unk, .unk])) (s0 := 0) (L1.weak (Γ' := [.imm (enc (a__law_ring : (List (T2 Int Int)))), .imm (.int 0), .unk, .unk, .unk]) (.k (.k (.k (.k (.k .e)))))) (fun _ _ => rfl) hm1 (fun x1 s1 H1 _ u1 _ _ _ _ _ hm2 L2 r2 hN1 hC1 => ?_) (fun s2 _ _ hm3 L3 => ?_)))))))))
    · refine x_set (d := (.int x1)) (Γ' := [.imm (enc (a__law_ring : (List (T2 Int Int)))), .imm (.int s1), .imm (.int x1), .unk, .unk]) L2 r2 (show (2 : Nat) < 5 by decide) rfl fun _ L4 => ?_
      refine x_seq (x_asg (x_op (x_vd (d := (enc (a__law_ring : (List (T2 Int Int))))) L4 rfl fun v2 r3 => x_op (x_vI (x := x1) L4 rfl (x_c (x_r0 (x_ixL (xs := a__law_ring) hm2 r3 fun x2 v3 _ hm5 r4 => x_set (d := (enc (x2 : (T2 Int Int)))) (Γ' := [.imm (enc (a__law_ring : (List (T2 Int Int)))), .imm (.int s1), .imm (.int x1), .imm (enc (x2 : (T2 Int Int))), .unk]) L4 r4 (show (3 : Nat) < 5 by decide) rfl fun _ L5 => ?_)))))))
      refine x_seq (x_asg (x_op (x_vd (d := (enc (a__law_ring : (List (T2 Int Int))))) L5 rfl fun v4 r5 => x_vI (x := x1) L5 rfl (x_ixL (xs := a__law_ring) hm5 r5 fun x3 v5 _ hm6 r6 => x_set (d := (enc (x3 : (T2 Int Int)))) (Γ' := [.imm (enc (a__law_ring : (List (T2 Int Int)))), .imm (.int s1), .imm (.int x1), .imm (enc (x2 : (T2 Int Int))), .imm (enc (x3 : (T2 Int Int)))]) L5 r6 (show (4 : Nat) < 5 by decide) rfl fun _ L6 => ?_))))
      refine x_asg (x_op (x_op (x_vI (x := s1) L6 rfl (x_op (x_op (x_vd (d := (enc (x2 : (T2 Int Int)))) L6 rfl fun v6 r7 => x_c (x_ixTI (x := x2.a) r7 rfl (x_op (x_vd (d := (enc (x3 : (T2 Int Int)))) L6 rfl fun v7 r8 => x_c (x_ixTI (x := x3.b) r8 rfl (x_mul hm6 fun z1 _ hm7 => x_r0 (x_op (x_op (x_vd (d := (enc (x3 : (T2 Int Int)))) L6 rfl fun v8 r9 => x_c (x_ixTI (x := x3.a) r9 rfl (x_op (x_vd (d := (enc (x2 : (T2 Int Int)))) L6 rfl fun v9 r10 => x_c (x_ixTI (x := x2.b) r10 rfl (x_mul hm7 fun z2 _ hm8 => x_r0 (x_bset (x0 := ((s1 + z1) - z2)) (d := fun found_1 => (.int found_1)) (Γf := fun found_1 => [.imm (enc (a__law_ring : (List (T2 Int Int)))), .imm (.int found_1), .imm (.int x1), .imm (enc (x2 : (T2 Int Int))), .imm (enc (x3 : (T2 Int Int)))]) hm8 L6 (.int _) (show (1 : Nat) < 5 by decide) (fun _ => rfl) fun found_1 _ hm9 L7 => ?_))))))))))))))))))))
      exact x_leaf (G := (fun (s1 : Int) => [.imm (enc (a__law_ring : (List (T2 Int Int)))), .imm (.int s1), .unk, .unk, .unk])) (e := found_1) hm9 hN1 (L7.weak (Γ' := [.imm (enc (a__law_ring : (List (T2 Int Int)))), .imm (.int found_1), .unk, .unk, .unk]) (.k (.k (.d (.d (.d .e))))))
    exact x_ret (x_vI (x := s2) L3 rfl (x_finI (Q := Q) (ps := (fun (r : Int) => [])) (sc := fun (r : Int) => r) s2 hm3 kont (L3.fin hp0 (.int _))))
abbrev sp__law_shape (K : PySem.W.Frag) : Sp := fun vs H Q _ => ∃ (X : Addr → Prop) (p__law_bag_here : Addr) (a__law_bag_here : (List Int)) (a__law_most : Int) (r : ((List (T2 Int Int)) × (List Int))), m__law_shape a__law_bag_here a__law_most = some r ∧ Cond K X H [.mu p__law_bag_here (ml (a__law_bag_here : (List Int))), .imm (.int a__law_most)] vs ∧ ∀ p H', Fin K X H [p__law_bag_here] [(p__law_bag_here, ml (r.2 : (List Int)))] (.new (ml (r.1 : (List (T2 Int Int))))) (.ref p) H' → Q (.ref p) H'
theorem mk__law_shape {K : PySem.W.Frag} {X : Addr → Prop} {H : Hp} {vs : List V} {Q : VK} {E : XK} {p__law_bag_here : Addr} {a__law_bag_here : (List Int)} {a__law_most : Int} {r : ((List (T2 Int Int)) × (List Int))} (hm : m__law_shape a__law_bag_here a__law_most = some r) (c : Cond K X H [.mu p__law_bag_here (ml (a__law_bag_here : (List Int))), .imm (.int a__law_most)] vs) (k : ∀ p H', Fin K X H [p__law_bag_here] [(p__law_bag_here, ml (r.2 : (List Int)))] (.new (ml (r.1 : (List (T2 Int Int))))) (.ref p) H' → Q (.ref p) H') : sp__law_shape K vs H Q E := ⟨X, p__law_bag_here, a__law_bag_here, a__law_most, r, hm, c, k⟩
abbrev n__law_shape : List Str := ["_law_bag_here", "_law_most", "_law_way", "_law_made", "_law_k"]
theorem sc__law_shape : FnScope n__law_shape ["_law_bag_here", "_law_most"] (defScope s__law_shape) := ⟨rfl, rfl, rfl, by decide +kernel, rfl, by decide +kernel, by decide +kernel⟩
theorem ok__law_shape (T : Txt K mg) : FnOk P w K mg base CX0 4 T.A__law_shape T.D__law_shape ["_law_bag_here", "_law_most"] (sp__law_shape K) := by
  refine Fun.ok T.F__law_shape sc__law_shape (fun vs H Q E h => ?_) (fun cdv A outer s H vs Q E hr h => ?_)
  · obtain ⟨X, p__law_bag_here, a__law_bag_here, a__law_most, r, hm, c, kont⟩ := h
    exact c.len
  · obtain ⟨X, p__law_bag_here, a__law_bag_here, a__law_most, r, hm, c, kont⟩ := h
    refine ⟨_, (pss_cons (ps_set (i := 2) sc__law_shape.nd rfl (Or.inl rfl) (pe_call (ok__law_draw T) (hr.mono (by decide)) (by rfl) T.g__law_draw T.F__law_draw.kp T.b__law_draw .nil pass0 (pa_cons (pv 0) (pa_cons pe_int pa_nil))))
      (pss_cons (ps_if (pt_cmpR op_eq (pv 2) pe_int (nomark _)) (pss_one (ps_ret (pe_call (ok__law_strip T) hr (by rfl) T.g__law_strip T.F__law_strip.kp T.b__law_strip .nil pass0 (pa_cons (pv 0) (pa_cons pe_int (pa_cons (pe_op op_fdiv (pv 1) pe_int) pa_nil)))))) pss_nil)
      (pss_cons (ps_setLc (i := 3) (own := [("_law_k", 4)])  (g := gName 4) (tt := tYes) rfl sc__law_shape.nd rfl rfl (sw_true rfl rfl rfl (by decide +kernel)) (pi_range1 (by rfl) T.z_range (pa_cons (pe_op op_add pe_int (pv 2)) pa_nil)) (blkOk_by (N := n__law_shape) (sc := defScope s__law_shape) (by decide +kernel)) (fun _ _ _ _ _ => (pg_name (i := 4) sc__law_shape.nd rfl (Or.inl rfl))) (fun _ _ _ _ _ => pts_nil) (fun _ _ _ _ _ => (pe_tup (pa_cons (pe_call (ok__law_draw T) (hr.mono (by decide)) (by rfl) T.g__law_draw T.F__law_draw.kp T.b__law_draw .nil pass0 (pa_cons (pv 0) (pa_cons pe_int pa_nil))) (pa_cons (pe_call (ok__law_draw T) (hr.mono (by decide)) (by rfl) T.g__law_draw T.F__law_draw.kp T.b__law_draw .nil pass0 (pa_cons (pv 0) (pa_cons pe_int pa_nil))) pa_nil)))))
      (pss_cons (ps_if (PW.pt (pw_or (pt_not (pt_val (pe_call (ok__law_simple T) hr (by rfl) T.g__law_simple T.F__law_simple.kp T.b__law_simple .nil pass0 (pa_cons (pv 3) pa_nil)))) (pw_or1 (pt_cmpR op_eq (pe_call (ok__law_twice T) (hr.mono (by decide)) (by rfl) T.g__law_twice T.F__law_twice.kp T.b__law_twice .nil pass0 (pa_cons (pv 3) pa_nil)) pe_int (nomark _))))) (pss_one (ps_set (i := 3) sc__law_shape.nd rfl (Or.inl rfl) (pe_lst (pa_cons (pe_tup (pa_cons pe_int (pa_cons pe_int pa_nil))) (pa_cons (pe_tup (pa_cons pe_int (pa_cons (pe_call (ok__law_draw T) (hr.mono (by decide)) (by rfl) T.g__law_draw T.F__law_draw.kp T.b__law_draw .nil pass0 (pa_cons (pv 0) (pa_cons pe_int pa_nil))) pa_nil))) (pa_cons (pe_tup (pa_cons (pe_call (ok__law_draw T) (hr.mono (by decide)) (by rfl) T.g__law_draw T.F__law_draw.kp T.b__law_draw .nil pass0 (pa_cons (pv 0) (pa_cons pe_int pa_nil))) (pa_cons (pe_op op_add pe_int (pe_call (ok__law_draw T) (hr.mono (by decide)) (by rfl) T.g__law_draw T.F__law_draw.kp T.b__law_draw .nil pass0 (pa_cons (pv 0) (pa_cons pe_int pa_nil)))) pa_nil))) pa_nil)))))) pss_nil)
      (pss_cons (ps_if (pt_cmpR op_lt (pe_call (ok__law_twice T) (hr.mono (by decide)) (by rfl) T.g__law_twice T.F__law_twice.kp T.b__law_twice .nil pass0 (pa_cons (pv 3) pa_nil)) pe_int (nomark _)) (pss_one (ps_expr (pe_bm0 PySem.F.plainAttrs_list PySem.F.slot_list_reverse PySem.F.type_list_reverse mt_reverse (pv 3)))) pss_nil)
      (pss_one (ps_ret (pv 3)))))))), ?_⟩
    have L0 : Lo ⟨K, X, H, muts [.mu p__law_bag_here (ml (a__law_bag_here : (List Int))), .imm (.int a__law_most)], n__law_shape.length⟩ X H (L2.start n__law_shape vs) [.mu p__law_bag_here (ml (a__law_bag_here : (List Int))), .imm (.int a__law_most), .unk, .unk, .unk] := c.start n__law_shape (show (2 : Nat) ≤ 5 by decide)
    unfold m__law_shape at hm
    refine x_seq (x_asg (x_call (x_cons (x_vm L0 rfl (x_cons (x_c (x_nil (obE hm fun z1 hz1 hm1 => mk__law_draw hz1 (L0.cond1 (i := 0) (.m (L0.mrep (i := 0) rfl) (.im (.int _) .nil)) rfl rfl rfl) fun _ F1 => k1 L0 F1 (i := 0) (Γ' := [.mu p__law_bag_here (ml (z1.2 : (List Int))), .imm (.int a__law_most), .unk, .unk, .unk]) rfl rfl rfl fun L1 le1 => x_set (d := (.int z1.1)) (Γ' := [.mu p__law_bag_here (ml (z1.2 : (List Int))), .imm (.int a__law_most), .imm (.int z1.1), .unk, .unk]) L1 (.int _) (show (2 : Nat) < 5 by decide) rfl fun _ L2 => ?_))))))))
    refine x_seq (x_ifS (x_test (x_op (x_vI (x := z1.1) L2 rfl (x_c (x_eqi (x_kb (x_if hm1 (fun hm2 => ?_) fun hm2 => ?_))))))))
    · exact x_ret (x_call (x_cons (x_vm L2 rfl (x_cons (x_c (x_cons (x_op (x_vI (x := a__law_most) L2 rfl (x_c (x_divc ⟨by decide, by decide⟩ (x_nil (obE hm2 fun z2 hz2 hm3 => mk__law_strip hz2 (L2.cond1 (i := 0) (.m (L2.mrep (i := 0) rfl) (.im (.int _) (.im (.int _) .nil))) rfl rfl rfl) fun p1 _ F2 => k1N L2 F2 (i := 0) (Γ' := [.mu p__law_bag_here (ml (z2.2 : (List Int))), .imm (.int a__law_most), .imm (.int z1.1), .unk, .unk]) rfl rfl rfl fun _ h01 hx1 L3 le2 => x_finP (Q := Q) (ps := (fun (r : ((List (T2 Int Int)) × (List Int))) => [(p__law_bag_here, ml (r.2 : (List Int)))])) (o := fun (r : ((List (T2 Int Int)) × (List Int))) => ml (r.1 : (List (T2 Int Int)))) (e := (z2.1, z2.2)) hm3 kont (L3.finT (p := p1) (i := 5) (o := ml (z2.1 : (List (T2 Int Int)))) (hp1 (L3.mrep (i := 0) rfl)) rfl h01)))))))))))))
    · refine x_next ?_
      refine x_seq (x_asg (x_lcr1 (x_cons (x_op (x_c (x_vI (x := z1.1) L2 rfl (x_r0 (x_nil (x_r1 hm2 fun hm4 => obE hm4 fun _ hl1 hm5 => obE hm5 fun q1 hy1 hm6 => x_lcRN (G := (fun (s1 : (List Int)) => [.mu p__law_bag_here (ml (s1 : (List Int))), .imm (.int a__law_most), .imm (.int z1.1), .unk, .unk])) (s0 := z1.2) L2 (fun _ _ => rfl) (mapS_comp hy1) (lenOk_le hl1) (fun x1 s1 _ H1 _ u1 _ _ _ hF1 L4 r2 hn1 hy2 => obE hF1 fun y1 hm7 he1 => x_cName (d := (.int x1)) (Γ' := [.mu p__law_bag_here (ml (s1 : (List Int))), .imm (.int a__law_most), .imm (.int z1.1), .unk, .imm (.int x1)]) L4 r2 (show (4 : Nat) < 5 by decide) rfl fun _ L5 => x_yes (x_tup (x_cons (x_call (x_cons (x_vm L5 rfl (x_cons (x_c (x_nil (obE hm7 fun z3 hz3 hm8 => mk__law_draw hz3 (L5.cond1 (i := 0) (.m (L5.mrep (i := 0) rfl) (.im (.int _) .nil)) rfl rfl rfl) fun _ F3 => k1 L5 F3 (i := 0) (Γ' := [.mu p__law_bag_here (ml (z3.2 : (List Int))), .imm (.int a__law_most), .imm (.int z1.1), .unk, .imm (.int x1)]) rfl rfl rfl fun L6 le3 => x_cons (x_call (x_cons (x_vm L6 rfl (x_cons (x_c (x_nil (obE hm8 fun z4 hz4 hm9 => mk__law_draw hz4 (L6.cond1 (i := 0) (.m (L6.mrep (i := 0) rfl) (.im (.int _) .nil)) rfl rfl rfl) fun _ F4 => k1 L6 F4 (i := 0) (Γ' := [.mu p__law_bag_here (ml (z4.2 : (List Int))), .imm (.int a__law_most), .imm (.int z1.1), .unk, .imm (.int x1)]) rfl rfl rfl fun L7 le4 => x_nil (x_mkT L7 (.cons (.int _) (.cons (.int _) .nil)) (show (2 : Nat) ≤ 16777216 by decide) fun v4 _ L8 le5 r3 => have r4 : Rep _ _ _ (enc ((T2.mk z3.1 z4.1) : (T2 Int Int))) v4 := r3; x_cy (G := (fun (s1 : (List Int)) => [.mu p__law_bag_here (ml (s1 : (List Int))), .imm (.int a__law_most), .imm (.int z1.1), .unk, .unk])) (s := s1) (s' := z4.2) (y := (T2.mk z3.1 z4.1)) (by cases hm9; cases he1; rfl) hy2 L4 L8 (.m (.i rfl (.i rfl (.i rfl (.i rfl .e))))) r4)))))))))))))))))) fun p2 _ _ h02 hx2 L9 le6 => x_setN (Γ := [.mu p__law_bag_here (ml (q1.2 : (List Int))), .imm (.int a__law_most), .imm (.int z1.1), .unk, .unk]) (p := p2) (o := ml (q1.1 : (List (T2 Int Int)))) (Γ' := [.mu p__law_bag_here (ml (q1.2 : (List Int))), .imm (.int a__law_most), .imm (.int z1.1), .mu p2 (ml (q1.1 : (List (T2 Int Int)))), .unk]) L9 (show (3 : Nat) < 5 by decide) (show (3 : Nat) < 5 by decide) rfl fun _ L11 => ?_)))))))))
      refine x_seq (x_ifS (x_or (x_not (x_tB (x_call (x_cons (x_vm L11 rfl (x_nil (obE hm6 fun z5 hz5 hm10 => mk__law_simple hz5 (L11.condL (.im (L11.lend (i := 3) rfl) .nil) rfl) fun _ F5 => k0L L11 F5 fun L12 le7 => x_kb (x_kn (x_orB L12 hm10 (fun _ hm12 _ hq => x_test (x_op (x_call (x_cons (x_vm L12 rfl (x_nil (obE hm12 fun z7 hz7 hm13 => mk__law_twice hz7 (L12.condL (.im (L12.lend (i := 3) rfl) .nil) rfl) fun _ F7 => k0L L12 F7 fun L14 le9 => x_c (x_eqi (x_kb (x_lfT hm13 hq L14)))))))))) fun b1 _ hm14 L15 => x_if hm14 (fun hm15 => ?_) fun hm15 => ?_)))))))))))
      · refine x_asg (x_lst (x_cons (x_tup (x_cons (x_c (x_cons (x_c (x_nil (x_mkT L15 (.cons (.int _) (.cons (.int _) .nil)) (show (2 : Nat) ≤ 16777216 by decide) fun v8 _ L16 le10 r5 => have r6 : Rep _ _ _ (enc ((T2.mk 0 0) : (T2 Int Int))) v8 := r5; x_cons (x_tup (x_cons (x_c (x_cons (x_call (x_cons (x_vm L16 rfl (x_cons (x_c (x_nil (obE hm15 fun z8 hz8 hm16 => mk__law_draw hz8 (L16.cond1 (i := 0) (.m (L16.mrep (i := 0) rfl) (.im (.int _) .nil)) rfl rfl rfl) fun _ F8 => k1 L16 F8 (i := 0) (Γ' := [.mu p__law_bag_here (ml (z8.2 : (List Int))), .imm (.int a__law_most), .imm (.int z1.1), .mu p2 (ml (q1.1 : (List (T2 Int Int)))), .unk]) rfl rfl rfl fun L17 le11 => have r7 := le11 _ _ r6; x_nil (x_mkT L17 (.cons (.int _) (.cons (.int _) .nil)) (show (2 : Nat) ≤ 16777216 by decide) fun v10 _ L18 le12 r8 => have r9 := le12 _ _ r7; have r10 : Rep _ _ _ (enc ((T2.mk 6 z8.1) : (T2 Int Int))) v10 := r8; x_cons (x_tup (x_cons (x_call (x_cons (x_vm L18 rfl (x_cons (x_c (x_nil (obE hm16 fun z9 hz9 hm17 => mk__law_draw hz9 (L18.cond1 (i := 0) (.m (L18.mrep (i := 0) rfl) (.im (.int _) .nil)) rfl rfl rfl) fun _ F9 => k1 L18 F9 (i := 0) (Γ' := [.mu p__law_bag_here (ml (z9.2 : (List Int))), .imm (.int a__law_most), .imm (.int z1.1), .mu p2 (ml (q1.1 : (List (T2 Int Int)))), .unk]) rfl rfl rfl fun L19 le13 => have r11 := le13 _ _ r9; have r12 := le13 _ _ r10; x_cons (x_op (x_c (x_call (x_cons (x_vm L19 rfl (x_cons (x_c (x_nil (obE hm17 fun z10 hz10 hm18 => mk__law_draw hz10 (L19.cond1 (i := 0) (.m (L19.mrep (i := 0) rfl) (.im (.int _) .nil)) rfl rfl rfl) fun _ F10 => k1 L19 F10 (i := 0) (Γ' := [.mu p__law_bag_here (ml (z10.2 : (List Int))), .imm (.int a__law_most), .imm (.int z1.1), .mu p2 (ml (q1.1 : (List (T2 Int Int)))), .unk]) rfl rfl rfl fun L20 le14 => have r13 := le14 _ _ r11; have r14 := le14 _ _ r12; x_r0 (x_nil (x_mkT L20 (.cons (.int _) (.cons (.int _) .nil)) (show (2 : Nat) ≤ 16777216 by decide) fun v13 _ L21 le15 r15 => have r16 := le15 _ _ r13; have r17 := le15 _ _ r14; have r18 : Rep _ _ _ (enc ((T2.mk z9.1 ((4 + z10.1))) : (T2 Int Int))) v13 := r15; x_nil (x_mkN L21 (.cons r16 (.cons r17 (.cons r18 .nil))) (show (3 : Nat) ≤ 16777216 by decide) fun p3 _ _ h03 hx3 L22 le16 => x_setN (Γ := [.mu p__law_bag_here (ml (z10.2 : (List Int))), .imm (.int a__law_most), .imm (.int z1.1), .mu p2 (ml (q1.1 : (List (T2 Int Int)))), .unk]) (p := p3) (o := ml ([(T2.mk 0 0), (T2.mk 6 z8.1), (T2.mk z9.1 ((4 + z10.1)))] : (List (T2 Int Int)))) (Γ' := [.mu p__law_bag_here (ml (z10.2 : (List Int))), .imm (.int a__law_most), .imm (.int z1.1), .mu p3 (ml ([(T2.mk 0 0), (T2.mk 6 z8.1), (T2.mk z9.1 ((4 + z10.1)))] : (List (T2 Int Int)))), .unk]) L22 (show (3 : Nat) < 5 by decide) (show (3 : Nat) < 5 by decide) rfl fun _ L23 => ?_))))))))))))))))))))))))))))))))))))))))))
        refine x_seq (x_ifS (x_test (x_op (x_call (x_cons (x_vm L23 rfl (x_nil (obE hm18 fun z11 hz11 hm19 => mk__law_twice hz11 (L23.condL (.im (L23.lend (i := 3) rfl) .nil) rfl) fun _ F11 => k0L L23 F11 fun L24 le17 => x_c (x_r0 (x_kb (x_join (G := (fun (s2 : (List (T2 Int Int))) => [.mu p__law_bag_here (ml (z10.2 : (List Int))), .imm (.int a__law_most), .imm (.int z1.1), .mu p3 (ml (s2 : (List (T2 Int Int)))), .unk])) L24 hm19 (fun _ hm20 _ hN1 => ?_) (fun _ hm20 _ hN1 => ?_) fun s2 X1 _ _ hm21 L25 => ?_)))))))))))
        · refine x_drop (x_bm0 (x_vm L24 rfl (x_tyM L24 (i := 3) rfl (x_reverse (xs := [(T2.mk 0 0), (T2.mk 6 z8.1), (T2.mk z9.1 ((4 + z10.1)))]) (i := 3) (Γ' := [.mu p__law_bag_here (ml (z10.2 : (List Int))), .imm (.int a__law_most), .imm (.int z1.1), .mu p3 (ml (([(T2.mk 0 0), (T2.mk 6 z8.1), (T2.mk z9.1 ((4 + z10.1)))]).reverse : (List (T2 Int Int)))), .unk]) L24 rfl rfl fun _ L26 le18 => ?_))))
          exact x_leaf (G := (fun (s2 : (List (T2 Int Int))) => [.mu p__law_bag_here (ml (z10.2 : (List Int))), .imm (.int a__law_most), .imm (.int z1.1), .mu p3 (ml (s2 : (List (T2 Int Int)))), .unk])) (e := ([(T2.mk 0 0), (T2.mk 6 z8.1), (T2.mk z9.1 ((4 + z10.1)))]).reverse) hm20 hN1 (L26.weak (Γ' := [.mu p__law_bag_here (ml (z10.2 : (List Int))), .imm (.int a__law_most), .imm (.int z1.1), .mu p3 (ml (([(T2.mk 0 0), (T2.mk 6 z8.1), (T2.mk z9.1 ((4 + z10.1)))]).reverse : (List (T2 Int Int)))), .unk]) (.k (.k (.k (.k (.k .e))))))
        · refine x_next ?_
          exact x_leaf (G := (fun (s2 : (List (T2 Int Int))) => [.mu p__law_bag_here (ml (z10.2 : (List Int))), .imm (.int a__law_most), .imm (.int z1.1), .mu p3 (ml (s2 : (List (T2 Int Int)))), .unk])) (e := [(T2.mk 0 0), (T2.mk 6 z8.1), (T2.mk z9.1 ((4 + z10.1)))]) hm20 hN1 (L24.weak (Γ' := [.mu p__law_bag_here (ml (z10.2 : (List Int))), .imm (.int a__law_most), .imm (.int z1.1), .mu p3 (ml ([(T2.mk 0 0), (T2.mk 6 z8.1), (T2.mk z9.1 ((4 + z10.1)))] : (List (T2 Int Int)))), .unk]) (.k (.k (.k (.k (.k .e))))))
        exact x_ret (x_vm L25 rfl (x_finP (Q := Q) (ps := (fun (r : ((List (T2 Int Int)) × (List Int))) => [(p__law_bag_here, ml (r.2 : (List Int)))])) (o := fun (r : ((List (T2 Int Int)) × (List Int))) => ml (r.1 : (List (T2 Int Int)))) (e := (s2, z10.2)) hm21 kont (L25.finM (p := p3) (i := 3) (hp1 (L25.mrep (i := 0) rfl)) rfl h03)))
      · refine x_next ?_
        refine x_seq (x_ifS (x_test (x_op (x_call (x_cons (x_vm L15 rfl (x_nil (obE hm15 fun z12 hz12 hm23 => mk__law_twice hz12 (L15.condL (.im (L15.lend (i := 3) rfl) .nil) rfl) fun _ F12 => k0L L15 F12 fun L27 le19 => x_c (x_r0 (x_kb (x_join (G := (fun (s3 : (List (T2 Int Int))) => [.mu p__law_bag_here (ml (q1.2 : (List Int))), .imm (.int a__law_most), .imm (.int z1.1), .mu p2 (ml (s3 : (List (T2 Int Int)))), .unk])) L27 hm23 (fun _ hm24 _ hN2 => ?_) (fun _ hm24 _ hN2 => ?_) fun s3 X2 _ _ hm25 L28 => ?_)))))))))))
        · refine x_drop (x_bm0 (x_vm L27 rfl (x_tyM L27 (i := 3) rfl (x_reverse (xs := q1.1) (i := 3) (Γ' := [.mu p__law_bag_here (ml (q1.2 : (List Int))), .imm (.int a__law_most), .imm (.int z1.1), .mu p2 (ml (q1.1.reverse : (List (T2 Int Int)))), .unk]) L27 rfl rfl fun _ L29 le20 => ?_))))
          exact x_leaf (G := (fun (s3 : (List (T2 Int Int))) => [.mu p__law_bag_here (ml (q1.2 : (List Int))), .imm (.int a__law_most), .imm (.int z1.1), .mu p2 (ml (s3 : (List (T2 Int Int)))), .unk])) (e := q1.1.reverse) hm24 hN2 (L29.weak (Γ' := [.mu p__law_bag_here (ml (q1.2 : (List Int))), .imm (.int a__law_most), .imm (.int z1.1), .mu p2 (ml (q1.1.reverse : (List (T2 Int Int)))), .unk]) (.k (.k (.k (.k (.k .e))))))
        · refine x_next ?_
          exact x_leaf (G := (fun (s3 : (List (T2 Int Int))) => [.mu p__law_bag_here (ml (q1.2 : (List Int))), .imm (.int a__law_most), .imm (.int z1.1), .mu p2 (ml (s3 : (List (T2 Int Int)))), .unk])) (e := q1.1) hm24 hN2 (L27.weak (Γ' := [.mu p__law_bag_here (ml (q1.2 : (List Int))), .imm (.int a__law_most), .imm (.int z1.1), .mu p2 (ml (q1.1 : (List (T2 Int Int)))), .unk]) (.k (.k (.k (.k (.k .e))))))
        exact x_ret (x_vm L28 rfl (x_finP (Q := Q) (ps := (fun (r : ((List (T2 Int Int)) × (List Int))) => [(p__law_bag_here, ml (r.2 : (List Int)))])) (o := fun (r : ((List (T2 Int Int)) × (List Int))) => ml (r.1 : (List (T2 Int Int)))) (e := (s3, q1.2)) hm25 kont (L28.finM (p := p2) (i := 3) (hp1 (L28.mrep (i := 0) rfl)) rfl h02)))
abbrev sp__law_slid (K : PySem.W.Frag) : Sp := fun vs H Q _ => ∃ (X : Addr → Prop)  (a__law_ring : (List (T2 Int Int))) (a__law_right : Int) (a__law_up : Int) (r : (List (T2 Int Int))), m__law_slid a__law_ring a__law_right a__law_up = some r ∧ Cond K X H [.imm (enc (a__law_ring : (List (T2 Int Int)))), .imm (.int a__law_right), .imm (.int a__law_up)] vs ∧ ∀ p H', Fin K X H [] [] (.new (ml (r : (List (T2 Int Int))))) (.ref p) H' → Q (.ref p) H'
theorem mk__law_slid {K : PySem.W.Frag} {X : Addr → Prop} {H : Hp} {vs : List V} {Q : VK} {E : XK}  {a__law_ring : (List (T2 Int Int))} {a__law_right : Int} {a__law_up : Int} {r : (List (T2 Int Int))} (hm : m__law_slid a__law_ring a__law_right a__law_up = some r) (c : Cond K X H [.imm (enc (a__law_ring : (List (T2 Int Int)))), .imm (.int a__law_right), .imm (.int a__law_up)] vs) (k : ∀ p H', Fin K X H [] [] (.new (ml (r : (List (T2 Int Int))))) (.ref p) H' → Q (.ref p) H') : sp__law_slid K vs H Q E := ⟨X, a__law_ring, a__law_right, a__law_up, r, hm, c, k⟩
abbrev n__law_slid : List Str := ["_law_ring", "_law_right", "_law_up", "_law_p"]
theorem sc__law_slid : FnScope n__law_slid ["_law_ring", "_law_right", "_law_up"] (defScope s__law_slid) := ⟨rfl, rfl, rfl, by decide +kernel, rfl, by decide +kernel, by decide +kernel⟩
theorem ok__law_slid (T : Txt K mg) : FnOk P w K mg base CX0 1 T.A__law_slid T.D__law_slid ["_law_ring", "_law_right", "_law_up"] (sp__law_slid K) := by
  refine Fun.ok T.F__law_slid sc__law_slid (fun vs H Q E h => ?_) (fun cdv A outer s H vs Q E hr h => ?_)
  · obtain ⟨X, a__law_ring, a__law_right, a__law_up, r, hm, c, kont⟩ := h
    exact c.len
  · obtain ⟨X, a__law_ring, a__law_right, a__law_up, r, hm, c, kont⟩ := h
    refine ⟨_, (pss_one (ps_ret (pe_lc (own := [("_law_p", 3)]) (g := gName 3) (tt := tYes) rfl sc__law_slid.nd (pi_list (pv 0)) (blkOk_by (N := n__law_slid) (sc := defScope s__law_slid) (by decide +kernel)) (fun _ _ _ _ _ => (pg_name (i := 3) sc__law_slid.nd rfl (Or.inl rfl))) (fun _ _ _ _ _ => pts_nil) (fun _ _ _ _ _ => (pe_tup (pa_cons (pe_op op_add (pe_ix (r := rIxT K) ix_tup (pv 3) pe_int (fun _ _ => rfl)) (pv 1)) (pa_cons (pe_op op_add (pe_ix (r := rIxT K) ix_tup (pv 3) pe_int (fun _ _ => rfl)) (pv 2)) pa_nil))))))), ?_⟩
    have L0 : Lo ⟨K, X, H, muts [.imm (enc (a__law_ring : (List (T2 Int Int)))), .imm (.int a__law_right), .imm (.int a__law_up)], n__law_slid.length⟩ X H (L2.start n__law_slid vs) [.imm (enc (a__law_ring : (List (T2 Int Int)))), .imm (.int a__law_right), .imm (.int a__law_up), .unk] := c.start n__law_slid (show (3 : Nat) ≤ 4 by decide)
    unfold m__law_slid at hm
    exact x_ret (x_lcl (x_vd (d := (enc (a__law_ring : (List (T2 Int Int))))) L0 rfl fun v1 r1 => obE hm fun _ hl1 hm1 => obE hm1 fun ys1 hy1 hm2 => x_lcLN (G := (fun (s1 : Unit) => [.imm (enc (a__law_ring : (List (T2 Int Int)))), .imm (.int a__law_right), .imm (.int a__law_up), .unk])) (s0 := ()) (xs := a__law_ring) L0 (fun _ _ => rfl) r1 (mapO_comp hy1) (lenOk_le hl1) (fun x1 s1 _ H1 _ u1 _ _ _ hF1 L1 r2 hn1 hy2 => obE hF1 fun y1 hm3 he1 => x_cName (d := (enc (x1 : (T2 Int Int)))) (Γ' := [.imm (enc (a__law_ring : (List (T2 Int Int)))), .imm (.int a__law_right), .imm (.int a__law_up), .imm (enc (x1 : (T2 Int Int)))]) L1 r2 (show (3 : Nat) < 4 by decide) rfl fun _ L2 => x_yes (x_tup (x_cons (x_op (x_op (x_vd (d := (enc (x1 : (T2 Int Int)))) L2 rfl fun v2 r3 => x_c (x_ixTI (x := x1.a) r3 rfl (x_vI (x := a__law_right) L2 rfl (x_r0 (x_cons (x_op (x_op (x_vd (d := (enc (x1 : (T2 Int Int)))) L2 rfl fun v3 r4 => x_c (x_ixTI (x := x1.b) r4 rfl (x_vI (x := a__law_up) L2 rfl (x_r0 (x_nil (x_mkT L2 (.cons (.int _) (.cons (.int _) .nil)) (show (2 : Nat) ≤ 16777216 by decide) fun v4 _ L3 le1 r5 => have r6 : Rep _ _ _ (enc ((T2.mk ((x1.a + a__law_right)) ((x1.b + a__law_up))) : (T2 Int Int))) v4 := r5; x_cy (G := (fun (s1 : Unit) => [.imm (enc (a__law_ring : (List (T2 Int Int)))), .imm (.int a__law_right), .imm (.int a__law_up), .unk])) (s := s1) (s' := ()) (y := (T2.mk ((x1.a + a__law_right)) ((x1.b + a__law_up)))) (by cases hm3; cases he1; rfl) hy2 L1 L3 (.i rfl (.i rfl (.i rfl (.i rfl .e)))) r6)))))))))))))))))) fun p1 _ _ h01 hx1 L4 le2 => x_finP (Q := Q) (ps := (fun (r : (List (T2 Int Int))) => [])) (o := fun (r : (List (T2 Int Int))) => ml (r : (List (T2 Int Int)))) (e := ys1) hm2 kont (L4.finT (p := p1) (i := 4) (o := ml (ys1 : (List (T2 Int Int)))) hp0 rfl h01)))
abbrev sp__law_cloth (K : PySem.W.Frag) : Sp := fun vs H Q _ => ∃ (X : Addr → Prop) (p__law_bag_here : Addr) (a__law_bag_here : (List Int)) (r : ((List (List (T2 Int Int))) × (List Int))), m__law_cloth a__law_bag_here = some r ∧ Cond K X H [.mu p__law_bag_here (ml (a__law_bag_here : (List Int)))] vs ∧ ∀ p H', Fin K X H [p__law_bag_here] [(p__law_bag_here, ml (r.2 : (List Int)))] (.new (ml (r.1 : (List (List (T2 Int Int)))))) (.ref p) H' → Q (.ref p) H'
theorem mk__law_cloth {K : PySem.W.Frag} {X : Addr → Prop} {H : Hp} {vs : List V} {Q : VK} {E : XK} {p__law_bag_here : Addr} {a__law_bag_here : (List Int)} {r : ((List (List (T2 Int Int))) × (List Int))} (hm : m__law_cloth a__law_bag_here = some r) (c : Cond K X H [.mu p__law_bag_here (ml (a__law_bag_here : (List Int)))] vs) (k : ∀ p H', Fin K X H [p__law_bag_here] [(p__law_bag_here, ml (r.2 : (List Int)))] (.new (ml (r.1 : (List (List (T2 Int Int)))))) (.ref p) H' → Q (.ref p) H') : sp__law_cloth K vs H Q E := ⟨X, p__law_bag_here, a__law_bag_here, r, hm, c, k⟩
abbrev n__law_cloth : List Str := ["_law_bag_here", "_law_way", "_law_one", "_law_made", "_law_k", "_law_three"]
theorem sc__law_cloth : FnScope n__law_cloth ["_law_bag_here"] (defScope s__law_cloth) := ⟨rfl, rfl, rfl, by decide +kernel, rfl, by decide +kernel, by decide +kernel⟩
theorem ok__law_cloth (T : Txt K mg) : FnOk P w K mg base CX0 5 T.A__law_cloth T.D__law_cloth ["_law_bag_here"] (sp__law_cloth K) := by
  refine Fun.ok T.F__law_cloth sc__law_cloth (fun vs H Q E h => ?_) (fun cdv A outer s H vs Q E hr h => ?_)
  · obtain ⟨X, p__law_bag_here, a__law_bag_here, r, hm, c, kont⟩ := h
    exact c.len
  · obtain ⟨X, p__law_bag_here, a__law_bag_here, r, hm, c, kont⟩ := h
    refine ⟨_, (pss_cons (ps_set (i := 1) sc__law_cloth.nd rfl (Or.inl rfl) (pe_call (ok__law_draw T) (hr.mono (by decide)) (by rfl) T.g__law_draw T.F__law_draw.kp T.b__law_draw .nil pass0 (pa_cons (pv 0) (pa_cons pe_int pa_nil))))
      (pss_cons (ps_set (i := 2) sc__law_cloth.nd rfl (Or.inl rfl) (pe_call (ok__law_shape T) hr (by rfl) T.g__law_shape T.F__law_shape.kp T.b__law_shape .nil pass0 (pa_cons (pv 0) (pa_cons pe_int pa_nil))))
      (pss_cons (ps_if (pt_cmpR op_lt (pv 1) pe_int (nomark _)) (pss_one (ps_ret (pe_lst (pa_cons (pv 2) pa_nil)))) pss_nil)
      (pss_cons (ps_if (pt_cmpR op_eq (pv 1) pe_int (nomark _)) (pss_one (ps_ret (pe_lst (pa_cons (pv 2) (pa_cons (pe_call (ok__law_slid T) (hr.mono (by decide)) (by rfl) T.g__law_slid T.F__law_slid.kp T.b__law_slid .nil pass0 (pa_cons (pe_call (ok__law_shape T) hr (by rfl) T.g__law_shape T.F__law_shape.kp T.b__law_shape .nil pass0 (pa_cons (pv 0) (pa_cons pe_int pa_nil))) (pa_cons (pe_op op_add pe_int (pe_call (ok__law_draw T) (hr.mono (by decide)) (by rfl) T.g__law_draw T.F__law_draw.kp T.b__law_draw .nil pass0 (pa_cons (pv 0) (pa_cons pe_int pa_nil)))) (pa_cons (pe_op op_sub (pe_call (ok__law_draw T) (hr.mono (by decide)) (by rfl) T.g__law_draw T.F__law_draw.kp T.b__law_draw .nil pass0 (pa_cons (pv 0) (pa_cons pe_int pa_nil))) pe_int) pa_nil)))) pa_nil))))) pss_nil)
      (pss_cons (ps_if (pt_cmpR op_eq (pv 1) pe_int (nomark _)) (pss_one (ps_ret (pe_lst (pa_cons (pe_revL (pv 2)) (pa_cons (pe_lst (pa_cons (pe_tup (pa_cons (pe_un un_neg pe_int) (pa_cons (pe_un un_neg pe_int) pa_nil))) (pa_cons (pe_tup (pa_cons pe_int (pa_cons (pe_un un_neg pe_int) pa_nil))) (pa_cons (pe_tup (pa_cons pe_int (pa_cons pe_int pa_nil))) (pa_cons (pe_tup (pa_cons (pe_un un_neg pe_int) (pa_cons pe_int pa_nil))) pa_nil))))) pa_nil))))) pss_nil)
      (pss_cons (ps_if (pt_cmpR op_eq (pv 1) pe_int (nomark _)) (pss_one (ps_ret (pe_lst (pa_cons (pe_lst (pa_cons (pe_tup (pa_cons (pe_un un_neg pe_int) (pa_cons (pe_un un_neg pe_int) pa_nil))) (pa_cons (pe_tup (pa_cons pe_int (pa_cons (pe_un un_neg pe_int) pa_nil))) (pa_cons (pe_tup (pa_cons pe_int (pa_cons pe_int pa_nil))) (pa_cons (pe_tup (pa_cons (pe_un un_neg pe_int) (pa_cons pe_int pa_nil))) pa_nil))))) (pa_cons (pv 2) (pa_cons (pe_lst (pa_cons (pe_tup (pa_cons (pe_un un_neg pe_int) (pa_cons pe_int pa_nil))) (pa_cons (pe_tup (pa_cons pe_int (pa_cons pe_int pa_nil))) (pa_cons (pe_tup (pa_cons pe_int (pa_cons (pe_un un_neg pe_int) pa_nil))) (pa_cons (pe_tup (pa_cons (pe_un un_neg pe_int) (pa_cons (pe_un un_neg pe_int) pa_nil))) pa_nil))))) pa_nil)))))) pss_nil)
      (pss_cons (ps_if (pt_cmpR op_eq (pv 1) pe_int (nomark _)) (pss_cons (ps_set (i := 3) sc__law_cloth.nd rfl (Or.inl rfl) (pe_lst pa_nil))
      (pss_cons (ps_for PassesOwn.never rfl (pi_range1 (by rfl) T.z_range (pa_cons (pe_call (ok__law_draw T) (hr.mono (by decide)) (by rfl) T.g__law_draw T.F__law_draw.kp T.b__law_draw .nil pass0 (pa_cons (pv 0) (pa_cons pe_int pa_nil))) pa_nil)) (pg_name (i := 4) sc__law_cloth.nd rfl (Or.inl rfl)) (pss_cons (ps_set (i := 5) sc__law_cloth.nd rfl (Or.inl rfl) (pe_lst (pa_cons (pe_tup (pa_cons pe_int (pa_cons pe_int pa_nil))) (pa_cons (pe_tup (pa_cons pe_int (pa_cons (pe_call (ok__law_draw T) (hr.mono (by decide)) (by rfl) T.g__law_draw T.F__law_draw.kp T.b__law_draw .nil pass0 (pa_cons (pv 0) (pa_cons pe_int pa_nil))) pa_nil))) (pa_cons (pe_tup (pa_cons (pe_call (ok__law_draw T) (hr.mono (by decide)) (by rfl) T.g__law_draw T.F__law_draw.kp T.b__law_draw .nil pass0 (pa_cons (pv 0) (pa_cons pe_int pa_nil))) (pa_cons pe_int pa_nil))) pa_nil)))))
      (pss_one (ps_expr (pe_bm PySem.F.plainAttrs_list PySem.F.slot_list_append PySem.F.type_list_append mt_append (pv 3) (pa_cons (pe_call (ok__law_slid T) (hr.mono (by decide)) (by rfl) T.g__law_slid T.F__law_slid.kp T.b__law_slid .nil pass0 (pa_cons (pv 5) (pa_cons (pe_op op_mul pe_int (pv 4)) (pa_cons (pe_call (ok__law_draw T) (hr.mono (by decide)) (by rfl) T.g__law_draw T.F__law_draw.kp T.b__law_draw .nil pass0 (pa_cons (pv 0) (pa_cons pe_int pa_nil))) pa_nil)))) pa_nil))))))
      (pss_one (ps_ret (pv 3))))) pss_nil)
      (pss_one (ps_ret (pe_lst (pa_cons (pe_call (ok__law_strip T) (hr.mono (by decide)) (by rfl) T.g__law_strip T.F__law_strip.kp T.b__law_strip .nil pass0 (pa_cons (pv 0) (pa_cons pe_int (pa_cons pe_int pa_nil)))) pa_nil))))))))))), ?_⟩
    have L0 : Lo ⟨K, X, H, muts [.mu p__law_bag_here (ml (a__law_bag_here : (List Int)))], n__law_cloth.length⟩ X H (L2.start n__law_cloth vs) [.mu p__law_bag_here (ml (a__law_bag_here : (List Int))), .unk, .unk, .unk, .unk, .unk] := c.start n__law_cloth (show (1 : Nat) ≤ 6 by decide)
    unfold m__law_cloth at hm
    refine x_seq (x_asg (x_call (x_cons (x_vm L0 rfl (x_cons (x_c (x_nil (obE hm fun z1 hz1 hm1 => mk__law_draw hz1 (L0.cond1 (i := 0) (.m (L0.mrep (i := 0) rfl) (.im (.int _) .nil)) rfl rfl rfl) fun _ F1 => k1 L0 F1 (i := 0) (Γ' := [.mu p__law_bag_here (ml (z1.2 : (List Int))), .unk, .unk, .unk, .unk, .unk]) rfl rfl rfl fun L1 le1 => x_set (d := (.int z1.1)) (Γ' := [.mu p__law_bag_here (ml (z1.2 : (List Int))), .imm (.int z1.1), .unk, .unk, .unk, .unk]) L1 (.int _) (show (1 : Nat) < 6 by decide) rfl fun _ L2 => ?_))))))))
    refine x_seq (x_asg (x_call (x_cons (x_vm L2 rfl (x_cons (x_c (x_nil (obE hm1 fun z2 hz2 hm2 => mk__law_shape hz2 (L2.cond1 (i := 0) (.m (L2.mrep (i := 0) rfl) (.im (.int _) .nil)) rfl rfl rfl) fun p1 _ F2 => k1i L2 F2 (i := 0) (Γ' := [.mu p__law_bag_here (ml (z2.2 : (List Int))), .imm (.int z1.1), .unk, .unk, .unk, .unk]) rfl rfl rfl fun L3 le2 r1 => have r2 : Rep _ _ _ (enc (z2.1 : (List (T2 Int Int)))) (.ref p1) := r1; x_set (d := (enc (z2.1 : (List (T2 Int Int))))) (Γ' := [.mu p__law_bag_here (ml (z2.2 : (List Int))), .imm (.int z1.1), .imm (enc (z2.1 : (List (T2 Int Int)))), .unk, .unk, .unk]) L3 r2 (show (2 : Nat) < 6 by decide) rfl fun _ L4 => ?_))))))))
    refine x_seq (x_ifS (x_test (x_op (x_vI (x := z1.1) L4 rfl (x_c (x_r0 (x_kb (x_if hm2 (fun hm3 => ?_) fun hm3 => ?_))))))))
    · exact x_ret (x_lst (x_cons (x_vd (d := (enc (z2.1 : (List (T2 Int Int))))) L4 rfl fun v2 r3 => x_nil (x_mkN L4 (.cons r3 .nil) (show (1 : Nat) ≤ 16777216 by decide) fun p2 _ _ h01 hx1 L5 le3 => x_finP (Q := Q) (ps := (fun (r : ((List (List (T2 Int Int))) × (List Int))) => [(p__law_bag_here, ml (r.2 : (List Int)))])) (o := fun (r : ((List (List (T2 Int Int))) × (List Int))) => ml (r.1 : (List (List (T2 Int Int))))) (e := ([z2.1], z2.2)) hm3 kont (L5.finT (p := p2) (i := 6) (o := ml ([z2.1] : (List (List (T2 Int Int))))) (hp1 (L5.mrep (i := 0) rfl)) rfl h01)))))
    · refine x_next ?_
      refine x_seq (x_ifS (x_test (x_op (x_vI (x := z1.1) L4 rfl (x_c (x_eqi (x_kb (x_if hm3 (fun hm4 => ?_) fun hm4 => ?_))))))))
      · exact x_ret (x_lst (x_cons (x_vd (d := (enc (z2.1 : (List (T2 Int Int))))) L4 rfl fun v3 r4 => x_cons (x_call (x_cons (x_call (x_cons (x_vm L4 rfl (x_cons (x_c (x_nil (obE hm4 fun z3 hz3 hm5 => mk__law_shape hz3 (L4.cond1 (i := 0) (.m (L4.mrep (i := 0) rfl) (.im (.int _) .nil)) rfl rfl rfl) fun p3 _ F3 => k1i L4 F3 (i := 0) (Γ' := [.mu p__law_bag_here (ml (z3.2 : (List Int))), .imm (.int z1.1), .imm (enc (z2.1 : (List (T2 Int Int)))), .unk, .unk, .unk]) rfl rfl rfl fun L6 le4 r5 => have r6 := le4 _ _ r4; have r7 : Rep _ _ _ (enc (z3.1 : (List (T2 Int Int)))) (.ref p3) := r5; x_cons (x_op (x_c (x_call (x_cons (x_vm L6 rfl (x_cons (x_c (x_nil (obE hm5 fun z4 hz4 hm6 => mk__law_draw hz4 (L6.cond1 (i := 0) (.m (L6.mrep (i := 0) rfl) (.im (.int _) .nil)) rfl rfl rfl) fun _ F4 => k1 L6 F4 (i := 0) (Γ' := [.mu p__law_bag_here (ml (z4.2 : (List Int))), .imm (.int z1.1), .imm (enc (z2.1 : (List (T2 Int Int)))), .unk, .unk, .unk]) rfl rfl rfl fun L7 le5 => have r8 := le5 _ _ r6; have r9 := le5 _ _ r7; x_r0 (x_cons (x_op (x_call (x_cons (x_vm L7 rfl (x_cons (x_c (x_nil (obE hm6 fun z5 hz5 hm7 => mk__law_draw hz5 (L7.cond1 (i := 0) (.m (L7.mrep (i := 0) rfl) (.im (.int _) .nil)) rfl rfl rfl) fun _ F5 => k1 L7 F5 (i := 0) (Γ' := [.mu p__law_bag_here (ml (z5.2 : (List Int))), .imm (.int z1.1), .imm (enc (z2.1 : (List (T2 Int Int)))), .unk, .unk, .unk]) rfl rfl rfl fun L8 le6 => have r10 := le6 _ _ r8; have r11 := le6 _ _ r9; x_c (x_r0 (x_nil (obE hm7 fun z6 hz6 hm8 => mk__law_slid hz6 (L8.cond0 (.im r11 (.im (.int _) (.im (.int _) .nil))) rfl) fun p4 _ F6 => k0i L8 F6 fun L9 le7 r12 => have r13 := le7 _ _ r10; have r14 : Rep _ _ _ (enc (z6 : (List (T2 Int Int)))) (.ref p4) := r12; x_nil (x_mkN L9 (.cons r13 (.cons r14 .nil)) (show (2 : Nat) ≤ 16777216 by decide) fun p5 _ _ h02 hx2 L10 le8 => x_finP (Q := Q) (ps := (fun (r : ((List (List (T2 Int Int))) × (List Int))) => [(p__law_bag_here, ml (r.2 : (List Int)))])) (o := fun (r : ((List (List (T2 Int Int))) × (List Int))) => ml (r.1 : (List (List (T2 Int Int))))) (e := ([z2.1, z6], z5.2)) hm8 kont (L10.finT (p := p5) (i := 6) (o := ml ([z2.1, z6] : (List (List (T2 Int Int))))) (hp1 (L10.mrep (i := 0) rfl)) rfl h02)))))))))))))))))))))))))))))))))))
      · refine x_next ?_
        refine x_seq (x_ifS (x_test (x_op (x_vI (x := z1.1) L4 rfl (x_c (x_eqi (x_kb (x_if hm4 (fun hm9 => ?_) fun hm9 => ?_))))))))
        · exact x_ret (x_lst (x_cons (x_revL (x_vd (d := (enc (z2.1 : (List (T2 Int Int))))) L4 rfl fun v6 r15 => x_revv (xs := z2.1) L4 r15 fun v7 _ L11 le9 r16 => have r17 : Rep _ _ _ (enc (z2.1.reverse : (List (T2 Int Int)))) v7 := r16; x_cons (x_lst (x_cons (x_tup (x_cons (x_un (x_c (x_u (x_cons (x_un (x_c (x_u (x_nil (x_mkT L11 (.cons (.int _) (.cons (.int _) .nil)) (show (2 : Nat) ≤ 16777216 by decide) fun v8 _ L12 le10 r18 => have r19 := le10 _ _ r17; have r20 : Rep _ _ _ (enc ((T2.mk ((-2)) ((-2))) : (T2 Int Int))) v8 := r18; x_cons (x_tup (x_cons (x_c (x_cons (x_un (x_c (x_u (x_nil (x_mkT L12 (.cons (.int _) (.cons (.int _) .nil)) (show (2 : Nat) ≤ 16777216 by decide) fun v9 _ L13 le11 r21 => have r22 := le11 _ _ r19; have r23 := le11 _ _ r20; have r24 : Rep _ _ _ (enc ((T2.mk 9 ((-1))) : (T2 Int Int))) v9 := r21; x_cons (x_tup (x_cons (x_c (x_cons (x_c (x_nil (x_mkT L13 (.cons (.int _) (.cons (.int _) .nil)) (show (2 : Nat) ≤ 16777216 by decide) fun v10 _ L14 le12 r25 => have r26 := le12 _ _ r22; have r27 := le12 _ _ r23; have r28 := le12 _ _ r24; have r29 : Rep _ _ _ (enc ((T2.mk 10 9) : (T2 Int Int))) v10 := r25; x_cons (x_tup (x_cons (x_un (x_c (x_u (x_cons (x_c (x_nil (x_mkT L14 (.cons (.int _) (.cons (.int _) .nil)) (show (2 : Nat) ≤ 16777216 by decide) fun v11 _ L15 le13 r30 => have r31 := le13 _ _ r26; have r32 := le13 _ _ r27; have r33 := le13 _ _ r28; have r34 := le13 _ _ r29; have r35 : Rep _ _ _ (enc ((T2.mk ((-1)) 8) : (T2 Int Int))) v11 := r30; x_nil (x_mkL L15 (.cons r32 (.cons r33 (.cons r34 (.cons r35 .nil)))) (show (4 : Nat) ≤ 16777216 by decide) fun v12 _ L16 le14 r36 => have r37 := le14 _ _ r31; have r38 : Rep _ _ _ (enc ([(T2.mk ((-2)) ((-2))), (T2.mk 9 ((-1))), (T2.mk 10 9), (T2.mk ((-1)) 8)] : (List (T2 Int Int)))) v12 := r36; x_nil (x_mkN L16 (.cons r37 (.cons r38 .nil)) (show (2 : Nat) ≤ 16777216 by decide) fun p6 _ _ h03 hx3 L17 le15 => x_finP (Q := Q) (ps := (fun (r : ((List (List (T2 Int Int))) × (List Int))) => [(p__law_bag_here, ml (r.2 : (List Int)))])) (o := fun (r : ((List (List (T2 Int Int))) × (List Int))) => ml (r.1 : (List (List (T2 Int Int))))) (e := ([z2.1.reverse, [(T2.mk ((-2)) ((-2))), (T2.mk 9 ((-1))), (T2.mk 10 9), (T2.mk ((-1)) 8)]], z2.2)) hm9 kont (L17.finT (p := p6) (i := 6) (o := ml ([z2.1.reverse, [(T2.mk ((-2)) ((-2))), (T2.mk 9 ((-1))), (T2.mk 10 9), (T2.mk ((-1)) 8)]] : (List (List (T2 Int Int))))) (hp1 (L17.mrep (i := 0) rfl)) rfl h03)))))))))))))))))))))))))))))))))))))))))))))
        · refine x_next ?_
          refine x_seq (x_ifS (x_test (x_op (x_vI (x := z1.1) L4 rfl (x_c (x_eqi (x_kb (x_if hm9 (fun hm10 => ?_) fun hm10 => ?_))))))))
          · exact x_ret (x_lst (x_cons (x_lst (x_cons (x_tup (x_cons (x_un (x_c (x_u (x_cons (x_un (x_c (x_u (x_nil (x_mkT L4 (.cons (.int _) (.cons (.int _) .nil)) (show (2 : Nat) ≤ 16777216 by decide) fun v13 _ L18 le16 r39 => have r40 : Rep _ _ _ (enc ((T2.mk ((-4)) ((-3))) : (T2 Int Int))) v13 := r39; x_cons (x_tup (x_cons (x_c (x_cons (x_un (x_c (x_u (x_nil (x_mkT L18 (.cons (.int _) (.cons (.int _) .nil)) (show (2 : Nat) ≤ 16777216 by decide) fun v14 _ L19 le17 r41 => have r42 := le17 _ _ r40; have r43 : Rep _ _ _ (enc ((T2.mk 11 ((-4))) : (T2 Int Int))) v14 := r41; x_cons (x_tup (x_cons (x_c (x_cons (x_c (x_nil (x_mkT L19 (.cons (.int _) (.cons (.int _) .nil)) (show (2 : Nat) ≤ 16777216 by decide) fun v15 _ L20 le18 r44 => have r45 := le18 _ _ r42; have r46 := le18 _ _ r43; have r47 : Rep _ _ _ (enc ((T2.mk 12 11) : (T2 Int Int))) v15 := r44; x_cons (x_tup (x_cons (x_un (x_c (x_u (x_cons (x_c (x_nil (x_mkT L20 (.cons (.int _) (.cons (.int _) .nil)) (show (2 : Nat) ≤ 16777216 by decide) fun v16 _ L21 le19 r48 => have r49 := le19 _ _ r45; have r50 := le19 _ _ r46; have r51 := le19 _ _ r47; have r52 : Rep _ _ _ (enc ((T2.mk ((-3)) 10) : (T2 Int Int))) v16 := r48; x_nil (x_mkL L21 (.cons r49 (.cons r50 (.cons r51 (.cons r52 .nil)))) (show (4 : Nat) ≤ 16777216 by decide) fun v17 _ L22 le20 r53 => have r54 : Rep _ _ _ (enc ([(T2.mk ((-4)) ((-3))), (T2.mk 11 ((-4))), (T2.mk 12 11), (T2.mk ((-3)) 10)] : (List (T2 Int Int)))) v17 := r53; x_cons (x_vd (d := (enc (z2.1 : (List (T2 Int Int))))) L22 rfl fun v18 r55 => x_cons (x_lst (x_cons (x_tup (x_cons (x_un (x_c (x_u (x_cons (x_c (x_nil (x_mkT L22 (.cons (.int _) (.cons (.int _) .nil)) (show (2 : Nat) ≤ 16777216 by decide) fun v19 _ L23 le21 r56 => have r57 := le21 _ _ r54; have r58 := le21 _ _ r55; have r59 : Rep _ _ _ (enc ((T2.mk ((-1)) 8) : (T2 Int Int))) v19 := r56; x_cons (x_tup (x_cons (x_c (x_cons (x_c (x_nil (x_mkT L23 (.cons (.int _) (.cons (.int _) .nil)) (show (2 : Nat) ≤ 16777216 by decide) fun v20 _ L24 le22 r60 => have r61 := le22 _ _ r57; have r62 := le22 _ _ r58; have r63 := le22 _ _ r59; have r64 : Rep _ _ _ (enc ((T2.mk 8 9) : (T2 Int Int))) v20 := r60; x_cons (x_tup (x_cons (x_c (x_cons (x_un (x_c (x_u (x_nil (x_mkT L24 (.cons (.int _) (.cons (.int _) .nil)) (show (2 : Nat) ≤ 16777216 by decide) fun v21 _ L25 le23 r65 => have r66 := le23 _ _ r61; have r67 := le23 _ _ r62; have r68 := le23 _ _ r63; have r69 := le23 _ _ r64; have r70 : Rep _ _ _ (enc ((T2.mk 9 ((-1))) : (T2 Int Int))) v21 := r65; x_cons (x_tup (x_cons (x_un (x_c (x_u (x_cons (x_un (x_c (x_u (x_nil (x_mkT L25 (.cons (.int _) (.cons (.int _) .nil)) (show (2 : Nat) ≤ 16777216 by decide) fun v22 _ L26 le24 r71 => have r72 := le24 _ _ r66; have r73 := le24 _ _ r67; have r74 := le24 _ _ r68; have r75 := le24 _ _ r69; have r76 := le24 _ _ r70; have r77 : Rep _ _ _ (enc ((T2.mk ((-2)) ((-2))) : (T2 Int Int))) v22 := r71; x_nil (x_mkL L26 (.cons r74 (.cons r75 (.cons r76 (.cons r77 .nil)))) (show (4 : Nat) ≤ 16777216 by decide) fun v23 _ L27 le25 r78 => have r79 := le25 _ _ r72; have r80 := le25 _ _ r73; have r81 : Rep _ _ _ (enc ([(T2.mk ((-1)) 8), (T2.mk 8 9), (T2.mk 9 ((-1))), (T2.mk ((-2)) ((-2)))] : (List (T2 Int Int)))) v23 := r78; x_nil (x_mkN L27 (.cons r79 (.cons r80 (.cons r81 .nil))) (show (3 : Nat) ≤ 16777216 by decide) fun p7 _ _ h04 hx4 L28 le26 => x_finP (Q := Q) (ps := (fun (r : ((List (List (T2 Int Int))) × (List Int))) => [(p__law_bag_here, ml (r.2 : (List Int)))])) (o := fun (r : ((List (List (T2 Int Int))) × (List Int))) => ml (r.1 : (List (List (T2 Int Int))))) (e := ([[(T2.mk ((-4)) ((-3))), (T2.mk 11 ((-4))), (T2.mk 12 11), (T2.mk ((-3)) 10)], z2.1, [(T2.mk ((-1)) 8), (T2.mk 8 9), (T2.mk 9 ((-1))), (T2.mk ((-2)) ((-2)))]], z2.2)) hm10 kont (L28.finT (p := p7) (i := 6) (o := ml ([[(T2.mk ((-4)) ((-3))), (T2.mk 11 ((-4))), (T2.mk 12 11), (T2.mk ((-3)) 10)], z2.1, [(T2.mk ((-1)) 8), (T2.mk 8 9), (T2.mk 9 ((-1))), (T2.mk ((-2)) ((-2)))]] : (List (List (T2 Int Int))))) (hp1 (L28.mrep (i := 0) rfl)) rfl h04)))))))))))))))))))))))))))))))))))))))))))))))))))))))))))))))))))))))))))))))))))
          · refine x_next ?_
            refine x_seq (x_ifS (x_test (x_op (x_vI (x := z1.1) L4 rfl (x_c (x_eqi (x_kb (x_if hm10 (fun hm11 => ?_) fun hm11 => ?_))))))))
            · refine x_seq (x_asg (x_lst (x_nil (x_mkN L4 .nil (show (0 : Nat) ≤ 16777216 by decide) fun p8 _ _ h05 hx5 L29 le27 => x_setN (Γ := [.mu p__law_bag_here (ml (z2.2 : (List Int))), .imm (.int z1.1), .imm (enc (z2.1 : (List (T2 Int Int)))), .unk, .unk, .unk]) (p := p8) (o := ml (([] : (List (List (T2 Int Int)))) : (List (List (T2 Int Int))))) (Γ' := [.mu p__law_bag_here (ml (z2.2 : (List Int))), .imm (.int z1.1), .imm (enc (z2.1 : (List (T2 Int Int)))), .mu p8 (ml (([] : (List (List (T2 Int Int)))) : (List (List (T2 Int Int))))), .unk, .unk]) L29 (show (3 : Nat) < 6 by decide) (show (3 : Nat) < 6 by decide) rfl fun _ L30 => ?_))))
              refine x_seq (x_tforR1 (x_cons (x_call (x_cons (x_vm L30 rfl (x_cons (x_c (x_nil (obE hm11 fun z7 hz7 hm12 => mk__law_draw hz7 (L30.cond1 (i := 0) (.m (L30.mrep (i := 0) rfl) (.im (.int _) .nil)) rfl rfl rfl) fun _ F7 => k1 L30 F7 (i := 0) (Γ' := [.mu p__law_bag_here (ml (z7.2 : (List Int))), .imm (.int z1.1), .imm (enc (z2.1 : (List (T2 Int Int)))), .mu p8 (ml (([] : (List (List (T2 Int Int)))) : (List (List (T2 Int Int))))), .unk, .unk]) rfl rfl rfl fun L31 le28 => x_nil (x_r1 hm12 fun hm13 => x_foR (G := (fun (s1 : ((List Int) × (List (List (T2 Int Int))))) => [.mu p__law_bag_here (ml (s1.1 : (List Int))), .imm (.int z1.1), .imm (enc (z2.1 : (List (T2 Int Int)))), .mu p8 (ml (s1.2 : (List (List (T2 Int Int))))), .unk, .unk])) (s0 := (z7.2, ([] : (List (List (T2 Int Int)))))) (L31.weak (Γ' := [.mu p__law_bag_here (ml (z7.2 : (List Int))), .imm (.int z1.1), .imm (enc (z2.1 : (List (T2 Int Int)))), .mu p8 (ml (([] : (List (List (T2 Int Int)))) : (List (List (T2 Int Int))))), .unk, .unk]) (.k (.k (.k (.k (.k (.k .e))))))) (fun _ _ => rfl) hm13 (fun x1 s1 H1 _ u1 _ _ _ _ _ hm14 L32 r82 hN1 hC1 => ?_) (fun s2 _ _ hm15 L33 => ?_)))))))))))
              · refine x_set (d := (.int x1)) (Γ' := [.mu p__law_bag_here (ml (s1.1 : (List Int))), .imm (.int z1.1), .imm (enc (z2.1 : (List (T2 Int Int)))), .mu p8 (ml (s1.2 : (List (List (T2 Int Int))))), .imm (.int x1), .unk]) L32 r82 (show (4 : Nat) < 6 by decide) rfl fun _ L34 => ?_
                refine x_seq (x_asg (x_lst (x_cons (x_tup (x_cons (x_c (x_cons (x_c (x_nil (x_mkT L34 (.cons (.int _) (.cons (.int _) .nil)) (show (2 : Nat) ≤ 16777216 by decide) fun v25 _ L35 le29 r83 => have r84 : Rep _ _ _ (enc ((T2.mk 0 0) : (T2 Int Int))) v25 := r83; x_cons (x_tup (x_cons (x_c (x_cons (x_call (x_cons (x_vm L35 rfl (x_cons (x_c (x_nil (obE hm14 fun z8 hz8 hm17 => mk__law_draw hz8 (L35.cond1 (i := 0) (.m (L35.mrep (i := 0) rfl) (.im (.int _) .nil)) rfl rfl rfl) fun _ F9 => k1 L35 F9 (i := 0) (Γ' := [.mu p__law_bag_here (ml (z8.2 : (List Int))), .imm (.int z1.1), .imm (enc (z2.1 : (List (T2 Int Int)))), .mu p8 (ml (s1.2 : (List (List (T2 Int Int))))), .imm (.int x1), .unk]) rfl rfl rfl fun L36 le30 => have r85 := le30 _ _ r84; x_nil (x_mkT L36 (.cons (.int _) (.cons (.int _) .nil)) (show (2 : Nat) ≤ 16777216 by decide) fun v27 _ L37 le31 r86 => have r87 := le31 _ _ r85; have r88 : Rep _ _ _ (enc ((T2.mk 5 z8.1) : (T2 Int Int))) v27 := r86; x_cons (x_tup (x_cons (x_call (x_cons (x_vm L37 rfl (x_cons (x_c (x_nil (obE hm17 fun z9 hz9 hm18 => mk__law_draw hz9 (L37.cond1 (i := 0) (.m (L37.mrep (i := 0) rfl) (.im (.int _) .nil)) rfl rfl rfl) fun _ F10 => k1 L37 F10 (i := 0) (Γ' := [.mu p__law_bag_here (ml (z9.2 : (List Int))), .imm (.int z1.1), .imm (enc (z2.1 : (List (T2 Int Int)))), .mu p8 (ml (s1.2 : (List (List (T2 Int Int))))), .imm (.int x1), .unk]) rfl rfl rfl fun L38 le32 => have r89 := le32 _ _ r87; have r90 := le32 _ _ r88; x_cons (x_c (x_nil (x_mkT L38 (.cons (.int _) (.cons (.int _) .nil)) (show (2 : Nat) ≤ 16777216 by decide) fun v29 _ L39 le33 r91 => have r92 := le33 _ _ r89; have r93 := le33 _ _ r90; have r94 : Rep _ _ _ (enc ((T2.mk z9.1 6) : (T2 Int Int))) v29 := r91; x_nil (x_mkL L39 (.cons r92 (.cons r93 (.cons r94 .nil))) (show (3 : Nat) ≤ 16777216 by decide) fun v30 _ L40 le34 r95 => have r96 : Rep _ _ _ (enc ([(T2.mk 0 0), (T2.mk 5 z8.1), (T2.mk z9.1 6)] : (List (T2 Int Int)))) v30 := r95; x_bset (x0 := [(T2.mk 0 0), (T2.mk 5 z8.1), (T2.mk z9.1 6)]) (d := fun three_1 => (enc (three_1 : (List (T2 Int Int))))) (Γf := fun three_1 => [.mu p__law_bag_here (ml (z9.2 : (List Int))), .imm (.int z1.1), .imm (enc (z2.1 : (List (T2 Int Int)))), .mu p8 (ml (s1.2 : (List (List (T2 Int Int))))), .imm (.int x1), .imm (enc (three_1 : (List (T2 Int Int))))]) hm18 L40 r96 (show (5 : Nat) < 6 by decide) (fun _ => rfl) fun three_1 _ hm19 L41 => ?_)))))))))))))))))))))))))))))))))))
                refine x_drop (x_bm (x_vm L41 rfl (x_tyM L41 (i := 3) rfl (x_cons (x_call (x_cons (x_vd (d := (enc (three_1 : (List (T2 Int Int))))) L41 rfl fun v31 r97 => x_cons (x_op (x_c (x_vI (x := x1) L41 rfl (x_mulL (by decide) (x_cons (x_call (x_cons (x_vm L41 rfl (x_cons (x_c (x_nil (obE hm19 fun z10 hz10 hm20 => mk__law_draw hz10 (L41.cond1 (i := 0) (.m (L41.mrep (i := 0) rfl) (.im (.int _) .nil)) rfl rfl rfl) fun _ F11 => k1 L41 F11 (i := 0) (Γ' := [.mu p__law_bag_here (ml (z10.2 : (List Int))), .imm (.int z1.1), .imm (enc (z2.1 : (List (T2 Int Int)))), .mu p8 (ml (s1.2 : (List (List (T2 Int Int))))), .imm (.int x1), .imm (enc (three_1 : (List (T2 Int Int))))]) rfl rfl rfl fun L42 le35 => have r98 := le35 _ _ r97; x_nil (obE hm20 fun z11 hz11 hm21 => mk__law_slid hz11 (L42.cond0 (.im r98 (.im (.int _) (.im (.int _) .nil))) rfl) fun p9 _ F12 => k0i L42 F12 fun L43 le36 r99 => have r100 : Rep _ _ _ (enc (z11 : (List (T2 Int Int)))) (.ref p9) := r99; x_nil (x_append (xs := s1.2) (x := z11) (i := 3) (Γ' := [.mu p__law_bag_here (ml (z10.2 : (List Int))), .imm (.int z1.1), .imm (enc (z2.1 : (List (T2 Int Int)))), .mu p8 (ml ((s1.2 ++ [z11]) : (List (List (T2 Int Int))))), .imm (.int x1), .imm (enc (three_1 : (List (T2 Int Int))))]) L43 rfl hm21 r100 rfl fun _ hm22 L44 le37 => ?_)))))))))))))))))))))
                exact x_leaf (G := (fun (s1 : ((List Int) × (List (List (T2 Int Int))))) => [.mu p__law_bag_here (ml (s1.1 : (List Int))), .imm (.int z1.1), .imm (enc (z2.1 : (List (T2 Int Int)))), .mu p8 (ml (s1.2 : (List (List (T2 Int Int))))), .unk, .unk])) (e := (z10.2, (s1.2 ++ [z11]))) hm22 hN1 (L44.weak (Γ' := [.mu p__law_bag_here (ml (z10.2 : (List Int))), .imm (.int z1.1), .imm (enc (z2.1 : (List (T2 Int Int)))), .mu p8 (ml ((s1.2 ++ [z11]) : (List (List (T2 Int Int))))), .unk, .unk]) (.k (.k (.k (.k (.d (.d .e)))))))
              exact x_ret (x_vm L33 rfl (x_finP (Q := Q) (ps := (fun (r : ((List (List (T2 Int Int))) × (List Int))) => [(p__law_bag_here, ml (r.2 : (List Int)))])) (o := fun (r : ((List (List (T2 Int Int))) × (List Int))) => ml (r.1 : (List (List (T2 Int Int))))) (e := (s2.2, s2.1)) hm15 kont (L33.finM (p := p8) (i := 3) (hp1 (L33.mrep (i := 0) rfl)) rfl h05)))
            · refine x_next ?_
              exact x_ret (x_lst (x_cons (x_call (x_cons (x_vm L4 rfl (x_cons (x_c (x_cons (x_c (x_nil (obE hm11 fun z12 hz12 hm23 => mk__law_strip hz12 (L4.cond1 (i := 0) (.m (L4.mrep (i := 0) rfl) (.im (.int _) (.im (.int _) .nil))) rfl rfl rfl) fun p10 _ F13 => k1i L4 F13 (i := 0) (Γ' := [.mu p__law_bag_here (ml (z12.2 : (List Int))), .imm (.int z1.1), .imm (enc (z2.1 : (List (T2 Int Int)))), .unk, .unk, .unk]) rfl rfl rfl fun L45 le38 r101 => have r102 : Rep _ _ _ (enc (z12.1 : (List (T2 Int Int)))) (.ref p10) := r101; x_nil (x_mkN L45 (.cons r102 .nil) (show (1 : Nat) ≤ 16777216 by decide) fun p11 _ _ h06 hx6 L46 le39 => x_finP (Q := Q) (ps := (fun (r : ((List (List (T2 Int Int))) × (List Int))) => [(p__law_bag_here, ml (r.2 : (List Int)))])) (o := fun (r : ((List (List (T2 Int Int))) × (List Int))) => ml (r.1 : (List (List (T2 Int Int))))) (e := ([z12.1], z12.2)) hm23 kont (L46.finT (p := p11) (i := 6) (o := ml ([z12.1] : (List (List (T2 Int Int))))) (hp1 (L46.mrep (i := 0) rfl)) rfl h06)))))))))))))
abbrev sp__law_bottom (K : PySem.W.Frag) : Sp := fun vs H Q _ => ∃ (X : Addr → Prop) (p__law_bag_here : Addr) (a__law_bag_here : (List Int)) (r : (Int × (List Int))), m__law_bottom a__law_bag_here = some r ∧ Cond K X H [.mu p__law_bag_here (ml (a__law_bag_here : (List Int)))] vs ∧ ∀ H', Fin K X H [p__law_bag_here] [(p__law_bag_here, ml (r.2 : (List Int)))] (.imm (.int r.1)) (.int r.1) H' → Q (.int r.1) H'
theorem mk__law_bottom {K : PySem.W.Frag} {X : Addr → Prop} {H : Hp} {vs : List V} {Q : VK} {E : XK} {p__law_bag_here : Addr} {a__law_bag_here : (List Int)} {r : (Int × (List Int))} (hm : m__law_bottom a__law_bag_here = some r) (c : Cond K X H [.mu p__law_bag_here (ml (a__law_bag_here : (List Int)))] vs) (k : ∀ H', Fin K X H [p__law_bag_here] [(p__law_bag_here, ml (r.2 : (List Int)))] (.imm (.int r.1)) (.int r.1) H' → Q (.int r.1) H') : sp__law_bottom K vs H Q E := ⟨X, p__law_bag_here, a__law_bag_here, r, hm, c, k⟩
abbrev n__law_bottom : List Str := ["_law_bag_here"]
theorem sc__law_bottom : FnScope n__law_bottom ["_law_bag_here"] (defScope s__law_bottom) := ⟨rfl, rfl, rfl, by decide +kernel, rfl, by decide +kernel, by decide +kernel⟩
theorem ok__law_bottom (T : Txt K mg) : FnOk P w K mg base CX0 2 T.A__law_bottom T.D__law_bottom ["_law_bag_here"] (sp__law_bottom K) := by
  refine Fun.ok T.F__law_bottom sc__law_bottom (fun vs H Q E h => ?_) (fun cdv A outer s H vs Q E hr h => ?_)
  · obtain ⟨X, p__law_bag_here, a__law_bag_here, r, hm, c, kont⟩ := h
    exact c.len
  · obtain ⟨X, p__law_bag_here, a__law_bag_here, r, hm, c, kont⟩ := h
    refine ⟨_, (pss_one (ps_ret (pe_ix (r := rIxL K) ix_list (pe_lst (pa_cons pe_int (pa_cons pe_int (pa_cons pe_int (pa_cons pe_int (pa_cons pe_int (pa_cons pe_int (pa_cons (pe_op op_add (pe_op op_pow pe_int pe_int) pe_int) (pa_cons pe_int pa_nil))))))))) (pe_call (ok__law_draw T) hr (by rfl) T.g__law_draw T.F__law_draw.kp T.b__law_draw .nil pass0 (pa_cons (pv 0) (pa_cons pe_int pa_nil))) (fun _ _ => rfl)))), ?_⟩
    have L0 : Lo ⟨K, X, H, muts [.mu p__law_bag_here (ml (a__law_bag_here : (List Int)))], n__law_bottom.length⟩ X H (L2.start n__law_bottom vs) [.mu p__law_bag_here (ml (a__law_bag_here : (List Int)))] := c.start n__law_bottom (show (1 : Nat) ≤ 1 by decide)
    unfold m__law_bottom at hm
    exact x_ret (x_op (x_lst (x_cons (x_c (x_cons (x_c (x_cons (x_c (x_cons (x_c (x_cons (x_c (x_cons (x_c (x_cons (x_op (x_op (x_c (x_c (x_powc (n := 1000000000000) ⟨by decide, by decide, by decide⟩ (by decide +kernel) (x_c (x_r0 (x_cons (x_c (x_nil (x_mkL L0 (.cons (.int _) (.cons (.int _) (.cons (.int _) (.cons (.int _) (.cons (.int _) (.cons (.int _) (.cons (.int _) (.cons (.int _) .nil)))))))) (show (8 : Nat) ≤ 16777216 by decide) fun v1 _ L1 le1 r1 => have r2 : Rep _ _ _ (enc ([1, 1, 2, 3, 12, 997, (1000000000000 + 39), 1] : (List Int))) v1 := r1; x_call (x_cons (x_vm L1 rfl (x_cons (x_c (x_nil (obE hm fun z1 hz1 hm1 => mk__law_draw hz1 (L1.cond1 (i := 0) (.m (L1.mrep (i := 0) rfl) (.im (.int _) .nil)) rfl rfl rfl) fun _ F1 => k1 L1 F1 (i := 0) (Γ' := [.mu p__law_bag_here (ml (z1.2 : (List Int)))]) rfl rfl rfl fun L2 le2 => have r3 := le2 _ _ r2; x_ixLI (xs := [1, 1, 2, 3, 12, 997, (1000000000000 + 39), 1]) hm1 r3 fun x1 _ hm2 => x_finI (Q := Q) (ps := (fun (r : (Int × (List Int))) => [(p__law_bag_here, ml (r.2 : (List Int)))])) (sc := fun (r : (Int × (List Int))) => r.1) ((x1, z1.2)) hm2 kont (L2.fin (hp1 (L2.mrep (i := 0) rfl)) (.int _))))))))))))))))))))))))))))))))))
abbrev sp__law_gcd (K : PySem.W.Frag) : Sp := fun vs H Q _ => ∃ (X : Addr → Prop)  (a__law_one : Int) (a__law_two : Int) (r : Int), m__law_gcd a__law_one a__law_two = some r ∧ Cond K X H [.imm (.int a__law_one), .imm (.int a__law_two)] vs ∧ ∀ H', Fin K X H [] [] (.imm (.int r)) (.int r) H' → Q (.int r) H'
theorem mk__law_gcd {K : PySem.W.Frag} {X : Addr → Prop} {H : Hp} {vs : List V} {Q : VK} {E : XK}  {a__law_one : Int} {a__law_two : Int} {r : Int} (hm : m__law_gcd a__law_one a__law_two = some r) (c : Cond K X H [.imm (.int a__law_one), .imm (.int a__law_two)] vs) (k : ∀ H', Fin K X H [] [] (.imm (.int r)) (.int r) H' → Q (.int r) H') : sp__law_gcd K vs H Q E := ⟨X, a__law_one, a__law_two, r, hm, c, k⟩
abbrev n__law_gcd : List Str := ["_law_one", "_law_two", "_law_rest"]
theorem sc__law_gcd : FnScope n__law_gcd ["_law_one", "_law_two"] (defScope s__law_gcd) := ⟨rfl, rfl, rfl, by decide +kernel, rfl, by decide +kernel, by decide +kernel⟩
theorem ok__law_gcd (T : Txt K mg) : FnOk P w K mg base CX0 1 T.A__law_gcd T.D__law_gcd ["_law_one", "_law_two"] (sp__law_gcd K) := by
  refine Fun.ok T.F__law_gcd sc__law_gcd (fun vs H Q E h => ?_) (fun cdv A outer s H vs Q E hr h => ?_)
  · obtain ⟨X, a__law_one, a__law_two, r, hm, c, kont⟩ := h
    exact c.len
  · obtain ⟨X, a__law_one, a__law_two, r, hm, c, kont⟩ := h
    refine ⟨_, (pss_cons (ps_set (i := 0) sc__law_gcd.nd rfl (Or.inl rfl) (pe_callB call_absX (by rfl) T.z_abs (by decide +kernel) (pa_cons (pv 0) pa_nil)))
      (pss_cons (ps_set (i := 1) sc__law_gcd.nd rfl (Or.inl rfl) (pe_callB call_absX (by rfl) T.z_abs (by decide +kernel) (pa_cons (pv 1) pa_nil)))
      (pss_cons (ps_while PassesOwn.never (pt_cmpR op_gt (pv 1) pe_int (nomark _)) (pss_cons (ps_set (i := 2) sc__law_gcd.nd rfl (Or.inl rfl) (pe_op op_modN (pv 0) (pv 1)))
      (pss_cons (ps_set (i := 0) sc__law_gcd.nd rfl (Or.inl rfl) (pv 1))
      (pss_one (ps_set (i := 1) sc__law_gcd.nd rfl (Or.inl rfl) (pv 2))))))
      (pss_one (ps_ret (pv 0)))))), ?_⟩
    have L0 : Lo ⟨K, X, H, muts [.imm (.int a__law_one), .imm (.int a__law_two)], n__law_gcd.length⟩ X H (L2.start n__law_gcd vs) [.imm (.int a__law_one), .imm (.int a__law_two), .unk] := c.start n__law_gcd (show (2 : Nat) ≤ 3 by decide)
    unfold m__law_gcd at hm
    refine x_seq (x_asg (x_cb (x_cons (x_vI (x := a__law_one) L0 rfl (x_nil (x_abs (x_bset (x0 := (iabs a__law_one)) (d := fun one_1 => (.int one_1)) (Γf := fun one_1 => [.imm (.int one_1), .imm (.int a__law_two), .unk]) hm L0 (.int _) (show (0 : Nat) < 3 by decide) (fun _ => rfl) fun one_1 _ hm1 L1 => ?_)))))))
    refine x_seq (x_asg (x_cb (x_cons (x_vI (x := a__law_two) L1 rfl (x_nil (x_abs (x_bset (x0 := (iabs a__law_two)) (d := fun two_1 => (.int two_1)) (Γf := fun two_1 => [.imm (.int one_1), .imm (.int two_1), .unk]) hm1 L1 (.int _) (show (1 : Nat) < 3 by decide) (fun _ => rfl) fun two_1 _ hm2 L2 => ?_)))))))
    refine x_seq (x_wh (n := two_1.natAbs + 2) (G := (fun (s1 : (Int × Int)) => [.imm (.int s1.1), .imm (.int s1.2), .unk])) (s0 := (one_1, two_1)) (ρ := Empty) (ps := fun _ => []) (rs := fun _ => .imm .none) (L2.weak (Γ' := [.imm (.int one_1), .imm (.int two_1), .unk]) (.k (.k (.k .e)))) (fun _ _ => rfl) hm2 (fun s1 H1 _ _ _ _ _ _ hm3 L3 hN1 hC1 hB1 hR1 _ hQ1 => ?_) (fun s2 _ _ hm4 L4 => ?_) (fun q => q.elim))
    · refine x_test (x_op (x_vI (x := s1.2) L3 rfl (x_c (x_r0 (x_kb (hQ1 _ _ (x_whIf hm3 (fun hm6 => ?_) fun hm6 => ?_)))))))
      · refine x_seq (x_asg (x_op (x_vI (x := s1.1) L3 rfl (x_vI (x := s1.2) L3 rfl (x_mod hm6 fun z1 _ hm7 => x_set (d := (.int z1)) (Γ' := [.imm (.int s1.1), .imm (.int s1.2), .imm (.int z1)]) L3 (.int _) (show (2 : Nat) < 3 by decide) rfl fun _ L5 => ?_)))))
        refine x_seq (x_asg (x_vI (x := s1.2) L5 rfl (x_set (d := (.int s1.2)) (Γ' := [.imm (.int s1.2), .imm (.int s1.2), .imm (.int z1)]) L5 (.int _) (show (0 : Nat) < 3 by decide) rfl fun _ L6 => ?_)))
        refine x_asg (x_vI (x := z1) L6 rfl (x_set (d := (.int z1)) (Γ' := [.imm (.int s1.2), .imm (.int z1), .imm (.int z1)]) L6 (.int _) (show (1 : Nat) < 3 by decide) rfl fun _ L7 => ?_))
        exact x_leafN (G := (fun (s1 : (Int × Int)) => [.imm (.int s1.1), .imm (.int s1.2), .unk])) (e := (s1.2, z1)) hm7 hN1 (L7.weak (Γ' := [.imm (.int s1.2), .imm (.int z1), .unk]) (.k (.k (.d .e))))
      · exact x_leafB (G := (fun (s1 : (Int × Int)) => [.imm (.int s1.1), .imm (.int s1.2), .unk])) (e := (s1.1, s1.2)) hm6 hB1 (L3.weak (Γ' := [.imm (.int s1.1), .imm (.int s1.2), .unk]) (.k (.k (.k .e))))
    exact x_ret (x_vI (x := s2.1) L4 rfl (x_finI (Q := Q) (ps := (fun (r : Int) => [])) (sc := fun (r : Int) => r) s2.1 hm4 kont (L4.fin hp0 (.int _))))
abbrev sp__law_point (K : PySem.W.Frag) : Sp := fun vs H Q _ => ∃ (X : Addr → Prop)  (a__law_a : Int) (a__law_b : Int) (a__law_n : Int) (r : (T3 Int Int Int)), m__law_point a__law_a a__law_b a__law_n = some r ∧ Cond K X H [.imm (.int a__law_a), .imm (.int a__law_b), .imm (.int a__law_n)] vs ∧ ∀ v H', Fin K X H [] [] (.imm (enc (r : (T3 Int Int Int)))) v H' → Q v H'
theorem mk__law_point {K : PySem.W.Frag} {X : Addr → Prop} {H : Hp} {vs : List V} {Q : VK} {E : XK}  {a__law_a : Int} {a__law_b : Int} {a__law_n : Int} {r : (T3 Int Int Int)} (hm : m__law_point a__law_a a__law_b a__law_n = some r) (c : Cond K X H [.imm (.int a__law_a), .imm (.int a__law_b), .imm (.int a__law_n)] vs) (k : ∀ v H', Fin K X H [] [] (.imm (enc (r : (T3 Int Int Int)))) v H' → Q v H') : sp__law_point K vs H Q E := ⟨X, a__law_a, a__law_b, a__law_n, r, hm, c, k⟩
abbrev n__law_point : List Str := ["_law_a", "_law_b", "_law_n", "_law_both"]
theorem sc__law_point : FnScope n__law_point ["_law_a", "_law_b", "_law_n"] (defScope s__law_point) := ⟨rfl, rfl, rfl, by decide +kernel, rfl, by decide +kernel, by decide +kernel⟩
theorem ok__law_point (T : Txt K mg) : FnOk P w K mg base CX0 2 T.A__law_point T.D__law_point ["_law_a", "_law_b", "_law_n"] (sp__law_point K) := by
  refine Fun.ok T.F__law_point sc__law_point (fun vs H Q E h => ?_) (fun cdv A outer s H vs Q E hr h => ?_)
  · obtain ⟨X, a__law_a, a__law_b, a__law_n, r, hm, c, kont⟩ := h
    exact c.len
  · obtain ⟨X, a__law_a, a__law_b, a__law_n, r, hm, c, kont⟩ := h
    refine ⟨_, (pss_cons (ps_set (i := 3) sc__law_point.nd rfl (Or.inl rfl) (pe_call (ok__law_gcd T) hr (by rfl) T.g__law_gcd T.F__law_gcd.kp T.b__law_gcd .nil pass0 (pa_cons (pe_call (ok__law_gcd T) hr (by rfl) T.g__law_gcd T.F__law_gcd.kp T.b__law_gcd .nil pass0 (pa_cons (pv 0) (pa_cons (pv 2) pa_nil))) (pa_cons (pv 1) pa_nil))))
      (pss_cons (ps_if (pt_cmpR op_lt (pv 2) pe_int (nomark _)) (pss_one (ps_set (i := 3) sc__law_point.nd rfl (Or.inl rfl) (pe_un un_neg (pv 3)))) pss_nil)
      (pss_one (ps_ret (pe_tup (pa_cons (pe_op op_divG (pv 0) (pv 3)) (pa_cons (pe_op op_divG (pv 1) (pv 3)) (pa_cons (pe_op op_divG (pv 2) (pv 3)) pa_nil)))))))), ?_⟩
    have L0 : Lo ⟨K, X, H, muts [.imm (.int a__law_a), .imm (.int a__law_b), .imm (.int a__law_n)], n__law_point.length⟩ X H (L2.start n__law_point vs) [.imm (.int a__law_a), .imm (.int a__law_b), .imm (.int a__law_n), .unk] := c.start n__law_point (show (3 : Nat) ≤ 4 by decide)
    unfold m__law_point at hm
    refine x_seq (x_asg (x_call (x_cons (x_call (x_cons (x_vI (x := a__law_a) L0 rfl (x_cons (x_vI (x := a__law_n) L0 rfl (x_nil (obE hm fun z1 hz1 hm1 => mk__law_gcd hz1 (L0.cond0 (.im (.int _) (.im (.int _) .nil)) rfl) fun _ F1 => k0 L0 F1 fun L1 le1 => x_cons (x_vI (x := a__law_b) L1 rfl (x_nil (obE hm1 fun z2 hz2 hm2 => mk__law_gcd hz2 (L1.cond0 (.im (.int _) (.im (.int _) .nil)) rfl) fun _ F2 => k0 L1 F2 fun L2 le2 => x_set (d := (.int z2)) (Γ' := [.imm (.int a__law_a), .imm (.int a__law_b), .imm (.int a__law_n), .imm (.int z2)]) L2 (.int _) (show (3 : Nat) < 4 by decide) rfl fun _ L3 => ?_)))))))))))))
    refine x_seq (x_ifS (x_test (x_op (x_vI (x := a__law_n) L3 rfl (x_c (x_r0 (x_kb (x_join (G := (fun (s1 : Int) => [.imm (.int a__law_a), .imm (.int a__law_b), .imm (.int a__law_n), .imm (.int s1)])) L3 hm2 (fun _ hm3 _ hN1 => ?_) (fun _ hm3 _ hN1 => ?_) fun s1 X1 _ _ hm4 L4 => ?_))))))))
    · refine x_asg (x_un (x_vI (x := z2) L3 rfl (x_u (x_bset (x0 := (-z2)) (d := fun both_1 => (.int both_1)) (Γf := fun both_1 => [.imm (.int a__law_a), .imm (.int a__law_b), .imm (.int a__law_n), .imm (.int both_1)]) hm3 L3 (.int _) (show (3 : Nat) < 4 by decide) (fun _ => rfl) fun both_1 _ hm5 L5 => ?_))))
      exact x_leaf (G := (fun (s1 : Int) => [.imm (.int a__law_a), .imm (.int a__law_b), .imm (.int a__law_n), .imm (.int s1)])) (e := both_1) hm5 hN1 (L5.weak (Γ' := [.imm (.int a__law_a), .imm (.int a__law_b), .imm (.int a__law_n), .imm (.int both_1)]) (.k (.k (.k (.k .e)))))
    · refine x_next ?_
      exact x_leaf (G := (fun (s1 : Int) => [.imm (.int a__law_a), .imm (.int a__law_b), .imm (.int a__law_n), .imm (.int s1)])) (e := z2) hm3 hN1 (L3.weak (Γ' := [.imm (.int a__law_a), .imm (.int a__law_b), .imm (.int a__law_n), .imm (.int z2)]) (.k (.k (.k (.k .e)))))
    exact x_ret (x_tup (x_cons (x_op (x_vI (x := a__law_a) L4 rfl (x_vI (x := s1) L4 rfl (x_div hm4 fun z3 _ hm6 => x_cons (x_op (x_vI (x := a__law_b) L4 rfl (x_vI (x := s1) L4 rfl (x_div hm6 fun z4 _ hm7 => x_cons (x_op (x_vI (x := a__law_n) L4 rfl (x_vI (x := s1) L4 rfl (x_div hm7 fun z5 _ hm8 => x_nil (x_mkT L4 (.cons (.int _) (.cons (.int _) (.cons (.int _) .nil))) (show (3 : Nat) ≤ 16777216 by decide) fun v3 _ L6 le3 r1 => have r2 : Rep _ _ _ (enc ((T3.mk z3 z4 z5) : (T3 Int Int Int))) v3 := r1; x_fin (Q := Q) (ps := (fun (r : (T3 Int Int Int)) => [])) (rs := (fun (r : (T3 Int Int Int)) => (.imm (enc (r : (T3 Int Int Int)))))) (e := (T3.mk z3 z4 z5)) hm8 kont (L6.fin hp0 r2))))))))))))))))
abbrev sp__law_handed (K : PySem.W.Frag) : Sp := fun vs H Q _ => ∃ (X : Addr → Prop)  (a__law_rings : (List (List (T2 Int Int)))) (a__law_n : Int) (r : (List (List (T3 Int Int Int)))), m__law_handed a__law_rings a__law_n = some r ∧ Cond K X H [.imm (enc (a__law_rings : (List (List (T2 Int Int))))), .imm (.int a__law_n)] vs ∧ ∀ p H', Fin K X H [] [] (.new (ml (r : (List (List (T3 Int Int Int)))))) (.ref p) H' → Q (.ref p) H'
theorem mk__law_handed {K : PySem.W.Frag} {X : Addr → Prop} {H : Hp} {vs : List V} {Q : VK} {E : XK}  {a__law_rings : (List (List (T2 Int Int)))} {a__law_n : Int} {r : (List (List (T3 Int Int Int)))} (hm : m__law_handed a__law_rings a__law_n = some r) (c : Cond K X H [.imm (enc (a__law_rings : (List (List (T2 Int Int))))), .imm (.int a__law_n)] vs) (k : ∀ p H', Fin K X H [] [] (.new (ml (r : (List (List (T3 Int Int Int)))))) (.ref p) H' → Q (.ref p) H') : sp__law_handed K vs H Q E := ⟨X, a__law_rings, a__law_n, r, hm, c, k⟩
abbrev n__law_handed : List Str := ["_law_rings", "_law_n", "_law_ring", "_law_p"]
theorem sc__law_handed : FnScope n__law_handed ["_law_rings", "_law_n"] (defScope s__law_handed) := ⟨rfl, rfl, rfl, by decide +kernel, rfl, by decide +kernel, by decide +kernel⟩
theorem ok__law_handed (T : Txt K mg) : FnOk P w K mg base CX0 3 T.A__law_handed T.D__law_handed ["_law_rings", "_law_n"] (sp__law_handed K) := by
  refine Fun.ok T.F__law_handed sc__law_handed (fun vs H Q E h => ?_) (fun cdv A outer s H vs Q E hr h => ?_)
  · obtain ⟨X, a__law_rings, a__law_n, r, hm, c, kont⟩ := h
    exact c.len
  · obtain ⟨X, a__law_rings, a__law_n, r, hm, c, kont⟩ := h
    refine ⟨_, (pss_one (ps_ret (pe_lc (own := [("_law_ring", 2)]) (g := gName 2) (tt := tYes) rfl sc__law_handed.nd (pi_list (pv 0)) (blkOk_by (N := n__law_handed) (sc := defScope s__law_handed) (by decide +kernel)) (fun _ _ _ _ _ => (pg_name (i := 2) sc__law_handed.nd rfl (Or.inl rfl))) (fun _ _ _ _ _ => pts_nil) (fun _ _ _ _ _ => (pe_lc (own := [("_law_p", 3)]) (g := gName 3) (tt := tYes) rfl sc__law_handed.nd (pi_listK (K := K) rfl (pv 2)) (blkOk_in (N := n__law_handed) (by decide +kernel)) (fun _ _ _ _ _ => (pg_name (i := 3) sc__law_handed.nd rfl (Or.inl rfl))) (fun _ _ _ _ _ => pts_nil) (fun _ _ _ _ _ => (pe_call (ok__law_point T) hr (by rfl) T.g__law_point T.F__law_point.kp T.b__law_point .nil pass0 (pa_cons (pe_ix (r := rIxT K) ix_tup (pv 3) pe_int (fun _ _ => rfl)) (pa_cons (pe_ix (r := rIxT K) ix_tup (pv 3) pe_int (fun _ _ => rfl)) (pa_cons (pv 1) pa_nil)))))))))), ?_⟩
    have L0 : Lo ⟨K, X, H, muts [.imm (enc (a__law_rings : (List (List (T2 Int Int))))), .imm (.int a__law_n)], n__law_handed.length⟩ X H (L2.start n__law_handed vs) [.imm (enc (a__law_rings : (List (List (T2 Int Int))))), .imm (.int a__law_n), .unk, .unk] := c.start n__law_handed (show (2 : Nat) ≤ 4 by decide)
    unfold m__law_handed at hm
    exact x_ret (x_lcl (x_vd (d := (enc (a__law_rings : (List (List (T2 Int Int)))))) L0 rfl fun v1 r1 => obE hm fun _ hl1 hm1 => obE hm1 fun ys1 hy1 hm2 => x_lcLN (G := (fun (s1 : Unit) => [.imm (enc (a__law_rings : (List (List (T2 Int Int))))), .imm (.int a__law_n), .unk, .unk])) (s0 := ()) (xs := a__law_rings) L0 (fun _ _ => rfl) r1 (mapO_comp hy1) (lenOk_le hl1) (fun x1 s1 _ H1 _ u1 _ _ _ hF1 L1 r2 hn1 hy2 => obE hF1 fun y1 hm3 he1 => x_cName (d := (enc (x1 : (List (T2 Int Int))))) (Γ' := [.imm (enc (a__law_rings : (List (List (T2 Int Int))))), .imm (.int a__law_n), .imm (enc (x1 : (List (T2 Int Int)))), .unk]) L1 r2 (show (2 : Nat) < 4 by decide) rfl fun _ L2 => x_yes (x_lcl (x_vd (d := (enc (x1 : (List (T2 Int Int))))) L2 rfl fun v2 r3 => obE hm3 fun _ hl2 hm4 => obE hm4 fun ys2 hy3 hm5 => x_lcL (G := (fun (s2 : Unit) => [.imm (enc (a__law_rings : (List (List (T2 Int Int))))), .imm (.int a__law_n), .imm (enc (x1 : (List (T2 Int Int)))), .unk])) (s0 := ()) (xs := x1) L2 (fun _ _ => rfl) r3 (mapO_comp hy3) (lenOk_le hl2) (fun x2 s2 _ H2 _ u2 _ _ _ hF2 L3 r4 hn2 hy4 => obE hF2 fun y2 hm6 he2 => x_cName (d := (enc (x2 : (T2 Int Int)))) (Γ' := [.imm (enc (a__law_rings : (List (List (T2 Int Int))))), .imm (.int a__law_n), .imm (enc (x1 : (List (T2 Int Int)))), .imm (enc (x2 : (T2 Int Int)))]) L3 r4 (show (3 : Nat) < 4 by decide) rfl fun _ L4 => x_yes (x_call (x_cons (x_op (x_vd (d := (enc (x2 : (T2 Int Int)))) L4 rfl fun v3 r5 => x_c (x_ixTI (x := x2.a) r5 rfl (x_cons (x_op (x_vd (d := (enc (x2 : (T2 Int Int)))) L4 rfl fun v4 r6 => x_c (x_ixTI (x := x2.b) r6 rfl (x_cons (x_vI (x := a__law_n) L4 rfl (x_nil (obE hm6 fun z1 hz1 hm7 => mk__law_point hz1 (L4.cond0 (.im (.int _) (.im (.int _) (.im (.int _) .nil))) rfl) fun v5 _ F1 => k0d L4 F1 fun L5 le1 r7 => x_cy (G := (fun (s2 : Unit) => [.imm (enc (a__law_rings : (List (List (T2 Int Int))))), .imm (.int a__law_n), .imm (enc (x1 : (List (T2 Int Int)))), .unk])) (s := s2) (s' := ()) (y := z1) (by cases hm7; cases he2; rfl) hy4 L3 L5 (.i rfl (.i rfl (.i rfl (.i rfl .e)))) r7)))))))))))))) fun p1 _ L6 le2 r8 => have L7 : Lo _ _ _ _ [.imm (enc (a__law_rings : (List (List (T2 Int Int))))), .imm (.int a__law_n), .imm (enc (x1 : (List (T2 Int Int)))), .unk] := L6; have r9 : Rep _ _ _ (enc (ys2 : (List (T3 Int Int Int)))) (.ref p1) := r8; x_cy (G := (fun (s1 : Unit) => [.imm (enc (a__law_rings : (List (List (T2 Int Int))))), .imm (.int a__law_n), .unk, .unk])) (s := s1) (s' := ()) (y := ys2) (by cases hm5; cases he1; rfl) hy2 L1 L7 (.i rfl (.i rfl (.i rfl (.i rfl .e)))) r9))) fun p2 _ _ h01 hx1 L8 le3 => x_finP (Q := Q) (ps := (fun (r : (List (List (T3 Int Int Int)))) => [])) (o := fun (r : (List (List (T3 Int Int Int)))) => ml (r : (List (List (T3 Int Int Int))))) (e := ys1) hm2 kont (L8.finT (p := p2) (i := 4) (o := ml (ys1 : (List (List (T3 Int Int Int))))) hp0 rfl h01)))
abbrev sp__law_spot (K : PySem.W.Frag) : Sp := fun vs H Q _ => ∃ (X : Addr → Prop) (p__law_bag_here : Addr) (a__law_bag_here : (List Int)) (a__law_rings : (List (List (T2 Int Int)))) (r : ((T2 Int Int) × (List Int))), m__law_spot a__law_bag_here a__law_rings = some r ∧ Cond K X H [.mu p__law_bag_here (ml (a__law_bag_here : (List Int))), .imm (enc (a__law_rings : (List (List (T2 Int Int)))))] vs ∧ ∀ v H', Fin K X H [p__law_bag_here] [(p__law_bag_here, ml (r.2 : (List Int)))] (.imm (enc (r.1 : (T2 Int Int)))) v H' → Q v H'
theorem mk__law_spot {K : PySem.W.Frag} {X : Addr → Prop} {H : Hp} {vs : List V} {Q : VK} {E : XK} {p__law_bag_here : Addr} {a__law_bag_here : (List Int)} {a__law_rings : (List (List (T2 Int Int)))} {r : ((T2 Int Int) × (List Int))} (hm : m__law_spot a__law_bag_here a__law_rings = some r) (c : Cond K X H [.mu p__law_bag_here (ml (a__law_bag_here : (List Int))), .imm (enc (a__law_rings : (List (List (T2 Int Int)))))] vs) (k : ∀ v H', Fin K X H [p__law_bag_here] [(p__law_bag_here, ml (r.2 : (List Int)))] (.imm (enc (r.1 : (T2 Int Int)))) v H' → Q v H') : sp__law_spot K vs H Q E := ⟨X, p__law_bag_here, a__law_bag_here, a__law_rings, r, hm, c, k⟩
abbrev n__law_spot : List Str := ["_law_bag_here", "_law_rings", "_law_way", "_law_any_spot", "_law_ring", "_law_spot_here", "_law_part", "_law_p", "_law_q"]
theorem sc__law_spot : FnScope n__law_spot ["_law_bag_here", "_law_rings"] (defScope s__law_spot) := ⟨rfl, rfl, rfl, by decide +kernel, rfl, by decide +kernel, by decide +kernel⟩
theorem ok__law_spot (T : Txt K mg) : FnOk P w K mg base CX0 2 T.A__law_spot T.D__law_spot ["_law_bag_here", "_law_rings"] (sp__law_spot K) := by
  refine Fun.ok T.F__law_spot sc__law_spot (fun vs H Q E h => ?_) (fun cdv A outer s H vs Q E hr h => ?_)
  · obtain ⟨X, p__law_bag_here, a__law_bag_here, a__law_rings, r, hm, c, kont⟩ := h
    exact c.len
  · obtain ⟨X, p__law_bag_here, a__law_bag_here, a__law_rings, r, hm, c, kont⟩ := h
    refine ⟨_, (pss_cons (ps_set (i := 2) sc__law_spot.nd rfl (Or.inl rfl) (pe_call (ok__law_draw T) hr (by rfl) T.g__law_draw T.F__law_draw.kp T.b__law_draw .nil pass0 (pa_cons (pv 0) (pa_cons pe_int pa_nil))))
      (pss_cons (ps_set (i := 3) sc__law_spot.nd rfl (Or.inl rfl) (pe_tup (pa_cons (pe_op op_mul pe_int (pe_op op_sub (pe_call (ok__law_draw T) hr (by rfl) T.g__law_draw T.F__law_draw.kp T.b__law_draw .nil pass0 (pa_cons (pv 0) (pa_cons pe_int pa_nil))) pe_int)) (pa_cons (pe_op op_mul pe_int (pe_op op_sub (pe_call (ok__law_draw T) hr (by rfl) T.g__law_draw T.F__law_draw.kp T.b__law_draw .nil pass0 (pa_cons (pv 0) (pa_cons pe_int pa_nil))) pe_int)) pa_nil))))
      (pss_cons (ps_if (PW.pt (pw_or (pt_cmpR op_eq (pv 2) pe_int (nomark _)) (pw_or1 (pt_cmpR op_eq (pe_callB (r := rLenX K) call_lenX (by rfl) T.z_len (by decide +kernel) (pa_cons (pv 1) pa_nil)) pe_int (nomark _))))) (pss_one (ps_ret (pv 3))) pss_nil)
      (pss_cons (ps_if (pt_cmpR op_eq (pv 2) pe_int (nomark _)) (pss_one (ps_ret (pe_tup (pa_cons (pe_op op_add (pe_ix (r := rIxT K) ix_tup (pv 3) pe_int (fun _ _ => rfl)) (pe_call (ok__law_draw T) hr (by rfl) T.g__law_draw T.F__law_draw.kp T.b__law_draw .nil pass0 (pa_cons (pv 0) (pa_cons pe_int pa_nil)))) (pa_cons (pe_op op_add (pe_ix (r := rIxT K) ix_tup (pv 3) pe_int (fun _ _ => rfl)) (pe_call (ok__law_draw T) hr (by rfl) T.g__law_draw T.F__law_draw.kp T.b__law_draw .nil pass0 (pa_cons (pv 0) (pa_cons pe_int pa_nil)))) pa_nil))))) pss_nil)
      (pss_cons (ps_set (i := 4) sc__law_spot.nd rfl (Or.inl rfl) (pe_ix (r := rIxL K) ix_list (pv 1) (pe_call (ok__law_draw T) hr (by rfl) T.g__law_draw T.F__law_draw.kp T.b__law_draw .nil pass0 (pa_cons (pv 0) (pa_cons (pe_callB (r := rLenX K) call_lenX (by rfl) T.z_len (by decide +kernel) (pa_cons (pv 1) pa_nil)) pa_nil))) (fun _ _ => rfl)))
      (pss_cons (ps_set (i := 5) sc__law_spot.nd rfl (Or.inl rfl) (pe_call (ok__law_draw T) hr (by rfl) T.g__law_draw T.F__law_draw.kp T.b__law_draw .nil pass0 (pa_cons (pv 0) (pa_cons (pe_callB (r := rLenX K) call_lenX (by rfl) T.z_len (by decide +kernel) (pa_cons (pv 4) pa_nil)) pa_nil))))
      (pss_cons (ps_if (pt_cmpR op_eq (pv 2) pe_int (nomark _)) (pss_one (ps_ret (pe_ix (r := rIxL K) ix_list (pv 4) (pv 5) (fun _ _ => rfl)))) pss_nil)
      (pss_cons (ps_if (pt_cmpR op_eq (pv 2) pe_int (nomark _)) (pss_one (ps_ret (pe_tup (pa_cons (pe_ix (r := rIxT K) ix_tup (pv 3) pe_int (fun _ _ => rfl)) (pa_cons (pe_ix (r := rIxT K) ix_tup (pe_ix (r := rIxL K) ix_list (pv 4) (pv 5) (fun _ _ => rfl)) pe_int (fun _ _ => rfl)) pa_nil))))) pss_nil)
      (pss_cons (ps_if (pt_cmpR op_eq (pv 2) pe_int (nomark _)) (pss_one (ps_ret (pe_tup (pa_cons (pe_ix (r := rIxT K) ix_tup (pe_ix (r := rIxL K) ix_list (pv 4) (pv 5) (fun _ _ => rfl)) pe_int (fun _ _ => rfl)) (pa_cons (pe_ix (r := rIxT K) ix_tup (pv 3) pe_int (fun _ _ => rfl)) pa_nil))))) pss_nil)
      (pss_cons (ps_set (i := 6) sc__law_spot.nd rfl (Or.inl rfl) (pe_op op_add pe_int (pe_call (ok__law_draw T) hr (by rfl) T.g__law_draw T.F__law_draw.kp T.b__law_draw .nil pass0 (pa_cons (pv 0) (pa_cons pe_int pa_nil)))))
      (pss_cons (ps_set (i := 7) sc__law_spot.nd rfl (Or.inl rfl) (pe_ix (r := rIxL K) ix_list (pv 4) (pe_op op_sub (pv 5) pe_int) (fun _ _ => rfl)))
      (pss_cons (ps_set (i := 8) sc__law_spot.nd rfl (Or.inl rfl) (pe_ix (r := rIxL K) ix_list (pv 4) (pv 5) (fun _ _ => rfl)))
      (pss_one (ps_ret (pe_tup (pa_cons (pe_op op_fdiv (pe_op op_add (pe_op op_mulW (pe_ix (r := rIxT K) ix_tup (pv 7) pe_int (fun _ _ => rfl)) (pv 6)) (pe_op op_mulW (pe_ix (r := rIxT K) ix_tup (pv 8) pe_int (fun _ _ => rfl)) (pe_op op_sub pe_int (pv 6)))) pe_int) (pa_cons (pe_op op_fdiv (pe_op op_add (pe_op op_mulW (pe_ix (r := rIxT K) ix_tup (pv 7) pe_int (fun _ _ => rfl)) (pv 6)) (pe_op op_mulW (pe_ix (r := rIxT K) ix_tup (pv 8) pe_int (fun _ _ => rfl)) (pe_op op_sub pe_int (pv 6)))) pe_int) pa_nil))))))))))))))))), ?_⟩
    have L0 : Lo ⟨K, X, H, muts [.mu p__law_bag_here (ml (a__law_bag_here : (List Int))), .imm (enc (a__law_rings : (List (List (T2 Int Int)))))], n__law_spot.length⟩ X H (L2.start n__law_spot vs) [.mu p__law_bag_here (ml (a__law_bag_here : (List Int))), .imm (enc (a__law_rings : (List (List (T2 Int Int))))), .unk, .unk, .unk, .unk, .unk, .unk, .unk] := c.start n__law_spot (show (2 : Nat) ≤ 9 by decide)
    unfold m__law_spot at hm
    refine x_seq (x_asg (x_call (x_cons (x_vm L0 rfl (x_cons (x_c (x_nil (obE hm fun z1 hz1 hm1 => mk__law_draw hz1 (L0.cond1 (i := 0) (.m (L0.mrep (i := 0) rfl) (.im (.int _) .nil)) rfl rfl rfl) fun _ F1 => k1 L0 F1 (i := 0) (Γ' := [.mu p__law_bag_here (ml (z1.2 : (List Int))), .imm (enc (a__law_rings : (List (List (T2 Int Int))))), .unk, .unk, .unk, .unk, .unk, .unk, .unk]) rfl rfl rfl fun L1 le1 => x_set (d := (.int z1.1)) (Γ' := [.mu p__law_bag_here (ml (z1.2 : (List Int))), .imm (enc (a__law_rings : (List (List (T2 Int Int))))), .imm (.int z1.1), .unk, .unk, .unk, .unk, .unk, .unk]) L1 (.int _) (show (2 : Nat) < 9 by decide) rfl fun _ L2 => ?_))))))))
    refine x_seq (x_asg (x_tup (x_cons (x_op (x_c (x_op (x_call (x_cons (x_vm L2 rfl (x_cons (x_c (x_nil (obE hm1 fun z2 hz2 hm2 => mk__law_draw hz2 (L2.cond1 (i := 0) (.m (L2.mrep (i := 0) rfl) (.im (.int _) .nil)) rfl rfl rfl) fun _ F2 => k1 L2 F2 (i := 0) (Γ' := [.mu p__law_bag_here (ml (z2.2 : (List Int))), .imm (enc (a__law_rings : (List (List (T2 Int Int))))), .imm (.int z1.1), .unk, .unk, .unk, .unk, .unk, .unk]) rfl rfl rfl fun L3 le2 => x_c (x_r0 (x_mulL (by decide) (x_cons (x_op (x_c (x_op (x_call (x_cons (x_vm L3 rfl (x_cons (x_c (x_nil (obE hm2 fun z3 hz3 hm3 => mk__law_draw hz3 (L3.cond1 (i := 0) (.m (L3.mrep (i := 0) rfl) (.im (.int _) .nil)) rfl rfl rfl) fun _ F3 => k1 L3 F3 (i := 0) (Γ' := [.mu p__law_bag_here (ml (z3.2 : (List Int))), .imm (enc (a__law_rings : (List (List (T2 Int Int))))), .imm (.int z1.1), .unk, .unk, .unk, .unk, .unk, .unk]) rfl rfl rfl fun L4 le3 => x_c (x_r0 (x_mulL (by decide) (x_nil (x_mkT L4 (.cons (.int _) (.cons (.int _) .nil)) (show (2 : Nat) ≤ 16777216 by decide) fun v4 _ L5 le4 r1 => have r2 : Rep _ _ _ (enc ((T2.mk ((12 * (z2.1 - 6))) ((12 * (z3.1 - 6)))) : (T2 Int Int))) v4 := r1; x_bset (x0 := (T2.mk ((12 * (z2.1 - 6))) ((12 * (z3.1 - 6))))) (d := fun any_spot_1 => (enc (any_spot_1 : (T2 Int Int)))) (Γf := fun any_spot_1 => [.mu p__law_bag_here (ml (z3.2 : (List Int))), .imm (enc (a__law_rings : (List (List (T2 Int Int))))), .imm (.int z1.1), .imm (enc (any_spot_1 : (T2 Int Int))), .unk, .unk, .unk, .unk, .unk]) hm3 L5 r2 (show (3 : Nat) < 9 by decide) (fun _ => rfl) fun any_spot_1 _ hm4 L6 => ?_))))))))))))))))))))))))))))))
    refine x_seq (x_ifS (x_or (x_test (x_op (x_vI (x := z1.1) L6 rfl (x_c (x_eqi (x_kb (x_orP (B := (decide ((a__law_rings.length : Int) = 0))) (fun _ hq => x_test (x_op (x_cb (x_cons (x_vd (d := (enc (a__law_rings : (List (List (T2 Int Int)))))) L6 rfl fun v5 r3 => x_nil (x_lenL (xs := a__law_rings) r3 (x_c (x_eqi (x_kb (hq)))))))))) (x_if hm4 (fun hm5 => ?_) fun hm5 => ?_))))))))))
    · exact x_ret (x_vd (d := (enc (any_spot_1 : (T2 Int Int)))) L6 rfl fun v6 r4 => x_fin (Q := Q) (ps := (fun (r : ((T2 Int Int) × (List Int))) => [(p__law_bag_here, ml (r.2 : (List Int)))])) (rs := (fun (r : ((T2 Int Int) × (List Int))) => (.imm (enc (r.1 : (T2 Int Int)))))) (e := (any_spot_1, z3.2)) hm5 kont (L6.fin (hp1 (L6.mrep (i := 0) rfl)) r4))
    · refine x_next ?_
      refine x_seq (x_ifS (x_test (x_op (x_vI (x := z1.1) L6 rfl (x_c (x_eqi (x_kb (x_if hm5 (fun hm6 => ?_) fun hm6 => ?_))))))))
      · exact x_ret (x_tup (x_cons (x_op (x_op (x_vd (d := (enc (any_spot_1 : (T2 Int Int)))) L6 rfl fun v7 r5 => x_c (x_ixTI (x := any_spot_1.a) r5 rfl (x_call (x_cons (x_vm L6 rfl (x_cons (x_c (x_nil (obE hm6 fun z4 hz4 hm7 => mk__law_draw hz4 (L6.cond1 (i := 0) (.m (L6.mrep (i := 0) rfl) (.im (.int _) .nil)) rfl rfl rfl) fun _ F4 => k1 L6 F4 (i := 0) (Γ' := [.mu p__law_bag_here (ml (z4.2 : (List Int))), .imm (enc (a__law_rings : (List (List (T2 Int Int))))), .imm (.int z1.1), .imm (enc (any_spot_1 : (T2 Int Int))), .unk, .unk, .unk, .unk, .unk]) rfl rfl rfl fun L7 le5 => x_r0 (x_cons (x_op (x_op (x_vd (d := (enc (any_spot_1 : (T2 Int Int)))) L7 rfl fun v9 r6 => x_c (x_ixTI (x := any_spot_1.b) r6 rfl (x_call (x_cons (x_vm L7 rfl (x_cons (x_c (x_nil (obE hm7 fun z5 hz5 hm8 => mk__law_draw hz5 (L7.cond1 (i := 0) (.m (L7.mrep (i := 0) rfl) (.im (.int _) .nil)) rfl rfl rfl) fun _ F5 => k1 L7 F5 (i := 0) (Γ' := [.mu p__law_bag_here (ml (z5.2 : (List Int))), .imm (enc (a__law_rings : (List (List (T2 Int Int))))), .imm (.int z1.1), .imm (enc (any_spot_1 : (T2 Int Int))), .unk, .unk, .unk, .unk, .unk]) rfl rfl rfl fun L8 le6 => x_r0 (x_nil (x_mkT L8 (.cons (.int _) (.cons (.int _) .nil)) (show (2 : Nat) ≤ 16777216 by decide) fun v11 _ L9 le7 r7 => have r8 : Rep _ _ _ (enc ((T2.mk ((any_spot_1.a + z4.1)) ((any_spot_1.b + z5.1))) : (T2 Int Int))) v11 := r7; x_fin (Q := Q) (ps := (fun (r : ((T2 Int Int) × (List Int))) => [(p__law_bag_here, ml (r.2 : (List Int)))])) (rs := (fun (r : ((T2 Int Int) × (List Int))) => (.imm (enc (r.1 : (T2 Int Int)))))) (e := ((T2.mk ((any_spot_1.a + z4.1)) ((any_spot_1.b + z5.1))), z5.2)) hm8 kont (L9.fin (hp1 (L9.mrep (i := 0) rfl)) r8))))))))))))))))))))))))))))
      · refine x_next ?_
        refine x_seq (x_asg (x_op (x_vd (d := (enc (a__law_rings : (List (List (T2 Int Int)))))) L6 rfl fun v12 r9 => x_call (x_cons (x_vm L6 rfl (x_cons (x_cb (x_cons (x_vd (d := (enc (a__law_rings : (List (List (T2 Int Int)))))) L6 rfl fun v13 r10 => x_nil (x_lenL (xs := a__law_rings) r10 (x_nil (obE hm6 fun z6 hz6 hm9 => mk__law_draw hz6 (L6.cond1 (i := 0) (.m (L6.mrep (i := 0) rfl) (.im (.int _) .nil)) rfl rfl rfl) fun _ F6 => k1 L6 F6 (i := 0) (Γ' := [.mu p__law_bag_here (ml (z6.2 : (List Int))), .imm (enc (a__law_rings : (List (List (T2 Int Int))))), .imm (.int z1.1), .imm (enc (any_spot_1 : (T2 Int Int))), .unk, .unk, .unk, .unk, .unk]) rfl rfl rfl fun L10 le8 => have r11 := le8 _ _ r9; x_ixL (xs := a__law_rings) hm9 r11 fun x1 v15 _ hm10 r12 => x_set (d := (enc (x1 : (List (T2 Int Int))))) (Γ' := [.mu p__law_bag_here (ml (z6.2 : (List Int))), .imm (enc (a__law_rings : (List (List (T2 Int Int))))), .imm (.int z1.1), .imm (enc (any_spot_1 : (T2 Int Int))), .imm (enc (x1 : (List (T2 Int Int)))), .unk, .unk, .unk, .unk]) L10 r12 (show (4 : Nat) < 9 by decide) rfl fun _ L11 => ?_))))))))))))
        refine x_seq (x_asg (x_call (x_cons (x_vm L11 rfl (x_cons (x_cb (x_cons (x_vd (d := (enc (x1 : (List (T2 Int Int))))) L11 rfl fun v16 r13 => x_nil (x_lenL (xs := x1) r13 (x_nil (obE hm10 fun z7 hz7 hm11 => mk__law_draw hz7 (L11.cond1 (i := 0) (.m (L11.mrep (i := 0) rfl) (.im (.int _) .nil)) rfl rfl rfl) fun _ F7 => k1 L11 F7 (i := 0) (Γ' := [.mu p__law_bag_here (ml (z7.2 : (List Int))), .imm (enc (a__law_rings : (List (List (T2 Int Int))))), .imm (.int z1.1), .imm (enc (any_spot_1 : (T2 Int Int))), .imm (enc (x1 : (List (T2 Int Int)))), .unk, .unk, .unk, .unk]) rfl rfl rfl fun L12 le9 => x_set (d := (.int z7.1)) (Γ' := [.mu p__law_bag_here (ml (z7.2 : (List Int))), .imm (enc (a__law_rings : (List (List (T2 Int Int))))), .imm (.int z1.1), .imm (enc (any_spot_1 : (T2 Int Int))), .imm (enc (x1 : (List (T2 Int Int)))), .imm (.int z7.1), .unk, .unk, .unk]) L12 (.int _) (show (5 : Nat) < 9 by decide) rfl fun _ L13 => ?_)))))))))))
        refine x_seq (x_ifS (x_test (x_op (x_vI (x := z1.1) L13 rfl (x_c (x_eqi (x_kb (x_if hm11 (fun hm12 => ?_) fun hm12 => ?_))))))))
        · exact x_ret (x_op (x_vd (d := (enc (x1 : (List (T2 Int Int))))) L13 rfl fun v18 r14 => x_vI (x := z7.1) L13 rfl (x_ixL (xs := x1) hm12 r14 fun x2 v19 _ hm13 r15 => x_fin (Q := Q) (ps := (fun (r : ((T2 Int Int) × (List Int))) => [(p__law_bag_here, ml (r.2 : (List Int)))])) (rs := (fun (r : ((T2 Int Int) × (List Int))) => (.imm (enc (r.1 : (T2 Int Int)))))) (e := (x2, z7.2)) hm13 kont (L13.fin (hp1 (L13.mrep (i := 0) rfl)) r15))))
        · refine x_next ?_
          refine x_seq (x_ifS (x_test (x_op (x_vI (x := z1.1) L13 rfl (x_c (x_eqi (x_kb (x_if hm12 (fun hm14 => ?_) fun hm14 => ?_))))))))
          · exact x_ret (x_tup (x_cons (x_op (x_vd (d := (enc (any_spot_1 : (T2 Int Int)))) L13 rfl fun v20 r16 => x_c (x_ixTI (x := any_spot_1.a) r16 rfl (x_cons (x_op (x_op (x_vd (d := (enc (x1 : (List (T2 Int Int))))) L13 rfl fun v21 r17 => x_vI (x := z7.1) L13 rfl (x_ixL (xs := x1) hm14 r17 fun x3 v22 _ hm15 r18 => x_c (x_ixTI (x := x3.b) r18 rfl (x_nil (x_mkT L13 (.cons (.int _) (.cons (.int _) .nil)) (show (2 : Nat) ≤ 16777216 by decide) fun v23 _ L14 le10 r19 => have r20 : Rep _ _ _ (enc ((T2.mk any_spot_1.a x3.b) : (T2 Int Int))) v23 := r19; x_fin (Q := Q) (ps := (fun (r : ((T2 Int Int) × (List Int))) => [(p__law_bag_here, ml (r.2 : (List Int)))])) (rs := (fun (r : ((T2 Int Int) × (List Int))) => (.imm (enc (r.1 : (T2 Int Int)))))) (e := ((T2.mk any_spot_1.a x3.b), z7.2)) hm15 kont (L14.fin (hp1 (L14.mrep (i := 0) rfl)) r20))))))))))))))
          · refine x_next ?_
            refine x_seq (x_ifS (x_test (x_op (x_vI (x := z1.1) L13 rfl (x_c (x_eqi (x_kb (x_if hm14 (fun hm16 => ?_) fun hm16 => ?_))))))))
            · exact x_ret (x_tup (x_cons (x_op (x_op (x_vd (d := (enc (x1 : (List (T2 Int Int))))) L13 rfl fun v24 r21 => x_vI (x := z7.1) L13 rfl (x_ixL (xs := x1) hm16 r21 fun x4 v25 _ hm17 r22 => x_c (x_ixTI (x := x4.a) r22 rfl (x_cons (x_op (x_vd (d := (enc (any_spot_1 : (T2 Int Int)))) L13 rfl fun v26 r23 => x_c (x_ixTI (x := any_spot_1.b) r23 rfl (x_nil (x_mkT L13 (.cons (.int _) (.cons (.int _) .nil)) (show (2 : Nat) ≤ 16777216 by decide) fun v27 _ L15 le11 r24 => have r25 : Rep _ _ _ (enc ((T2.mk x4.a any_spot_1.b) : (T2 Int Int))) v27 := r24; x_fin (Q := Q) (ps := (fun (r : ((T2 Int Int) × (List Int))) => [(p__law_bag_here, ml (r.2 : (List Int)))])) (rs := (fun (r : ((T2 Int Int) × (List Int))) => (.imm (enc (r.1 : (T2 Int Int)))))) (e := ((T2.mk x4.a any_spot_1.b), z7.2)) hm17 kont (L15.fin (hp1 (L15.mrep (i := 0) rfl)) r25))))))))))))))
            · refine x_next ?_
              refine x_seq (x_asg (x_op (x_c (x_call (x_cons (x_vm L13 rfl (x_cons (x_c (x_nil (obE hm16 fun z8 hz8 hm18 => mk__law_draw hz8 (L13.cond1 (i := 0) (.m (L13.mrep (i := 0) rfl) (.im (.int _) .nil)) rfl rfl rfl) fun _ F8 => k1 L13 F8 (i := 0) (Γ' := [.mu p__law_bag_here (ml (z8.2 : (List Int))), .imm (enc (a__law_rings : (List (List (T2 Int Int))))), .imm (.int z1.1), .imm (enc (any_spot_1 : (T2 Int Int))), .imm (enc (x1 : (List (T2 Int Int)))), .imm (.int z7.1), .unk, .unk, .unk]) rfl rfl rfl fun L16 le12 => x_r0 (x_bset (x0 := (1 + z8.1)) (d := fun part_1 => (.int part_1)) (Γf := fun part_1 => [.mu p__law_bag_here (ml (z8.2 : (List Int))), .imm (enc (a__law_rings : (List (List (T2 Int Int))))), .imm (.int z1.1), .imm (enc (any_spot_1 : (T2 Int Int))), .imm (enc (x1 : (List (T2 Int Int)))), .imm (.int z7.1), .imm (.int part_1), .unk, .unk]) hm18 L16 (.int _) (show (6 : Nat) < 9 by decide) (fun _ => rfl) fun part_1 _ hm19 L17 => ?_)))))))))))
              refine x_seq (x_asg (x_op (x_vd (d := (enc (x1 : (List (T2 Int Int))))) L17 rfl fun v29 r26 => x_op (x_vI (x := z7.1) L17 rfl (x_c (x_r0 (x_ixL (xs := x1) hm19 r26 fun x5 v30 _ hm20 r27 => x_set (d := (enc (x5 : (T2 Int Int)))) (Γ' := [.mu p__law_bag_here (ml (z8.2 : (List Int))), .imm (enc (a__law_rings : (List (List (T2 Int Int))))), .imm (.int z1.1), .imm (enc (any_spot_1 : (T2 Int Int))), .imm (enc (x1 : (List (T2 Int Int)))), .imm (.int z7.1), .imm (.int part_1), .imm (enc (x5 : (T2 Int Int))), .unk]) L17 r27 (show (7 : Nat) < 9 by decide) rfl fun _ L18 => ?_)))))))
              refine x_seq (x_asg (x_op (x_vd (d := (enc (x1 : (List (T2 Int Int))))) L18 rfl fun v31 r28 => x_vI (x := z7.1) L18 rfl (x_ixL (xs := x1) hm20 r28 fun x6 v32 _ hm21 r29 => x_set (d := (enc (x6 : (T2 Int Int)))) (Γ' := [.mu p__law_bag_here (ml (z8.2 : (List Int))), .imm (enc (a__law_rings : (List (List (T2 Int Int))))), .imm (.int z1.1), .imm (enc (any_spot_1 : (T2 Int Int))), .imm (enc (x1 : (List (T2 Int Int)))), .imm (.int z7.1), .imm (.int part_1), .imm (enc (x5 : (T2 Int Int))), .imm (enc (x6 : (T2 Int Int)))]) L18 r29 (show (8 : Nat) < 9 by decide) rfl fun _ L19 => ?_))))
              exact x_ret (x_tup (x_cons (x_op (x_op (x_op (x_op (x_vd (d := (enc (x5 : (T2 Int Int)))) L19 rfl fun v33 r30 => x_c (x_ixTI (x := x5.a) r30 rfl (x_vI (x := part_1) L19 rfl (x_mul hm21 fun z9 _ hm22 => x_op (x_op (x_vd (d := (enc (x6 : (T2 Int Int)))) L19 rfl fun v34 r31 => x_c (x_ixTI (x := x6.a) r31 rfl (x_op (x_c (x_vI (x := part_1) L19 rfl (x_r0 (x_mul hm22 fun z10 _ hm23 => x_r0 (x_c (x_divc ⟨by decide, by decide⟩ (x_cons (x_op (x_op (x_op (x_op (x_vd (d := (enc (x5 : (T2 Int Int)))) L19 rfl fun v35 r32 => x_c (x_ixTI (x := x5.b) r32 rfl (x_vI (x := part_1) L19 rfl (x_mul hm23 fun z11 _ hm24 => x_op (x_op (x_vd (d := (enc (x6 : (T2 Int Int)))) L19 rfl fun v36 r33 => x_c (x_ixTI (x := x6.b) r33 rfl (x_op (x_c (x_vI (x := part_1) L19 rfl (x_r0 (x_mul hm24 fun z12 _ hm25 => x_r0 (x_c (x_divc ⟨by decide, by decide⟩ (x_nil (x_mkT L19 (.cons (.int _) (.cons (.int _) .nil)) (show (2 : Nat) ≤ 16777216 by decide) fun v37 _ L20 le13 r34 => have r35 : Rep _ _ _ (enc ((T2.mk (((z9 + z10) / 12)) (((z11 + z12) / 12))) : (T2 Int Int))) v37 := r34; x_fin (Q := Q) (ps := (fun (r : ((T2 Int Int) × (List Int))) => [(p__law_bag_here, ml (r.2 : (List Int)))])) (rs := (fun (r : ((T2 Int Int) × (List Int))) => (.imm (enc (r.1 : (T2 Int Int)))))) (e := ((T2.mk (((z9 + z10) / 12)) (((z11 + z12) / 12))), z8.2)) hm25 kont (L20.fin (hp1 (L20.mrep (i := 0) rfl)) r35))))))))))))))))))))))))))))))))))))))))))
abbrev sp_sides_of (K : PySem.W.Frag) : Sp := fun vs H Q _ => ∃ (X : Addr → Prop)  (a_ring : (List (T3 Int Int Int))) (r : (List (T2 (T3 Int Int Int) (T3 Int Int Int)))), m_sides_of a_ring = some r ∧ Cond K X H [.imm (enc (a_ring : (List (T3 Int Int Int))))] vs ∧ ∀ p H', Fin K X H [] [] (.new (ml (r : (List (T2 (T3 Int Int Int) (T3 Int Int Int)))))) (.ref p) H' → Q (.ref p) H'
theorem mk_sides_of {K : PySem.W.Frag} {X : Addr → Prop} {H : Hp} {vs : List V} {Q : VK} {E : XK}  {a_ring : (List (T3 Int Int Int))} {r : (List (T2 (T3 Int Int Int) (T3 Int Int Int)))} (hm : m_sides_of a_ring = some r) (c : Cond K X H [.imm (enc (a_ring : (List (T3 Int Int Int))))] vs) (k : ∀ p H', Fin K X H [] [] (.new (ml (r : (List (T2 (T3 Int Int Int) (T3 Int Int Int)))))) (.ref p) H' → Q (.ref p) H') : sp_sides_of K vs H Q E := ⟨X, a_ring, r, hm, c, k⟩
abbrev n_sides_of : List Str := ["ring", "k"]
theorem sc_sides_of : FnScope n_sides_of ["ring"] (defScope s_sides_of) := ⟨rfl, rfl, rfl, by decide +kernel, rfl, by decide +kernel, by decide +kernel⟩
theorem ok_sides_of (T : Txt K mg) : FnOk P w K mg base CX0 1 T.A_sides_of T.D_sides_of ["ring"] (sp_sides_of K) := by
  refine Fun.ok T.F_sides_of sc_sides_of (fun vs H Q E h => ?_) (fun cdv A outer s H vs Q E hr h => ?_)
  · obtain ⟨X, a_ring, r, hm, c, kont⟩ := h
    exact c.len
  · obtain ⟨X, a_ring, r, hm, c, kont⟩ := h
    refine ⟨_, (pss_one (ps_ret (pe_lc (own := [("k", 1)]) (g := gName 1) (tt := tYes) rfl sc_sides_of.nd (pi_range1 (by rfl) T.z_range (pa_cons (pe_callB (r := rLenX K) call_lenX (by rfl) T.z_len (by decide +kernel) (pa_cons (pv 0) pa_nil)) pa_nil)) (blkOk_by (N := n_sides_of) (sc := defScope s_sides_of) (by decide +kernel)) (fun _ _ _ _ _ => (pg_name (i := 1) sc_sides_of.nd rfl (Or.inl rfl))) (fun _ _ _ _ _ => pts_nil) (fun _ _ _ _ _ => (pe_tup (pa_cons (pe_ix (r := rIxL K) ix_list (pv 0) (pe_op op_sub (pv 1) pe_int) (fun _ _ => rfl)) (pa_cons (pe_ix (r := rIxL K) ix_list (pv 0) (pv 1) (fun _ _ => rfl)) pa_nil))))))), ?_⟩
    have L0 : Lo ⟨K, X, H, muts [.imm (enc (a_ring : (List (T3 Int Int Int))))], n_sides_of.length⟩ X H (L2.start n_sides_of vs) [.imm (enc (a_ring : (List (T3 Int Int Int)))), .unk] := c.start n_sides_of (show (1 : Nat) ≤ 2 by decide)
    unfold m_sides_of at hm
    exact x_ret (x_lcr1 (x_cons (x_cb (x_cons (x_vd (d := (enc (a_ring : (List (T3 Int Int Int))))) L0 rfl fun v1 r1 => x_nil (x_lenL (xs := a_ring) r1 (x_nil (x_r1 hm fun hm1 => obE hm1 fun _ hl1 hm2 => obE hm2 fun ys1 hy1 hm3 => x_lcRN (G := (fun (s1 : Unit) => [.imm (enc (a_ring : (List (T3 Int Int Int)))), .unk])) (s0 := ()) L0 (fun _ _ => rfl) (mapO_comp hy1) (lenOk_le hl1) (fun x1 s1 _ H1 _ u1 _ _ _ hF1 L1 r2 hn1 hy2 => obE hF1 fun y1 hm4 he1 => x_cName (d := (.int x1)) (Γ' := [.imm (enc (a_ring : (List (T3 Int Int Int)))), .imm (.int x1)]) L1 r2 (show (1 : Nat) < 2 by decide) rfl fun _ L2 => x_yes (x_tup (x_cons (x_op (x_vd (d := (enc (a_ring : (List (T3 Int Int Int))))) L2 rfl fun v2 r3 => x_op (x_vI (x := x1) L2 rfl (x_c (x_r0 (x_ixL (xs := a_ring) hm4 r3 fun x2 v3 _ hm5 r4 => x_cons (x_op (x_vd (d := (enc (a_ring : (List (T3 Int Int Int))))) L2 rfl fun v4 r5 => x_vI (x := x1) L2 rfl (x_ixL (xs := a_ring) hm5 r5 fun x3 v5 _ hm6 r6 => x_nil (x_mkT L2 (.cons r4 (.cons r6 .nil)) (show (2 : Nat) ≤ 16777216 by decide) fun v6 _ L3 le1 r7 => have r8 : Rep _ _ _ (enc ((T2.mk x2 x3) : (T2 (T3 Int Int Int) (T3 Int Int Int)))) v6 := r7; x_cy (G := (fun (s1 : Unit) => [.imm (enc (a_ring : (List (T3 Int Int Int)))), .unk])) (s := s1) (s' := ()) (y := (T2.mk x2 x3)) (by cases hm6; cases he1; rfl) hy2 L1 L3 (.i rfl (.i rfl .e)) r8))))))))))))) fun p1 _ _ h01 hx1 L4 le2 => x_finP (Q := Q) (ps := (fun (r : (List (T2 (T3 Int Int Int) (T3 Int Int Int)))) => [])) (o := fun (r : (List (T2 (T3 Int Int Int) (T3 Int Int Int)))) => ml (r : (List (T2 (T3 Int Int Int) (T3 Int Int Int))))) (e := ys1) hm3 kont (L4.finT (p := p1) (i := 2) (o := ml (ys1 : (List (T2 (T3 Int Int Int) (T3 Int Int Int))))) hp0 rfl h01)))))))))
abbrev sp_crossed (K : PySem.W.Frag) : Sp := fun vs H Q _ => ∃ (X : Addr → Prop)  (a_p : (T3 Int Int Int)) (a_q : (T3 Int Int Int)) (r : (T3 Int Int Int)), m_crossed a_p a_q = some r ∧ Cond K X H [.imm (enc (a_p : (T3 Int Int Int))), .imm (enc (a_q : (T3 Int Int Int)))] vs ∧ ∀ v H', Fin K X H [] [] (.imm (enc (r : (T3 Int Int Int)))) v H' → Q v H'
theorem mk_crossed {K : PySem.W.Frag} {X : Addr → Prop} {H : Hp} {vs : List V} {Q : VK} {E : XK}  {a_p : (T3 Int Int Int)} {a_q : (T3 Int Int Int)} {r : (T3 Int Int Int)} (hm : m_crossed a_p a_q = some r) (c : Cond K X H [.imm (enc (a_p : (T3 Int Int Int))), .imm (enc (a_q : (T3 Int Int Int)))] vs) (k : ∀ v H', Fin K X H [] [] (.imm (enc (r : (T3 Int Int Int)))) v H' → Q v H') : sp_crossed K vs H Q E := ⟨X, a_p, a_q, r, hm, c, k⟩
abbrev n_crossed : List Str := ["p", "q"]
theorem sc_crossed : FnScope n_crossed ["p", "q"] (defScope s_crossed) := ⟨rfl, rfl, rfl, by decide +kernel, rfl, by decide +kernel, by decide +kernel⟩
theorem ok_crossed (T : Txt K mg) : FnOk P w K mg base CX0 1 T.A_crossed T.D_crossed ["p", "q"] (sp_crossed K) := by
  refine Fun.ok T.F_crossed sc_crossed (fun vs H Q E h => ?_) (fun cdv A outer s H vs Q E hr h => ?_)
  · obtain ⟨X, a_p, a_q, r, hm, c, kont⟩ := h
    exact c.len
  · obtain ⟨X, a_p, a_q, r, hm, c, kont⟩ := h
    refine ⟨_, (pss_one (ps_ret (pe_tup (pa_cons (pe_op op_sub (pe_op op_mulW (pe_ix (r := rIxT K) ix_tup (pv 0) pe_int (fun _ _ => rfl)) (pe_ix (r := rIxT K) ix_tup (pv 1) pe_int (fun _ _ => rfl))) (pe_op op_mulW (pe_ix (r := rIxT K) ix_tup (pv 0) pe_int (fun _ _ => rfl)) (pe_ix (r := rIxT K) ix_tup (pv 1) pe_int (fun _ _ => rfl)))) (pa_cons (pe_op op_sub (pe_op op_mulW (pe_ix (r := rIxT K) ix_tup (pv 0) pe_int (fun _ _ => rfl)) (pe_ix (r := rIxT K) ix_tup (pv 1) pe_int (fun _ _ => rfl))) (pe_op op_mulW (pe_ix (r := rIxT K) ix_tup (pv 0) pe_int (fun _ _ => rfl)) (pe_ix (r := rIxT K) ix_tup (pv 1) pe_int (fun _ _ => rfl)))) (pa_cons (pe_op op_sub (pe_op op_mulW (pe_ix (r := rIxT K) ix_tup (pv 0) pe_int (fun _ _ => rfl)) (pe_ix (r := rIxT K) ix_tup (pv 1) pe_int (fun _ _ => rfl))) (pe_op op_mulW (pe_ix (r := rIxT K) ix_tup (pv 0) pe_int (fun _ _ => rfl)) (pe_ix (r := rIxT K) ix_tup (pv 1) pe_int (fun _ _ => rfl)))) pa_nil)))))), ?_⟩
    have L0 : Lo ⟨K, X, H, muts [.imm (enc (a_p : (T3 Int Int Int))), .imm (enc (a_q : (T3 Int Int Int)))], n_crossed.length⟩ X H (L2.start n_crossed vs) [.imm (enc (a_p : (T3 Int Int Int))), .imm (enc (a_q : (T3 Int Int Int)))] := c.start n_crossed (show (2 : Nat) ≤ 2 by decide)
    unfold m_crossed at hm
    exact x_ret (x_tup (x_cons (x_op (x_op (x_op (x_vd (d := (enc (a_p : (T3 Int Int Int)))) L0 rfl fun v1 r1 => x_c (x_ixTI (x := a_p.b) r1 rfl (x_op (x_vd (d := (enc (a_q : (T3 Int Int Int)))) L0 rfl fun v2 r2 => x_c (x_ixTI (x := a_q.c) r2 rfl (x_mul hm fun z1 _ hm1 => x_op (x_op (x_vd (d := (enc (a_p : (T3 Int Int Int)))) L0 rfl fun v3 r3 => x_c (x_ixTI (x := a_p.c) r3 rfl (x_op (x_vd (d := (enc (a_q : (T3 Int Int Int)))) L0 rfl fun v4 r4 => x_c (x_ixTI (x := a_q.b) r4 rfl (x_mul hm1 fun z2 _ hm2 => x_r0 (x_cons (x_op (x_op (x_op (x_vd (d := (enc (a_p : (T3 Int Int Int)))) L0 rfl fun v5 r5 => x_c (x_ixTI (x := a_p.c) r5 rfl (x_op (x_vd (d := (enc (a_q : (T3 Int Int Int)))) L0 rfl fun v6 r6 => x_c (x_ixTI (x := a_q.a) r6 rfl (x_mul hm2 fun z3 _ hm3 => x_op (x_op (x_vd (d := (enc (a_p : (T3 Int Int Int)))) L0 rfl fun v7 r7 => x_c (x_ixTI (x := a_p.a) r7 rfl (x_op (x_vd (d := (enc (a_q : (T3 Int Int Int)))) L0 rfl fun v8 r8 => x_c (x_ixTI (x := a_q.c) r8 rfl (x_mul hm3 fun z4 _ hm4 => x_r0 (x_cons (x_op (x_op (x_op (x_vd (d := (enc (a_p : (T3 Int Int Int)))) L0 rfl fun v9 r9 => x_c (x_ixTI (x := a_p.a) r9 rfl (x_op (x_vd (d := (enc (a_q : (T3 Int Int Int)))) L0 rfl fun v10 r10 => x_c (x_ixTI (x := a_q.b) r10 rfl (x_mul hm4 fun z5 _ hm5 => x_op (x_op (x_vd (d := (enc (a_p : (T3 Int Int Int)))) L0 rfl fun v11 r11 => x_c (x_ixTI (x := a_p.b) r11 rfl (x_op (x_vd (d := (enc (a_q : (T3 Int Int Int)))) L0 rfl fun v12 r12 => x_c (x_ixTI (x := a_q.a) r12 rfl (x_mul hm5 fun z6 _ hm6 => x_r0 (x_nil (x_mkT L0 (.cons (.int _) (.cons (.int _) (.cons (.int _) .nil))) (show (3 : Nat) ≤ 16777216 by decide) fun v13 _ L1 le1 r13 => have r14 : Rep _ _ _ (enc ((T3.mk ((z1 - z2)) ((z3 - z4)) ((z5 - z6))) : (T3 Int Int Int))) v13 := r13; x_fin (Q := Q) (ps := (fun (r : (T3 Int Int Int)) => [])) (rs := (fun (r : (T3 Int Int Int)) => (.imm (enc (r : (T3 Int Int Int)))))) (e := (T3.mk ((z1 - z2)) ((z3 - z4)) ((z5 - z6)))) hm6 kont (L1.fin hp0 r14)))))))))))))))))))))))))))))))))))))))))))))))))))))))
abbrev sp_side (K : PySem.W.Frag) : Sp := fun vs H Q _ => ∃ (X : Addr → Prop)  (a_p : (T3 Int Int Int)) (a_q : (T3 Int Int Int)) (a_r : (T3 Int Int Int)) (r : Int), m_side a_p a_q a_r = some r ∧ Cond K X H [.imm (enc (a_p : (T3 Int Int Int))), .imm (enc (a_q : (T3 Int Int Int))), .imm (enc (a_r : (T3 Int Int Int)))] vs ∧ ∀ H', Fin K X H [] [] (.imm (.int r)) (.int r) H' → Q (.int r) H'
theorem mk_side {K : PySem.W.Frag} {X : Addr → Prop} {H : Hp} {vs : List V} {Q : VK} {E : XK}  {a_p : (T3 Int Int Int)} {a_q : (T3 Int Int Int)} {a_r : (T3 Int Int Int)} {r : Int} (hm : m_side a_p a_q a_r = some r) (c : Cond K X H [.imm (enc (a_p : (T3 Int Int Int))), .imm (enc (a_q : (T3 Int Int Int))), .imm (enc (a_r : (T3 Int Int Int)))] vs) (k : ∀ H', Fin K X H [] [] (.imm (.int r)) (.int r) H' → Q (.int r) H') : sp_side K vs H Q E := ⟨X, a_p, a_q, a_r, r, hm, c, k⟩
abbrev n_side : List Str := ["p", "q", "r", "line", "number"]
theorem sc_side : FnScope n_side ["p", "q", "r"] (defScope s_side) := ⟨rfl, rfl, rfl, by decide +kernel, rfl, by decide +kernel, by decide +kernel⟩
theorem ok_side (T : Txt K mg) : FnOk P w K mg base CX0 2 T.A_side T.D_side ["p", "q", "r"] (sp_side K) := by
  refine Fun.ok T.F_side sc_side (fun vs H Q E h => ?_) (fun cdv A outer s H vs Q E hr h => ?_)
  · obtain ⟨X, a_p, a_q, a_r, r, hm, c, kont⟩ := h
    exact c.len
  · obtain ⟨X, a_p, a_q, a_r, r, hm, c, kont⟩ := h
    refine ⟨_, (pss_cons (ps_set (i := 3) sc_side.nd rfl (Or.inl rfl) (pe_call (ok_crossed T) hr (by rfl) T.g_crossed T.F_crossed.kp T.b_crossed .nil pass0 (pa_cons (pv 0) (pa_cons (pv 1) pa_nil))))
      (pss_cons (ps_set (i := 4) sc_side.nd rfl (Or.inl rfl) (pe_op op_add (pe_op op_add (pe_op op_mulW (pe_ix (r := rIxT K) ix_tup (pv 3) pe_int (fun _ _ => rfl)) (pe_ix (r := rIxT K) ix_tup (pv 2) pe_int (fun _ _ => rfl))) (pe_op op_mulW (pe_ix (r := rIxT K) ix_tup (pv 3) pe_int (fun _ _ => rfl)) (pe_ix (r := rIxT K) ix_tup (pv 2) pe_int (fun _ _ => rfl)))) (pe_op op_mulW (pe_ix (r := rIxT K) ix_tup (pv 3) pe_int (fun _ _ => rfl)) (pe_ix (r := rIxT K) ix_tup (pv 2) pe_int (fun _ _ => rfl)))))
      (pss_cons (ps_if (pt_cmpR op_eq (pv 4) pe_int (nomark _)) (pss_one (ps_ret pe_int)) pss_nil)
      (pss_cons (ps_if (pt_cmpR op_gt (pv 4) pe_int (nomark _)) (pss_one (ps_ret pe_int)) pss_nil)
      (pss_one (ps_ret (pe_un un_neg pe_int))))))), ?_⟩
    have L0 : Lo ⟨K, X, H, muts [.imm (enc (a_p : (T3 Int Int Int))), .imm (enc (a_q : (T3 Int Int Int))), .imm (enc (a_r : (T3 Int Int Int)))], n_side.length⟩ X H (L2.start n_side vs) [.imm (enc (a_p : (T3 Int Int Int))), .imm (enc (a_q : (T3 Int Int Int))), .imm (enc (a_r : (T3 Int Int Int))), .unk, .unk] := c.start n_side (show (3 : Nat) ≤ 5 by decide)
    unfold m_side at hm
    refine x_seq (x_asg (x_call (x_cons (x_vd (d := (enc (a_p : (T3 Int Int Int)))) L0 rfl fun v1 r1 => x_cons (x_vd (d := (enc (a_q : (T3 Int Int Int)))) L0 rfl fun v2 r2 => x_nil (obE hm fun z1 hz1 hm1 => mk_crossed hz1 (L0.cond0 (.im r1 (.im r2 .nil)) rfl) fun v3 _ F1 => k0d L0 F1 fun L1 le1 r3 => x_set (d := (enc (z1 : (T3 Int Int Int)))) (Γ' := [.imm (enc (a_p : (T3 Int Int Int))), .imm (enc (a_q : (T3 Int Int Int))), .imm (enc (a_r : (T3 Int Int Int))), .imm (enc (z1 : (T3 Int Int Int))), .unk]) L1 r3 (show (3 : Nat) < 5 by decide) rfl fun _ L2 => ?_))))))
    refine x_seq (x_asg (x_op (x_op (x_op (x_op (x_vd (d := (enc (z1 : (T3 Int Int Int)))) L2 rfl fun v4 r4 => x_c (x_ixTI (x := z1.a) r4 rfl (x_op (x_vd (d := (enc (a_r : (T3 Int Int Int)))) L2 rfl fun v5 r5 => x_c (x_ixTI (x := a_r.a) r5 rfl (x_mul hm1 fun z2 _ hm2 => x_op (x_op (x_vd (d := (enc (z1 : (T3 Int Int Int)))) L2 rfl fun v6 r6 => x_c (x_ixTI (x := z1.b) r6 rfl (x_op (x_vd (d := (enc (a_r : (T3 Int Int Int)))) L2 rfl fun v7 r7 => x_c (x_ixTI (x := a_r.b) r7 rfl (x_mul hm2 fun z3 _ hm3 => x_r0 (x_op (x_op (x_vd (d := (enc (z1 : (T3 Int Int Int)))) L2 rfl fun v8 r8 => x_c (x_ixTI (x := z1.c) r8 rfl (x_op (x_vd (d := (enc (a_r : (T3 Int Int Int)))) L2 rfl fun v9 r9 => x_c (x_ixTI (x := a_r.c) r9 rfl (x_mul hm3 fun z4 _ hm4 => x_r0 (x_bset (x0 := ((z2 + z3) + z4)) (d := fun number_1 => (.int number_1)) (Γf := fun number_1 => [.imm (enc (a_p : (T3 Int Int Int))), .imm (enc (a_q : (T3 Int Int Int))), .imm (enc (a_r : (T3 Int Int Int))), .imm (enc (z1 : (T3 Int Int Int))), .imm (.int number_1)]) hm4 L2 (.int _) (show (4 : Nat) < 5 by decide) (fun _ => rfl) fun number_1 _ hm5 L3 => ?_)))))))))))))))))))))))))))
    refine x_seq (x_ifS (x_test (x_op (x_vI (x := number_1) L3 rfl (x_c (x_eqi (x_kb (x_if hm5 (fun hm6 => ?_) fun hm6 => ?_))))))))
    · exact x_ret (x_c (x_finI (Q := Q) (ps := (fun (r : Int) => [])) (sc := fun (r : Int) => r) 0 hm6 kont (L3.fin hp0 (.int _))))
    · refine x_next ?_
      refine x_seq (x_ifS (x_test (x_op (x_vI (x := number_1) L3 rfl (x_c (x_r0 (x_kb (x_if hm6 (fun hm7 => ?_) fun hm7 => ?_))))))))
      · exact x_ret (x_c (x_finI (Q := Q) (ps := (fun (r : Int) => [])) (sc := fun (r : Int) => r) 1 hm7 kont (L3.fin hp0 (.int _))))
      · refine x_next ?_
        exact x_ret (x_un (x_c (x_u (x_finI (Q := Q) (ps := (fun (r : Int) => [])) (sc := fun (r : Int) => r) ((-1)) hm7 kont (L3.fin hp0 (.int _))))))
abbrev n_is_amid : List Str := ["a", "b", "c"]
theorem sc_is_amid : FnScope n_is_amid ["a", "b", "c"] (defScope s_is_amid) := ⟨rfl, rfl, rfl, by decide +kernel, rfl, by decide +kernel, by decide +kernel⟩
abbrev sp_is_amid_b (K : PySem.W.Frag) : Sp := fun vs H Q _ => ∃ (X : Addr → Prop)  (a_a : (T2 Int Int)) (a_b : (T2 Int Int)) (a_c : (T2 Int Int)) (r : Bool), m_is_amid_b a_a a_b a_c = some r ∧ Cond K X H [.imm (enc (a_a : (T2 Int Int))), .imm (enc (a_b : (T2 Int Int))), .imm (enc (a_c : (T2 Int Int)))] vs ∧ ∀ H', Fin K X H [] [] (.imm (.bool r)) (.bl r) H' → Q (.bl r) H'
theorem mk_is_amid_b {K : PySem.W.Frag} {X : Addr → Prop} {H : Hp} {vs : List V} {Q : VK} {E : XK}  {a_a : (T2 Int Int)} {a_b : (T2 Int Int)} {a_c : (T2 Int Int)} {r : Bool} (hm : m_is_amid_b a_a a_b a_c = some r) (c : Cond K X H [.imm (enc (a_a : (T2 Int Int))), .imm (enc (a_b : (T2 Int Int))), .imm (enc (a_c : (T2 Int Int)))] vs) (k : ∀ H', Fin K X H [] [] (.imm (.bool r)) (.bl r) H' → Q (.bl r) H') : sp_is_amid_b K vs H Q E := ⟨X, a_a, a_b, a_c, r, hm, c, k⟩
theorem ok_is_amid_b (T : Txt K mg) : FnOk P w K mg base CX0 1 T.A_is_amid T.D_is_amid ["a", "b", "c"] (sp_is_amid_b K) := by
  refine Fun.ok T.F_is_amid sc_is_amid (fun vs H Q E h => ?_) (fun cdv A outer s H vs Q E hr h => ?_)
  · obtain ⟨X, a_a, a_b, a_c, r, hm, c, kont⟩ := h
    exact c.len
  · obtain ⟨X, a_a, a_b, a_c, r, hm, c, kont⟩ := h
    refine ⟨_, (pss_cons (ps_if (pt_cmpR op_gt (pe_op op_mulW (pe_ix (r := rIxT K) ix_tup (pv 0) pe_int (fun _ _ => rfl)) (pe_ix (r := rIxT K) ix_tup (pv 1) pe_int (fun _ _ => rfl))) (pe_op op_mulW (pe_ix (r := rIxT K) ix_tup (pv 1) pe_int (fun _ _ => rfl)) (pe_ix (r := rIxT K) ix_tup (pv 0) pe_int (fun _ _ => rfl))) (nomark _)) (pss_one ps_never) pss_nil)
      (pss_one (ps_ret (pe_and (pe_cmpR op_le (pe_op op_mulW (pe_ix (r := rIxT K) ix_tup (pv 0) pe_int (fun _ _ => rfl)) (pe_ix (r := rIxT K) ix_tup (pv 2) pe_int (fun _ _ => rfl))) (pe_op op_mulW (pe_ix (r := rIxT K) ix_tup (pv 2) pe_int (fun _ _ => rfl)) (pe_ix (r := rIxT K) ix_tup (pv 0) pe_int (fun _ _ => rfl))) (nomark _)) (pe_one (pe_cmpR op_le (pe_op op_mulW (pe_ix (r := rIxT K) ix_tup (pv 2) pe_int (fun _ _ => rfl)) (pe_ix (r := rIxT K) ix_tup (pv 1) pe_int (fun _ _ => rfl))) (pe_op op_mulW (pe_ix (r := rIxT K) ix_tup (pv 1) pe_int (fun _ _ => rfl)) (pe_ix (r := rIxT K) ix_tup (pv 2) pe_int (fun _ _ => rfl))) (nomark _))))))), ?_⟩
    have L0 : Lo ⟨K, X, H, muts [.imm (enc (a_a : (T2 Int Int))), .imm (enc (a_b : (T2 Int Int))), .imm (enc (a_c : (T2 Int Int)))], n_is_amid.length⟩ X H (L2.start n_is_amid vs) [.imm (enc (a_a : (T2 Int Int))), .imm (enc (a_b : (T2 Int Int))), .imm (enc (a_c : (T2 Int Int)))] := c.start n_is_amid (show (3 : Nat) ≤ 3 by decide)
    unfold m_is_amid_b at hm
    refine x_seq (x_ifS (x_test (x_op (x_op (x_op (x_vd (d := (enc (a_a : (T2 Int Int)))) L0 rfl fun v1 r1 => x_c (x_ixTI (x := a_a.a) r1 rfl (x_op (x_vd (d := (enc (a_b : (T2 Int Int)))) L0 rfl fun v2 r2 => x_c (x_ixTI (x := a_b.b) r2 rfl (x_mul hm fun z1 _ hm1 => x_op (x_op (x_vd (d := (enc (a_b : (T2 Int Int)))) L0 rfl fun v3 r3 => x_c (x_ixTI (x := a_b.a) r3 rfl (x_op (x_vd (d := (enc (a_a : (T2 Int Int)))) L0 rfl fun v4 r4 => x_c (x_ixTI (x := a_a.b) r4 rfl (x_mul hm1 fun z2 _ hm2 => x_r0 (x_kb (x_if hm2 (fun hm3 => ?_) fun hm3 => ?_))))))))))))))))))))
    · exact (nomatch hm3)
    · refine x_next ?_
      exact x_ret (x_andV (x_op (x_op (x_op (x_vd (d := (enc (a_a : (T2 Int Int)))) L0 rfl fun v5 r5 => x_c (x_ixTI (x := a_a.a) r5 rfl (x_op (x_vd (d := (enc (a_c : (T2 Int Int)))) L0 rfl fun v6 r6 => x_c (x_ixTI (x := a_c.b) r6 rfl (x_mul hm3 fun z3 _ hm4 => x_op (x_op (x_vd (d := (enc (a_c : (T2 Int Int)))) L0 rfl fun v7 r7 => x_c (x_ixTI (x := a_c.a) r7 rfl (x_op (x_vd (d := (enc (a_a : (T2 Int Int)))) L0 rfl fun v8 r8 => x_c (x_ixTI (x := a_a.b) r8 rfl (x_mul hm4 fun z4 _ hm5 => x_r0 (x_kb (x_andVB L0 hm5 (fun _ hm8 _ hq => x_op (x_op (x_op (x_vd (d := (enc (a_c : (T2 Int Int)))) L0 rfl fun v13 r13 => x_c (x_ixTI (x := a_c.a) r13 rfl (x_op (x_vd (d := (enc (a_b : (T2 Int Int)))) L0 rfl fun v14 r14 => x_c (x_ixTI (x := a_b.b) r14 rfl (x_mul hm8 fun z7 _ hm9 => x_op (x_op (x_vd (d := (enc (a_b : (T2 Int Int)))) L0 rfl fun v15 r15 => x_c (x_ixTI (x := a_b.a) r15 rfl (x_op (x_vd (d := (enc (a_c : (T2 Int Int)))) L0 rfl fun v16 r16 => x_c (x_ixTI (x := a_c.b) r16 rfl (x_mul hm9 fun z8 _ hm10 => x_r0 (x_lfV hm10 hq L0))))))))))))))))) fun b1 _ hm11 L1 => x_finB (Q := Q) (ps := (fun (r : Bool) => [])) (sc := fun (r : Bool) => r) b1 hm11 kont (L1.fin hp0 (.bl _)))))))))))))))))))))
abbrev sp_is_amid (K : PySem.W.Frag) : Sp := fun vs H Q _ => ∃ (X : Addr → Prop)  (a_a : (T2 Int Int)) (a_b : (T2 Int Int)) (a_c : (T2 Int Int)) (r : Bool), m_is_amid a_a a_b a_c = some r ∧ Cond K X H [.imm (enc (a_a : (T2 Int Int))), .imm (enc (a_b : (T2 Int Int))), .imm (enc (a_c : (T2 Int Int)))] vs ∧ ∀ H', Fin K X H [] [] (.imm (.bool r)) (.bl r) H' → Q (.bl r) H'
theorem mk_is_amid {K : PySem.W.Frag} {X : Addr → Prop} {H : Hp} {vs : List V} {Q : VK} {E : XK}  {a_a : (T2 Int Int)} {a_b : (T2 Int Int)} {a_c : (T2 Int Int)} {r : Bool} (hm : m_is_amid a_a a_b a_c = some r) (c : Cond K X H [.imm (enc (a_a : (T2 Int Int))), .imm (enc (a_b : (T2 Int Int))), .imm (enc (a_c : (T2 Int Int)))] vs) (k : ∀ H', Fin K X H [] [] (.imm (.bool r)) (.bl r) H' → Q (.bl r) H') : sp_is_amid K vs H Q E := ⟨X, a_a, a_b, a_c, r, hm, c, k⟩
theorem ok_is_amid (T : Txt K mg) : FnOk P w K mg base CX0 2 T.A_is_amid T.D_is_amid ["a", "b", "c"] (sp_is_amid K) := by
  refine Fun.ok T.F_is_amid sc_is_amid (fun vs H Q E h => ?_) (fun cdv A outer s H vs Q E hr h => ?_)
  · obtain ⟨X, a_a, a_b, a_c, r, hm, c, kont⟩ := h
    exact c.len
  · obtain ⟨X, a_a, a_b, a_c, r, hm, c, kont⟩ := h
    refine ⟨_, (pss_cons (ps_if (pt_cmpR op_gt (pe_op op_mulW (pe_ix (r := rIxT K) ix_tup (pv 0) pe_int (fun _ _ => rfl)) (pe_ix (r := rIxT K) ix_tup (pv 1) pe_int (fun _ _ => rfl))) (pe_op op_mulW (pe_ix (r := rIxT K) ix_tup (pv 1) pe_int (fun _ _ => rfl)) (pe_ix (r := rIxT K) ix_tup (pv 0) pe_int (fun _ _ => rfl))) (nomark _)) (pss_one (ps_ret (pe_call (ok_is_amid_b T) (hr.mono (by decide)) (by rfl) T.g_is_amid T.F_is_amid.kp T.b_is_amid .nil pass0 (pa_cons (pv 1) (pa_cons (pv 0) (pa_cons (pv 2) pa_nil)))))) pss_nil)
      (pss_one (ps_ret (pe_and (pe_cmpR op_le (pe_op op_mulW (pe_ix (r := rIxT K) ix_tup (pv 0) pe_int (fun _ _ => rfl)) (pe_ix (r := rIxT K) ix_tup (pv 2) pe_int (fun _ _ => rfl))) (pe_op op_mulW (pe_ix (r := rIxT K) ix_tup (pv 2) pe_int (fun _ _ => rfl)) (pe_ix (r := rIxT K) ix_tup (pv 0) pe_int (fun _ _ => rfl))) (nomark _)) (pe_one (pe_cmpR op_le (pe_op op_mulW (pe_ix (r := rIxT K) ix_tup (pv 2) pe_int (fun _ _ => rfl)) (pe_ix (r := rIxT K) ix_tup (pv 1) pe_int (fun _ _ => rfl))) (pe_op op_mulW (pe_ix (r := rIxT K) ix_tup (pv 1) pe_int (fun _ _ => rfl)) (pe_ix (r := rIxT K) ix_tup (pv 2) pe_int (fun _ _ => rfl))) (nomark _))))))), ?_⟩
    have L0 : Lo ⟨K, X, H, muts [.imm (enc (a_a : (T2 Int Int))), .imm (enc (a_b : (T2 Int Int))), .imm (enc (a_c : (T2 Int Int)))], n_is_amid.length⟩ X H (L2.start n_is_amid vs) [.imm (enc (a_a : (T2 Int Int))), .imm (enc (a_b : (T2 Int Int))), .imm (enc (a_c : (T2 Int Int)))] := c.start n_is_amid (show (3 : Nat) ≤ 3 by decide)
    unfold m_is_amid at hm
    refine x_seq (x_ifS (x_test (x_op (x_op (x_op (x_vd (d := (enc (a_a : (T2 Int Int)))) L0 rfl fun v1 r1 => x_c (x_ixTI (x := a_a.a) r1 rfl (x_op (x_vd (d := (enc (a_b : (T2 Int Int)))) L0 rfl fun v2 r2 => x_c (x_ixTI (x := a_b.b) r2 rfl (x_mul hm fun z1 _ hm1 => x_op (x_op (x_vd (d := (enc (a_b : (T2 Int Int)))) L0 rfl fun v3 r3 => x_c (x_ixTI (x := a_b.a) r3 rfl (x_op (x_vd (d := (enc (a_a : (T2 Int Int)))) L0 rfl fun v4 r4 => x_c (x_ixTI (x := a_a.b) r4 rfl (x_mul hm1 fun z2 _ hm2 => x_r0 (x_kb (x_if hm2 (fun hm3 => ?_) fun hm3 => ?_))))))))))))))))))))
    · exact x_ret (x_call (x_cons (x_vd (d := (enc (a_b : (T2 Int Int)))) L0 rfl fun v5 r5 => x_cons (x_vd (d := (enc (a_a : (T2 Int Int)))) L0 rfl fun v6 r6 => x_cons (x_vd (d := (enc (a_c : (T2 Int Int)))) L0 rfl fun v7 r7 => x_nil (obE hm3 fun z3 hz1 hm4 => mk_is_amid_b hz1 (L0.cond0 (.im r5 (.im r6 (.im r7 .nil))) rfl) fun _ F1 => k0 L0 F1 fun L1 le1 => x_finB (Q := Q) (ps := (fun (r : Bool) => [])) (sc := fun (r : Bool) => r) z3 hm4 kont (L1.fin hp0 (.bl _))))))))
    · refine x_next ?_
      exact x_ret (x_andV (x_op (x_op (x_op (x_vd (d := (enc (a_a : (T2 Int Int)))) L0 rfl fun v9 r8 => x_c (x_ixTI (x := a_a.a) r8 rfl (x_op (x_vd (d := (enc (a_c : (T2 Int Int)))) L0 rfl fun v10 r9 => x_c (x_ixTI (x := a_c.b) r9 rfl (x_mul hm3 fun z4 _ hm5 => x_op (x_op (x_vd (d := (enc (a_c : (T2 Int Int)))) L0 rfl fun v11 r10 => x_c (x_ixTI (x := a_c.a) r10 rfl (x_op (x_vd (d := (enc (a_a : (T2 Int Int)))) L0 rfl fun v12 r11 => x_c (x_ixTI (x := a_a.b) r11 rfl (x_mul hm5 fun z5 _ hm6 => x_r0 (x_kb (x_andVB L0 hm6 (fun _ hm9 _ hq => x_op (x_op (x_op (x_vd (d := (enc (a_c : (T2 Int Int)))) L0 rfl fun v17 r16 => x_c (x_ixTI (x := a_c.a) r16 rfl (x_op (x_vd (d := (enc (a_b : (T2 Int Int)))) L0 rfl fun v18 r17 => x_c (x_ixTI (x := a_b.b) r17 rfl (x_mul hm9 fun z8 _ hm10 => x_op (x_op (x_vd (d := (enc (a_b : (T2 Int Int)))) L0 rfl fun v19 r18 => x_c (x_ixTI (x := a_b.a) r18 rfl (x_op (x_vd (d := (enc (a_c : (T2 Int Int)))) L0 rfl fun v20 r19 => x_c (x_ixTI (x := a_c.b) r19 rfl (x_mul hm10 fun z9 _ hm11 => x_r0 (x_lfV hm11 hq L0))))))))))))))))) fun b1 _ hm12 L2 => x_finB (Q := Q) (ps := (fun (r : Bool) => [])) (sc := fun (r : Bool) => r) b1 hm12 kont (L2.fin hp0 (.bl _)))))))))))))))))))))
abbrev sp_lies_on (K : PySem.W.Frag) : Sp := fun vs H Q _ => ∃ (X : Addr → Prop)  (a_p : (T3 Int Int Int)) (a_q : (T3 Int Int Int)) (a_r : (T3 Int Int Int)) (r : Bool), m_lies_on a_p a_q a_r = some r ∧ Cond K X H [.imm (enc (a_p : (T3 Int Int Int))), .imm (enc (a_q : (T3 Int Int Int))), .imm (enc (a_r : (T3 Int Int Int)))] vs ∧ ∀ H', Fin K X H [] [] (.imm (.bool r)) (.bl r) H' → Q (.bl r) H'
theorem mk_lies_on {K : PySem.W.Frag} {X : Addr → Prop} {H : Hp} {vs : List V} {Q : VK} {E : XK}  {a_p : (T3 Int Int Int)} {a_q : (T3 Int Int Int)} {a_r : (T3 Int Int Int)} {r : Bool} (hm : m_lies_on a_p a_q a_r = some r) (c : Cond K X H [.imm (enc (a_p : (T3 Int Int Int))), .imm (enc (a_q : (T3 Int Int Int))), .imm (enc (a_r : (T3 Int Int Int)))] vs) (k : ∀ H', Fin K X H [] [] (.imm (.bool r)) (.bl r) H' → Q (.bl r) H') : sp_lies_on K vs H Q E := ⟨X, a_p, a_q, a_r, r, hm, c, k⟩
abbrev n_lies_on : List Str := ["p", "q", "r"]
theorem sc_lies_on : FnScope n_lies_on ["p", "q", "r"] (defScope s_lies_on) := ⟨rfl, rfl, rfl, by decide +kernel, rfl, by decide +kernel, by decide +kernel⟩
theorem ok_lies_on (T : Txt K mg) : FnOk P w K mg base CX0 3 T.A_lies_on T.D_lies_on ["p", "q", "r"] (sp_lies_on K) := by
  refine Fun.ok T.F_lies_on sc_lies_on (fun vs H Q E h => ?_) (fun cdv A outer s H vs Q E hr h => ?_)
  · obtain ⟨X, a_p, a_q, a_r, r, hm, c, kont⟩ := h
    exact c.len
  · obtain ⟨X, a_p, a_q, a_r, r, hm, c, kont⟩ := h
    refine ⟨_, (pss_cons (ps_if (pt_cmpR op_ne (pe_call (ok_side T) hr (by rfl) T.g_side T.F_side.kp T.b_side .nil pass0 (pa_cons (pv 0) (pa_cons (pv 1) (pa_cons (pv 2) pa_nil)))) pe_int (nomark _)) (pss_one (ps_ret pe_bl)) pss_nil)
      (pss_cons (ps_if (pt_not (pt_val (pe_call (ok_is_amid T) hr (by rfl) T.g_is_amid T.F_is_amid.kp T.b_is_amid .nil pass0 (pa_cons (pe_tup (pa_cons (pe_ix (r := rIxT K) ix_tup (pv 0) pe_int (fun _ _ => rfl)) (pa_cons (pe_ix (r := rIxT K) ix_tup (pv 0) pe_int (fun _ _ => rfl)) pa_nil))) (pa_cons (pe_tup (pa_cons (pe_ix (r := rIxT K) ix_tup (pv 1) pe_int (fun _ _ => rfl)) (pa_cons (pe_ix (r := rIxT K) ix_tup (pv 1) pe_int (fun _ _ => rfl)) pa_nil))) (pa_cons (pe_tup (pa_cons (pe_ix (r := rIxT K) ix_tup (pv 2) pe_int (fun _ _ => rfl)) (pa_cons (pe_ix (r := rIxT K) ix_tup (pv 2) pe_int (fun _ _ => rfl)) pa_nil))) pa_nil)))))) (pss_one (ps_ret pe_bl)) pss_nil)
      (pss_one (ps_ret (pe_call (ok_is_amid T) hr (by rfl) T.g_is_amid T.F_is_amid.kp T.b_is_amid .nil pass0 (pa_cons (pe_tup (pa_cons (pe_ix (r := rIxT K) ix_tup (pv 0) pe_int (fun _ _ => rfl)) (pa_cons (pe_ix (r := rIxT K) ix_tup (pv 0) pe_int (fun _ _ => rfl)) pa_nil))) (pa_cons (pe_tup (pa_cons (pe_ix (r := rIxT K) ix_tup (pv 1) pe_int (fun _ _ => rfl)) (pa_cons (pe_ix (r := rIxT K) ix_tup (pv 1) pe_int (fun _ _ => rfl)) pa_nil))) (pa_cons (pe_tup (pa_cons (pe_ix (r := rIxT K) ix_tup (pv 2) pe_int (fun _ _ => rfl)) (pa_cons (pe_ix (r := rIxT K) ix_tup (pv 2) pe_int (fun _ _ => rfl)) pa_nil))) pa_nil)))))))), ?_⟩
    have L0 : Lo ⟨K, X, H, muts [.imm (enc (a_p : (T3 Int Int Int))), .imm (enc (a_q : (T3 Int Int Int))), .imm (enc (a_r : (T3 Int Int Int)))], n_lies_on.length⟩ X H (L2.start n_lies_on vs) [.imm (enc (a_p : (T3 Int Int Int))), .imm (enc (a_q : (T3 Int Int Int))), .imm (enc (a_r : (T3 Int Int Int)))] := c.start n_lies_on (show (3 : Nat) ≤ 3 by decide)
    unfold m_lies_on at hm
    refine x_seq (x_ifS (x_test (x_op (x_call (x_cons (x_vd (d := (enc (a_p : (T3 Int Int Int)))) L0 rfl fun v1 r1 => x_cons (x_vd (d := (enc (a_q : (T3 Int Int Int)))) L0 rfl fun v2 r2 => x_cons (x_vd (d := (enc (a_r : (T3 Int Int Int)))) L0 rfl fun v3 r3 => x_nil (obE hm fun z1 hz1 hm1 => mk_side hz1 (L0.cond0 (.im r1 (.im r2 (.im r3 .nil))) rfl) fun _ F1 => k0 L0 F1 fun L1 le1 => x_c (x_nei (x_kb (x_if hm1 (fun hm2 => ?_) fun hm2 => ?_))))))))))))
    · exact x_ret (x_c (x_finB (Q := Q) (ps := (fun (r : Bool) => [])) (sc := fun (r : Bool) => r) false hm2 kont (L1.fin hp0 (.bl _))))
    · refine x_next ?_
      refine x_seq (x_ifS (x_not (x_tB (x_call (x_cons (x_tup (x_cons (x_op (x_vd (d := (enc (a_p : (T3 Int Int Int)))) L1 rfl fun v5 r4 => x_c (x_ixTI (x := a_p.a) r4 rfl (x_cons (x_op (x_vd (d := (enc (a_p : (T3 Int Int Int)))) L1 rfl fun v6 r5 => x_c (x_ixTI (x := a_p.c) r5 rfl (x_nil (x_mkT L1 (.cons (.int _) (.cons (.int _) .nil)) (show (2 : Nat) ≤ 16777216 by decide) fun v7 _ L2 le2 r6 => have r7 : Rep _ _ _ (enc ((T2.mk a_p.a a_p.c) : (T2 Int Int))) v7 := r6; x_cons (x_tup (x_cons (x_op (x_vd (d := (enc (a_q : (T3 Int Int Int)))) L2 rfl fun v8 r8 => x_c (x_ixTI (x := a_q.a) r8 rfl (x_cons (x_op (x_vd (d := (enc (a_q : (T3 Int Int Int)))) L2 rfl fun v9 r9 => x_c (x_ixTI (x := a_q.c) r9 rfl (x_nil (x_mkT L2 (.cons (.int _) (.cons (.int _) .nil)) (show (2 : Nat) ≤ 16777216 by decide) fun v10 _ L3 le3 r10 => have r11 := le3 _ _ r7; have r12 : Rep _ _ _ (enc ((T2.mk a_q.a a_q.c) : (T2 Int Int))) v10 := r10; x_cons (x_tup (x_cons (x_op (x_vd (d := (enc (a_r : (T3 Int Int Int)))) L3 rfl fun v11 r13 => x_c (x_ixTI (x := a_r.a) r13 rfl (x_cons (x_op (x_vd (d := (enc (a_r : (T3 Int Int Int)))) L3 rfl fun v12 r14 => x_c (x_ixTI (x := a_r.c) r14 rfl (x_nil (x_mkT L3 (.cons (.int _) (.cons (.int _) .nil)) (show (2 : Nat) ≤ 16777216 by decide) fun v13 _ L4 le4 r15 => have r16 := le4 _ _ r11; have r17 := le4 _ _ r12; have r18 : Rep _ _ _ (enc ((T2.mk a_r.a a_r.c) : (T2 Int Int))) v13 := r15; x_nil (obE hm2 fun z2 hz2 hm3 => mk_is_amid hz2 (L4.cond0 (.im r16 (.im r17 (.im r18 .nil))) rfl) fun _ F2 => k0 L4 F2 fun L5 le5 => x_kb (x_kn (x_if hm3 (fun hm4 => ?_) fun hm4 => ?_)))))))))))))))))))))))))))))))))))))))))
      · exact x_ret (x_c (x_finB (Q := Q) (ps := (fun (r : Bool) => [])) (sc := fun (r : Bool) => r) false hm4 kont (L5.fin hp0 (.bl _))))
      · refine x_next ?_
        exact x_ret (x_call (x_cons (x_tup (x_cons (x_op (x_vd (d := (enc (a_p : (T3 Int Int Int)))) L5 rfl fun v15 r19 => x_c (x_ixTI (x := a_p.b) r19 rfl (x_cons (x_op (x_vd (d := (enc (a_p : (T3 Int Int Int)))) L5 rfl fun v16 r20 => x_c (x_ixTI (x := a_p.c) r20 rfl (x_nil (x_mkT L5 (.cons (.int _) (.cons (.int _) .nil)) (show (2 : Nat) ≤ 16777216 by decide) fun v17 _ L6 le6 r21 => have r22 : Rep _ _ _ (enc ((T2.mk a_p.b a_p.c) : (T2 Int Int))) v17 := r21; x_cons (x_tup (x_cons (x_op (x_vd (d := (enc (a_q : (T3 Int Int Int)))) L6 rfl fun v18 r23 => x_c (x_ixTI (x := a_q.b) r23 rfl (x_cons (x_op (x_vd (d := (enc (a_q : (T3 Int Int Int)))) L6 rfl fun v19 r24 => x_c (x_ixTI (x := a_q.c) r24 rfl (x_nil (x_mkT L6 (.cons (.int _) (.cons (.int _) .nil)) (show (2 : Nat) ≤ 16777216 by decide) fun v20 _ L7 le7 r25 => have r26 := le7 _ _ r22; have r27 : Rep _ _ _ (enc ((T2.mk a_q.b a_q.c) : (T2 Int Int))) v20 := r25; x_cons (x_tup (x_cons (x_op (x_vd (d := (enc (a_r : (T3 Int Int Int)))) L7 rfl fun v21 r28 => x_c (x_ixTI (x := a_r.b) r28 rfl (x_cons (x_op (x_vd (d := (enc (a_r : (T3 Int Int Int)))) L7 rfl fun v22 r29 => x_c (x_ixTI (x := a_r.c) r29 rfl (x_nil (x_mkT L7 (.cons (.int _) (.cons (.int _) .nil)) (show (2 : Nat) ≤ 16777216 by decide) fun v23 _ L8 le8 r30 => have r31 := le8 _ _ r26; have r32 := le8 _ _ r27; have r33 : Rep _ _ _ (enc ((T2.mk a_r.b a_r.c) : (T2 Int Int))) v23 := r30; x_nil (obE hm4 fun z3 hz3 hm5 => mk_is_amid hz3 (L8.cond0 (.im r31 (.im r32 (.im r33 .nil))) rfl) fun _ F3 => k0 L8 F3 fun L9 le9 => x_finB (Q := Q) (ps := (fun (r : Bool) => [])) (sc := fun (r : Bool) => r) z3 hm5 kont (L9.fin hp0 (.bl _))))))))))))))))))))))))))))))))))))))
abbrev sp_is_higher (K : PySem.W.Frag) : Sp := fun vs H Q _ => ∃ (X : Addr → Prop)  (a_p : (T3 Int Int Int)) (a_q : (T3 Int Int Int)) (r : Bool), m_is_higher a_p a_q = some r ∧ Cond K X H [.imm (enc (a_p : (T3 Int Int Int))), .imm (enc (a_q : (T3 Int Int Int)))] vs ∧ ∀ H', Fin K X H [] [] (.imm (.bool r)) (.bl r) H' → Q (.bl r) H'
theorem mk_is_higher {K : PySem.W.Frag} {X : Addr → Prop} {H : Hp} {vs : List V} {Q : VK} {E : XK}  {a_p : (T3 Int Int Int)} {a_q : (T3 Int Int Int)} {r : Bool} (hm : m_is_higher a_p a_q = some r) (c : Cond K X H [.imm (enc (a_p : (T3 Int Int Int))), .imm (enc (a_q : (T3 Int Int Int)))] vs) (k : ∀ H', Fin K X H [] [] (.imm (.bool r)) (.bl r) H' → Q (.bl r) H') : sp_is_higher K vs H Q E := ⟨X, a_p, a_q, r, hm, c, k⟩
abbrev n_is_higher : List Str := ["p", "q"]
theorem sc_is_higher : FnScope n_is_higher ["p", "q"] (defScope s_is_higher) := ⟨rfl, rfl, rfl, by decide +kernel, rfl, by decide +kernel, by decide +kernel⟩
theorem ok_is_higher (T : Txt K mg) : FnOk P w K mg base CX0 1 T.A_is_higher T.D_is_higher ["p", "q"] (sp_is_higher K) := by
  refine Fun.ok T.F_is_higher sc_is_higher (fun vs H Q E h => ?_) (fun cdv A outer s H vs Q E hr h => ?_)
  · obtain ⟨X, a_p, a_q, r, hm, c, kont⟩ := h
    exact c.len
  · obtain ⟨X, a_p, a_q, r, hm, c, kont⟩ := h
    refine ⟨_, (pss_one (ps_ret (pe_cmpR op_gt (pe_op op_mulW (pe_ix (r := rIxT K) ix_tup (pv 0) pe_int (fun _ _ => rfl)) (pe_ix (r := rIxT K) ix_tup (pv 1) pe_int (fun _ _ => rfl))) (pe_op op_mulW (pe_ix (r := rIxT K) ix_tup (pv 1) pe_int (fun _ _ => rfl)) (pe_ix (r := rIxT K) ix_tup (pv 0) pe_int (fun _ _ => rfl))) (nomark _)))), ?_⟩
    have L0 : Lo ⟨K, X, H, muts [.imm (enc (a_p : (T3 Int Int Int))), .imm (enc (a_q : (T3 Int Int Int)))], n_is_higher.length⟩ X H (L2.start n_is_higher vs) [.imm (enc (a_p : (T3 Int Int Int))), .imm (enc (a_q : (T3 Int Int Int)))] := c.start n_is_higher (show (2 : Nat) ≤ 2 by decide)
    unfold m_is_higher at hm
    exact x_ret (x_op (x_op (x_op (x_vd (d := (enc (a_p : (T3 Int Int Int)))) L0 rfl fun v1 r1 => x_c (x_ixTI (x := a_p.b) r1 rfl (x_op (x_vd (d := (enc (a_q : (T3 Int Int Int)))) L0 rfl fun v2 r2 => x_c (x_ixTI (x := a_q.c) r2 rfl (x_mul hm fun z1 _ hm1 => x_op (x_op (x_vd (d := (enc (a_q : (T3 Int Int Int)))) L0 rfl fun v3 r3 => x_c (x_ixTI (x := a_q.b) r3 rfl (x_op (x_vd (d := (enc (a_p : (T3 Int Int Int)))) L0 rfl fun v4 r4 => x_c (x_ixTI (x := a_p.c) r4 rfl (x_mul hm1 fun z2 _ hm2 => x_r0 (x_finB (Q := Q) (ps := (fun (r : Bool) => [])) (sc := fun (r : Bool) => r) ((decide (z2 < z1))) hm2 kont (L0.fin hp0 (.bl _)))))))))))))))))))
abbrev sp_goes_by (K : PySem.W.Frag) : Sp := fun vs H Q _ => ∃ (X : Addr → Prop)  (a_p : (T3 Int Int Int)) (a_q : (T3 Int Int Int)) (a_r : (T3 Int Int Int)) (r : Bool), m_goes_by a_p a_q a_r = some r ∧ Cond K X H [.imm (enc (a_p : (T3 Int Int Int))), .imm (enc (a_q : (T3 Int Int Int))), .imm (enc (a_r : (T3 Int Int Int)))] vs ∧ ∀ H', Fin K X H [] [] (.imm (.bool r)) (.bl r) H' → Q (.bl r) H'
theorem mk_goes_by {K : PySem.W.Frag} {X : Addr → Prop} {H : Hp} {vs : List V} {Q : VK} {E : XK}  {a_p : (T3 Int Int Int)} {a_q : (T3 Int Int Int)} {a_r : (T3 Int Int Int)} {r : Bool} (hm : m_goes_by a_p a_q a_r = some r) (c : Cond K X H [.imm (enc (a_p : (T3 Int Int Int))), .imm (enc (a_q : (T3 Int Int Int))), .imm (enc (a_r : (T3 Int Int Int)))] vs) (k : ∀ H', Fin K X H [] [] (.imm (.bool r)) (.bl r) H' → Q (.bl r) H') : sp_goes_by K vs H Q E := ⟨X, a_p, a_q, a_r, r, hm, c, k⟩
abbrev n_goes_by : List Str := ["p", "q", "r"]
theorem sc_goes_by : FnScope n_goes_by ["p", "q", "r"] (defScope s_goes_by) := ⟨rfl, rfl, rfl, by decide +kernel, rfl, by decide +kernel, by decide +kernel⟩
theorem ok_goes_by (T : Txt K mg) : FnOk P w K mg base CX0 3 T.A_goes_by T.D_goes_by ["p", "q", "r"] (sp_goes_by K) := by
  refine Fun.ok T.F_goes_by sc_goes_by (fun vs H Q E h => ?_) (fun cdv A outer s H vs Q E hr h => ?_)
  · obtain ⟨X, a_p, a_q, a_r, r, hm, c, kont⟩ := h
    exact c.len
  · obtain ⟨X, a_p, a_q, a_r, r, hm, c, kont⟩ := h
    refine ⟨_, (pss_cons (ps_if (PW.pt (pw_and (pt_val (pe_call (ok_is_higher T) (hr.mono (by decide)) (by rfl) T.g_is_higher T.F_is_higher.kp T.b_is_higher .nil pass0 (pa_cons (pv 1) (pa_cons (pv 2) pa_nil)))) (pw_and1 (pt_not (pt_val (pe_call (ok_is_higher T) (hr.mono (by decide)) (by rfl) T.g_is_higher T.F_is_higher.kp T.b_is_higher .nil pass0 (pa_cons (pv 0) (pa_cons (pv 2) pa_nil)))))))) (pss_one (ps_ret (pe_cmpR op_eq (pe_call (ok_side T) hr (by rfl) T.g_side T.F_side.kp T.b_side .nil pass0 (pa_cons (pv 0) (pa_cons (pv 1) (pa_cons (pv 2) pa_nil)))) pe_int (nomark _)))) pss_nil)
      (pss_cons (ps_if (PW.pt (pw_and (pt_val (pe_call (ok_is_higher T) (hr.mono (by decide)) (by rfl) T.g_is_higher T.F_is_higher.kp T.b_is_higher .nil pass0 (pa_cons (pv 0) (pa_cons (pv 2) pa_nil)))) (pw_and1 (pt_not (pt_val (pe_call (ok_is_higher T) (hr.mono (by decide)) (by rfl) T.g_is_higher T.F_is_higher.kp T.b_is_higher .nil pass0 (pa_cons (pv 1) (pa_cons (pv 2) pa_nil)))))))) (pss_one (ps_ret (pe_cmpR op_eq (pe_call (ok_side T) hr (by rfl) T.g_side T.F_side.kp T.b_side .nil pass0 (pa_cons (pv 0) (pa_cons (pv 1) (pa_cons (pv 2) pa_nil)))) (pe_un un_neg pe_int) (nomark _)))) pss_nil)
      (pss_one (ps_ret pe_bl)))), ?_⟩
    have L0 : Lo ⟨K, X, H, muts [.imm (enc (a_p : (T3 Int Int Int))), .imm (enc (a_q : (T3 Int Int Int))), .imm (enc (a_r : (T3 Int Int Int)))], n_goes_by.length⟩ X H (L2.start n_goes_by vs) [.imm (enc (a_p : (T3 Int Int Int))), .imm (enc (a_q : (T3 Int Int Int))), .imm (enc (a_r : (T3 Int Int Int)))] := c.start n_goes_by (show (3 : Nat) ≤ 3 by decide)
    unfold m_goes_by at hm
    refine x_seq (x_ifS (x_and (x_tB (x_call (x_cons (x_vd (d := (enc (a_q : (T3 Int Int Int)))) L0 rfl fun v1 r1 => x_cons (x_vd (d := (enc (a_r : (T3 Int Int Int)))) L0 rfl fun v2 r2 => x_nil (obE hm fun z1 hz1 hm1 => mk_is_higher hz1 (L0.cond0 (.im r1 (.im r2 .nil)) rfl) fun _ F1 => k0 L0 F1 fun L1 le1 => x_kb (x_andB L1 hm1 (fun _ hm3 _ hq => x_not (x_tB (x_call (x_cons (x_vd (d := (enc (a_p : (T3 Int Int Int)))) L1 rfl fun v7 r5 => x_cons (x_vd (d := (enc (a_r : (T3 Int Int Int)))) L1 rfl fun v8 r6 => x_nil (obE hm3 fun z3 hz3 hm4 => mk_is_higher hz3 (L1.cond0 (.im r5 (.im r6 .nil)) rfl) fun _ F3 => k0 L1 F3 fun L3 le3 => x_kb (x_kn (x_lfT hm4 hq L3))))))))) fun b1 _ hm5 L4 => x_if hm5 (fun hm6 => ?_) fun hm6 => ?_)))))))))
    · exact x_ret (x_op (x_call (x_cons (x_vd (d := (enc (a_p : (T3 Int Int Int)))) L4 rfl fun v10 r7 => x_cons (x_vd (d := (enc (a_q : (T3 Int Int Int)))) L4 rfl fun v11 r8 => x_cons (x_vd (d := (enc (a_r : (T3 Int Int Int)))) L4 rfl fun v12 r9 => x_nil (obE hm6 fun z4 hz4 hm7 => mk_side hz4 (L4.cond0 (.im r7 (.im r8 (.im r9 .nil))) rfl) fun _ F4 => k0 L4 F4 fun L5 le4 => x_c (x_eqi (x_finB (Q := Q) (ps := (fun (r : Bool) => [])) (sc := fun (r : Bool) => r) ((decide (z4 = 1))) hm7 kont (L5.fin hp0 (.bl _)))))))))))
    · refine x_next ?_
      refine x_seq (x_ifS (x_and (x_tB (x_call (x_cons (x_vd (d := (enc (a_p : (T3 Int Int Int)))) L4 rfl fun v14 r10 => x_cons (x_vd (d := (enc (a_r : (T3 Int Int Int)))) L4 rfl fun v15 r11 => x_nil (obE hm6 fun z5 hz5 hm8 => mk_is_higher hz5 (L4.cond0 (.im r10 (.im r11 .nil)) rfl) fun _ F5 => k0 L4 F5 fun L6 le5 => x_kb (x_andB L6 hm8 (fun _ hm10 _ hq => x_not (x_tB (x_call (x_cons (x_vd (d := (enc (a_q : (T3 Int Int Int)))) L6 rfl fun v20 r14 => x_cons (x_vd (d := (enc (a_r : (T3 Int Int Int)))) L6 rfl fun v21 r15 => x_nil (obE hm10 fun z7 hz7 hm11 => mk_is_higher hz7 (L6.cond0 (.im r14 (.im r15 .nil)) rfl) fun _ F7 => k0 L6 F7 fun L8 le7 => x_kb (x_kn (x_lfT hm11 hq L8))))))))) fun b2 _ hm12 L9 => x_if hm12 (fun hm13 => ?_) fun hm13 => ?_)))))))))
      · exact x_ret (x_op (x_call (x_cons (x_vd (d := (enc (a_p : (T3 Int Int Int)))) L9 rfl fun v23 r16 => x_cons (x_vd (d := (enc (a_q : (T3 Int Int Int)))) L9 rfl fun v24 r17 => x_cons (x_vd (d := (enc (a_r : (T3 Int Int Int)))) L9 rfl fun v25 r18 => x_nil (obE hm13 fun z8 hz8 hm14 => mk_side hz8 (L9.cond0 (.im r16 (.im r17 (.im r18 .nil))) rfl) fun _ F8 => k0 L9 F8 fun L10 le8 => x_un (x_c (x_u (x_eqi (x_finB (Q := Q) (ps := (fun (r : Bool) => [])) (sc := fun (r : Bool) => r) ((decide (z8 = (-1)))) hm14 kont (L10.fin hp0 (.bl _)))))))))))))
      · refine x_next ?_
        exact x_ret (x_c (x_finB (Q := Q) (ps := (fun (r : Bool) => [])) (sc := fun (r : Bool) => r) false hm13 kont (L9.fin hp0 (.bl _))))
abbrev sp_is_within (K : PySem.W.Frag) : Sp := fun vs H Q _ => ∃ (X : Addr → Prop)  (a_ring : (List (T3 Int Int Int))) (a_p : (T3 Int Int Int)) (r : Bool), m_is_within a_ring a_p = some r ∧ Cond K X H [.imm (enc (a_ring : (List (T3 Int Int Int)))), .imm (enc (a_p : (T3 Int Int Int)))] vs ∧ ∀ H', Fin K X H [] [] (.imm (.bool r)) (.bl r) H' → Q (.bl r) H'
theorem mk_is_within {K : PySem.W.Frag} {X : Addr → Prop} {H : Hp} {vs : List V} {Q : VK} {E : XK}  {a_ring : (List (T3 Int Int Int))} {a_p : (T3 Int Int Int)} {r : Bool} (hm : m_is_within a_ring a_p = some r) (c : Cond K X H [.imm (enc (a_ring : (List (T3 Int Int Int)))), .imm (enc (a_p : (T3 Int Int Int)))] vs) (k : ∀ H', Fin K X H [] [] (.imm (.bool r)) (.bl r) H' → Q (.bl r) H') : sp_is_within K vs H Q E := ⟨X, a_ring, a_p, r, hm, c, k⟩
abbrev n_is_within : List Str := ["ring", "p", "pair"]
theorem sc_is_within : FnScope n_is_within ["ring", "p"] (defScope s_is_within) := ⟨rfl, rfl, rfl, by decide +kernel, rfl, by decide +kernel, by decide +kernel⟩
theorem ok_is_within (T : Txt K mg) : FnOk P w K mg base CX0 4 T.A_is_within T.D_is_within ["ring", "p"] (sp_is_within K) := by
  refine Fun.ok T.F_is_within sc_is_within (fun vs H Q E h => ?_) (fun cdv A outer s H vs Q E hr h => ?_)
  · obtain ⟨X, a_ring, a_p, r, hm, c, kont⟩ := h
    exact c.len
  · obtain ⟨X, a_ring, a_p, r, hm, c, kont⟩ := h
    refine ⟨_, (pss_one (ps_ret (pe_cmpR op_eq (pe_op op_mod (pe_callB (r := rLenX K) call_lenX (by rfl) T.z_len (by decide +kernel) (pa_cons (pe_lc (own := [("pair", 2)]) (g := gName 2) (tt := _) rfl sc_is_within.nd (pi_list (pe_call (ok_sides_of T) (hr.mono (by decide)) (by rfl) T.g_sides_of T.F_sides_of.kp T.b_sides_of .nil pass0 (pa_cons (pv 0) pa_nil))) (blkOk_by (N := n_is_within) (sc := defScope s_is_within) (by decide +kernel)) (fun _ _ _ _ _ => (pg_name (i := 2) sc_is_within.nd rfl (Or.inl rfl))) (fun _ _ _ _ _ => (pts_one (pt_val (pe_call (ok_goes_by T) hr (by rfl) T.g_goes_by T.F_goes_by.kp T.b_goes_by .nil pass0 (pa_cons (pe_ix (r := rIxT K) ix_tup (pv 2) pe_int (fun _ _ => rfl)) (pa_cons (pe_ix (r := rIxT K) ix_tup (pv 2) pe_int (fun _ _ => rfl)) (pa_cons (pv 1) pa_nil))))))) (fun _ _ _ _ _ => (pv 2))) pa_nil)) pe_int) pe_int (nomark _)))), ?_⟩
    have L0 : Lo ⟨K, X, H, muts [.imm (enc (a_ring : (List (T3 Int Int Int)))), .imm (enc (a_p : (T3 Int Int Int)))], n_is_within.length⟩ X H (L2.start n_is_within vs) [.imm (enc (a_ring : (List (T3 Int Int Int)))), .imm (enc (a_p : (T3 Int Int Int))), .unk] := c.start n_is_within (show (2 : Nat) ≤ 3 by decide)
    unfold m_is_within at hm
    exact x_ret (x_op (x_op (x_cb (x_cons (x_lcl (x_call (x_cons (x_vd (d := (enc (a_ring : (List (T3 Int Int Int))))) L0 rfl fun v1 r1 => x_nil (obE hm fun z1 hz1 hm1 => mk_sides_of hz1 (L0.cond0 (.im r1 .nil) rfl) fun p1 _ F1 => k0i L0 F1 fun L1 le1 r2 => have r3 : Rep _ _ _ (enc (z1 : (List (T2 (T3 Int Int Int) (T3 Int Int Int))))) (.ref p1) := r2; obE hm1 fun _ hl1 hm2 => obE hm2 fun ys1 hy1 hm3 => x_lcL (G := (fun (s1 : Unit) => [.imm (enc (a_ring : (List (T3 Int Int Int)))), .imm (enc (a_p : (T3 Int Int Int))), .unk])) (s0 := ()) (xs := z1) L1 (fun _ _ => rfl) r3 (filO_comp hy1) (lenOk_le hl1) (fun x1 s1 _ H1 _ u1 _ _ _ hF1 L2 r4 hn1 hy2 => obE hF1 fun y1 hm4 he1 => x_cName (d := (enc (x1 : (T2 (T3 Int Int Int) (T3 Int Int Int))))) (Γ' := [.imm (enc (a_ring : (List (T3 Int Int Int)))), .imm (enc (a_p : (T3 Int Int Int))), .imm (enc (x1 : (T2 (T3 Int Int Int) (T3 Int Int Int))))]) L2 r4 (show (2 : Nat) < 3 by decide) rfl fun _ L3 => x_tB (x_call (x_cons (x_op (x_vd (d := (enc (x1 : (T2 (T3 Int Int Int) (T3 Int Int Int))))) L3 rfl fun v2 r5 => x_c (x_ixT (d := (enc (x1.a : (T3 Int Int Int)))) r5 rfl fun v3 r6 => x_cons (x_op (x_vd (d := (enc (x1 : (T2 (T3 Int Int Int) (T3 Int Int Int))))) L3 rfl fun v4 r7 => x_c (x_ixT (d := (enc (x1.b : (T3 Int Int Int)))) r7 rfl fun v5 r8 => x_cons (x_vd (d := (enc (a_p : (T3 Int Int Int)))) L3 rfl fun v6 r9 => x_nil (obE hm4 fun z2 hz2 hm5 => mk_goes_by hz2 (L3.cond0 (.im r6 (.im r8 (.im r9 .nil))) rfl) fun _ F2 => k0 L3 F2 fun L4 le2 => x_kb (x_ct hm5 (fun hm6 => x_vd (d := (enc (x1 : (T2 (T3 Int Int Int) (T3 Int Int Int))))) L4 rfl fun v8 r10 => x_cy (G := (fun (s1 : Unit) => [.imm (enc (a_ring : (List (T3 Int Int Int)))), .imm (enc (a_p : (T3 Int Int Int))), .unk])) (s := s1) (s' := ()) (y := x1) (by cases hm6; cases he1; rfl) hy2 L2 L4 (.i rfl (.i rfl (.i rfl .e))) r10) (fun hm6 => x_cn (G := (fun (s1 : Unit) => [.imm (enc (a_ring : (List (T3 Int Int Int)))), .imm (enc (a_p : (T3 Int Int Int))), .unk])) (s := s1) (s' := ()) (by cases hm6; cases he1; rfl) hn1 L2 L4 (.i rfl (.i rfl (.i rfl .e)))))))))))))))) fun p2 _ L5 le3 r11 => have L6 : Lo _ _ _ _ [.imm (enc (a_ring : (List (T3 Int Int Int)))), .imm (enc (a_p : (T3 Int Int Int))), .unk] := L5; have r12 : Rep _ _ _ (enc (ys1 : (List (T2 (T3 Int Int Int) (T3 Int Int Int))))) (.ref p2) := r11; x_nil (x_lenL (xs := ys1) r12 (x_c (x_modc (by decide) (x_c (x_eqi (x_finB (Q := Q) (ps := (fun (r : Bool) => [])) (sc := fun (r : Bool) => r) ((decide (((ys1.length : Int) % 2) = 1))) hm3 kont (L6.fin hp0 (.bl _)))))))))))))))))
abbrev sp_stands (K : PySem.W.Frag) : Sp := fun vs H Q _ => ∃ (X : Addr → Prop)  (a_cloth : (List (List (T3 Int Int Int)))) (a_p : (T3 Int Int Int)) (r : Str), m_stands a_cloth a_p = some r ∧ Cond K X H [.imm (enc (a_cloth : (List (List (T3 Int Int Int))))), .imm (enc (a_p : (T3 Int Int Int)))] vs ∧ ∀ H', Fin K X H [] [] (.imm (.str r)) (.str r) H' → Q (.str r) H'
theorem mk_stands {K : PySem.W.Frag} {X : Addr → Prop} {H : Hp} {vs : List V} {Q : VK} {E : XK}  {a_cloth : (List (List (T3 Int Int Int)))} {a_p : (T3 Int Int Int)} {r : Str} (hm : m_stands a_cloth a_p = some r) (c : Cond K X H [.imm (enc (a_cloth : (List (List (T3 Int Int Int))))), .imm (enc (a_p : (T3 Int Int Int)))] vs) (k : ∀ H', Fin K X H [] [] (.imm (.str r)) (.str r) H' → Q (.str r) H') : sp_stands K vs H Q E := ⟨X, a_cloth, a_p, r, hm, c, k⟩
abbrev n_stands : List Str := ["cloth", "p", "ring", "one", "other"]
theorem sc_stands : FnScope n_stands ["cloth", "p"] (defScope s_stands) := ⟨rfl, rfl, rfl, by decide +kernel, rfl, by decide +kernel, by decide +kernel⟩
theorem ok_stands (T : Txt K mg) : FnOk P w K mg base CX0 5 T.A_stands T.D_stands ["cloth", "p"] (sp_stands K) := by
  refine Fun.ok T.F_stands sc_stands (fun vs H Q E h => ?_) (fun cdv A outer s H vs Q E hr h => ?_)
  · obtain ⟨X, a_cloth, a_p, r, hm, c, kont⟩ := h
    exact c.len
  · obtain ⟨X, a_cloth, a_p, r, hm, c, kont⟩ := h
    refine ⟨_, (pss_cons (ps_for PassesOwn.never rfl (pi_list (pv 0)) (pg_name (i := 2) sc_stands.nd rfl (Or.inl rfl)) (pss_one (ps_for PassesOwn.never rfl (pi_list (pe_call (ok_sides_of T) (hr.mono (by decide)) (by rfl) T.g_sides_of T.F_sides_of.kp T.b_sides_of .nil pass0 (pa_cons (pv 2) pa_nil))) (pg_tup rfl (pgs_cons (pg_name (i := 3) sc_stands.nd rfl (Or.inl rfl)) (pgs_cons (pg_name (i := 4) sc_stands.nd rfl (Or.inl rfl)) pgs_nil))) (pss_one (ps_if (pt_val (pe_call (ok_lies_on T) (hr.mono (by decide)) (by rfl) T.g_lies_on T.F_lies_on.kp T.b_lies_on .nil pass0 (pa_cons (pv 3) (pa_cons (pv 4) (pa_cons (pv 1) pa_nil))))) (pss_one (ps_ret pe_str)) pss_nil)))))
      (pss_cons (ps_if (pt_cmpR op_eq (pe_op op_mod (pe_callB (r := rLenX K) call_lenX (by rfl) T.z_len (by decide +kernel) (pa_cons (pe_lc (own := [("ring", 2)]) (g := gName 2) (tt := _) rfl sc_stands.nd (pi_list (pv 0)) (blkOk_by (N := n_stands) (sc := defScope s_stands) (by decide +kernel)) (fun _ _ _ _ _ => (pg_name (i := 2) sc_stands.nd rfl (Or.inl rfl))) (fun _ _ _ _ _ => (pts_one (pt_val (pe_call (ok_is_within T) hr (by rfl) T.g_is_within T.F_is_within.kp T.b_is_within .nil pass0 (pa_cons (pv 2) (pa_cons (pv 1) pa_nil)))))) (fun _ _ _ _ _ => (pv 2))) pa_nil)) pe_int) pe_int (nomark _)) (pss_one (ps_ret pe_str)) pss_nil)
      (pss_one (ps_ret pe_str)))), ?_⟩
    have L0 : Lo ⟨K, X, H, muts [.imm (enc (a_cloth : (List (List (T3 Int Int Int))))), .imm (enc (a_p : (T3 Int Int Int)))], n_stands.length⟩ X H (L2.start n_stands vs) [.imm (enc (a_cloth : (List (List (T3 Int Int Int))))), .imm (enc (a_p : (T3 Int Int Int))), .unk, .unk, .unk] := c.start n_stands (show (2 : Nat) ≤ 5 by decide)
    unfold m_stands at hm
    refine x_seq (x_tforL (x_vd (d := (enc (a_cloth : (List (List (T3 Int Int Int)))))) L0 rfl fun v1 r1 => x_flL (G := (fun (s1 : Unit) => [.imm (enc (a_cloth : (List (List (T3 Int Int Int))))), .imm (enc (a_p : (T3 Int Int Int))), .unk, .unk, .unk])) (s0 := ()) (xs := a_cloth) (ps := (fun (r : Str) => [])) (rs := (fun (r : Str) => (.imm (.str r)))) (L0.weak (Γ' := [.imm (enc (a_cloth : (List (List (T3 Int Int Int))))), .imm (enc (a_p : (T3 Int Int Int))), .unk, .unk, .unk]) (.k (.k (.k (.k (.k .e)))))) (fun _ _ => rfl) r1 hm (fun x1 s1 H1 _ u1 _ _ _ _ _ hm1 L1 r2 hN1 hC1 hB1 hR1 => ?_) (fun s2 _ _ hm2 L2 => ?_) (fun _ _ _ hm3 F1 => x_finRS (Q := Q) (ps := (fun (r : Str) => [])) (sc := fun (r : Str) => r) hm3 kont F1)))
    · refine x_set (d := (enc (x1 : (List (T3 Int Int Int))))) (Γ' := [.imm (enc (a_cloth : (List (List (T3 Int Int Int))))), .imm (enc (a_p : (T3 Int Int Int))), .imm (enc (x1 : (List (T3 Int Int Int)))), .unk, .unk]) L1 r2 (show (2 : Nat) < 5 by decide) rfl fun _ L3 => ?_
      refine x_tforL (x_call (x_cons (x_vd (d := (enc (x1 : (List (T3 Int Int Int))))) L3 rfl fun v2 r3 => x_nil (obE hm1 fun z1 hz1 hm4 => mk_sides_of hz1 (L3.cond0 (.im r3 .nil) rfl) fun p1 _ F2 => k0i L3 F2 fun L4 le1 r4 => have r5 : Rep _ _ _ (enc (z1 : (List (T2 (T3 Int Int Int) (T3 Int Int Int))))) (.ref p1) := r4; x_flL (G := (fun (s3 : Unit) => [.imm (enc (a_cloth : (List (List (T3 Int Int Int))))), .imm (enc (a_p : (T3 Int Int Int))), .imm (enc (x1 : (List (T3 Int Int Int)))), .unk, .unk])) (s0 := ()) (xs := z1) (ps := (fun (r : Str) => [])) (rs := (fun (r : Str) => (.imm (.str r)))) (L4.weak (Γ' := [.imm (enc (a_cloth : (List (List (T3 Int Int Int))))), .imm (enc (a_p : (T3 Int Int Int))), .imm (enc (x1 : (List (T3 Int Int Int)))), .unk, .unk]) (.k (.k (.k (.k (.k .e)))))) (fun _ _ => rfl) r5 hm4 (fun x2 s3 H2 _ u2 _ _ _ _ _ hm5 L5 r6 hN2 hC2 hB2 hR2 => ?_) (fun s4 _ _ hm6 L6 => ?_) (fun _ _ _ hm7 F3 => x_leafR (ps := (fun (r : Str) => [])) (rs := (fun (r : Str) => (.imm (.str r)))) hm7 hR1 F3)))))
      · refine x_gTup r6 rfl fun vs1 rs1 => x_gCons rs1 fun v3 _ r7 rs2 => x_set (d := (enc (x2.a : (T3 Int Int Int)))) (Γ' := [.imm (enc (a_cloth : (List (List (T3 Int Int Int))))), .imm (enc (a_p : (T3 Int Int Int))), .imm (enc (x1 : (List (T3 Int Int Int)))), .imm (enc (x2.a : (T3 Int Int Int))), .unk]) L5 r7 (show (3 : Nat) < 5 by decide) rfl fun _ L7 => x_gCons rs2 fun v4 _ r8 rs3 => x_set (d := (enc (x2.b : (T3 Int Int Int)))) (Γ' := [.imm (enc (a_cloth : (List (List (T3 Int Int Int))))), .imm (enc (a_p : (T3 Int Int Int))), .imm (enc (x1 : (List (T3 Int Int Int)))), .imm (enc (x2.a : (T3 Int Int Int))), .imm (enc (x2.b : (T3 Int Int Int)))]) L7 r8 (show (4 : Nat) < 5 by decide) rfl fun _ L8 => x_gNil rs3 (?_)
        refine x_ifS (x_tB (x_call (x_cons (x_vd (d := (enc (x2.a : (T3 Int Int Int)))) L8 rfl fun v5 r9 => x_cons (x_vd (d := (enc (x2.b : (T3 Int Int Int)))) L8 rfl fun v6 r10 => x_cons (x_vd (d := (enc (a_p : (T3 Int Int Int)))) L8 rfl fun v7 r11 => x_nil (obE hm5 fun z2 hz2 hm8 => mk_lies_on hz2 (L8.cond0 (.im r9 (.im r10 (.im r11 .nil))) rfl) fun _ F4 => k0 L8 F4 fun L9 le2 => x_kb (x_if hm8 (fun hm9 => ?_) fun hm9 => ?_))))))))
        · exact x_ret (x_c (x_leafR (ps := (fun (r : Str) => [])) (rs := (fun (r : Str) => (.imm (.str r)))) (e := ("side" : Str)) hm9 hR2 (L9.fin hp0 (.str _))))
        · refine x_next ?_
          exact x_leafN (G := (fun (s3 : Unit) => [.imm (enc (a_cloth : (List (List (T3 Int Int Int))))), .imm (enc (a_p : (T3 Int Int Int))), .imm (enc (x1 : (List (T3 Int Int Int)))), .unk, .unk])) (e := ()) hm9 hN2 (L9.weak (Γ' := [.imm (enc (a_cloth : (List (List (T3 Int Int Int))))), .imm (enc (a_p : (T3 Int Int Int))), .imm (enc (x1 : (List (T3 Int Int Int)))), .unk, .unk]) (.k (.k (.k (.d (.d .e))))))
      exact x_leafN (G := (fun (s1 : Unit) => [.imm (enc (a_cloth : (List (List (T3 Int Int Int))))), .imm (enc (a_p : (T3 Int Int Int))), .unk, .unk, .unk])) (e := ()) hm6 hN1 (L6.weak (Γ' := [.imm (enc (a_cloth : (List (List (T3 Int Int Int))))), .imm (enc (a_p : (T3 Int Int Int))), .unk, .unk, .unk]) (.k (.k (.d (.k (.k .e))))))
    refine x_seq (x_ifS (x_test (x_op (x_op (x_cb (x_cons (x_lcl (x_vd (d := (enc (a_cloth : (List (List (T3 Int Int Int)))))) L2 rfl fun v9 r12 => obE hm2 fun _ hl1 hm10 => obE hm10 fun ys1 hy1 hm11 => x_lcL (G := (fun (s5 : Unit) => [.imm (enc (a_cloth : (List (List (T3 Int Int Int))))), .imm (enc (a_p : (T3 Int Int Int))), .unk, .unk, .unk])) (s0 := ()) (xs := a_cloth) L2 (fun _ _ => rfl) r12 (filO_comp hy1) (lenOk_le hl1) (fun x3 s5 _ H3 _ u3 _ _ _ hF1 L10 r13 hn1 hy2 => obE hF1 fun y1 hm12 he1 => x_cName (d := (enc (x3 : (List (T3 Int Int Int))))) (Γ' := [.imm (enc (a_cloth : (List (List (T3 Int Int Int))))), .imm (enc (a_p : (T3 Int Int Int))), .imm (enc (x3 : (List (T3 Int Int Int)))), .unk, .unk]) L10 r13 (show (2 : Nat) < 5 by decide) rfl fun _ L11 => x_tB (x_call (x_cons (x_vd (d := (enc (x3 : (List (T3 Int Int Int))))) L11 rfl fun v10 r14 => x_cons (x_vd (d := (enc (a_p : (T3 Int Int Int)))) L11 rfl fun v11 r15 => x_nil (obE hm12 fun z3 hz3 hm13 => mk_is_within hz3 (L11.cond0 (.im r14 (.im r15 .nil)) rfl) fun _ F5 => k0 L11 F5 fun L12 le3 => x_kb (x_ct hm13 (fun hm14 => x_vd (d := (enc (x3 : (List (T3 Int Int Int))))) L12 rfl fun v13 r16 => x_cy (G := (fun (s5 : Unit) => [.imm (enc (a_cloth : (List (List (T3 Int Int Int))))), .imm (enc (a_p : (T3 Int Int Int))), .unk, .unk, .unk])) (s := s5) (s' := ()) (y := x3) (by cases hm14; cases he1; rfl) hy2 L10 L12 (.i rfl (.i rfl (.i rfl (.i rfl (.i rfl .e))))) r16) (fun hm14 => x_cn (G := (fun (s5 : Unit) => [.imm (enc (a_cloth : (List (List (T3 Int Int Int))))), .imm (enc (a_p : (T3 Int Int Int))), .unk, .unk, .unk])) (s := s5) (s' := ()) (by cases hm14; cases he1; rfl) hn1 L10 L12 (.i rfl (.i rfl (.i rfl (.i rfl (.i rfl .e))))))))))))) fun p2 _ L13 le4 r17 => have L14 : Lo _ _ _ _ [.imm (enc (a_cloth : (List (List (T3 Int Int Int))))), .imm (enc (a_p : (T3 Int Int Int))), .unk, .unk, .unk] := L13; have r18 : Rep _ _ _ (enc (ys1 : (List (List (T3 Int Int Int))))) (.ref p2) := r17; x_nil (x_lenL (xs := ys1) r18 (x_c (x_modc (by decide) (x_c (x_eqi (x_kb (x_if hm11 (fun hm15 => ?_) fun hm15 => ?_)))))))))))))))
    · exact x_ret (x_c (x_finS (Q := Q) (ps := (fun (r : Str) => [])) (sc := fun (r : Str) => r) (("in" : Str)) hm15 kont (L14.fin hp0 (.str _))))
    · refine x_next ?_
      exact x_ret (x_c (x_finS (Q := Q) (ps := (fun (r : Str) => [])) (sc := fun (r : Str) => r) (("out" : Str)) hm15 kont (L14.fin hp0 (.str _))))
abbrev sp__law_within (K : PySem.W.Frag) : Sp := fun vs H Q _ => ∃ (X : Addr → Prop)  (a__law_ring : (List (T2 Int Int))) (a__law_p : (T2 Int Int)) (r : Bool), m__law_within a__law_ring a__law_p = some r ∧ Cond K X H [.imm (enc (a__law_ring : (List (T2 Int Int)))), .imm (enc (a__law_p : (T2 Int Int)))] vs ∧ ∀ H', Fin K X H [] [] (.imm (.bool r)) (.bl r) H' → Q (.bl r) H'
theorem mk__law_within {K : PySem.W.Frag} {X : Addr → Prop} {H : Hp} {vs : List V} {Q : VK} {E : XK}  {a__law_ring : (List (T2 Int Int))} {a__law_p : (T2 Int Int)} {r : Bool} (hm : m__law_within a__law_ring a__law_p = some r) (c : Cond K X H [.imm (enc (a__law_ring : (List (T2 Int Int)))), .imm (enc (a__law_p : (T2 Int Int)))] vs) (k : ∀ H', Fin K X H [] [] (.imm (.bool r)) (.bl r) H' → Q (.bl r) H') : sp__law_within K vs H Q E := ⟨X, a__law_ring, a__law_p, r, hm, c, k⟩
abbrev n__law_within : List Str := ["_law_ring", "_law_p", "_law_odd", "_law_k", "_law_q", "_law_r", "_law_hand"]
theorem sc__law_within : FnScope n__law_within ["_law_ring", "_law_p"] (defScope s__law_within) := ⟨rfl, rfl, rfl, by decide +kernel, rfl, by decide +kernel, by decide +kernel⟩
theorem ok__law_within (T : Txt K mg) : FnOk P w K mg base CX0 2 T.A__law_within T.D__law_within ["_law_ring", "_law_p"] (sp__law_within K) := by
  refine Fun.ok T.F__law_within sc__law_within (fun vs H Q E h => ?_) (fun cdv A outer s H vs Q E hr h => ?_)
  · obtain ⟨X, a__law_ring, a__law_p, r, hm, c, kont⟩ := h
    exact c.len
  · obtain ⟨X, a__law_ring, a__law_p, r, hm, c, kont⟩ := h
    refine ⟨_, (pss_cons (ps_set (i := 2) sc__law_within.nd rfl (Or.inl rfl) pe_bl)
      (pss_cons (ps_for PassesOwn.never rfl (pi_range1 (by rfl) T.z_range (pa_cons (pe_callB (r := rLenX K) call_lenX (by rfl) T.z_len (by decide +kernel) (pa_cons (pv 0) pa_nil)) pa_nil)) (pg_name (i := 3) sc__law_within.nd rfl (Or.inl rfl)) (pss_cons (ps_set (i := 4) sc__law_within.nd rfl (Or.inl rfl) (pe_ix (r := rIxL K) ix_list (pv 0) (pe_op op_sub (pv 3) pe_int) (fun _ _ => rfl)))
      (pss_cons (ps_set (i := 5) sc__law_within.nd rfl (Or.inl rfl) (pe_ix (r := rIxL K) ix_list (pv 0) (pv 3) (fun _ _ => rfl)))
      (pss_one (ps_if (pt_cmpR op_ne (pe_cmpR op_le (pe_ix (r := rIxT K) ix_tup (pv 4) pe_int (fun _ _ => rfl)) (pe_ix (r := rIxT K) ix_tup (pv 1) pe_int (fun _ _ => rfl)) (nomark _)) (pe_cmpR op_le (pe_ix (r := rIxT K) ix_tup (pv 5) pe_int (fun _ _ => rfl)) (pe_ix (r := rIxT K) ix_tup (pv 1) pe_int (fun _ _ => rfl)) (nomark _)) (nomark _)) (pss_cons (ps_set (i := 6) sc__law_within.nd rfl (Or.inl rfl) (pe_call (ok__law_cross T) hr (by rfl) T.g__law_cross T.F__law_cross.kp T.b__law_cross .nil pass0 (pa_cons (pv 4) (pa_cons (pv 5) (pa_cons (pv 1) pa_nil)))))
      (pss_one (ps_if (PW.pt (pw_or (PW.pt (pw_and (pt_cmpR op_lt (pv 6) pe_int (nomark _)) (pw_and1 (pt_cmpR op_gt (pe_ix (r := rIxT K) ix_tup (pv 5) pe_int (fun _ _ => rfl)) (pe_ix (r := rIxT K) ix_tup (pv 4) pe_int (fun _ _ => rfl)) (nomark _))))) (pw_or1 (PW.pt (pw_and (pt_cmpR op_gt (pv 6) pe_int (nomark _)) (pw_and1 (pt_cmpR op_lt (pe_ix (r := rIxT K) ix_tup (pv 5) pe_int (fun _ _ => rfl)) (pe_ix (r := rIxT K) ix_tup (pv 4) pe_int (fun _ _ => rfl)) (nomark _)))))))) (pss_one (ps_set (i := 2) sc__law_within.nd rfl (Or.inl rfl) (pe_not (pv 2)))) pss_nil))) pss_nil)))))
      (pss_one (ps_ret (pv 2))))), ?_⟩
    have L0 : Lo ⟨K, X, H, muts [.imm (enc (a__law_ring : (List (T2 Int Int)))), .imm (enc (a__law_p : (T2 Int Int)))], n__law_within.length⟩ X H (L2.start n__law_within vs) [.imm (enc (a__law_ring : (List (T2 Int Int)))), .imm (enc (a__law_p : (T2 Int Int))), .unk, .unk, .unk, .unk, .unk] := c.start n__law_within (show (2 : Nat) ≤ 7 by decide)
    unfold m__law_within at hm
    refine x_seq (x_asg (x_c (x_set (d := (.bool false)) (Γ' := [.imm (enc (a__law_ring : (List (T2 Int Int)))), .imm (enc (a__law_p : (T2 Int Int))), .imm (.bool false), .unk, .unk, .unk, .unk]) L0 (.bl _) (show (2 : Nat) < 7 by decide) rfl fun _ L1 => ?_)))
    refine x_seq (x_tforR1 (x_cons (x_cb (x_cons (x_vd (d := (enc (a__law_ring : (List (T2 Int Int))))) L1 rfl fun v1 r1 => x_nil (x_lenL (xs := a__law_ring) r1 (x_nil (x_r1 hm fun hm1 => x_foR (G := (fun (s1 : Bool) => [.imm (enc (a__law_ring : (List (T2 Int Int)))), .imm (enc (a__law_p : (T2 Int Int))), .imm (.bool s1), .unk, .unk, .unk, .unk])) (s0 := false) (L1.weak (Γ' := [.imm (enc (a__law_ring : (List (T2 Int Int)))), .imm (enc (a__law_p : (T2 Int Int))), .imm (.bool false), .unk, .unk, .unk, .unk]) (.k (.k (.k (.k (.k (.k (.k .e)))))))) (fun _ _ => rfl) hm1 (fun x1 s1 H1 _ u1 _ _ _ _ _ hm2 L2 r2 hN1 hC1 => ?_) (fun s2 _ _ hm3 L3 => ?_)))))))))
    · refine x_set (d := (.int x1)) (Γ' := [.imm (enc (a__law_ring : (List (T2 Int Int)))), .imm (enc (a__law_p : (T2 Int Int))), .imm (.bool s1), .imm (.int x1), .unk, .unk, .unk]) L2 r2 (show (3 : Nat) < 7 by decide) rfl fun _ L4 => ?_
      refine x_seq (x_asg (x_op (x_vd (d := (enc (a__law_ring : (List (T2 Int Int))))) L4 rfl fun v2 r3 => x_op (x_vI (x := x1) L4 rfl (x_c (x_r0 (x_ixL (xs := a__law_ring) hm2 r3 fun x2 v3 _ hm5 r4 => x_set (d := (enc (x2 : (T2 Int Int)))) (Γ' := [.imm (enc (a__law_ring : (List (T2 Int Int)))), .imm (enc (a__law_p : (T2 Int Int))), .imm (.bool s1), .imm (.int x1), .imm (enc (x2 : (T2 Int Int))), .unk, .unk]) L4 r4 (show (4 : Nat) < 7 by decide) rfl fun _ L5 => ?_)))))))
      refine x_seq (x_asg (x_op (x_vd (d := (enc (a__law_ring : (List (T2 Int Int))))) L5 rfl fun v4 r5 => x_vI (x := x1) L5 rfl (x_ixL (xs := a__law_ring) hm5 r5 fun x3 v5 _ hm6 r6 => x_set (d := (enc (x3 : (T2 Int Int)))) (Γ' := [.imm (enc (a__law_ring : (List (T2 Int Int)))), .imm (enc (a__law_p : (T2 Int Int))), .imm (.bool s1), .imm (.int x1), .imm (enc (x2 : (T2 Int Int))), .imm (enc (x3 : (T2 Int Int))), .unk]) L5 r6 (show (5 : Nat) < 7 by decide) rfl fun _ L6 => ?_))))
      refine x_ifS (x_test (x_op (x_op (x_op (x_vd (d := (enc (x2 : (T2 Int Int)))) L6 rfl fun v6 r7 => x_c (x_ixTI (x := x2.a) r7 rfl (x_op (x_vd (d := (enc (a__law_p : (T2 Int Int)))) L6 rfl fun v7 r8 => x_c (x_ixTI (x := a__law_p.a) r8 rfl (x_r0 (x_op (x_op (x_vd (d := (enc (x3 : (T2 Int Int)))) L6 rfl fun v8 r9 => x_c (x_ixTI (x := x3.a) r9 rfl (x_op (x_vd (d := (enc (a__law_p : (T2 Int Int)))) L6 rfl fun v9 r10 => x_c (x_ixTI (x := a__law_p.a) r10 rfl (x_r0 (x_neb (x_kb (x_join (G := (fun (s3 : Bool) => [.imm (enc (a__law_ring : (List (T2 Int Int)))), .imm (enc (a__law_p : (T2 Int Int))), .imm (.bool s3), .imm (.int x1), .imm (enc (x2 : (T2 Int Int))), .imm (enc (x3 : (T2 Int Int))), .unk])) L6 hm6 (fun _ hm7 _ hN2 => ?_) (fun _ hm7 _ hN2 => ?_) fun s3 X1 _ _ hm8 L7 => ?_)))))))))))))))))))))
      · refine x_seq (x_asg (x_call (x_cons (x_vd (d := (enc (x2 : (T2 Int Int)))) L6 rfl fun v10 r11 => x_cons (x_vd (d := (enc (x3 : (T2 Int Int)))) L6 rfl fun v11 r12 => x_cons (x_vd (d := (enc (a__law_p : (T2 Int Int)))) L6 rfl fun v12 r13 => x_nil (obE hm7 fun z1 hz1 hm9 => mk__law_cross hz1 (L6.cond0 (.im r11 (.im r12 (.im r13 .nil))) rfl) fun _ F2 => k0 L6 F2 fun L8 le1 => x_set (d := (.int z1)) (Γ' := [.imm (enc (a__law_ring : (List (T2 Int Int)))), .imm (enc (a__law_p : (T2 Int Int))), .imm (.bool s1), .imm (.int x1), .imm (enc (x2 : (T2 Int Int))), .imm (enc (x3 : (T2 Int Int))), .imm (.int z1)]) L8 (.int _) (show (6 : Nat) < 7 by decide) rfl fun _ L9 => ?_)))))))
        refine x_ifS (x_or (x_and (x_test (x_op (x_vI (x := z1) L9 rfl (x_c (x_r0 (x_kb (x_andP (B := (decide (x2.a < x3.a))) (fun _ hq => x_test (x_op (x_op (x_vd (d := (enc (x3 : (T2 Int Int)))) L9 rfl fun v14 r14 => x_c (x_ixTI (x := x3.a) r14 rfl (x_op (x_vd (d := (enc (x2 : (T2 Int Int)))) L9 rfl fun v15 r15 => x_c (x_ixTI (x := x2.a) r15 rfl (x_r0 (x_kb (hq))))))))))) (x_orP (B := ((decide (0 < z1)) && (decide (x3.a < x2.a)))) (fun _ hq => x_and (x_test (x_op (x_vI (x := z1) L9 rfl (x_c (x_r0 (x_kb (x_andP (B := (decide (x3.a < x2.a))) (fun _ hq => x_test (x_op (x_op (x_vd (d := (enc (x3 : (T2 Int Int)))) L9 rfl fun v16 r16 => x_c (x_ixTI (x := x3.a) r16 rfl (x_op (x_vd (d := (enc (x2 : (T2 Int Int)))) L9 rfl fun v17 r17 => x_c (x_ixTI (x := x2.a) r17 rfl (x_r0 (x_kb (hq))))))))))) (hq))))))))) (x_join (G := (fun (s4 : Bool) => [.imm (enc (a__law_ring : (List (T2 Int Int)))), .imm (enc (a__law_p : (T2 Int Int))), .imm (.bool s4), .imm (.int x1), .imm (enc (x2 : (T2 Int Int))), .imm (enc (x3 : (T2 Int Int))), .imm (.int z1)])) L9 hm9 (fun _ hm10 _ hN3 => ?_) (fun _ hm10 _ hN3 => ?_) fun s4 X2 _ _ hm11 L10 => ?_)))))))))))
        · refine x_asg (x_notV (x_vB (x := s1) L9 rfl (x_kb (x_knV (x_bset (x0 := (!s1)) (d := fun odd_1 => (.bool odd_1)) (Γf := fun odd_1 => [.imm (enc (a__law_ring : (List (T2 Int Int)))), .imm (enc (a__law_p : (T2 Int Int))), .imm (.bool odd_1), .imm (.int x1), .imm (enc (x2 : (T2 Int Int))), .imm (enc (x3 : (T2 Int Int))), .imm (.int z1)]) hm10 L9 (.bl _) (show (2 : Nat) < 7 by decide) (fun _ => rfl) fun odd_1 _ hm12 L11 => ?_)))))
          exact x_leaf (G := (fun (s4 : Bool) => [.imm (enc (a__law_ring : (List (T2 Int Int)))), .imm (enc (a__law_p : (T2 Int Int))), .imm (.bool s4), .imm (.int x1), .imm (enc (x2 : (T2 Int Int))), .imm (enc (x3 : (T2 Int Int))), .imm (.int z1)])) (e := odd_1) hm12 hN3 (L11.weak (Γ' := [.imm (enc (a__law_ring : (List (T2 Int Int)))), .imm (enc (a__law_p : (T2 Int Int))), .imm (.bool odd_1), .imm (.int x1), .imm (enc (x2 : (T2 Int Int))), .imm (enc (x3 : (T2 Int Int))), .imm (.int z1)]) (.k (.k (.k (.k (.k (.k (.k .e))))))))
        · refine x_next ?_
          exact x_leaf (G := (fun (s4 : Bool) => [.imm (enc (a__law_ring : (List (T2 Int Int)))), .imm (enc (a__law_p : (T2 Int Int))), .imm (.bool s4), .imm (.int x1), .imm (enc (x2 : (T2 Int Int))), .imm (enc (x3 : (T2 Int Int))), .imm (.int z1)])) (e := s1) hm10 hN3 (L9.weak (Γ' := [.imm (enc (a__law_ring : (List (T2 Int Int)))), .imm (enc (a__law_p : (T2 Int Int))), .imm (.bool s1), .imm (.int x1), .imm (enc (x2 : (T2 Int Int))), .imm (enc (x3 : (T2 Int Int))), .imm (.int z1)]) (.k (.k (.k (.k (.k (.k (.k .e))))))))
        exact x_leaf (G := (fun (s3 : Bool) => [.imm (enc (a__law_ring : (List (T2 Int Int)))), .imm (enc (a__law_p : (T2 Int Int))), .imm (.bool s3), .imm (.int x1), .imm (enc (x2 : (T2 Int Int))), .imm (enc (x3 : (T2 Int Int))), .unk])) (e := s4) hm11 hN2 (L10.weak (Γ' := [.imm (enc (a__law_ring : (List (T2 Int Int)))), .imm (enc (a__law_p : (T2 Int Int))), .imm (.bool s4), .imm (.int x1), .imm (enc (x2 : (T2 Int Int))), .imm (enc (x3 : (T2 Int Int))), .unk]) (.k (.k (.k (.k (.k (.k (.d .e))))))))
      · refine x_next ?_
        exact x_leaf (G := (fun (s3 : Bool) => [.imm (enc (a__law_ring : (List (T2 Int Int)))), .imm (enc (a__law_p : (T2 Int Int))), .imm (.bool s3), .imm (.int x1), .imm (enc (x2 : (T2 Int Int))), .imm (enc (x3 : (T2 Int Int))), .unk])) (e := s1) hm7 hN2 (L6.weak (Γ' := [.imm (enc (a__law_ring : (List (T2 Int Int)))), .imm (enc (a__law_p : (T2 Int Int))), .imm (.bool s1), .imm (.int x1), .imm (enc (x2 : (T2 Int Int))), .imm (enc (x3 : (T2 Int Int))), .unk]) (.k (.k (.k (.k (.k (.k (.k .e))))))))
      exact x_leaf (G := (fun (s1 : Bool) => [.imm (enc (a__law_ring : (List (T2 Int Int)))), .imm (enc (a__law_p : (T2 Int Int))), .imm (.bool s1), .unk, .unk, .unk, .unk])) (e := s3) hm8 hN1 (L7.weak (Γ' := [.imm (enc (a__law_ring : (List (T2 Int Int)))), .imm (enc (a__law_p : (T2 Int Int))), .imm (.bool s3), .unk, .unk, .unk, .unk]) (.k (.k (.k (.d (.d (.d (.k .e))))))))
    exact x_ret (x_vB (x := s2) L3 rfl (x_finB (Q := Q) (ps := (fun (r : Bool) => [])) (sc := fun (r : Bool) => r) s2 hm3 kont (L3.fin hp0 (.bl _))))
abbrev sp__law_place (K : PySem.W.Frag) : Sp := fun vs H Q _ => ∃ (X : Addr → Prop)  (a__law_rings : (List (List (T2 Int Int)))) (a__law_p : (T2 Int Int)) (r : Str), m__law_place a__law_rings a__law_p = some r ∧ Cond K X H [.imm (enc (a__law_rings : (List (List (T2 Int Int))))), .imm (enc (a__law_p : (T2 Int Int)))] vs ∧ ∀ H', Fin K X H [] [] (.imm (.str r)) (.str r) H' → Q (.str r) H'
theorem mk__law_place {K : PySem.W.Frag} {X : Addr → Prop} {H : Hp} {vs : List V} {Q : VK} {E : XK}  {a__law_rings : (List (List (T2 Int Int)))} {a__law_p : (T2 Int Int)} {r : Str} (hm : m__law_place a__law_rings a__law_p = some r) (c : Cond K X H [.imm (enc (a__law_rings : (List (List (T2 Int Int))))), .imm (enc (a__law_p : (T2 Int Int)))] vs) (k : ∀ H', Fin K X H [] [] (.imm (.str r)) (.str r) H' → Q (.str r) H') : sp__law_place K vs H Q E := ⟨X, a__law_rings, a__law_p, r, hm, c, k⟩
abbrev n__law_place : List Str := ["_law_rings", "_law_p", "_law_odd", "_law_ring", "_law_k", "_law_q", "_law_r", "_law_across", "_law_upward"]
theorem sc__law_place : FnScope n__law_place ["_law_rings", "_law_p"] (defScope s__law_place) := ⟨rfl, rfl, rfl, by decide +kernel, rfl, by decide +kernel, by decide +kernel⟩
theorem ok__law_place (T : Txt K mg) : FnOk P w K mg base CX0 3 T.A__law_place T.D__law_place ["_law_rings", "_law_p"] (sp__law_place K) := by
  refine Fun.ok T.F__law_place sc__law_place (fun vs H Q E h => ?_) (fun cdv A outer s H vs Q E hr h => ?_)
  · obtain ⟨X, a__law_rings, a__law_p, r, hm, c, kont⟩ := h
    exact c.len
  · obtain ⟨X, a__law_rings, a__law_p, r, hm, c, kont⟩ := h
    refine ⟨_, (pss_cons (ps_set (i := 2) sc__law_place.nd rfl (Or.inl rfl) pe_bl)
      (pss_cons (ps_for PassesOwn.never rfl (pi_list (pv 0)) (pg_name (i := 3) sc__law_place.nd rfl (Or.inl rfl)) (pss_cons (ps_for PassesOwn.never rfl (pi_range1 (by rfl) T.z_range (pa_cons (pe_callB (r := rLenX K) call_lenX (by rfl) T.z_len (by decide +kernel) (pa_cons (pv 3) pa_nil)) pa_nil)) (pg_name (i := 4) sc__law_place.nd rfl (Or.inl rfl)) (pss_cons (ps_set (i := 5) sc__law_place.nd rfl (Or.inl rfl) (pe_ix (r := rIxL K) ix_list (pv 3) (pe_op op_sub (pv 4) pe_int) (fun _ _ => rfl)))
      (pss_cons (ps_set (i := 6) sc__law_place.nd rfl (Or.inl rfl) (pe_ix (r := rIxL K) ix_list (pv 3) (pv 4) (fun _ _ => rfl)))
      (pss_cons (ps_set (i := 7) sc__law_place.nd rfl (Or.inl rfl) (pe_op op_mulW (pe_op op_sub (pe_ix (r := rIxT K) ix_tup (pv 5) pe_int (fun _ _ => rfl)) (pe_ix (r := rIxT K) ix_tup (pv 1) pe_int (fun _ _ => rfl))) (pe_op op_sub (pe_ix (r := rIxT K) ix_tup (pv 6) pe_int (fun _ _ => rfl)) (pe_ix (r := rIxT K) ix_tup (pv 1) pe_int (fun _ _ => rfl)))))
      (pss_cons (ps_set (i := 8) sc__law_place.nd rfl (Or.inl rfl) (pe_op op_mulW (pe_op op_sub (pe_ix (r := rIxT K) ix_tup (pv 5) pe_int (fun _ _ => rfl)) (pe_ix (r := rIxT K) ix_tup (pv 1) pe_int (fun _ _ => rfl))) (pe_op op_sub (pe_ix (r := rIxT K) ix_tup (pv 6) pe_int (fun _ _ => rfl)) (pe_ix (r := rIxT K) ix_tup (pv 1) pe_int (fun _ _ => rfl)))))
      (pss_one (ps_if (PW.pt (pw_and (pt_cmpR op_eq (pe_call (ok__law_cross T) (hr.mono (by decide)) (by rfl) T.g__law_cross T.F__law_cross.kp T.b__law_cross .nil pass0 (pa_cons (pv 5) (pa_cons (pv 6) (pa_cons (pv 1) pa_nil)))) pe_int (nomark _)) (pw_and1 (pt_cmpR op_le (pe_op op_add (pv 7) (pv 8)) pe_int (nomark _))))) (pss_one (ps_ret pe_str)) pss_nil)))))))
      (pss_one (ps_if (pt_val (pe_call (ok__law_within T) hr (by rfl) T.g__law_within T.F__law_within.kp T.b__law_within .nil pass0 (pa_cons (pv 3) (pa_cons (pv 1) pa_nil)))) (pss_one (ps_set (i := 2) sc__law_place.nd rfl (Or.inl rfl) (pe_not (pv 2)))) pss_nil))))
      (pss_one (ps_ret (pe_ix (r := rIxL K) ix_list (pe_lst (pa_cons pe_str (pa_cons pe_str pa_nil))) (pe_callTy call_intX (by rfl) T.z_int (by decide +kernel) (pa_cons (pv 2) pa_nil)) (fun _ _ => rfl)))))), ?_⟩
    have L0 : Lo ⟨K, X, H, muts [.imm (enc (a__law_rings : (List (List (T2 Int Int))))), .imm (enc (a__law_p : (T2 Int Int)))], n__law_place.length⟩ X H (L2.start n__law_place vs) [.imm (enc (a__law_rings : (List (List (T2 Int Int))))), .imm (enc (a__law_p : (T2 Int Int))), .unk, .unk, .unk, .unk, .unk, .unk, .unk] := c.start n__law_place (show (2 : Nat) ≤ 9 by decide)
    unfold m__law_place at hm
    refine x_seq (x_asg (x_c (x_set (d := (.bool false)) (Γ' := [.imm (enc (a__law_rings : (List (List (T2 Int Int))))), .imm (enc (a__law_p : (T2 Int Int))), .imm (.bool false), .unk, .unk, .unk, .unk, .unk, .unk]) L0 (.bl _) (show (2 : Nat) < 9 by decide) rfl fun _ L1 => ?_)))
    refine x_seq (x_tforL (x_vd (d := (enc (a__law_rings : (List (List (T2 Int Int)))))) L1 rfl fun v1 r1 => x_flL (G := (fun (s1 : Bool) => [.imm (enc (a__law_rings : (List (List (T2 Int Int))))), .imm (enc (a__law_p : (T2 Int Int))), .imm (.bool s1), .unk, .unk, .unk, .unk, .unk, .unk])) (s0 := false) (xs := a__law_rings) (ps := (fun (r : Str) => [])) (rs := (fun (r : Str) => (.imm (.str r)))) (L1.weak (Γ' := [.imm (enc (a__law_rings : (List (List (T2 Int Int))))), .imm (enc (a__law_p : (T2 Int Int))), .imm (.bool false), .unk, .unk, .unk, .unk, .unk, .unk]) (.k (.k (.k (.k (.k (.k (.k (.k (.k .e)))))))))) (fun _ _ => rfl) r1 hm (fun x1 s1 H1 _ u1 _ _ _ _ _ hm1 L2 r2 hN1 hC1 hB1 hR1 => ?_) (fun s2 _ _ hm2 L3 => ?_) (fun _ _ _ hm3 F1 => x_finRS (Q := Q) (ps := (fun (r : Str) => [])) (sc := fun (r : Str) => r) hm3 kont F1)))
    · refine x_set (d := (enc (x1 : (List (T2 Int Int))))) (Γ' := [.imm (enc (a__law_rings : (List (List (T2 Int Int))))), .imm (enc (a__law_p : (T2 Int Int))), .imm (.bool s1), .imm (enc (x1 : (List (T2 Int Int)))), .unk, .unk, .unk, .unk, .unk]) L2 r2 (show (3 : Nat) < 9 by decide) rfl fun _ L4 => ?_
      refine x_seq (x_tforR1 (x_cons (x_cb (x_cons (x_vd (d := (enc (x1 : (List (T2 Int Int))))) L4 rfl fun v2 r3 => x_nil (x_lenL (xs := x1) r3 (x_nil (x_r1 hm1 fun hm4 => x_flR (G := (fun (s3 : Unit) => [.imm (enc (a__law_rings : (List (List (T2 Int Int))))), .imm (enc (a__law_p : (T2 Int Int))), .imm (.bool s1), .imm (enc (x1 : (List (T2 Int Int)))), .unk, .unk, .unk, .unk, .unk])) (s0 := ()) (ps := (fun (r : Str) => [])) (rs := (fun (r : Str) => (.imm (.str r)))) (L4.weak (Γ' := [.imm (enc (a__law_rings : (List (List (T2 Int Int))))), .imm (enc (a__law_p : (T2 Int Int))), .imm (.bool s1), .imm (enc (x1 : (List (T2 Int Int)))), .unk, .unk, .unk, .unk, .unk]) (.k (.k (.k (.k (.k (.k (.k (.k (.k .e)))))))))) (fun _ _ => rfl) hm4 (fun x2 s3 H2 _ u2 _ _ _ _ _ hm5 L5 r4 hN2 hC2 hB2 hR2 => ?_) (fun s4 _ _ hm6 L6 => ?_) (fun _ _ _ hm7 F2 => x_leafR (ps := (fun (r : Str) => [])) (rs := (fun (r : Str) => (.imm (.str r)))) hm7 hR1 F2)))))))))
      · refine x_set (d := (.int x2)) (Γ' := [.imm (enc (a__law_rings : (List (List (T2 Int Int))))), .imm (enc (a__law_p : (T2 Int Int))), .imm (.bool s1), .imm (enc (x1 : (List (T2 Int Int)))), .imm (.int x2), .unk, .unk, .unk, .unk]) L5 r4 (show (4 : Nat) < 9 by decide) rfl fun _ L7 => ?_
        refine x_seq (x_asg (x_op (x_vd (d := (enc (x1 : (List (T2 Int Int))))) L7 rfl fun v3 r5 => x_op (x_vI (x := x2) L7 rfl (x_c (x_r0 (x_ixL (xs := x1) hm5 r5 fun x3 v4 _ hm8 r6 => x_set (d := (enc (x3 : (T2 Int Int)))) (Γ' := [.imm (enc (a__law_rings : (List (List (T2 Int Int))))), .imm (enc (a__law_p : (T2 Int Int))), .imm (.bool s1), .imm (enc (x1 : (List (T2 Int Int)))), .imm (.int x2), .imm (enc (x3 : (T2 Int Int))), .unk, .unk, .unk]) L7 r6 (show (5 : Nat) < 9 by decide) rfl fun _ L8 => ?_)))))))
        refine x_seq (x_asg (x_op (x_vd (d := (enc (x1 : (List (T2 Int Int))))) L8 rfl fun v5 r7 => x_vI (x := x2) L8 rfl (x_ixL (xs := x1) hm8 r7 fun x4 v6 _ hm9 r8 => x_set (d := (enc (x4 : (T2 Int Int)))) (Γ' := [.imm (enc (a__law_rings : (List (List (T2 Int Int))))), .imm (enc (a__law_p : (T2 Int Int))), .imm (.bool s1), .imm (enc (x1 : (List (T2 Int Int)))), .imm (.int x2), .imm (enc (x3 : (T2 Int Int))), .imm (enc (x4 : (T2 Int Int))), .unk, .unk]) L8 r8 (show (6 : Nat) < 9 by decide) rfl fun _ L9 => ?_))))
        refine x_seq (x_asg (x_op (x_op (x_op (x_vd (d := (enc (x3 : (T2 Int Int)))) L9 rfl fun v7 r9 => x_c (x_ixTI (x := x3.a) r9 rfl (x_op (x_vd (d := (enc (a__law_p : (T2 Int Int)))) L9 rfl fun v8 r10 => x_c (x_ixTI (x := a__law_p.a) r10 rfl (x_r0 (x_op (x_op (x_vd (d := (enc (x4 : (T2 Int Int)))) L9 rfl fun v9 r11 => x_c (x_ixTI (x := x4.a) r11 rfl (x_op (x_vd (d := (enc (a__law_p : (T2 Int Int)))) L9 rfl fun v10 r12 => x_c (x_ixTI (x := a__law_p.a) r12 rfl (x_r0 (x_mul hm9 fun z1 _ hm10 => x_set (d := (.int z1)) (Γ' := [.imm (enc (a__law_rings : (List (List (T2 Int Int))))), .imm (enc (a__law_p : (T2 Int Int))), .imm (.bool s1), .imm (enc (x1 : (List (T2 Int Int)))), .imm (.int x2), .imm (enc (x3 : (T2 Int Int))), .imm (enc (x4 : (T2 Int Int))), .imm (.int z1), .unk]) L9 (.int _) (show (7 : Nat) < 9 by decide) rfl fun _ L10 => ?_)))))))))))))))))))
        refine x_seq (x_asg (x_op (x_op (x_op (x_vd (d := (enc (x3 : (T2 Int Int)))) L10 rfl fun v11 r13 => x_c (x_ixTI (x := x3.b) r13 rfl (x_op (x_vd (d := (enc (a__law_p : (T2 Int Int)))) L10 rfl fun v12 r14 => x_c (x_ixTI (x := a__law_p.b) r14 rfl (x_r0 (x_op (x_op (x_vd (d := (enc (x4 : (T2 Int Int)))) L10 rfl fun v13 r15 => x_c (x_ixTI (x := x4.b) r15 rfl (x_op (x_vd (d := (enc (a__law_p : (T2 Int Int)))) L10 rfl fun v14 r16 => x_c (x_ixTI (x := a__law_p.b) r16 rfl (x_r0 (x_mul hm10 fun z2 _ hm11 => x_set (d := (.int z2)) (Γ' := [.imm (enc (a__law_rings : (List (List (T2 Int Int))))), .imm (enc (a__law_p : (T2 Int Int))), .imm (.bool s1), .imm (enc (x1 : (List (T2 Int Int)))), .imm (.int x2), .imm (enc (x3 : (T2 Int Int))), .imm (enc (x4 : (T2 Int Int))), .imm (.int z1), .imm (.int z2)]) L10 (.int _) (show (8 : Nat) < 9 by decide) rfl fun _ L11 => ?_)))))))))))))))))))
        refine x_ifS (x_and (x_test (x_op (x_call (x_cons (x_vd (d := (enc (x3 : (T2 Int Int)))) L11 rfl fun v15 r17 => x_cons (x_vd (d := (enc (x4 : (T2 Int Int)))) L11 rfl fun v16 r18 => x_cons (x_vd (d := (enc (a__law_p : (T2 Int Int)))) L11 rfl fun v17 r19 => x_nil (obE hm11 fun z3 hz1 hm12 => mk__law_cross hz1 (L11.cond0 (.im r17 (.im r18 (.im r19 .nil))) rfl) fun _ F3 => k0 L11 F3 fun L12 le1 => x_c (x_eqi (x_kb (x_andP (B := (decide ((z1 + z2) ≤ 0))) (fun _ hq => x_test (x_op (x_op (x_vI (x := z1) L12 rfl (x_vI (x := z2) L12 rfl (x_r0 (x_c (x_r0 (x_kb (hq)))))))))) (x_if hm12 (fun hm13 => ?_) fun hm13 => ?_)))))))))))))
        · exact x_ret (x_c (x_leafR (ps := (fun (r : Str) => [])) (rs := (fun (r : Str) => (.imm (.str r)))) (e := ("side" : Str)) hm13 hR2 (L12.fin hp0 (.str _))))
        · refine x_next ?_
          exact x_leafN (G := (fun (s3 : Unit) => [.imm (enc (a__law_rings : (List (List (T2 Int Int))))), .imm (enc (a__law_p : (T2 Int Int))), .imm (.bool s1), .imm (enc (x1 : (List (T2 Int Int)))), .unk, .unk, .unk, .unk, .unk])) (e := ()) hm13 hN2 (L12.weak (Γ' := [.imm (enc (a__law_rings : (List (List (T2 Int Int))))), .imm (enc (a__law_p : (T2 Int Int))), .imm (.bool s1), .imm (enc (x1 : (List (T2 Int Int)))), .unk, .unk, .unk, .unk, .unk]) (.k (.k (.k (.k (.d (.d (.d (.d (.d .e))))))))))
      refine x_ifS (x_tB (x_call (x_cons (x_vd (d := (enc (x1 : (List (T2 Int Int))))) L6 rfl fun v19 r20 => x_cons (x_vd (d := (enc (a__law_p : (T2 Int Int)))) L6 rfl fun v20 r21 => x_nil (obE hm6 fun z4 hz2 hm14 => mk__law_within hz2 (L6.cond0 (.im r20 (.im r21 .nil)) rfl) fun _ F4 => k0 L6 F4 fun L13 le2 => x_kb (x_join (G := (fun (s5 : Bool) => [.imm (enc (a__law_rings : (List (List (T2 Int Int))))), .imm (enc (a__law_p : (T2 Int Int))), .imm (.bool s5), .imm (enc (x1 : (List (T2 Int Int)))), .unk, .unk, .unk, .unk, .unk])) L13 hm14 (fun _ hm15 _ hN3 => ?_) (fun _ hm15 _ hN3 => ?_) fun s5 X1 _ _ hm16 L14 => ?_)))))))
      · refine x_asg (x_notV (x_vB (x := s1) L13 rfl (x_kb (x_knV (x_bset (x0 := (!s1)) (d := fun odd_1 => (.bool odd_1)) (Γf := fun odd_1 => [.imm (enc (a__law_rings : (List (List (T2 Int Int))))), .imm (enc (a__law_p : (T2 Int Int))), .imm (.bool odd_1), .imm (enc (x1 : (List (T2 Int Int)))), .unk, .unk, .unk, .unk, .unk]) hm15 L13 (.bl _) (show (2 : Nat) < 9 by decide) (fun _ => rfl) fun odd_1 _ hm17 L15 => ?_)))))
        exact x_leaf (G := (fun (s5 : Bool) => [.imm (enc (a__law_rings : (List (List (T2 Int Int))))), .imm (enc (a__law_p : (T2 Int Int))), .imm (.bool s5), .imm (enc (x1 : (List (T2 Int Int)))), .unk, .unk, .unk, .unk, .unk])) (e := odd_1) hm17 hN3 (L15.weak (Γ' := [.imm (enc (a__law_rings : (List (List (T2 Int Int))))), .imm (enc (a__law_p : (T2 Int Int))), .imm (.bool odd_1), .imm (enc (x1 : (List (T2 Int Int)))), .unk, .unk, .unk, .unk, .unk]) (.k (.k (.k (.k (.k (.k (.k (.k (.k .e))))))))))
      · refine x_next ?_
        exact x_leaf (G := (fun (s5 : Bool) => [.imm (enc (a__law_rings : (List (List (T2 Int Int))))), .imm (enc (a__law_p : (T2 Int Int))), .imm (.bool s5), .imm (enc (x1 : (List (T2 Int Int)))), .unk, .unk, .unk, .unk, .unk])) (e := s1) hm15 hN3 (L13.weak (Γ' := [.imm (enc (a__law_rings : (List (List (T2 Int Int))))), .imm (enc (a__law_p : (T2 Int Int))), .imm (.bool s1), .imm (enc (x1 : (List (T2 Int Int)))), .unk, .unk, .unk, .unk, .unk]) (.k (.k (.k (.k (.k (.k (.k (.k (.k .e))))))))))
      exact x_leafN (G := (fun (s1 : Bool) => [.imm (enc (a__law_rings : (List (List (T2 Int Int))))), .imm (enc (a__law_p : (T2 Int Int))), .imm (.bool s1), .unk, .unk, .unk, .unk, .unk, .unk])) (e := s5) hm16 hN1 (L14.weak (Γ' := [.imm (enc (a__law_rings : (List (List (T2 Int Int))))), .imm (enc (a__law_p : (T2 Int Int))), .imm (.bool s5), .unk, .unk, .unk, .unk, .unk, .unk]) (.k (.k (.k (.d (.k (.k (.k (.k (.k .e))))))))))
    exact x_ret (x_op (x_lst (x_cons (x_c (x_cons (x_c (x_nil (x_mkL L3 (.cons (.str _) (.cons (.str _) .nil)) (show (2 : Nat) ≤ 16777216 by decide) fun v22 _ L16 le3 r22 => have r23 : Rep _ _ _ (enc ([("out" : Str), ("in" : Str)] : (List Str))) v22 := r22; x_cb (x_cons (x_vB (x := s2) L16 rfl (x_nil (x_intb (x_ixLS (xs := [("out" : Str), ("in" : Str)]) hm2 r23 fun x5 _ hm18 => x_finS (Q := Q) (ps := (fun (r : Str) => [])) (sc := fun (r : Str) => r) x5 hm18 kont (L16.fin hp0 (.str _)))))))))))))))
abbrev sp_law (K : PySem.W.Frag) : Sp := fun vs H Q _ => ∃ (X : Addr → Prop)  (a__law_script : (List Int)) (r : Bool), m_law a__law_script = some r ∧ Cond K X H [.scr a__law_script] vs ∧ ∀ H', Fin K X H [] [] (.imm (.bool r)) (.bl r) H' → Q (.bl r) H'
theorem mk_law {K : PySem.W.Frag} {X : Addr → Prop} {H : Hp} {vs : List V} {Q : VK} {E : XK}  {a__law_script : (List Int)} {r : Bool} (hm : m_law a__law_script = some r) (c : Cond K X H [.scr a__law_script] vs) (k : ∀ H', Fin K X H [] [] (.imm (.bool r)) (.bl r) H' → Q (.bl r) H') : sp_law K vs H Q E := ⟨X, a__law_script, r, hm, c, k⟩
abbrev n_law : List Str := ["_law_script", "_law_bag_here", "_law_rings", "_law_n", "_law_handed_here", "_law_lent", "_law_cell_here", "_law_p", "_law_found", "_law_ring"]
theorem sc_law : FnScope n_law ["_law_script"] (defScope s_law) := ⟨rfl, rfl, rfl, by decide +kernel, rfl, by decide +kernel, by decide +kernel⟩
theorem ok_law (T : Txt K mg) : FnOk P w K mg base CX0 6 T.A_law T.D_law ["_law_script"] (sp_law K) := by
  refine Fun.ok T.F_law sc_law (fun vs H Q E h => ?_) (fun cdv A outer s H vs Q E hr h => ?_)
  · obtain ⟨X, a__law_script, r, hm, c, kont⟩ := h
    exact c.len
  · obtain ⟨X, a__law_script, r, hm, c, kont⟩ := h
    refine ⟨_, (pss_cons (ps_set (i := 1) sc_law.nd rfl (Or.inl rfl) (pe_call (ok__law_bag T) (hr.mono (by decide)) (by rfl) T.g__law_bag T.F__law_bag.kp T.b__law_bag .nil pass0 (pa_cons (pe_call (ok__law_cell T) (hr.mono (by decide)) (by rfl) T.g__law_cell T.F__law_cell.kp T.b__law_cell .nil pass0 (pa_cons (pv 0) (pa_cons pe_int pa_nil))) pa_nil)))
      (pss_cons (ps_setLc (i := 2) (own := [("_law_ring", 9)])  (g := gName 9) (tt := tYes) rfl sc_law.nd rfl rfl (sw_true rfl rfl rfl (by decide +kernel)) (pi_list (pe_call (ok__law_cloth T) hr (by rfl) T.g__law_cloth T.F__law_cloth.kp T.b__law_cloth .nil pass0 (pa_cons (pv 1) pa_nil))) (blkOk_by (N := n_law) (sc := defScope s_law) (by decide +kernel)) (fun _ _ _ _ _ => (pg_name (i := 9) sc_law.nd rfl (Or.inl rfl))) (fun _ _ _ _ _ => pts_nil) (fun _ _ _ _ _ => (pe_lc (own := [("_law_p", 7)]) (g := gName 7) (tt := tYes) rfl sc_law.nd (pi_listK (K := K) rfl (pv 9)) (blkOk_in (N := n_law) (by decide +kernel)) (fun _ _ _ _ _ => (pg_name (i := 7) sc_law.nd rfl (Or.inl rfl))) (fun _ _ _ _ _ => pts_nil) (fun _ _ _ _ _ => (pe_tup (pa_cons (pe_op op_mul pe_int (pe_ix (r := rIxT K) ix_tup (pv 7) pe_int (fun _ _ => rfl))) (pa_cons (pe_op op_mul pe_int (pe_ix (r := rIxT K) ix_tup (pv 7) pe_int (fun _ _ => rfl))) pa_nil)))))))
      (pss_cons (ps_set (i := 3) sc_law.nd rfl (Or.inl rfl) (pe_op op_mul pe_int (pe_call (ok__law_bottom T) (hr.mono (by decide)) (by rfl) T.g__law_bottom T.F__law_bottom.kp T.b__law_bottom .nil pass0 (pa_cons (pv 1) pa_nil))))
      (pss_cons (ps_set (i := 4) sc_law.nd rfl (Or.inl rfl) (pe_call (ok__law_handed T) (hr.mono (by decide)) (by rfl) T.g__law_handed T.F__law_handed.kp T.b__law_handed .nil pass0 (pa_cons (pv 2) (pa_cons (pv 3) pa_nil))))
      (pss_cons (ps_setLc (i := 5) (own := [("_law_ring", 9)])  (g := gName 9) (tt := tYes) rfl sc_law.nd rfl rfl (sw_true rfl rfl rfl (by decide +kernel)) (pi_list (pv 4)) (blkOk_by (N := n_law) (sc := defScope s_law) (by decide +kernel)) (fun _ _ _ _ _ => (pg_name (i := 9) sc_law.nd rfl (Or.inl rfl))) (fun _ _ _ _ _ => pts_nil) (fun _ _ _ _ _ => (pe_callTy (r := rListX K) call_listX (by rfl) T.z_list (by decide +kernel) (pa_cons (pv 9) pa_nil))))
      (pss_cons (ps_for PassesOwn.never rfl (pi_list (pe_op op_catR (pe_lst (pa_cons (pe_call (ok__law_cell T) (hr.mono (by decide)) (by rfl) T.g__law_cell T.F__law_cell.kp T.b__law_cell .nil pass0 (pa_cons (pv 0) (pa_cons pe_int pa_nil))) pa_nil)) (pe_slice (r := rSlL K) sl_list (pv 0) (po_some pe_int) (po_some pe_int)))) (pg_name (i := 6) sc_law.nd rfl (Or.inl rfl)) (pss_cons (ps_set (i := 7) sc_law.nd rfl (Or.inl rfl) (pe_call (ok__law_spot T) (hr.mono (by decide)) (by rfl) T.g__law_spot T.F__law_spot.kp T.b__law_spot .nil pass0 (pa_cons (pe_call (ok__law_bag T) (hr.mono (by decide)) (by rfl) T.g__law_bag T.F__law_bag.kp T.b__law_bag .nil pass0 (pa_cons (pv 6) pa_nil)) (pa_cons (pv 2) pa_nil))))
      (pss_cons (ps_set (i := 8) sc_law.nd rfl (Or.inl rfl) (pe_call (ok_stands T) hr (by rfl) T.g_stands T.F_stands.kp T.b_stands .nil pass0 (pa_cons (pv 5) (pa_cons (pe_call (ok__law_point T) (hr.mono (by decide)) (by rfl) T.g__law_point T.F__law_point.kp T.b__law_point .nil pass0 (pa_cons (pe_ix (r := rIxT K) ix_tup (pv 7) pe_int (fun _ _ => rfl)) (pa_cons (pe_ix (r := rIxT K) ix_tup (pv 7) pe_int (fun _ _ => rfl)) (pa_cons (pv 3) pa_nil)))) pa_nil))))
      (pss_one (ps_if (PW.pt (pw_or (pt_not (pt_val (pe_callB (r := rIsi K) call_isi (by rfl) T.z_isinstance (by decide +kernel) (pa_cons (pv 8) (pa_cons (pe_bltn (v := .ty "str") (u := .type "str") (by rfl) T.z_str (by decide +kernel) rfl) pa_nil))))) (pw_or (pt_cmpR op_ne (pv 8) (pe_call (ok__law_place T) (hr.mono (by decide)) (by rfl) T.g__law_place T.F__law_place.kp T.b__law_place .nil pass0 (pa_cons (pv 2) (pa_cons (pv 7) pa_nil))) (nomark _)) (pw_or1 (pt_cmpR (r := rNeD K) (op_neD hr.units) (pv 5) (pv 4) (nomark _)))))) (pss_one (ps_ret pe_bl)) pss_nil)))))
      (pss_one (ps_ret pe_bl)))))))), ?_⟩
    have L0 : Lo ⟨K, X, H, muts [.scr a__law_script], n_law.length⟩ X H (L2.start n_law vs) [.scr a__law_script, .unk, .unk, .unk, .unk, .unk, .unk, .unk, .unk, .unk] := c.start n_law (show (1 : Nat) ≤ 10 by decide)
    unfold m_law at hm
    refine x_seq (x_asg (x_call (x_cons (x_call (x_cons (x_vscr L0 rfl fun v1 r1 => x_cons (x_c (x_nil (obE hm fun z1 hz1 hm1 => mk__law_cell hz1 (L0.cond0 (.s r1 (.im (.int _) .nil)) rfl) fun _ F1 => k0 L0 F1 fun L1 le1 => x_nil (obE hm1 fun z2 hz2 hm2 => mk__law_bag hz2 (L1.cond0 (.im (.int _) .nil) rfl) fun p1 _ F2 => k0N L1 F2 fun _ h01 hx1 L2 le2 => x_setN (Γ := [.scr a__law_script, .unk, .unk, .unk, .unk, .unk, .unk, .unk, .unk, .unk]) (p := p1) (o := ml (z2 : (List Int))) (Γ' := [.scr a__law_script, .mu p1 (ml (z2 : (List Int))), .unk, .unk, .unk, .unk, .unk, .unk, .unk, .unk]) L2 (show (1 : Nat) < 10 by decide) (show (1 : Nat) < 10 by decide) rfl fun _ L3 => ?_))))))))))
    refine x_seq (x_asg (x_lcl (x_call (x_cons (x_vm L3 rfl (x_nil (obE hm2 fun z3 hz3 hm3 => mk__law_cloth hz3 (L3.cond1 (i := 1) (.m (L3.mrep (i := 1) rfl) .nil) rfl rfl rfl) fun p2 _ F3 => k1i L3 F3 (i := 1) (Γ' := [.scr a__law_script, .mu p1 (ml (z3.2 : (List Int))), .unk, .unk, .unk, .unk, .unk, .unk, .unk, .unk]) rfl rfl rfl fun L4 le3 r3 => have r4 : Rep _ _ _ (enc (z3.1 : (List (List (T2 Int Int))))) (.ref p2) := r3; obE hm3 fun _ hl1 hm4 => obE hm4 fun ys1 hy1 hm5 => x_lcL (G := (fun (s1 : Unit) => [.scr a__law_script, .mu p1 (ml (z3.2 : (List Int))), .unk, .unk, .unk, .unk, .unk, .unk, .unk, .unk])) (s0 := ()) (xs := z3.1) L4 (fun _ _ => rfl) r4 (mapO_comp hy1) (lenOk_le hl1) (fun x1 s1 _ H1 _ u1 _ _ _ hF1 L5 r5 hn1 hy2 => obE hF1 fun y1 hm6 he1 => x_cName (d := (enc (x1 : (List (T2 Int Int))))) (Γ' := [.scr a__law_script, .mu p1 (ml (z3.2 : (List Int))), .unk, .unk, .unk, .unk, .unk, .unk, .unk, .imm (enc (x1 : (List (T2 Int Int))))]) L5 r5 (show (9 : Nat) < 10 by decide) rfl fun _ L6 => x_yes (x_lcl (x_vd (d := (enc (x1 : (List (T2 Int Int))))) L6 rfl fun v3 r6 => obE hm6 fun _ hl2 hm7 => obE hm7 fun ys2 hy3 hm8 => x_lcL (G := (fun (s2 : Unit) => [.scr a__law_script, .mu p1 (ml (z3.2 : (List Int))), .unk, .unk, .unk, .unk, .unk, .unk, .unk, .imm (enc (x1 : (List (T2 Int Int))))])) (s0 := ()) (xs := x1) L6 (fun _ _ => rfl) r6 (mapO_comp hy3) (lenOk_le hl2) (fun x2 s2 _ H2 _ u2 _ _ _ hF2 L7 r7 hn2 hy4 => obE hF2 fun y2 hm9 he2 => x_cName (d := (enc (x2 : (T2 Int Int)))) (Γ' := [.scr a__law_script, .mu p1 (ml (z3.2 : (List Int))), .unk, .unk, .unk, .unk, .unk, .imm (enc (x2 : (T2 Int Int))), .unk, .imm (enc (x1 : (List (T2 Int Int))))]) L7 r7 (show (7 : Nat) < 10 by decide) rfl fun _ L8 => x_yes (x_tup (x_cons (x_op (x_c (x_op (x_vd (d := (enc (x2 : (T2 Int Int)))) L8 rfl fun v4 r8 => x_c (x_ixTI (x := x2.a) r8 rfl (x_mulL (by decide) (x_cons (x_op (x_c (x_op (x_vd (d := (enc (x2 : (T2 Int Int)))) L8 rfl fun v5 r9 => x_c (x_ixTI (x := x2.b) r9 rfl (x_mulL (by decide) (x_nil (x_mkT L8 (.cons (.int _) (.cons (.int _) .nil)) (show (2 : Nat) ≤ 16777216 by decide) fun v6 _ L9 le4 r10 => have r11 : Rep _ _ _ (enc ((T2.mk ((12 * x2.a)) ((12 * x2.b))) : (T2 Int Int))) v6 := r10; x_cy (G := (fun (s2 : Unit) => [.scr a__law_script, .mu p1 (ml (z3.2 : (List Int))), .unk, .unk, .unk, .unk, .unk, .unk, .unk, .imm (enc (x1 : (List (T2 Int Int))))])) (s := s2) (s' := ()) (y := (T2.mk ((12 * x2.a)) ((12 * x2.b)))) (by cases hm9; cases he2; rfl) hy4 L7 L9 (.i rfl (.m (.i rfl (.i rfl (.i rfl (.i rfl (.i rfl (.i rfl (.i rfl (.i rfl .e)))))))))) r11)))))))))))))))))) fun p3 _ L10 le5 r12 => have L11 : Lo _ _ _ _ [.scr a__law_script, .mu p1 (ml (z3.2 : (List Int))), .unk, .unk, .unk, .unk, .unk, .unk, .unk, .imm (enc (x1 : (List (T2 Int Int))))] := L10; have r13 : Rep _ _ _ (enc (ys2 : (List (T2 Int Int)))) (.ref p3) := r12; x_cy (G := (fun (s1 : Unit) => [.scr a__law_script, .mu p1 (ml (z3.2 : (List Int))), .unk, .unk, .unk, .unk, .unk, .unk, .unk, .unk])) (s := s1) (s' := ()) (y := ys2) (by cases hm8; cases he1; rfl) hy2 L5 L11 (.i rfl (.m (.i rfl (.i rfl (.i rfl (.i rfl (.i rfl (.i rfl (.i rfl (.i rfl .e)))))))))) r13))) fun p4 _ L12 le6 r14 => have L13 : Lo _ _ _ _ [.scr a__law_script, .mu p1 (ml (z3.2 : (List Int))), .unk, .unk, .unk, .unk, .unk, .unk, .unk, .unk] := L12; have r15 : Rep _ _ _ (enc (ys1 : (List (List (T2 Int Int))))) (.ref p4) := r14; x_set (d := (enc (ys1 : (List (List (T2 Int Int)))))) (Γ' := [.scr a__law_script, .mu p1 (ml (z3.2 : (List Int))), .imm (enc (ys1 : (List (List (T2 Int Int))))), .unk, .unk, .unk, .unk, .unk, .unk, .unk]) L13 r15 (show (2 : Nat) < 10 by decide) rfl fun _ L14 => ?_)))))))
    refine x_seq (x_asg (x_op (x_c (x_call (x_cons (x_vm L14 rfl (x_nil (obE hm5 fun z4 hz4 hm10 => mk__law_bottom hz4 (L14.cond1 (i := 1) (.m (L14.mrep (i := 1) rfl) .nil) rfl rfl rfl) fun _ F4 => k1 L14 F4 (i := 1) (Γ' := [.scr a__law_script, .mu p1 (ml (z4.2 : (List Int))), .imm (enc (ys1 : (List (List (T2 Int Int))))), .unk, .unk, .unk, .unk, .unk, .unk, .unk]) rfl rfl rfl fun L15 le7 => x_mulL (by decide) (x_bset (x0 := (12 * z4.1)) (d := fun n_1 => (.int n_1)) (Γf := fun n_1 => [.scr a__law_script, .mu p1 (ml (z4.2 : (List Int))), .imm (enc (ys1 : (List (List (T2 Int Int))))), .imm (.int n_1), .unk, .unk, .unk, .unk, .unk, .unk]) hm10 L15 (.int _) (show (3 : Nat) < 10 by decide) (fun _ => rfl) fun n_1 _ hm11 L16 => ?_)))))))))
    refine x_seq (x_asg (x_call (x_cons (x_vd (d := (enc (ys1 : (List (List (T2 Int Int)))))) L16 rfl fun v8 r16 => x_cons (x_vI (x := n_1) L16 rfl (x_nil (obE hm11 fun z5 hz5 hm12 => mk__law_handed hz5 (L16.cond0 (.im r16 (.im (.int _) .nil)) rfl) fun p5 _ F5 => k0i L16 F5 fun L17 le8 r17 => have r18 : Rep _ _ _ (enc (z5 : (List (List (T3 Int Int Int))))) (.ref p5) := r17; x_set (d := (enc (z5 : (List (List (T3 Int Int Int)))))) (Γ' := [.scr a__law_script, .mu p1 (ml (z4.2 : (List Int))), .imm (enc (ys1 : (List (List (T2 Int Int))))), .imm (.int n_1), .imm (enc (z5 : (List (List (T3 Int Int Int))))), .unk, .unk, .unk, .unk, .unk]) L17 r18 (show (4 : Nat) < 10 by decide) rfl fun _ L18 => ?_)))))))
    refine x_seq (x_asg (x_lcl (x_vd (d := (enc (z5 : (List (List (T3 Int Int Int)))))) L18 rfl fun v9 r19 => obE hm12 fun _ hl3 hm13 => obE hm13 fun ys3 hy5 hm14 => x_lcL (G := (fun (s3 : Unit) => [.scr a__law_script, .mu p1 (ml (z4.2 : (List Int))), .imm (enc (ys1 : (List (List (T2 Int Int))))), .imm (.int n_1), .imm (enc (z5 : (List (List (T3 Int Int Int))))), .unk, .unk, .unk, .unk, .unk])) (s0 := ()) (xs := z5) L18 (fun _ _ => rfl) r19 (mapO_comp hy5) (lenOk_le hl3) (fun x3 s3 _ H3 _ u3 _ _ _ hF3 L19 r20 hn3 hy6 => obE hF3 fun y3 hm15 he3 => x_cName (d := (enc (x3 : (List (T3 Int Int Int))))) (Γ' := [.scr a__law_script, .mu p1 (ml (z4.2 : (List Int))), .imm (enc (ys1 : (List (List (T2 Int Int))))), .imm (.int n_1), .imm (enc (z5 : (List (List (T3 Int Int Int))))), .unk, .unk, .unk, .unk, .imm (enc (x3 : (List (T3 Int Int Int))))]) L19 r20 (show (9 : Nat) < 10 by decide) rfl fun _ L20 => x_yes (x_cb (x_cons (x_vd (d := (enc (x3 : (List (T3 Int Int Int))))) L20 rfl fun v10 r21 => x_nil (x_listL (xs := x3) L20 r21 fun v11 _ L21 le9 r22 => have r23 : Rep _ _ _ (enc (x3 : (List (T3 Int Int Int)))) v11 := r22; x_cy (G := (fun (s3 : Unit) => [.scr a__law_script, .mu p1 (ml (z4.2 : (List Int))), .imm (enc (ys1 : (List (List (T2 Int Int))))), .imm (.int n_1), .imm (enc (z5 : (List (List (T3 Int Int Int))))), .unk, .unk, .unk, .unk, .unk])) (s := s3) (s' := ()) (y := x3) (by cases hm15; cases he3; rfl) hy6 L19 L21 (.i rfl (.m (.i rfl (.i rfl (.i rfl (.i rfl (.i rfl (.i rfl (.i rfl (.i rfl .e)))))))))) r23))))) fun p6 _ L22 le10 r24 => have L23 : Lo _ _ _ _ [.scr a__law_script, .mu p1 (ml (z4.2 : (List Int))), .imm (enc (ys1 : (List (List (T2 Int Int))))), .imm (.int n_1), .imm (enc (z5 : (List (List (T3 Int Int Int))))), .unk, .unk, .unk, .unk, .unk] := L22; have r25 : Rep _ _ _ (enc (ys3 : (List (List (T3 Int Int Int))))) (.ref p6) := r24; x_set (d := (enc (ys3 : (List (List (T3 Int Int Int)))))) (Γ' := [.scr a__law_script, .mu p1 (ml (z4.2 : (List Int))), .imm (enc (ys1 : (List (List (T2 Int Int))))), .imm (.int n_1), .imm (enc (z5 : (List (List (T3 Int Int Int))))), .imm (enc (ys3 : (List (List (T3 Int Int Int))))), .unk, .unk, .unk, .unk]) L23 r25 (show (5 : Nat) < 10 by decide) rfl fun _ L24 => ?_)))
    refine x_seq (x_tforL (x_op (x_lst (x_cons (x_call (x_cons (x_vscr L24 rfl fun v12 r26 => x_cons (x_c (x_nil (obE hm14 fun z6 hz6 hm16 => mk__law_cell hz6 (L24.cond0 (.s r26 (.im (.int _) .nil)) rfl) fun _ F6 => k0 L24 F6 fun L25 le11 => x_nil (x_mkL L25 (.cons (.int _) .nil) (show (1 : Nat) ≤ 16777216 by decide) fun v14 _ L26 le12 r27 => have r28 : Rep _ _ _ (enc ([z6] : (List Int))) v14 := r27; x_sl (x_vscr L26 rfl fun v15 r29 => x_part (x_c (x_partK (x_part (x_c (x_partK (x_slS L26 r29 fun v16 _ L27 le13 r30 => have r31 := le13 _ _ r28; have r32 : Rep _ _ _ (enc ((slice a__law_script (some 2) (some 41)) : (List Int))) v16 := r30; x_cat L27 hm16 r31 r32 fun v17 _ hm17 L28 le14 r33 => have r34 : Rep _ _ _ (enc (([z6] ++ (slice a__law_script (some 2) (some 41))) : (List Int))) v17 := r33; x_flL (G := (fun (s4 : Unit) => [.scr a__law_script, .mu p1 (ml (z4.2 : (List Int))), .imm (enc (ys1 : (List (List (T2 Int Int))))), .imm (.int n_1), .imm (enc (z5 : (List (List (T3 Int Int Int))))), .imm (enc (ys3 : (List (List (T3 Int Int Int))))), .unk, .unk, .unk, .unk])) (s0 := ()) (xs := ([z6] ++ (slice a__law_script (some 2) (some 41)))) (ps := (fun (r : Bool) => [])) (rs := (fun (r : Bool) => (.imm (.bool r)))) (L28.weak (Γ' := [.scr a__law_script, .mu p1 (ml (z4.2 : (List Int))), .imm (enc (ys1 : (List (List (T2 Int Int))))), .imm (.int n_1), .imm (enc (z5 : (List (List (T3 Int Int Int))))), .imm (enc (ys3 : (List (List (T3 Int Int Int))))), .unk, .unk, .unk, .unk]) (.k (.k (.k (.k (.k (.k (.k (.k (.k (.k .e))))))))))) (fun _ _ => rfl) r34 hm17 (fun x4 s4 H4 _ u4 _ _ _ _ _ hm18 L29 r35 hN1 hC1 hB1 hR1 => ?_) (fun s5 _ _ hm19 L30 => ?_) (fun _ _ _ hm20 F7 => x_finRB (Q := Q) (ps := (fun (r : Bool) => [])) (sc := fun (r : Bool) => r) hm20 kont F7)))))))))))))))))))
    · refine x_set (d := (.int x4)) (Γ' := [.scr a__law_script, .mu p1 (ml (z4.2 : (List Int))), .imm (enc (ys1 : (List (List (T2 Int Int))))), .imm (.int n_1), .imm (enc (z5 : (List (List (T3 Int Int Int))))), .imm (enc (ys3 : (List (List (T3 Int Int Int))))), .imm (.int x4), .unk, .unk, .unk]) L29 r35 (show (6 : Nat) < 10 by decide) rfl fun _ L31 => ?_
      refine x_seq (x_asg (x_call (x_cons (x_call (x_cons (x_vI (x := x4) L31 rfl (x_nil (obE hm18 fun z7 hz7 hm21 => mk__law_bag hz7 (L31.cond0 (.im (.int _) .nil) rfl) fun p7 _ F8 => k0N L31 F8 fun _ h02 hx2 L32 le15 => x_cons (x_vd (d := (enc (ys1 : (List (List (T2 Int Int)))))) L32 rfl fun v18 r37 => x_nil (obE hm21 fun z8 hz8 hm22 => mk__law_spot hz8 (L32.cond1 (i := 10) (.m (L32.tmp (i := 10) rfl) (.im r37 .nil)) rfl rfl rfl) fun v19 _ F9 => k1d L32 F9 (i := 10) (Γ' := [.scr a__law_script, .mu p1 (ml (z4.2 : (List Int))), .imm (enc (ys1 : (List (List (T2 Int Int))))), .imm (.int n_1), .imm (enc (z5 : (List (List (T3 Int Int Int))))), .imm (enc (ys3 : (List (List (T3 Int Int Int))))), .imm (.int x4), .unk, .unk, .unk, .tmp p7 (ml (z8.2 : (List Int)))]) rfl rfl rfl fun L33 le16 r38 => x_set (d := (enc (z8.1 : (T2 Int Int)))) (Γ' := [.scr a__law_script, .mu p1 (ml (z4.2 : (List Int))), .imm (enc (ys1 : (List (List (T2 Int Int))))), .imm (.int n_1), .imm (enc (z5 : (List (List (T3 Int Int Int))))), .imm (enc (ys3 : (List (List (T3 Int Int Int))))), .imm (.int x4), .imm (enc (z8.1 : (T2 Int Int))), .unk, .unk, .tmp p7 (ml (z8.2 : (List Int)))]) L33 r38 (show (7 : Nat) < 10 by decide) rfl fun _ L34 => ?_))))))))))
      have L35 := L34.weak (Γ' := [.scr a__law_script, .mu p1 (ml (z4.2 : (List Int))), .imm (enc (ys1 : (List (List (T2 Int Int))))), .imm (.int n_1), .imm (enc (z5 : (List (List (T3 Int Int Int))))), .imm (enc (ys3 : (List (List (T3 Int Int Int))))), .imm (.int x4), .imm (enc (z8.1 : (T2 Int Int))), .unk, .unk]) (.k (.k (.k (.k (.k (.k (.k (.k (.k (.k .e))))))))))
      refine x_seq (x_asg (x_call (x_cons (x_vd (d := (enc (ys3 : (List (List (T3 Int Int Int)))))) L35 rfl fun v20 r39 => x_cons (x_call (x_cons (x_op (x_vd (d := (enc (z8.1 : (T2 Int Int)))) L35 rfl fun v21 r40 => x_c (x_ixTI (x := z8.1.a) r40 rfl (x_cons (x_op (x_vd (d := (enc (z8.1 : (T2 Int Int)))) L35 rfl fun v22 r41 => x_c (x_ixTI (x := z8.1.b) r41 rfl (x_cons (x_vI (x := n_1) L35 rfl (x_nil (obE hm22 fun z9 hz9 hm23 => mk__law_point hz9 (L35.cond0 (.im (.int _) (.im (.int _) (.im (.int _) .nil))) rfl) fun v23 _ F10 => k0d L35 F10 fun L36 le17 r42 => have r43 := le17 _ _ r39; x_nil (obE hm23 fun z10 hz10 hm24 => mk_stands hz10 (L36.cond0 (.im r43 (.im r42 .nil)) rfl) fun _ F11 => k0 L36 F11 fun L37 le18 => x_set (d := (.str z10)) (Γ' := [.scr a__law_script, .mu p1 (ml (z4.2 : (List Int))), .imm (enc (ys1 : (List (List (T2 Int Int))))), .imm (.int n_1), .imm (enc (z5 : (List (List (T3 Int Int Int))))), .imm (enc (ys3 : (List (List (T3 Int Int Int))))), .imm (.int x4), .imm (enc (z8.1 : (T2 Int Int))), .imm (.str z10), .unk]) L37 (.str _) (show (8 : Nat) < 10 by decide) rfl fun _ L38 => ?_))))))))))))))))))
      refine x_ifS (x_or (x_not (x_tB (x_cb (x_cons (x_vS (x := z10) L38 rfl (x_cons (x_c (x_nil (x_isiS (x := z10) (T := "str") (b := true) (show kitB "str" "str" = some true by decide +kernel) (x_kb (x_kn (x_orB L38 hm24 (fun _ hm26 _ hq => x_or (x_test (x_op (x_vS (x := z10) L38 rfl (x_call (x_cons (x_vd (d := (enc (ys1 : (List (List (T2 Int Int)))))) L38 rfl fun v30 r48 => x_cons (x_vd (d := (enc (z8.1 : (T2 Int Int)))) L38 rfl fun v31 r49 => x_nil (obE hm26 fun z12 hz12 hm27 => mk__law_place hz12 (L38.cond0 (.im r48 (.im r49 .nil)) rfl) fun _ F13 => k0 L38 F13 fun L40 le20 => x_nes (x_kb (x_orP (B := (!decide (ys3 = z5))) (fun _ hq => x_test (x_op (x_vd (d := (enc (ys3 : (List (List (T3 Int Int Int)))))) L40 rfl fun v33 r50 => x_vd (d := (enc (z5 : (List (List (T3 Int Int Int)))))) L40 rfl fun v34 r51 => x_ned (x := ys3) (y := z5) r50.dp r51.dp (by decide) (x_kb (hq))))) (x_lfT hm27 hq L40)))))))))))) fun b1 _ hm28 L41 => x_if hm28 (fun hm29 => ?_) fun hm29 => ?_)))))))))))))
      · exact x_ret (x_c (x_leafR (ps := (fun (r : Bool) => [])) (rs := (fun (r : Bool) => (.imm (.bool r)))) (e := false) hm29 hR1 (L41.fin hp0 (.bl _))))
      · refine x_next ?_
        exact x_leafN (G := (fun (s4 : Unit) => [.scr a__law_script, .mu p1 (ml (z4.2 : (List Int))), .imm (enc (ys1 : (List (List (T2 Int Int))))), .imm (.int n_1), .imm (enc (z5 : (List (List (T3 Int Int Int))))), .imm (enc (ys3 : (List (List (T3 Int Int Int))))), .unk, .unk, .unk, .unk])) (e := ()) hm29 hN1 (L41.weak (Γ' := [.scr a__law_script, .mu p1 (ml (z4.2 : (List Int))), .imm (enc (ys1 : (List (List (T2 Int Int))))), .imm (.int n_1), .imm (enc (z5 : (List (List (T3 Int Int Int))))), .imm (enc (ys3 : (List (List (T3 Int Int Int))))), .unk, .unk, .unk, .unk]) (.k (.k (.k (.k (.k (.k (.d (.d (.d (.k .e)))))))))))
    exact x_ret (x_c (x_finB (Q := Q) (ps := (fun (r : Bool) => [])) (sc := fun (r : Bool) => r) true hm19 kont (L30.fin hp0 (.bl _))))
end
theorem all_mk {l : PySem.W.OpenLaw} {w : World} {K : PySem.W.Frag} {h : Heap} {mg : Str → Option Value} {fa : Addr} (X : K.In h) (G : h.Ns mainGlobals mg) (hfa : mg "law" = some (.ref fa))
    {f0 : Addr} {od0 an0 : Option Addr} {sl0 : Array (Option Value)} {oc0 kV0 dc0 pm0 cd0 ct0 : Value}
    (a0 : PySem.W.nsIn K mainGlobals "_law_cell" = some (some (.ref f0))) (l0 : K.lookup f0 = some ⟨oc0, od0, .func (PySem.W.fnOf "_law_cell" "_law_cell" (defArgs s__law_cell) (defBody s__law_cell) (defScope s__law_cell) .none kV0 dc0 pm0 an0 cd0 ct0), sl0⟩) (c0 : PySem.W.codeIn K cd0 "_law_cell" = true) (k0 : PySem.W.keepIn K (.ref f0) = true)
    {f1 : Addr} {od1 an1 : Option Addr} {sl1 : Array (Option Value)} {oc1 kV1 dc1 pm1 cd1 ct1 : Value}
    (a1 : PySem.W.nsIn K mainGlobals "_law_bag" = some (some (.ref f1))) (l1 : K.lookup f1 = some ⟨oc1, od1, .func (PySem.W.fnOf "_law_bag" "_law_bag" (defArgs s__law_bag) (defBody s__law_bag) (defScope s__law_bag) .none kV1 dc1 pm1 an1 cd1 ct1), sl1⟩) (c1 : PySem.W.codeIn K cd1 "_law_bag" = true) (k1 : PySem.W.keepIn K (.ref f1) = true)
    {f2 : Addr} {od2 an2 : Option Addr} {sl2 : Array (Option Value)} {oc2 kV2 dc2 pm2 cd2 ct2 : Value}
    (a2 : PySem.W.nsIn K mainGlobals "_law_draw" = some (some (.ref f2))) (l2 : K.lookup f2 = some ⟨oc2, od2, .func (PySem.W.fnOf "_law_draw" "_law_draw" (defArgs s__law_draw) (defBody s__law_draw) (defScope s__law_draw) .none kV2 dc2 pm2 an2 cd2 ct2), sl2⟩) (c2 : PySem.W.codeIn K cd2 "_law_draw" = true) (k2 : PySem.W.keepIn K (.ref f2) = true)
    {f3 : Addr} {od3 an3 : Option Addr} {sl3 : Array (Option Value)} {oc3 kV3 dc3 pm3 cd3 ct3 : Value}
    (a3 : PySem.W.nsIn K mainGlobals "_law_chain" = some (some (.ref f3))) (l3 : K.lookup f3 = some ⟨oc3, od3, .func (PySem.W.fnOf "_law_chain" "_law_chain" (defArgs s__law_chain) (defBody s__law_chain) (defScope s__law_chain) .none kV3 dc3 pm3 an3 cd3 ct3), sl3⟩) (c3 : PySem.W.codeIn K cd3 "_law_chain" = true) (k3 : PySem.W.keepIn K (.ref f3) = true)
    {f4 : Addr} {od4 an4 : Option Addr} {sl4 : Array (Option Value)} {oc4 kV4 dc4 pm4 cd4 ct4 : Value}
    (a4 : PySem.W.nsIn K mainGlobals "_law_strip" = some (some (.ref f4))) (l4 : K.lookup f4 = some ⟨oc4, od4, .func (PySem.W.fnOf "_law_strip" "_law_strip" (defArgs s__law_strip) (defBody s__law_strip) (defScope s__law_strip) .none kV4 dc4 pm4 an4 cd4 ct4), sl4⟩) (c4 : PySem.W.codeIn K cd4 "_law_strip" = true) (k4 : PySem.W.keepIn K (.ref f4) = true)
    {f5 : Addr} {od5 an5 : Option Addr} {sl5 : Array (Option Value)} {oc5 kV5 dc5 pm5 cd5 ct5 : Value}
    (a5 : PySem.W.nsIn K mainGlobals "_law_cross" = some (some (.ref f5))) (l5 : K.lookup f5 = some ⟨oc5, od5, .func (PySem.W.fnOf "_law_cross" "_law_cross" (defArgs s__law_cross) (defBody s__law_cross) (defScope s__law_cross) .none kV5 dc5 pm5 an5 cd5 ct5), sl5⟩) (c5 : PySem.W.codeIn K cd5 "_law_cross" = true) (k5 : PySem.W.keepIn K (.ref f5) = true)
    {f6 : Addr} {od6 an6 : Option Addr} {sl6 : Array (Option Value)} {oc6 kV6 dc6 pm6 cd6 ct6 : Value}
    (a6 : PySem.W.nsIn K mainGlobals "_law_back" = some (some (.ref f6))) (l6 : K.lookup f6 = some ⟨oc6, od6, .func (PySem.W.fnOf "_law_back" "_law_back" (defArgs s__law_back) (defBody s__law_back) (defScope s__law_back) .none kV6 dc6 pm6 an6 cd6 ct6), sl6⟩) (c6 : PySem.W.codeIn K cd6 "_law_back" = true) (k6 : PySem.W.keepIn K (.ref f6) = true)
    {f7 : Addr} {od7 an7 : Option Addr} {sl7 : Array (Option Value)} {oc7 kV7 dc7 pm7 cd7 ct7 : Value}
    (a7 : PySem.W.nsIn K mainGlobals "_law_touch" = some (some (.ref f7))) (l7 : K.lookup f7 = some ⟨oc7, od7, .func (PySem.W.fnOf "_law_touch" "_law_touch" (defArgs s__law_touch) (defBody s__law_touch) (defScope s__law_touch) .none kV7 dc7 pm7 an7 cd7 ct7), sl7⟩) (c7 : PySem.W.codeIn K cd7 "_law_touch" = true) (k7 : PySem.W.keepIn K (.ref f7) = true)
    {f8 : Addr} {od8 an8 : Option Addr} {sl8 : Array (Option Value)} {oc8 kV8 dc8 pm8 cd8 ct8 : Value}
    (a8 : PySem.W.nsIn K mainGlobals "_law_simple" = some (some (.ref f8))) (l8 : K.lookup f8 = some ⟨oc8, od8, .func (PySem.W.fnOf "_law_simple" "_law_simple" (defArgs s__law_simple) (defBody s__law_simple) (defScope s__law_simple) .none kV8 dc8 pm8 an8 cd8 ct8), sl8⟩) (c8 : PySem.W.codeIn K cd8 "_law_simple" = true) (k8 : PySem.W.keepIn K (.ref f8) = true)
    {f9 : Addr} {od9 an9 : Option Addr} {sl9 : Array (Option Value)} {oc9 kV9 dc9 pm9 cd9 ct9 : Value}
    (a9 : PySem.W.nsIn K mainGlobals "_law_twice" = some (some (.ref f9))) (l9 : K.lookup f9 = some ⟨oc9, od9, .func (PySem.W.fnOf "_law_twice" "_law_twice" (defArgs s__law_twice) (defBody s__law_twice) (defScope s__law_twice) .none kV9 dc9 pm9 an9 cd9 ct9), sl9⟩) (c9 : PySem.W.codeIn K cd9 "_law_twice" = true) (k9 : PySem.W.keepIn K (.ref f9) = true)
    {f10 : Addr} {od10 an10 : Option Addr} {sl10 : Array (Option Value)} {oc10 kV10 dc10 pm10 cd10 ct10 : Value}
    (a10 : PySem.W.nsIn K mainGlobals "_law_shape" = some (some (.ref f10))) (l10 : K.lookup f10 = some ⟨oc10, od10, .func (PySem.W.fnOf "_law_shape" "_law_shape" (defArgs s__law_shape) (defBody s__law_shape) (defScope s__law_shape) .none kV10 dc10 pm10 an10 cd10 ct10), sl10⟩) (c10 : PySem.W.codeIn K cd10 "_law_shape" = true) (k10 : PySem.W.keepIn K (.ref f10) = true)
    {f11 : Addr} {od11 an11 : Option Addr} {sl11 : Array (Option Value)} {oc11 kV11 dc11 pm11 cd11 ct11 : Value}
    (a11 : PySem.W.nsIn K mainGlobals "_law_slid" = some (some (.ref f11))) (l11 : K.lookup f11 = some ⟨oc11, od11, .func (PySem.W.fnOf "_law_slid" "_law_slid" (defArgs s__law_slid) (defBody s__law_slid) (defScope s__law_slid) .none kV11 dc11 pm11 an11 cd11 ct11), sl11⟩) (c11 : PySem.W.codeIn K cd11 "_law_slid" = true) (k11 : PySem.W.keepIn K (.ref f11) = true)
    {f12 : Addr} {od12 an12 : Option Addr} {sl12 : Array (Option Value)} {oc12 kV12 dc12 pm12 cd12 ct12 : Value}
    (a12 : PySem.W.nsIn K mainGlobals "_law_cloth" = some (some (.ref f12))) (l12 : K.lookup f12 = some ⟨oc12, od12, .func (PySem.W.fnOf "_law_cloth" "_law_cloth" (defArgs s__law_cloth) (defBody s__law_cloth) (defScope s__law_cloth) .none kV12 dc12 pm12 an12 cd12 ct12), sl12⟩) (c12 : PySem.W.codeIn K cd12 "_law_cloth" = true) (k12 : PySem.W.keepIn K (.ref f12) = true)
    {f13 : Addr} {od13 an13 : Option Addr} {sl13 : Array (Option Value)} {oc13 kV13 dc13 pm13 cd13 ct13 : Value}
    (a13 : PySem.W.nsIn K mainGlobals "_law_bottom" = some (some (.ref f13))) (l13 : K.lookup f13 = some ⟨oc13, od13, .func (PySem.W.fnOf "_law_bottom" "_law_bottom" (defArgs s__law_bottom) (defBody s__law_bottom) (defScope s__law_bottom) .none kV13 dc13 pm13 an13 cd13 ct13), sl13⟩) (c13 : PySem.W.codeIn K cd13 "_law_bottom" = true) (k13 : PySem.W.keepIn K (.ref f13) = true)
    {f14 : Addr} {od14 an14 : Option Addr} {sl14 : Array (Option Value)} {oc14 kV14 dc14 pm14 cd14 ct14 : Value}
    (a14 : PySem.W.nsIn K mainGlobals "_law_gcd" = some (some (.ref f14))) (l14 : K.lookup f14 = some ⟨oc14, od14, .func (PySem.W.fnOf "_law_gcd" "_law_gcd" (defArgs s__law_gcd) (defBody s__law_gcd) (defScope s__law_gcd) .none kV14 dc14 pm14 an14 cd14 ct14), sl14⟩) (c14 : PySem.W.codeIn K cd14 "_law_gcd" = true) (k14 : PySem.W.keepIn K (.ref f14) = true)
    {f15 : Addr} {od15 an15 : Option Addr} {sl15 : Array (Option Value)} {oc15 kV15 dc15 pm15 cd15 ct15 : Value}
    (a15 : PySem.W.nsIn K mainGlobals "_law_point" = some (some (.ref f15))) (l15 : K.lookup f15 = some ⟨oc15, od15, .func (PySem.W.fnOf "_law_point" "_law_point" (defArgs s__law_point) (defBody s__law_point) (defScope s__law_point) .none kV15 dc15 pm15 an15 cd15 ct15), sl15⟩) (c15 : PySem.W.codeIn K cd15 "_law_point" = true) (k15 : PySem.W.keepIn K (.ref f15) = true)
    {f16 : Addr} {od16 an16 : Option Addr} {sl16 : Array (Option Value)} {oc16 kV16 dc16 pm16 cd16 ct16 : Value}
    (a16 : PySem.W.nsIn K mainGlobals "_law_handed" = some (some (.ref f16))) (l16 : K.lookup f16 = some ⟨oc16, od16, .func (PySem.W.fnOf "_law_handed" "_law_handed" (defArgs s__law_handed) (defBody s__law_handed) (defScope s__law_handed) .none kV16 dc16 pm16 an16 cd16 ct16), sl16⟩) (c16 : PySem.W.codeIn K cd16 "_law_handed" = true) (k16 : PySem.W.keepIn K (.ref f16) = true)
    {f17 : Addr} {od17 an17 : Option Addr} {sl17 : Array (Option Value)} {oc17 kV17 dc17 pm17 cd17 ct17 : Value}
    (a17 : PySem.W.nsIn K mainGlobals "_law_spot" = some (some (.ref f17))) (l17 : K.lookup f17 = some ⟨oc17, od17, .func (PySem.W.fnOf "_law_spot" "_law_spot" (defArgs s__law_spot) (defBody s__law_spot) (defScope s__law_spot) .none kV17 dc17 pm17 an17 cd17 ct17), sl17⟩) (c17 : PySem.W.codeIn K cd17 "_law_spot" = true) (k17 : PySem.W.keepIn K (.ref f17) = true)
    {f18 : Addr} {od18 an18 : Option Addr} {sl18 : Array (Option Value)} {oc18 kV18 dc18 pm18 cd18 ct18 : Value}
    (a18 : PySem.W.nsIn K mainGlobals "sides_of" = some (some (.ref f18))) (l18 : K.lookup f18 = some ⟨oc18, od18, .func (PySem.W.fnOf "sides_of" "sides_of" (defArgs s_sides_of) (defBody s_sides_of) (defScope s_sides_of) .none kV18 dc18 pm18 an18 cd18 ct18), sl18⟩) (c18 : PySem.W.codeIn K cd18 "sides_of" = true) (k18 : PySem.W.keepIn K (.ref f18) = true)
    {f19 : Addr} {od19 an19 : Option Addr} {sl19 : Array (Option Value)} {oc19 kV19 dc19 pm19 cd19 ct19 : Value}
    (a19 : PySem.W.nsIn K mainGlobals "crossed" = some (some (.ref f19))) (l19 : K.lookup f19 = some ⟨oc19, od19, .func (PySem.W.fnOf "crossed" "crossed" (defArgs s_crossed) (defBody s_crossed) (defScope s_crossed) .none kV19 dc19 pm19 an19 cd19 ct19), sl19⟩) (c19 : PySem.W.codeIn K cd19 "crossed" = true) (k19 : PySem.W.keepIn K (.ref f19) = true)
    {f20 : Addr} {od20 an20 : Option Addr} {sl20 : Array (Option Value)} {oc20 kV20 dc20 pm20 cd20 ct20 : Value}
    (a20 : PySem.W.nsIn K mainGlobals "side" = some (some (.ref f20))) (l20 : K.lookup f20 = some ⟨oc20, od20, .func (PySem.W.fnOf "side" "side" (defArgs s_side) (defBody s_side) (defScope s_side) .none kV20 dc20 pm20 an20 cd20 ct20), sl20⟩) (c20 : PySem.W.codeIn K cd20 "side" = true) (k20 : PySem.W.keepIn K (.ref f20) = true)
    {f21 : Addr} {od21 an21 : Option Addr} {sl21 : Array (Option Value)} {oc21 kV21 dc21 pm21 cd21 ct21 : Value}
    (a21 : PySem.W.nsIn K mainGlobals "is_amid" = some (some (.ref f21))) (l21 : K.lookup f21 = some ⟨oc21, od21, .func (PySem.W.fnOf "is_amid" "is_amid" (defArgs s_is_amid) (defBody s_is_amid) (defScope s_is_amid) .none kV21 dc21 pm21 an21 cd21 ct21), sl21⟩) (c21 : PySem.W.codeIn K cd21 "is_amid" = true) (k21 : PySem.W.keepIn K (.ref f21) = true)
    {f22 : Addr} {od22 an22 : Option Addr} {sl22 : Array (Option Value)} {oc22 kV22 dc22 pm22 cd22 ct22 : Value}
    (a22 : PySem.W.nsIn K mainGlobals "lies_on" = some (some (.ref f22))) (l22 : K.lookup f22 = some ⟨oc22, od22, .func (PySem.W.fnOf "lies_on" "lies_on" (defArgs s_lies_on) (defBody s_lies_on) (defScope s_lies_on) .none kV22 dc22 pm22 an22 cd22 ct22), sl22⟩) (c22 : PySem.W.codeIn K cd22 "lies_on" = true) (k22 : PySem.W.keepIn K (.ref f22) = true)
    {f23 : Addr} {od23 an23 : Option Addr} {sl23 : Array (Option Value)} {oc23 kV23 dc23 pm23 cd23 ct23 : Value}
    (a23 : PySem.W.nsIn K mainGlobals "is_higher" = some (some (.ref f23))) (l23 : K.lookup f23 = some ⟨oc23, od23, .func (PySem.W.fnOf "is_higher" "is_higher" (defArgs s_is_higher) (defBody s_is_higher) (defScope s_is_higher) .none kV23 dc23 pm23 an23 cd23 ct23), sl23⟩) (c23 : PySem.W.codeIn K cd23 "is_higher" = true) (k23 : PySem.W.keepIn K (.ref f23) = true)
    {f24 : Addr} {od24 an24 : Option Addr} {sl24 : Array (Option Value)} {oc24 kV24 dc24 pm24 cd24 ct24 : Value}
    (a24 : PySem.W.nsIn K mainGlobals "goes_by" = some (some (.ref f24))) (l24 : K.lookup f24 = some ⟨oc24, od24, .func (PySem.W.fnOf "goes_by" "goes_by" (defArgs s_goes_by) (defBody s_goes_by) (defScope s_goes_by) .none kV24 dc24 pm24 an24 cd24 ct24), sl24⟩) (c24 : PySem.W.codeIn K cd24 "goes_by" = true) (k24 : PySem.W.keepIn K (.ref f24) = true)
    {f25 : Addr} {od25 an25 : Option Addr} {sl25 : Array (Option Value)} {oc25 kV25 dc25 pm25 cd25 ct25 : Value}
    (a25 : PySem.W.nsIn K mainGlobals "is_within" = some (some (.ref f25))) (l25 : K.lookup f25 = some ⟨oc25, od25, .func (PySem.W.fnOf "is_within" "is_within" (defArgs s_is_within) (defBody s_is_within) (defScope s_is_within) .none kV25 dc25 pm25 an25 cd25 ct25), sl25⟩) (c25 : PySem.W.codeIn K cd25 "is_within" = true) (k25 : PySem.W.keepIn K (.ref f25) = true)
    {f26 : Addr} {od26 an26 : Option Addr} {sl26 : Array (Option Value)} {oc26 kV26 dc26 pm26 cd26 ct26 : Value}
    (a26 : PySem.W.nsIn K mainGlobals "stands" = some (some (.ref f26))) (l26 : K.lookup f26 = some ⟨oc26, od26, .func (PySem.W.fnOf "stands" "stands" (defArgs s_stands) (defBody s_stands) (defScope s_stands) .none kV26 dc26 pm26 an26 cd26 ct26), sl26⟩) (c26 : PySem.W.codeIn K cd26 "stands" = true) (k26 : PySem.W.keepIn K (.ref f26) = true)
    {f27 : Addr} {od27 an27 : Option Addr} {sl27 : Array (Option Value)} {oc27 kV27 dc27 pm27 cd27 ct27 : Value}
    (a27 : PySem.W.nsIn K mainGlobals "_law_within" = some (some (.ref f27))) (l27 : K.lookup f27 = some ⟨oc27, od27, .func (PySem.W.fnOf "_law_within" "_law_within" (defArgs s__law_within) (defBody s__law_within) (defScope s__law_within) .none kV27 dc27 pm27 an27 cd27 ct27), sl27⟩) (c27 : PySem.W.codeIn K cd27 "_law_within" = true) (k27 : PySem.W.keepIn K (.ref f27) = true)
    {f28 : Addr} {od28 an28 : Option Addr} {sl28 : Array (Option Value)} {oc28 kV28 dc28 pm28 cd28 ct28 : Value}
    (a28 : PySem.W.nsIn K mainGlobals "_law_place" = some (some (.ref f28))) (l28 : K.lookup f28 = some ⟨oc28, od28, .func (PySem.W.fnOf "_law_place" "_law_place" (defArgs s__law_place) (defBody s__law_place) (defScope s__law_place) .none kV28 dc28 pm28 an28 cd28 ct28), sl28⟩) (c28 : PySem.W.codeIn K cd28 "_law_place" = true) (k28 : PySem.W.keepIn K (.ref f28) = true)
    {f29 : Addr} {od29 an29 : Option Addr} {sl29 : Array (Option Value)} {oc29 kV29 dc29 pm29 cd29 ct29 : Value}
    (a29 : PySem.W.nsIn K mainGlobals "law" = some (some (.ref f29))) (l29 : K.lookup f29 = some ⟨oc29, od29, .func (PySem.W.fnOf "law" "law" (defArgs s_law) (defBody s_law) (defScope s_law) .none kV29 dc29 pm29 an29 cd29 ct29), sl29⟩) (c29 : PySem.W.codeIn K cd29 "law" = true) (k29 : PySem.W.keepIn K (.ref f29) = true)
    (z_abs : PySem.W.nsIn K mainGlobals "abs" = some none)
    (z_int : PySem.W.nsIn K mainGlobals "int" = some none)
    (z_isinstance : PySem.W.nsIn K mainGlobals "isinstance" = some none)
    (z_len : PySem.W.nsIn K mainGlobals "len" = some none)
    (z_list : PySem.W.nsIn K mainGlobals "list" = some none)
    (z_max : PySem.W.nsIn K mainGlobals "max" = some none)
    (z_min : PySem.W.nsIn K mainGlobals "min" = some none)
    (z_range : PySem.W.nsIn K mainGlobals "range" = some none)
    (z_set : PySem.W.nsIn K mainGlobals "set" = some none)
    (z_str : PySem.W.nsIn K mainGlobals "str" = some none)
    : ∃ fd : FuncData, (∀ (s : Shared) (v : Value), BindsTo s fd ⟨[v], []⟩ [("_law_script", v)]) ∧ ∀ base : Heap, K.In base → base.Ns mainGlobals mg → FnOk l.prog w K mg base CX0 6 fa fd ["_law_script"] (sp_law K) := by
  have e := hfa.symm.trans (PySem.W.mg_of X G a29)
  cases e
  let T : Txt K mg := {
    A__law_cell := f0, D__law_cell := PySem.W.fnOf "_law_cell" "_law_cell" (defArgs s__law_cell) (defBody s__law_cell) (defScope s__law_cell) .none kV0 dc0 pm0 an0 cd0 ct0, F__law_cell := fun_mk (st := s__law_cell) l0 c0 k0, g__law_cell := PySem.W.mg_of X G a0, b__law_cell := (fun_mk (st := s__law_cell) l0 c0 k0).binds (ps := ["_law_script", "_law_k"]) fun _ _ _ _ _ _ us hl => match us, hl with | [_, _], _ => rfl,
    A__law_bag := f1, D__law_bag := PySem.W.fnOf "_law_bag" "_law_bag" (defArgs s__law_bag) (defBody s__law_bag) (defScope s__law_bag) .none kV1 dc1 pm1 an1 cd1 ct1, F__law_bag := fun_mk (st := s__law_bag) l1 c1 k1, g__law_bag := PySem.W.mg_of X G a1, b__law_bag := (fun_mk (st := s__law_bag) l1 c1 k1).binds (ps := ["_law_cell_here"]) fun _ _ _ _ _ _ us hl => match us, hl with | [_], _ => rfl,
    A__law_draw := f2, D__law_draw := PySem.W.fnOf "_law_draw" "_law_draw" (defArgs s__law_draw) (defBody s__law_draw) (defScope s__law_draw) .none kV2 dc2 pm2 an2 cd2 ct2, F__law_draw := fun_mk (st := s__law_draw) l2 c2 k2, g__law_draw := PySem.W.mg_of X G a2, b__law_draw := (fun_mk (st := s__law_draw) l2 c2 k2).binds (ps := ["_law_bag_here", "_law_many"]) fun _ _ _ _ _ _ us hl => match us, hl with | [_, _], _ => rfl,
    A__law_chain := f3, D__law_chain := PySem.W.fnOf "_law_chain" "_law_chain" (defArgs s__law_chain) (defBody s__law_chain) (defScope s__law_chain) .none kV3 dc3 pm3 an3 cd3 ct3, F__law_chain := fun_mk (st := s__law_chain) l3 c3 k3, g__law_chain := PySem.W.mg_of X G a3, b__law_chain := (fun_mk (st := s__law_chain) l3 c3 k3).binds (ps := ["_law_bag_here", "_law_wide", "_law_most"]) fun _ _ _ _ _ _ us hl => match us, hl with | [_, _, _], _ => rfl,
    A__law_strip := f4, D__law_strip := PySem.W.fnOf "_law_strip" "_law_strip" (defArgs s__law_strip) (defBody s__law_strip) (defScope s__law_strip) .none kV4 dc4 pm4 an4 cd4 ct4, F__law_strip := fun_mk (st := s__law_strip) l4 c4 k4, g__law_strip := PySem.W.mg_of X G a4, b__law_strip := (fun_mk (st := s__law_strip) l4 c4 k4).binds (ps := ["_law_bag_here", "_law_wide", "_law_most"]) fun _ _ _ _ _ _ us hl => match us, hl with | [_, _, _], _ => rfl,
    A__law_cross := f5, D__law_cross := PySem.W.fnOf "_law_cross" "_law_cross" (defArgs s__law_cross) (defBody s__law_cross) (defScope s__law_cross) .none kV5 dc5 pm5 an5 cd5 ct5, F__law_cross := fun_mk (st := s__law_cross) l5 c5 k5, g__law_cross := PySem.W.mg_of X G a5, b__law_cross := (fun_mk (st := s__law_cross) l5 c5 k5).binds (ps := ["_law_o", "_law_p", "_law_q"]) fun _ _ _ _ _ _ us hl => match us, hl with | [_, _, _], _ => rfl,
    A__law_back := f6, D__law_back := PySem.W.fnOf "_law_back" "_law_back" (defArgs s__law_back) (defBody s__law_back) (defScope s__law_back) .none kV6 dc6 pm6 an6 cd6 ct6, F__law_back := fun_mk (st := s__law_back) l6 c6 k6, g__law_back := PySem.W.mg_of X G a6, b__law_back := (fun_mk (st := s__law_back) l6 c6 k6).binds (ps := ["_law_p", "_law_q", "_law_r"]) fun _ _ _ _ _ _ us hl => match us, hl with | [_, _, _], _ => rfl,
    A__law_touch := f7, D__law_touch := PySem.W.fnOf "_law_touch" "_law_touch" (defArgs s__law_touch) (defBody s__law_touch) (defScope s__law_touch) .none kV7 dc7 pm7 an7 cd7 ct7, F__law_touch := fun_mk (st := s__law_touch) l7 c7 k7, g__law_touch := PySem.W.mg_of X G a7, b__law_touch := (fun_mk (st := s__law_touch) l7 c7 k7).binds (ps := ["_law_p", "_law_q", "_law_r", "_law_s"]) fun _ _ _ _ _ _ us hl => match us, hl with | [_, _, _, _], _ => rfl,
    A__law_simple := f8, D__law_simple := PySem.W.fnOf "_law_simple" "_law_simple" (defArgs s__law_simple) (defBody s__law_simple) (defScope s__law_simple) .none kV8 dc8 pm8 an8 cd8 ct8, F__law_simple := fun_mk (st := s__law_simple) l8 c8 k8, g__law_simple := PySem.W.mg_of X G a8, b__law_simple := (fun_mk (st := s__law_simple) l8 c8 k8).binds (ps := ["_law_ring"]) fun _ _ _ _ _ _ us hl => match us, hl with | [_], _ => rfl,
    A__law_twice := f9, D__law_twice := PySem.W.fnOf "_law_twice" "_law_twice" (defArgs s__law_twice) (defBody s__law_twice) (defScope s__law_twice) .none kV9 dc9 pm9 an9 cd9 ct9, F__law_twice := fun_mk (st := s__law_twice) l9 c9 k9, g__law_twice := PySem.W.mg_of X G a9, b__law_twice := (fun_mk (st := s__law_twice) l9 c9 k9).binds (ps := ["_law_ring"]) fun _ _ _ _ _ _ us hl => match us, hl with | [_], _ => rfl,
    A__law_shape := f10, D__law_shape := PySem.W.fnOf "_law_shape" "_law_shape" (defArgs s__law_shape) (defBody s__law_shape) (defScope s__law_shape) .none kV10 dc10 pm10 an10 cd10 ct10, F__law_shape := fun_mk (st := s__law_shape) l10 c10 k10, g__law_shape := PySem.W.mg_of X G a10, b__law_shape := (fun_mk (st := s__law_shape) l10 c10 k10).binds (ps := ["_law_bag_here", "_law_most"]) fun _ _ _ _ _ _ us hl => match us, hl with | [_, _], _ => rfl,
    A__law_slid := f11, D__law_slid := PySem.W.fnOf "_law_slid" "_law_slid" (defArgs s__law_slid) (defBody s__law_slid) (defScope s__law_slid) .none kV11 dc11 pm11 an11 cd11 ct11, F__law_slid := fun_mk (st := s__law_slid) l11 c11 k11, g__law_slid := PySem.W.mg_of X G a11, b__law_slid := (fun_mk (st := s__law_slid) l11 c11 k11).binds (ps := ["_law_ring", "_law_right", "_law_up"]) fun _ _ _ _ _ _ us hl => match us, hl with | [_, _, _], _ => rfl,
    A__law_cloth := f12, D__law_cloth := PySem.W.fnOf "_law_cloth" "_law_cloth" (defArgs s__law_cloth) (defBody s__law_cloth) (defScope s__law_cloth) .none kV12 dc12 pm12 an12 cd12 ct12, F__law_cloth := fun_mk (st := s__law_cloth) l12 c12 k12, g__law_cloth := PySem.W.mg_of X G a12, b__law_cloth := (fun_mk (st := s__law_cloth) l12 c12 k12).binds (ps := ["_law_bag_here"]) fun _ _ _ _ _ _ us hl => match us, hl with | [_], _ => rfl,
    A__law_bottom := f13, D__law_bottom := PySem.W.fnOf "_law_bottom" "_law_bottom" (defArgs s__law_bottom) (defBody s__law_bottom) (defScope s__law_bottom) .none kV13 dc13 pm13 an13 cd13 ct13, F__law_bottom := fun_mk (st := s__law_bottom) l13 c13 k13, g__law_bottom := PySem.W.mg_of X G a13, b__law_bottom := (fun_mk (st := s__law_bottom) l13 c13 k13).binds (ps := ["_law_bag_here"]) fun _ _ _ _ _ _ us hl => match us, hl with | [_], _ => rfl,
    A__law_gcd := f14, D__law_gcd := PySem.W.fnOf "_law_gcd" "_law_gcd" (defArgs s__law_gcd) (defBody s__law_gcd) (defScope s__law_gcd) .none kV14 dc14 pm14 an14 cd14 ct14, F__law_gcd := fun_mk (st := s__law_gcd) l14 c14 k14, g__law_gcd := PySem.W.mg_of X G a14, b__law_gcd := (fun_mk (st := s__law_gcd) l14 c14 k14).binds (ps := ["_law_one", "_law_two"]) fun _ _ _ _ _ _ us hl => match us, hl with | [_, _], _ => rfl,
    A__law_point := f15, D__law_point := PySem.W.fnOf "_law_point" "_law_point" (defArgs s__law_point) (defBody s__law_point) (defScope s__law_point) .none kV15 dc15 pm15 an15 cd15 ct15, F__law_point := fun_mk (st := s__law_point) l15 c15 k15, g__law_point := PySem.W.mg_of X G a15, b__law_point := (fun_mk (st := s__law_point) l15 c15 k15).binds (ps := ["_law_a", "_law_b", "_law_n"]) fun _ _ _ _ _ _ us hl => match us, hl with | [_, _, _], _ => rfl,
    A__law_handed := f16, D__law_handed := PySem.W.fnOf "_law_handed" "_law_handed" (defArgs s__law_handed) (defBody s__law_handed) (defScope s__law_handed) .none kV16 dc16 pm16 an16 cd16 ct16, F__law_handed := fun_mk (st := s__law_handed) l16 c16 k16, g__law_handed := PySem.W.mg_of X G a16, b__law_handed := (fun_mk (st := s__law_handed) l16 c16 k16).binds (ps := ["_law_rings", "_law_n"]) fun _ _ _ _ _ _ us hl => match us, hl with | [_, _], _ => rfl,
    A__law_spot := f17, D__law_spot := PySem.W.fnOf "_law_spot" "_law_spot" (defArgs s__law_spot) (defBody s__law_spot) (defScope s__law_spot) .none kV17 dc17 pm17 an17 cd17 ct17, F__law_spot := fun_mk (st := s__law_spot) l17 c17 k17, g__law_spot := PySem.W.mg_of X G a17, b__law_spot := (fun_mk (st := s__law_spot) l17 c17 k17).binds (ps := ["_law_bag_here", "_law_rings"]) fun _ _ _ _ _ _ us hl => match us, hl with | [_, _], _ => rfl,
    A_sides_of := f18, D_sides_of := PySem.W.fnOf "sides_of" "sides_of" (defArgs s_sides_of) (defBody s_sides_of) (defScope s_sides_of) .none kV18 dc18 pm18 an18 cd18 ct18, F_sides_of := fun_mk (st := s_sides_of) l18 c18 k18, g_sides_of := PySem.W.mg_of X G a18, b_sides_of := (fun_mk (st := s_sides_of) l18 c18 k18).binds (ps := ["ring"]) fun _ _ _ _ _ _ us hl => match us, hl with | [_], _ => rfl,
    A_crossed := f19, D_crossed := PySem.W.fnOf "crossed" "crossed" (defArgs s_crossed) (defBody s_crossed) (defScope s_crossed) .none kV19 dc19 pm19 an19 cd19 ct19, F_crossed := fun_mk (st := s_crossed) l19 c19 k19, g_crossed := PySem.W.mg_of X G a19, b_crossed := (fun_mk (st := s_crossed) l19 c19 k19).binds (ps := ["p", "q"]) fun _ _ _ _ _ _ us hl => match us, hl with | [_, _], _ => rfl,
    A_side := f20, D_side := PySem.W.fnOf "side" "side" (defArgs s_side) (defBody s_side) (defScope s_side) .none kV20 dc20 pm20 an20 cd20 ct20, F_side := fun_mk (st := s_side) l20 c20 k20, g_side := PySem.W.mg_of X G a20, b_side := (fun_mk (st := s_side) l20 c20 k20).binds (ps := ["p", "q", "r"]) fun _ _ _ _ _ _ us hl => match us, hl with | [_, _, _], _ => rfl,
    A_is_amid := f21, D_is_amid := PySem.W.fnOf "is_amid" "is_amid" (defArgs s_is_amid) (defBody s_is_amid) (defScope s_is_amid) .none kV21 dc21 pm21 an21 cd21 ct21, F_is_amid := fun_mk (st := s_is_amid) l21 c21 k21, g_is_amid := PySem.W.mg_of X G a21, b_is_amid := (fun_mk (st := s_is_amid) l21 c21 k21).binds (ps := ["a", "b", "c"]) fun _ _ _ _ _ _ us hl => match us, hl with | [_, _, _], _ => rfl,
    A_lies_on := f22, D_lies_on := PySem.W.fnOf "lies_on" "lies_on" (defArgs s_lies_on) (defBody s_lies_on) (defScope s_lies_on) .none kV22 dc22 pm22 an22 cd22 ct22, F_lies_on := fun_mk (st := s_lies_on) l22 c22 k22, g_lies_on := PySem.W.mg_of X G a22, b_lies_on := (fun_mk (st := s_lies_on) l22 c22 k22).binds (ps := ["p", "q", "r"]) fun _ _ _ _ _ _ us hl => match us, hl with | [_, _, _], _ => rfl,
    A_is_higher := f23, D_is_higher := PySem.W.fnOf "is_higher" "is_higher" (defArgs s_is_higher) (defBody s_is_higher) (defScope s_is_higher) .none kV23 dc23 pm23 an23 cd23 ct23, F_is_higher := fun_mk (st := s_is_higher) l23 c23 k23, g_is_higher := PySem.W.mg_of X G a23, b_is_higher := (fun_mk (st := s_is_higher) l23 c23 k23).binds (ps := ["p", "q"]) fun _ _ _ _ _ _ us hl => match us, hl with | [_, _], _ => rfl,
    A_goes_by := f24, D_goes_by := PySem.W.fnOf "goes_by" "goes_by" (defArgs s_goes_by) (defBody s_goes_by) (defScope s_goes_by) .none kV24 dc24 pm24 an24 cd24 ct24, F_goes_by := fun_mk (st := s_goes_by) l24 c24 k24, g_goes_by := PySem.W.mg_of X G a24, b_goes_by := (fun_mk (st := s_goes_by) l24 c24 k24).binds (ps := ["p", "q", "r"]) fun _ _ _ _ _ _ us hl => match us, hl with | [_, _, _], _ => rfl,
    A_is_within := f25, D_is_within := PySem.W.fnOf "is_within" "is_within" (defArgs s_is_within) (defBody s_is_within) (defScope s_is_within) .none kV25 dc25 pm25 an25 cd25 ct25, F_is_within := fun_mk (st := s_is_within) l25 c25 k25, g_is_within := PySem.W.mg_of X G a25, b_is_within := (fun_mk (st := s_is_within) l25 c25 k25).binds (ps := ["ring", "p"]) fun _ _ _ _ _ _ us hl => match us, hl with | [_, _], _ => rfl,
    A_stands := f26, D_stands := PySem.W.fnOf "stands" "stands" (defArgs s_stands) (defBody s_stands) (defScope s_stands) .none kV26 dc26 pm26 an26 cd26 ct26, F_stands := fun_mk (st := s_stands) l26 c26 k26, g_stands := PySem.W.mg_of X G a26, b_stands := (fun_mk (st := s_stands) l26 c26 k26).binds (ps := ["cloth", "p"]) fun _ _ _ _ _ _ us hl => match us, hl with | [_, _], _ => rfl,
    A__law_within := f27, D__law_within := PySem.W.fnOf "_law_within" "_law_within" (defArgs s__law_within) (defBody s__law_within) (defScope s__law_within) .none kV27 dc27 pm27 an27 cd27 ct27, F__law_within := fun_mk (st := s__law_within) l27 c27 k27, g__law_within := PySem.W.mg_of X G a27, b__law_within := (fun_mk (st := s__law_within) l27 c27 k27).binds (ps := ["_law_ring", "_law_p"]) fun _ _ _ _ _ _ us hl => match us, hl with | [_, _], _ => rfl,
    A__law_place := f28, D__law_place := PySem.W.fnOf "_law_place" "_law_place" (defArgs s__law_place) (defBody s__law_place) (defScope s__law_place) .none kV28 dc28 pm28 an28 cd28 ct28, F__law_place := fun_mk (st := s__law_place) l28 c28 k28, g__law_place := PySem.W.mg_of X G a28, b__law_place := (fun_mk (st := s__law_place) l28 c28 k28).binds (ps := ["_law_rings", "_law_p"]) fun _ _ _ _ _ _ us hl => match us, hl with | [_, _], _ => rfl,
    A_law := fa, D_law := PySem.W.fnOf "law" "law" (defArgs s_law) (defBody s_law) (defScope s_law) .none kV29 dc29 pm29 an29 cd29 ct29, F_law := fun_mk (st := s_law) l29 c29 k29, g_law := PySem.W.mg_of X G a29, b_law := (fun_mk (st := s_law) l29 c29 k29).binds (ps := ["_law_script"]) fun _ _ _ _ _ _ us hl => match us, hl with | [_], _ => rfl,
    z_abs := PySem.W.mg_none_of X G z_abs,
    z_int := PySem.W.mg_none_of X G z_int,
    z_isinstance := PySem.W.mg_none_of X G z_isinstance,
    z_len := PySem.W.mg_none_of X G z_len,
    z_list := PySem.W.mg_none_of X G z_list,
    z_max := PySem.W.mg_none_of X G z_max,
    z_min := PySem.W.mg_none_of X G z_min,
    z_range := PySem.W.mg_none_of X G z_range,
    z_set := PySem.W.mg_none_of X G z_set,
    z_str := PySem.W.mg_none_of X G z_str }
  exact ⟨_, fun s v => .of_eq rfl, fun base _ _ => ok_law (P := l.prog) (w := w) (base := base) T⟩
theorem walk {l : PySem.W.OpenLaw} {q : Program} {loose : List Str} {XP : (Str → Option Value) → Heap → Prop} {YP : World → Heap → Prop} {d : DefRec} {K : Params → PySem.W.Frag} (hn : l.most = some 63) (hdf : d.params.defaults = [])
    (hY : ∀ (w : World) (h : Heap), YP w h → (K w.params).In h)
    (F : ∀ (w : World) (mg : Str → Option Value) (fa : Addr) (h : Heap), (K w.params).In h → h.Ns mainGlobals mg → mg d.name = some (.ref fa) →
      ∃ fd : FuncData, (∀ (s : Shared) (u : Value), BindsTo s fd ⟨[u], []⟩ [("_law_script", u)]) ∧ ∀ base : Heap, (K w.params).In base → base.Ns mainGlobals mg → FnOk l.prog w (K w.params) mg base CX0 6 fa fd ["_law_script"] (sp_law (K w.params))) :
    PySem.W.WalkO q loose XP YP l.row.toRowW d [] (fun f vs => PySem.call f vs) :=
  L2.walk_of (n := 63) (k := 6) (x := "_law_script") (CX := fun _ => CX0) (sp := fun w => sp_law (K w.params)) hn (by decide) hdf ⟨rfl, by decide, by decide⟩ hY F (fun _ H a ns hl _ hS => mk_law (X := fun _ => False) (law_true ns hl) ⟨.s (.of hS) .nil, List.nodup_nil, fun _ h => (nomatch h), fun _ h => h.elim⟩ fun _ _ => rfl) fun _ _ _ _ _ z => z
end Sc
open PySem PySem.W PyProof.Rows
set_option maxRecDepth 100000 in
set_option maxHeartbeats 0 in
theorem PySem.Challenge.cw_slidecut_k15_where_points_stand_holds : PySem.Challenge.rw_slidecut_k15_where_points_stand.Holds := by
  w_on; o_law; k_head; (case hw => w_witness2)
  k_fill
  refine Sc.walk (l := PySem.Challenge.rw_slidecut_k15_where_points_stand) rfl rfl (fun w h Y => PySem.W.kIn_of Y) ?F
  case F =>
    intro w mg fa h KX G hmg
    refine' Sc.all_mk KX G hmg ?a0 ?l0 ?c0 ?k0 ?a1 ?l1 ?c1 ?k1 ?a2 ?l2 ?c2 ?k2 ?a3 ?l3 ?c3 ?k3 ?a4 ?l4 ?c4 ?k4 ?a5 ?l5 ?c5 ?k5 ?a6 ?l6 ?c6 ?k6 ?a7 ?l7 ?c7 ?k7 ?a8 ?l8 ?c8 ?k8 ?a9 ?l9 ?c9 ?k9 ?a10 ?l10 ?c10 ?k10 ?a11 ?l11 ?c11 ?k11 ?a12 ?l12 ?c12 ?k12 ?a13 ?l13 ?c13 ?k13 ?a14 ?l14 ?c14 ?k14 ?a15 ?l15 ?c15 ?k15 ?a16 ?l16 ?c16 ?k16 ?a17 ?l17 ?c17 ?k17 ?a18 ?l18 ?c18 ?k18 ?a19 ?l19 ?c19 ?k19 ?a20 ?l20 ?c20 ?k20 ?a21 ?l21 ?c21 ?k21 ?a22 ?l22 ?c22 ?k22 ?a23 ?l23 ?c23 ?k23 ?a24 ?l24 ?c24 ?k24 ?a25 ?l25 ?c25 ?k25 ?a26 ?l26 ?c26 ?k26 ?a27 ?l27 ?c27 ?k27 ?a28 ?l28 ?c28 ?k28 ?a29 ?l29 ?c29 ?k29 ?z_abs ?z_int ?z_isinstance ?z_len ?z_list ?z_max ?z_min ?z_range ?z_set ?z_str
    (case a0 => k_is)
    (case l0 => k_is)
    (case c0 => k_is)
    (case k0 => k_is)
    (case a1 => k_is)
    (case l1 => k_is)
    (case c1 => k_is)
    (case k1 => k_is)
    (case a2 => k_is)
    (case l2 => k_is)
    (case c2 => k_is)
    (case k2 => k_is)
    (case a3 => k_is)
    (case l3 => k_is)
    (case c3 => k_is)
    (case k3 => k_is)
    (case a4 => k_is)
    (case l4 => k_is)
    (case c4 => k_is)
    (case k4 => k_is)
    (case a5 => k_is)
    (case l5 => k_is)
    (case c5 => k_is)
    (case k5 => k_is)
    (case a6 => k_is)
    (case l6 => k_is)
    (case c6 => k_is)
    (case k6 => k_is)
    (case a7 => k_is)
    (case l7 => k_is)
    (case c7 => k_is)
    (case k7 => k_is)
    (case a8 => k_is)
    (case l8 => k_is)
    (case c8 => k_is)
    (case k8 => k_is)
    (case a9 => k_is)
    (case l9 => k_is)
    (case c9 => k_is)
    (case k9 => k_is)
    (case a10 => k_is)
    (case l10 => k_is)
    (case c10 => k_is)
    (case k10 => k_is)
    (case a11 => k_is)
    (case l11 => k_is)
    (case c11 => k_is)
    (case k11 => k_is)
    (case a12 => k_is)
    (case l12 => k_is)
    (case c12 => k_is)
    (case k12 => k_is)
    (case a13 => k_is)
    (case l13 => k_is)
    (case c13 => k_is)
    (case k13 => k_is)
    (case a14 => k_is)
    (case l14 => k_is)
    (case c14 => k_is)
    (case k14 => k_is)
    (case a15 => k_is)
    (case l15 => k_is)
    (case c15 => k_is)
    (case k15 => k_is)
    (case a16 => k_is)
    (case l16 => k_is)
    (case c16 => k_is)
    (case k16 => k_is)
    (case a17 => k_is)
    (case l17 => k_is)
    (case c17 => k_is)
    (case k17 => k_is)
    (case a18 => k_is)
    (case l18 => k_is)
    (case c18 => k_is)
    (case k18 => k_is)
    (case a19 => k_is)
    (case l19 => k_is)
    (case c19 => k_is)
    (case k19 => k_is)
    (case a20 => k_is)
    (case l20 => k_is)
    (case c20 => k_is)
    (case k20 => k_is)
    (case a21 => k_is)
    (case l21 => k_is)
    (case c21 => k_is)
    (case k21 => k_is)
    (case a22 => k_is)
    (case l22 => k_is)
    (case c22 => k_is)
    (case k22 => k_is)
    (case a23 => k_is)
    (case l23 => k_is)
    (case c23 => k_is)
    (case k23 => k_is)
    (case a24 => k_is)
    (case l24 => k_is)
    (case c24 => k_is)
    (case k24 => k_is)
    (case a25 => k_is)
    (case l25 => k_is)
    (case c25 => k_is)
    (case k25 => k_is)
    (case a26 => k_is)
    (case l26 => k_is)
    (case c26 => k_is)
    (case k26 => k_is)
    (case a27 => k_is)
    (case l27 => k_is)
    (case c27 => k_is)
    (case k27 => k_is)
    (case a28 => k_is)
    (case l28 => k_is)
    (case c28 => k_is)
    (case k28 => k_is)
    (case a29 => k_is)
    (case l29 => k_is)
    (case c29 => k_is)
    (case k29 => k_is)
    (case z_abs => k_is)
    (case z_int => k_is)
    (case z_isinstance => k_is)
    (case z_len => k_is)
    (case z_list => k_is)
    (case z_max => k_is)
    (case z_min => k_is)
    (case z_range => k_is)
    (case z_set => k_is)
    (case z_str => k_is)
#print axioms PySem.Challenge.cw_slidecut_k15_where_points_stand_holds
