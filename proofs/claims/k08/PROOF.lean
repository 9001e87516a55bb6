import PyProof.Rows.All
import Wide.All
import OpenK.AllK
import Wide.FinOn
import HandS.CallRecv
import HandS.CallSlots
import HandS.Conv
import HandS.Deep
import HandS.Defaults
import HandS.EndTab
import HandS.Ends
import HandS.ExcIs
import HandS.ExcOwn
import HandS.FStrTup
import HandS.ForExc
import HandS.ForMost
import HandS.IntHex
import HandS.IsInst
import HandS.Lambda
import HandS.More
import HandS.RaiseMore
import HandS.ReplaceLit
import HandS.Rev
import HandS.RevRange
import HandS.StrMore
import HandS.Style
import HandS.Text
import HandS.TryOnly
import HandS.TupAny
import HandS.TupMul
import HandS.Walk
import HandS.Wide
import HandS.WordsExc
import HandS.Zip
import HandS.Zip0
import KE.IntTextLaws
import KE.KNestM
import KE.KRevSl
import KE.SortData
import KE.SortKeyHeap
import PyProof.Draws
import PyProof.EnumMake
import PyProof.ReprRoads
import PyProof.StrLawsRepr
import PyProof.Draws
import PyProof.EnumMake
import PyProof.ExcBaseAll.ValueError
import PySem.Challenge.RW_rootring_k08_texts_refused
set_option Elab.async false
set_option linter.all false
set_option maxRecDepth 100000
set_option maxHeartbeats 4000000
set_option exponentiation.threshold 20000
/-! RA: data, what it stands for in the heap, the state of a def's body as data -/
namespace RR
open PySem PySem.Spec PyProof.Rows L2

/-- data -/
inductive D where
  | non | bl (b : Bool) | int (i : Int) | str (s : Str) | tup (xs : List D) | lst (xs : List D) | hnd (n : Nat) | dic | exc (x : Str) | fn (x : Str) | ptr (a : Addr)
  deriving Inhabited

mutual
/-- no list stands within -/
def D.nl : D → Bool
  | .lst _ => false
  | .dic => false
  | .tup xs => D.nls xs
  | _ => true
def D.nls : List D → Bool
  | [] => true
  | x :: r => x.nl && D.nls r
end

def IsT : HO → Prop
  | .tup _ => True
  | .ext _ => True
  | _ => False
def IsL : HO → Prop
  | .lst _ => True
  | .dK _ => True
  | _ => False
def KT (K : PySem.W.Frag) (a : Addr) (xs : List V) : Prop :=
  ∃ (o : Obj) (its : Array Value) (n : Nat), K.lookup a = some o ∧ o.cls = .type "tuple" ∧ o.data = .seq its n ∧ its.size ≤ sizeLine ∧ Vals xs its.toList
def Tp (K : PySem.W.Frag) (G : Hp) (a : Addr) (xs : List V) : Prop := G a = some (.tup xs) ∨ KT K a xs
def Ls : Bool → PySem.W.Frag → Hp → Addr → List V → Prop
  | true, _, G, a, xs => G a = some (.lst xs)
  | false, K, G, a, xs => SqL K G a xs
/-- an exception of the class at C stands at a, its own dict not yet made -/
def ExI (C a : Addr) : HO := .ext fun h => PySem.W.InstAt h a ((h.get? a).getD default) C none
/-- the module's name x is the class at C -/
def NsC (K : PySem.W.Frag) (x : Str) (C : Addr) : Prop := PySem.W.nsIn K mainGlobals x = some (some (.ref C))
mutual
/-- the value v is the data d; s: lists are tracked ones alone -/
inductive Dn (s : Bool) (K : PySem.W.Frag) (F : List Addr) (G : Hp) : V → D → Prop
  | non : Dn s K F G .non .non
  | bl (b : Bool) : Dn s K F G (.bl b) (.bl b)
  | int (i : Int) : Dn s K F G (.int i) (.int i)
  | str (x : Str) : Dn s K F G (.str x) (.str x)
  | tup {a : Addr} {xs : List V} {ds : List D} : Tp K G a xs → DnA s K F G xs ds → Dn s K F G (.ref a) (.tup ds)
  | lst {a : Addr} {xs : List V} {ds : List D} : Ls s K G a xs → DnA s K F G xs ds → Dn s K F G (.ref a) (.lst ds)
  | hnd {n : Nat} {a : Addr} : F[n]? = some a → Dn s K F G (.ref a) (.hnd n)
  | dic {a : Addr} : G a = some (.dK []) → Dn s K F G (.ref a) .dic
  | exc {x : Str} {a C : Addr} : G a = some (ExI C a) → NsC K x C → Dn s K F G (.ref a) (.exc x)
  | fn {x : Str} {a : Addr} : NsC K x a → Dn s K F G (.ref a) (.fn x)
  | ptr {a : Addr} : Dn s K F G (.ref a) (.ptr a)
inductive DnA (s : Bool) (K : PySem.W.Frag) (F : List Addr) (G : Hp) : List V → List D → Prop
  | nil : DnA s K F G [] []
  | cons {v : V} {vs : List V} {d : D} {ds : List D} : Dn s K F G v d → DnA s K F G vs ds → DnA s K F G (v :: vs) (d :: ds)
end
section
variable {s : Bool} {K : PySem.W.Frag} {F F' : List Addr} {G G' : Hp}
theorem Tp.sq {a : Addr} {xs : List V} (h : Tp K G a xs) : SqT K G a xs := h.elim (fun h => .inl (.inl h)) .inr
theorem Ls.sq {a : Addr} {xs : List V} (h : Ls s K G a xs) : SqL K G a xs := by
  cases s with
  | true => exact .inl (.inl h)
  | false => exact h
theorem Tp.mono (hG : ∀ a xs, G a = some (.tup xs) → G' a = some (.tup xs)) {a : Addr} {xs : List V} (h : Tp K G a xs) : Tp K G' a xs := h.imp (hG a xs) id
theorem Ls.mono (hG : ∀ a o, G a = some o → G' a = some o) {a : Addr} {xs : List V} (h : Ls s K G a xs) : Ls s K G' a xs := by
  cases s with
  | true => exact hG _ _ h
  | false => exact Same.seq (H := G) (H' := G') hG h
mutual
theorem Dn.mono (hF : ∃ F1, F' = F ++ F1) (hG : ∀ a o, G a = some o → G' a = some o) : ∀ {v : V} {d : D}, Dn s K F G v d → Dn s K F' G' v d
  | _, _, .non => .non
  | _, _, .bl b => .bl b
  | _, _, .int i => .int i
  | _, _, .str x => .str x
  | _, _, .tup h r => .tup (h.mono fun a xs => hG a _) (DnA.mono hF hG r)
  | _, _, .lst h r => .lst (h.mono hG) (DnA.mono hF hG r)
  | _, _, .hnd h => .hnd (by obtain ⟨F1, rfl⟩ := hF; rw [List.getElem?_append_left (List.getElem?_eq_some_iff.mp h).1]; exact h)
  | _, _, .dic h => .dic (hG _ _ h)
  | _, _, .exc h n => .exc (hG _ _ h) n
  | _, _, .fn h => .fn h
  | _, _, .ptr => .ptr
theorem DnA.mono (hF : ∃ F1, F' = F ++ F1) (hG : ∀ a o, G a = some o → G' a = some o) : ∀ {vs : List V} {ds : List D}, DnA s K F G vs ds → DnA s K F' G' vs ds
  | _, _, .nil => .nil
  | _, _, .cons h r => .cons (Dn.mono hF hG h) (DnA.mono hF hG r)
end
mutual
/-- of data without lists only the tuples matter -/
theorem Dn.flat {s' : Bool} (hF : ∃ F1, F' = F ++ F1) (hG : ∀ a o, IsT o → G a = some o → G' a = some o) : ∀ {v : V} {d : D}, Dn s K F G v d → d.nl = true → Dn s' K F' G' v d
  | _, _, .non, _ => .non
  | _, _, .bl b, _ => .bl b
  | _, _, .int i, _ => .int i
  | _, _, .str x, _ => .str x
  | _, _, .tup h r, n => .tup (h.mono fun a xs => hG a _ trivial) (DnA.flat hF hG r n)
  | _, _, .dic _, n => by cases n
  | _, _, .exc h c, _ => .exc (hG _ _ trivial h) c
  | _, _, .fn h, _ => .fn h
  | _, _, .ptr, _ => .ptr
  | _, _, .lst h r, n => by cases n
  | _, _, .hnd h, _ => .hnd (by obtain ⟨F1, rfl⟩ := hF; rw [List.getElem?_append_left (List.getElem?_eq_some_iff.mp h).1]; exact h)
theorem DnA.flat {s' : Bool} (hF : ∃ F1, F' = F ++ F1) (hG : ∀ a o, IsT o → G a = some o → G' a = some o) : ∀ {vs : List V} {ds : List D}, DnA s K F G vs ds → D.nls ds = true → DnA s' K F' G' vs ds
  | _, _, .nil, _ => .nil
  | _, _, .cons h r, n => by
    rw [D.nls, Bool.and_eq_true] at n
    exact .cons (Dn.flat hF hG h n.1) (DnA.flat hF hG r n.2)
end
mutual
theorem Dn.weak : ∀ {v : V} {d : D}, Dn true K F G v d → Dn false K F G v d
  | _, _, .non => .non
  | _, _, .bl b => .bl b
  | _, _, .int i => .int i
  | _, _, .str x => .str x
  | _, _, .tup h r => .tup h (DnA.weak r)
  | _, _, .lst h r => .lst (.inl (.inl h)) (DnA.weak r)
  | _, _, .hnd h => .hnd h
  | _, _, .dic h => .dic h
  | _, _, .exc h n => .exc h n
  | _, _, .fn h => .fn h
  | _, _, .ptr => .ptr
theorem DnA.weak : ∀ {vs : List V} {ds : List D}, DnA true K F G vs ds → DnA false K F G vs ds
  | _, _, .nil => .nil
  | _, _, .cons h r => .cons (Dn.weak h) (DnA.weak r)
end
theorem DnA.length : ∀ {vs : List V} {ds : List D}, DnA s K F G vs ds → vs.length = ds.length
  | _, _, .nil => rfl
  | _, _, .cons _ r => congrArg (· + 1) (DnA.length r)
theorem DnA.get : ∀ {vs : List V} {ds : List D} {i : Nat} {v : V}, DnA s K F G vs ds → vs[i]? = some v → ∃ d, ds[i]? = some d ∧ Dn s K F G v d
  | _, _, _, _, .nil, e => by simp at e
  | _, _, 0, _, .cons h _, e => by simp at e; subst e; exact ⟨_, rfl, h⟩
  | _, _, i + 1, _, .cons _ r, e => by
    obtain ⟨d, h1, h2⟩ := DnA.get (i := i) r (by simpa using e)
    exact ⟨d, by simpa using h1, h2⟩
theorem DnA.getD : ∀ {vs : List V} {ds : List D} {i : Nat} {d : D}, DnA s K F G vs ds → ds[i]? = some d → ∃ v, vs[i]? = some v ∧ Dn s K F G v d
  | _, _, _, _, .nil, e => by simp at e
  | _, _, 0, _, .cons h _, e => by simp at e; subst e; exact ⟨_, rfl, h⟩
  | _, _, i + 1, _, .cons _ r, e => by
    obtain ⟨d, h1, h2⟩ := DnA.getD (i := i) r (by simpa using e)
    exact ⟨d, by simpa using h1, h2⟩
theorem DnA.app : ∀ {vs ws : List V} {ds es : List D}, DnA s K F G vs ds → DnA s K F G ws es → DnA s K F G (vs ++ ws) (ds ++ es)
  | _, _, _, _, .nil, r => r
  | _, _, _, _, .cons h t, r => .cons h (DnA.app t r)
theorem DnA.take : ∀ {vs : List V} {ds : List D} (n : Nat), DnA s K F G vs ds → DnA s K F G (vs.take n) (ds.take n)
  | _, _, 0, _ => .nil
  | _, _, _ + 1, .nil => .nil
  | _, _, n + 1, .cons h t => .cons h (DnA.take n t)
theorem DnA.drop : ∀ {vs : List V} {ds : List D} (n : Nat), DnA s K F G vs ds → DnA s K F G (vs.drop n) (ds.drop n)
  | _, _, 0, r => r
  | _, _, _ + 1, .nil => .nil
  | _, _, n + 1, .cons _ t => DnA.drop n t
theorem DnA.set {x : V} {d : D} (r : Dn s K F G x d) : ∀ {xs : List V} {ds : List D} (i : Nat), DnA s K F G xs ds → DnA s K F G (xs.set i x) (ds.set i d)
  | _, _, _, .nil => .nil
  | _, _, 0, .cons _ t => .cons r t
  | _, _, i + 1, .cons q t => .cons q (DnA.set r i t)
theorem DnA.rep {vs : List V} {ds : List D} (h : DnA s K F G vs ds) : ∀ k : Nat, DnA s K F G (List.replicate k vs).flatten (List.replicate k ds).flatten
  | 0 => .nil
  | k + 1 => by
    rw [List.replicate_succ, List.replicate_succ, List.flatten_cons, List.flatten_cons]
    exact h.app (DnA.rep h k)
end

/-! ### views of a heap -/
noncomputable def vw (p : Addr → HO → Prop) (H : Hp) : Hp := fun a => (H a).bind fun o => open Classical in if p a o then some o else none
theorem vw_iff {p : Addr → HO → Prop} {H : Hp} {a : Addr} {o : HO} : vw p H a = some o ↔ H a = some o ∧ p a o := by
  unfold vw
  cases e : H a with
  | none => simp
  | some u =>
    simp only [Option.bind_some]
    by_cases q : p a u
    · rw [if_pos q]
      exact Iff.intro (fun z => by cases z; exact ⟨rfl, q⟩) (fun z => z.1)
    · rw [if_neg q]
      exact Iff.intro (fun z => by cases z) (fun z => by obtain ⟨z1, z2⟩ := z; cases z1; exact absurd z2 q)
theorem IsT.not_L {o : HO} (h : IsT o) (h' : IsL o) : False := by cases o <;> first | exact h | exact h'
/-- what a body may keep: tuples; lists that are new since H0 and not owned -/
noncomputable def sv (H0 : Hp) (Pr : Addr → Prop) (H : Hp) : Hp := vw (fun a o => IsT o ∨ (IsL o ∧ ¬ Pr a ∧ H0 a = none)) H
/-- all but the world's objects -/
noncomputable def wv (F : List Addr) (H : Hp) : Hp := vw (fun a _ => a ∉ F) H
theorem sv_le {H0 : Hp} {Pr : Addr → Prop} {H : Hp} {a : Addr} {o : HO} (h : sv H0 Pr H a = some o) : H a = some o := (vw_iff.mp h).1
theorem wv_le {F : List Addr} {H : Hp} {a : Addr} {o : HO} (h : wv F H a = some o) : H a = some o := (vw_iff.mp h).1

/-! ### the world: what stands beside the data (a law's drawing state) -/
structure Wd where
  M : Type
  Rz : M → List Addr → Hp → Prop
  keep : ∀ {m F H H'}, Rz m F H → (∀ a ∈ F, H' a = H a) → (∀ a o, IsT o → H a = some o → H' a = some o) → Rz m F H'
  there : ∀ {m F H}, Rz m F H → ∀ a ∈ F, ∃ o, H a = some o ∧ ¬ IsT o

/-- a name's state: not known; data; borrowed data (an argument with lists); a list of its own -/
inductive Sl where
  | un | val (d : D) | bor (d : D) | own (ds : List D)
abbrev En := List Sl

/-- the def's entry, the world, the wish about exceptions -/
structure Cn where
  W : Wd
  H0 : Hp
  F0 : List Addr
  wx : WX

structure Tr (Pr : Addr → Prop) (F : List Addr) (H : Hp) (Pr' : Addr → Prop) (F' : List Addr) (H' : Hp) : Prop where
  pre : ∃ F1, F' = F ++ F1
  prn : ∀ a, Pr' a → ¬ Pr a → H a = none
  fn : ∀ a ∈ F', a ∉ F → H a = none
  stay : ∀ a o, H a = some o → ∃ o', H' a = some o'
  keep : ∀ a o, ¬ Pr a → H a = some o → H' a = some o
/-- .. of an expression: the owned lists stay too -/
structure Te (Pr : Addr → Prop) (F : List Addr) (H : Hp) (Pr' : Addr → Prop) (F' : List Addr) (H' : Hp) : Prop extends Tr Pr F H Pr' F' H' where
  prm : ∀ a, Pr a → Pr' a
  all : ∀ a o, a ∉ F → H a = some o → H' a = some o

/-- how a name's state is held -/
def Sk (K : PySem.W.Frag) (C : Cn) (Pr : Addr → Prop) (F : List Addr) (H : Hp) (v? : Option (Option V)) : Sl → Prop
  | .un => True
  | .val d => ∃ v, v? = some (some v) ∧ Dn true K F (sv C.H0 Pr H) v d
  | .bor d => ∃ v, v? = some (some v) ∧ Dn false K C.F0 (wv C.F0 C.H0) v d
  | .own ds => ∃ p vs, v? = some (some (.ref p)) ∧ H p = some (.lst vs) ∧ Pr p ∧ p ∉ F ∧ DnA true K F (sv C.H0 Pr H) vs ds

structure SR (K : PySem.W.Frag) (C : Cn) (Pr : Addr → Prop) (F : List Addr) (σ : L2.St) (ρ : En) (m : C.W.M) (H : Hp) : Prop where
  keep : ∀ a o, a ∉ C.F0 → C.H0 a = some o → H a = some o
  pre : ∃ F1, F = C.F0 ++ F1
  new : ∀ a ∈ F, a ∉ C.F0 → C.H0 a = none
  prs : ∀ a, Pr a → ∃ o, H a = some o ∧ ¬ IsT o
  prn : ∀ a, Pr a → a ∉ F → C.H0 a = none
  prf : ∀ a ∈ F, Pr a
  rz : C.W.Rz m F H
  len : ρ.length = σ.length
  slot : ∀ (i : Nat) (s : Sl), ρ[i]? = some s → Sk K C Pr F H σ[i]? s
  dist : ∀ (i j : Nat) (ds es : List D) (p : Addr), i ≠ j → ρ[i]? = some (.own ds) → ρ[j]? = some (.own es) → σ[i]? = some (some (.ref p)) → σ[j]? = some (some (.ref p)) → False

section
variable {Pr Pr1 Pr2 : Addr → Prop} {F F1 F2 : List Addr} {H H1 H2 : Hp}
theorem pre_trans (a : ∃ G, F1 = F ++ G) (b : ∃ G, F2 = F1 ++ G) : ∃ G, F2 = F ++ G := by
  obtain ⟨x, rfl⟩ := a
  obtain ⟨y, rfl⟩ := b
  exact ⟨x ++ y, by rw [List.append_assoc]⟩
theorem pre_mem (a : ∃ G, F1 = F ++ G) {x : Addr} (h : x ∈ F) : x ∈ F1 := by
  obtain ⟨y, rfl⟩ := a
  exact List.mem_append_left _ h
theorem some_of {a : Addr} (h : ∀ o, H a = some o → ∃ o', H1 a = some o') (e : H1 a = none) : H a = none := by
  cases q : H a with
  | none => rfl
  | some o =>
    obtain ⟨o', z⟩ := h o q
    rw [e] at z; cases z
theorem Tr.refl : Tr Pr F H Pr F H := ⟨⟨[], by simp⟩, fun _ h n => absurd h n, fun _ h n => absurd h n, fun _ o h => ⟨o, h⟩, fun _ _ _ h => h⟩
theorem Te.refl : Te Pr F H Pr F H := ⟨Tr.refl, fun _ h => h, fun _ _ _ h => h⟩
theorem Tr.trans (a : Tr Pr F H Pr1 F1 H1) (b : Tr Pr1 F1 H1 Pr2 F2 H2) : Tr Pr F H Pr2 F2 H2 := by
  refine ⟨pre_trans a.pre b.pre, fun x h n => ?_, fun x h n => ?_, fun x o h => ?_, fun x o n h => ?_⟩
  · by_cases q : Pr1 x
    · exact a.prn x q n
    · exact some_of (a.stay x) (b.prn x h q)
  · by_cases q : x ∈ F1
    · exact a.fn x q n
    · exact some_of (a.stay x) (b.fn x h q)
  · obtain ⟨o', h'⟩ := a.stay x o h
    exact b.stay x o' h'
  · refine b.keep x o (fun q => ?_) (a.keep x o n h)
    have z := a.prn x q n
    rw [h] at z; cases z
theorem Te.trans (a : Te Pr F H Pr1 F1 H1) (b : Te Pr1 F1 H1 Pr2 F2 H2) : Te Pr F H Pr2 F2 H2 := by
  refine ⟨a.toTr.trans b.toTr, fun x h => b.prm x (a.prm x h), fun x o n h => b.all x o (fun q => ?_) (a.all x o n h)⟩
  have z := a.fn x q n
  rw [h] at z; cases z
/-- a strong value stays -/
theorem sv_tr {H0 : Hp} (t : Tr Pr F H Pr1 F1 H1) (hp : ∀ a, Pr a → ∃ o, H a = some o ∧ ¬ IsT o) : ∀ a o, sv H0 Pr H a = some o → sv H0 Pr1 H1 a = some o := fun a o h => by
  obtain ⟨e, q⟩ := vw_iff.mp h
  have np : ¬ Pr a := fun z => by
    rcases q with q | q
    · obtain ⟨o', e', n⟩ := hp a z
      rw [e] at e'; cases e'
      exact n q
    · exact q.2.1 z
  refine vw_iff.mpr ⟨t.keep a o np e, q.imp id fun q => ⟨q.1, fun z => ?_, q.2.2⟩⟩
  have z := t.prn a z np
  rw [e] at z; cases z
/-- a weak value stays behind an expression -/
theorem wv_te (t : Te Pr F H Pr1 F1 H1) : ∀ a o, wv F H a = some o → wv F1 H1 a = some o := fun a o h => by
  obtain ⟨e, q⟩ := vw_iff.mp h
  refine vw_iff.mpr ⟨t.all a o q e, fun z => ?_⟩
  have z := t.fn a z q
  rw [e] at z; cases z
theorem Dn.tr {K : PySem.W.Frag} {H0 : Hp} {v : V} {d : D} (t : Tr Pr F H Pr1 F1 H1) (hp : ∀ a, Pr a → ∃ o, H a = some o ∧ ¬ IsT o) (h : Dn true K F (sv H0 Pr H) v d) : Dn true K F1 (sv H0 Pr1 H1) v d :=
  h.mono t.pre (sv_tr t hp)
theorem Dn.te {K : PySem.W.Frag} {v : V} {d : D} (t : Te Pr F H Pr1 F1 H1) (h : Dn false K F (wv F H) v d) : Dn false K F1 (wv F1 H1) v d := h.mono t.pre (wv_te t)
end
end RR

/-! RB: steps of the state -/
namespace RR
open PySem PySem.Spec PyProof.Rows L2
variable {K : PySem.W.Frag} {C : Cn} {Pr Pr' : Addr → Prop} {F F' : List Addr} {σ : L2.St} {ρ : En} {m m' : C.W.M} {H H' : Hp}

theorem SR.h0 (S : SR K C Pr F σ ρ m H) {a : Addr} (e : H a = none) : a ∉ C.F0 → C.H0 a = none := fun n => by
  cases q : C.H0 a with
  | none => rfl
  | some o =>
    have z := S.keep a o n q
    rw [e] at z; cases z
theorem SR.pf0 (S : SR K C Pr F σ ρ m H) {a : Addr} (h : a ∈ C.F0) : a ∈ F := pre_mem S.pre h
theorem SR.nf {a : Addr} (S : SR K C Pr F σ ρ m H) (e : H a = none) : a ∉ F := fun z => by
  obtain ⟨o, q, _⟩ := S.prs a (S.prf a z)
  rw [e] at q; cases q
theorem SR.np {a : Addr} (S : SR K C Pr F σ ρ m H) (e : H a = none) : ¬ Pr a := fun z => by
  obtain ⟨o, q, _⟩ := S.prs a z
  rw [e] at q; cases q
theorem SR.h0n (S : SR K C Pr F σ ρ m H) {a : Addr} (e : H a = none) : C.H0 a = none := S.h0 e fun z => S.nf e (S.pf0 z)

/-- the heap has grown -/
theorem SR.te (S : SR K C Pr F σ ρ m H) (k : ∀ a o, H a = some o → H' a = some o) : Te Pr F H Pr F H' :=
  ⟨⟨⟨[], by simp⟩, fun _ h n => absurd h n, fun _ h n => absurd h n, fun a o h => ⟨o, k a o h⟩, fun a o _ h => k a o h⟩, fun _ h => h, fun a o _ h => k a o h⟩
theorem Sk.tr {v? : Option (Option V)} (hs : ∀ a, Pr a → ∃ o, H a = some o ∧ ¬ IsT o) (t : Tr Pr F H Pr' F' H') (ko : ∀ p, Pr p → p ∉ F → ∀ o, H p = some o → H' p = some o) (po : ∀ p, Pr p → p ∉ F → Pr' p) :
    ∀ {s : Sl}, Sk K C Pr F H v? s → Sk K C Pr' F' H' v? s
  | .un, _ => trivial
  | .val d, ⟨v, e, h⟩ => ⟨v, e, h.tr t hs⟩
  | .bor d, h => h
  | .own ds, ⟨p, vs, e, hp, pp, nf, h⟩ => ⟨p, vs, e, ko p pp nf _ hp, po p pp nf, (fun z => by
      have q := t.fn p z nf
      rw [hp] at q
      cases q), h.mono t.pre (sv_tr t hs)⟩
theorem SR.grow (S : SR K C Pr F σ ρ m H) (k : ∀ a o, H a = some o → H' a = some o) : SR K C Pr F σ ρ m H' where
  keep := fun a o n e => k a o (S.keep a o n e)
  pre := S.pre
  new := S.new
  prs := fun a p => let ⟨o, e, n⟩ := S.prs a p; ⟨o, k a o e, n⟩
  prn := S.prn
  prf := S.prf
  rz := C.W.keep S.rz (fun a h => by
    obtain ⟨o, e, _⟩ := S.prs a (S.prf a h)
    rw [e, k a o e]) fun a o _ e => k a o e
  len := S.len
  slot := fun i s e => Sk.tr S.prs (S.te k).toTr (fun p _ _ o h => k p o h) (fun p h _ => h) (S.slot i s e)
  dist := S.dist
theorem SR.new1 (S : SR K C Pr F σ ρ m H) {p : Addr} {o : HO} (h : H p = none) : SR K C Pr F σ ρ m (upd H p o) ∧ Te Pr F H Pr F (upd H p o) := by
  have k : ∀ a u, H a = some u → upd H p o a = some u := fun a u e => by rw [upd_ne (ne_of_none e h)]; exact e
  exact ⟨S.grow k, S.te k⟩

/-- behind a call: the world has turned -/
theorem SR.turned (S : SR K C Pr F σ ρ m H) (rz : C.W.Rz m' F' H') (pre : ∃ G, F' = F ++ G) (fr : ∀ a ∈ F', a ∉ F → H a = none) (k : ∀ a o, a ∉ F → H a = some o → H' a = some o) :
    SR K C (fun a => Pr a ∨ a ∈ F') F' σ ρ m' H' ∧ Te Pr F H (fun a => Pr a ∨ a ∈ F') F' H' := by
  have t : Te Pr F H (fun a => Pr a ∨ a ∈ F') F' H' := by
    refine ⟨⟨pre, fun a h n => ?_, fr, fun a o h => ?_, fun a o n h => ?_⟩, fun _ h => .inl h, k⟩
    · rcases h with h | h
      · exact absurd h n
      · exact fr a h fun z => n (S.prf a z)
    · by_cases q : a ∈ F
      · obtain ⟨o', e, _⟩ := C.W.there rz a (pre_mem pre q)
        exact ⟨o', e⟩
      · exact ⟨o, k a o q h⟩
    · exact k a o (fun z => n (S.prf a z)) h
  refine ⟨⟨fun a o n e => k a o (fun z => ?_) (S.keep a o n e), pre_trans S.pre pre, fun a h n => ?_, fun a h => ?_, fun a h n => ?_, fun a h => .inr h, rz, S.len, fun i s e => Sk.tr S.prs t.toTr (fun p _ nf o h => k p o nf h) (fun p h _ => .inl h) (S.slot i s e), S.dist⟩, t⟩
  · have z := S.new a z n
    rw [e] at z; cases z
  · by_cases q : a ∈ F
    · exact S.new a q n
    · exact S.h0 (fr a h q) n
  · by_cases q : a ∈ F'
    · exact C.W.there rz a q
    · rcases h with h | h
      · obtain ⟨o, e, n⟩ := S.prs a h
        exact ⟨o, k a o (fun z => q (pre_mem pre z)) e, n⟩
      · exact absurd h q
  · rcases h with h | h
    · exact S.prn a h fun z => n (pre_mem pre z)
    · exact absurd h n

theorem get_set {α : Type} {l : List α} {i j : Nat} {x y : α} (h : (l.set i x)[j]? = some y) : (j = i ∧ y = x) ∨ (j ≠ i ∧ l[j]? = some y) := by
  by_cases e : j = i
  · subst e
    refine .inl ⟨rfl, ?_⟩
    by_cases q : j < l.length
    · rw [List.getElem?_set_self q] at h
      exact (Option.some.inj h).symm
    · rw [List.getElem?_eq_none (by simpa using Nat.le_of_not_lt q)] at h; cases h
  · rw [List.getElem?_set_ne (Ne.symm e)] at h
    exact .inr ⟨e, h⟩
theorem lt_of_set {α : Type} {l : List α} {i : Nat} {x y : α} (h : (l.set i x)[i]? = some y) : i < l.length := by
  have z := (List.getElem?_eq_some_iff.mp h).1
  simpa using z
/-- name = data -/
theorem SR.set (S : SR K C Pr F σ ρ m H) {v : V} {d : D} (i : Nat) (h : Dn true K F (sv C.H0 Pr H) v d) : SR K C Pr F (σ.set i (some v)) (ρ.set i (.val d)) m H where
  keep := S.keep
  pre := S.pre
  new := S.new
  prs := S.prs
  prn := S.prn
  prf := S.prf
  rz := S.rz
  len := by simpa using S.len
  slot := fun j s e => by
    rcases get_set e with ⟨rfl, rfl⟩ | ⟨ne, e⟩
    · have hi : j < σ.length := by rw [← S.len]; exact lt_of_set e
      exact ⟨v, by rw [List.getElem?_set_self hi], h⟩
    · rw [List.getElem?_set_ne (Ne.symm ne)]
      exact S.slot j s e
  dist := fun a b ds es p ne ea eb sa sb => by
    rcases get_set ea with ⟨rfl, q⟩ | ⟨na, ea⟩
    · cases q
    · rcases get_set eb with ⟨rfl, q⟩ | ⟨nb, eb⟩
      · cases q
      · rw [List.getElem?_set_ne (Ne.symm na)] at sa
        rw [List.getElem?_set_ne (Ne.symm nb)] at sb
        exact S.dist a b ds es p ne ea eb sa sb
/-- a name is forgotten -/
theorem SR.drop (S : SR K C Pr F σ ρ m H) (i : Nat) (x : Option V) : SR K C Pr F (σ.set i x) (ρ.set i .un) m H where
  keep := S.keep
  pre := S.pre
  new := S.new
  prs := S.prs
  prn := S.prn
  prf := S.prf
  rz := S.rz
  len := by simpa using S.len
  slot := fun j s e => by
    rcases get_set e with ⟨rfl, rfl⟩ | ⟨ne, e⟩
    · trivial
    · rw [List.getElem?_set_ne (Ne.symm ne)]
      exact S.slot j s e
  dist := fun a b ds es p ne ea eb sa sb => by
    rcases get_set ea with ⟨rfl, q⟩ | ⟨na, ea⟩
    · cases q
    · rcases get_set eb with ⟨rfl, q⟩ | ⟨nb, eb⟩
      · cases q
      · rw [List.getElem?_set_ne (Ne.symm na)] at sa
        rw [List.getElem?_set_ne (Ne.symm nb)] at sb
        exact S.dist a b ds es p ne ea eb sa sb
/-- a new list is owned: S at the start of the expression, S' at its end -/
theorem SR.owned (S : SR K C Pr F σ ρ m H) (t : Te Pr F H Pr' F' H') (S' : SR K C Pr' F' σ ρ m' H') {p : Addr} {vs : List V} {ds : List D} (i : Nat) (hn : H p = none) (hp : H' p = some (.lst vs)) (np : ¬ Pr' p)
    (h : DnA true K F' (sv C.H0 Pr' H') vs ds) (n : D.nls ds = true) :
    SR K C (fun a => Pr' a ∨ a = p) F' (σ.set i (some (.ref p))) (ρ.set i (.own ds)) m' H' ∧ Te Pr F H (fun a => Pr' a ∨ a = p) F' H' := by
  have t2 : Te Pr F H (fun a => Pr' a ∨ a = p) F' H' := by
    refine ⟨⟨t.pre, fun a h n => ?_, t.fn, t.stay, t.keep⟩, fun a h => .inl (t.prm a h), t.all⟩
    rcases h with h | rfl
    · exact t.prn a h n
    · exact hn
  have nf : p ∉ F' := fun z => np (S'.prf p z)
  have h0p : C.H0 p = none := S.h0n hn
  refine ⟨⟨S'.keep, S'.pre, S'.new, fun a ha => ?_, fun a ha n => ?_, fun a ha => .inl (S'.prf a ha), S'.rz, by simpa using S'.len, fun j s e => ?_, fun a b ds es q ne ea eb sa sb => ?_⟩, t2⟩
  · rcases ha with ha | rfl
    · exact S'.prs a ha
    · exact ⟨_, hp, fun z => z⟩
  · rcases ha with ha | rfl
    · exact S'.prn a ha n
    · exact h0p
  · rcases get_set e with ⟨rfl, rfl⟩ | ⟨ne, e⟩
    · have hi : j < σ.length := by rw [← S.len]; exact lt_of_set e
      exact ⟨p, vs, by rw [List.getElem?_set_self hi], hp, .inr rfl, nf, h.flat ⟨[], by simp⟩ (fun a o i q => vw_iff.mpr ⟨sv_le q, .inl i⟩) n⟩
    · rw [List.getElem?_set_ne (Ne.symm ne)]
      cases s with
      | un => trivial
      | bor d => exact S.slot j _ e
      | val d =>
        obtain ⟨v, e1, q⟩ := S.slot j _ e
        exact ⟨v, e1, q.tr t2.toTr S.prs⟩
      | own ds' =>
        exact Sk.tr S.prs t2.toTr (fun q _ nq o hq => t.all q o nq hq) (fun q pq _ => .inl (t.prm q pq)) (S.slot j _ e)
  · have own : ∀ c es', c ≠ i → ρ[c]? = some (.own es') → σ[c]? = some (some (.ref p)) → False := fun c es' nc ec sc => by
      obtain ⟨q', ws, e1, h1, h2, _⟩ := S'.slot c _ ec
      rw [sc] at e1
      cases e1
      exact np h2
    by_cases ha : a = i
    · subst ha
      have hi : a < σ.length := by rw [← S.len]; exact lt_of_set ea
      rw [List.getElem?_set_self hi] at sa
      cases sa
      rw [List.getElem?_set_ne ne] at eb sb
      exact own b _ (Ne.symm ne) eb sb
    · rw [List.getElem?_set_ne (Ne.symm ha)] at ea sa
      by_cases hb : b = i
      · subst hb
        have hi : b < σ.length := by rw [← S.len]; exact lt_of_set eb
        rw [List.getElem?_set_self hi] at sb
        cases sb
        exact own a _ ha ea sa
      · rw [List.getElem?_set_ne (Ne.symm hb)] at eb sb
        exact S.dist a b _ _ q ne ea eb sa sb
/-- an owned list is changed -/
theorem SR.change (S : SR K C Pr F σ ρ m H) {i : Nat} {p : Addr} {ds es : List D} {ws : List V} (e : ρ[i]? = some (.own ds)) (e1 : σ[i]? = some (some (.ref p))) (h : DnA true K F (sv C.H0 Pr H) ws es) :
    SR K C Pr F σ (ρ.set i (.own es)) m (upd H p (.lst ws)) ∧ Tr Pr F H Pr F (upd H p (.lst ws)) := by
  obtain ⟨p', vs, e2, hp, pp, nf, h4⟩ := S.slot i _ e
  rw [e1] at e2
  cases e2
  have t : Tr Pr F H Pr F (upd H p (.lst ws)) := ⟨⟨[], by simp⟩, fun _ h n => absurd h n, fun _ h n => absurd h n, fun a o h => by
    by_cases q : a = p
    · exact ⟨_, by rw [q, upd_same]⟩
    · exact ⟨o, by rw [upd_ne q]; exact h⟩, fun a o n h => by rw [upd_ne (fun q => n (by rw [q]; exact pp))]; exact h⟩
  have h0p : C.H0 p = none := S.prn p pp nf
  refine ⟨⟨fun a o n e => ?_, S.pre, S.new, fun a ha => ?_, S.prn, S.prf, C.W.keep S.rz (fun a ha => upd_ne fun q => nf (q ▸ ha)) (fun a o it e => by rw [upd_ne (fun q => by rw [q, hp] at e; cases e; exact it)]; exact e), by simpa using S.len, fun j s e => ?_, fun a b ds' es' q ne ea eb sa sb => ?_⟩, t⟩
  · rw [upd_ne (fun q => by rw [q, h0p] at e; cases e)]
    exact S.keep a o n e
  · by_cases q : a = p
    · exact ⟨.lst ws, by rw [q, upd_same], fun z => z⟩
    · obtain ⟨o, e, n⟩ := S.prs a ha
      exact ⟨o, by rw [upd_ne q]; exact e, n⟩
  · rcases get_set e with ⟨rfl, rfl⟩ | ⟨ne, e⟩
    · exact ⟨p, ws, e1, upd_same, pp, nf, h.mono ⟨[], by simp⟩ (sv_tr t S.prs)⟩
    · cases s with
      | un => trivial
      | bor d => exact S.slot j _ e
      | val d =>
        obtain ⟨v, e1, q⟩ := S.slot j _ e
        exact ⟨v, e1, q.tr t S.prs⟩
      | own ds' =>
        obtain ⟨q, ws', e3, h1, h2, h3, h4⟩ := S.slot j _ e
        refine ⟨q, ws', e3, ?_, h2, h3, h4.mono ⟨[], by simp⟩ (sv_tr t S.prs)⟩
        rw [upd_ne (fun z => ?_)]
        · exact h1
        · subst z
          exact S.dist j i _ _ _ ne e ‹ρ[i]? = some (.own ds)› e3 e1
  · have old : ∀ (c : Nat) (x : List D), (ρ.set i (.own es))[c]? = some (Sl.own x) → ∃ y, ρ[c]? = some (Sl.own y) := fun c x h => by
      rcases get_set h with ⟨q', z⟩ | ⟨_, z⟩
      · exact ⟨ds, by rw [q']; exact e⟩
      · exact ⟨x, z⟩
    obtain ⟨y, ea⟩ := old a _ ea
    obtain ⟨z, eb⟩ := old b _ eb
    exact S.dist a b y z q ne ea eb sa sb
/-- an owned list becomes data -/
theorem SR.release (S : SR K C Pr F σ ρ m H) {i : Nat} {ds : List D} (e : ρ[i]? = some (.own ds)) :
    ∃ Pr', SR K C Pr' F σ (ρ.set i (.val (.lst ds))) m H ∧ Tr Pr F H Pr' F H := by
  obtain ⟨p, vs, e1, hp, pp, nf, h4⟩ := S.slot i _ e
  have h0p : C.H0 p = none := S.prn p pp nf
  have t : Tr Pr F H (fun a => Pr a ∧ a ≠ p) F H := ⟨⟨[], by simp⟩, fun _ h n => absurd h.1 n, fun _ h n => absurd h n, fun a o h => ⟨o, h⟩, fun _ _ _ h => h⟩
  refine ⟨_, ⟨S.keep, S.pre, S.new, fun a h => S.prs a h.1, fun a h n => S.prn a h.1 n, fun a h => ⟨S.prf a h, fun q => nf (q ▸ h)⟩, S.rz, by simpa using S.len, fun j s ej => ?_, fun a b ds' es' q ne ea eb sa sb => ?_⟩, t⟩
  · rcases get_set ej with ⟨rfl, rfl⟩ | ⟨ne, ej⟩
    · refine ⟨.ref p, e1, .lst (vw_iff.mpr ⟨hp, .inr ⟨trivial, fun z => z.2 rfl, h0p⟩⟩) (h4.mono ⟨[], by simp⟩ (sv_tr t S.prs))⟩
    · cases s with
      | un => trivial
      | bor d => exact S.slot j _ ej
      | val d =>
        obtain ⟨v, e1, q⟩ := S.slot j _ ej
        exact ⟨v, e1, q.tr t S.prs⟩
      | own ds' =>
        obtain ⟨q, ws', e3, h1, h2, h3, h4⟩ := S.slot j _ ej
        refine ⟨q, ws', e3, h1, ⟨h2, fun z => ?_⟩, h3, h4.mono ⟨[], by simp⟩ (sv_tr t S.prs)⟩
        subst z
        exact S.dist j i _ _ _ ne ej e e3 e1
  · rcases get_set ea with ⟨rfl, z⟩ | ⟨na, ea⟩
    · cases z
    · rcases get_set eb with ⟨rfl, z⟩ | ⟨nb, eb⟩
      · cases z
      · exact S.dist a b _ _ q ne ea eb sa sb

/-- names forgotten -/
def wipeD (ρ : En) : List Nat → En
  | [] => ρ
  | i :: r => (wipeD ρ r).set i .un
theorem SR.wipe : ∀ (vs : List Nat) {σ : L2.St} {ρ : En}, SR K C Pr F σ ρ m H → SR K C Pr F (L2.wipe σ vs) (wipeD ρ vs) m H
  | [], _, _, S => S
  | i :: r, σ, ρ, S => by
    unfold L2.wipe wipeD
    exact (SR.wipe r S).drop i none
/-- behind expressions over fewer names all of them are as they were -/
theorem SR.back {σ' : L2.St} {ρ' : En} (S : SR K C Pr F σ ρ m H) (t : Te Pr F H Pr' F' H') (S' : SR K C Pr' F' σ' ρ' m' H') : SR K C Pr' F' σ ρ m' H' where
  keep := S'.keep
  pre := S'.pre
  new := S'.new
  prs := S'.prs
  prn := S'.prn
  prf := S'.prf
  rz := S'.rz
  len := S.len
  slot := fun i s e => Sk.tr S.prs t.toTr (fun p _ nf o h => t.all p o nf h) (fun p h _ => t.prm p h) (S.slot i s e)
  dist := S.dist
end RR

/-! RC: judgements over data: expressions -/
namespace RR
open PySem PySem.Spec PyProof.Rows L2

/-- a reading over data: of the names' states and the world what is wanted of the answer and of a refusal -/
abbrev DT (M : Type) := En → M → (D → M → Prop) → (Str → M → Prop) → Prop
abbrev DTT (M : Type) := En → M → (Bool → M → Prop) → (Str → M → Prop) → Prop
abbrev DTA (M : Type) := En → M → (List D → M → Prop) → (Str → M → Prop) → Prop

/-- how an answer is held: w for a look; s to be kept; f to be kept, a list being new; r to be handed back -/
inductive Cl where
  | w | s | f | r

def Dv (K : PySem.W.Frag) (C : Cn) : Cl → (Addr → Prop) → List Addr → Hp → Hp → V → D → Prop
  | .w, _, F', _, H', v, d => Dn false K F' (wv F' H') v d
  | .s, Pr', F', _, H', v, d => Dn true K F' (sv C.H0 Pr' H') v d
  | .r, _, F', _, H', v, d => Dn true K F' (sv C.H0 (· ∈ F') H') v d
  | .f, Pr', F', H, H', v, d => Dn true K F' (sv C.H0 Pr' H') v d ∧ ∀ ds, d = .lst ds → ∃ p vs, v = .ref p ∧ H p = none ∧ ¬ Pr' p ∧ H' p = some (.lst vs) ∧ DnA true K F' (sv C.H0 Pr' H') vs ds
def DvA (K : PySem.W.Frag) (C : Cn) : Cl → (Addr → Prop) → List Addr → Hp → List V → List D → Prop
  | .w, _, F', H', v, d => DnA false K F' (wv F' H') v d
  | .r, _, F', H', v, d => DnA true K F' (sv C.H0 (· ∈ F') H') v d
  | _, Pr', F', H', v, d => DnA true K F' (sv C.H0 Pr' H') v d

def Post (K : PySem.W.Frag) (C : Cn) (c : Cl) (Pr : Addr → Prop) (F : List Addr) (H : Hp) (σ : L2.St) (ρ : En) (Q : D → C.W.M → Prop) : VK := fun v H' =>
  ∃ Pr' F' m' d, SR K C Pr' F' σ ρ m' H' ∧ Te Pr F H Pr' F' H' ∧ Dv K C c Pr' F' H H' v d ∧ Q d m'
def PostA (K : PySem.W.Frag) (C : Cn) (c : Cl) (Pr : Addr → Prop) (F : List Addr) (H : Hp) (σ : L2.St) (ρ : En) (Q : List D → C.W.M → Prop) : List V → Hp → Prop := fun vs H' =>
  ∃ Pr' F' m' ds, SR K C Pr' F' σ ρ m' H' ∧ Te Pr F H Pr' F' H' ∧ DvA K C c Pr' F' H' vs ds ∧ Q ds m'
def PostT (K : PySem.W.Frag) (C : Cn) (Pr : Addr → Prop) (F : List Addr) (H : Hp) (σ : L2.St) (ρ : En) (Q : Bool → C.W.M → Prop) : Bool → Hp → Prop := fun b H' =>
  ∃ Pr' F' m', SR K C Pr' F' σ ρ m' H' ∧ Te Pr F H Pr' F' H' ∧ Q b m'
/-- a refusal by the class of the name x is taken -/
def Ex (X : Cx) (C : Cn) (Pr : Addr → Prop) (F : List Addr) (H : Hp) (σ : L2.St) (ρ : En) (Z : Str → C.W.M → Prop) : Prop :=
  ∀ x cls Pr' F' m' H', X.mg x = some cls → SR X.K C Pr' F' σ ρ m' H' → Tr Pr F H Pr' F' H' → Z x m' → C.wx cls none σ H'

def J (c : Cl) (X : Cx) (C : Cn) (e : Expr) (t : DT C.W.M) : Prop := ∃ te, PE X e te ∧
  ∀ σ H Pr F ρ m Q Z (R : VK), SR X.K C Pr F σ ρ m H → Ex X C Pr F H σ ρ Z → t ρ m Q Z → (∀ v H', Post X.K C c Pr F H σ ρ Q v H' → R v H') → te σ H R
def JT (X : Cx) (C : Cn) (e : Expr) (t : DTT C.W.M) : Prop := ∃ te, PT X e te ∧
  ∀ σ H Pr F ρ m Q Z (R : Bool → Hp → Prop), SR X.K C Pr F σ ρ m H → Ex X C Pr F H σ ρ Z → t ρ m Q Z → (∀ v H', PostT X.K C Pr F H σ ρ Q v H' → R v H') → te σ H R
def JW (X : Cx) (C : Cn) (e : Expr) (t : DTT C.W.M) : Prop := ∃ te, PW X e te ∧
  ∀ σ H Pr F ρ m Q Z (R : Bool → Hp → Prop), SR X.K C Pr F σ ρ m H → Ex X C Pr F H σ ρ Z → t ρ m Q Z → (∀ v H', PostT X.K C Pr F H σ ρ Q v H' → R v H') → te σ H R
def JA (c : Cl) (X : Cx) (C : Cn) (es : List Expr) (t : DTA C.W.M) : Prop := ∃ te, PA X es te ∧
  ∀ σ H Pr F ρ m Q Z (R : List V → Hp → Prop), SR X.K C Pr F σ ρ m H → Ex X C Pr F H σ ρ Z → t ρ m Q Z → (∀ v H', PostA X.K C c Pr F H σ ρ Q v H' → R v H') → te σ H R

/-! ### moving answers -/
section
variable {K : PySem.W.Frag} {C : Cn} {Pr Pr' Pr2 : Addr → Prop} {F F' F2 : List Addr} {σ : L2.St} {ρ : En} {m m' : C.W.M} {H H' H2 : Hp} {v : V} {d : D} {vs : List V} {ds : List D}
theorem SR.sv_wv (S : SR K C Pr F σ ρ m H) : ∀ a o, sv C.H0 Pr H a = some o → wv F H a = some o := fun a o h => by
  obtain ⟨e, q⟩ := vw_iff.mp h
  refine vw_iff.mpr ⟨e, fun z => ?_⟩
  rcases q with q | q
  · obtain ⟨o', e', n⟩ := S.prs a (S.prf a z)
    rw [e] at e'; cases e'
    exact n q
  · exact q.2.1 (S.prf a z)
theorem SR.sv_rv (S : SR K C Pr F σ ρ m H) : ∀ a o, sv C.H0 Pr H a = some o → sv C.H0 (· ∈ F) H a = some o := fun a o h => by
  obtain ⟨e, q⟩ := vw_iff.mp h
  exact vw_iff.mpr ⟨e, q.imp id fun q => ⟨q.1, fun z => q.2.1 (S.prf a z), q.2.2⟩⟩
theorem rv_te {H0 : Hp} (t : Te Pr F H Pr' F' H') (ht : ∀ a ∈ F, ∃ o, H a = some o ∧ ¬ IsT o) : ∀ a o, sv H0 (· ∈ F) H a = some o → sv H0 (· ∈ F') H' a = some o := fun a o h => by
  obtain ⟨e, q⟩ := vw_iff.mp h
  have nf : a ∉ F := fun z => by
    rcases q with q | q
    · obtain ⟨o', e', n⟩ := ht a z
      rw [e] at e'; cases e'
      exact n q
    · exact q.2.1 z
  refine vw_iff.mpr ⟨t.all a o nf e, q.imp id fun q => ⟨q.1, fun z => ?_, q.2.2⟩⟩
  have z := t.fn a z nf
  rw [e] at z; cases z
theorem Dv.sw (S : SR K C Pr' F' σ ρ m H') (h : Dv K C .s Pr' F' H H' v d) : Dv K C .w Pr' F' H H' v d := Dn.weak (Dn.mono ⟨[], by simp⟩ S.sv_wv (show Dn true K F' (sv C.H0 Pr' H') v d from h))
theorem Dv.sr (S : SR K C Pr' F' σ ρ m H') (h : Dv K C .s Pr' F' H H' v d) : Dv K C .r Pr' F' H H' v d := Dn.mono ⟨[], by simp⟩ S.sv_rv (show Dn true K F' (sv C.H0 Pr' H') v d from h)
theorem Dv.fs (h : Dv K C .f Pr' F' H H' v d) : Dv K C .s Pr' F' H H' v d := h.1
theorem Post.imp {c c' : Cl} {Q : D → C.W.M → Prop} (h : Post K C c Pr F H σ ρ Q v H') (i : ∀ Pr' F' m' d, SR K C Pr' F' σ ρ m' H' → Dv K C c Pr' F' H H' v d → Dv K C c' Pr' F' H H' v d) : Post K C c' Pr F H σ ρ Q v H' := by
  obtain ⟨Pr', F', m', d, S, t, q, r⟩ := h
  exact ⟨Pr', F', m', d, S, t, i _ _ _ _ S q, r⟩
/-- an answer behind a further expression -/
theorem Dv.te {c : Cl} (hc : c ≠ .f) (S : SR K C Pr F σ ρ m H) (t : Te Pr F H Pr' F' H') {Ha Hb : Hp} (h : Dv K C c Pr F Ha H v d) : Dv K C c Pr' F' Hb H' v d := by
  cases c with
  | w => exact Dn.te t h
  | s => exact Dn.tr t.toTr S.prs h
  | r => exact Dn.mono t.pre (rv_te t fun a z => S.prs a (S.prf a z)) h
  | f => exact absurd rfl hc
theorem DvA.cons {c : Cl} (hc : c ≠ .f) {Ha : Hp} (h : Dv K C c Pr F Ha H v d) (r : DvA K C c Pr F H vs ds) : DvA K C c Pr F H (v :: vs) (d :: ds) := by
  cases c with
  | w => exact DnA.cons h r
  | s => exact DnA.cons h r
  | r => exact DnA.cons h r
  | f => exact absurd rfl hc
theorem Ex.te {X : Cx} {Z : Str → C.W.M → Prop} (h : Ex X C Pr F H σ ρ Z) (t : Tr Pr F H Pr' F' H') : Ex X C Pr' F' H' σ ρ Z := fun x cls P2 F2 m2 H2 e S t2 z => h x cls P2 F2 m2 H2 e S (t.trans t2) z
theorem Post.te {c : Cl} {Q : D → C.W.M → Prop} (t : Te Pr F H Pr' F' H') (h : Post K C c Pr' F' H' σ ρ Q v H2) : Post K C c Pr F H σ ρ Q v H2 := by
  obtain ⟨P2, F2, m2, d, S, t2, q, r⟩ := h
  refine ⟨P2, F2, m2, d, S, t.trans t2, ?_, r⟩
  cases c with
  | w => exact q
  | s => exact q
  | r => exact q
  | f =>
    refine ⟨q.1, fun ds e => ?_⟩
    obtain ⟨p, vs, e1, e2, e3⟩ := q.2 ds e
    exact ⟨p, vs, e1, some_of (t.stay p) e2, e3⟩
theorem PostA.te {c : Cl} {Q : List D → C.W.M → Prop} (t : Te Pr F H Pr' F' H') (h : PostA K C c Pr' F' H' σ ρ Q vs H2) : PostA K C c Pr F H σ ρ Q vs H2 := by
  obtain ⟨P2, F2, m2, d, S, t2, q, r⟩ := h
  exact ⟨P2, F2, m2, d, S, t.trans t2, q, r⟩
theorem PostT.te {Q : Bool → C.W.M → Prop} {b : Bool} (t : Te Pr F H Pr' F' H') (h : PostT K C Pr' F' H' σ ρ Q b H2) : PostT K C Pr F H σ ρ Q b H2 := by
  obtain ⟨P2, F2, m2, S, t2, r⟩ := h
  exact ⟨P2, F2, m2, S, t.trans t2, r⟩
/-- data without a list, as an answer of any kind -/
theorem dv_flat (S : SR K C Pr' F' σ ρ m H') (h : Dn true K F' (sv C.H0 Pr' H') v d) (n : ∀ ds, d ≠ .lst ds) : Dv K C .f Pr' F' H H' v d := ⟨h, fun ds e => absurd e (n ds)⟩
end

section
variable {X : Cx} {C : Cn} {e : Expr} {es : List Expr} {pos : Pos}
theorem J.up {c c' : Cl} {t : DT C.W.M} (h : J c X C e t) (i : ∀ Pr' F' m' d H H' v σ ρ, SR X.K C Pr' F' σ ρ m' H' → Dv X.K C c Pr' F' H H' v d → Dv X.K C c' Pr' F' H H' v d) : J c' X C e t := by
  obtain ⟨te, p, q⟩ := h
  exact ⟨te, p, fun σ H Pr F ρ m Q Z R S E h k => q σ H Pr F ρ m Q Z R S E h fun v H' z => k v H' (z.imp fun _ _ _ _ S => i _ _ _ _ _ _ _ _ _ S)⟩
theorem J.sf {t : DT C.W.M} (h : J .f X C e t) : J .s X C e t := h.up fun _ _ _ _ _ _ _ _ _ S q => q.fs
theorem J.sw {t : DT C.W.M} (h : J .s X C e t) : J .w X C e t := h.up fun _ _ _ _ _ _ _ _ _ S q => q.sw S
theorem J.sr {t : DT C.W.M} (h : J .s X C e t) : J .r X C e t := h.up fun _ _ _ _ _ _ _ _ _ S q => q.sr S
theorem J.fw {t : DT C.W.M} (h : J .f X C e t) : J .w X C e t := h.sf.sw
theorem J.fr {t : DT C.W.M} (h : J .f X C e t) : J .r X C e t := h.sf.sr

/-! ### names and constants -/
def dVar {M : Type} (i : Nat) : DT M := fun ρ m Q _ => match ρ[i]? with | some (.val d) => Q d m | _ => False
def dBor {M : Type} (i : Nat) : DT M := fun ρ m Q _ => match ρ[i]? with | some (.bor d) => Q d m | _ => False
def dOwn {M : Type} (i : Nat) : DT M := fun ρ m Q _ => match ρ[i]? with | some (.own ds) => Q (.lst ds) m | _ => False
def dC {M : Type} (d : D) : DT M := fun _ m Q _ => Q d m
theorem j_var (i : Nat) {x : Str} (hN : X.N[i]? = some x := by rfl) (hv : Vis X.env.scope x := by first | exact Or.inl rfl | exact Or.inr (Or.inl rfl) | exact Or.inr (Or.inr rfl)) (hd : (x == ("__debug__" : Str)) = false := by decide)
    (hcd : (x == ("__classdict__" : Str)) = false := by decide) : J .s X C (.Name x pos) (dVar i) := by
  refine ⟨_, pe_var hN hv hd hcd, fun σ H Pr F ρ m Q Z R S E h k => ?_⟩
  unfold dVar at h
  split at h
  · rename_i d e
    obtain ⟨v, e1, q⟩ := S.slot i _ e
    exact ⟨v, e1, k _ _ ⟨Pr, F, m, d, S, Te.refl, q, h⟩⟩
  · exact h.elim
theorem j_bor (i : Nat) {x : Str} (hN : X.N[i]? = some x := by rfl) (hv : Vis X.env.scope x := by first | exact Or.inl rfl | exact Or.inr (Or.inl rfl) | exact Or.inr (Or.inr rfl)) (hd : (x == ("__debug__" : Str)) = false := by decide)
    (hcd : (x == ("__classdict__" : Str)) = false := by decide) : J .w X C (.Name x pos) (dBor i) := by
  refine ⟨_, pe_var hN hv hd hcd, fun σ H Pr F ρ m Q Z R S E h k => ?_⟩
  unfold dBor at h
  split at h
  · rename_i d e
    obtain ⟨v, e1, q⟩ := S.slot i _ e
    refine ⟨v, e1, k _ _ ⟨Pr, F, m, d, S, Te.refl, q.mono S.pre fun a o z => ?_, h⟩⟩
    obtain ⟨e, n⟩ := vw_iff.mp z
    refine vw_iff.mpr ⟨S.keep a o n e, fun z => ?_⟩
    rw [S.new a z n] at e; cases e
  · exact h.elim
theorem j_own (i : Nat) {x : Str} (hN : X.N[i]? = some x := by rfl) (hv : Vis X.env.scope x := by first | exact Or.inl rfl | exact Or.inr (Or.inl rfl) | exact Or.inr (Or.inr rfl)) (hd : (x == ("__debug__" : Str)) = false := by decide)
    (hcd : (x == ("__classdict__" : Str)) = false := by decide) : J .w X C (.Name x pos) (dOwn i) := by
  refine ⟨_, pe_var hN hv hd hcd, fun σ H Pr F ρ m Q Z R S E h k => ?_⟩
  unfold dOwn at h
  split at h
  · rename_i d e
    obtain ⟨p, vs, e1, hp, pp, nf, q⟩ := S.slot i _ e
    exact ⟨.ref p, e1, k _ _ ⟨Pr, F, m, .lst d, S, Te.refl, .lst (.inl (.inl (vw_iff.mpr ⟨hp, nf⟩))) (q.mono ⟨[], by simp⟩ S.sv_wv).weak, h⟩⟩
  · exact h.elim
/-- .. handed back -/
theorem j_ownr (i : Nat) {x : Str} (hN : X.N[i]? = some x := by rfl) (hv : Vis X.env.scope x := by first | exact Or.inl rfl | exact Or.inr (Or.inl rfl) | exact Or.inr (Or.inr rfl)) (hd : (x == ("__debug__" : Str)) = false := by decide)
    (hcd : (x == ("__classdict__" : Str)) = false := by decide) : J .r X C (.Name x pos) (dOwn i) := by
  refine ⟨_, pe_var hN hv hd hcd, fun σ H Pr F ρ m Q Z R S E h k => ?_⟩
  unfold dOwn at h
  split at h
  · rename_i d e
    obtain ⟨p, vs, e1, hp, pp, nf, q⟩ := S.slot i _ e
    exact ⟨.ref p, e1, k _ _ ⟨Pr, F, m, .lst d, S, Te.refl, .lst (vw_iff.mpr ⟨hp, .inr ⟨trivial, nf, S.prn p pp nf⟩⟩) (q.mono ⟨[], by simp⟩ S.sv_rv), h⟩⟩
  · exact h.elim
theorem j_cst {te : V} {d : D} (p : PE X e (tC te)) (h : ∀ F G, Dn true X.K F G te d) (n : ∀ ds, d ≠ .lst ds) : J .f X C e (dC d) :=
  ⟨_, p, fun σ H Pr F ρ m Q Z R S E q k => k _ _ ⟨Pr, F, m, d, S, Te.refl, dv_flat S (h _ _) n, q⟩⟩
theorem j_int {i j} : J .f X C (.Constant (.int i) j pos) (dC (.int i)) := j_cst pe_int (fun _ _ => .int i) (fun _ h => nomatch h)
theorem j_bl {b j} : J .f X C (.Constant (.bool b) j pos) (dC (.bl b)) := j_cst pe_bl (fun _ _ => .bl b) (fun _ h => nomatch h)
theorem j_non {j} : J .f X C (.Constant .none j pos) (dC .non) := j_cst pe_non (fun _ _ => .non) (fun _ h => nomatch h)
theorem j_str {x j} : J .f X C (.Constant (.str x) j pos) (dC (.str x)) := j_cst pe_str (fun _ _ => .str x) (fun _ h => nomatch h)
/-- a constant of the module -/
def Cst (K : PySem.W.Frag) (mg : Str → Option Value) (x : Str) (d : D) : Prop := ∃ u v, mg x = some u ∧ RelV v u ∧ Dn true K [] (fun _ => none) v d
theorem j_glob {x : Str} {d : D} (hg : Gl X x) (h : Cst X.K X.mg x d) (hd : (x == ("__debug__" : Str)) = false := by decide) : J .f X C (.Name x pos) (dC d) := by
  obtain ⟨u, v, hm, r, q⟩ := h
  refine j_cst (pe_glob hg hm r hd) (fun F G => q.mono ⟨F, by simp⟩ fun a o z => by cases z) fun ds e => ?_
  subst e
  cases q with
  | lst h _ => cases h

/-! ### arguments, displays -/
def dNil {M : Type} : DTA M := fun _ m Q _ => Q [] m
def dCons {M : Type} (t : DT M) (u : DTA M) : DTA M := fun ρ m Q Z => t ρ m (fun d m1 => u ρ m1 (fun ds m2 => Q (d :: ds) m2) Z) Z
theorem ja_nil {c : Cl} : JA c X C [] dNil := ⟨_, pa_nil, fun σ H Pr F ρ m Q Z R S E h k => k _ _ ⟨Pr, F, m, [], S, Te.refl, by cases c <;> exact .nil, h⟩⟩
theorem ja_cons {c : Cl} {t : DT C.W.M} {u : DTA C.W.M} (hc : c ≠ .f) (h : J c X C e t) (r : JA c X C es u) (hs : starEach (e :: es) X.env = (false, eval e X.env) :: starEach es X.env := by rfl) : JA c X C (e :: es) (dCons t u) := by
  obtain ⟨te, p, q⟩ := h
  obtain ⟨tr, p', q'⟩ := r
  refine ⟨_, pa_cons p p' hs, fun σ H Pr F ρ m Q Z R S E h k => ?_⟩
  refine q σ H Pr F ρ m _ Z _ S E h fun v H1 z => ?_
  obtain ⟨P1, F1, m1, d, S1, t1, dv, z⟩ := z
  refine q' σ H1 P1 F1 ρ m1 _ Z _ S1 (E.te t1.toTr) z fun vs H2 z => k _ _ ?_
  obtain ⟨P2, F2, m2, ds, S2, t2, dvs, z⟩ := z
  exact ⟨P2, F2, m2, d :: ds, S2, t1.trans t2, DvA.cons hc (dv.te hc S1 t2 (Hb := H)) dvs, z⟩

def dTup {M : Type} (t : DTA M) : DT M := fun ρ m Q Z => t ρ m (fun ds m1 => ds.length ≤ sizeLine ∧ Q (.tup ds) m1) Z
def dLst {M : Type} (t : DTA M) : DT M := fun ρ m Q Z => t ρ m (fun ds m1 => ds.length ≤ sizeLine ∧ Q (.lst ds) m1) Z
theorem DvA.len {K : PySem.W.Frag} {c : Cl} {Pr : Addr → Prop} {F : List Addr} {H : Hp} {vs : List V} {ds : List D} (h : DvA K C c Pr F H vs ds) : vs.length = ds.length := by
  cases c <;> exact DnA.length h
theorem j_tup {t : DTA C.W.M} {k} (h : JA .s X C es t) : J .f X C (.Tuple es k pos) (dTup t) := by
  obtain ⟨te, p, q⟩ := h
  refine ⟨_, pe_tup p, fun σ H Pr F ρ m Q Z R S E h k => ?_⟩
  refine q σ H Pr F ρ m _ Z _ S E h fun vs H1 ⟨P1, F1, m1, ds, S1, t1, dv, z, r⟩ => ⟨by rw [dv.len]; exact z, fun p hp => k _ _ ?_⟩
  obtain ⟨S2, t2⟩ := S1.new1 (o := .tup vs) hp
  exact ⟨P1, F1, m1, .tup ds, S2, t1.trans t2, dv_flat S2 (.tup (.inl (vw_iff.mpr ⟨upd_same, .inl trivial⟩)) (DnA.mono t2.pre (sv_tr t2.toTr S1.prs) dv)) (fun _ h => nomatch h), r⟩
theorem j_lst {t : DTA C.W.M} (h : JA .s X C es t) : J .f X C (.List es pos) (dLst t) := by
  obtain ⟨te, p, q⟩ := h
  refine ⟨_, pe_lst p, fun σ H Pr F ρ m Q Z R S E h k => ?_⟩
  refine q σ H Pr F ρ m _ Z _ S E h fun vs H1 ⟨P1, F1, m1, ds, S1, t1, dv, z, r⟩ => ⟨by rw [dv.len]; exact z, fun p hp => k _ _ ?_⟩
  obtain ⟨S2, t2⟩ := S1.new1 (o := .lst vs) hp
  have np := S1.np hp
  have dv2 : DnA true X.K F1 (sv C.H0 P1 (upd H1 p (.lst vs))) vs ds := DnA.mono t2.pre (sv_tr t2.toTr S1.prs) dv
  exact ⟨P1, F1, m1, .lst ds, S2, t1.trans t2, ⟨.lst (vw_iff.mpr ⟨upd_same, .inr ⟨trivial, np, S1.h0n hp⟩⟩) dv2, fun ds' e => by cases e; exact ⟨p, vs, rfl, some_of (t1.stay p) hp, np, upd_same, dv2⟩⟩, r⟩

/-! ### operators -/
/-- an operator over data: of two answers that are looked at -/
abbrev G2 := D → D → (D → Prop) → Prop
def OpOk (X : Cx) (C : Cn) (f : Value → Value → Sem Value) (g : G2) : Prop := ∃ r, OpR X f r ∧
  ∀ σ H Pr F ρ m x y dx dy Q (R : VK), SR X.K C Pr F σ ρ m H → Dn false X.K F (wv F H) x dx → Dn false X.K F (wv F H) y dy → g dx dy (fun d => Q d m) → (∀ v H', Post X.K C .f Pr F H σ ρ Q v H' → R v H') → r x y H R
def dBin {M : Type} (g : G2) (t u : DT M) : DT M := fun ρ m Q Z => t ρ m (fun x m1 => u ρ m1 (fun y m2 => g x y fun d => Q d m2) Z) Z
variable {a b c : Expr} {ta tb tc : DT C.W.M}
theorem j_bin {op : Operator} {g : G2} (o : OpOk X C (binaryOp op) g) (ha : J .w X C a ta) (hb : J .w X C b tb) : J .f X C (.BinOp a op b pos) (dBin g ta tb) := by
  obtain ⟨r, ho, q⟩ := o
  obtain ⟨te, p, q1⟩ := ha
  obtain ⟨te', p', q2⟩ := hb
  refine ⟨_, pe_op ho p p', fun σ H Pr F ρ m Q Z R S E h k => ?_⟩
  refine q1 σ H Pr F ρ m _ Z _ S E h fun v H1 ⟨P1, F1, m1, d, S1, t1, dv, z⟩ => ?_
  refine q2 σ H1 P1 F1 ρ m1 _ Z _ S1 (E.te t1.toTr) z fun w H2 ⟨P2, F2, m2, d2, S2, t2, dv2, z2⟩ => ?_
  exact q σ H2 P2 F2 ρ m2 v w d d2 Q R S2 (Dn.te t2 dv) dv2 z2 fun v H' z => k v H' ((z.te t2).te t1)
/-- an answer that is no list, the state as it stands -/
theorem post_here {C : Cn} {K : PySem.W.Frag} {Pr : Addr → Prop} {F : List Addr} {H : Hp} {σ : L2.St} {ρ : En} {m : C.W.M} {Q : D → C.W.M → Prop} {v : V} {d : D} (S : SR K C Pr F σ ρ m H) (h : Dn true K F (sv C.H0 Pr H) v d) (n : ∀ ds, d ≠ .lst ds) (q : Q d m) :
    Post K C .f Pr F H σ ρ Q v H := ⟨Pr, F, m, d, S, Te.refl, dv_flat S h n, q⟩
def gII (P : Int → Int → Prop) (f : Int → Int → D) : G2 := fun x y Q => match x, y with | .int i, .int j => P i j ∧ Q (f i j) | _, _ => False
theorem Dn.toInt {s : Bool} {K : PySem.W.Frag} {F : List Addr} {G : Hp} {v : V} {i : Int} (h : Dn s K F G v (.int i)) : v = .int i := by cases h; rfl
theorem opok_int {f : Value → Value → Sem Value} {P : Int → Int → Prop} {g : Int → Int → Int} (h : OpR X f (rI P fun i j => .int (g i j))) : OpOk X C f (gII P fun i j => .int (g i j)) := by
  refine ⟨_, h, fun σ H Pr F ρ m x y dx dy Q R S hx hy q k => ?_⟩
  unfold gII at q
  split at q
  · rw [hx.toInt, hy.toInt]
    exact ⟨_, _, rfl, rfl, q.1, k _ _ (post_here S (.int _) (fun _ h => nomatch h) q.2)⟩
  · exact q.elim
def g0 (f : Int → Int → D) : G2 := fun x y Q => match x, y with | .int i, .int j => Q (f i j) | _, _ => False
theorem opok_int0 {f : Value → Value → Sem Value} {g : Int → Int → Int} (h : OpR X f (rI0 fun i j => .int (g i j))) : OpOk X C f (g0 fun i j => .int (g i j)) := by
  refine ⟨_, h, fun σ H Pr F ρ m x y dx dy Q R S hx hy q k => ?_⟩
  unfold g0 at q
  split at q
  · rw [hx.toInt, hy.toInt]
    exact ⟨_, _, rfl, rfl, k _ _ (post_here S (.int _) (fun _ h => nomatch h) q)⟩
  · exact q.elim
theorem opok_cmp0 {f : Value → Value → Sem Value} {g : Int → Int → Bool} (h : OpR X f (rI0 fun i j => .bl (g i j))) : OpOk X C f (g0 fun i j => .bl (g i j)) := by
  refine ⟨_, h, fun σ H Pr F ρ m x y dx dy Q R S hx hy q k => ?_⟩
  unfold g0 at q
  split at q
  · rw [hx.toInt, hy.toInt]
    exact ⟨_, _, rfl, rfl, k _ _ (post_here S (.bl _) (fun _ h => nomatch h) q)⟩
  · exact q.elim
theorem ok_sub : OpOk X C (binaryOp .Sub) (g0 fun i j => .int (i - j)) := opok_int0 op_sub
theorem op_mulA : OpR X (binaryOp .Mult) (rI IntMulOk fun i j => .int (i * j)) := opI fun _ _ _ _ _ _ _ hc q => mul_int q hc
def Nz (_ j : Int) : Prop := j ≠ 0
theorem ok_mod : OpOk X C (binaryOp .Mod) (gII Nz fun i j => .int (i.fmod j)) := opok_int op_modN
def Nd (i j : Int) : Prop := j ≠ 0 ∧ Builtin.divisionGoesByPylong i j = false
theorem op_fdivA : OpR X (binaryOp .FloorDiv) (rI Nd fun i j => .int (i.fdiv j)) := opI fun _ _ _ _ _ _ _ hc q => floordiv_int hc.1 q (.inl hc.2)
theorem ok_fdiv : OpOk X C (binaryOp .FloorDiv) (gII Nd fun i j => .int (i.fdiv j)) := opok_int op_fdivA
end
end RR

/-! RQ: promises of defs where it is known that no repr is under way (the guards are known to be none) -/
namespace RR
open PySem PySem.Spec PyProof.Rows L2
structure RoomG (k : Nat) (A : Around) : Prop extends Room k A where
  gd : A.guards = some []
theorem RoomG.mono {i k : Nat} {A : Around} (r : RoomG k A) (h : i ≤ k) : RoomG i A := ⟨r.toRoom.mono h, r.gd⟩
theorem RoomG.next {k : Nat} {A : Around} (r : RoomG (k + 1) A) (env : Env) : RoomG k (A.deeper env) := ⟨r.toRoom.deeper env, r.gd⟩
structure FnG (P : Program) (w : World) (K : PySem.W.Frag) (mg : Str → Option Value) (B : Heap) (C : CXT) (k : Nat) (f : Addr) (fd : FuncData) (ps : List Str) (sp : Sp) : Prop where
  ln : ∀ {vs H Q E}, sp vs H Q E → vs.length = ps.length
  go : ∀ {A : Around} {out : List Env} {s : Shared} {H : Hp} {args : Args} {us : List Value} {vs : List V} {Q : VK} {E : XK}, RoomG k A → Env0 P w K mg B A out s H → BindsTo s fd args (ps.zip us) → Vals vs us → sp vs H Q E →
    codeAny (model P w) A (.call (.ref f) args) (CR C out P w H s Q E) s
section
variable {P : Program} {w : World} {K : PySem.W.Frag} {mg : Str → Option Value} {B : Heap} {C : CXT} {k : Nat} {f : Addr} {fd : FuncData} {ps : List Str} {sp sp' : Sp}
theorem FnG.mono {j : Nat} (F : FnG P w K mg B C j f fd ps sp) (h : j ≤ k) : FnG P w K mg B C k f fd ps sp := ⟨F.ln, fun r => F.go (r.mono h)⟩
theorem FnG.imp (F : FnG P w K mg B C k f fd ps sp) (h : ∀ vs H Q E, sp' vs H Q E → sp vs H Q E) : FnG P w K mg B C k f fd ps sp' := ⟨fun q => F.ln (h _ _ _ _ q), fun r e b v q => F.go r e b v (h _ _ _ _ q)⟩
/-- from the body -/
theorem fnG_mk {oc dV kV doc pm cdv ct : Value} {od an : Option Addr} {osl : Array (Option Value)} {nm ql : Str} {par : Arguments} {bd : List Stmt} {sc : Scope} {N : List Str}
    (lk : K.lookup f = some ⟨oc, od, .func (PySem.W.fnOf nm ql par bd sc dV kV doc pm an cdv ct), osl⟩) (cd : PySem.W.codeIn K cdv ql = true) (S : FnScope N ps sc) (ln : ∀ vs H Q E, sp vs H Q E → vs.length = ps.length)
    (body : ∀ {A : Around} {out : List Env} {s : Shared} {H : Hp} {vs : List V} {Q : VK} {E : XK}, RoomG k (A.deeper (envOfC ql sc s.heap.objs.size f cdv)) → sp vs H Q E →
      ∃ t, PSs (cxOf C P w K mg B N ql sc f cdv A out s H E) bd t ∧ t { nx := fun _ H1 => Q .non H1, rt := Q } (start N vs) H) : FnG P w K mg B C (k + 1) f (PySem.W.fnOf nm ql par bd sc dV kV doc pm an cdv ct) ps sp := by
  constructor
  · exact fun q => ln _ _ _ _ q
  intro A out s H args us vs Q E room env binds vals asked
  obtain ⟨t, walked, told⟩ := body (A := A) (out := out) (s := s) (H := H) (vs := vs) (Q := Q) (E := E) (room.next _) asked
  have there : ∀ b o, B.get? b = some o → s.heap.get? b = some o := fun b o q => (env.bs b o q).1
  have inS : K.In s.heap := env.mod.kin.keeps there
  have kinds : ∀ y ∈ ps.zip us, sc.names.lookup y.1 = some .local ∨ (sc.names.lookup y.1 = some .cell ∧ ((cellsFrom (s.heap.objs.size + 1) sc.names []).lookup y.1).isSome = true) := by
    rintro ⟨n, u⟩ hy
    exact (S.par n (List.of_mem_zip hy).1).imp id fun q => ⟨q, PySem.W.cellsFrom_some _ _ _ (.inl q)⟩
  refine codeAny_call_function room.toRoom.depth (inS _ _ lk) rfl S.co S.gen rfl (PySem.W.codeRec_of inS cd) (binds _ _ _ _ ?_)
  refine wpAny_newFunctionEnv_cells S.kind kinds fun ev he s1 x => ?_
  subst he
  refine ⟨(env.mod.nolimit.keeps there).keeps x.toInCall.keep, codeAny_func ?_⟩
  have inv := inv_start (CX := C) (E := E) S room.toRoom.hd env (ln _ _ _ _ asked) vals x
  refine wpAny_mono (walked.run [] s1 (start N vs) H _ inv told) (fun fl s2 z => ?_) fun _ _ z => z
  have close : ∀ {σ : L2.St} {H2 : Hp} {v : V} {u : Value}, Inv (cxOf C P w K mg B N ql sc f cdv A out s H E) [] σ H2 s2 → RelV v u → Q v H2 → CE out P w H s Q u s2 := fun J rv q => ⟨_, _, J.os, J.bare, J.base, J.hok, rv, q⟩
  match fl, z with
  | .ret _, ⟨_, _, _, J, rv, q⟩ => exact close J rv q
  | .next, ⟨_, _, J, q⟩ => exact close (v := .non) (u := Value.none) J rfl q
  | .brk, ⟨_, _, _, q⟩ => exact q.elim
  | .cont, ⟨_, _, _, q⟩ => exact q.elim
theorem okG {x ql : Str} {st : Stmt} {N : List Str} (F : Fun K x ql st f fd) (S : FnScope N ps (defScope st)) (ln : ∀ vs H Q E, sp vs H Q E → vs.length = ps.length)
    (body : ∀ (cdv : Value) (A : Around) (out : List Env) (s : Shared) (H : Hp) (vs : List V) (Q : VK) (E : XK), RoomG k (A.deeper (envOfC ql (defScope st) s.heap.objs.size f cdv)) → sp vs H Q E →
      ∃ t, PSs (cxOf (L2.CX P w) P w K mg B N ql (defScope st) f cdv A out s H E) (defBody st) t ∧ t { nx := fun _ H1 => Q .non H1, rt := Q } (start N vs) H) : FnG P w K mg B (L2.CX P w) (k + 1) f fd ps sp := by
  obtain ⟨_, _, _, _, _, _, cdv, _, _, rfl, lk, cd⟩ := F.ex
  exact fnG_mk lk cd S ln fun room asked => body cdv _ _ _ _ _ _ _ room asked
end
section
variable {X : Cx} {C : CXT} {k : Nat} {f : Addr} {fd : FuncData} {ps : List Str} {sp : Sp} {ds : List Value} {dvs : List V} {E : L2.St → XK} {x : Str} {p pos : Pos} {e : Expr} {es : List Expr} {t : TA}
/-- a call of such a def by its name -/
theorem pe_callG (F : FnG X.prog X.w X.K X.mg X.base C k f fd ps sp) (room : RoomG k X.A) (gl : Gl X x) (gm : X.mg x = some (.ref f)) (kp : PySem.W.keepIn X.K (.ref f) = true) (bn : Binds X.K fd ps ds) (dv : Vals dvs ds) (px : ∀ σ, PassesAt C X σ (E σ)) (ha : PA X (e :: es) t)
    (db : (x == ("__debug__" : Str)) = false := by decide) (he : starEach (e :: es) X.env = (false, eval e X.env) :: starEach es X.env := by rfl) (hpl : (backTo pos (starEach es X.env)).any (·.1) = false := by rfl) : PE X (.Call (.Name x p) (e :: es) [] pos) (tCallSD sp dvs E t) := by
  constructor
  intro pins s σ H Q I asked
  refine wpAny_Call_Name_kw (ld_glob I gl gm ?_ db)
  refine PySem.W.callWith_K (h₀ := X.base) I.ok.mod.kin kp (thn (ha.run pos pins s σ H _ I asked) ?_) he hpl
  rintro us s1 ⟨vs, H1, I1, r, z⟩
  have both : Vals (vs ++ dvs) (us ++ ds) := r.append dv
  have size : (us ++ ds).length = ps.length := both.length.symm.trans (F.ln z)
  refine ⟨I1.kIn, wpAny_call (codeAny_mono (F.go (args := ⟨us, []⟩) room I1.env0 (bn s1 us I1.kIn size) both z) fun r s2 z2 => ?_)⟩
  match r, z2 with
  | .error e, z2 => exact px σ pins H1 s1 e s2 I1 z2
  | .ok (.ret u), z2 => exact I1.after z2
  | .ok .next, z2 => exact z2.elim
  | .ok .brk, z2 => exact z2.elim
  | .ok .cont, z2 => exact z2.elim
end
end RR

/-! RQ2: the law's own call and the row's end, for such promises -/
namespace RR
open PySem PySem.Spec PyProof.Rows L2
section
variable {P : Program} {w : World} {K : PySem.W.Frag} {mg mb : Str → Option Value} {C : CXT} {k : Nat} {fa a : Addr} {fd : FuncData} {x : Str} {sp : Sp} {s : Shared} {us : List Value} {zs : List Int}
abbrev scrObj (us : List Value) : Obj := { cls := .type "list", data := .seq us.toArray }
/-- the call, out of a heap of which at most the script is told, frozen -/
theorem call_in (H : Hp) (inK : K.In s.heap) (ns : s.heap.Ns mainGlobals mg) (nb : s.heap.Ns builtinsNs mb) (bb : ∀ y : Str, y ≠ "__name__" → mb y = bootBuiltins y) (nl : s.heap.NoLimit) (ng : s.gens = #[]) (at_ : s.heap.get? a = some (scrObj us))
    (told : ∀ b u, H b = some u → b = a ∧ (∃ ys, u = .frz (scrObj us) (.lst ys)) ∧ K.lookup a = none) (ok : HOk P w H s.heap) (room : Room k callerA) (F : ∀ B : Heap, K.In B → B.Ns mainGlobals mg → FnG P w K mg B C k fa fd [x] sp) (bind : ∀ (s : Shared) (u : Value), BindsTo s fd ⟨[u], []⟩ [(x, u)])
    (asked : sp [.ref a] H (fun v _ => v = .bl true) fun _ _ _ => False) (noX : ∀ e s2, C [] H s (fun _ _ _ => False) e s2 → False) :
    codeAny (model P w) callerA (.call (.ref fa) ⟨[.ref a], []⟩) (fun r s2 => r = .ok (.ret (.bool true)) ∧ OldK s.heap s2.heap ∧ s2.os = s.os ∧ AllBare s2.gens) s := by
  -- what isn't the script stands in the hidden heap as it stood
  have stays : ∀ {b : Addr} {o : Obj}, s.heap.get? b = some o → b ≠ a → (hidT s.heap H).get? b = some o := fun {b o} e n =>
    hidT_get e (Option.eq_none_iff_forall_ne_some.mpr fun u z => n (told b u z).1)
  have table : ∀ {b : Addr} {m : Str → Option Value}, s.heap.Ns b m → (hidT s.heap H).Ns b m := by
    rintro b m ⟨o, es, ep, e, d, r⟩
    refine ⟨o, es, ep, stays e fun z => ?_, d, r⟩
    rw [z, at_] at e
    have e2 := Option.some.inj e
    rw [← e2] at d
    exact Data.noConfusion d
  have inH : K.In (hidT s.heap H) := fun b o e => by
    by_cases z : H b = none
    · exact hidT_get (inK b o e) z
    · obtain ⟨u, hu⟩ := Option.ne_none_iff_exists'.mp z
      obtain ⟨rfl, _, no⟩ := told b u hu
      rw [no] at e
      exact nomatch e
  obtain ⟨mc, nc1, nc2⟩ := nl
  have env : Env0 P w K mg (hidT s.heap H) callerA [] s H := { frames := rfl, mod := ⟨inH, table ns, ⟨mb, table nb, bb⟩, ⟨mc, table nc1, nc2⟩⟩, bs := fun b o => of_hidT, bsz := Nat.le_of_eq (hidT_size _ _), funs := trivial, frf := fun b hb => (nomatch hb), hok := ok, bare := .of_eq ng }
  refine codeAny_mono ((F _ inH (table ns)).go (args := ⟨[.ref a], []⟩) (us := [.ref a]) (vs := [.ref a]) ⟨room, rfl⟩ env (bind s (.ref a)) (.cons rfl .nil) asked) fun r s2 z => ?_
  match r, z with
  | .error e, z => exact (noX e s2 z).elim
  | .ok .next, z => exact z.elim
  | .ok .brk, z => exact z.elim
  | .ok .cont, z => exact z.elim
  | .ok (.ret u), ⟨v, H2, os, bare, un, ok2, rel, q⟩ =>
    have q : v = .bl true := q
    subst q
    obtain rfl : u = Value.bool true := rel
    refine ⟨rfl, .of_keep fun b o e => ?_, os, bare⟩
    cases hb : H b with
    | none => exact un.keep b o e hb (List.not_mem_nil) List.not_mem_nil
    | some u =>
      obtain ⟨_, ⟨ys, rfl⟩, _⟩ := told b u hb
      have f1 := (ok b _ hb).1
      have f2 := (ok2 b _ (un.frzs b _ _ hb)).1
      exact f2.trans (f1.symm.trans e)
theorem law_callG (inK : K.In s.heap) (ns : s.heap.Ns mainGlobals mg) (nb : s.heap.Ns builtinsNs mb) (bb : ∀ y : Str, y ≠ "__name__" → mb y = bootBuiltins y) (nl : s.heap.NoLimit) (ng : s.gens = #[]) (at_ : s.heap.get? a = some (scrObj us)) (isI : IntsAre us zs) (sz : zs.length ≤ sizeLine)
    (room : Room k callerA) (F : ∀ B : Heap, K.In B → B.Ns mainGlobals mg → FnG P w K mg B C k fa fd [x] sp) (bind : ∀ (s : Shared) (u : Value), BindsTo s fd ⟨[u], []⟩ [(x, u)])
    (asked : ∀ H : Hp, SqL K H a (zs.map V.int) → sp [.ref a] H (fun v _ => v = .bl true) fun _ _ _ => False) (noX : ∀ H e s2, C [] H s (fun _ _ _ => False) e s2 → False) :
    codeAny (model P w) callerA (.call (.ref fa) ⟨[.ref a], []⟩) (fun r s2 => r = .ok (.ret (.bool true)) ∧ OldK s.heap s2.heap ∧ s2.os = s.os ∧ AllBare s2.gens) s := by
  have rel := vals_ints isI
  have same := isI.length
  rcases hk : K.lookup a with _ | o
  · let H : Hp := fun b => if b = a then some (.frz (scrObj us) (.lst (zs.map V.int))) else none
    have told : ∀ b u, H b = some u → b = a ∧ u = .frz (scrObj us) (.lst (zs.map V.int)) := fun b u z => by
      by_cases hb : b = a
      · exact ⟨hb, (Option.some.inj ((if_pos hb).symm.trans z)).symm⟩
      · exact nomatch (if_neg hb).symm.trans z
    refine call_in H inK ns nb bb nl ng at_ (fun b u z => ⟨(told b u z).1, ⟨_, (told b u z).2⟩, hk⟩) (fun b u z => ?_) room F bind (asked H (.inl (.inr ⟨scrObj us, if_pos rfl⟩))) (noX H)
    obtain ⟨rfl, rfl⟩ := told b u z
    exact ⟨at_, by rw [List.length_map]; exact sz, us, _, rel, at_⟩
  · have e := Option.some.inj (at_.symm.trans (inK a o hk))
    subst e
    exact call_in (fun _ => none) inK ns nb bb nl ng at_ (fun b u z => nomatch z) (fun b u z => nomatch z) room F bind (asked _ (.inr ⟨_, us.toArray, _, hk, rfl, rfl, rfl, by rw [List.size_toArray, same]; exact sz, by simpa using rel⟩)) (noX _)
end
theorem walk_ofG {l : PySem.W.OpenLaw} {n k : Nat} {q : Program} {loose : List Str} {XP : (Str → Option Value) → Heap → Prop} {YP : World → Heap → Prop} {d : DefRec} {K : Params → PySem.W.Frag} {C : World → CXT} {sp : World → Sp} {x : Str}
    (most : l.most = some n) (n2 : n ≤ sizeLine) (nodef : d.params.defaults = []) (room : Room k callerA) (ground : ∀ (w : World) (h : Heap), YP w h → (K w.params).In h)
    (F : ∀ (w : World) (mg : Str → Option Value) (fa : Addr) (h : Heap), (K w.params).In h → h.Ns mainGlobals mg → mg d.name = some (.ref fa) →
      ∃ fd : FuncData, (∀ (s : Shared) (u : Value), BindsTo s fd ⟨[u], []⟩ [(x, u)]) ∧ ∀ B : Heap, (K w.params).In B → B.Ns mainGlobals mg → FnG l.prog w (K w.params) mg B (C w) k fa fd [x] (sp w))
    (asked : ∀ (w : World) (H : Hp) (a : Addr) (zs : List Int), zs.length ≤ n → SqL (K w.params) H a (zs.map V.int) → sp w [.ref a] H (fun v _ => v = .bl true) fun _ _ _ => False)
    (noX : ∀ (w : World) (H : Hp) (s : Shared) (e : Value) (s2 : Shared), C w [] H s (fun _ _ _ => False) e s2 → False) : PySem.W.WalkO q loose XP YP l.row.toRowW d [] (fun f vs => PySem.call f vs) :=
  Att.attach_call most nodef fun w s0 s1 mg mb fa o pm cd doc a us zs G Y _ _ _ hmg script isI len gens => by
    have inK := ground w _ Y
    obtain ⟨fd, bind, prom⟩ := F w mg fa _ inK G.T.g hmg
    exact law_callG inK G.T.g G.T.b G.T.builtins G.T.nolimit gens script isI (Nat.le_trans len n2) room prom bind (fun H hS => asked w H a zs len hS) fun H e s2 => noX w H s1 e s2
end RR

/-! RD: judgements over data: comparisons, tests, calls, places -/
namespace RR
open PySem PySem.Spec PyProof.Rows L2

/-! ### equality of data -/
mutual
def D.py : D → PyData
  | .non => .none | .bl b => .bool b | .int i => .int i | .str x => .str x | .tup xs => .tuple (D.pys xs) | .lst xs => .list (D.pys xs) | .hnd _ => .none | .dic => .none | .exc _ => .none | .fn _ => .none | .ptr _ => .none
def D.pys : List D → List PyData
  | [] => []
  | x :: r => x.py :: D.pys r
end
/-- data that == compares: no handles, at most n deep -/
def D.q : Nat → D → Bool
  | _, .non | _, .bl _ | _, .int _ => true
  | _, .str x => PyData.strOk x
  | _, .hnd _ => false
  | _, .dic => false
  | _, .exc _ => false
  | _, .fn _ => false
  | _, .ptr _ => false
  | n + 1, .tup xs => xs.all (D.q n)
  | n + 1, .lst xs => xs.all (D.q n)
  | 0, .tup _ | 0, .lst _ => false
mutual
def D.eqv : D → D → Bool
  | .non, .non => true
  | .bl a, .bl b => a == b
  | .bl a, .int j => (if a then 1 else 0) == j
  | .int i, .bl b => i == (if b then 1 else 0)
  | .int i, .int j => decide (i = j)
  | .str x, .str y => x == y
  | .lst xs, .lst ys => D.eqvs xs ys
  | .tup xs, .tup ys => D.eqvs xs ys
  | _, _ => false
def D.eqvs : List D → List D → Bool
  | [], [] => true
  | x :: xs, y :: ys => x.eqv y && D.eqvs xs ys
  | _, _ => false
end
mutual
theorem py_eqv : ∀ {n : Nat} {x y : D}, x.q n = true → y.q n = true → PyData.eqv x.py y.py = x.eqv y
  | n, .hnd _, _, h, _ => by cases n <;> cases h
  | n, .dic, _, h, _ => by cases n <;> cases h
  | n, .exc _, _, h, _ => by cases n <;> cases h
  | n, .fn _, _, h, _ => by cases n <;> cases h
  | n, .ptr _, _, h, _ => by cases n <;> cases h
  | n, _, .hnd _, _, h => by cases n <;> cases h
  | n, _, .dic, _, h => by cases n <;> cases h
  | n, _, .exc _, _, h => by cases n <;> cases h
  | n, _, .fn _, _, h => by cases n <;> cases h
  | n, _, .ptr _, _, h => by cases n <;> cases h
  | n + 1, .tup xs, .tup ys, h, h' => by
    simp only [D.py, D.eqv, PyData.eqv]
    exact pys_eqv (List.all_eq_true.mp h) (List.all_eq_true.mp h')
  | n + 1, .lst xs, .lst ys, h, h' => by
    simp only [D.py, D.eqv, PyData.eqv]
    exact pys_eqv (List.all_eq_true.mp h) (List.all_eq_true.mp h')
  | 0, .tup xs, _, h, _ => by cases h
  | 0, .lst xs, _, h, _ => by cases h
  | _, .non, .non, _, _ | _, .non, .bl _, _, _ | _, .non, .int _, _, _ | _, .non, .str _, _, _ | _, .non, .tup _, _, _ | _, .non, .lst _, _, _ => rfl
  | _, .bl _, .non, _, _ | _, .bl _, .bl _, _, _ | _, .bl _, .int _, _, _ | _, .bl _, .str _, _, _ | _, .bl _, .tup _, _, _ | _, .bl _, .lst _, _, _ => rfl
  | _, .int _, .non, _, _ | _, .int _, .bl _, _, _ | _, .int _, .str _, _, _ | _, .int _, .tup _, _, _ | _, .int _, .lst _, _, _ => rfl
  | _, .int i, .int j, _, _ => by simp only [D.py, D.eqv, PyData.eqv, Bool.beq_eq_decide_eq]
  | _, .str _, .non, _, _ | _, .str _, .bl _, _, _ | _, .str _, .int _, _, _ | _, .str _, .str _, _, _ | _, .str _, .tup _, _, _ | _, .str _, .lst _, _, _ => rfl
  | n + 1, .tup _, .non, _, _ | n + 1, .tup _, .bl _, _, _ | n + 1, .tup _, .int _, _, _ | n + 1, .tup _, .str _, _, _ | n + 1, .tup _, .lst _, _, _ => rfl
  | n + 1, .lst _, .non, _, _ | n + 1, .lst _, .bl _, _, _ | n + 1, .lst _, .int _, _, _ | n + 1, .lst _, .str _, _, _ | n + 1, .lst _, .tup _, _, _ => rfl
theorem pys_eqv : ∀ {n : Nat} {xs ys : List D}, (∀ x ∈ xs, x.q n = true) → (∀ x ∈ ys, x.q n = true) → PyData.eqvAll (D.pys xs) (D.pys ys) = D.eqvs xs ys
  | _, [], [], _, _ => rfl
  | _, [], _ :: _, _, _ => rfl
  | _, _ :: _, [], _, _ => rfl
  | n, x :: xs, y :: ys, h, h' => by
    simp only [D.pys, D.eqvs, PyData.eqvAll]
    rw [py_eqv (h x List.mem_cons_self) (h' y List.mem_cons_self), pys_eqv (fun z hz => h z (List.mem_cons_of_mem _ hz)) (fun z hz => h' z (List.mem_cons_of_mem _ hz))]
end
mutual
theorem py_lay : ∀ {n : Nat} {x : D}, x.q n = true → x.py.canLay0 = true ∧ x.py.depth ≤ n
  | n, .hnd _, h => by cases n <;> cases h
  | n, .dic, h => by cases n <;> cases h
  | n, .exc _, h => by cases n <;> cases h
  | n, .fn _, h => by cases n <;> cases h
  | n, .ptr _, h => by cases n <;> cases h
  | n, .non, _ => ⟨rfl, Nat.zero_le _⟩
  | n, .bl _, _ => ⟨rfl, Nat.zero_le _⟩
  | n, .int _, _ => ⟨rfl, Nat.zero_le _⟩
  | 0, .str _, h => ⟨h, Nat.zero_le _⟩
  | n + 1, .str _, h => ⟨h, Nat.zero_le _⟩
  | n + 1, .tup xs, h => let ⟨a, b⟩ := pys_lay (List.all_eq_true.mp h); ⟨a, Nat.succ_le_succ b⟩
  | n + 1, .lst xs, h => let ⟨a, b⟩ := pys_lay (List.all_eq_true.mp h); ⟨a, Nat.succ_le_succ b⟩
  | 0, .tup _, h => by cases h
  | 0, .lst _, h => by cases h
theorem pys_lay : ∀ {n : Nat} {xs : List D}, (∀ x ∈ xs, x.q n = true) → PyData.canLayAll0 (D.pys xs) = true ∧ PyData.depthAll (D.pys xs) ≤ n
  | n, [], _ => ⟨rfl, Nat.zero_le _⟩
  | n, x :: xs, h => by
    obtain ⟨a, b⟩ := py_lay (h x List.mem_cons_self)
    obtain ⟨c, d⟩ := pys_lay fun z hz => h z (List.mem_cons_of_mem _ hz)
    simp only [D.pys, PyData.canLayAll0, PyData.depthAll, a, c, Bool.and_self, true_and]
    omega
end
theorem shaped_q {x : D} (h : x.q 8 = true) : SeqAt.shaped x.py = true := by
  obtain ⟨a, b⟩ := py_lay h
  unfold SeqAt.shaped
  rw [a, decide_eq_true (by omega)] <;> rfl
mutual
theorem Dn.dp {s : Bool} {K : PySem.W.Frag} {F : List Addr} {G H : Hp} (hG : ∀ a o, G a = some o → H a = some o) : ∀ {n : Nat} {v : V} {d : D}, Dn s K F G v d → d.q n = true → Dp K H v d.py
  | _, _, _, .non, _ => .non
  | _, _, _, .bl b, _ => .bl b
  | _, _, _, .int i, _ => .int i
  | _, _, _, .str x, _ => .str x
  | n + 1, _, _, .tup h r, q => .tup ((h.mono fun a xs => hG a _).sq) (DnA.dp hG r (List.all_eq_true.mp q))
  | n + 1, _, _, .lst h r, q => .lst ((h.mono hG).sq) (DnA.dp hG r (List.all_eq_true.mp q))
  | 0, _, _, .tup _ _, q => by cases q
  | 0, _, _, .lst _ _, q => by cases q
  | n, _, _, .hnd h, q => by cases n <;> cases q
  | n, _, _, .dic h, q => by cases n <;> cases q
  | n, _, _, .exc h _, q => by cases n <;> cases q
  | n, _, _, .fn h, q => by cases n <;> cases q
  | n, _, _, .ptr, q => by cases n <;> cases q
theorem DnA.dp {s : Bool} {K : PySem.W.Frag} {F : List Addr} {G H : Hp} (hG : ∀ a o, G a = some o → H a = some o) : ∀ {n : Nat} {vs : List V} {ds : List D}, DnA s K F G vs ds → (∀ x ∈ ds, x.q n = true) → DpAll K H vs (D.pys ds)
  | _, _, _, .nil, _ => .nil
  | _, _, _, .cons h r, q => .cons (Dn.dp hG h (q _ List.mem_cons_self)) (DnA.dp hG r fun x hx => q x (List.mem_cons_of_mem _ hx))
end
def gEq : G2 := fun x y Q => (x.q 8 = true ∧ y.q 8 = true ∧ Q (.bl (x.eqv y))) ∨ ∃ a b, x = .str a ∧ y = .str b ∧ Q (.bl (decide (a = b)))
def gNe : G2 := fun x y Q => (x.q 8 = true ∧ y.q 8 = true ∧ Q (.bl (!x.eqv y))) ∨ ∃ a b, x = .str a ∧ y = .str b ∧ Q (.bl (!decide (a = b)))

section
variable {X : Cx} {C : Cn} {e a b c : Expr} {es : List Expr} {pos : Pos} {ta tb tc : DT C.W.M}
theorem ok_eq (hu : X.A.units + 64 < cLine) : OpOk X C (compareOp .Eq) gEq := by
  refine ⟨_, (op_eqD hu).or op_eq, fun σ H Pr F ρ m x y dx dy Q R S hx hy q k => ?_⟩
  rcases q with ⟨q1, q2, q⟩ | ⟨a, b, rfl, rfl, q⟩
  · refine .inl ⟨_, _, hx.dp (fun _ _ => wv_le) q1, hy.dp (fun _ _ => wv_le) q2, shaped_q q1, shaped_q q2, k _ _ (post_here S (.bl _) (fun _ h => nomatch h) ?_)⟩
    rw [py_eqv q1 q2]
    exact q
  · cases hx; cases hy
    refine .inr ⟨rfl, k _ _ (post_here S (.bl _) (fun _ h => nomatch h) ?_)⟩
    rw [show decide (V.str a = V.str b) = decide (a = b) from by rw [Bool.eq_iff_iff]; simp]
    exact q
theorem ok_ne (hu : X.A.units + 64 < cLine) : OpOk X C (compareOp .NotEq) gNe := by
  refine ⟨_, (op_neD hu).or op_ne, fun σ H Pr F ρ m x y dx dy Q R S hx hy q k => ?_⟩
  rcases q with ⟨q1, q2, q⟩ | ⟨a, b, rfl, rfl, q⟩
  · refine .inl ⟨_, _, hx.dp (fun _ _ => wv_le) q1, hy.dp (fun _ _ => wv_le) q2, shaped_q q1, shaped_q q2, k _ _ (post_here S (.bl _) (fun _ h => nomatch h) ?_)⟩
    rw [py_eqv q1 q2]
    exact q
  · cases hx; cases hy
    refine .inr ⟨rfl, k _ _ (post_here S (.bl _) (fun _ h => nomatch h) ?_)⟩
    rw [show decide (V.str a = V.str b) = decide (a = b) from by rw [Bool.eq_iff_iff]; simp]
    exact q
abbrev gLt : G2 := g0 fun i j => .bl (decide (i < j))
abbrev gGt : G2 := g0 fun i j => .bl (decide (j < i))
theorem ok_lt : OpOk X C (compareOp .Lt) gLt := opok_cmp0 op_lt
theorem ok_gt : OpOk X C (compareOp .Gt) gGt := opok_cmp0 op_gt
def D.isN : D → Bool
  | .non => true
  | _ => false
def gIsN : G2 := fun x y Q => y.isN = true ∧ Q (.bl x.isN)
def gNotN : G2 := fun x y Q => y.isN = true ∧ Q (.bl (!x.isN))
theorem isN_of {s : Bool} {K : PySem.W.Frag} {F : List Addr} {G : Hp} {v : V} {d : D} (h : Dn s K F G v d) : decide (v = .non) = d.isN := by
  cases h <;> rfl
theorem ok_isN : OpOk X C (compareOp .Is) gIsN := by
  refine ⟨_, op_isN, fun σ H Pr F ρ m x y dx dy Q R S hx hy q k => ?_⟩
  obtain ⟨q1, q⟩ := q
  have e := isN_of hy
  rw [q1] at e
  refine ⟨of_decide_eq_true e, k _ _ (post_here (d := .bl dx.isN) S ?_ (fun _ h => nomatch h) q)⟩
  rw [isN_of hx]
  exact .bl _
theorem j_cmp {op : CmpOp} {g : G2} (o : OpOk X C (compareOp op) g) (ha : J .w X C a ta) (hb : J .w X C b tb) (hm : behindInMarks op b = false := by exact nomark _) : J .f X C (.Compare a [op] [b] pos) (dBin g ta tb) := by
  obtain ⟨r, ho, q⟩ := o
  obtain ⟨te, p, q1⟩ := ha
  obtain ⟨te', p', q2⟩ := hb
  refine ⟨_, pe_cmpR ho p p' hm, fun σ H Pr F ρ m Q Z R S E h k => ?_⟩
  refine q1 σ H Pr F ρ m _ Z _ S E h fun v H1 ⟨P1, F1, m1, d, S1, t1, dv, z⟩ => ?_
  refine q2 σ H1 P1 F1 ρ m1 _ Z _ S1 (E.te t1.toTr) z fun w H2 ⟨P2, F2, m2, d2, S2, t2, dv2, z2⟩ => ?_
  exact q σ H2 P2 F2 ρ m2 v w d d2 Q R S2 (Dn.te t2 dv) dv2 z2 fun v H' z => k v H' ((z.te t2).te t1)
/-- an answer that is True or False, as a test -/
def dTst {M : Type} (t : DT M) : DTT M := fun ρ m Q Z => t ρ m (fun d m' => match d with | .bl b => Q b m' | _ => False) Z
theorem post_tst {K : PySem.W.Frag} {c : Cl} {Pr : Addr → Prop} {F : List Addr} {H H' : Hp} {σ : L2.St} {ρ : En} {Q : Bool → C.W.M → Prop} {v : V} (h : Post K C c Pr F H σ ρ (fun d m' => match d with | .bl b => Q b m' | _ => False) v H') : ∃ b, v = .bl b ∧ PostT K C Pr F H σ ρ Q b H' := by
  obtain ⟨P1, F1, m1, d, S1, t1, dv, z⟩ := h
  split at z
  · rename_i b
    refine ⟨b, ?_, P1, F1, m1, S1, t1, z⟩
    cases c with
    | f =>
      have dv := dv.1
      cases dv
      rfl
    | w =>
      have dv : Dn false K F1 (wv F1 H') v (.bl b) := dv
      cases dv
      rfl
    | s =>
      have dv : Dn true K F1 (sv C.H0 P1 H') v (.bl b) := dv
      cases dv
      rfl
    | r =>
      have dv : Dn true K F1 (sv C.H0 (· ∈ F1) H') v (.bl b) := dv
      cases dv
      rfl
  · exact z.elim
theorem jt_cmp {op : CmpOp} {g : G2} (o : OpOk X C (compareOp op) g) (ha : J .w X C a ta) (hb : J .w X C b tb) (hm : behindInMarks op b = false := by exact nomark _) : JT X C (.Compare a [op] [b] pos) (dTst (dBin g ta tb)) := by
  obtain ⟨r, ho, q⟩ := o
  obtain ⟨te, p, q1⟩ := ha
  obtain ⟨te', p', q2⟩ := hb
  refine ⟨_, pt_cmpR ho p p' hm, fun σ H Pr F ρ m Q Z R S E h k => ?_⟩
  refine q1 σ H Pr F ρ m _ Z _ S E h fun v H1 ⟨P1, F1, m1, d, S1, t1, dv, z⟩ => ?_
  refine q2 σ H1 P1 F1 ρ m1 _ Z _ S1 (E.te t1.toTr) z fun w H2 ⟨P2, F2, m2, d2, S2, t2, dv2, z2⟩ => ?_
  exact q σ H2 P2 F2 ρ m2 v w d d2 _ _ S2 (Dn.te t2 dv) dv2 z2 fun v H' z => by
    obtain ⟨b, e, z⟩ := post_tst ((z.te t2).te t1)
    exact ⟨b, e, k b H' z⟩
/-- a op1 b op2 c -/
def dChain {M : Type} (g g' : G2) (t u w : DT M) : DT M := fun ρ m Q Z => t ρ m (fun x m1 => u ρ m1 (fun y m2 => g x y fun d => match d with | .bl true => w ρ m2 (fun z m3 => g' y z fun d => Q d m3) Z | .bl false => Q (.bl false) m2 | _ => False) Z) Z
/-! ### tests -/
/-- a value's truth -/
def D.tr : D → Option Bool
  | .non => some false
  | .bl b => some b
  | .int i => some (i != 0)
  | .tup xs | .lst xs => some (!xs.isEmpty)
  | .str _ => none
  | .hnd _ => none
  | .dic => none
  | .exc _ => none
  | .fn _ => none
  | .ptr _ => none
def dVal {M : Type} (t : DT M) : DTT M := fun ρ m Q Z => t ρ m (fun d m' => match d.tr with | some b => Q b m' | none => False) Z
/-- any expression that is no and, or, not, if, comparison -/
theorem jt_val {t : DT C.W.M} (h : J .w X C e t) (he : ∀ whole, isTrue e X.env whole = (do let v ← whole; standAt e.pos; holding [v] (truthy v)) := by intro _; rfl) :
    JT X C e (dVal t) := by
  obtain ⟨te, p, q⟩ := h
  refine ⟨_, pt_truth p he, fun σ H Pr F ρ m Q Z R S E h k => ?_⟩
  refine q σ H Pr F ρ m _ Z _ S E h fun v H1 ⟨P1, F1, m1, d, S1, t1, dv, z⟩ => ?_
  have dv : Dn false X.K F1 (wv F1 H1) v d := dv
  try dsimp only at z
  split at z
  · rename_i b e
    refine ⟨b, ?_, k b H1 ⟨P1, F1, m1, S1, t1, z⟩⟩
    have el : ∀ {vs : List V} {ds : List D}, DnA false X.K F1 (wv F1 H1) vs ds → (!ds.isEmpty) = !vs.isEmpty := fun h => by cases h <;> rfl
    cases dv with
    | non => exact (Option.some.inj e).symm
    | bl b => exact (Option.some.inj e).symm
    | int i => exact (Option.some.inj e).symm
    | str x => cases e
    | hnd h => cases e
    | dic h => cases e
    | exc h _ => cases e
    | fn h => cases e
    | ptr => cases e
    | tup h r => exact .inr (.inl ⟨_, (h.mono fun a xs => wv_le).sq, (Option.some.inj e).symm.trans (el r)⟩)
    | lst h r => exact .inl ⟨_, (h.mono fun a xs => wv_le).sq, (Option.some.inj e).symm.trans (el r)⟩
  · exact z.elim
variable {rest : List Expr} {tt uu : DTT C.W.M}
def dAnd {M : Type} (t u : DTT M) : DTT M := fun ρ m Q Z => t ρ m (fun b m1 => if b = true then u ρ m1 Q Z else Q false m1) Z
def dOr {M : Type} (t u : DTT M) : DTT M := fun ρ m Q Z => t ρ m (fun b m1 => if b = true then Q true m1 else u ρ m1 Q Z) Z
def dNot {M : Type} (t : DTT M) : DTT M := fun ρ m Q Z => t ρ m (fun b m1 => Q (!b) m1) Z
theorem JW.t (h : JW X C e tt) : JT X C e tt := by
  obtain ⟨te, p, q⟩ := h
  exact ⟨te, p.pt, q⟩
theorem jw_and1 (h : JT X C a tt) : JW X C (.BoolOp .And [a] pos) tt := by
  obtain ⟨te, p, q⟩ := h
  exact ⟨te, pw_and1 p, q⟩
theorem jw_or1 (h : JT X C a tt) : JW X C (.BoolOp .Or [a] pos) tt := by
  obtain ⟨te, p, q⟩ := h
  exact ⟨te, pw_or1 p, q⟩
theorem jw_and (h : JT X C a tt) (r : JW X C (.BoolOp .And (b :: rest) pos) uu) : JW X C (.BoolOp .And (a :: b :: rest) pos) (dAnd tt uu) := by
  obtain ⟨te, p, q⟩ := h
  obtain ⟨te', p', q'⟩ := r
  refine ⟨_, pw_and p p', fun σ H Pr F ρ m Q Z R S E h k => ?_⟩
  refine q σ H Pr F ρ m _ Z _ S E h fun v H1 ⟨P1, F1, m1, S1, t1, z⟩ => ?_
  cases v with
  | true => exact iteT (q' σ H1 P1 F1 ρ m1 Q Z R S1 (E.te t1.toTr) z fun w H2 z => k w H2 (z.te t1))
  | false => exact iteF (k false H1 ⟨P1, F1, m1, S1, t1, z⟩)
theorem jw_or (h : JT X C a tt) (r : JW X C (.BoolOp .Or (b :: rest) pos) uu) : JW X C (.BoolOp .Or (a :: b :: rest) pos) (dOr tt uu) := by
  obtain ⟨te, p, q⟩ := h
  obtain ⟨te', p', q'⟩ := r
  refine ⟨_, pw_or p p', fun σ H Pr F ρ m Q Z R S E h k => ?_⟩
  refine q σ H Pr F ρ m _ Z _ S E h fun v H1 ⟨P1, F1, m1, S1, t1, z⟩ => ?_
  cases v with
  | false => exact iteF (q' σ H1 P1 F1 ρ m1 Q Z R S1 (E.te t1.toTr) z fun w H2 z => k w H2 (z.te t1))
  | true => exact iteT (k true H1 ⟨P1, F1, m1, S1, t1, z⟩)
theorem jt_not (h : JT X C a tt) : JT X C (.UnaryOp .Not a pos) (dNot tt) := by
  obtain ⟨te, p, q⟩ := h
  refine ⟨_, pt_not p, fun σ H Pr F ρ m Q Z R S E h k => ?_⟩
  exact q σ H Pr F ρ m _ Z _ S E h fun v H1 ⟨P1, F1, m1, S1, t1, z⟩ => k _ H1 ⟨P1, F1, m1, S1, t1, z⟩
/-! and, or, not as values (True or False) -/
def dAndV {M : Type} (t u : DT M) : DT M := fun ρ m Q Z => t ρ m (fun d m1 => match d with | .bl true => u ρ m1 Q Z | .bl false => Q (.bl false) m1 | _ => False) Z
def dOrV {M : Type} (t u : DT M) : DT M := fun ρ m Q Z => t ρ m (fun d m1 => match d with | .bl false => u ρ m1 Q Z | .bl true => Q (.bl true) m1 | _ => False) Z
def dNotV {M : Type} (t : DT M) : DT M := fun ρ m Q Z => t ρ m (fun d m1 => match d with | .bl b => Q (.bl (!b)) m1 | _ => False) Z
theorem j_one {op} {t : DT C.W.M} {c : Cl} (h : J c X C a t) : J c X C (.BoolOp op [a] pos) t := by
  obtain ⟨te, p, q⟩ := h
  exact ⟨te, pe_one p, q⟩
theorem post_bl {K : PySem.W.Frag} {Pr : Addr → Prop} {F : List Addr} {H H' : Hp} {v : V} {b : Bool} (h : Dv K C .f Pr F H H' v (.bl b)) : v = .bl b := by
  have h := h.1
  cases h
  rfl
theorem j_and (ha : J .f X C a ta) (r : J .f X C (.BoolOp .And (b :: rest) pos) tb) : J .f X C (.BoolOp .And (a :: b :: rest) pos) (dAndV ta tb) := by
  obtain ⟨te, p, q⟩ := ha
  obtain ⟨te', p', q'⟩ := r
  refine ⟨_, pe_and p p', fun σ H Pr F ρ m Q Z R S E h k => ?_⟩
  refine q σ H Pr F ρ m _ Z _ S E h fun v H1 ⟨P1, F1, m1, d, S1, t1, dv, z⟩ => ?_
  try dsimp only at z
  split at z
  · exact ⟨true, post_bl dv, iteT (q' σ H1 P1 F1 ρ m1 Q Z R S1 (E.te t1.toTr) z fun w H2 z => k w H2 (z.te t1))⟩
  · exact ⟨false, post_bl dv, iteF (k _ _ ((post_here (d := .bl false) S1 (.bl false) (fun _ h => nomatch h) z).te t1))⟩
  · exact z.elim
theorem j_or (ha : J .f X C a ta) (r : J .f X C (.BoolOp .Or (b :: rest) pos) tb) : J .f X C (.BoolOp .Or (a :: b :: rest) pos) (dOrV ta tb) := by
  obtain ⟨te, p, q⟩ := ha
  obtain ⟨te', p', q'⟩ := r
  refine ⟨_, pe_or p p', fun σ H Pr F ρ m Q Z R S E h k => ?_⟩
  refine q σ H Pr F ρ m _ Z _ S E h fun v H1 ⟨P1, F1, m1, d, S1, t1, dv, z⟩ => ?_
  try dsimp only at z
  split at z
  · exact ⟨false, post_bl dv, iteF (q' σ H1 P1 F1 ρ m1 Q Z R S1 (E.te t1.toTr) z fun w H2 z => k w H2 (z.te t1))⟩
  · exact ⟨true, post_bl dv, iteT (k _ _ ((post_here (d := .bl true) S1 (.bl true) (fun _ h => nomatch h) z).te t1))⟩
  · exact z.elim
theorem j_not (ha : J .f X C a ta) : J .f X C (.UnaryOp .Not a pos) (dNotV ta) := by
  obtain ⟨te, p, q⟩ := ha
  refine ⟨_, pe_not p, fun σ H Pr F ρ m Q Z R S E h k => ?_⟩
  refine q σ H Pr F ρ m _ Z _ S E h fun v H1 ⟨P1, F1, m1, d, S1, t1, dv, z⟩ => ?_
  try dsimp only at z
  split at z
  · rename_i b
    exact ⟨b, post_bl dv, k _ _ ((post_here (d := .bl (!b)) S1 (.bl _) (fun _ h => nomatch h) z).te t1)⟩
  · exact z.elim
def dNeg {M : Type} (t : DT M) : DT M := fun ρ m Q Z => t ρ m (fun d m1 => match d with | .int i => Q (.int (-i)) m1 | _ => False) Z
theorem j_neg (ha : J .w X C a ta) : J .f X C (.UnaryOp .USub a pos) (dNeg ta) := by
  obtain ⟨te, p, q⟩ := ha
  refine ⟨_, pe_un un_neg p, fun σ H Pr F ρ m Q Z R S E h k => ?_⟩
  refine q σ H Pr F ρ m _ Z _ S E h fun v H1 ⟨P1, F1, m1, d, S1, t1, dv, z⟩ => ?_
  have dv : Dn false X.K F1 (wv F1 H1) v d := dv
  try dsimp only at z
  split at z
  · exact ⟨_, dv.toInt, k _ _ ((post_here S1 (.int _) (fun _ h => nomatch h) z).te t1)⟩
  · exact z.elim
/-- a if t else b -/
def dIf {M : Type} (t : DTT M) (u w : DT M) : DT M := fun ρ m Q Z => t ρ m (fun b m1 => if b = true then u ρ m1 Q Z else w ρ m1 Q Z) Z
theorem j_if {cl : Cl} (hc : JT X C c tt) (ha : J cl X C a ta) (hb : J cl X C b tb) : J cl X C (.IfExp c a b pos) (dIf tt ta tb) := by
  obtain ⟨tc, p, q⟩ := hc
  obtain ⟨te, p1, q1⟩ := ha
  obtain ⟨te', p2, q2⟩ := hb
  refine ⟨_, pe_ifExp p p1 p2, fun σ H Pr F ρ m Q Z R S E h k => ?_⟩
  refine q σ H Pr F ρ m _ Z _ S E h fun v H1 ⟨P1, F1, m1, S1, t1, z⟩ => ?_
  cases v with
  | true => exact iteT (q1 σ H1 P1 F1 ρ m1 Q Z R S1 (E.te t1.toTr) z fun w H2 z => k w H2 (z.te t1))
  | false => exact iteF (q2 σ H1 P1 F1 ρ m1 Q Z R S1 (E.te t1.toTr) z fun w H2 z => k w H2 (z.te t1))

/-! ### calls -/
abbrev DSp (M : Type) := List D → M → (D → M → Prop) → (Str → M → Prop) → Prop
/-- a def's promise over data, as a promise of the hand layer -/
def spD (K : PySem.W.Frag) (mg : Str → Option Value) (W : Wd) (sp : DSp W.M) : Sp := fun vs H Q E => ∃ F m ds Qd Zd, W.Rz m F H ∧ DnA false K F (wv F H) vs ds ∧ sp ds m Qd Zd ∧
  (∀ v H' F' d m', W.Rz m' F' H' → (∃ G, F' = F ++ G) → (∀ a ∈ F', a ∉ F → H a = none) → (∀ a o, a ∉ F → H a = some o → H' a = some o) → Dn true K F' (sv H (· ∈ F') H') v d → Qd d m' → Q v H') ∧
  (∀ x cls H' F' m', mg x = some cls → W.Rz m' F' H' → (∃ G, F' = F ++ G) → (∀ a ∈ F', a ∉ F → H a = none) → (∀ a o, a ∉ F → H a = some o → H' a = some o) → Zd x m' → E cls none H')
/-- a def that may be called by its name x; dds: its defaults that fill up -/
def FD (P : Program) (w : World) (K : PySem.W.Frag) (mg : Str → Option Value) (base : Heap) (W : Wd) (k : Nat) (x : Str) (dds : List D) (sp : DSp W.M) : Prop :=
  ∃ f fd ps ds dvs, FnG P w K mg base (L2.CX P w) k f fd ps (spD K mg W sp) ∧ mg x = some (.ref f) ∧ PySem.W.keepIn K (.ref f) = true ∧ Binds K fd ps ds ∧ Vals dvs ds ∧ ∀ F G, DnA false K F G dvs dds
def dCall {M : Type} (sp : DSp M) (dds : List D) (t : DTA M) : DT M := fun ρ m Q Z => t ρ m (fun ds m1 => sp (ds ++ dds) m1 Q Z) Z
theorem j_call {x : Str} {k : Nat} {dds : List D} {sp : DSp C.W.M} {ta : DTA C.W.M} {p : Pos} (h : FD X.prog X.w X.K X.mg X.base C.W k x dds sp) (hr : RoomG k X.A) (tk : Takes X C.wx) (hg : Gl X x) (ha : JA .w X C (e :: es) ta)
    (hdb : (x == ("__debug__" : Str)) = false := by decide) (he : starEach (e :: es) X.env = (false, eval e X.env) :: starEach es X.env := by rfl) (hpl : (backTo pos (starEach es X.env)).any (·.1) = false := by rfl) :
    J .f X C (.Call (.Name x p) (e :: es) [] pos) (dCall sp dds ta) := by
  obtain ⟨f, fd, ps, ds, dvs, G, hm, hk, hb, hd, hdd⟩ := h
  obtain ⟨te, pa, q⟩ := ha
  refine ⟨_, pe_callG (E := fun σ cls d H' => C.wx cls d σ H') G hr hg hm hk hb hd (fun σ => passAt tk σ) pa hdb he hpl, fun σ H Pr F ρ m Q Z R S E h k => ?_⟩
  refine q σ H Pr F ρ m _ Z _ S E h fun vs H1 ⟨P1, F1, m1, ds1, S1, t1, dv, z⟩ => ?_
  have dv : DnA false X.K F1 (wv F1 H1) vs ds1 := dv
  refine ⟨F1, m1, ds1 ++ dds, Q, Z, S1.rz, dv.app (hdd _ _), z, fun v H' F' d m' rz pre fr kp dn q => ?_, fun x cls H' F' m' hx rz pre fr kp z => ?_⟩
  · obtain ⟨S2, t2⟩ := S1.turned rz pre fr kp
    have np : ∀ {a o}, sv H1 (· ∈ F') H' a = some o → IsL o → ¬ (P1 a ∨ a ∈ F') ∧ C.H0 a = none ∧ H1 a = none := fun {a o} h l => by
      obtain ⟨e, q⟩ := vw_iff.mp h
      rcases q with q | q
      · exact (IsT.not_L q l).elim
      · exact ⟨fun z => z.elim (S1.np q.2.2) q.2.1, S1.h0n q.2.2, q.2.2⟩
    have up : ∀ a o, sv H1 (· ∈ F') H' a = some o → sv C.H0 (fun a => P1 a ∨ a ∈ F') H' a = some o := fun a o h => by
      obtain ⟨e, q⟩ := vw_iff.mp h
      refine vw_iff.mpr ⟨e, q.imp id fun q => ⟨q.1, (np h q.1).1, (np h q.1).2.1⟩⟩
    refine k v H' ⟨_, F', m', d, S2, t1.trans t2, ⟨dn.mono ⟨[], by simp⟩ up, fun ds e => ?_⟩, q⟩
    subst e
    cases dn with
    | lst h r =>
      rename_i a xs
      have h : sv H1 (· ∈ F') H' a = some (.lst xs) := h
      obtain ⟨n1, n2, n3⟩ := np h trivial
      exact ⟨a, xs, rfl, some_of (t1.stay a) n3, n1, sv_le h, DnA.mono ⟨[], by simp⟩ up r⟩
  · obtain ⟨S2, t2⟩ := S1.turned rz pre fr kp
    exact E x cls _ F' m' H' hx S2 (t1.trans t2).toTr z
/-- a call of a built-in over data: c = w, the arguments are looked at; c = s, they may be kept in the answer -/
def CaOk (X : Cx) (C : Cn) (c : Cl) (f : Value) (g : List D → (D → Prop) → Prop) : Prop := ∃ r, CallR X f r ∧
  ∀ σ H Pr F ρ m vs ds Q (R : VK), SR X.K C Pr F σ ρ m H → DvA X.K C c Pr F H vs ds → g ds (fun d => Q d m) → (∀ v H', Post X.K C .f Pr F H σ ρ Q v H' → R v H') → r vs H R
def dB {M : Type} (g : List D → (D → Prop) → Prop) (t : DTA M) : DT M := fun ρ m Q Z => t ρ m (fun ds m1 => g ds fun d => Q d m1) Z
theorem j_callB {cl : Cl} {id : String} {x : Str} {g : List D → (D → Prop) → Prop} {ta : DTA C.W.M} {p : Pos} (h : CaOk X C cl (.builtin id) g) (hm : X.mg x = none) (hv : bootBuiltins x = some (.builtin id)) (ha : JA cl X C (e :: es) ta) (hg : Gl X x := by rfl) (hn : x ≠ "__name__" := by decide) (hdb : (x == ("__debug__" : Str)) = false := by decide)
    (he : starEach (e :: es) X.env = (false, eval e X.env) :: starEach es X.env := by rfl) (hpl : (backTo pos (starEach es X.env)).any (·.1) = false := by rfl) : J .f X C (.Call (.Name x p) (e :: es) [] pos) (dB g ta) := by
  obtain ⟨r, hc, q'⟩ := h
  obtain ⟨te, pa, q⟩ := ha
  refine ⟨_, pe_callB hc hg hm hv pa hn hdb he hpl, fun σ H Pr F ρ m Q Z R S E h k => ?_⟩
  refine q σ H Pr F ρ m _ Z _ S E h fun vs H1 ⟨P1, F1, m1, ds1, S1, t1, dv, z⟩ => ?_
  exact q' σ H1 P1 F1 ρ m1 vs ds1 Q R S1 dv z fun v H' z => k v H' (z.te t1)
theorem j_callTy {cl : Cl} {T : String} {x : Str} {g : List D → (D → Prop) → Prop} {ta : DTA C.W.M} {p : Pos} (h : CaOk X C cl (.type T) g) (hm : X.mg x = none) (hv : bootBuiltins x = some (.type T)) (ha : JA cl X C (e :: es) ta) (hg : Gl X x := by rfl) (hn : x ≠ "__name__" := by decide) (hdb : (x == ("__debug__" : Str)) = false := by decide)
    (he : starEach (e :: es) X.env = (false, eval e X.env) :: starEach es X.env := by rfl) (hpl : (backTo pos (starEach es X.env)).any (·.1) = false := by rfl) : J .f X C (.Call (.Name x p) (e :: es) [] pos) (dB g ta) := by
  obtain ⟨r, hc, q'⟩ := h
  obtain ⟨te, pa, q⟩ := ha
  refine ⟨_, pe_callTy hc hg hm hv pa hn hdb he hpl, fun σ H Pr F ρ m Q Z R S E h k => ?_⟩
  refine q σ H Pr F ρ m _ Z _ S E h fun vs H1 ⟨P1, F1, m1, ds1, S1, t1, dv, z⟩ => ?_
  exact q' σ H1 P1 F1 ρ m1 vs ds1 Q R S1 dv z fun v H' z => k v H' (z.te t1)
theorem Dn.sqT {s : Bool} {K : PySem.W.Frag} {F : List Addr} {G H : Hp} {v : V} {ds : List D} (hG : ∀ a o, G a = some o → H a = some o) (h : Dn s K F G v (.tup ds)) : ∃ a vs, v = .ref a ∧ SqT K H a vs ∧ vs.length = ds.length ∧ DnA s K F G vs ds := by
  cases h with
  | tup h r => exact ⟨_, _, rfl, (h.mono fun a xs => hG a _).sq, r.length, r⟩
theorem Dn.sqL {s : Bool} {K : PySem.W.Frag} {F : List Addr} {G H : Hp} {v : V} {ds : List D} (hG : ∀ a o, G a = some o → H a = some o) (h : Dn s K F G v (.lst ds)) : ∃ a vs, v = .ref a ∧ SqL K H a vs ∧ vs.length = ds.length ∧ DnA s K F G vs ds := by
  cases h with
  | lst h r => exact ⟨_, _, rfl, (h.mono hG).sq, r.length, r⟩
def gLen : List D → (D → Prop) → Prop
  | [.lst xs], Q | [.tup xs], Q => Q (.int xs.length)
  | [.str z], Q => z.length ≤ sizeLine ∧ Q (.int z.length)
  | _, _ => False
theorem ca_len : CaOk X C .w (.builtin "len") gLen := by
  refine ⟨_, call_len_seq.or call_len_str, fun σ H Pr F ρ m vs ds Q R S dv q k => ?_⟩
  have dv : DnA false X.K F (wv F H) vs ds := dv
  unfold gLen at q
  split at q
  · cases dv with
    | cons h r =>
      cases r
      obtain ⟨a, us, rfl, hs, hl, _⟩ := h.sqL (fun _ _ => wv_le)
      refine .inl ⟨a, us, rfl, .inl hs, ?_⟩
      rw [hl]
      exact k _ _ (post_here S (.int _) (fun _ h => nomatch h) q)
  · cases dv with
    | cons h r =>
      cases r
      obtain ⟨a, us, rfl, hs, hl, _⟩ := h.sqT (fun _ _ => wv_le)
      refine .inl ⟨a, us, rfl, .inr hs, ?_⟩
      rw [hl]
      exact k _ _ (post_here S (.int _) (fun _ h => nomatch h) q)
  · cases dv with
    | cons h r =>
      cases r
      cases h
      exact .inr ⟨_, rfl, q.1, k _ _ (post_here S (.int _) (fun _ h => nomatch h) q.2)⟩
  · exact q.elim
def gI1 (f : Int → Int) : List D → (D → Prop) → Prop
  | [.int i], Q => Q (.int (f i))
  | _, _ => False
def gI2 (f : Int → Int → Int) : List D → (D → Prop) → Prop
  | [.int i, .int j], Q => Q (.int (f i j))
  | _, _ => False
theorem ca_I1 {f : Value} {g : Int → Int} (h : CallR X f (fun xs H Q => ∃ i, xs = [.int i] ∧ Q (.int (g i)) H)) : CaOk X C .w f (gI1 g) := by
  refine ⟨_, h, fun σ H Pr F ρ m vs ds Q R S dv q k => ?_⟩
  have dv : DnA false X.K F (wv F H) vs ds := dv
  unfold gI1 at q
  split at q
  · cases dv with
    | cons h r =>
      cases r
      cases h
      exact ⟨_, rfl, k _ _ (post_here S (.int _) (fun _ h => nomatch h) q)⟩
  · exact q.elim
theorem ca_I2 {f : Value} {g : Int → Int → Int} (h : CallR X f (fun xs H Q => ∃ i j, xs = [.int i, .int j] ∧ Q (.int (g i j)) H)) : CaOk X C .w f (gI2 g) := by
  refine ⟨_, h, fun σ H Pr F ρ m vs ds Q R S dv q k => ?_⟩
  have dv : DnA false X.K F (wv F H) vs ds := dv
  unfold gI2 at q
  split at q
  · cases dv with
    | cons h r =>
      cases r with
      | cons h' r =>
        cases r
        cases h
        cases h'
        exact ⟨_, _, rfl, k _ _ (post_here S (.int _) (fun _ h => nomatch h) q)⟩
  · exact q.elim
def iabs (i : Int) : Int := if i < 0 then -i else i
def imax (i j : Int) : Int := if j > i then j else i
def imin (i j : Int) : Int := if j < i then j else i
theorem ca_abs : CaOk X C .w (.builtin "abs") (gI1 iabs) := ca_I1 call_abs
theorem ca_max (hc : X.calm = true) : CaOk X C .w (.builtin "max") (gI2 imax) := ca_I2 (call_max2 hc)
theorem ca_min (hc : X.calm = true) : CaOk X C .w (.builtin "min") (gI2 imin) := ca_I2 (call_min2 hc)
def gInt : List D → (D → Prop) → Prop
  | [.int i], Q => Q (.int i)
  | [.bl b], Q => Q (.int (if b then 1 else 0))
  | _, _ => False
/-- a new list of strong items -/
theorem post_new {K : PySem.W.Frag} {Pr : Addr → Prop} {F : List Addr} {H : Hp} {σ : L2.St} {ρ : En} {m : C.W.M} {Q : D → C.W.M → Prop} {p : Addr} {vs : List V} {ds : List D} (S : SR K C Pr F σ ρ m H) (hp : H p = none) (dv : DnA true K F (sv C.H0 Pr H) vs ds) (q : Q (.lst ds) m) :
    Post K C .f Pr F H σ ρ Q (.ref p) (upd H p (.lst vs)) := by
  obtain ⟨S2, t2⟩ := S.new1 (o := .lst vs) hp
  have np := S.np hp
  have dv2 : DnA true K F (sv C.H0 Pr (upd H p (.lst vs))) vs ds := DnA.mono t2.pre (sv_tr t2.toTr S.prs) dv
  exact ⟨Pr, F, m, .lst ds, S2, t2, ⟨.lst (vw_iff.mpr ⟨upd_same, .inr ⟨trivial, np, S.h0n hp⟩⟩) dv2, fun ds' e => by cases e; exact ⟨p, vs, rfl, hp, np, upd_same, dv2⟩⟩, q⟩
theorem post_newT {K : PySem.W.Frag} {Pr : Addr → Prop} {F : List Addr} {H : Hp} {σ : L2.St} {ρ : En} {m : C.W.M} {Q : D → C.W.M → Prop} {p : Addr} {vs : List V} {ds : List D} (S : SR K C Pr F σ ρ m H) (hp : H p = none) (dv : DnA true K F (sv C.H0 Pr H) vs ds) (q : Q (.tup ds) m) :
    Post K C .f Pr F H σ ρ Q (.ref p) (upd H p (.tup vs)) := by
  obtain ⟨S2, t2⟩ := S.new1 (o := .tup vs) hp
  exact ⟨Pr, F, m, .tup ds, S2, t2, dv_flat S2 (.tup (.inl (vw_iff.mpr ⟨upd_same, .inl trivial⟩)) (DnA.mono t2.pre (sv_tr t2.toTr S.prs) dv)) (fun _ h => nomatch h), q⟩
/-- weak items without lists are strong -/
theorem DnA.up {K : PySem.W.Frag} {Pr : Addr → Prop} {F : List Addr} {H : Hp} {vs : List V} {ds : List D} (h : DnA false K F (wv F H) vs ds) (n : D.nls ds = true) : DnA true K F (sv C.H0 Pr H) vs ds :=
  h.flat ⟨[], by simp⟩ (fun a o i q => vw_iff.mpr ⟨wv_le q, .inl i⟩) n
theorem Dn.up {K : PySem.W.Frag} {Pr : Addr → Prop} {F : List Addr} {H : Hp} {v : V} {d : D} (h : Dn false K F (wv F H) v d) (n : d.nl = true) : Dn true K F (sv C.H0 Pr H) v d :=
  h.flat ⟨[], by simp⟩ (fun a o i q => vw_iff.mpr ⟨wv_le q, .inl i⟩) n
/-- list(x), tuple(x) of what is looked at: without lists within -/
def gSeq (mk : List D → D) : List D → (D → Prop) → Prop
  | [.lst xs], Q | [.tup xs], Q => D.nls xs = true ∧ Q (mk xs)
  | _, _ => False
theorem ca_list : CaOk X C .w (.type "list") (gSeq .lst) := by
  refine ⟨_, call_list_of, fun σ H Pr F ρ m vs ds Q R S dv q k => ?_⟩
  have dv : DnA false X.K F (wv F H) vs ds := dv
  unfold gSeq at q
  split at q
  · cases dv with
    | cons h r =>
      cases r
      obtain ⟨a, us, rfl, hs, hl, hd⟩ := h.sqL (fun _ _ => wv_le)
      exact ⟨a, us, rfl, .inl hs, fun l hl => k _ _ (post_new S hl (hd.up q.1) q.2)⟩
  · cases dv with
    | cons h r =>
      cases r
      obtain ⟨a, us, rfl, hs, hl, hd⟩ := h.sqT (fun _ _ => wv_le)
      exact ⟨a, us, rfl, .inr hs, fun l hl => k _ _ (post_new S hl (hd.up q.1) q.2)⟩
  · exact q.elim
theorem ca_tuple : CaOk X C .w (.type "tuple") (gSeq .tup) := by
  refine ⟨_, call_tuple_of, fun σ H Pr F ρ m vs ds Q R S dv q k => ?_⟩
  have dv : DnA false X.K F (wv F H) vs ds := dv
  unfold gSeq at q
  split at q
  · cases dv with
    | cons h r =>
      cases r
      obtain ⟨a, us, rfl, hs, hl, hd⟩ := h.sqL (fun _ _ => wv_le)
      exact ⟨a, us, rfl, .inl ⟨hs, fun l hl => k _ _ (post_newT S hl (hd.up q.1) q.2)⟩⟩
  · cases dv with
    | cons h r =>
      cases r
      have hs := Dn.up (C := C) (Pr := Pr) h q.1
      obtain ⟨a, us, rfl, hs', hl, hd⟩ := h.sqT (fun _ _ => wv_le)
      exact ⟨a, us, rfl, .inr ⟨hs', k _ _ (post_here S hs (fun _ h => nomatch h) q.2)⟩⟩
  · exact q.elim
/-- isinstance of a built-in type -/
def D.ty : D → Option String
  | .non => some "NoneType" | .bl _ => some "bool" | .int _ => some "int" | .str _ => some "str" | .tup _ => some "tuple" | .lst _ => some "list" | .hnd _ => none | .dic => some "dict" | .exc _ => none | .fn _ => none | .ptr _ => none
def isiB (t T : String) : Bool := t == T || (t == "bool" && T == "int")
def IsiT (T : String) : Prop := ∀ t ∈ ["NoneType", "bool", "int", "str", "tuple", "list", "dict"], kitB t T = some (isiB t T)
theorem ty_of {K : PySem.W.Frag} {F : List Addr} {G H : Hp} {v : V} {d : D} (hG : ∀ a o, G a = some o → H a = some o) (h : Dn false K F G v d) {t : String} (e : d.ty = some t) : TyX K H v (.type t) := by
  cases h with
  | non => cases e; exact .base .non
  | bl b => cases e; exact .base (.bl b)
  | int i => cases e; exact .base (.int i)
  | str x => cases e; exact .base (.str x)
  | hnd h => cases e
  | exc h _ => cases e
  | fn h => cases e
  | ptr => cases e
  | dic h => cases e; exact .base (.dK (hG _ _ h))
  | tup h r =>
    cases e
    rcases h with h | ⟨o, its, n, h, c, _⟩
    · exact .base (.tup (hG _ _ h))
    · exact .kTuple h c
  | lst h r =>
    cases e
    rcases h with (h | ⟨o, h⟩) | ⟨o, its, n, h, c, _⟩
    · exact .base (.lst (hG _ _ h))
    · exact .base (.frz (hG _ _ h))
    · exact .kList h c
def dIsi {M : Type} (T : String) (t : DT M) : DT M := fun ρ m Q Z => t ρ m (fun d m1 => match d.ty with | some ty => Q (.bl (isiB ty T)) m1 | none => False) Z
theorem j_isi {T : String} {x : Str} {p p2 : Pos} {t : DT C.W.M} (hT : IsiT T) (ha : J .w X C a t) (mi : X.mg "isinstance" = none) (mx : X.mg x = none) (hv : bootBuiltins x = some (.type T)) (gi : Gl X "isinstance" := by rfl) (gx : Gl X x := by rfl) (hn : x ≠ "__name__" := by decide) (hdb : (x == ("__debug__" : Str)) = false := by decide)
    (he : starEach [a, .Name x p2] X.env = (false, eval a X.env) :: starEach [.Name x p2] X.env := by rfl) (hpl : (backTo pos (starEach [.Name x p2] X.env)).any (·.1) = false := by rfl) :
    J .f X C (.Call (.Name "isinstance" p) [a, .Name x p2] [] pos) (dIsi T t) := by
  obtain ⟨te, pa, q⟩ := ha
  refine ⟨_, pe_callB call_isi gi mi (by decide +kernel) (pa_cons pa (pa_cons (pe_bltn gx mx hv (v := .ty T) rfl hn hdb) pa_nil) he) (by decide) (by decide) he hpl, fun σ H Pr F ρ m Q Z R S E h k => ?_⟩
  refine q σ H Pr F ρ m _ Z _ S E h fun v H1 ⟨P1, F1, m1, d, S1, t1, dv, z⟩ => ?_
  try dsimp only at z
  split at z
  · rename_i ty e
    refine ⟨v, .ty T, .type ty, .type T, _, rfl, .ty T, ty_of (fun _ _ => wv_le) dv e, kit_ty (hT ty ?_), k _ _ ((post_here (d := .bl (isiB ty T)) S1 (.bl _) (fun _ h => nomatch h) z).te t1)⟩
    cases d <;> first | (cases e; simp) | cases e
  · exact z.elim
theorem isi_tuple : IsiT "tuple" := by unfold IsiT; decide +kernel
theorem isi_str : IsiT "str" := by unfold IsiT; decide +kernel

/-! ### places and slices -/
/-- x[i]; k: the items are without lists -/
def gIx (n : Bool) : G2 := fun x y Q => match x, y with
  | .lst ds, .int i | .tup ds, .int i => (match atI ds i with | some d => (n = true → d.nl = true) ∧ Q d | none => False)
  | .str z, .int i => z.length ≤ sizeLine ∧ (match atI z.cps.toList i with | some c => Q (.str ⟨#[c]⟩) | none => False)
  | _, _ => False
theorem atI_dn {s : Bool} {K : PySem.W.Frag} {F : List Addr} {G : Hp} {vs : List V} {ds : List D} {i : Int} {d : D} (h : DnA s K F G vs ds) (e : atI ds i = some d) : ∃ v, atI vs i = some v ∧ Dn s K F G v d := by
  unfold atI at e ⊢
  rw [h.length]
  cases q : ixN ds.length i with
  | none => rw [q] at e; cases e
  | some j =>
    rw [q] at e
    exact h.getD (by simpa using e)
theorem ix_core {n sb : Bool} {K : PySem.W.Frag} {F : List Addr} {G H : Hp} {v w : V} {d d2 : D} {R : VK} {Q : D → Prop} (hG : ∀ a o, G a = some o → H a = some o) (dv : Dn sb K F G v d) (dw : w = .int 0 ∨ ∀ i, d2 = .int i → w = .int i)
    (hw : ∀ i, d2 = .int i → w = .int i) (q : gIx n d d2 Q) (fin : ∀ v' d', Dn sb K F G v' d' → (n = true → d'.nl = true) → Q d' → R v' H) : rIx K v w H R := by
  unfold gIx at q
  split at q
  · split at q
    · rename_i e
      cases dv with
      | lst hl hr =>
        obtain ⟨v', e', r'⟩ := atI_dn hr e
        exact .inl ⟨_, _, _, v', rfl, hw _ rfl, (hl.mono hG).sq, e', fin _ _ r' q.1 q.2⟩
    · exact q.elim
  · split at q
    · rename_i e
      cases dv with
      | tup hl hr =>
        obtain ⟨v', e', r'⟩ := atI_dn hr e
        exact .inr (.inl ⟨_, _, _, v', rfl, hw _ rfl, (hl.mono fun a xs => hG a _).sq, e', fin _ _ r' q.1 q.2⟩)
    · exact q.elim
  · obtain ⟨hz, q⟩ := q
    split at q
    · rename_i c e
      cases dv
      exact .inr (.inr ⟨_, _, c, rfl, hw _ rfl, hz, e, fin _ (.str ⟨#[c]⟩) (.str _) (fun _ => rfl) q⟩)
    · exact q.elim
  · exact q.elim
theorem j_ix {ta tb : DT C.W.M} (ha : J .s X C a ta) (hb : J .w X C b tb) (hs : PlainIx b := by exact fun _ _ => rfl) : J .s X C (.Subscript a b pos) (dBin (gIx false) ta tb) := by
  obtain ⟨te, p, q1⟩ := ha
  obtain ⟨te', p', q2⟩ := hb
  refine ⟨_, pe_ix ix_seq p p' hs, fun σ H Pr F ρ m Q Z R S E h k => ?_⟩
  refine q1 σ H Pr F ρ m _ Z _ S E h fun v H1 ⟨P1, F1, m1, d, S1, t1, dv, z⟩ => ?_
  refine q2 σ H1 P1 F1 ρ m1 _ Z _ S1 (E.te t1.toTr) z fun w H2 ⟨P2, F2, m2, d2, S2, t2, dv2, z2⟩ => ?_
  have dv2 : Dn false X.K F2 (wv F2 H2) w d2 := dv2
  have hw : ∀ i, d2 = .int i → w = .int i := fun i e => by rw [e] at dv2; exact dv2.toInt
  exact ix_core (fun _ _ => sv_le) (Dn.tr (H0 := C.H0) t2.toTr S1.prs dv) (.inr hw) hw z2 fun v' d' h _ q => k _ _ ⟨P2, F2, m2, d', S2, t1.trans t2, h, q⟩
/-- .. of what is only looked at -/
theorem j_ixw {ta tb : DT C.W.M} (ha : J .w X C a ta) (hb : J .w X C b tb) (hs : PlainIx b := by exact fun _ _ => rfl) : J .s X C (.Subscript a b pos) (dBin (gIx true) ta tb) := by
  obtain ⟨te, p, q1⟩ := ha
  obtain ⟨te', p', q2⟩ := hb
  refine ⟨_, pe_ix ix_seq p p' hs, fun σ H Pr F ρ m Q Z R S E h k => ?_⟩
  refine q1 σ H Pr F ρ m _ Z _ S E h fun v H1 ⟨P1, F1, m1, d, S1, t1, dv, z⟩ => ?_
  refine q2 σ H1 P1 F1 ρ m1 _ Z _ S1 (E.te t1.toTr) z fun w H2 ⟨P2, F2, m2, d2, S2, t2, dv2, z2⟩ => ?_
  have dv2 : Dn false X.K F2 (wv F2 H2) w d2 := dv2
  have hw : ∀ i, d2 = .int i → w = .int i := fun i e => by rw [e] at dv2; exact dv2.toInt
  exact ix_core (fun _ _ => wv_le) (Dn.te t2 dv) (.inr hw) hw z2 fun v' d' h n q => k _ _ ⟨P2, F2, m2, d', S2, t1.trans t2, h.up (n rfl), q⟩
/-- a part of a slice -/
abbrev DTO (M : Type) := En → M → (Option Int → M → Prop) → (Str → M → Prop) → Prop
def JO (X : Cx) (C : Cn) (e : Option Expr) (t : DTO C.W.M) : Prop := ∃ te, PO X e te ∧
  ∀ σ H Pr F ρ m Q Z (R : Option Int → Hp → Prop), SR X.K C Pr F σ ρ m H → Ex X C Pr F H σ ρ Z → t ρ m Q Z → (∀ o H', (∃ Pr' F' m', SR X.K C Pr' F' σ ρ m' H' ∧ Te Pr F H Pr' F' H' ∧ Q o m') → R o H') → te σ H R
def dONone {M : Type} : DTO M := fun _ m Q _ => Q none m
def dOSome {M : Type} (t : DT M) : DTO M := fun ρ m Q Z => t ρ m (fun d m1 => match d with | .int i => Q (some i) m1 | _ => False) Z
theorem jo_none : JO X C none dONone := ⟨_, po_none, fun σ H Pr F ρ m Q Z R S E h k => k _ _ ⟨Pr, F, m, S, Te.refl, h⟩⟩
theorem jo_some {t : DT C.W.M} (h : J .w X C e t) : JO X C (some e) (dOSome t) := by
  obtain ⟨te, p, q⟩ := h
  refine ⟨_, po_some p, fun σ H Pr F ρ m Q Z R S E h k => ?_⟩
  refine q σ H Pr F ρ m _ Z _ S E h fun v H1 ⟨P1, F1, m1, d, S1, t1, dv, z⟩ => ?_
  have dv : Dn false X.K F1 (wv F1 H1) v d := dv
  try dsimp only at z
  split at z
  · exact ⟨_, dv.toInt, k _ _ ⟨P1, F1, m1, S1, t1, z⟩⟩
  · exact z.elim
def cutD (xs : List D) (lo hi : Option Int) : List D := (xs.drop (HT.sIx xs.length 0 lo)).take (HT.sIx xs.length xs.length hi - HT.sIx xs.length 0 lo)
theorem cut_dn {s : Bool} {K : PySem.W.Frag} {F : List Addr} {G : Hp} {vs : List V} {ds : List D} {lo hi : Option Int} (h : DnA s K F G vs ds) : DnA s K F G (cutV vs lo hi) (cutD ds lo hi) := by
  unfold cutV cutD
  rw [h.length]
  exact (h.drop _).take _
/-- x[lo:hi] of a list or a tuple whose items are without lists -/
def dSl {M : Type} (t : DT M) (lo hi : DTO M) : DT M := fun ρ m Q Z => t ρ m (fun x m1 => lo ρ m1 (fun l m2 => hi ρ m2 (fun u m3 => match x with
  | .lst ds => D.nls ds = true ∧ Q (.lst (cutD ds l u)) m3
  | .tup ds => D.nls ds = true ∧ Q (.tup (cutD ds l u)) m3
  | _ => False) Z) Z) Z
theorem nls_all : ∀ {ds : List D}, D.nls ds = true ↔ ∀ d ∈ ds, d.nl = true
  | [] => by simp [D.nls]
  | d :: ds => by rw [D.nls, Bool.and_eq_true, nls_all]; simp
theorem nls_sub {ds es : List D} (h : D.nls ds = true) (s : ∀ d ∈ es, d ∈ ds) : D.nls es = true := nls_all.mpr fun d hd => nls_all.mp h d (s d hd)
theorem nls_cut {ds : List D} {l u : Option Int} (h : D.nls ds = true) : D.nls (cutD ds l u) = true := nls_sub h fun d hd => List.mem_of_mem_drop (List.mem_of_mem_take hd)
theorem j_sl {lo hi : Option Expr} {t : DT C.W.M} {tl th : DTO C.W.M} {p2 : Pos} (ha : J .w X C e t) (hl : JO X C lo tl) (hh : JO X C hi th) : J .f X C (.Subscript e (.Slice lo hi none p2) pos) (dSl t tl th) := by
  obtain ⟨te, p, q1⟩ := ha
  obtain ⟨te', p', q2⟩ := hl
  obtain ⟨te'', p'', q3⟩ := hh
  refine ⟨_, pe_slice (sl_list.or sl_tupA) p p' p'', fun σ H Pr F ρ m Q Z R S E h k => ?_⟩
  refine q1 σ H Pr F ρ m _ Z _ S E h fun v H1 ⟨P1, F1, m1, d, S1, t1, dv, z⟩ => ?_
  refine q2 σ H1 P1 F1 ρ m1 _ Z _ S1 (E.te t1.toTr) z fun l H2 ⟨P2, F2, m2, S2, t2, z2⟩ => ?_
  refine q3 σ H2 P2 F2 ρ m2 _ Z _ S2 (E.te (t1.trans t2).toTr) z2 fun u H3 ⟨P3, F3, m3, S3, t3, z3⟩ => ?_
  have dv : Dn false X.K F3 (wv F3 H3) v d := Dn.te (t2.trans t3) dv
  have t4 := t1.trans (t2.trans t3)
  try dsimp only at z3
  split at z3
  · obtain ⟨a, us, rfl, hs, hl, hd⟩ := dv.sqL (fun _ _ => wv_le)
    exact .inl ⟨a, us, rfl, hs, fun p hp => k _ _ ((post_new S3 hp (cut_dn hd |>.up (nls_cut z3.1)) z3.2).te t4)⟩
  · have hst := Dn.up (C := C) (Pr := P3) dv z3.1
    generalize hds : (D.tup _) = dd at hst
    cases hds
    obtain ⟨a, us, rfl, hs, hl, hd⟩ := dv.sqT (fun _ _ => wv_le)
    refine .inr ⟨a, us, rfl, hs, fun w => ?_, fun _ p hp => k _ _ ((post_newT S3 hp (cut_dn hd |>.up (nls_cut z3.1)) z3.2).te t4)⟩
    have e : ∀ {ds : List D}, us.length = ds.length → cutD ds l u = ds := fun {ds} hl => by
      unfold cutD
      rw [← hl, w.1, w.2, List.drop_zero, Nat.sub_zero, hl, List.take_length]
    rw [e hl] at z3
    exact k _ _ ((post_here S3 hst (fun _ h => nomatch h) z3.2).te t4)
  · exact z3.elim
end
end RR

/-! RM: a tuple times 1, 0 or less -/
namespace RR
open PySem PySem.Spec PyProof.Rows L2
/-- few: an empty one -/
theorem tup_mul0 (l : Addr) (xs : Array Value) (n : Nat) (dd : Option Addr) (sl : Array (Option Value)) (x : Int) (u : Tok) (h0 : x ≤ 0) (hl : -(2 ^ 63) ≤ x) (ne : xs.isEmpty = false) :
    Meets (Builtin.«tuple.__mul__» ⟨[.ref l, .int x u], []⟩) (fun _ R s => s.heap.get? l = some ⟨.type "tuple", dd, .seq xs n, sl⟩ ∧ R (.ok (.ret (.ref s.heap.objs.size))) { s with heap := s.heap.push { cls := .type "tuple", data := .seq #[] }, toks := s.toks }) := by
  refine .of_wp fun prog w A R s h => ?_
  obtain ⟨hp, g, d, tk, os⟩ := s
  obtain ⟨at_, h⟩ := h
  have q0 : (decide (x < -(2 ^ 63)) || decide (x ≥ 2 ^ 63)) = false := by rw [decide_eq_false (by omega), decide_eq_false (by omega)]; rfl
  have q1 : (xs.isEmpty || x == 1) = false := by rw [ne, Bool.false_or]; exact beq_eq_false_iff_ne.mpr (by omega)
  have q2 : (decide (x ≤ 0) || xs.isEmpty) = true := by rw [decide_eq_true h0]; rfl
  have f1 := AutoSeq1.idx_int
  wp_walk using wpAny_loadPart' at_
  repeat (first
    | (refine wpAny_ite_false (decide_eq_false (fun z => Bool.false_ne_true (q0.symm.trans z))) ?_; wp_walk using wpAny_loadPart' at_)
    | (refine wpAny_ite_false (decide_eq_false (fun z => Bool.false_ne_true (q1.symm.trans z))) ?_; wp_walk using wpAny_loadPart' at_)
    | (refine wpAny_ite_true (decide_eq_true q2) ?_; wp_walk using wpAny_loadPart' at_)
    | exact ⟨_, rfl, h⟩)
/-- once: the same -/
theorem tup_mul1 (l : Addr) (xs : Array Value) (n : Nat) (dd : Option Addr) (sl : Array (Option Value)) (u : Tok) :
    Meets (Builtin.«tuple.__mul__» ⟨[.ref l, .int 1 u], []⟩) (fun _ R s => s.heap.get? l = some ⟨.type "tuple", dd, .seq xs n, sl⟩ ∧ R (.ok (.ret (.ref l))) s) := by
  refine .of_wp fun prog w A R s h => ?_
  obtain ⟨hp, g, d, tk, os⟩ := s
  obtain ⟨at_, h⟩ := h
  have q0 : (decide ((1 : Int) < -(2 ^ 63)) || decide ((1 : Int) ≥ 2 ^ 63)) = false := by decide
  have q1 : (xs.isEmpty || (1 : Int) == 1) = true := by simp
  have f1 := AutoSeq1.idx_int
  wp_walk using wpAny_loadPart' at_
  repeat (first
    | (refine wpAny_ite_false (decide_eq_false (fun z => Bool.false_ne_true (q0.symm.trans z))) ?_; wp_walk using wpAny_loadPart' at_)
    | (refine wpAny_ite_true (decide_eq_true q1) ?_; wp_walk using wpAny_loadPart' at_)
    | exact ⟨_, rfl, h⟩)
def rRepF (K : PySem.W.Frag) : R2 := fun x y H Q => ∃ l k xs, x = .ref l ∧ y = .int k ∧ SqT K H l xs ∧ xs ≠ [] ∧ -(2 ^ 63) ≤ k ∧ ((k ≤ 0 ∧ ∀ p, H p = none → Q (.ref p) (upd H p (.tup []))) ∨ (k = 1 ∧ Q (.ref l) H))
theorem op_repF {X : Cx} : OpR X (binaryOp .Mult) (rRepF X.K) := by
  intro pins s σ H x y v u Q I rx ry h
  obtain ⟨l, k, xs, rfl, rfl, sq, ne, kl, h⟩ := h
  cases rx
  obtain ⟨t, rfl⟩ := ry
  obtain ⟨its, r, ⟨⟨cls, dd, data, sl⟩, at_, hc, n, hd⟩, hs⟩ := I.tuple sq
  simp only at hc hd
  subst hc
  subst hd
  have full : its.toArray.isEmpty = false := by
    cases its with
    | nil => cases r; exact absurd rfl ne
    | cons a b => rfl
  rcases h with ⟨k0, q⟩ | ⟨rfl, q⟩
  · have mul := tup_mul0 l its.toArray n dd sl k t k0 kl full
    refine wpAny_binaryOp_repeat_ref (T := "tuple") (U := "int") (by decide) ⟨_, at_, rfl⟩ (fun s' => typeIs_int s' k t) noFill_tuple_mul F.fills_int_mul F.slot_int_rmul repeat_tuple F.slot_int_index.lookup ?_
    refine call_meets F.slot_int_rmul (typeIs_int s k t) F.entry_int_rmul (F.args_int_rmul_2 _ _) (int_rmul_tuple k t l its.toArray n dd sl) ⟨at_, rfl, ⟨_, at_, rfl⟩, ?_⟩
    refine call_meets F.slot_tuple_mul ⟨_, at_, rfl⟩ F.entry_tuple_mul (F.args_tuple_mul_2 _ _) mul ⟨at_, ?_⟩
    exact ⟨.ref s.heap.objs.size, _, I.laid (t' := s.toks) (o := .tup []) (fun b ob q => Heap.get?_push_of_some _ q) (Nat.le_refl _) ⟨Nat.zero_le _, [], .nil, IsTup.new _ _⟩, rfl, q _ (I.hok.fresh (Nat.le_refl _))⟩
  · have mul := tup_mul1 l its.toArray n dd sl t
    refine wpAny_binaryOp_repeat_ref (T := "tuple") (U := "int") (by decide) ⟨_, at_, rfl⟩ (fun s' => typeIs_int s' 1 t) noFill_tuple_mul F.fills_int_mul F.slot_int_rmul repeat_tuple F.slot_int_index.lookup ?_
    refine call_meets F.slot_int_rmul (typeIs_int s 1 t) F.entry_int_rmul (F.args_int_rmul_2 _ _) (int_rmul_tuple 1 t l its.toArray n dd sl) ⟨at_, rfl, ⟨_, at_, rfl⟩, ?_⟩
    refine call_meets F.slot_tuple_mul ⟨_, at_, rfl⟩ F.entry_tuple_mul (F.args_tuple_mul_2 _ _) mul ⟨at_, ?_⟩
    exact ⟨.ref l, H, I, rfl, q⟩
end RR

/-! REa: enumerate of a tuple -/
namespace RR
open PySem PyProof.Rows
open PySem.AutoSeq1 (wpAny_loadPart')
theorem draws_tuple {prog : Program} {w : World} {A : Around} (hh : A.handled = none) (it l : Addr) (hne : l ≠ it) (items : Array Value) :
    Draws prog w A it [it, l] items.size (fun i v => items[i]? = some v) (fun i h => h.IsTupleIter it l i ∧ h.IsTuple l items) where
  live := fun _ _ st => let ⟨o, ho, _⟩ := st.1; ⟨o, ho⟩
  frame := fun _ _ _ st hk => ⟨st.1.at fun o e => hk it (by simp) o e, by
    obtain ⟨o, e, r⟩ := st.2
    exact ⟨o, hk l (by simp) o e, r⟩⟩
  item := fun i s Q E hi st hQ => by
    refine RZ.nextOf_tuple_item st.1 st.2 (x := items[i]) (by simp [hi]) fun h' hit' hs' => ?_
    refine hQ _ h' s.toks (by simp [hi]) ⟨hit', ?_⟩ hs'
    obtain ⟨o, e, r⟩ := st.2
    exact ⟨o, (hs'.2 l hne).trans e, r⟩
  done := fun s Q E st hE => RZ.nextOf_tuple_end hh st.1 st.2 (by simp) hE
theorem meets_enumerate_newT (l : Addr) (items : Array Value) :
    Meets (Builtin.«enumerate.__new__» ⟨[.type "enumerate", .ref l], []⟩) (fun _ R s => s.heap.IsTuple l items ∧
      R (.ok (.ret (.ref (s.heap.push { cls := .type "tuple_iterator", data := .fields #[.ref l, .int 0 0] }).objs.size)))
        { s with heap := (s.heap.push { cls := .type "tuple_iterator", data := .fields #[.ref l, .int 0 0] }).push { cls := .type "enumerate", data := .fields #[.none, .bool false, .ref s.heap.objs.size, rawInt 0, .none, .none] } }) :=
  .of_wp fun prog w A R s h => by
    obtain ⟨hp, g, d, tk, os⟩ := s; obtain ⟨hl, h⟩ := h
    have hsub := sub_enumerate
    have hL : Heap.IsTuple (Shared.heap ⟨hp, g, d, tk, os⟩) l items := hl
    wp_walk using wpAny_pyIter_tuple hL
    refine wpAny_stack_any fun st => wpAny_pure ?_
    split
    · rename_i c _ _ _ _ _
      cases (c == Value.type "enumerate")
      · wp_walk using wpAny_pyIter_tuple hL
        exact ⟨_, rfl, h⟩
      · wp_walk using wpAny_pyIter_tuple hL
        exact ⟨_, rfl, h⟩
    · wp_walk using wpAny_pyIter_tuple hL
      exact ⟨_, rfl, h⟩
section
variable {prog : Program} {w : World} {A : Around} {E : Value → Shared → Prop} {s : Shared}
theorem call_enumerate_tuple {l : Addr} {items : Array Value} {Q : Value → Shared → Prop} (hL : s.heap.IsTuple l items)
    (h : ∀ h', IsEnum h' (s.heap.objs.size + 1) s.heap.objs.size 0 .none → h'.IsTupleIter s.heap.objs.size l 0 → h'.objs.size = s.heap.objs.size + 2 →
      (∀ b o, s.heap.get? b = some o → h'.get? b = some o) → Q (.ref (s.heap.objs.size + 1)) { s with heap := h' }) :
    wpAny (model prog w) A (call (.type "enumerate") [.ref l]) Q E s := by
  refine callType_new F.called_enumerate (by decide) (F.typeCall_enumerate_1 _) (F.newCall_enumerate_1 _) (fun obj => F.args_object_init_2 obj _) F.entry_enumerate_new
    (meets_enumerate_newT l items) ⟨hL, ?_⟩
  have hz : (s.heap.push { cls := .type "tuple_iterator", data := .fields #[.ref l, .int 0 0] }).objs.size = s.heap.objs.size + 1 := Heap.size_push ..
  show _ ∧ _
  rw [hz]
  have he : IsEnum ((s.heap.push { cls := .type "tuple_iterator", data := .fields #[.ref l, .int 0 0] }).push
      { cls := .type "enumerate", data := .fields #[.none, .bool false, .ref s.heap.objs.size, rawInt 0, .none, .none] }) (s.heap.objs.size + 1) s.heap.objs.size 0 .none := by
    have := Heap.get?_push_size (s.heap.push { cls := .type "tuple_iterator", data := .fields #[.ref l, .int 0 0] })
      (o := { cls := .type "enumerate", data := .fields #[.none, .bool false, .ref s.heap.objs.size, rawInt 0, .none, .none] }) rfl
    rw [hz] at this; exact this
  refine ⟨⟨_, he, rfl⟩, h _ he ⟨_, Heap.get?_push_of_some _ (Heap.get?_push_size _ rfl), rfl, rfl⟩ (by rw [Heap.size_push, hz]) fun b o x => Heap.get?_push_of_some _ (Heap.get?_push_of_some _ x)⟩
end
open PySem.Spec L2
/-- the tuple at a, each item in a new pair -/
def IteT (K : PySem.W.Frag) (a : Addr) : It :=
  ⟨fun i H => ∃ (xs : List V) (x : V), SqT K H a xs ∧ xs[i]? = some x, fun i H v H' => ∃ T x, v = .ref T ∧ H T = none ∧ H' = upd H T (.tup [.int (i : Nat), x]) ∧ ∀ xs, SqT K H a xs → xs[i]? = some x, fun i H => ∃ xs : List V, SqT K H a xs ∧ xs.length ≤ i⟩
theorem turn_enumT {P : Program} {w : World} {K : PySem.W.Frag} {elts : List Expr} {kk : Nat} {tpos : Pos} (a e it : Addr) :
    Turn P w K (.Tuple elts kk tpos) (IteT K a) [e, it] e (fun i h => (∃ old, IsEnum h e it ((i : Nat) : Int) old) ∧ h.IsTupleIter it a i ∧ e ≠ it) where
  mem := by simp
  obj := fun i h st b hb => by
    obtain ⟨⟨old, he⟩, ⟨o, ho, hc, hd⟩, _⟩ := st
    have e' : b = e ∨ b = it := by simpa using hb
    rcases e' with z | z
    · rw [z]; exact ⟨_, he, fun v q => nomatch q⟩
    · rw [z]; exact ⟨o, ho, fun v q => by rw [hd] at q; cases q⟩
  keep := fun i h h' st k => let ⟨⟨old, he⟩, hi, hne⟩ := st; ⟨⟨old, k e (by simp) _ he⟩, hi.at fun o q => k it (by simp) o q, hne⟩
  item := by
    intro X hP hw hK hc i pins s σ H E I hf st hg
    subst hP hw hK
    obtain ⟨⟨old, he⟩, hit, hne⟩ := st
    obtain ⟨xs, x, hq, hx⟩ := hg
    obtain ⟨its, rv, p, hz⟩ := I.tuple hq
    obtain ⟨u, hu, ru⟩ := rv.get hx
    have hel : e < s.heap.objs.size := Heap.lt_size he
    have hil : it < s.heap.objs.size := by obtain ⟨_, q, _⟩ := hit; exact Heap.lt_size q
    have hai : a ≠ it := fun z => by
      obtain ⟨o, q, c, _⟩ := p
      obtain ⟨o', q', c', _⟩ := hit
      rw [z, q'] at q; cases q
      rw [c'] at c; exact absurd c (by decide)
    have hae : a ≠ e := fun z => by
      obtain ⟨o, q, c, _⟩ := p
      rw [z, he] at q; cases q
      exact absurd (show Value.type "enumerate" = Value.type "tuple" from c) (by decide)
    refine wpAny_pyNext_enum_itemD (draws_tuple (A := X.A.in1) (I.ok.hd hc) it a hai its.toArray) he ⟨hit, p⟩ (by simpa using (List.getElem?_eq_some_iff.mp hu).1) hne (fun z => by
      have e' : e = it ∨ e = a := by simpa using z
      exact e'.elim hne fun z => hae z.symm) fun y h' tk hy ho hst hT hsz hk => ?_
    have ey : y = u := by
      have hy : its.toArray[i]? = some y := hy
      rw [List.getElem?_toArray, hu] at hy
      exact (Option.some.inj hy).symm
    subst ey
    refine ⟨_, rfl, wpAny_letOwnedTupleGo_enum (s := { s with heap := h', toks := tk + 1 }) ho fun h'' he' sb => ?_⟩
    have hT2 : h''.get? s.heap.objs.size = some { cls := .type "tuple", data := .seq #[.int i tk, y] } := (sb.2 _ (Nat.ne_of_gt hel)).trans hT
    have new : ObjOk X.prog X.w (upd H s.heap.objs.size (.tup [.int (i : Nat), x])) h'' s.heap.objs.size (.tup [.int (i : Nat), x]) :=
      ⟨by show 2 ≤ sizeLine; decide, [.int i tk, y], .cons ⟨_, rfl⟩ (.cons ru .nil), ⟨_, hT2, rfl, _, rfl⟩⟩
    have I1 : Inv X pins σ (upd H s.heap.objs.size (.tup [.int (i : Nat), x])) { s with heap := h'', toks := tk + 1 } :=
      I.turnedNew (t' := tk + 1) (ch := [e, it]) (fun b ob hb q => (sb.2 b (fun z => hb (by simp [z]))).trans (hk b ob (fun z => hb (by simp [z])) (fun z => hb (by simp [z])) q)) hf (Nat.le_refl _) new
    refine ⟨.ref s.heap.objs.size, _, I1, rfl, ⟨_, x, rfl, I.hok.fresh (Nat.le_refl _), rfl, fun ys hy => by rw [I.tuple_inj hy hq]; exact hx⟩, ⟨⟨y, ?_⟩, hst.1.at fun o q => (sb.2 it (Ne.symm hne)).trans q, hne⟩, fun b hb => ?_⟩
    · have e1 : ((i + 1 : Nat) : Int) = (i : Int) + 1 := by omega
      rw [e1]; exact he'
    · have hb' : b < s.heap.objs.size := by
        have e' : b = e ∨ b = it := by simpa using hb
        rcases e' with z | z
        · rw [z]; exact hel
        · rw [z]; exact hil
      rw [upd_ne (Nat.ne_of_lt hb')]
      exact (hf b hb).1
  done := by
    intro X hP hw hK hc i pins s σ H E I hf st hg
    subst hP hw hK
    obtain ⟨⟨old, he⟩, hit, hne⟩ := st
    obtain ⟨xs, hq, hx⟩ := hg
    obtain ⟨its, rv, p, hz⟩ := I.tuple hq
    obtain ⟨f0, f1, f2, f3, f4, f5⟩ := hf it (by simp)
    have hl := rv.length
    have hT : s.TypeIs (.ref e) "enumerate" := ⟨_, he, rfl⟩
    show wpAny _ X.A (pyNext (.ref e)) _ E s
    unfold pyNext
    refine wpAny_bind (wpAny_attempt (wpAny_callSpecial?_slot (name := Str.ofString "__next__") hT F.slot_enumerate_next
      (wpAny_call_entry F.slot_enumerate_next hT F.entry_enumerate_next ?_ (F.args_enumerate_next_1 _))))
    show wpAny _ _ (field (.ref e) 2 >>= _) _ _ _
    refine wpAny_bind (wpAny_field he rfl (x := .ref it) rfl ?_)
    refine wpAny_bind (RZ.nextOf_tuple_end (A := X.A.in1) (I.ok.hd hc) hit p (by simp; omega) fun h' x he' hx' => ?_)
    obtain ⟨o, ho, hcx⟩ := hx'
    refine wpAny_bind (wpAny_isInstance (T := "StopIteration") (b := true) ⟨o, ho, hcx⟩ isSubtype_stop ?_)
    exact wpAny_pure ⟨rfl, I.turned (t' := s.toks) (fun b o hb q => he' b o hb q) f0 f1 f3 f4 f5⟩
  self := fun A i s Q E st h => let ⟨⟨_, he⟩, _⟩ := st; wpAny_pyIter_enum he h
/-- enumerate(x), x a list or a tuple -/
def iEnumA (K : PySem.W.Frag) (ta : TA) : TI := fun σ H R => ta σ H fun vs H1 => ∃ a xs, vs = [.ref a] ∧ ((SqL K H1 a xs ∧ R (Ite K a) H1) ∨ (SqT K H1 a xs ∧ R (IteT K a) H1))
theorem pi_enumA {X : Cx} {e : Expr} {ta : TA} {p pos tpos : Pos} {elts : List Expr} {kk : Nat} (hg : Gl X "enumerate") (hm : X.mg "enumerate" = none) (ha : PA X [e] ta) (hs : starEach [e] X.env = [(false, eval e X.env)] := by rfl) :
    PI X (.Tuple elts kk tpos) (.Call (.Name "enumerate" p) [e] [] pos) (iEnumA X.K ta) := by
  refine ⟨fun pins s σ H R I h => ?_⟩
  refine Call_ (ld_blt I hg hm boot_enumerate (PyProof.Rows.callWith_type1 (thn (ha.run pos pins s σ H _ I h) fun us s1 ⟨vs, H1, I1, r1, q1⟩ => ?_) hs rfl))
  obtain ⟨a, xs, ex, q1⟩ := q1
  subst ex
  have fin : ∀ {b : Addr}, (b = s1.heap.objs.size + 1 ∨ b = s1.heap.objs.size) → FpOk X pins H1 b := fun {b} e' => by
    have hle : s1.heap.objs.size ≤ b := by
      rcases e' with z | z
      · rw [z]; exact Nat.le_add_right _ _
      · rw [z]; exact Nat.le_refl _
    exact I1.fpOk hle (I1.hok.fresh hle)
  cases r1 with
  | cons r rr =>
    cases rr
    cases r
    rcases q1 with ⟨hq, q⟩ | ⟨hq, q⟩
    · obtain ⟨its, rv, p', hz⟩ := I1.list hq
      refine call_enumerate_list p'.isList fun h' he hit hsz hk => wpAny_pyIter_enum he ?_
      have I2 : Inv X pins σ H1 { s1 with heap := h' } := I1.kept (t' := s1.toks) hk
      exact ⟨s1.heap.objs.size + 1, [s1.heap.objs.size + 1, s1.heap.objs.size], _, _, H1, rfl, I2, turn_enum a (s1.heap.objs.size + 1) s1.heap.objs.size, ⟨⟨.none, he⟩, hit, Nat.succ_ne_self _⟩, fun b hb => fin (by simpa using hb), q⟩
    · obtain ⟨its, rv, p', hz⟩ := I1.tuple hq
      refine call_enumerate_tuple p' fun h' he hit hsz hk => wpAny_pyIter_enum he ?_
      have I2 : Inv X pins σ H1 { s1 with heap := h' } := I1.kept (t' := s1.toks) hk
      exact ⟨s1.heap.objs.size + 1, [s1.heap.objs.size + 1, s1.heap.objs.size], _, _, H1, rfl, I2, turn_enumT a (s1.heap.objs.size + 1) s1.heap.objs.size, ⟨⟨.none, he⟩, hit, Nat.succ_ne_self _⟩, fun b hb => fin (by simpa using hb), q⟩
theorem walk_enumT {K : PySem.W.Frag} {a : Addr} {xs : List V} : Walk (IteT K a) xs.length (fun H => SqT K H a xs) (YPair (fun i => some (.int (i : Nat))) (fun i => xs[i]?)) := by
  refine ⟨fun i _ hi q => ⟨xs, xs[i], q, by simp [hi]⟩, fun _ q => ⟨xs, q, Nat.le_refl _⟩, fun i H v H' _ q y => ?_⟩
  obtain ⟨T, x, h1, h2, h3, h4⟩ := y
  exact ⟨T, .int (i : Nat), x, h1, h2, h3, rfl, h4 xs q⟩
/-- a list or a tuple, walked -/
def iSeq (K : PySem.W.Frag) (tl : TE) : TI := fun σ H R => tl σ H fun x H1 => ∃ a xs, x = .ref a ∧ ((SqL K H1 a xs ∧ R (Itl K a) H1) ∨ (SqT K H1 a xs ∧ R (Itt K a) H1))
theorem pi_seq {X : Cx} {tg l : Expr} {tl : TE} (hl : PE X l tl) : PI X tg l (iSeq X.K tl) := by
  refine ⟨fun pins s σ H R I h => ?_⟩
  refine thn (hl.run pins s σ H _ I h) fun v s1 ⟨x, H1, I1, r1, q1⟩ => ?_
  obtain ⟨a, xs, e, q⟩ := q1
  subst e
  cases r1
  rcases q with ⟨hq, q⟩ | ⟨hq, q⟩
  · obtain ⟨its, rv, p, hz⟩ := I1.list hq
    refine wpAny_pyIter_list p.isList ?_
    refine ⟨s1.heap.objs.size, [s1.heap.objs.size], _, _, H1, rfl, I1.kept (t' := s1.toks) fun b o e => Heap.get?_push_of_some _ e, turn_list a _, ⟨_, Heap.get?_push_size _ rfl, rfl, rfl⟩, fun b hb => ?_, q⟩
    have e : b = s1.heap.objs.size := by simpa using hb
    subst e
    exact I1.fpOk (Nat.le_refl _) (I1.hok.fresh (Nat.le_refl _))
  · obtain ⟨its, rv, p, hz⟩ := I1.tuple hq
    refine wpAny_pyIter_tuple (show s1.heap.IsTuple a its.toArray from p) ?_
    refine ⟨s1.heap.objs.size, [s1.heap.objs.size], _, _, H1, rfl, I1.kept (t' := s1.toks) fun b o e => Heap.get?_push_of_some _ e, turn_tuple a _, ⟨_, Heap.get?_push_size _ rfl, rfl, rfl⟩, fun b hb => ?_, q⟩
    have e : b = s1.heap.objs.size := by simpa using hb
    subst e
    exact I1.fpOk (Nat.le_refl _) (I1.hok.fresh (Nat.le_refl _))
end RR

/-! RE: sums of lists, tuples, texts; what is walked; comprehensions -/
namespace RR
open PySem PySem.Spec PyProof.Rows L2

/-! ### lists that are tracked, looked at: names that own one, too -/
def JD (X : Cx) (C : Cn) (e : Expr) (t : DT C.W.M) : Prop := ∃ te, PE X e te ∧
  ∀ σ H Pr F ρ m Q Z (R : VK), SR X.K C Pr F σ ρ m H → Ex X C Pr F H σ ρ Z → t ρ m Q Z →
    (∀ v H', (∃ Pr' F' m' d, SR X.K C Pr' F' σ ρ m' H' ∧ Te Pr F H Pr' F' H' ∧ Dn true X.K F' (wv F' H') v d ∧ Q d m') → R v H') → te σ H R
section
variable {X : Cx} {C : Cn} {e a b : Expr} {pos : Pos}
theorem J.sd {t : DT C.W.M} (h : J .s X C e t) : JD X C e t := by
  obtain ⟨te, p, q⟩ := h
  exact ⟨te, p, fun σ H Pr F ρ m Q Z R S E h k => q σ H Pr F ρ m Q Z R S E h fun v H' ⟨P1, F1, m1, d, S1, t1, dv, z⟩ => k v H' ⟨P1, F1, m1, d, S1, t1, Dn.mono ⟨[], by simp⟩ S1.sv_wv dv, z⟩⟩
theorem J.fd {t : DT C.W.M} (h : J .f X C e t) : JD X C e t := h.sf.sd
theorem jd_own (i : Nat) {x : Str} (hN : X.N[i]? = some x := by rfl) (hv : Vis X.env.scope x := by first | exact Or.inl rfl | exact Or.inr (Or.inl rfl) | exact Or.inr (Or.inr rfl)) (hd : (x == ("__debug__" : Str)) = false := by decide)
    (hcd : (x == ("__classdict__" : Str)) = false := by decide) : JD X C (.Name x pos) (dOwn i) := by
  refine ⟨_, pe_var hN hv hd hcd, fun σ H Pr F ρ m Q Z R S E h k => ?_⟩
  unfold dOwn at h
  split at h
  · rename_i d e
    obtain ⟨p, vs, e1, hp, pp, nf, q⟩ := S.slot i _ e
    exact ⟨.ref p, e1, k _ _ ⟨Pr, F, m, .lst d, S, Te.refl, .lst (vw_iff.mpr ⟨hp, nf⟩) (q.mono ⟨[], by simp⟩ S.sv_wv), h⟩⟩
  · exact h.elim
theorem Dn.ted {K : PySem.W.Frag} {Pr Pr1 : Addr → Prop} {F F1 : List Addr} {H H1 : Hp} {v : V} {d : D} (t : Te Pr F H Pr1 F1 H1) (h : Dn true K F (wv F H) v d) : Dn true K F1 (wv F1 H1) v d := h.mono t.pre (wv_te t)
def OpD (X : Cx) (C : Cn) (f : Value → Value → Sem Value) (g : G2) : Prop := ∃ r, OpR X f r ∧
  ∀ σ H Pr F ρ m x y dx dy Q (R : VK), SR X.K C Pr F σ ρ m H → Dn true X.K F (wv F H) x dx → Dn true X.K F (wv F H) y dy → g dx dy (fun d => Q d m) → (∀ v H', Post X.K C .f Pr F H σ ρ Q v H' → R v H') → r x y H R
theorem j_bind {op : Operator} {g : G2} {ta tb : DT C.W.M} (o : OpD X C (binaryOp op) g) (ha : JD X C a ta) (hb : JD X C b tb) : J .f X C (.BinOp a op b pos) (dBin g ta tb) := by
  obtain ⟨r, ho, q⟩ := o
  obtain ⟨te, p, q1⟩ := ha
  obtain ⟨te', p', q2⟩ := hb
  refine ⟨_, pe_op ho p p', fun σ H Pr F ρ m Q Z R S E h k => ?_⟩
  refine q1 σ H Pr F ρ m _ Z _ S E h fun v H1 ⟨P1, F1, m1, d, S1, t1, dv, z⟩ => ?_
  refine q2 σ H1 P1 F1 ρ m1 _ Z _ S1 (E.te t1.toTr) z fun w H2 ⟨P2, F2, m2, d2, S2, t2, dv2, z2⟩ => ?_
  exact q σ H2 P2 F2 ρ m2 v w d d2 Q R S2 (dv.ted t2) dv2 z2 fun v H' z => k v H' ((z.te t2).te t1)
def gAdd : G2 := fun x y Q => match x, y with
  | .int i, .int j => Q (.int (i + j))
  | .lst xs, .lst ys => xs.length + ys.length ≤ sizeLine ∧ D.nls xs = true ∧ D.nls ys = true ∧ Q (.lst (xs ++ ys))
  | .tup xs, .tup ys => xs.length + ys.length ≤ sizeLine ∧ D.nls xs = true ∧ D.nls ys = true ∧ Q (.tup (xs ++ ys))
  | .str s, .str t => s.length + t.length ≤ sizeLine ∧ Q (.str (s ++ t))
  | _, _ => False
theorem nls_app {xs ys : List D} (h : D.nls xs = true) (h' : D.nls ys = true) : D.nls (xs ++ ys) = true := nls_all.mpr fun d hd => (List.mem_append.mp hd).elim (nls_all.mp h d) (nls_all.mp h' d)
theorem okd_add : OpD X C (binaryOp .Add) gAdd := by
  refine ⟨_, op_add.or (op_cat.or (op_catA.or op_add_str)), fun σ H Pr F ρ m x y dx dy Q R S hx hy q k => ?_⟩
  unfold gAdd at q
  split at q
  · rw [hx.toInt, hy.toInt]
    exact .inl ⟨_, _, rfl, rfl, k _ _ (post_here S (.int _) (fun _ h => nomatch h) q)⟩
  · obtain ⟨q1, q2, q3, q⟩ := q
    cases hx with
    | lst h r =>
      cases hy with
      | lst h' r' =>
        refine .inr (.inl ⟨_, _, _, _, rfl, rfl, wv_le h, wv_le h', by rw [r.length, r'.length]; exact q1, fun p hp => k _ _ (post_new S hp ?_ q)⟩)
        exact ((r.weak).app r'.weak).up (nls_app q2 q3)
  · obtain ⟨q1, q2, q3, q⟩ := q
    cases hx with
    | tup h r =>
      cases hy with
      | tup h' r' =>
        have s1 := (Dn.tup h r).weak.up (C := C) (Pr := Pr) (show D.nl (.tup _) = true from q2)
        have s2 := (Dn.tup h' r').weak.up (C := C) (Pr := Pr) (show D.nl (.tup _) = true from q3)
        refine .inr (.inr (.inl ⟨_, _, _, _, rfl, rfl, (h.mono fun a xs => wv_le).sq, (h'.mono fun a xs => wv_le).sq, by rw [r.length, r'.length]; exact q1, fun e => k _ _ ?_, fun _ e => k _ _ ?_, fun _ _ p hp => k _ _ (post_newT S hp ?_ q)⟩))
        · subst e
          cases r
          exact post_here S s2 (fun _ h => nomatch h) q
        · subst e
          cases r'
          rw [List.append_nil] at q
          exact post_here S s1 (fun _ h => nomatch h) q
        · exact ((r.weak).app r'.weak).up (nls_app q2 q3)
  · cases hx
    cases hy
    exact .inr (.inr (.inr ⟨_, _, rfl, rfl, q.1, k _ _ (post_here S (.str _) (fun _ h => nomatch h) q.2)⟩))
  · exact q.elim
def rep (k : Int) (xs : List D) : List D := (List.replicate k.toNat xs).flatten
def gMul : G2 := fun x y Q => match x, y with
  | .int i, .int j => IntMulOk i j ∧ Q (.int (i * j))
  | .lst xs, .int k => -(2 ^ 63) ≤ k ∧ k < 2 ^ 63 ∧ xs.length * k.toNat ≤ sizeLine ∧ D.nls xs = true ∧ Q (.lst (rep k xs))
  | .tup xs, .int k => xs ≠ [] ∧ -(2 ^ 63) ≤ k ∧ k ≤ 1000 ∧ xs.length ≤ 1000 ∧ D.nls xs = true ∧ Q (.tup (rep k xs))
  | _, _ => False
theorem nls_rep {xs : List D} {k : Int} (h : D.nls xs = true) : D.nls (rep k xs) = true := nls_sub h fun d hd => by
  obtain ⟨l, hl, hd⟩ := List.mem_flatten.mp hd
  rw [List.eq_of_mem_replicate hl] at hd
  exact hd
theorem okd_mul : OpD X C (binaryOp .Mult) gMul := by
  refine ⟨_, op_mulA.or (op_rep.or (op_repT.or op_repF)), fun σ H Pr F ρ m x y dx dy Q R S hx hy q k => ?_⟩
  unfold gMul at q
  split at q
  · rw [hx.toInt, hy.toInt]
    exact .inl ⟨_, _, rfl, rfl, q.1, k _ _ (post_here S (.int _) (fun _ h => nomatch h) q.2)⟩
  · obtain ⟨q1, q2, q3, q4, q⟩ := q
    cases hx with
    | lst h r =>
      refine .inr (.inl ⟨_, _, _, rfl, hy.toInt, wv_le h, q1, q2, by rw [r.length]; exact q3, fun p hp => k _ _ (post_new S hp ?_ q)⟩)
      exact ((r.weak).rep _).up (nls_rep q4)
  · rename_i xs' k'
    obtain ⟨q1, q2, q3, q4, q5, q⟩ := q
    cases hx with
    | tup h r =>
      have nn : ∀ {vs : List V}, DnA true X.K F (wv F H) vs xs' → vs ≠ [] := fun z e => q1 (by subst e; cases z; rfl)
      by_cases k1 : k' ≤ 1
      · refine .inr (.inr (.inr ⟨_, _, _, rfl, hy.toInt, (h.mono fun a xs => wv_le).sq, nn r, q2, ?_⟩))
        by_cases k0 : k' ≤ 0
        · refine .inl ⟨k0, fun p hp => k _ _ (post_newT S hp .nil ?_)⟩
          unfold rep at q
          rw [show k'.toNat = 0 by omega] at q
          exact q
        · obtain rfl : k' = 1 := by omega
          have s1 := (Dn.tup h r).weak.up (C := C) (Pr := Pr) (show D.nl (.tup _) = true from q5)
          refine .inr ⟨rfl, k _ _ (post_here S s1 (fun _ h => nomatch h) ?_)⟩
          unfold rep at q
          rw [show (1 : Int).toNat = 1 from rfl, List.replicate_one, List.flatten_cons, List.flatten_nil, List.append_nil] at q
          exact q
      · refine .inr (.inr (.inl ⟨_, _, _, rfl, hy.toInt, (h.mono fun a xs => wv_le).sq, nn r, by omega, q3, by rw [r.length]; exact q4, fun p hp => k _ _ (post_newT S hp ?_ q)⟩))
        exact ((r.weak).rep _).up (nls_rep q5)
  · exact q.elim

/-! ### what is walked -/
/-- J walks the items, as long as nothing but what Ts lets happen happens -/
def Wk (K : PySem.W.Frag) (C : Cn) (st : Bool) (Pr : Addr → Prop) (F : List Addr) (H : Hp) (items : List D) (J : It) : Prop := ∃ (G : Hp → Prop) (Y : Nat → Hp → V → Hp → Prop), Walk J items.length G Y ∧
  ∀ Pr' F' H', (if st = true then Tr Pr F H Pr' F' H' else Te Pr F H Pr' F' H') → G H' ∧ ∀ i v H2, Y i H' v H2 → (∀ a o, H' a = some o → H2 a = some o) ∧ ∃ d, items[i]? = some d ∧ Dn true K F' (sv C.H0 Pr' H2) v d
def JI (st : Bool) (X : Cx) (C : Cn) (tg iter : Expr) (t : DTA C.W.M) : Prop := ∃ wi, PI X tg iter wi ∧
  ∀ σ H Pr F ρ m Q Z (R : It → Hp → Prop), SR X.K C Pr F σ ρ m H → Ex X C Pr F H σ ρ Z → t ρ m Q Z →
    (∀ J H', (∃ Pr' F' m' items, SR X.K C Pr' F' σ ρ m' H' ∧ Te Pr F H Pr' F' H' ∧ Wk X.K C st Pr' F' H' items J ∧ Q items m') → R J H') → wi σ H R
def dSeq {M : Type} (n : Bool) (t : DT M) : DTA M := fun ρ m Q Z => t ρ m (fun d m1 => match d with | .lst ds | .tup ds => (n = true → D.nls ds = true) ∧ Q ds m1 | _ => False) Z
theorem tr_of {Pr Pr' : Addr → Prop} {F F' : List Addr} {H H' : Hp} {st : Bool} (t : if st = true then Tr Pr F H Pr' F' H' else Te Pr F H Pr' F' H') : Tr Pr F H Pr' F' H' := by
  cases st with
  | true => exact t
  | false => exact Te.toTr (show Te Pr F H Pr' F' H' from t)
theorem Tp.at {K : PySem.W.Frag} {H0 : Hp} {Pr : Addr → Prop} {H : Hp} {a : Addr} {xs : List V} (h : Tp K (sv H0 Pr H) a xs) : SqT K H a xs := (h.mono fun a xs => sv_le).sq
theorem dn_get {K : PySem.W.Frag} {F : List Addr} {G : Hp} {s : Bool} {vs : List V} {ds : List D} {i : Nat} {v : V} (h : DnA s K F G vs ds) (e : vs[i]? = some v) : ∃ d, ds[i]? = some d ∧ Dn s K F G v d := h.get e
/-- over a list or a tuple that may be kept -/
theorem ji_seq {tg : Expr} {t : DT C.W.M} (h : J .s X C e t) : JI true X C tg e (dSeq false t) := by
  obtain ⟨te, p, q⟩ := h
  refine ⟨_, pi_seq p, fun σ H Pr F ρ m Q Z R S E h k => ?_⟩
  refine q σ H Pr F ρ m _ Z _ S E h fun v H1 ⟨P1, F1, m1, d, S1, t1, dv, z⟩ => ?_
  have dv : Dn true X.K F1 (sv C.H0 P1 H1) v d := dv
  cases dv with
  | lst h r =>
    have h : sv C.H0 P1 H1 _ = some (.lst _) := h
    refine ⟨_, _, rfl, .inl ⟨.inl (.inl (sv_le h)), k _ _ ⟨P1, F1, m1, _, S1, t1, ⟨_, _, by rw [← r.length]; exact walk_list, fun P2 F2 H2 t2 => ⟨SqL.of (K := X.K) (sv_le (sv_tr (tr_of t2) S1.prs _ _ h)), fun i v H3 y => ?_⟩⟩, z.2⟩⟩⟩
    obtain ⟨rfl, e⟩ := y
    exact ⟨fun _ _ h => h, dn_get (DnA.mono (tr_of t2).pre (sv_tr (tr_of t2) S1.prs) r) e⟩
  | tup h r =>
    refine ⟨_, _, rfl, .inr ⟨h.at, k _ _ ⟨P1, F1, m1, _, S1, t1, ⟨_, _, by rw [← r.length]; exact walk_tup, fun P2 F2 H2 t2 => ⟨(h.mono fun a xs => sv_tr (tr_of t2) S1.prs a _).at, fun i v H3 y => ?_⟩⟩, z.2⟩⟩⟩
    obtain ⟨rfl, e⟩ := y
    exact ⟨fun _ _ h => h, dn_get (DnA.mono (tr_of t2).pre (sv_tr (tr_of t2) S1.prs) r) e⟩
  | _ => exact z.elim
theorem Ls.wv {K : PySem.W.Frag} {F : List Addr} {H : Hp} {s : Bool} {a : Addr} {xs : List V} (h : Ls s K (wv F H) a xs) : SqL K H a xs := (h.mono fun _ _ => wv_le).sq
theorem Tp.wv {K : PySem.W.Frag} {F : List Addr} {H : Hp} {a : Addr} {xs : List V} (h : Tp K (wv F H) a xs) : SqT K H a xs := (h.mono fun a xs => wv_le).sq
/-- a borrowed value stays whatever the body does -/
theorem bor_tr {K : PySem.W.Frag} {Pr Pr' : Addr → Prop} {F F' : List Addr} {σ : L2.St} {ρ : En} {m : C.W.M} {H H' : Hp} (S : SR K C Pr F σ ρ m H) (t : Tr Pr F H Pr' F' H') : ∀ a o, wv C.F0 C.H0 a = some o → wv F' H' a = some o := fun a o h => by
  obtain ⟨e, n⟩ := vw_iff.mp h
  have nf : a ∉ F := fun z => by rw [S.new a z n] at e; cases e
  have np : ¬ Pr a := fun z => by rw [S.prn a z nf] at e; cases e
  have e1 := S.keep a o n e
  refine vw_iff.mpr ⟨t.keep a o np e1, fun z => ?_⟩
  have z := t.fn a z nf
  rw [e1] at z; cases z
/-- range(b), range(a, b) -/
def iota (lo : Int) (n : Nat) : List D := (List.range n).map fun k => D.int (lo + (k : Nat))
theorem iota_get {lo : Int} {n i : Nat} (h : i < n) : (iota lo n)[i]? = some (.int (lo + i)) := by
  unfold iota
  rw [List.getElem?_map, List.getElem?_range h]
  rfl
theorem iota_len {lo : Int} {n : Nat} : (iota lo n).length = n := by unfold iota; simp
theorem wk_range {K : PySem.W.Frag} {st : Bool} {Pr : Addr → Prop} {F : List Addr} {H : Hp} {lo : Int} {n : Nat} : Wk K C st Pr F H (iota lo n) (Itr lo n) := by
  refine ⟨_, fun i H x H' => i < n ∧ H' = H ∧ x = .int (lo + i), by rw [iota_len]; exact ⟨walk_range.goes, walk_range.stops, fun i H x H' hi g y => ⟨hi, walk_range.yields i H x H' hi g y⟩⟩, fun P2 F2 H2 t2 => ⟨trivial, fun i v H3 y => ?_⟩⟩
  obtain ⟨hi, rfl, rfl⟩ := y
  exact ⟨fun _ _ h => h, _, iota_get hi, .int _⟩
def dRng1 {M : Type} (t : DTA M) : DTA M := fun ρ m Q Z => t ρ m (fun ds m1 => match ds with | [.int j] => -(2 ^ 62) ≤ j ∧ j < 2 ^ 62 ∧ Q (iota 0 j.toNat) m1 | _ => False) Z
def dRng2 {M : Type} (t : DTA M) : DTA M := fun ρ m Q Z => t ρ m (fun ds m1 => match ds with | [.int i, .int j] => (-(2 ^ 62) ≤ i ∧ i < 2 ^ 62 ∧ -(2 ^ 62) ≤ j ∧ j < 2 ^ 62) ∧ Q (iota i (j - i).toNat) m1 | _ => False) Z
theorem dnA1 {s : Bool} {K : PySem.W.Frag} {F : List Addr} {G : Hp} {vs : List V} {j : Int} (h : DnA s K F G vs [.int j]) : vs = [.int j] := by
  cases h with
  | cons h r =>
    cases r
    cases h
    rfl
theorem dnA2 {s : Bool} {K : PySem.W.Frag} {F : List Addr} {G : Hp} {vs : List V} {i j : Int} (h : DnA s K F G vs [.int i, .int j]) : vs = [.int i, .int j] := by
  cases h with
  | cons h r =>
    cases h
    rw [dnA1 r]
theorem ji_range1 {st : Bool} {tg : Expr} {t : DTA C.W.M} {p : Pos} (hm : X.mg "range" = none) (ha : JA .w X C [a] t) (hg : Gl X "range" := by rfl) (hs : starEach [a] X.env = [(false, eval a X.env)] := by rfl) : JI st X C tg (.Call (.Name "range" p) [a] [] pos) (dRng1 t) := by
  obtain ⟨te, pa, q⟩ := ha
  refine ⟨_, pi_range1 hg hm pa hs, fun σ H Pr F ρ m Q Z R S E h k => ?_⟩
  refine q σ H Pr F ρ m _ Z _ S E h fun vs H1 ⟨P1, F1, m1, ds, S1, t1, dv, z⟩ => ?_
  have dv : DnA false X.K F1 (wv F1 H1) vs ds := dv
  dsimp only at z
  split at z
  · exact ⟨_, dnA1 dv, z.1, z.2.1, k _ _ ⟨P1, F1, m1, _, S1, t1, wk_range, z.2.2⟩⟩
  · exact z.elim
theorem ji_range2 {st : Bool} {tg : Expr} {t : DTA C.W.M} {p : Pos} (hm : X.mg "range" = none) (ha : JA .w X C [a, b] t) (hg : Gl X "range" := by rfl) (hs : starEach [a, b] X.env = [(false, eval a X.env), (false, eval b X.env)] := by rfl) (hs2 : starEach [b] X.env = [(false, eval b X.env)] := by rfl) :
    JI st X C tg (.Call (.Name "range" p) [a, b] [] pos) (dRng2 t) := by
  obtain ⟨te, pa, q⟩ := ha
  refine ⟨_, pi_range2 hg hm pa hs hs2, fun σ H Pr F ρ m Q Z R S E h k => ?_⟩
  refine q σ H Pr F ρ m _ Z _ S E h fun vs H1 ⟨P1, F1, m1, ds, S1, t1, dv, z⟩ => ?_
  have dv : DnA false X.K F1 (wv F1 H1) vs ds := dv
  dsimp only at z
  split at z
  · exact ⟨_, _, dnA2 dv, z.1, k _ _ ⟨P1, F1, m1, _, S1, t1, wk_range, z.2⟩⟩
  · exact z.elim
/-- enumerate(x) -/
def enumD (n : Nat) : List D → List D
  | [] => []
  | d :: r => .tup [.int (n : Nat), d] :: enumD (n + 1) r
theorem enum_len : ∀ {n : Nat} {ds : List D}, (enumD n ds).length = ds.length
  | _, [] => rfl
  | n, _ :: r => congrArg (· + 1) (enum_len (n := n + 1) (ds := r))
theorem enum_get : ∀ {n : Nat} {ds : List D} {i : Nat} {d : D}, ds[i]? = some d → (enumD n ds)[i]? = some (.tup [.int ((n + i : Nat) : Int), d])
  | _, [], _, _, h => by simp at h
  | n, x :: r, 0, d, h => by simp at h; subst h; rfl
  | n, x :: r, i + 1, d, h => by
    have := enum_get (n := n + 1) (ds := r) (i := i) (d := d) (by simpa using h)
    rw [show n + 1 + i = n + (i + 1) by omega] at this
    exact this
def dEnum {M : Type} (n : Bool) (t : DT M) : DTA M := fun ρ m Q Z => dSeq n t ρ m (fun ds m1 => Q (enumD 0 ds) m1) Z
/-- a pair just made -/
theorem pair_dn {K : PySem.W.Frag} {Pr : Addr → Prop} {F : List Addr} {H : Hp} {T : Addr} {x y : V} {dx dy : D} (nT : H T = none) (hx : Dn true K F (sv C.H0 Pr H) x dx) (hy : Dn true K F (sv C.H0 Pr H) y dy) : (∀ a o, H a = some o → upd H T (.tup [x, y]) a = some o) ∧ Dn true K F (sv C.H0 Pr (upd H T (.tup [x, y]))) (.ref T) (.tup [dx, dy]) := by
  have k : ∀ a o, H a = some o → upd H T (.tup [x, y]) a = some o := fun a o e => by rw [upd_ne (ne_of_none e nT)]; exact e
  have up : ∀ a o, sv C.H0 Pr H a = some o → sv C.H0 Pr (upd H T (.tup [x, y])) a = some o := fun a o e => by
    obtain ⟨e, q⟩ := vw_iff.mp e
    exact vw_iff.mpr ⟨k a o e, q⟩
  exact ⟨k, .tup (.inl (vw_iff.mpr ⟨upd_same, .inl trivial⟩)) (.cons (hx.mono ⟨[], by simp⟩ up) (.cons (hy.mono ⟨[], by simp⟩ up) .nil))⟩
theorem wk_enumL {K : PySem.W.Frag} {st : Bool} {Pr : Addr → Prop} {F : List Addr} {H : Hp} {a : Addr} {xs : List V} {ds : List D} (hl : xs.length = ds.length)
    (g : ∀ Pr' F' H', (if st = true then Tr Pr F H Pr' F' H' else Te Pr F H Pr' F' H') → SqL K H' a xs ∧ DnA true K F' (sv C.H0 Pr' H') xs ds) : Wk K C st Pr F H (enumD 0 ds) (Ite K a) := by
  refine ⟨_, _, by rw [enum_len, ← hl]; exact walk_enum (xs := xs), fun P2 F2 H2 t2 => ⟨(g P2 F2 H2 t2).1, fun i v H3 y => ?_⟩⟩
  obtain ⟨T, x, z, rfl, nT, rfl, e1, e2⟩ := y
  cases e1
  obtain ⟨d, e, h⟩ := dn_get (g P2 F2 H2 t2).2 e2
  obtain ⟨k, h2⟩ := pair_dn nT (.int ((i : Nat) : Int)) h
  exact ⟨k, _, by rw [enum_get e, Nat.zero_add], h2⟩
theorem wk_enumT {K : PySem.W.Frag} {st : Bool} {Pr : Addr → Prop} {F : List Addr} {H : Hp} {a : Addr} {xs : List V} {ds : List D} (hl : xs.length = ds.length)
    (g : ∀ Pr' F' H', (if st = true then Tr Pr F H Pr' F' H' else Te Pr F H Pr' F' H') → SqT K H' a xs ∧ DnA true K F' (sv C.H0 Pr' H') xs ds) : Wk K C st Pr F H (enumD 0 ds) (IteT K a) := by
  refine ⟨_, _, by rw [enum_len, ← hl]; exact walk_enumT (xs := xs), fun P2 F2 H2 t2 => ⟨(g P2 F2 H2 t2).1, fun i v H3 y => ?_⟩⟩
  obtain ⟨T, x, z, rfl, nT, rfl, e1, e2⟩ := y
  cases e1
  obtain ⟨d, e, h⟩ := dn_get (g P2 F2 H2 t2).2 e2
  obtain ⟨k, h2⟩ := pair_dn nT (.int ((i : Nat) : Int)) h
  exact ⟨k, _, by rw [enum_get e, Nat.zero_add], h2⟩
/-- .. of a borrowed one, in a for -/
theorem ji_enumb {p tpos pos' : Pos} {elts : List Expr} {kk : Nat} (i : Nat) {x : Str} (hm : X.mg "enumerate" = none) (hN : X.N[i]? = some x := by rfl) (hv : Vis X.env.scope x := by first | exact Or.inl rfl | exact Or.inr (Or.inl rfl) | exact Or.inr (Or.inr rfl)) (hg : Gl X "enumerate" := by rfl) (hd : (x == ("__debug__" : Str)) = false := by decide)
    (hcd : (x == ("__classdict__" : Str)) = false := by decide) : JI true X C (.Tuple elts kk tpos) (.Call (.Name "enumerate" p) [.Name x pos'] [] pos) (dEnum true (dBor i)) := by
  refine ⟨_, pi_enumA hg hm (pa_cons (pe_var hN hv hd hcd) pa_nil rfl) rfl, fun σ H Pr F ρ m Q Z R S E h k => ?_⟩
  unfold dEnum dSeq dBor at h
  split at h
  · rename_i d e
    obtain ⟨v, e1, dv⟩ := S.slot i _ e
    refine ⟨v, e1, ?_⟩
    have b1 := bor_tr S (Tr.refl (Pr := Pr))
    cases dv with
    | lst hl r =>
      exact ⟨_, _, rfl, .inl ⟨(hl.mono b1).wv, k _ _ ⟨Pr, F, m, _, S, Te.refl, wk_enumL r.length fun P2 F2 H2 t2 => ⟨(hl.mono (bor_tr S t2)).wv, (DnA.mono (pre_trans S.pre (tr_of t2).pre) (bor_tr S t2) r).up (h.1 rfl)⟩, h.2⟩⟩⟩
    | tup hl r =>
      exact ⟨_, _, rfl, .inr ⟨(hl.mono fun a xs => b1 a _).wv, k _ _ ⟨Pr, F, m, _, S, Te.refl, wk_enumT r.length fun P2 F2 H2 t2 => ⟨(hl.mono fun a xs => bor_tr S t2 a _).wv, (DnA.mono (pre_trans S.pre (tr_of t2).pre) (bor_tr S t2) r).up (h.1 rfl)⟩, h.2⟩⟩⟩
    | _ => exact h.elim
  · exact h.elim
end
end RR

/-! RF: zip, reversed, targets, comprehensions -/
namespace RR
open PySem PySem.Spec PyProof.Rows L2 RZ RT
section
variable {X : Cx} {C : Cn} {e a b : Expr} {pos : Pos}
/-! ### zip -/
def zipD : List D → List D → List D
  | x :: xs, y :: ys => .tup [x, y] :: zipD xs ys
  | _, _ => []
theorem zip_len : ∀ {xs ys : List D}, (zipD xs ys).length = min xs.length ys.length
  | [], _ => by simp [zipD]
  | _ :: _, [] => by simp [zipD]
  | _ :: xs, _ :: ys => by rw [zipD, List.length_cons, zip_len]; simp <;> omega
theorem zip_get : ∀ {xs ys : List D} {i : Nat} {x y : D}, xs[i]? = some x → ys[i]? = some y → (zipD xs ys)[i]? = some (.tup [x, y])
  | [], _, _, _, _, h, _ => by simp at h
  | _ :: _, [], _, _, _, _, h => by simp at h
  | a :: xs, b :: ys, 0, x, y, h, h' => by simp at h h'; subst h h'; rfl
  | a :: xs, b :: ys, i + 1, x, y, h, h' => zip_get (xs := xs) (ys := ys) (i := i) (by simpa using h) (by simpa using h')
theorem walk_zipT {K : PySem.W.Frag} {a b : Addr} {xs ys : List V} {n : Nat} (hn : n = min xs.length ys.length) : Walk (ItzT K a b) n (fun H => SqT K H a xs ∧ SqT K H b ys) (YPair (fun i => xs[i]?) (fun i => ys[i]?)) := by
  subst hn
  refine ⟨fun i _ hi q => ?_, fun _ q => ⟨xs, ys, q.1, q.2, by omega⟩, fun i H v H' _ q y => ?_⟩
  · have h1 : i < xs.length := by omega
    have h2 : i < ys.length := by omega
    exact ⟨xs, ys, xs[i], ys[i], q.1, q.2, by simp [h1], by simp [h2]⟩
  · obtain ⟨T, x, z, h1, h2, h3, h4, h5⟩ := y
    exact ⟨T, x, z, h1, h2, h3, h4 xs q.1, h5 ys q.2⟩
def dZip {M : Type} (n : Bool) (t u : DT M) : DTA M := fun ρ m Q Z => t ρ m (fun x m1 => u ρ m1 (fun y m2 => match x, y with
  | .lst xs, .lst ys | .tup xs, .tup ys => (n = true → D.nls xs = true ∧ D.nls ys = true) ∧ Q (zipD xs ys) m2
  | _, _ => False) Z) Z
theorem wk_zip {K : PySem.W.Frag} {st : Bool} {Pr : Addr → Prop} {F : List Addr} {H : Hp} {J : It} {xs ys : List V} {ds es : List D} {G : Hp → Prop} (hl : xs.length = ds.length) (hl' : ys.length = es.length)
    (w : ∀ n, n = min xs.length ys.length → Walk J n G (YPair (fun i => xs[i]?) (fun i => ys[i]?)))
    (g : ∀ Pr' F' H', (if st = true then Tr Pr F H Pr' F' H' else Te Pr F H Pr' F' H') → G H' ∧ DnA true K F' (sv C.H0 Pr' H') xs ds ∧ DnA true K F' (sv C.H0 Pr' H') ys es) : Wk K C st Pr F H (zipD ds es) J := by
  refine ⟨G, _, w _ (by rw [zip_len, hl, hl']), fun P2 F2 H2 t2 => ⟨(g P2 F2 H2 t2).1, fun i v H3 y => ?_⟩⟩
  obtain ⟨T, x, z, rfl, nT, rfl, e1, e2⟩ := y
  obtain ⟨d, ed, hd⟩ := dn_get (g P2 F2 H2 t2).2.1 e1
  obtain ⟨d', ed', hd'⟩ := dn_get (g P2 F2 H2 t2).2.2 e2
  obtain ⟨k, h2⟩ := pair_dn nT hd hd'
  exact ⟨k, _, zip_get ed ed', h2⟩
theorem ji_zip {t u : DT C.W.M} {p tpos : Pos} {elts : List Expr} {kk : Nat} (ha : J .s X C a t) (hb : J .s X C b u) (hm : X.mg "zip" = none) (hg : Gl X "zip" := by rfl)
    (hs : starEach [a, b] X.env = (false, eval a X.env) :: starEach [b] X.env := by rfl) (hs2 : starEach [b] X.env = (false, eval b X.env) :: starEach [] X.env := by rfl) (hpl : (backTo pos (starEach [b] X.env)).any (·.1) = false := by rfl) :
    JI true X C (.Tuple elts kk tpos) (.Call (.Name "zip" p) [a, b] [] pos) (dZip false t u) := by
  obtain ⟨te, pe, q⟩ := ha
  obtain ⟨te', pe', q'⟩ := hb
  refine ⟨_, pi_zipA hg hm (pa_cons pe (pa_cons pe' pa_nil hs2) hs) hs hpl, fun σ H Pr F ρ m Q Z R S E h k => ?_⟩
  refine q σ H Pr F ρ m _ Z _ S E h fun v H1 ⟨P1, F1, m1, d, S1, t1, dv, z⟩ => ?_
  refine q' σ H1 P1 F1 ρ m1 _ Z _ S1 (E.te t1.toTr) z fun w H2 ⟨P2, F2, m2, d2, S2, t2, dv2, z2⟩ => ?_
  have dv : Dn true X.K F2 (sv C.H0 P2 H2) v d := Dn.tr (H0 := C.H0) t2.toTr S1.prs dv
  have dv2 : Dn true X.K F2 (sv C.H0 P2 H2) w d2 := dv2
  dsimp only at z2
  split at z2
  · cases dv with
    | lst h r =>
      cases dv2 with
      | lst h' r' =>
        have h : sv C.H0 P2 H2 _ = some (.lst _) := h
        have h' : sv C.H0 P2 H2 _ = some (.lst _) := h'
        exact ⟨_, _, _, _, rfl, .inl ⟨SqL.of (sv_le h), SqL.of (sv_le h'), k _ _ ⟨P2, F2, m2, _, S2, t1.trans t2, wk_zip r.length r'.length (fun n hn => walk_zip hn) fun P3 F3 H3 t3 =>
          ⟨⟨SqL.of (sv_le (sv_tr (tr_of t3) S2.prs _ _ h)), SqL.of (sv_le (sv_tr (tr_of t3) S2.prs _ _ h'))⟩, DnA.mono (tr_of t3).pre (sv_tr (tr_of t3) S2.prs) r, DnA.mono (tr_of t3).pre (sv_tr (tr_of t3) S2.prs) r'⟩, z2.2⟩⟩⟩
  · cases dv with
    | tup h r =>
      cases dv2 with
      | tup h' r' =>
        exact ⟨_, _, _, _, rfl, .inr ⟨h.at, h'.at, k _ _ ⟨P2, F2, m2, _, S2, t1.trans t2, wk_zip r.length r'.length (fun n hn => walk_zipT hn) fun P3 F3 H3 t3 =>
          ⟨⟨(h.mono fun a xs => sv_tr (tr_of t3) S2.prs a _).at, (h'.mono fun a xs => sv_tr (tr_of t3) S2.prs a _).at⟩, DnA.mono (tr_of t3).pre (sv_tr (tr_of t3) S2.prs) r, DnA.mono (tr_of t3).pre (sv_tr (tr_of t3) S2.prs) r'⟩, z2.2⟩⟩⟩
  · exact z2.elim
/-! ### reversed -/
def dRev {M : Type} (n : Bool) (t : DT M) : DTA M := fun ρ m Q Z => dSeq n t ρ m (fun ds m1 => Q ds.reverse m1) Z
def dRevR {M : Type} (t : DT M) : DTA M := fun ρ m Q Z => t ρ m (fun d m1 => match d with | .int j => -(2 ^ 62) ≤ j ∧ j < 2 ^ 62 ∧ Q (iota 0 j.toNat).reverse m1 | _ => False) Z
/-- a text, sign by sign -/
def signs (z : Str) : List D := z.cps.toList.map fun c => D.str ⟨#[c]⟩
def dSigns {M : Type} (t : DT M) : DTA M := fun ρ m Q Z => t ρ m (fun d m1 => match d with | .str z => Q (signs z) m1 | _ => False) Z
/-! ### targets -/
abbrev DG := D → En → (En → Prop) → Prop
abbrev DGs := List D → En → (En → Prop) → Prop
def JG (X : Cx) (C : Cn) (tg : Expr) (ws : List Nat) (g : DG) : Prop := ∃ tgt, PG X tg tgt ∧
  ∀ σ H Pr F ρ (m : C.W.M) v d Q (R : L2.St → Hp → Prop), SR X.K C Pr F σ ρ m H → Dn true X.K F (sv C.H0 Pr H) v d → g d ρ Q →
    (∀ σ' ρ', SR X.K C Pr F σ' ρ' m H → (∀ vs, (∀ i ∈ ws, i ∈ vs) → L2.wipe σ' vs = L2.wipe σ vs) → Q ρ' → R σ' H) → tgt v σ H R
def JGs (X : Cx) (C : Cn) (tgs : List Expr) (ws : List Nat) (g : DGs) : Prop := ∃ tgt, PGs X tgs tgt ∧
  ∀ σ H Pr F ρ (m : C.W.M) vs ds Q (R : L2.St → Hp → Prop), SR X.K C Pr F σ ρ m H → DnA true X.K F (sv C.H0 Pr H) vs ds → g ds ρ Q →
    (∀ σ' ρ', SR X.K C Pr F σ' ρ' m H → (∀ vs, (∀ i ∈ ws, i ∈ vs) → L2.wipe σ' vs = L2.wipe σ vs) → Q ρ' → R σ' H) → tgt vs σ H R
def dgN (i : Nat) : DG := fun d ρ Q => Q (ρ.set i (.val d))
def dgT (n : Nat) (g : DGs) : DG := fun d ρ Q => match d with | .tup ds => ds.length = n ∧ g ds ρ Q | _ => False
def dgNil : DGs := fun ds ρ Q => match ds with | [] => Q ρ | _ => False
def dgCons (g : DG) (r : DGs) : DGs := fun ds ρ Q => match ds with | d :: ds => g d ρ fun ρ' => r ds ρ' Q | _ => False
theorem wipe_set {σ : L2.St} {i : Nat} {x : Option V} : ∀ {vs : List Nat}, i ∈ vs → L2.wipe (σ.set i x) vs = L2.wipe σ vs
  | v :: vs, h => by
    unfold L2.wipe
    by_cases e : i ∈ vs
    · rw [wipe_set e]
    · have ev : i = v := (List.mem_cons.mp h).resolve_right e
      subst ev
      have out : ∀ {vs : List Nat}, i ∉ vs → L2.wipe (σ.set i x) vs = (L2.wipe σ vs).set i x := fun {vs} => by
        induction vs with
        | nil => intro _; rfl
        | cons w r ih =>
          intro h
          unfold L2.wipe
          rw [ih fun z => h (List.mem_cons_of_mem _ z), List.set_comm _ _ (fun z => h (by rw [z]; exact List.mem_cons_self))]
      rw [out e, List.set_set]
theorem jg_name (i : Nat) {x : Str} (hN : X.N.Nodup) (hi : X.N[i]? = some x := by rfl) (hx : Loc X.env.scope x := by first | exact .inl rfl | exact .inr rfl) (hf : X.fn x = true ∨ X.env.scope.names.lookup x = some .local := by first | exact .inl rfl | exact .inr rfl) : JG X C (.Name x pos) [i] (dgN i) := by
  refine ⟨_, pg_name hN hi hx hf, fun σ H Pr F ρ m v d Q R S dv q k => ?_⟩
  exact k _ _ (S.set i dv) (fun vs h => wipe_set (h i (by simp))) q
theorem jgs_nil : JGs X C [] [] dgNil := by
  refine ⟨_, pgs_nil, fun σ H Pr F ρ m vs ds Q R S dv q k => ?_⟩
  unfold dgNil at q
  split at q
  · cases dv
    exact ⟨rfl, k σ ρ S (fun _ _ => rfl) q⟩
  · exact q.elim
theorem jgs_cons {es : List Expr} {w1 w2 : List Nat} {g : DG} {r : DGs} (h : JG X C e w1 g) (h' : JGs X C es w2 r) (hs : (assignEach (e :: es) X.env).map (·.2) = assign e X.env :: (assignEach es X.env).map (·.2) := by rfl) : JGs X C (e :: es) (w1 ++ w2) (dgCons g r) := by
  obtain ⟨t1, p1, q1⟩ := h
  obtain ⟨t2, p2, q2⟩ := h'
  refine ⟨_, pgs_cons p1 p2 hs, fun σ H Pr F ρ m vs ds Q R S dv q k => ?_⟩
  unfold dgCons at q
  split at q
  · cases dv with
    | cons dh dt =>
      refine ⟨_, _, rfl, q1 σ H Pr F ρ m _ _ _ _ S dh q fun σ1 ρ1 S1 w1' z => ?_⟩
      refine q2 σ1 H Pr F ρ1 m _ _ Q R S1 dt z fun σ2 ρ2 S2 w2' z => k σ2 ρ2 S2 (fun vs h => ?_) z
      rw [w2' vs fun i hi => h i (List.mem_append_right _ hi), w1' vs fun i hi => h i (List.mem_append_left _ hi)]
  · exact q.elim
theorem jg_tup {es : List Expr} {ws : List Nat} {g : DGs} {k n : Nat} (hc : X.calm = true) (h : JGs X C es ws g) (hn : (assignEach es X.env).length = n := by rfl) (hst : (assignEach es X.env).findIdx? (·.1) = none := by rfl) : JG X C (.Tuple es k pos) ws (dgT n g) := by
  obtain ⟨t1, p1, q1⟩ := h
  refine ⟨_, pg_tup hc p1 hn hst, fun σ H Pr F ρ m v d Q R S dv q kk => ?_⟩
  unfold dgT at q
  split at q
  · cases dv with
    | tup h r =>
      exact ⟨_, _, rfl, h.at, by rw [r.length]; exact q.1, q1 σ H Pr F ρ m _ _ Q R S r q.2 kk⟩
  · exact q.elim

/-! ### comprehensions -/
def lcGo {M : Type} (g : DG) (tt : DTT M) (te : DT M) (ρ : En) : List D → List D → M → (List D → M → Prop) → Prop
  | [], acc, m, Q => Q acc m
  | x :: r, acc, m, Q => g x ρ fun ρ2 => tt ρ2 m (fun b m1 => if b = true then te ρ2 m1 (fun y m2 => acc.length < sizeLine ∧ lcGo g tt te ρ r (acc ++ [y]) m2 Q) (fun _ _ => False) else lcGo g tt te ρ r acc m1 Q) (fun _ _ => False)
def dLc {M : Type} (ti : DTA M) (g : DG) (tt : DTT M) (te : DT M) (vs : List Nat) : DT M := fun ρ m Q Z => ti ρ m (fun items m1 => lcGo g tt te (wipeD ρ vs) items [] m1 (fun ds m2 => Q (.lst ds) m2)) Z
/-- a clause's tests -/
def JTs (X : Cx) (C : Cn) (ifs : List Expr) (t : DTT C.W.M) : Prop := ∃ te, PTs X ifs te ∧
  ∀ σ H Pr F ρ m Q Z (R : Bool → Hp → Prop), SR X.K C Pr F σ ρ m H → Ex X C Pr F H σ ρ Z → t ρ m Q Z → (∀ v H', PostT X.K C Pr F H σ ρ Q v H' → R v H') → te σ H R
def dYes {M : Type} : DTT M := fun _ m Q _ => Q true m
theorem jts_nil : JTs X C [] dYes := ⟨_, pts_nil, fun σ H Pr F ρ m Q Z R S E h k => k _ _ ⟨Pr, F, m, S, Te.refl, h⟩⟩
/-- within a block nothing is raised -/
abbrev Cn.nox (C : Cn) : Cn := { C with wx := fun _ _ _ _ => False }
theorem SR.nox {K : PySem.W.Frag} {Pr : Addr → Prop} {F : List Addr} {σ : L2.St} {ρ : En} {m : C.W.M} {H : Hp} (S : SR K C Pr F σ ρ m H) : SR K C.nox Pr F σ ρ m H := ⟨S.keep, S.pre, S.new, S.prs, S.prn, S.prf, S.rz, S.len, S.slot, S.dist⟩
theorem SR.unnox {K : PySem.W.Frag} {Pr : Addr → Prop} {F : List Addr} {σ : L2.St} {ρ : En} {m : C.W.M} {H : Hp} (S : SR K C.nox Pr F σ ρ m H) : SR K C Pr F σ ρ m H := ⟨S.keep, S.pre, S.new, S.prs, S.prn, S.prf, S.rz, S.len, S.slot, S.dist⟩
abbrev Blk (X : Cx) (scope : Scope) (s : Shared) (H : Hp) (c : Addr) (cl : List (Str × Addr)) (fp : List Addr) : Cx := X.blk s H scope (compEnvC scope cl c X.env) fp
theorem wipe_comm {σ : L2.St} {i : Nat} : ∀ {vs : List Nat}, (L2.wipe σ vs).set i none = L2.wipe (σ.set i none) vs
  | [] => rfl
  | v :: vs => by
    unfold L2.wipe
    by_cases e : v = i
    · subst e
      rw [List.set_set, ← wipe_comm (vs := vs), List.set_set]
    · rw [List.set_comm _ _ e, wipe_comm (vs := vs)]
theorem wipe_wipe {σ : L2.St} {us : List Nat} : ∀ {vs : List Nat}, (∀ i ∈ vs, i ∈ us) → L2.wipe (L2.wipe σ us) vs = L2.wipe σ us
  | [], _ => rfl
  | v :: vs, h => by
    show (L2.wipe (L2.wipe σ us) vs).set v none = L2.wipe σ us
    rw [wipe_wipe fun i hi => h i (List.mem_cons_of_mem _ hi), wipe_comm, wipe_set (h v List.mem_cons_self)]
/-- a new list, guarded -/
theorem SR.guard {K : PySem.W.Frag} {Pr : Addr → Prop} {F : List Addr} {σ : L2.St} {ρ : En} {m : C.W.M} {H : Hp} (S : SR K C Pr F σ ρ m H) {p : Addr} {vs : List V} (hp : H p = none) :
    SR K C (fun a => Pr a ∨ a = p) F σ ρ m (upd H p (.lst vs)) ∧ Te Pr F H (fun a => Pr a ∨ a = p) F (upd H p (.lst vs)) := by
  have k : ∀ a u, H a = some u → upd H p (.lst vs) a = some u := fun a u e => by rw [upd_ne (ne_of_none e hp)]; exact e
  have t : Te Pr F H (fun a => Pr a ∨ a = p) F (upd H p (.lst vs)) := ⟨⟨⟨[], by simp⟩, fun a h n => by
    rcases h with h | h
    · exact absurd h n
    · rw [h]; exact hp, fun _ h n => absurd h n, fun a o h => ⟨o, k a o h⟩, fun a o _ h => k a o h⟩, fun _ h => .inl h, fun a o _ h => k a o h⟩
  refine ⟨⟨fun a o n e => k a o (S.keep a o n e), S.pre, S.new, fun a h => ?_, fun a h n => ?_, fun a h => .inl (S.prf a h), C.W.keep S.rz (fun a h => upd_ne fun z => S.nf hp (z ▸ h)) (fun a o _ e => k a o e), S.len, fun i s e => Sk.tr S.prs t.toTr (fun p _ _ o h => k p o h) (fun p h _ => .inl h) (S.slot i s e), S.dist⟩, t⟩
  · rcases h with h | h
    · obtain ⟨o, e, n⟩ := S.prs a h
      exact ⟨o, k a o e, n⟩
    · exact ⟨.lst vs, by rw [h]; exact upd_same, fun z => z⟩
  · rcases h with h | h
    · exact S.prn a h n
    · rw [h]; exact S.h0n hp
/-- a guarded list is changed -/
theorem SR.poke {K : PySem.W.Frag} {Pr : Addr → Prop} {F : List Addr} {σ : L2.St} {ρ : En} {m : C.W.M} {H : Hp} (S : SR K C Pr F σ ρ m H) {p : Addr} {vs ws : List V} (pp : Pr p) (nF : p ∉ F) (hp : H p = some (.lst vs)) (h0 : C.H0 p = none)
    (nown : ∀ (i : Nat) (ds : List D) (q : Addr), ρ[i]? = some (.own ds) → σ[i]? = some (some (.ref q)) → q ≠ p) :
    SR K C Pr F σ ρ m (upd H p (.lst ws)) ∧ ∀ a o, sv C.H0 Pr H a = some o → sv C.H0 Pr (upd H p (.lst ws)) a = some o := by
  have up : ∀ a o, sv C.H0 Pr H a = some o → sv C.H0 Pr (upd H p (.lst ws)) a = some o := fun a o e => by
    obtain ⟨e, q⟩ := vw_iff.mp e
    refine vw_iff.mpr ⟨?_, q⟩
    rw [upd_ne fun z => ?_]
    · exact e
    · rcases q with q | q
      · rw [z, hp] at e; cases e; exact q
      · exact q.2.1 (z ▸ pp)
  refine ⟨⟨fun a o n e => ?_, S.pre, S.new, fun a h => ?_, S.prn, S.prf, C.W.keep S.rz (fun a h => upd_ne fun z => nF (z ▸ h)) (fun a o it e => by rw [upd_ne (fun q => by rw [q, hp] at e; cases e; exact it)]; exact e), S.len, fun i s e => ?_, S.dist⟩, up⟩
  · rw [upd_ne fun z => by rw [z, h0] at e; cases e]
    exact S.keep a o n e
  · by_cases z : a = p
    · exact ⟨.lst ws, by rw [z]; exact upd_same, fun z => z⟩
    · obtain ⟨o, e, n⟩ := S.prs a h
      exact ⟨o, by rw [upd_ne z]; exact e, n⟩
  · cases s with
    | un => trivial
    | bor d => exact S.slot i _ e
    | val d =>
      obtain ⟨v, e1, q⟩ := S.slot i _ e
      exact ⟨v, e1, q.mono ⟨[], by simp⟩ up⟩
    | own ds =>
      obtain ⟨q, us, e1, h1, h2, h3, h4⟩ := S.slot i _ e
      exact ⟨q, us, e1, by rw [upd_ne (nown i ds q e e1)]; exact h1, h2, h3, h4.mono ⟨[], by simp⟩ up⟩
theorem SR.unguard {K : PySem.W.Frag} {Pr : Addr → Prop} {F : List Addr} {σ : L2.St} {ρ : En} {m : C.W.M} {H : Hp} (S : SR K C Pr F σ ρ m H) {p : Addr} (nF : p ∉ F) (h0 : C.H0 p = none)
    (nown : ∀ (i : Nat) (ds : List D) (q : Addr), ρ[i]? = some (.own ds) → σ[i]? = some (some (.ref q)) → q ≠ p) :
    SR K C (fun a => Pr a ∧ a ≠ p) F σ ρ m H ∧ ∀ a o, sv C.H0 Pr H a = some o → sv C.H0 (fun a => Pr a ∧ a ≠ p) H a = some o := by
  have up : ∀ a o, sv C.H0 Pr H a = some o → sv C.H0 (fun a => Pr a ∧ a ≠ p) H a = some o := fun a o e => by
    obtain ⟨e, q⟩ := vw_iff.mp e
    exact vw_iff.mpr ⟨e, q.imp id fun q => ⟨q.1, fun z => q.2.1 z.1, q.2.2⟩⟩
  refine ⟨⟨S.keep, S.pre, S.new, fun a h => S.prs a h.1, fun a h n => S.prn a h.1 n, fun a h => ⟨S.prf a h, fun z => nF (z ▸ h)⟩, S.rz, S.len, fun i s e => ?_, S.dist⟩, up⟩
  cases s with
  | un => trivial
  | bor d => exact S.slot i _ e
  | val d =>
    obtain ⟨v, e1, q⟩ := S.slot i _ e
    exact ⟨v, e1, q.mono ⟨[], by simp⟩ up⟩
  | own ds =>
    obtain ⟨q, us, e1, h1, h2, h3, h4⟩ := S.slot i _ e
    exact ⟨q, us, e1, h1, ⟨h2, nown i ds q e e1⟩, h3, h4.mono ⟨[], by simp⟩ up⟩
theorem lc_read {wi : TI} {tg : TG} {tt : TT} {te : TE} {ti : DTA C.W.M} {g : DG} {dt : DTT C.W.M} {de : DT C.W.M} {vs ws : List Nat} {σ : L2.St} {H : Hp} {Pr : Addr → Prop} {F : List Addr} {ρ : En} {m : C.W.M} {Q : D → C.W.M → Prop} {Z : Str → C.W.M → Prop} {R : VK}
    (hw : ∀ i ∈ ws, i ∈ vs)
    (qi : ∀ (R : It → Hp → Prop), (∀ J H', (∃ Pr' F' m' items, SR X.K C Pr' F' σ ρ m' H' ∧ Te Pr F H Pr' F' H' ∧ Wk X.K C false Pr' F' H' items J ∧ lcGo g dt de (wipeD ρ vs) items [] m' (fun ds m2 => Q (.lst ds) m2)) → R J H') → wi σ H R)
    (qg : ∀ σ H Pr F ρ (m : C.W.M) v d Q (R : L2.St → Hp → Prop), SR X.K C.nox Pr F σ ρ m H → Dn true X.K F (sv C.H0 Pr H) v d → g d ρ Q → (∀ σ' ρ', SR X.K C.nox Pr F σ' ρ' m H → (∀ vs, (∀ i ∈ ws, i ∈ vs) → L2.wipe σ' vs = L2.wipe σ vs) → Q ρ' → R σ' H) → tg v σ H R)
    (qt : ∀ σ H Pr F ρ m Q (R : Bool → Hp → Prop), SR X.K C.nox Pr F σ ρ m H → dt ρ m Q (fun _ _ => False) → (∀ v H', PostT X.K C.nox Pr F H σ ρ Q v H' → R v H') → tt σ H R)
    (qe : ∀ σ H Pr F ρ m Q (R : VK), SR X.K C.nox Pr F σ ρ m H → de ρ m Q (fun _ _ => False) → (∀ v H', Post X.K C.nox .s Pr F H σ ρ Q v H' → R v H') → te σ H R)
    (S : SR X.K C Pr F σ ρ m H) (k : ∀ v H', Post X.K C .f Pr F H σ ρ Q v H' → R v H') : tLc wi tg tt te vs σ H R := by
  refine qi _ fun J H1 ⟨P1, F1, m1, items, S1, t1, wk, z⟩ L0 hD => ?_
  obtain ⟨G, Y, w, hG⟩ := wk
  obtain ⟨SD, tD⟩ := S1.new1 (o := .lst []) hD
  obtain ⟨SD, tD⟩ := S1.guard (vs := []) hD
  generalize hP1 : (fun a => P1 a ∨ a = L0) = P1' at SD tD
  let Pv : Nat → Hp → Prop := fun i H' => ∃ P' F' m' acc ds, SR X.K C P' F' σ ρ m' H' ∧ Te P1 F1 H1 P' F' H' ∧ P' L0 ∧ L0 ∉ F' ∧ H' L0 = some (.lst acc) ∧ DnA true X.K F' (sv C.H0 P' H') acc ds ∧ lcGo g dt de (wipeD ρ vs) (items.drop i) ds m' (fun ds m2 => Q (.lst ds) m2)
  have hn0 : C.H0 L0 = none := S1.h0n hD
  have nown : ∀ (i : Nat) (ds : List D) (p : Addr), ρ[i]? = some (.own ds) → σ[i]? = some (some (.ref p)) → p ≠ L0 := fun i ds p e e1 z => by
    obtain ⟨p', us, e2, hp, _⟩ := S1.slot i _ e
    rw [e1] at e2; cases e2
    rw [z, hD] at hp; cases hp
  refine lc_it w Pv ⟨P1', F1, m1, [], [], SD, tD, (by rw [← hP1]; exact .inr rfl), S1.nf hD, upd_same, .nil, z⟩ (fun i H' _ p => ?_) (fun i x H' H2 hi p y => ?_) (fun H' p => ?_)
  · obtain ⟨P', F', m', acc, ds, S', t', _⟩ := p
    exact (hG P' F' H' t').1
  · obtain ⟨P', F', m', acc, ds, S', t', pD, nF, eD, da, z⟩ := p
    obtain ⟨k2, d, ed, hd⟩ := (hG P' F' H' t').2 i x H2 y
    have S2 := S'.grow k2
    have t2 := S'.te k2
    have ei : items.drop i = d :: items.drop (i + 1) := by
      obtain ⟨hlt, e⟩ := List.getElem?_eq_some_iff.mp ed
      rw [List.drop_eq_getElem_cons hlt, e]
    rw [ei] at z
    unfold lcGo at z
    refine qg (L2.wipe σ vs) H2 P' F' (wipeD ρ vs) m' x d _ _ (S2.wipe vs).nox hd z fun σ2 ρ2 S3 hw2 z => ?_
    refine ⟨by rw [hw2 vs hw, wipe_wipe fun _ h => h], ?_⟩
    refine qt σ2 H2 P' F' ρ2 m' _ _ S3 z fun b H3 ⟨P3, F3, m3, S4, t3, z⟩ => ?_
    have t3 := t2.trans t3
    have stepD : ∀ {P4 F4 H4}, Te P' F' H' P4 F4 H4 → P4 L0 ∧ L0 ∉ F4 ∧ H4 L0 = some (.lst acc) := fun {P4 F4 H4} t => ⟨t.prm L0 pD, (fun z => by
      have q := t.fn L0 z nF
      rw [eD] at q
      cases q), t.all L0 _ nF eD⟩
    cases b with
    | false =>
      refine iteF ?_
      have z : lcGo g dt de (wipeD ρ vs) (items.drop (i + 1)) ds m3 (fun ds m2 => Q (.lst ds) m2) := z
      obtain ⟨d1, d2, d3⟩ := stepD t3
      exact ⟨P3, F3, m3, acc, ds, S'.back t3 S4.unnox, t'.trans t3, d1, d2, d3, DnA.mono t3.pre (sv_tr t3.toTr S'.prs) da, z⟩
    | true =>
      refine iteT ?_
      refine qe σ2 H3 P3 F3 ρ2 m3 _ _ S4 z fun v H4 ⟨P4, F4, m4, y4, S5, t4, dv, z⟩ => ?_
      have t4 := t3.trans t4
      obtain ⟨d1, d2, d3⟩ := stepD t4
      have dv : Dn true X.K F4 (sv C.H0 P4 H4) v y4 := dv
      have S6 := S'.back t4 S5.unnox
      obtain ⟨S7, up⟩ := S6.poke (ws := acc ++ [v]) d1 d2 d3 hn0 nown
      have la : acc.length = ds.length := da.length
      refine ⟨acc, d3, by rw [la]; exact z.1, P4, F4, m4, acc ++ [v], ds ++ [y4], S7, ⟨⟨(t'.trans t4).pre, (t'.trans t4).prn, (t'.trans t4).fn, fun a o h => ?_, fun a o n h => ?_⟩, (t'.trans t4).prm, fun a o n h => ?_⟩, d1, d2, upd_same,
        DnA.mono ⟨[], by simp⟩ up (DnA.app (DnA.mono t4.pre (sv_tr t4.toTr S'.prs) da) (.cons dv .nil)), z.2⟩
      · obtain ⟨o', e⟩ := (t'.trans t4).stay a o h
        exact ⟨o', by rw [upd_ne (ne_of_none h hD)]; exact e⟩
      · rw [upd_ne (ne_of_none h hD)]
        exact (t'.trans t4).keep a o n h
      · rw [upd_ne (ne_of_none h hD)]
        exact (t'.trans t4).all a o n h
  · obtain ⟨P', F', m', acc, ds, S', t', pD, nF, eD, da, z⟩ := p
    rw [List.drop_length] at z
    unfold lcGo at z
    obtain ⟨S2, up⟩ := S'.unguard nF hn0 nown
    refine k _ _ ⟨fun a => P' a ∧ a ≠ L0, F', m', .lst ds, S2, t1.trans ⟨⟨t'.pre, fun a h n => t'.prn a h.1 n, t'.fn, t'.stay, t'.keep⟩, fun a h => ⟨t'.prm a h, fun z => S1.np hD (z ▸ h)⟩, t'.all⟩, ?_, z⟩
    have da2 : DnA true X.K F' (sv C.H0 (fun a => P' a ∧ a ≠ L0) H') acc ds := DnA.mono ⟨[], by simp⟩ up da
    exact ⟨.lst (vw_iff.mpr ⟨eD, .inr ⟨trivial, fun z => z.2 rfl, hn0⟩⟩) da2, fun ds' e => by cases e; exact ⟨L0, acc, rfl, some_of (t1.stay L0) hD, fun z => z.2 rfl, eD, da2⟩⟩
variable {elt tg iter : Expr} {ifs : List Expr} {scope : Scope} {own : List (Str × Nat)} {ti : DTA C.W.M} {g : DG} {dt : DTT C.W.M} {de : DT C.W.M} {ws : List Nat} {st : Bool}
theorem JI.weak (h : JI st X C tg iter ti) : JI false X C tg iter ti := by
  obtain ⟨wi, p, q⟩ := h
  refine ⟨wi, p, fun σ H Pr F ρ m Q Z R S E h k => q σ H Pr F ρ m Q Z R S E h fun J H' ⟨P1, F1, m1, items, S1, t1, ⟨G, Y, w, hG⟩, z⟩ => k J H' ⟨P1, F1, m1, items, S1, t1, ⟨G, Y, w, fun P2 F2 H2 t2 => hG P2 F2 H2 ?_⟩, z⟩⟩
  cases st with
  | true => exact Te.toTr (show Te P1 F1 H' P2 F2 H2 from t2)
  | false => exact t2
/-- the readings of a block, whatever block it is -/
def cnE (c : Cl) (K : PySem.W.Frag) (C : Cn) (t : DT C.W.M) : TE := fun σ H R => ∃ Pr F ρ m Q, SR K C Pr F σ ρ m H ∧ t ρ m Q (fun _ _ => False) ∧ ∀ v H', Post K C c Pr F H σ ρ Q v H' → R v H'
def cnT (K : PySem.W.Frag) (C : Cn) (t : DTT C.W.M) : TT := fun σ H R => ∃ Pr F ρ m Q, SR K C Pr F σ ρ m H ∧ t ρ m Q (fun _ _ => False) ∧ ∀ v H', PostT K C Pr F H σ ρ Q v H' → R v H'
def cnG (K : PySem.W.Frag) (C : Cn) (ws : List Nat) (g : DG) : TG := fun v σ H R => ∃ Pr F ρ, ∃ m : C.W.M, ∃ d Q, SR K C Pr F σ ρ m H ∧ Dn true K F (sv C.H0 Pr H) v d ∧ g d ρ Q ∧
    (∀ σ' ρ', SR K C Pr F σ' ρ' m H → (∀ vs, (∀ i ∈ ws, i ∈ vs) → L2.wipe σ' vs = L2.wipe σ vs) → Q ρ' → R σ' H)
theorem exF {X : Cx} {C : Cn} {Pr : Addr → Prop} {F : List Addr} {H : Hp} {σ : L2.St} {ρ : En} : Ex X C Pr F H σ ρ (fun _ _ => False) := fun _ _ _ _ _ _ _ _ _ z => z.elim
theorem J.cn {X : Cx} {C : Cn} {c : Cl} {e : Expr} {t : DT C.W.M} (h : J c X C e t) : PE X e (cnE c X.K C t) := by
  obtain ⟨te, p, q⟩ := h
  exact ⟨fun pins s σ H R I ⟨Pr, F, ρ, m, Q, S, z, k⟩ => p.run pins s σ H R I (q σ H Pr F ρ m Q _ R S exF z k)⟩
theorem JTs.cn {X : Cx} {C : Cn} {es : List Expr} {t : DTT C.W.M} (h : JTs X C es t) : PTs X es (cnT X.K C t) := by
  obtain ⟨te, p, q⟩ := h
  exact ⟨fun pins s σ H R I ⟨Pr, F, ρ, m, Q, S, z, k⟩ => p.run pins s σ H R I (q σ H Pr F ρ m Q _ R S exF z k)⟩
theorem JG.cn {X : Cx} {C : Cn} {ws : List Nat} {e : Expr} {g : DG} (h : JG X C e ws g) : PG X e (cnG X.K C ws g) := by
  obtain ⟨te, p, q⟩ := h
  exact ⟨fun pins s σ H v u R I r ⟨Pr, F, ρ, m, d, Q, S, dv, z, k⟩ => p.run pins s σ H v u R I r (q σ H Pr F ρ m v d Q R S dv z k)⟩
theorem lc_all {wi : TI} (qi : ∀ σ H Pr F ρ m Q Z (R : It → Hp → Prop), SR X.K C Pr F σ ρ m H → Ex X C Pr F H σ ρ Z → ti ρ m Q Z →
    (∀ J H', (∃ Pr' F' m' items, SR X.K C Pr' F' σ ρ m' H' ∧ Te Pr F H Pr' F' H' ∧ Wk X.K C false Pr' F' H' items J ∧ Q items m') → R J H') → wi σ H R) (hw : ∀ i ∈ ws, i ∈ own.map (·.2))
    {σ : L2.St} {H : Hp} {Pr : Addr → Prop} {F : List Addr} {ρ : En} {m : C.W.M} {Q : D → C.W.M → Prop} {Z : Str → C.W.M → Prop} {R : VK} (S : SR X.K C Pr F σ ρ m H) (E : Ex X C Pr F H σ ρ Z) (h : dLc ti g dt de (own.map (·.2)) ρ m Q Z)
    (k : ∀ v H', Post X.K C .f Pr F H σ ρ Q v H' → R v H') : tLc wi (cnG X.K C.nox ws g) (cnT X.K C.nox dt) (cnE .s X.K C.nox de) (own.map (·.2)) σ H R :=
  lc_read (ti := ti) (Z := Z) (g := g) (dt := dt) (de := de) hw (fun R' k' => qi σ H Pr F ρ m _ Z R' S E h k') (fun σ H Pr F ρ m v d Q R S dv z k => ⟨Pr, F, ρ, m, d, Q, S, dv, z, k⟩) (fun σ H Pr F ρ m Q R S z k => ⟨Pr, F, ρ, m, Q, S, z, k⟩) (fun σ H Pr F ρ m Q R S z k => ⟨Pr, F, ρ, m, Q, S, z, k⟩) S k
/-- [elt for tg in iter if ..], as a value -/
theorem j_lc (hc : X.calm = true) (hN : X.N.Nodup) (hi : JI false X C tg iter ti) (ok : BlkOk X.N X.env.scope scope own) (hg : ∀ s H c cl fp, JG (Blk X scope s H c cl fp) C.nox tg ws g) (ht : ∀ s H c cl fp, JTs (Blk X scope s H c cl fp) C.nox ifs dt) (he : ∀ s H c cl fp, J .s (Blk X scope s H c cl fp) C.nox elt de)
    (hw : ∀ i ∈ ws, i ∈ own.map (·.2)) (hs : ∀ x, foldedSetIterable iter X.env x = pure x := by intro _; rfl) : J .f X C (.ListComp elt [⟨tg, iter, ifs, 0⟩] scope pos) (dLc ti g dt de (own.map (·.2))) := by
  obtain ⟨wi, pi, qi⟩ := hi
  refine ⟨_, pe_lc (g := cnG X.K C.nox ws g) (tt := cnT X.K C.nox dt) (te := cnE .s X.K C.nox de) hc hN pi ok (fun s H c cl fp => (hg s H c cl fp).cn) (fun s H c cl fp => (ht s H c cl fp).cn) (fun s H c cl fp => (he s H c cl fp).cn) hs, fun σ H Pr F ρ m Q Z R S E h k => ?_⟩
  exact lc_all qi hw S E h k
end
end RR

/-! RG: statements over data; a def by its body -/
namespace RR
open PySem PySem.Spec PyProof.Rows L2
structure DE (M : Type) where
  nx : En → M → Prop
  rt : D → M → Prop
  bk : En → M → Prop := fun _ _ => False
  ct : En → M → Prop := fun _ _ => False
  ex : Str → M → Prop := fun _ _ => False
abbrev DS (M : Type) := DE M → En → M → Prop
structure Lk (X : Cx) (C : Cn) (Pr : Addr → Prop) (F : List Addr) (H : Hp) (E : DE C.W.M) (D' : Ends) : Prop where
  nx : ∀ σ' H' ρ' m' Pr' F', SR X.K C Pr' F' σ' ρ' m' H' → Tr Pr F H Pr' F' H' → E.nx ρ' m' → D'.nx σ' H'
  rt : ∀ v H' d m' Pr' F' σ' ρ' H1, SR X.K C Pr' F' σ' ρ' m' H' → Tr Pr F H Pr' F' H' → Dv X.K C .r Pr' F' H1 H' v d → E.rt d m' → D'.rt v H'
  bk : ∀ σ' H' ρ' m' Pr' F', SR X.K C Pr' F' σ' ρ' m' H' → Tr Pr F H Pr' F' H' → E.bk ρ' m' → D'.bk σ' H'
  ct : ∀ σ' H' ρ' m' Pr' F', SR X.K C Pr' F' σ' ρ' m' H' → Tr Pr F H Pr' F' H' → E.ct ρ' m' → D'.ct σ' H'
  ex : ∀ σ' ρ', Ex X C Pr F H σ' ρ' E.ex
theorem Lk.tr {X : Cx} {C : Cn} {Pr Pr1 : Addr → Prop} {F F1 : List Addr} {H H1 : Hp} {E : DE C.W.M} {D' : Ends} (l : Lk X C Pr F H E D') (t : Tr Pr F H Pr1 F1 H1) : Lk X C Pr1 F1 H1 E D' :=
  ⟨fun σ' H' ρ' m' P2 F2 S t2 q => l.nx σ' H' ρ' m' P2 F2 S (t.trans t2) q, fun v H' d m' P2 F2 σ' ρ' H3 S t2 dv q => l.rt v H' d m' P2 F2 σ' ρ' H3 S (t.trans t2) dv q, fun σ' H' ρ' m' P2 F2 S t2 q => l.bk σ' H' ρ' m' P2 F2 S (t.trans t2) q,
    fun σ' H' ρ' m' P2 F2 S t2 q => l.ct σ' H' ρ' m' P2 F2 S (t.trans t2) q, fun σ' ρ' => (l.ex σ' ρ').te t⟩
def JS (X : Cx) (C : Cn) (st : Stmt) (t : DS C.W.M) : Prop := ∃ ts, PS X st ts ∧ ∀ σ H Pr F ρ m E D', SR X.K C Pr F σ ρ m H → Lk X C Pr F H E D' → t E ρ m → ts D' σ H
def JSs (X : Cx) (C : Cn) (st : List Stmt) (t : DS C.W.M) : Prop := ∃ ts, PSs X st ts ∧ ∀ σ H Pr F ρ m E D', SR X.K C Pr F σ ρ m H → Lk X C Pr F H E D' → t E ρ m → ts D' σ H
section
variable {X : Cx} {C : Cn} {e : Expr} {st : Stmt} {rest body els : List Stmt} {pos pos' : Pos} {t u : DS C.W.M}
def dNext {M : Type} : DS M := fun E ρ m => E.nx ρ m
def dThen {M : Type} (t u : DS M) : DS M := fun E ρ m => t { E with nx := u E } ρ m
theorem jss_nil : JSs X C [] dNext := ⟨_, pss_nil, fun σ H Pr F ρ m E D' S l h => l.nx _ _ _ _ _ _ S Tr.refl h⟩
theorem jss_cons (h : JS X C st t) (r : JSs X C rest u) : JSs X C (st :: rest) (dThen t u) := by
  obtain ⟨t1, p1, q1⟩ := h
  obtain ⟨t2, p2, q2⟩ := r
  refine ⟨_, pss_cons p1 p2, fun σ H Pr F ρ m E D' S l h => ?_⟩
  exact q1 σ H Pr F ρ m { E with nx := u E } { D' with nx := t2 D' } S ⟨fun σ' H' ρ' m' P1 F1 S1 t1 q => q2 σ' H' P1 F1 ρ' m' E D' S1 (l.tr t1) q, l.rt, l.bk, l.ct, l.ex⟩ h
theorem jss_one (h : JS X C st t) : JSs X C [st] t := by
  obtain ⟨t1, p1, q1⟩ := h
  exact ⟨_, pss_one p1, q1⟩
def dDrop {M : Type} (t : DT M) : DS M := fun E ρ m => t ρ m (fun _ m' => E.nx ρ m') E.ex
def dRet {M : Type} (t : DT M) : DS M := fun E ρ m => t ρ m E.rt E.ex
theorem js_expr {c : Cl} {te : DT C.W.M} (h : J c X C e te) (hs : swapsWith e none pos.line X.env = pure false := by rfl) : JS X C (.Expr e pos) (dDrop te) := by
  obtain ⟨t1, p, q⟩ := h
  exact ⟨_, ps_expr p hs, fun σ H Pr F ρ m E D' S l h => q σ H Pr F ρ m _ _ _ S (l.ex σ ρ) h fun v H1 ⟨P1, F1, m1, d, S1, t1, dv, z⟩ => l.nx _ _ _ _ _ _ S1 t1.toTr z⟩
theorem js_ret {te : DT C.W.M} (h : J .r X C e te) : JS X C (.Return (some e) pos) (dRet te) := by
  obtain ⟨t1, p, q⟩ := h
  exact ⟨_, ps_ret p, fun σ H Pr F ρ m E D' S l h => q σ H Pr F ρ m _ _ _ S (l.ex σ ρ) h fun v H1 ⟨P1, F1, m1, d, S1, t1, dv, z⟩ => l.rt _ _ d m1 P1 F1 σ ρ H S1 t1.toTr dv z⟩
def dIte {M : Type} (c : DTT M) (t u : DS M) : DS M := fun E ρ m => c ρ m (fun b m1 => if b = true then t E ρ m1 else u E ρ m1) E.ex
theorem js_if {c : Expr} {tc : DTT C.W.M} (hc : JT X C c tc) (h1 : JSs X C body t) (h2 : JSs X C els u) : JS X C (.If c body els pos) (dIte tc t u) := by
  obtain ⟨tt, p, q⟩ := hc
  obtain ⟨t1, p1, q1⟩ := h1
  obtain ⟨t2, p2, q2⟩ := h2
  refine ⟨_, ps_if p p1 p2, fun σ H Pr F ρ m E D' S l h => ?_⟩
  refine q σ H Pr F ρ m _ _ _ S (l.ex σ ρ) h fun b H1 ⟨P1, F1, m1, S1, t1, z⟩ => ?_
  cases b with
  | true => exact iteT (q1 σ H1 P1 F1 ρ m1 E D' S1 (l.tr t1.toTr) z)
  | false => exact iteF (q2 σ H1 P1 F1 ρ m1 E D' S1 (l.tr t1.toTr) z)
def dSet {M : Type} (i : Nat) (t : DT M) : DS M := fun E ρ m => t ρ m (fun d m' => E.nx (ρ.set i (.val d)) m') E.ex
def dSetO {M : Type} (i : Nat) (t : DT M) : DS M := fun E ρ m => t ρ m (fun d m' => match d with | .lst ds => D.nls ds = true ∧ E.nx (ρ.set i (.own ds)) m' | _ => False) E.ex
abbrev LocF (X : Cx) (x : Str) : Prop := X.fn x = true ∨ X.env.scope.names.lookup x = some .local
theorem own_read {σ : L2.St} {H : Hp} {Pr : Addr → Prop} {F : List Addr} {ρ : En} {m : C.W.M} {E : DE C.W.M} {D' : Ends} (i : Nat) (S : SR X.K C Pr F σ ρ m H) (l : Lk X C Pr F H E D') {v : V} {H1 : Hp}
    (h : Post X.K C .f Pr F H σ ρ (fun d m' => match d with | .lst ds => D.nls ds = true ∧ E.nx (ρ.set i (.own ds)) m' | _ => False) v H1) : D'.nx (σ.set i (some v)) H1 := by
  obtain ⟨P1, F1, m1, d, S1, t1, dv, z⟩ := h
  try dsimp only at z
  split at z
  · obtain ⟨p, vs, rfl, hn, np, hp, hd⟩ := dv.2 _ rfl
    obtain ⟨S2, t2⟩ := S.owned t1 S1 i hn hp np hd z.1
    exact l.nx _ _ _ _ _ _ S2 t2.toTr z.2
  · exact z.elim
theorem js_set (i : Nat) {x : Str} {te : DT C.W.M} (hN : X.N.Nodup) (h : J .s X C e te) (hi : X.N[i]? = some x := by rfl) (hx : Loc X.env.scope x := by first | exact .inl rfl | exact .inr rfl) (hf : LocF X x := by first | exact .inl rfl | exact .inr rfl) (hs : swapsWith e (some (.Name x pos')) pos.line X.env = pure false := by rfl) :
    JS X C (.Assign [.Name x pos'] e pos) (dSet i te) := by
  obtain ⟨t1, p, q⟩ := h
  exact ⟨_, ps_set hN hi hx p hs hf, fun σ H Pr F ρ m E D' S l h => q σ H Pr F ρ m _ _ _ S (l.ex σ ρ) h fun v H1 ⟨P1, F1, m1, d, S1, t1, dv, z⟩ => l.nx _ _ _ _ _ _ (S1.set i dv) t1.toTr z⟩
theorem js_setO (i : Nat) {x : Str} {te : DT C.W.M} (hN : X.N.Nodup) (h : J .f X C e te) (hi : X.N[i]? = some x := by rfl) (hx : Loc X.env.scope x := by first | exact .inl rfl | exact .inr rfl) (hf : LocF X x := by first | exact .inl rfl | exact .inr rfl) (hs : swapsWith e (some (.Name x pos')) pos.line X.env = pure false := by rfl) :
    JS X C (.Assign [.Name x pos'] e pos) (dSetO i te) := by
  obtain ⟨t1, p, q⟩ := h
  exact ⟨_, ps_set hN hi hx p hs hf, fun σ H Pr F ρ m E D' S l h => q σ H Pr F ρ m _ _ _ S (l.ex σ ρ) h fun v H1 z => own_read i S l z⟩
theorem js_setLcO (i : Nat) {x : Str} {py : Pos} {elt tg iter : Expr} {ifs : List Expr} {scope : Scope} {own : List (Str × Nat)} {ti : DTA C.W.M} {g : DG} {dt : DTT C.W.M} {de : DT C.W.M} {ws : List Nat} {lp : Pos} (hc : X.calm = true) (hN : X.N.Nodup) (hi : JI false X C tg iter ti) (ok : BlkOk X.N X.env.scope scope own)
    (hg : ∀ s H c cl fp, JG (Blk X scope s H c cl fp) C.nox tg ws g) (ht : ∀ s H c cl fp, JTs (Blk X scope s H c cl fp) C.nox ifs dt) (he : ∀ s H c cl fp, J .s (Blk X scope s H c cl fp) C.nox elt de)
    (hw : ∀ i ∈ ws, i ∈ own.map (·.2)) (hy : X.N[i]? = some x := by rfl) (hyl : X.env.scope.names.lookup x = some .local := by rfl) (hsw : swapsWith (.ListComp elt [⟨tg, iter, ifs, 0⟩] scope lp) (some (.Name x py)) pos.line X.env = pure true := by exact sw_true rfl rfl rfl (by decide +kernel)) (hs : ∀ z, foldedSetIterable iter X.env z = pure z := by intro _; rfl) :
    JS X C (.Assign [.Name x py] (.ListComp elt [⟨tg, iter, ifs, 0⟩] scope lp) pos) (dSetO i (dLc ti g dt de (own.map (·.2)))) := by
  obtain ⟨wi, pi, qi⟩ := hi
  refine ⟨_, ps_setLc (g := cnG X.K C.nox ws g) (tt := cnT X.K C.nox dt) (te := cnE .s X.K C.nox de) hc hN hy hyl hsw pi ok (fun s H c cl fp => (hg s H c cl fp).cn) (fun s H c cl fp => (ht s H c cl fp).cn) (fun s H c cl fp => (he s H c cl fp).cn) hs, fun σ H Pr F ρ m E D' S l h => ?_⟩
  exact lc_all qi hw S (l.ex σ ρ) h fun v H1 z => own_read i S l z
/-- (a, b) = e -/
def dAsg {M : Type} (t : DT M) (g : DG) : DS M := fun E ρ m => t ρ m (fun d m' => g d ρ fun ρ' => E.nx ρ' m') E.ex
theorem js_asg {tg : Expr} {ws : List Nat} {g : DG} {te : DT C.W.M} (h : J .s X C e te) (hg : JG X C tg ws g) (hs : swapsWithSole [tg] e pos.line X.env = pure false := by rfl) (hw : swappedStores [tg] e X.env = pure none := by rfl) (h1 : (assignEach [tg] X.env).map (·.2) = [assign tg X.env] := by rfl) : JS X C (.Assign [tg] e pos) (dAsg te g) := by
  obtain ⟨t1, p, q⟩ := h
  obtain ⟨t2, p2, q2⟩ := hg
  exact ⟨_, ps_asg p p2 hs hw h1, fun σ H Pr F ρ m E D' S l h => q σ H Pr F ρ m _ _ _ S (l.ex σ ρ) h fun v H1 ⟨P1, F1, m1, d, S1, t1, dv, z⟩ => q2 σ H1 P1 F1 ρ m1 v d _ _ S1 dv z fun σ' ρ' S2 _ z => l.nx _ _ _ _ _ _ S2 t1.toTr z⟩
/-- a, b = x, y, the names plain locals -/
def dPar {M : Type} (i j : Nat) (t : DTA M) : DS M := fun E ρ m => t ρ m (fun ds m' => match ds with | [x, y] => E.nx ((ρ.set i (.val x)).set j (.val y)) m' | _ => False) E.ex
theorem js_par (i j : Nat) {x y : Str} {a b : Expr} {ta : DTA C.W.M} {px py pt : Pos} {kt k2 pt2} (hc : X.calm = true) (hN : X.N.Nodup) (ha : JA .s X C [a, b] ta) (hw : swappedStores [.Tuple [.Name x px, .Name y py] kt pt] (.Tuple [a, b] k2 pt2) X.env = pure (some [x, y]) := by rfl)
    (hi : X.N[i]? = some x := by rfl) (hj : X.N[j]? = some y := by rfl) (hij : i ≠ j := by decide) (hx : X.env.scope.names.lookup x = some .local := by rfl) (hy : X.env.scope.names.lookup y = some .local := by rfl)
    (hs : swapsWithSole [.Tuple [.Name x px, .Name y py] kt pt] (.Tuple [a, b] k2 pt2) pos.line X.env = pure false := by rfl) : JS X C (.Assign [.Tuple [.Name x px, .Name y py] kt pt] (.Tuple [a, b] k2 pt2) pos) (dPar i j ta) := by
  obtain ⟨t1, p, q⟩ := ha
  refine ⟨_, ps_par hc hN hi hj hij hx hy p hw hs, fun σ H Pr F ρ m E D' S l h => q σ H Pr F ρ m _ _ _ S (l.ex σ ρ) h fun vs H1 ⟨P1, F1, m1, ds, S1, t1, dv, z⟩ => ?_⟩
  have dv : DnA true X.K F1 (sv C.H0 P1 H1) vs ds := dv
  try dsimp only at z
  split at z
  · cases dv with
    | cons h1 r =>
      cases r with
      | cons h2 r =>
        cases r
        exact ⟨_, _, rfl, l.nx _ _ _ _ _ _ ((S1.set i h1).set j h2) t1.toTr z⟩
  · exact z.elim
/-- name op= e, of whole numbers -/
def dAug {M : Type} (i : Nat) (f : Int → Int → Int) (t : DT M) : DS M := fun E ρ m => match ρ[i]? with
  | some (.val (.int x)) => t ρ m (fun y m' => match y with | .int y => E.nx (ρ.set i (.val (.int (f x y)))) m' | _ => False) E.ex
  | _ => False
theorem js_aug (i : Nat) {x : Str} {op : Operator} {f : Int → Int → Int} {te : DT C.W.M} (ho : PIp X op (ipI f)) (hN : X.N.Nodup) (h : J .w X C e te) (hi : X.N[i]? = some x := by rfl) (hx : Loc X.env.scope x := by first | exact .inl rfl | exact .inr rfl) (hf : LocF X x := by first | exact .inl rfl | exact .inr rfl) :
    JS X C (.AugAssign (.Name x pos') op e pos) (dAug i f te) := by
  obtain ⟨t1, p, q⟩ := h
  refine ⟨_, ps_aug hN hi hx p ho hf, fun σ H Pr F ρ m E D' S l h => ?_⟩
  unfold dAug at h
  split at h
  · rename_i z e0
    obtain ⟨v, ev, dz⟩ := S.slot i _ e0
    refine ⟨v, ev, q σ H Pr F ρ m _ _ _ S (l.ex σ ρ) h fun w H1 ⟨P1, F1, m1, d, S1, t1, dv, z⟩ => ?_⟩
    have dv : Dn false X.K F1 (wv F1 H1) w d := dv
    dsimp only at z
    split at z
    · exact ⟨_, _, dz.toInt, dv.toInt, l.nx _ _ _ _ _ _ (S1.set i (.int _)) t1.toTr z⟩
    · exact z.elim
  · exact h.elim
/-- x.append(e), x's own list -/
def dApp {M : Type} (i : Nat) (t : DT M) : DS M := fun E ρ m => match ρ[i]? with
  | some (.own ds) => t ρ m (fun d m' => d.nl = true ∧ ds.length < sizeLine ∧ E.nx (ρ.set i (.own (ds ++ [d]))) m') E.ex
  | _ => False
theorem js_append (i : Nat) {x : Str} {np apos cpos : Pos} {te : DT C.W.M} (h : J .s X C e te) (hN : X.N[i]? = some x := by rfl) (hv : Vis X.env.scope x := by first | exact Or.inl rfl | exact Or.inr (Or.inl rfl) | exact Or.inr (Or.inr rfl)) (hd : (x == ("__debug__" : Str)) = false := by decide) (hcd : (x == ("__classdict__" : Str)) = false := by decide)
    (hfew : ((backTo cpos (starEach [e] X.env)).all (fun x => !x.1) && (backToKw cpos (keywordEach [] X.env)).all (fun x => x.1.isSome) && decide ([e].length + ([] : List Keyword).length + (if ([] : List Keyword).isEmpty then 0 else 1) < 30)) = true := by rfl)
    (hline : (apos.endLine == cpos.line) = true := by rfl) (hs : starEach [e] X.env = (false, eval e X.env) :: starEach [] X.env := by rfl) :
    JS X C (.Expr (.Call (.Attribute (.Name x np) "append" apos) [e] [] cpos) pos) (dApp i te) := by
  obtain ⟨t1, p, q⟩ := h
  refine ⟨_, ps_expr (pe_bm PySem.F.plainAttrs_list PySem.F.slot_list_append PySem.F.type_list_append mt_append (pe_var hN hv hd hcd) (pa_cons p pa_nil hs) rfl hfew hline hs rfl) rfl, fun σ H Pr F ρ m E D' S l h => ?_⟩
  unfold dApp at h
  split at h
  · rename_i ds e0
    obtain ⟨p0, vs, e1, hp, pp, nf, hds⟩ := S.slot i _ e0
    refine ⟨.ref p0, e1, .inl ⟨rfl, vs, SqL.of hp⟩, q σ H Pr F ρ m _ _ _ S (l.ex σ ρ) h fun w H1 ⟨P1, F1, m1, d, S1, t1, dv, z⟩ => ?_⟩
    have dv : Dn true X.K F1 (sv C.H0 P1 H1) w d := dv
    obtain ⟨p1, us, e2, hp1, pp1, nf1, hds1⟩ := S1.slot i _ e0
    rw [e1] at e2; cases e2
    obtain ⟨S2, t2⟩ := S1.change e0 e1 (hds1.app (.cons dv .nil))
    exact ⟨p0, us, w, rfl, rfl, hp1, by rw [hds1.length]; exact z.2.1, l.nx _ _ _ _ _ _ S2 (t1.toTr.trans t2) z.2.2⟩
  · exact h.elim
/-- x[k] = e, x's own list -/
def dSetI {M : Type} (i : Nat) (te tk : DT M) : DS M := fun E ρ m => match ρ[i]? with
  | some (.own ds) => te ρ m (fun d m1 => tk ρ m1 (fun k m2 => match k with
    | .int k => (match ixN ds.length k with | some j => d.nl = true ∧ E.nx (ρ.set i (.own (ds.set j d))) m2 | none => False) | _ => False) E.ex) E.ex
  | _ => False
theorem js_seti (i : Nat) {x : Str} {np sp : Pos} {k : Expr} {te tk : DT C.W.M} (h : J .s X C e te) (hk : J .w X C k tk) (hN : X.N[i]? = some x := by rfl) (hv : Vis X.env.scope x := by first | exact Or.inl rfl | exact Or.inr (Or.inl rfl) | exact Or.inr (Or.inr rfl)) (hd : (x == ("__debug__" : Str)) = false := by decide) (hcd : (x == ("__classdict__" : Str)) = false := by decide)
    (ha : ∀ v, assign (.Subscript (.Name x np) k sp) X.env v = (do
      let ov ← holding [v] (eval (.Name x np) X.env)
      let iv ← holding [v, ov] (eval k X.env)
      standAt sp
      holding [v, ov, iv] (setItem ov iv v)
      release [v, ov, iv] []) := by intro _; rfl)
    (hs : swapsWithSole [.Subscript (.Name x np) k sp] e pos.line X.env = pure false := by rfl) (hw : swappedStores [.Subscript (.Name x np) k sp] e X.env = pure none := by rfl) (h1 : (assignEach [.Subscript (.Name x np) k sp] X.env).map (·.2) = [assign (.Subscript (.Name x np) k sp) X.env] := by rfl) :
    JS X C (.Assign [.Subscript (.Name x np) k sp] e pos) (dSetI i te tk) := by
  obtain ⟨t1, p, q⟩ := h
  obtain ⟨t2, p2, q2⟩ := hk
  refine ⟨_, ps_asg p (pg_sub (pe_var hN hv hd hcd) p2 set_list ha) hs hw h1, fun σ H Pr F ρ m E D' S l h => ?_⟩
  unfold dSetI at h
  split at h
  · rename_i ds e0
    obtain ⟨p0, vs, e1, hp, pp, nf, hds⟩ := S.slot i _ e0
    refine q σ H Pr F ρ m _ _ _ S (l.ex σ ρ) h fun w H1 ⟨P1, F1, m1, d, S1, t1, dv, z⟩ => ?_
    have dv : Dn true X.K F1 (sv C.H0 P1 H1) w d := dv
    refine ⟨.ref p0, e1, q2 σ H1 P1 F1 ρ m1 _ _ _ S1 ((l.ex σ ρ).te t1.toTr) z fun kv H2 ⟨P2, F2, m2, kd, S2, t2, dk, z2⟩ => ?_⟩
    have dk : Dn false X.K F2 (wv F2 H2) kv kd := dk
    dsimp only at z2
    split at z2
    · split at z2
      · rename_i j ej
        obtain ⟨p1, us, e2, hp1, pp1, nf1, hds1⟩ := S2.slot i _ e0
        rw [e1] at e2; cases e2
        obtain ⟨S3, t3⟩ := S2.change e0 e1 (hds1.set (dv.tr t2.toTr S1.prs) j)
        exact ⟨p0, us, _, j, rfl, dk.toInt, hp1, by rw [hds1.length]; exact ej, l.nx _ _ _ _ _ _ S3 ((t1.trans t2).toTr.trans t3) z2.2⟩
      · exact z2.elim
    · exact z2.elim
  · exact h.elim
/-- x[k] += e (or another operator), x's own list of whole numbers -/
def dAugI {M : Type} (i : Nat) (f : Int → Int → Int) (tk te : DT M) : DS M := fun E ρ m => match ρ[i]? with
  | some (.own ds) => tk ρ m (fun k m1 => match k with
    | .int k => (match ixN ds.length k with
      | some j => (match ds[j]? with
        | some (.int x) => te ρ m1 (fun d m2 => match d with | .int y => E.nx (ρ.set i (.own (ds.set j (.int (f x y))))) m2 | _ => False) E.ex
        | _ => False)
      | none => False)
    | _ => False) E.ex
  | _ => False
/-! ### loops -/
/-- W: a word of the turns left, the names, the world -/
def dWhile {M : Type} (c : DTT M) (t : DS M) : DS M := fun E ρ m => ∃ W : Nat → En → M → Prop, (∃ n, W n ρ m) ∧ ∀ n ρ m, W n ρ m →
  c ρ m (fun b m1 => if b = true then t { E with nx := fun ρ' m' => ∃ n', n' < n ∧ W n' ρ' m', ct := fun ρ' m' => ∃ n', n' < n ∧ W n' ρ' m', bk := E.nx } ρ m1 else E.nx ρ m1) E.ex
theorem js_while {c : Expr} {tc : DTT C.W.M} (hp : PassesOwn (model X.prog X.w) X.A X.env X.xe) (hc : JT X C c tc) (hb : JSs X C body t) : JS X C (.While c body [] pos) (dWhile tc t) := by
  obtain ⟨tt, p, q⟩ := hc
  obtain ⟨t1, p1, q1⟩ := hb
  refine ⟨_, ps_while hp p p1, fun σ H Pr F ρ m E D' S l h => ?_⟩
  obtain ⟨W, ⟨n0, w0⟩, turn⟩ := h
  refine ⟨fun n σ' H' => ∃ ρ' m' Pr' F', SR X.K C Pr' F' σ' ρ' m' H' ∧ Tr Pr F H Pr' F' H' ∧ W n ρ' m', ⟨n0, ρ, m, Pr, F, S, Tr.refl, w0⟩, ?_⟩
  rintro n σ1 H1 ⟨ρ1, m1, P1, F1, S1, t1, w1⟩
  refine q σ1 H1 P1 F1 ρ1 m1 _ _ _ S1 ((l.ex σ1 ρ1).te t1) (turn n ρ1 m1 w1) fun b H2 ⟨P2, F2, m2, S2, t2, z⟩ => ?_
  have t2 := t1.trans t2.toTr
  cases b with
  | false => exact iteF (l.nx _ _ _ _ _ _ S2 t2 z)
  | true =>
    refine iteT ⟨fun σ' H' => ∃ n', n' < n ∧ ∃ ρ' m' Pr' F', SR X.K C Pr' F' σ' ρ' m' H' ∧ Tr Pr F H Pr' F' H' ∧ W n' ρ' m', fun σ' H' h => h, ?_⟩
    refine q1 σ1 H2 P2 F2 ρ1 m2 { E with nx := fun ρ' m' => ∃ n', n' < n ∧ W n' ρ' m', ct := fun ρ' m' => ∃ n', n' < n ∧ W n' ρ' m', bk := E.nx } _ S2 ⟨fun σ' H' ρ' m' P3 F3 S3 t3 ⟨n', hn, w'⟩ => ⟨n', hn, ρ', m', P3, F3, S3, t2.trans t3, w'⟩, (l.tr t2).rt, (l.tr t2).nx, fun σ' H' ρ' m' P3 F3 S3 t3 ⟨n', hn, w'⟩ => ⟨n', hn, ρ', m', P3, F3, S3, t2.trans t3, w'⟩, (l.tr t2).ex⟩ z
/-- W: a word of the items left, the names, the world -/
def dFor {M : Type} (ti : DTA M) (g : DG) (t : DS M) : DS M := fun E ρ m => ti ρ m (fun items m1 => ∃ W : List D → En → M → Prop, W items ρ m1 ∧ (∀ ρ m, W [] ρ m → E.nx ρ m) ∧
  ∀ x r ρ m, W (x :: r) ρ m → g x ρ fun ρ2 => t { E with nx := W r, ct := W r, bk := E.nx } ρ2 m) E.ex
theorem js_for {tg iter : Expr} {ti : DTA C.W.M} {ws : List Nat} {g : DG} (hp : PassesOwn (model X.prog X.w) X.A X.env X.xe) (hc : X.calm = true) (hi : JI true X C tg iter ti) (hg : JG X C tg ws g) (hb : JSs X C body t) (hs : ∀ x, foldedSetIterable iter X.env x = pure x := by intro _; rfl) :
    JS X C (.For tg iter body [] pos) (dFor ti g t) := by
  obtain ⟨wi, pi, qi⟩ := hi
  obtain ⟨tgt, pg, qg⟩ := hg
  obtain ⟨t1, p1, q1⟩ := hb
  refine ⟨_, ps_for hp hc pi pg p1 hs, fun σ H Pr F ρ m E D' S l h => ?_⟩
  refine qi σ H Pr F ρ m _ _ _ S (l.ex σ ρ) h fun J H1 ⟨P1, F1, m1, items, S1, t1, ⟨G, Y, w, hG⟩, z⟩ => ?_
  obtain ⟨W, w0, wd, turn⟩ := z
  refine for_it w (fun i σ' H' => ∃ ρ' m' Pr' F', SR X.K C Pr' F' σ' ρ' m' H' ∧ Tr P1 F1 H1 Pr' F' H' ∧ W (items.drop i) ρ' m') ⟨ρ, m1, P1, F1, S1, Tr.refl, w0⟩ (fun i σ' H' _ ⟨ρ', m', P2, F2, S2, t2, _⟩ => (hG P2 F2 H' t2).1) (fun i x σ' H' H2 hi ⟨ρ', m', P2, F2, S2, t2, w2⟩ y => ?_) (fun σ' H' ⟨ρ', m', P2, F2, S2, t2, w2⟩ => ?_)
  · obtain ⟨k2, d, ed, hd⟩ := (hG P2 F2 H' t2).2 i x H2 y
    have S3 := S2.grow k2
    have t3 := t2.trans (S2.te k2).toTr
    have ei : items.drop i = d :: items.drop (i + 1) := by
      obtain ⟨hlt, e⟩ := List.getElem?_eq_some_iff.mp ed
      rw [List.drop_eq_getElem_cons hlt, e]
    rw [ei] at w2
    refine qg σ' H2 P2 F2 ρ' m' x d _ _ S3 hd (turn d _ ρ' m' w2) fun σ2 ρ2 S4 _ z => ?_
    have t4 := t1.toTr.trans t3
    exact q1 σ2 H2 P2 F2 ρ2 m' { E with nx := W (items.drop (i + 1)), ct := W (items.drop (i + 1)), bk := E.nx } _ S4 ⟨fun σ5 H5 ρ5 m5 P5 F5 S5 t5 w5 => ⟨ρ5, m5, P5, F5, S5, t3.trans t5, w5⟩, (l.tr t4).rt, (l.tr t4).nx, fun σ5 H5 ρ5 m5 P5 F5 S5 t5 w5 => ⟨ρ5, m5, P5, F5, S5, t3.trans t5, w5⟩, (l.tr t4).ex⟩ z
  · rw [List.drop_length] at w2
    exact l.nx _ _ _ _ _ _ S2 (t1.toTr.trans t2) (wd _ _ w2)
/-- from here on a list of its own is data -/
def dRel {M : Type} (i : Nat) (t : DS M) : DS M := fun E ρ m => match ρ[i]? with | some (.own ds) => t E (ρ.set i (.val (.lst ds))) m | _ => False
/-- raise X("..") -/
def dRaise {M : Type} (x : Str) : DS M := fun E _ m => E.ex x m
/-- an exception class of the program's own over ValueError -/
def ExcF (K : PySem.W.Frag) (mg : Str → Option Value) (x : Str) : Prop := ∃ Cc bmB newId initId, ExcBaseFacts "ValueError" newId initId bmB ∧ mg x = some (.ref Cc) ∧ PySem.W.excIn K Cc bmB newId = true ∧ PySem.W.keepIn K (.ref Cc) = true ∧ PySem.W.subIn K (.ref Cc) (.type "BaseException") = some true ∧ PySem.W.typeIn K (.ref Cc) = some (.type "type")
theorem js_raise {x msg : Str} {j : Nat} {p p2 cp : Pos} (hc : X.calm = true) (tk : Takes X C.wx) (h : ExcF X.K X.mg x) (hg : Gl X x := by rfl) (hdb : (x == ("__debug__" : Str)) = false := by decide) :
    JS X C (.Raise (some (.Call (.Name x p) [.Constant (.str msg) j p2] [] cp)) none pos) (dRaise x) := by
  obtain ⟨Cc, bmB, newId, initId, Fx, gC, qx, kC, r1, r2⟩ := h
  refine ⟨_, ps_raise hc tk (pmk_own Fx qx gC kC (raises_own r1 r2) hg hdb), fun σ H Pr F ρ m E D' S l h => ?_⟩
  exact l.ex σ ρ x (.ref Cc) Pr F m H gC S Tr.refl h
end
end RR

/-! RLo: statements that may change a list within a told tuple (of which nothing else holds a part) -/
namespace RR
open PySem PySem.Spec PyProof.Rows L2
structure LkL (X : Cx) (C : Cn) (E : DE C.W.M) (D' : Ends) : Prop where
  nx : ∀ σ' H' ρ' m' Pr' F', SR X.K C Pr' F' σ' ρ' m' H' → E.nx ρ' m' → D'.nx σ' H'
  rt : ∀ v H' d m' Pr' F' σ' ρ' H1, SR X.K C Pr' F' σ' ρ' m' H' → Dv X.K C .r Pr' F' H1 H' v d → E.rt d m' → D'.rt v H'
  bk : ∀ σ' H' ρ' m' Pr' F', SR X.K C Pr' F' σ' ρ' m' H' → E.bk ρ' m' → D'.bk σ' H'
  ct : ∀ σ' H' ρ' m' Pr' F', SR X.K C Pr' F' σ' ρ' m' H' → E.ct ρ' m' → D'.ct σ' H'
  ex : ∀ σ ρ x cls Pr' F' m' H', X.mg x = some cls → SR X.K C Pr' F' σ ρ m' H' → E.ex x m' → C.wx cls none σ H'
section
variable {X : Cx} {C : Cn} {e : Expr} {st : Stmt} {rest body els : List Stmt} {pos pos' : Pos} {t u : DS C.W.M}
theorem LkL.lk {E : DE C.W.M} {D' : Ends} {Pr : Addr → Prop} {F : List Addr} {H : Hp} (l : LkL X C E D') : Lk X C Pr F H E D' :=
  ⟨fun σ' H' ρ' m' P F S _ q => l.nx σ' H' ρ' m' P F S q, fun v H' d m' P F σ' ρ' H1 S _ dv q => l.rt v H' d m' P F σ' ρ' H1 S dv q, fun σ' H' ρ' m' P F S _ q => l.bk σ' H' ρ' m' P F S q, fun σ' H' ρ' m' P F S _ q => l.ct σ' H' ρ' m' P F S q, fun σ' ρ' x cls P F m' H' hm S _ z => l.ex σ' ρ' x cls P F m' H' hm S z⟩
def JSLs (X : Cx) (C : Cn) (st : List Stmt) (t : DS C.W.M) : Prop := ∃ ts, PSs X st ts ∧ ∀ σ H Pr F ρ m E D', SR X.K C Pr F σ ρ m H → LkL X C E D' → t E ρ m → ts D' σ H
theorem jls_of (h : JSs X C rest t) : JSLs X C rest t := by
  obtain ⟨t1, p, q⟩ := h
  exact ⟨t1, p, fun σ H Pr F ρ m E D' S l h => q σ H Pr F ρ m E D' S l.lk h⟩
/-! ### a told tuple's list that stands alone -/
/-- what stood there already -/
noncomputable def bef (Hs G : Hp) : Hp := fun a => if (Hs a).isSome then G a else none
theorem bef_iff {Hs G : Hp} {a : Addr} {o : HO} : bef Hs G a = some o ↔ (Hs a).isSome = true ∧ G a = some o := by
  unfold bef
  by_cases h : (Hs a).isSome = true
  · rw [if_pos h]; simp [h]
  · rw [if_neg h]; simp [h]
/-- the name i holds what is new since Hs; all else is from before -/
structure Sole (K : PySem.W.Frag) (C : Cn) (i : Nat) (Hs : Hp) (Pr : Addr → Prop) (F : List Addr) (H : Hp) (σ : L2.St) (ρ : En) : Prop where
  h0 : ∀ a, Hs a = none → C.H0 a = none
  me : ∀ d, ρ[i]? = some (.val d) → ∃ v, σ[i]? = some (some v) ∧ Dn true K F (sv Hs Pr H) v d
  others : ∀ k d, k ≠ i → ρ[k]? = some (.val d) → ∃ v, σ[k]? = some (some v) ∧ Dn true K F (bef Hs (sv C.H0 Pr H)) v d
  owns : ∀ (k : Nat) (ds : List D), ρ[k]? = some (Sl.own ds) → ∃ p vs, σ[k]? = some (some (.ref p)) ∧ H p = some (.lst vs) ∧ Pr p ∧ p ∉ F ∧ DnA true K F (bef Hs (sv C.H0 Pr H)) vs ds
theorem Sole.tr {K : PySem.W.Frag} {i : Nat} {Hs : Hp} {Pr Pr1 : Addr → Prop} {F F1 : List Addr} {H H1 : Hp} {σ : L2.St} {ρ : En} (s : Sole K C i Hs Pr F H σ ρ) (t : Te Pr F H Pr1 F1 H1) (hp : ∀ a, Pr a → ∃ o, H a = some o ∧ ¬ IsT o) : Sole K C i Hs Pr1 F1 H1 σ ρ :=
  ⟨s.h0, fun d e => let ⟨v, a, c⟩ := s.me d e; ⟨v, a, c.tr t.toTr hp⟩, fun k d n e => let ⟨v, a, b⟩ := s.others k d n e; ⟨v, a, b.mono t.pre fun a o h => bef_iff.mpr ⟨(bef_iff.mp h).1, sv_tr t.toTr hp a o (bef_iff.mp h).2⟩⟩, fun k ds e => let ⟨p, vs, a, hq, pq, nf, b⟩ := s.owns k ds e; ⟨p, vs, a, t.all p _ nf hq, t.prm p pq, (fun z => by
    have y := t.fn p z nf
    rw [hq] at y; cases y), b.mono t.pre fun a o h => bef_iff.mpr ⟨(bef_iff.mp h).1, sv_tr t.toTr hp a o (bef_iff.mp h).2⟩⟩⟩
end
end RR

/-! RH: a def's promise by its body; the law's own promise -/
namespace RR
open PySem PySem.Spec PyProof.Rows L2
theorem ncl_w : Cl.w ≠ Cl.f := fun h => nomatch h
theorem ncl_s : Cl.s ≠ Cl.f := fun h => nomatch h
/-- the names' states at a def's entry; true: borrowed (an argument with lists) -/
def st0 : List Bool → List D → Nat → En
  | b :: ks, d :: ds, n + 1 => (if b = true then .bor d else .val d) :: st0 ks ds n
  | _, _, n => List.replicate n .un
def okK : List Bool → List D → Prop
  | b :: ks, d :: ds => (b = false → d.nl = true) ∧ okK ks ds
  | [], [] => True
  | _, _ => False
theorem st0_len : ∀ {ks : List Bool} {ds : List D} {n : Nat}, (st0 ks ds n).length = n
  | _ :: ks, _ :: ds, n + 1 => congrArg (· + 1) (st0_len (ks := ks) (ds := ds) (n := n))
  | [], _, n => by simp [st0]
  | _ :: _, [], n => by simp [st0]
  | _ :: _, _ :: _, 0 => by simp [st0]
theorem st0_slot {K : PySem.W.Frag} {C : Cn} {F : List Addr} {H : Hp} (hF : C.F0 = F) (hH : C.H0 = H) : ∀ {ks : List Bool} {ds : List D} {vs : List V} {n : Nat}, DnA false K F (wv F H) vs ds → okK ks ds →
    ∀ (i : Nat) (s : Sl), (st0 ks ds n)[i]? = some s → Sk K C (· ∈ F) F H (vs.map some ++ List.replicate (n - vs.length) none)[i]? s
  | [], _, _, n, _, _, i, s, e => by
    have z : s = .un := by
      simp only [st0] at e
      exact (List.mem_replicate.mp (List.mem_of_getElem? e)).2
    subst z; trivial
  | _ :: _, [], _, n, _, _, i, s, e => by
    have z : s = .un := by
      simp only [st0] at e
      exact (List.mem_replicate.mp (List.mem_of_getElem? e)).2
    subst z; trivial
  | _ :: _, _ :: _, _, 0, _, _, i, s, e => by simp [st0] at e
  | b :: ks, d :: ds, _, n + 1, .cons (v := v) (vs := vs) h r, ok, 0, s, e => by
    have e : (if b = true then Sl.bor d else Sl.val d) = s := by simpa [st0] using e
    subst e
    cases b with
    | true =>
      rw [if_pos rfl]
      exact ⟨v, by simp, by rw [hF, hH]; exact h⟩
    | false =>
      rw [if_neg Bool.false_ne_true]
      exact ⟨v, by simp, h.up (ok.1 rfl)⟩
  | b :: ks, d :: ds, _, n + 1, .cons (v := v) (vs := vs) h r, ok, i + 1, s, e => by
    have e : (st0 ks ds n)[i]? = some s := by simpa [st0] using e
    have := st0_slot (n := n) hF hH r ok.2 i s e
    simpa [Nat.add_sub_add_right] using this
theorem st0_own {ks : List Bool} {ds : List D} {n : Nat} : ∀ (i : Nat) (es : List D), (st0 ks ds n)[i]? ≠ some (.own es) := by
  intro i es e
  induction ks generalizing ds n i with
  | nil =>
    simp only [st0] at e
    exact nomatch (List.mem_replicate.mp (List.mem_of_getElem? e)).2
  | cons b ks ih =>
    cases ds with
    | nil =>
      simp only [st0] at e
      exact nomatch (List.mem_replicate.mp (List.mem_of_getElem? e)).2
    | cons d ds =>
      cases n with
      | zero => simp [st0] at e
      | succ n =>
        cases i with
        | zero =>
          simp only [st0, List.getElem?_cons_zero, Option.some.injEq] at e
          split at e <;> cases e
        | succ i => exact ih i (by simpa [st0] using e)
section
variable {P : Program} {w : World} {K : PySem.W.Frag} {mg : Str → Option Value} {base : Heap} {W : Wd}
/-- the state of a def at its entry -/
theorem sr_entry {C : Cn} {F : List Addr} {H : Hp} {m : C.W.M} {ks : List Bool} {ds : List D} {vs : List V} {N : List Str} (hF : C.F0 = F) (hH : C.H0 = H) (rz : C.W.Rz m F H) (dv : DnA false K F (wv F H) vs ds) (ok : okK ks ds) (hl : vs.length ≤ N.length) :
    SR K C (· ∈ F) F (L2.start N vs) (st0 ks ds N.length) m H where
  keep := fun a o _ e => by rw [hH] at e; exact e
  pre := ⟨[], by rw [hF]; simp⟩
  new := fun a h n => absurd h (by rw [hF] at n; exact n)
  prs := fun a h => C.W.there rz a h
  prn := fun a h n => absurd h n
  prf := fun a h => h
  rz := rz
  len := by
    rw [st0_len]
    unfold L2.start
    rw [List.length_append, List.length_map, List.length_replicate]
    omega
  slot := st0_slot hF hH dv ok
  dist := fun i j ds' es p _ e => absurd e (st0_own i ds')
abbrev XOf (P : Program) (w : World) (K : PySem.W.Frag) (mg : Str → Option Value) (base : Heap) (N : List Str) (x : Str) (sc : Scope) (f : Addr) (cdv : Value) (A : Around) (outer : List Env) (s : Shared) (H : Hp) (E : XK) : Cx := cxOf (L2.CX P w) P w K mg base N x sc f cdv A outer s H E
theorem fn_dataR {x : Str} {st : Stmt} {f : Addr} {fd : FuncData} {N ps : List Str} {k : Nat} {sp : DSp W.M} {t : DS W.M} (ks : List Bool)
    (rule : ∀ {sq : Sp}, (∀ vs H Q E, sq vs H Q E → vs.length = ps.length) → (∀ (cdv : Value) (A : Around) (out : List Env) (s : Shared) (H : Hp) (vs : List V) (Q : VK) (E : XK), RoomG k (A.deeper (envOfC x (defScope st) s.heap.objs.size f cdv)) → sq vs H Q E →
      ∃ t, PSs (cxOf (L2.CX P w) P w K mg base N x (defScope st) f cdv A out s H E) (defBody st) t ∧ t { nx := fun _ H1 => Q .non H1, rt := Q } (start N vs) H) → FnG P w K mg base (L2.CX P w) (k + 1) f fd ps sq)
    (len : ∀ ds m Q Z, sp ds m Q Z → ds.length = ps.length) (hn : ps.length ≤ N.length)
    (body : ∀ (cdv : Value) (A : Around) (outer : List Env) (s : Shared) (H : Hp) (E : XK) (F0 : List Addr), RoomG k (A.deeper (envOfC x (defScope st) s.heap.objs.size f cdv)) →
      JSLs (XOf P w K mg base N x (defScope st) f cdv A outer s H E) ⟨W, H, F0, fun cls d _ H' => E cls d H'⟩ (defBody st) t)
    (vc : ∀ ds m Q Z, sp ds m Q Z → okK ks ds ∧ t { nx := fun _ m' => Q .non m', rt := Q, ex := Z } (st0 ks ds N.length) m) :
    FnG P w K mg base (L2.CX P w) (k + 1) f fd ps (spD K mg W sp) := by
  have ln : ∀ vs H Q E, spD K mg W sp vs H Q E → vs.length = ps.length := fun vs H Q E h => by
    obtain ⟨F, m, ds, Qd, Zd, rz, dv, q, _⟩ := h
    rw [dv.length]
    exact len _ _ _ _ q
  refine rule ln fun cdv A outer s H vs Q E hr h => ?_
  have lv := ln _ _ _ _ h
  obtain ⟨F0, m, ds, Qd, Zd, rz, dv, q, hq, hz⟩ := h
  obtain ⟨ts, p, r⟩ := body cdv A outer s H E F0 hr
  obtain ⟨ok, v⟩ := vc _ _ _ _ q
  refine ⟨ts, p, r (L2.start N vs) H (· ∈ F0) F0 _ m { nx := fun _ m' => Qd .non m', rt := Qd, ex := Zd } _ (sr_entry (C := ⟨W, H, F0, fun cls d _ H' => E cls d H'⟩) rfl rfl rz dv ok (by omega)) ⟨fun σ' H' ρ' m' P1 F1 S1 q => ?_, fun v H' d m' P1 F1 σ' ρ' H1 S1 dv q => ?_, fun _ _ _ _ _ _ _ q => q.elim, fun _ _ _ _ _ _ _ q => q.elim, fun σ' ρ' y cls P1 F1 m' H' hm S1 q => ?_⟩ v⟩
  · exact hq .non H' F1 .non m' S1.rz S1.pre (fun a h n => S1.new a h n) (fun a o n e => S1.keep a o n e) .non q
  · exact hq v H' F1 d m' S1.rz S1.pre (fun a h n => S1.new a h n) (fun a o n e => S1.keep a o n e) dv q
  · exact hz y cls H' F1 m' hm S1.rz S1.pre (fun a h n => S1.new a h n) (fun a o n e => S1.keep a o n e) q
theorem fn_data {x : Str} {st : Stmt} {f : Addr} {fd : FuncData} {N ps : List Str} {k : Nat} {sp : DSp W.M} {t : DS W.M} (ks : List Bool) (F : Fun K x x st f fd) (S : FnScope N ps (defScope st))
    (len : ∀ ds m Q Z, sp ds m Q Z → ds.length = ps.length) (hn : ps.length ≤ N.length)
    (body : ∀ (cdv : Value) (A : Around) (outer : List Env) (s : Shared) (H : Hp) (E : XK) (F0 : List Addr), RoomG k (A.deeper (envOfC x (defScope st) s.heap.objs.size f cdv)) →
      JSLs (XOf P w K mg base N x (defScope st) f cdv A outer s H E) ⟨W, H, F0, fun cls d _ H' => E cls d H'⟩ (defBody st) t)
    (vc : ∀ ds m Q Z, sp ds m Q Z → okK ks ds ∧ t { nx := fun _ m' => Q .non m', rt := Q, ex := Z } (st0 ks ds N.length) m) :
    FnG P w K mg base (L2.CX P w) (k + 1) f fd ps (spD K mg W sp) := fn_dataR ks (fun ln bd => okG F S ln bd) len hn body vc
/-- a def without defaults -/
theorem fd_of {g x : Str} {st : Stmt} {f : Addr} {fd : FuncData} {N ps : List Str} {k : Nat} {sp : DSp W.M} {t : DS W.M} (ks : List Bool) (F : Fun K x x st f fd) (gf : mg g = some (.ref f)) (b : Binds K fd ps []) (S : FnScope N ps (defScope st))
    (len : ∀ ds m Q Z, sp ds m Q Z → ds.length = ps.length) (hn : ps.length ≤ N.length)
    (body : ∀ (cdv : Value) (A : Around) (outer : List Env) (s : Shared) (H : Hp) (E : XK) (F0 : List Addr), RoomG k (A.deeper (envOfC x (defScope st) s.heap.objs.size f cdv)) →
      JSLs (XOf P w K mg base N x (defScope st) f cdv A outer s H E) ⟨W, H, F0, fun cls d _ H' => E cls d H'⟩ (defBody st) t)
    (vc : ∀ ds m Q Z, sp ds m Q Z → okK ks ds ∧ t { nx := fun _ m' => Q .non m', rt := Q, ex := Z } (st0 ks ds N.length) m) : FD P w K mg base W (k + 1) g [] sp :=
  ⟨f, fd, ps, [], [], fn_data ks F S len hn body vc, gf, F.kp, b, .nil, fun _ _ => .nil⟩
/-- a def of the text, as found behind the top -/
structure Dfn (K : PySem.W.Frag) (mg : Str → Option Value) (g x : Str) (st : Stmt) (ps : List Str) : Prop where
  ex : ∃ f fd, Fun K x x st f fd ∧ mg g = some (.ref f) ∧ Binds K fd ps []
/-- what fd_of asks of the body, in short: X and C as they stand -/
abbrev BodyJ (P : Program) (w : World) (K : PySem.W.Frag) (mg : Str → Option Value) (base : Heap) (W : Wd) (k : Nat) (N : List Str) (x : Str) (st : Stmt) (t : DS W.M) : Prop :=
  ∀ (f : Addr) (cdv : Value) (A : Around) (outer : List Env) (s : Shared) (H : Hp) (E : XK) (F0 : List Addr), RoomG k (A.deeper (envOfC x (defScope st) s.heap.objs.size f cdv)) →
      JSLs (XOf P w K mg base N x (defScope st) f cdv A outer s H E) ⟨W, H, F0, fun cls d _ H' => E cls d H'⟩ (defBody st) t
theorem Dfn.fd {g x : Str} {st : Stmt} {N ps : List Str} {k : Nat} {sp : DSp W.M} {t : DS W.M} (F : Dfn K mg g x st ps) (ks : List Bool) (S : FnScope N ps (defScope st)) (body : BodyJ P w K mg base W k N x st t)
    (len : ∀ ds m Q Z, sp ds m Q Z → ds.length = ps.length) (vc : ∀ ds m Q Z, sp ds m Q Z → okK ks ds ∧ t { nx := fun _ m' => Q .non m', rt := Q, ex := Z } (st0 ks ds N.length) m) (hn : ps.length ≤ N.length := by decide) : FD P w K mg base W (k + 1) g [] sp := by
  obtain ⟨f, fd, Fn, gf, b⟩ := F.ex
  exact fd_of ks Fn gf b S len hn (body f) vc
theorem FD.mono {j k : Nat} {x : Str} {dds : List D} {sp : DSp W.M} (h : FD P w K mg base W j x dds sp) (l : j ≤ k) : FD P w K mg base W k x dds sp := by
  obtain ⟨f, fd, ps, ds, dvs, F, r⟩ := h
  exact ⟨f, fd, ps, ds, dvs, F.mono l, r⟩
end
/-- the world of nothing -/
def W0 : Wd where
  M := Unit
  Rz := fun _ F _ => F = []
  keep := fun h _ _ => h
  there := fun h a ha => by rw [h] at ha; cases ha
/-- a law's own promise -/
def spLaw (K : PySem.W.Frag) : Sp := fun vs H Q _ => ∃ (a : Addr) (ns : List Int), vs = [.ref a] ∧ SqL K H a (ns.map V.int) ∧ ns.length ≤ 63 ∧ ∀ H', Q (.bl true) H'
theorem ints_dn {s : Bool} {K : PySem.W.Frag} {F : List Addr} {G : Hp} : ∀ ns : List Int, DnA s K F G (ns.map V.int) (ns.map D.int)
  | [] => .nil
  | n :: ns => .cons (.int n) (ints_dn ns)
theorem law_of {P : Program} {w : World} {K : PySem.W.Frag} {mg : Str → Option Value} {base : Heap} {W : Wd} {k : Nat} {f : Addr} {fd : FuncData} {ps : List Str} {sp : DSp W.M} {m0 : W.M} (F : FnG P w K mg base (L2.CX P w) k f fd ps (spD K mg W sp)) (r0 : ∀ H, W.Rz m0 [] H)
    (h : ∀ ns : List Int, ns.length ≤ 63 → sp [.lst (ns.map D.int)] m0 (fun d _ => d = .bl true) (fun _ _ => False)) : FnG P w K mg base (L2.CX P w) k f fd ps (spLaw K) := by
  refine F.imp fun vs H Q E h' => ?_
  obtain ⟨a, ns, rfl, hs, hl, q⟩ := h'
  refine ⟨[], m0, [.lst (ns.map D.int)], _, _, r0 H, .cons (.lst (Ls.mono (s := false) (fun a o e => vw_iff.mpr ⟨e, by simp⟩) (show Ls false K H a _ from hs)) (ints_dn ns)) .nil, h ns hl, fun v H' F' d m' _ _ _ _ dn e => ?_, fun _ _ _ _ _ _ _ _ _ _ z => z.elim⟩
  subst e
  cases dn
  exact q H'
end RR

/-! RH2: defs with whole numbers as defaults -/
namespace RR
open PySem PySem.Spec PyProof.Rows L2
/-- a def of the text with the defaults zs (whole numbers) -/
structure DfD (K : PySem.W.Frag) (mg : Str → Option Value) (g x : Str) (st : Stmt) (ps : List Str) (zs : List Int) : Prop where
  ex : ∃ f fd, FunD K x x (defArgs st) (defBody st) (defScope st) (zs.map V.int) [] f fd ∧ mg g = some (.ref f) ∧ ∀ j, j ≤ zs.length → ∃ ds, Vals ((zs.map V.int).drop j) ds ∧ Binds K fd ps ds
section
variable {P : Program} {w : World} {K : PySem.W.Frag} {mg : Str → Option Value} {base : Heap} {W : Wd}
/-- called with all but the defaults behind the first j -/
theorem DfD.go {g x : Str} {st : Stmt} {N ps : List Str} {zs : List Int} {k : Nat} {sp : DSp W.M} {t : DS W.M} (F : DfD K mg g x st ps zs) (j : Nat) (ks : List Bool) (S : FnScope N ps (defScope st)) (body : BodyJ P w K mg base W k N x st t)
    (vc : ∀ ds m Q Z, sp ds m Q Z → okK ks ds ∧ t { nx := fun _ m' => Q .non m', rt := Q, ex := Z } (st0 ks ds N.length) m) (len : ∀ ds m Q Z, sp ds m Q Z → ds.length = ps.length) (hj : j ≤ zs.length := by decide) (hn : ps.length ≤ N.length := by decide) :
    FD P w K mg base W (k + 1) g ((zs.drop j).map D.int) sp := by
  obtain ⟨f, fd, G, gf, bn⟩ := F.ex
  obtain ⟨ds, vds, bd⟩ := bn j hj
  have kp := G.kp
  obtain ⟨_, _, _, _, _, _, _, cdv, _, _, rfl, lk, cd, _, _⟩ := G.ex
  have ln : ∀ vs H Q E, spD K mg W sp vs H Q E → vs.length = ps.length := fun vs H Q E h => by
    obtain ⟨F0, m, ds, Qd, Zd, rz, dv, q, _⟩ := h
    rw [dv.length]
    exact len _ _ _ _ q
  refine ⟨f, _, ps, ds, (zs.map V.int).drop j, ?_, gf, kp, bd, vds, fun F0 G0 => by rw [← List.map_drop]; exact ints_dn _⟩
  exact fn_dataR (x := x) (st := st) ks (fun ln bd => fnG_mk lk cd S ln fun room asked => bd cdv _ _ _ _ _ _ _ room asked) len hn (body f) vc
end
end RR

/-! RV: what the readings come to: bounds, lists of numbers, comprehensions -/
namespace RR
open PySem PySem.Spec PyProof.Rows L2
/-! ### sizes -/
def bd (n : Nat) (x : Int) : Prop := x.natAbs < 2 ^ n
theorem mulok {i j : Int} {a b : Nat} (ha : bd a i) (hb : bd b j) (h : a + b ≤ 100000000 := by decide) : IntMulOk i j := by
  have l : ∀ {x : Int} {n : Nat}, x.natAbs < 2 ^ n → Builtin.Int.intBits x ≤ n := fun {x n} h => by
    unfold Builtin.Int.intBits
    split
    · exact Nat.zero_le _
    · rename_i h0
      have h0 : x.natAbs ≠ 0 := by simpa using h0
      exact (Nat.log2_lt h0).mpr h
  have h1 := l ha
  have h2 := l hb
  have e : bitsLine = 134217728 := by decide
  intro z
  rw [Bool.and_eq_true] at z
  have z2 := z.2
  unfold Builtin.Int.intTooBig at z2
  have z3 := of_decide_eq_true z2
  rw [e] at z3
  omega
theorem bd_mul {a b : Nat} {x y : Int} (h : bd a x) (h' : bd b y) : bd (a + b) (x * y) := by
  unfold bd at *
  rw [Int.natAbs_mul, Nat.pow_add]
  exact Nat.mul_lt_mul'' h h'
theorem bd_mono {a b : Nat} {x : Int} (h : bd a x) (l : a ≤ b) : bd b x := Nat.lt_of_lt_of_le h (Nat.pow_le_pow_right (by decide) l)
theorem bd_add {a b : Nat} {x y : Int} (h : bd a x) (h' : bd b y) : bd (max a b + 1) (x + y) := by
  have h1 : bd (max a b) x := bd_mono h (by omega)
  have h2 : bd (max a b) y := bd_mono h' (by omega)
  unfold bd at *
  rw [Nat.pow_succ]
  omega
theorem bd_neg {a : Nat} {x : Int} (h : bd a x) : bd a (-x) := by unfold bd at *; omega
theorem bd_sub {a b : Nat} {x y : Int} (h : bd a x) (h' : bd b y) : bd (max a b + 1) (x - y) := by
  have := bd_add h (bd_neg h')
  rwa [← Int.sub_eq_add_neg] at this
theorem bd_lit {n : Nat} {x : Int} (h : x.natAbs < 2 ^ n) : bd n x := h
theorem bd_fmod {b : Nat} {x y : Int} (h : bd b y) (h0 : 0 < y) : bd b (x.fmod y) := by
  have h1 := Int.fmod_nonneg_of_pos x h0
  have h2 := Int.fmod_lt_of_pos x h0
  unfold bd at *
  omega
theorem iabs_eq (x : Int) : iabs x = (x.natAbs : Int) := by unfold iabs; split <;> omega
theorem imax_eq (x y : Int) : imax x y = max x y := by unfold imax; omega
theorem imin_eq (x y : Int) : imin x y = min x y := by unfold imin; omega
theorem nd_small {i j : Int} {b : Nat} (h : j ≠ 0) (hb : bd b j) (l : b ≤ 9000 := by decide) : Nd i j := by
  refine ⟨h, PyProof.noPylong_of_log2 ?_⟩
  have h0 : j.natAbs ≠ 0 := by omega
  have := (Nat.log2_lt h0).mpr hb
  omega
theorem fdiv_pos {i j : Int} (h : 0 ≤ j) : i.fdiv j = i / j := Int.fdiv_eq_ediv_of_nonneg i h
theorem small_line {n : Nat} (h : n ≤ 16777216) : n ≤ sizeLine := by rw [sizeLine_eq]; exact h
theorem lt_line {n : Nat} (h : n < 16777216) : n < sizeLine := by rw [sizeLine_eq]; exact h
/-! ### lists of numbers -/
abbrev zz (xs : List Int) : List D := xs.map D.int
theorem nls_ints : ∀ xs : List Int, D.nls (zz xs) = true
  | [] => rfl
  | _ :: xs => nls_ints xs
theorem nl_row (xs : List Int) : D.nl (.tup (zz xs)) = true := nls_ints xs
theorem q_int {n : Nat} {i : Int} : (D.int i).q n = true := by cases n <;> rfl
theorem q_row {n : Nat} (xs : List Int) : (D.tup (zz xs)).q (n + 1) = true := List.all_eq_true.mpr fun d hd => by
  obtain ⟨i, _, rfl⟩ := List.mem_map.mp hd
  exact q_int
theorem q_lst {n : Nat} (xs : List Int) : (D.lst (zz xs)).q (n + 1) = true := List.all_eq_true.mpr fun d hd => by
  obtain ⟨i, _, rfl⟩ := List.mem_map.mp hd
  exact q_int
theorem eqvs_ints : ∀ xs ys : List Int, D.eqvs (zz xs) (zz ys) = decide (xs = ys)
  | [], [] => rfl
  | [], _ :: _ => rfl
  | _ :: _, [] => rfl
  | x :: xs, y :: ys => by
    show ((D.int x).eqv (.int y) && D.eqvs (zz xs) (zz ys)) = _
    rw [eqvs_ints xs ys]
    show (decide (x = y) && decide (xs = ys)) = _
    rw [Bool.eq_iff_iff]
    simp
theorem eqv_row (xs ys : List Int) : (D.tup (zz xs)).eqv (.tup (zz ys)) = decide (xs = ys) := eqvs_ints xs ys
theorem eqv_lst (xs ys : List Int) : (D.lst (zz xs)).eqv (.lst (zz ys)) = decide (xs = ys) := eqvs_ints xs ys
theorem eqv_int (x y : Int) : (D.int x).eqv (.int y) = decide (x = y) := rfl
theorem atI_ints {xs : List Int} {i : Int} : atI (zz xs) i = (atI xs i).map D.int := by
  unfold atI
  rw [List.length_map]
  cases ixN xs.length i with
  | none => rfl
  | some j => simp
theorem atI_at {α : Type} {xs : List α} {i : Int} (h0 : 0 ≤ i) (h1 : i < xs.length) : atI xs i = some (xs[i.toNat]'(by omega)) := by
  unfold atI ixN
  rw [if_pos h0, if_pos h1]
  simp
theorem ixN_at {n : Nat} {i : Int} (h0 : 0 ≤ i) (h1 : i < n) : ixN n i = some i.toNat := by
  unfold ixN
  rw [if_pos h0, if_pos h1]
theorem iota_map (n : Nat) : iota 0 n = (List.range n).map fun k => D.int (k : Nat) := by
  unfold iota
  refine List.map_congr_left fun k _ => ?_
  rw [Int.zero_add]
/-! ### slices of plain bounds -/
theorem cut_upto {ds : List D} {k : Int} (h0 : 0 ≤ k) : cutD ds none (some k) = ds.take k.toNat := by
  unfold cutD
  obtain ⟨n, rfl⟩ := Int.eq_ofNat_of_zero_le h0
  rw [HT.sIx_none, HT.sIx_nat, List.drop_zero, Nat.sub_zero]
  simp only [Int.toNat_natCast]
  rcases Nat.le_total n ds.length with h | h
  · rw [Nat.min_eq_left h]
  · rw [Nat.min_eq_right h, List.take_length, List.take_of_length_le h]
/-! ### comprehensions -/
section
variable {M : Type} {α : Type} {g : DG} {tt : DTT M} {te : DT M} {ρ : En}
/-- items that are kept or not by a known test, the element known -/
theorem lcGo_filter {inj h : α → D} {keep : α → Bool} : ∀ (xs : List α) {acc : List D} {m : M} {Q : List D → M → Prop},
    (∀ a ∈ xs, ∀ m (k : D → M → Prop) (l : M → Prop), (keep a = true → k (h a) m) → (keep a = false → l m) → g (inj a) ρ fun ρ2 => tt ρ2 m (fun b m1 => if b = true then te ρ2 m1 k (fun _ _ => False) else l m1) (fun _ _ => False)) →
    acc.length + xs.length ≤ sizeLine → Q (acc ++ (xs.filter keep).map h) m → lcGo g tt te ρ (xs.map inj) acc m Q
  | [], acc, m, Q, _, _, q => by
    show Q acc m
    simpa using q
  | a :: xs, acc, m, Q, st, hl, q => by
    rw [List.length_cons] at hl
    refine st a List.mem_cons_self m _ _ (fun hk => ⟨by omega, ?_⟩) fun hk => ?_
    · refine lcGo_filter xs (fun b hb => st b (List.mem_cons_of_mem _ hb)) (by rw [List.length_append, List.length_cons, List.length_nil]; omega) ?_
      rw [List.filter_cons_of_pos hk, List.map_cons] at q
      simpa using q
    · refine lcGo_filter xs (fun b hb => st b (List.mem_cons_of_mem _ hb)) (by omega) ?_
      rw [List.filter_cons_of_neg (by simp [hk])] at q
      exact q
theorem lcGo_map {inj h : α → D} (xs : List α) {m : M} {Q : List D → M → Prop}
    (st : ∀ a ∈ xs, ∀ m (k : D → M → Prop) (l : M → Prop), k (h a) m → g (inj a) ρ fun ρ2 => tt ρ2 m (fun b m1 => if b = true then te ρ2 m1 k (fun _ _ => False) else l m1) (fun _ _ => False))
    (hl : xs.length ≤ sizeLine) (q : Q (xs.map h) m) : lcGo g tt te ρ (xs.map inj) [] m Q := by
  refine lcGo_filter (keep := fun _ => true) xs (fun a ha m k l h1 _ => st a ha m k l (h1 rfl)) (by simpa using hl) ?_
  rw [List.filter_eq_self.mpr fun _ _ => rfl]
  simpa using q
end
end RR

/-! RR1: repr of data -/
namespace RR
open PySem PySem.Spec PyProof.Rows L2
section
variable {X : Cx}
end
mutual
theorem py_nodict : ∀ d : D, d.py.hasDict = false
  | .non => by simp only [D.py, PyData.hasDict]
  | .bl b => by simp only [D.py, PyData.hasDict]
  | .int i => by simp only [D.py, PyData.hasDict]
  | .str x => by simp only [D.py, PyData.hasDict]
  | .hnd n => by simp only [D.py, PyData.hasDict]
  | .dic => by simp only [D.py, PyData.hasDict]
  | .exc n => by simp only [D.py, PyData.hasDict]
  | .fn n => by simp only [D.py, PyData.hasDict]
  | .ptr n => by simp only [D.py, PyData.hasDict]
  | .tup xs => by simp only [D.py, PyData.hasDict]; exact pys_nodict xs
  | .lst xs => by simp only [D.py, PyData.hasDict]; exact pys_nodict xs
theorem pys_nodict : ∀ ds : List D, PyData.hasDictAll (D.pys ds) = false
  | [] => by simp only [D.pys, PyData.hasDictAll]
  | d :: ds => by simp only [D.pys, PyData.hasDictAll, py_nodict d, pys_nodict ds, Bool.or_self]
end
/-- repr's word -/
def D.rep (d : D) : Str := d.py.shown
section
variable {X : Cx} {C : Cn}
end
end RR

/-! RR2: when repr tells data -/
namespace RR
open PySem PySem.Spec PyProof.Rows L2
theorem q_up : ∀ {n : Nat} {d : D}, d.q n = true → d.q (n + 1) = true
  | n, .non, _ => by cases n <;> rfl
  | n, .bl b, _ => by cases n <;> rfl
  | n, .int i, _ => by cases n <;> rfl
  | n, .str x, h => by cases n <;> exact h
  | n, .hnd x, h => by cases n <;> cases h
  | n, .dic, h => by cases n <;> cases h
  | n, .exc x, h => by cases n <;> cases h
  | n, .fn x, h => by cases n <;> cases h
  | n, .ptr x, h => by cases n <;> cases h
  | 0, .tup xs, h => by cases h
  | 0, .lst xs, h => by cases h
  | n + 1, .tup xs, h => List.all_eq_true.mpr fun d hd => q_up (List.all_eq_true.mp h d hd)
  | n + 1, .lst xs, h => List.all_eq_true.mpr fun d hd => q_up (List.all_eq_true.mp h d hd)
theorem q_le {n k : Nat} {d : D} (h : d.q n = true) (l : n ≤ k) : d.q k = true := by
  induction l with
  | refl => exact h
  | step _ ih => exact q_up ih
/-- at most k deep, shown by at most c signs -/
structure Sh (k c : Nat) (d : D) : Prop where
  q : d.q k = true
  s : d.py.showable = true
  l : d.py.shown.length ≤ c
theorem Sh.le {k k' c c' : Nat} {d : D} (h : Sh k c d) (hk : k ≤ k') (hc : c ≤ c') : Sh k' c' d := ⟨q_le h.q hk, h.s, Nat.le_trans h.l hc⟩
end RR

/-! RT: try: .. except X as n: y = n, the error held as data -/
namespace RR
open PySem PySem.Spec PyProof.Rows L2
section
variable {X : Cx} {pins : List (Addr × Obj)} {σ : L2.St} {H : Hp} {s : Shared}
/-- an object that is newer than the def's entry is told from now on -/
theorem Inv.told {a : Addr} {o : HO} (I : Inv X pins σ H s) (h0 : X.s_0.heap.get? a = none) (hn : H a = none) (nL : a ≠ X.env.locals) (nC : ∀ x c, X.env.cells.lookup x = some c → c ≠ a) (nP : ∀ p ∈ X.pn ++ pins, p.1 ≠ a)
    (new : ObjOk X.prog X.w (upd H a o) s.heap a o) : Inv X pins σ (upd H a o) s := by
  have ne0 : ∀ {b u}, X.s_0.heap.get? b = some u → b ≠ a := fun e z => by rw [z, h0] at e; cases e
  have neH : ∀ {b u}, H b = some u → b ≠ a := fun e => ne_of_none e hn
  refine ⟨I.ok, I.os, I.bare, ⟨I.base.keep, I.base.slot, fun b u e n hx => ?_, I.base.there, fun b xs e => ?_, fun b u v e => ?_, fun b ps e => ?_⟩, I.loc, I.cell, ?_, fun x c e => ?_, fun p hp => ?_, fun b u e => ?_, I.len⟩
  · rw [upd_ne (ne0 e)]; exact I.base.free b u e n hx
  · have q := I.base.tups b xs e
    rw [upd_ne (neH q)]; exact q
  · have q := I.base.frzs b u v e
    rw [upd_ne (neH q)]; exact q
  · obtain ⟨m, q⟩ := I.base.tbls b ps e
    exact ⟨m, by rw [upd_ne (neH q)]; exact q⟩
  · rw [upd_ne nL.symm]; exact I.free
  · rw [upd_ne (nC x c e)]; exact I.freeC x c e
  · obtain ⟨e1, e2, e3⟩ := I.pin p hp
    exact ⟨e1, by rw [upd_ne (nP p hp)]; exact e2, e3⟩
  · by_cases hb : b = a
    · subst hb
      rw [upd_same] at e; cases e
      exact new
    · rw [upd_ne hb] at e
      exact (I.hok b u e).stay (fun c v _ q => q) (fun c q => by rw [upd_ne (neH q)]; exact q) fun c xs q => by rw [upd_ne (neH q)]; exact q
end
/-- what is wished of an exception within: caught by x, it is held by slot j from then on -/
def wHold (K : PySem.W.Frag) (c : Value) (i j : Nat) (Wout : WX) (D : Ends) : WX := fun cls d σ H =>
  ∃ b, PySem.W.exmOne K cls c = some b ∧ (b = true → d = none ∧ ∃ C, cls = .ref C ∧ ∀ a, H a = none → D.nx (((σ.set i (some (.ref a))).set j (some (.ref a))).set i none) (upd H a (ExI C a))) ∧ (b = false → Wout cls d σ H)
section
variable {X : Cx} {x n y : Str} {c : Value} {i j : Nat} {body : List Stmt} {np n2 yp ap pos pos' : Pos} {tb : WX → TS} {Wout : WX}
theorem ps_hold (hst : X.stack = X.env :: X.outer) (hfm : X.env.frame = some X.env.locals) (hex : X.ex = []) (hN : X.N.Nodup) (hi : X.N[i]? = some n) (hj : X.N[j]? = some y) (hln : X.env.kindOf n = some .local) (hly : X.env.kindOf y = some .local) (hij : i ≠ j) (hc : Names X x c) (tk : Takes X Wout)
    (hb : ∀ (W : WX) (pn : List (Addr × Obj)) (xe : Value → Shared → Prop), Takes (X.tr pn xe) W → PassesOwn (model X.prog X.w) X.A X.env xe → PSs (X.tr pn xe) body (tb W))
    (hsu : ∀ (a : Addr) (oe : Obj) (pn : List (Addr × Obj)), PSs (X.suite a ((a, oe) :: pn)) [.Assign [.Name y yp] (.Name n n2) ap] (tSeq (tAsg (tVar i) (gName j)) tNext)) :
    PS X (.Try body [.ExceptHandler (some (.Name x np)) (some n) [.Assign [.Name y yp] (.Name n n2) ap] pos'] [] [] pos) (fun D σ H => tb (wHold X.K c i j Wout D) D σ H) := by
  constructor
  intro pins s σ H D I asked
  have ok := I.ok
  have frames : X.A.frames = some (X.env :: X.outer) := by rw [ok.frames, hst]
  let handler : List ExceptHandler := [.ExceptHandler (some (.Name x np)) (some n) [.Assign [.Name y yp] (.Name n n2) ap] pos']
  let air : Value → Shared → Prop := fun e t1 => wpAny (model X.prog X.w) X.A (noteFrame e X.env) (fun _ t2 => wpAny (model X.prog X.w) X.A (setFlight e none) (fun _ t3 => wpAny (model X.prog X.w) X.A (handleBy e X.env handler) (SP X pins D) X.xe t3) X.xe t2) X.xe t1
  refine wpAny_Try_except (wpAny_mono ((hb (wHold X.K c i j Wout D) (X.pn ++ pins) air (fun u s' caught => ?_) PassesOwn.looking).run [] s σ H D (I.toTry _) asked) (fun fl s1 end1 => ?_) fun _ _ z => z)
  · obtain ⟨a, B, sI, pins', σ', H', cls, d, rfl, JX, nb, up, sky, na, os, ag, b, isB, yes, no⟩ := caught
    have J : Inv X pins σ' H' sI := JX.ofTry ok
    rw [show X.tr (X.pn ++ pins) air = X.tr (X.pn ++ pins) air from rfl] at sky
    have sky2 : Sky B (X.env :: X.outer) a (Zc cls d) X.env.locals s'.heap := by rw [← hst]; exact sky
    refine Sky.land Zc.steady frames hfm sky2 fun h3 fly up3 => ?_
    have J3 : Inv X pins σ' H' { s' with heap := h3 } := J.landed nb fly.1 (up.trans up3) os ag
    have noFrame : ∀ {h : Heap} {o : Obj} {vs : Array Value}, h.FunFrames B (X.env :: X.outer) → h.get? a = some o → o.data = .fields vs → a ∉ frs (X.env :: X.outer) := fun ff e dd hm => by
      obtain ⟨_, o', e', nofields⟩ := ff.mem hm
      rw [e] at e'; cases e'
      exact nofields _ dd
    obtain ⟨oe3, vs3, at3, z3, dt3⟩ := fly.there
    have nfr := noFrame fly.2.2.1 at3 dt3
    have nL : a ≠ X.env.locals := fun z => nfr (List.mem_filterMap.mpr ⟨X.env, List.mem_cons_self, by rw [hfm, z]⟩)
    have nF : a ∉ X.fs := fun hm => by
      obtain ⟨e, he, q⟩ := List.mem_filterMap.mp hm
      exact nfr (List.mem_filterMap.mpr ⟨e, List.mem_cons_of_mem _ he, q⟩)
    have aI : sI.heap.get? a = none := by
      cases q : sI.heap.get? a with
      | none => rfl
      | some o =>
        have z := nb a o q (by rw [show (X.tr (X.pn ++ pins) air).stack = X.env :: X.outer from hst]; exact nfr)
        rw [fly.2.1] at z; cases z
    have a0 : X.s_0.heap.get? a = none := by
      cases q : X.s_0.heap.get? a with
      | none => rfl
      | some o =>
        obtain ⟨o', z⟩ := J.base.there a o q (by rw [hex]; simp)
        rw [aI] at z; cases z
    have aC : ∀ z c, X.env.cells.lookup z = some c → c ≠ a := fun z c e q => by
      obtain ⟨v, o, ho, _⟩ := J.cell z c e
      rw [q, aI] at ho; cases ho
    have aP : ∀ p ∈ X.pn ++ pins, p.1 ≠ a := fun p hp q => by
      have e1 := (J.pin p hp).1
      rw [q, aI] at e1; cases e1
    have S3 := J3.suite at3 dt3 na nL nF
    refine wpAny_handleBy_cons (codeAny_handlers_test ?_) (by intro q; cases q)
    have typed : PySem.W.Looks (model X.prog X.w) h3 (typeOf (.ref a)) cls := fun A Q E t k q => wpAny_typeOf_ref (k _ _ at3) (by rw [z3.1]; exact q)
    have test : ∀ {Q : Value → Shared → Prop} {E : Value → Shared → Prop}, Q c { s' with heap := h3 } → wpAny (model X.prog X.w) (X.A.mark (some (.ref a))) (eval (.Name x np) X.env) Q E { s' with heap := h3 } := fun q => by
      obtain ⟨hg, hdbg, hm | ⟨hm, hv, hnn⟩⟩ := hc
      · exact ld_glob (X := X.suite a ((a, oe3) :: (X.pn ++ pins))) S3 hg hm q hdbg
      · exact ld_blt (X := X.suite a ((a, oe3) :: (X.pn ++ pins))) S3 hg hm hv q hnn hdbg
    refine test ((PySem.W.exm_one (M := model X.prog X.w) J3.kIn typed isB).here ?_)
    cases b with
    | false =>
      show wpAny _ X.A (handleBy (.ref a) X.env []) _ _ _
      refine wpAny_handleBy_nil ?_
      obtain ⟨_, _, _, oe, vs, T, oT, ts', he, hz, hd, h1, hr⟩ := id fly
      unfold PySem.passOn
      refine wpAny_bind (wpAny_field he hd h1 ?_)
      rw [if_neg (show ¬ ((Value.ref T == Value.none) = true) from by simp)]
      have fin : wpAny (model X.prog X.w) X.A (setFlight (.ref a) X.env.frame) (fun _ t => wpAny (model X.prog X.w) X.A (throw (.ref a) : Sem Flow) (SP X pins D) X.xe t) X.xe { s' with heap := h3 } := by
        rw [hfm]
        refine HandSPX.setFlight_upZ fly fun h4 held up4 => wpAny_throw (tk _ _ ⟨a, B, sI, pins, σ', H', cls, d, rfl, J, nb, (up.trans up3).trans up4, .inr (.inr (by rw [hst]; exact held)), na, os, ag, no rfl⟩)
      first
        | exact wpAny_bind (wpAny_pure (wpAny_bind fin))
        | exact wpAny_bind fin
    | true =>
      obtain ⟨rfl, C, rfl, next⟩ := yes rfl
      refine codeAny_handlers_suite_as (HandSPX.lands_againZ fly fun h4 fly4 up4 => ?_)
      have J4 : Inv X pins σ' H' { s' with heap := h4 } := J.landed nb fly4.1 ((up.trans up3).trans up4) os ag
      obtain ⟨oe4, vs4, at4, z4, dt4⟩ := fly4.there
      have S4 := J4.suite at4 dt4 na nL nF
      refine store_ok (X := X.suite a ((a, oe4) :: (X.pn ++ pins))) (v := .ref a) S4 hN hi (.inl hln) rfl (fun s5 S5 => ?_) (.inr hln)
      let D5 : Ends := { nx := fun σ5 H5 => σ5 = (σ'.set i (some (.ref a))).set j (some (.ref a)) ∧ H5 = H', rt := fun _ _ => False, bk := fun _ _ => False, ct := fun _ _ => False }
      have hlt : i < σ'.length := by rw [J4.len]; exact (List.getElem?_eq_some_iff.mp hi).1
      refine wpAny_mono ((hsu a oe4 (X.pn ++ pins)).run [] s5 _ H' D5 S5 ⟨.ref a, by rw [List.getElem?_set_self hlt], rfl, rfl⟩) (fun fl s6 end6 => ?_) (fun _ _ z => False.elim z)
      cases fl with
      | next =>
        obtain ⟨σ6, H6, S6, rfl, rfl⟩ := end6
        refine gone_ok (X := X.suite a ((a, oe4) :: (X.pn ++ pins))) S6 hN hi hln fun s7 S7 => ?_
        obtain ⟨at7, _⟩ := S7.pin (a, oe4) (by simp)
        have J7 : L2.Inv X pins _ H6 s7 := S7.unsuite ok
        refine ⟨_, upd H6 a (ExI C a), Inv.told J7 a0 na nL aC aP ⟨?_, ⟨oe4, at7⟩, fun g1 g2 w k => ?_⟩, next a na⟩
        · have e : (s7.heap.get? a).getD default = oe4 := by rw [at7]; rfl
          show PySem.W.InstAt s7.heap a ((s7.heap.get? a).getD default) C none
          rw [e]
          obtain ⟨oc, od, oda, osl⟩ := oe4
          obtain ⟨q1, q2⟩ := z4
          dsimp only at q1 q2 dt4
          subst q1 q2 dt4
          exact ⟨at7, rfl, rfl, trivial⟩
        · obtain ⟨w1, w2, w3, w4⟩ := w
          have e := k _ w1
          have e2 : (g2.get? a).getD default = (g1.get? a).getD default := by rw [e]; rfl
          show PySem.W.InstAt g2 a ((g2.get? a).getD default) C none
          rw [e2]
          refine ⟨e, w2, w3, ?_⟩
          cases q : ((g1.get? a).getD default).dict with
          | none => trivial
          | some dx => rw [q] at w4; exact w4.elim
      | brk => obtain ⟨_, _, _, z⟩ := end6; exact z.elim
      | cont => obtain ⟨_, _, _, z⟩ := end6; exact z.elim
      | ret u => obtain ⟨_, _, _, _, _, z⟩ := end6; exact z.elim
  · cases fl with
    | next =>
      obtain ⟨σ', H', J', q⟩ := end1
      exact wpAny_execs_nil ⟨σ', H', J'.ofTry ok, q⟩
    | brk =>
      obtain ⟨σ', H', J', q⟩ := end1
      exact ⟨σ', H', J'.ofTry ok, q⟩
    | cont =>
      obtain ⟨σ', H', J', q⟩ := end1
      exact ⟨σ', H', J'.ofTry ok, q⟩
    | ret u =>
      obtain ⟨v, σ', H', J', r, q⟩ := end1
      exact ⟨v, σ', H', J'.ofTry ok, r, q⟩
end
end RR

/-! R3: further rules over data: calls of none, {}, is of truths, all, any, in, join, items looked at, lists of lists summed, try, isinstance of errors -/
namespace RR
open PySem PySem.Spec PyProof.Rows L2
section
variable {X : Cx} {C : Cn} {e a b : Expr} {es : List Expr} {pos : Pos} {ta tb : DT C.W.M}
/-! ### a call without arguments -/
/-! ### {} -/
theorem j_dic : J .f X C (.Dict [] [] pos) (dC .dic) := by
  refine ⟨_, pe_dnewK, fun σ H Pr F ρ m Q Z R S E q k p hp => k _ _ ?_⟩
  obtain ⟨S2, t2⟩ := S.new1 (o := .dK []) hp
  have np := S.np hp
  exact ⟨Pr, F, m, .dic, S2, t2, ⟨.dic (vw_iff.mpr ⟨upd_same, .inr ⟨trivial, np, S.h0n hp⟩⟩), fun ds e => nomatch e⟩, q⟩
/-! ### is, is not of truths -/
def gIsB : G2 := fun x y Q => match x, y with | .bl i, .bl j => Q (.bl (decide (i = j))) | _, _ => False
def gNotB : G2 := fun x y Q => match x, y with | .bl i, .bl j => Q (.bl (!decide (i = j))) | _, _ => False
/-! ### all, any of a list of truths -/
def gAll : List D → (D → Prop) → Prop
  | [.lst ds], Q => ∃ bs : List Bool, ds = bs.map D.bl ∧ Q (.bl (bs.all id))
  | _, _ => False
/-! ### x in a list -/
def gNin : G2 := fun x y Q => match y with
  | .lst ds => x.q 8 = true ∧ (D.lst ds).q 8 = true ∧ Q (.bl (!ds.any fun z => z.eqv x))
  | _ => False
theorem any_py {x : D} (hx : x.q 8 = true) : ∀ {ds : List D}, (∀ d ∈ ds, d.q 8 = true) → ((D.pys ds).any fun z => PyData.eqv z x.py) = ds.any fun z => z.eqv x
  | [], _ => by simp only [D.pys, List.any_nil]
  | d :: ds, h => by
    simp only [D.pys, List.any_cons]
    rw [py_eqv (h d List.mem_cons_self) hx, any_py hx fun y hy => h y (List.mem_cons_of_mem _ hy)]
theorem ok_nin (hu : X.A.units + 65 < cLine) : OpOk X C (compareOp .NotIn) gNin := by
  refine ⟨_, op_notInD hu, fun σ H Pr F ρ m x y dx dy Q R S hx hy q k => ?_⟩
  unfold gNin at q
  split at q
  · rename_i ds
    obtain ⟨q1, q2, q⟩ := q
    have h2 : ∀ d ∈ ds, d.q 8 = true := fun d hd => q_up (List.all_eq_true.mp q2 d hd)
    refine ⟨_, _, hx.dp (fun _ _ => wv_le) q1, hy.dp (fun _ _ => wv_le) q2, shaped_q q1, shaped_q q2, k _ _ (post_here S (.bl _) (fun _ h => nomatch h) ?_)⟩
    rw [any_py q1 h2]
    exact q
  · exact q.elim
/-! ### methods of texts -/
def dS1 {M : Type} (g : Str → D → (D → Prop) → Prop) (t u : DT M) : DT M := fun ρ m Q Z => t ρ m (fun x m1 => match x with | .str z => u ρ m1 (fun y m2 => g z y fun d => Q d m2) Z | _ => False) Z
/-! ### items only looked at -/
/-! ### lists with lists within, summed -/
def gAddS : G2 := fun x y Q => match x, y with
  | .lst xs, .lst ys => xs.length + ys.length ≤ sizeLine ∧ Q (.lst (xs ++ ys))
  | _, _ => False
theorem j_addS (ha : J .s X C a ta) (hb : J .s X C b tb) : J .f X C (.BinOp a .Add b pos) (dBin gAddS ta tb) := by
  obtain ⟨te, p, q1⟩ := ha
  obtain ⟨te', p', q2⟩ := hb
  refine ⟨_, pe_op op_cat p p', fun σ H Pr F ρ m Q Z R S E h k => ?_⟩
  refine q1 σ H Pr F ρ m _ Z _ S E h fun v H1 ⟨P1, F1, m1, d, S1, t1, dv, z⟩ => ?_
  refine q2 σ H1 P1 F1 ρ m1 _ Z _ S1 (E.te t1.toTr) z fun w H2 ⟨P2, F2, m2, d2, S2, t2, dv2, z2⟩ => ?_
  have dv : Dn true X.K F2 (sv C.H0 P2 H2) v d := Dn.tr t2.toTr S1.prs dv
  have dv2 : Dn true X.K F2 (sv C.H0 P2 H2) w d2 := dv2
  unfold gAddS at z2
  dsimp only at z2
  split at z2
  · cases dv with
    | lst h1 r1 =>
      cases dv2 with
      | lst h2 r2 =>
        have e1 : H2 _ = some (.lst _) := sv_le h1
        have e2 : H2 _ = some (.lst _) := sv_le h2
        exact ⟨_, _, _, _, rfl, rfl, e1, e2, by rw [r1.length, r2.length]; exact z2.1, fun p hp => k _ _ (((post_new S2 hp (r1.app r2) z2.2).te t2).te t1)⟩
  · exact z2.elim
/-! ### isinstance of an error that is held -/
/-- instances of the class x are such of the class T: b -/
def IsF (K : PySem.W.Frag) (mg : Str → Option Value) (x T : Str) (b : Bool) : Prop := ∃ D, ∃ cv : Value, NsC K x D ∧ ExcC K D ∧ ((∃ a, mg T = some (.ref a) ∧ cv = .ref a) ∨ ∃ t, mg T = none ∧ bootBuiltins T = some (.type t) ∧ T ≠ "__name__" ∧ cv = .type t) ∧ PySem.W.kitOne K (.ref D) cv = some b
def rIsX (K : PySem.W.Frag) (D : Addr) (cv : Value) : List V → Hp → VK → Prop := fun xs H Q => ∃ (a : Addr) (c : V) (b : Bool), xs = [.ref a, c] ∧ H a = some (ExI D a) ∧ (∀ u, RelV c u → u = cv) ∧ PySem.W.kitOne K (.ref D) cv = some b ∧ Q (.bl b) H
theorem call_isX {D : Addr} {cv : Value} (c : ExcC X.K D) : CallR X (.builtin "isinstance") (rIsX X.K D cv) := by
  intro pins s σ H xs us Q I r h
  obtain ⟨a, cc, b, rfl, ha, hcv, e, q⟩ := h
  cases r with
  | cons rx rr =>
    cases rr with
    | cons rt rr =>
      cases rr
      cases rx
      have ec := hcv _ rt
      subst ec
      obtain ⟨at_, _, _⟩ := I.hok a _ ha
      exact PySem.W.kia_one (PySem.W.handS_kitx_exc c.hg c.hk c.hs c.hd c.ha c.hn c.ht c.hm) I.kIn at_ e (fun z => nomatch z) fun tk => ⟨.bl b, H, I.kept (t' := tk) fun _ _ z => z, rfl, q⟩
def dIsE {M : Type} (bs : List (Str × Bool)) (t : DT M) : DT M := fun ρ m Q Z => t ρ m (fun d m1 => match d with | .exc x => (match bs.lookup x with | some b => Q (.bl b) m1 | none => False) | _ => False) Z
theorem nsc_inj {K : PySem.W.Frag} {x : Str} {D D' : Addr} (h : NsC K x D) (h' : NsC K x D') : D = D' := by
  unfold NsC at h h'
  rw [h] at h'
  cases h'; rfl
/-- the class by its name, as a value -/
theorem pe_cls {T : Str} {p : Pos} {cv : Value} (hc : (∃ a, X.mg T = some (.ref a) ∧ cv = .ref a) ∨ ∃ t, X.mg T = none ∧ bootBuiltins T = some (.type t) ∧ T ≠ "__name__" ∧ cv = .type t) (hg : Gl X T) (hdb : (T == ("__debug__" : Str)) = false) :
    ∃ c, (∀ u, RelV c u → u = cv) ∧ PE X (.Name T p) (tC c) := by
  rcases hc with ⟨a, h, rfl⟩ | ⟨t, h, hv, hn, rfl⟩
  · exact ⟨.ref a, fun u r => r, pe_glob hg h rfl hdb⟩
  · exact ⟨.ty t, fun u r => r, pe_bltn hg h hv (v := .ty t) rfl hn hdb⟩
theorem j_isE {T : Str} {p p2 : Pos} {bs : List (Str × Bool)} (hT : ∀ x b, (x, b) ∈ bs → IsF X.K X.mg x T b) (hne : bs ≠ []) (ha : J .w X C a ta) (mi : X.mg "isinstance" = none) (gi : Gl X "isinstance" := by rfl) (gx : Gl X T := by rfl) (hdb : (T == ("__debug__" : Str)) = false := by decide)
    (he : starEach [a, .Name T p2] X.env = (false, eval a X.env) :: starEach [.Name T p2] X.env := by rfl) (hpl : (backTo pos (starEach [.Name T p2] X.env)).any (·.1) = false := by rfl) :
    J .f X C (.Call (.Name "isinstance" p) [a, .Name T p2] [] pos) (dIsE bs ta) := by
  obtain ⟨te, pa, q⟩ := ha
  have one : ∃ cv, ((∃ a, X.mg T = some (.ref a) ∧ cv = Value.ref a) ∨ ∃ t, X.mg T = none ∧ bootBuiltins T = some (.type t) ∧ T ≠ "__name__" ∧ cv = .type t) := by
    cases bs with
    | nil => exact absurd rfl hne
    | cons xb r =>
      obtain ⟨D, cv, _, _, h, _⟩ := hT xb.1 xb.2 List.mem_cons_self
      exact ⟨cv, h⟩
  obtain ⟨cv, hcv⟩ := one
  obtain ⟨c, hc, pc⟩ := pe_cls (p := p2) hcv gx hdb
  have uniq : ∀ {cv'}, ((∃ a, X.mg T = some (.ref a) ∧ cv' = Value.ref a) ∨ ∃ t, X.mg T = none ∧ bootBuiltins T = some (.type t) ∧ T ≠ "__name__" ∧ cv' = .type t) → cv' = cv := fun h => by
    rcases h with ⟨a, h, rfl⟩ | ⟨t, h, hv, _, rfl⟩
    · rcases hcv with ⟨a', h', rfl⟩ | ⟨t', h', _⟩
      · rw [h] at h'; cases h'; rfl
      · rw [h] at h'; cases h'
    · rcases hcv with ⟨a', h', rfl⟩ | ⟨t', h', hv', _, rfl⟩
      · rw [h] at h'; cases h'
      · rw [hv] at hv'; cases hv'; rfl
  have rule : CallR X (.builtin "isinstance") (fun xs H Q => ∃ D, ExcC X.K D ∧ rIsX X.K D cv xs H Q) := fun pins s σ H xs us Q I r ⟨D, e, h⟩ => call_isX e pins s σ H xs us Q I r h
  refine ⟨_, pe_callB rule gi mi (by decide +kernel) (pa_cons pa (pa_cons pc pa_nil) he) (by decide) (by decide) he hpl, fun σ H Pr F ρ m Q Z R S E h k => ?_⟩
  refine q σ H Pr F ρ m _ Z _ S E h fun v H1 ⟨P1, F1, m1, d, S1, t1, dv, z⟩ => ?_
  have dv : Dn false X.K F1 (wv F1 H1) v d := dv
  try dsimp only at z
  split at z
  · split at z
    · rename_i b eb
      obtain ⟨D, cv', nD, eD, hcv', kD⟩ := hT _ b (PySem.mem_of_lookup eb)
      obtain rfl := uniq hcv'
      cases dv with
      | exc hx hn =>
        obtain rfl := nsc_inj nD hn
        exact ⟨D, eD, _, c, b, rfl, wv_le hx, hc, kD, k _ _ ((post_here S1 (.bl _) (fun _ h => nomatch h) z).te t1)⟩
    · exact z.elim
  · exact z.elim
/-! ### try: .. except T as n: y = n -/
/-- a block at whose errors the names stand as at its start -/
def JE (X : Cx) (C : Cn) (st : List Stmt) (t : DS C.W.M) : Prop := ∃ ts, PSs X st ts ∧ ∀ σ H Pr F ρ m (E : DE C.W.M) D', SR X.K C Pr F σ ρ m H → Ex X C Pr F H σ ρ E.ex →
  (∀ σ' H' ρ' m' Pr' F', SR X.K C Pr' F' σ' ρ' m' H' → Tr Pr F H Pr' F' H' → E.nx ρ' m' → D'.nx σ' H') → t E ρ m → ts D' σ H
variable {t u : DS C.W.M} {body els : List Stmt}
theorem je_expr {c : Cl} {te : DT C.W.M} (h : J c X C e te) (hs : swapsWith e none pos.line X.env = pure false := by rfl) : JE X C [.Expr e pos] (dDrop te) := by
  obtain ⟨t1, p, q⟩ := h
  exact ⟨_, pss_one (ps_expr p hs), fun σ H Pr F ρ m E D' S x nx h => q σ H Pr F ρ m _ _ _ S x h fun v H1 ⟨P1, F1, m1, d, S1, t1, dv, z⟩ => nx _ _ _ _ _ _ S1 t1.toTr z⟩
/-- the class x is taken by the clause that names T -/
def ErrF (K : PySem.W.Frag) (mg : Str → Option Value) (x T : Str) : Prop := ∃ D DT, mg x = some (.ref D) ∧ NsC K x D ∧ mg T = some (.ref DT) ∧ PySem.W.exmOne K (.ref D) (.ref DT) = some true
def dTry {M : Type} (xs : List Str) (i j : Nat) (t : DS M) : DS M := fun E ρ m => t ⟨E.nx, fun _ _ => False, fun _ _ => False, fun _ _ => False, fun x m' => x ∈ xs ∧ E.nx (((ρ.set i .un).set j (.val (.exc x))).set i .un) m'⟩ ρ m
theorem js_try (i j : Nat) {T n y : Str} {xs : List Str} {np n2 yp ap pos' : Pos} (hN : X.N.Nodup) (hxs : ∀ x ∈ xs, ErrF X.K X.mg x T) (hne : xs ≠ [])
    (hb : ∀ (W : WX) (pn : List (Addr × Obj)) (xe : Value → Shared → Prop), Takes (X.tr pn xe) W → JE (X.tr pn xe) { C with wx := W } body t) (gT : Gl X T := by rfl)
    (hst : X.stack = X.env :: X.outer := by rfl) (hfm : X.env.frame = some X.env.locals := by rfl) (hex : X.ex = [] := by rfl) (hi : X.N[i]? = some n := by rfl) (hj : X.N[j]? = some y := by rfl) (hln : X.env.kindOf n = some .local := by rfl) (hly : X.env.kindOf y = some .local := by rfl) (hij : i ≠ j := by decide)
    (dT : (T == ("__debug__" : Str)) = false := by decide) (dn : (n == ("__debug__" : Str)) = false := by decide) (cn : (n == ("__classdict__" : Str)) = false := by decide)
    (hsw : ∀ a oe pn, swapsWith (.Name n n2) (some (.Name y yp)) ap.line (X.suite a ((a, oe) :: pn)).env = pure false := by intros; rfl) (hvn : ∀ a pn, Vis (X.suite a pn).env.scope n := by intros; exact Or.inl rfl) (hly2 : ∀ a pn, Loc (X.suite a pn).env.scope y := by intros; exact Or.inl rfl) (hfn : ∀ a pn, LocF (X.suite a pn) y := by intros; exact .inl rfl) :
    JS X C (.Try body [.ExceptHandler (some (.Name T np)) (some n) [.Assign [.Name y yp] (.Name n n2) ap] pos'] [] [] pos) (dTry xs i j t) := by
  have one : ∃ DT, X.mg T = some (.ref DT) := by
    cases xs with
    | nil => exact absurd rfl hne
    | cons x r =>
      obtain ⟨D, DT, _, _, h, _⟩ := hxs x List.mem_cons_self
      exact ⟨DT, h⟩
  obtain ⟨DT, hDT⟩ := one
  let tb : WX → TS := fun W D σ H => ∃ Pr F ρ m E, SR X.K C Pr F σ ρ m H ∧ Ex X { C with wx := W } Pr F H σ ρ E.ex ∧ (∀ σ' H' ρ' m' Pr' F', SR X.K C Pr' F' σ' ρ' m' H' → Tr Pr F H Pr' F' H' → E.nx ρ' m' → D.nx σ' H') ∧ t E ρ m
  refine ⟨_, ps_hold (c := .ref DT) (tb := tb) (Wout := fun _ _ _ _ => False) hst hfm hex hN hi hj hln hly hij ⟨gT, dT, .inl hDT⟩ takes0 (fun W pn xe tk _ => ?_) (fun a oe pn => pss_cons (ps_set hN hj (hly2 a _) (pe_var hi (hvn a _) dn cn) (hsw a oe pn) (hfn a _)) pss_nil), fun σ H Pr F ρ m E D' S l h => ?_⟩
  · obtain ⟨ts, p, q⟩ := hb W pn xe tk
    refine ⟨fun pins s σ H D I ⟨Pr, F, ρ, m, E, S, ex, nx, h⟩ => p.run pins s σ H D I (q σ H Pr F ρ m E D ⟨S.keep, S.pre, S.new, S.prs, S.prn, S.prf, S.rz, S.len, S.slot, S.dist⟩ (fun x cls P1 F1 m1 H1 e S1 t1 z => ex x cls P1 F1 m1 H1 e ⟨S1.keep, S1.pre, S1.new, S1.prs, S1.prn, S1.prf, S1.rz, S1.len, S1.slot, S1.dist⟩ t1 z)
      (fun σ' H' ρ' m' P1 F1 S1 t1 z => nx σ' H' ρ' m' P1 F1 ⟨S1.keep, S1.pre, S1.new, S1.prs, S1.prn, S1.prf, S1.rz, S1.len, S1.slot, S1.dist⟩ t1 z) h)⟩
  · refine ⟨Pr, F, ρ, m, ⟨E.nx, fun _ _ => False, fun _ _ => False, fun _ _ => False, fun x m' => x ∈ xs ∧ E.nx (((ρ.set i .un).set j (.val (.exc x))).set i .un) m'⟩, S, fun x cls P1 F1 m1 H1 hx S1 t1 z => ?_, fun σ' H' ρ' m' P1 F1 S1 t1 z => l.nx _ _ _ _ _ _ S1 t1 z, h⟩
    have S1 : SR X.K C P1 F1 σ ρ m1 H1 := ⟨S1.keep, S1.pre, S1.new, S1.prs, S1.prn, S1.prf, S1.rz, S1.len, S1.slot, S1.dist⟩
    obtain ⟨D, DT', e1, e2, e3, e4⟩ := hxs x z.1
    rw [hDT] at e3; cases e3
    rw [e1] at hx; cases hx
    refine ⟨true, e4, fun _ => ⟨rfl, D, rfl, fun a ha => ?_⟩, fun h => nomatch h⟩
    obtain ⟨S2, t2⟩ := S1.new1 (o := ExI D a) ha
    have dv : Dn true X.K F1 (sv C.H0 P1 (upd H1 a (ExI D a))) (.ref a) (.exc x) := .exc (vw_iff.mpr ⟨upd_same, .inl trivial⟩) e2
    exact l.nx _ _ _ _ _ _ (((S2.drop i _).set j dv).drop i none) (t1.trans t2.toTr) z.2
end
end RR
namespace RR
open PySem PySem.Spec PyProof.Rows L2
section
variable {K : PySem.W.Frag} {mg : Str → Option Value} {T x : Str}
theorem isf_nil : ∀ y c, (y, c) ∈ ([] : List (Str × Bool)) → IsF K mg y T c := fun _ _ h => nomatch h
theorem isf_cons {b : Bool} {bs : List (Str × Bool)} (h : IsF K mg x T b) (r : ∀ y c, (y, c) ∈ bs → IsF K mg y T c) : ∀ y c, (y, c) ∈ (x, b) :: bs → IsF K mg y T c := fun y c m => by
  rcases List.mem_cons.mp m with e | e
  · cases e; exact h
  · exact r y c e
theorem err_nil : ∀ y ∈ ([] : List Str), ErrF K mg y T := fun _ h => nomatch h
theorem err_cons {xs : List Str} (h : ErrF K mg x T) (r : ∀ y ∈ xs, ErrF K mg y T) : ∀ y ∈ x :: xs, ErrF K mg y T := fun y m => by
  rcases List.mem_cons.mp m with e | e
  · rw [e]; exact h
  · exact r y e
end
theorem RoomG.u65 {k : Nat} {A : Around} (r : RoomG k A) : A.units + 65 < cLine := by have := r.un; omega
end RR
namespace RR
open PySem PySem.Spec PyProof.Rows L2
section
variable {X : Cx} {C : Cn} {pos : Pos}
/-- a, b, c = x, y, z, the names plain locals -/
def dPar3 {M : Type} (i j l : Nat) (t : DTA M) : DS M := fun E ρ m => t ρ m (fun ds m' => match ds with | [x, y, z] => E.nx (((ρ.set i (.val x)).set j (.val y)).set l (.val z)) m' | _ => False) E.ex
end
end RR

/-! RN: defs held as data, called by a local name -/
namespace RR
open PySem PySem.Spec PyProof.Rows L2
section
variable {X : Cx} {C : Cn} {e : Expr} {es : List Expr} {pos : Pos} {k : Nat}
end
end RR

/-! RU: x[::-1] of lists and tuples -/
namespace RR
open PySem PySem.Spec PyProof.Rows L2 HT
section
variable {prog : Program} {w : World} {A : Around} {E : Value → Shared → Prop} {s : Shared}
end
section
variable {X : Cx}
end
section
variable {X : Cx} {C : Cn} {e : Expr}
def dRvs {M : Type} (t : DT M) : DT M := fun ρ m Q Z => t ρ m (fun x m1 => match x with
  | .lst ds => D.nls ds = true ∧ Q (.lst ds.reverse) m1
  | .tup ds => D.nls ds = true ∧ Q (.tup ds.reverse) m1
  | _ => False) Z
end
end RR

/-! RDi: {number: number, ..}.get(x, y); x.extend(list) -/
namespace RR
open PySem PySem.Spec PyProof.Rows L2
section
variable {X : Cx} {C : Cn} {e f : Expr} {pos : Pos}
end
section
variable {M : Type} {ρ : En} {m : M} {Q : D → M → Prop} {Z : Str → M → Prop} {nx : En → M → Prop} {rt : D → M → Prop} {bk ct : En → M → Prop} {ex : Str → M → Prop} {ds es : List D}
end
end RR

/-! RZm: zip of a list and a tuple -/
namespace RR.ZM
open PySem PySem.Spec PyProof.Rows L2 RZ
section
variable {prog : Program} {w : World} {A : Around} {E : Value → Shared → Prop} {s : Shared} {z TI TO i1 i2 l1 l2 : Addr} {k1 k2 : Nat} {xs ys : Array Value} {x y a b : Value}
/-- what stands of the walk -/
structure Wk2 (h : Heap) (z TI TO i1 i2 l1 l2 : Addr) (k1 k2 : Nat) (xs ys : Array Value) (a b : Value) : Prop where
  z0 : IsZip h z TI TO .none
  ti : IsPair h TI (.ref i1) (.ref i2)
  tg : IsPair h TO a b
  j1 : h.IsListIter i1 l1 k1
  j2 : h.IsTupleIter i2 l2 k2
  s1 : h.IsList l1 xs
  s2 : h.IsTuple l2 ys
/-- all but the four stay -/
def Stay (h h' : Heap) (z TO i1 i2 : Addr) : Prop := ∀ c o, c ≠ z → c ≠ TO → c ≠ i1 → c ≠ i2 → h.get? c = some o → h'.get? c = some o
theorem one_item {Q : Value → Shared → Prop} (D : ZipApart z TI TO i1 i2 l1 l2) (S : Wk2 s.heap z TI TO i1 i2 l1 l2 k1 k2 xs ys a b) (hx : xs[k1]? = some x) (hy : ys[k2]? = some y)
    (q : ∀ h', IsZip h' z TI TO (rawInt s.heap.objs.size) → IsPair h' TO x y → h'.IsListIter i1 l1 (k1 + 1) → h'.IsTupleIter i2 l2 (k2 + 1) → IsPair h' s.heap.objs.size x y → h'.objs.size = s.heap.objs.size + 1 → Stay s.heap h' z TO i1 i2 → Q (.ref s.heap.objs.size) { s with heap := h' }) :
    wpAny (model prog w) A (Builtin.«zip.__next__» ⟨[.ref z], []⟩) (fun r s' => ∃ v, r = .done (.ret v) ∧ Q v s') E s := by
  obtain ⟨z0, ti, tg, j1, j2, t1, t2⟩ := S
  (show wpAny _ _ (field (.ref _) 2 >>= _) _ _ _; refine wpAny_bind (wpAny_field z0 rfl (x := (.bool false)) rfl ?_))
  (show wpAny _ _ (field (.ref _) 3 >>= _) _ _ _; refine wpAny_bind (wpAny_field z0 rfl (x := (.ref TI)) rfl ?_))
  refine wpAny_bind (wpAny_seqItems ti rfl ?_)
  (show wpAny _ _ (Builtin.SmallTypes.ownedTupleIsFree (.ref z) >>= _) _ _ _); refine wpAny_bind ?_; unfold Builtin.SmallTypes.ownedTupleIsFree
  refine wpAny_bind (wpAny_field z0 rfl (x := .none) rfl (wpAny_pure ?_)); simp only [if_true]; refine wpAny_bind (wpAny_rule ?_); refine wpAny_bind (wpAny_field z0 rfl (x := .ref TO) rfl ?_)
  refine wpAny_bind (wpAny_setField_rec z0 (by simp) fun ha za ea => ?_); replace za : IsZip ha z TI TO .ellipsis := za
  refine wpAny_bind ?_; simp only [List.zipIdx_cons, List.zipIdx_nil, List.forIn_cons, List.forIn_nil]
  refine wpAny_bind (wpAny_bind (wpAny_onRaise ?_)); show wpAny _ _ (Builtin.SmallTypes.nextOf (.ref i1) >>= _) _ _ _
  refine wpAny_bind (wpAny_nextOf_list_item (j1.extBut ea.extBut D.i1z) (t1.extBut ea.extBut D.l1z) hx fun hb jb eb => wpAny_pure ?_)
  have pb : IsPair hb TO a b := eb.extBut _ _ D.TOi1 (ea.extBut _ _ D.TOz tg)
  refine wpAny_bind (wpAny_seqItems pb rfl ?_); refine wpAny_bind (wpAny_updateSeq_pair pb fun hc pc ec => ?_); replace pc : IsPair hc TO x b := pc
  refine wpAny_bind (wpAny_letGo (wpAny_pure ?_)); refine wpAny_bind (wpAny_bind (wpAny_onRaise ?_)); show wpAny _ _ (Builtin.SmallTypes.nextOf (.ref i2) >>= _) _ _ _
  have j2c : hc.IsTupleIter i2 l2 k2 := ((j2.extBut ea.extBut D.i2z).extBut eb.extBut D.i12.symm).extBut ec.extBut D.TOi2.symm
  have t2c : hc.IsTuple l2 ys := ((t2.extBut ea.extBut D.l2z).extBut eb.extBut D.l2i1).extBut ec.extBut D.l2TO
  refine wpAny_bind (nextOf_tuple_item j2c t2c hy fun hd jd ed => wpAny_pure ?_)
  have pd : IsPair hd TO x b := ed.extBut _ _ D.TOi2 pc
  refine wpAny_bind (wpAny_seqItems pd rfl ?_); refine wpAny_bind (wpAny_updateSeq_pair pd fun he pe ee => ?_); replace pe : IsPair he TO x y := pe
  refine wpAny_bind (wpAny_letGo (wpAny_pure (wpAny_pure ?_))); refine wpAny_bind (wpAny_seqItems pe rfl ?_); refine wpAny_bind (wpAny_newTuple ?_)
  have sz : he.objs.size = s.heap.objs.size := by rw [ee.1, ed.1, ec.1, eb.1, ea.1]
  have ze : IsZip he z TI TO .ellipsis := ee.extBut _ _ D.TOz.symm (ed.extBut _ _ D.i2z.symm (ec.extBut _ _ D.TOz.symm (eb.extBut _ _ D.i1z.symm za)))
  have st : Stay s.heap he z TO i1 i2 := fun c o c1 c2 c3 c4 e => ee.extBut _ _ c2 (ed.extBut _ _ c4 (ec.extBut _ _ c2 (eb.extBut _ _ c3 (ea.extBut _ _ c1 e))))
  have f1 : he.IsListIter i1 l1 (k1 + 1) := ((jb.extBut ec.extBut D.TOi1.symm).extBut ed.extBut D.i12).extBut ee.extBut D.TOi1.symm
  have f2 : he.IsTupleIter i2 l2 (k2 + 1) := jd.extBut ee.extBut D.TOi2.symm
  have zl : z < he.objs.size := Heap.lt_size ze
  (show wpAny _ _ (Builtin.SmallTypes.ownedTupleHandOut (.ref z) (.ref he.objs.size) >>= _) _ _ _); refine wpAny_bind ?_; unfold Builtin.SmallTypes.ownedTupleHandOut
  have zf : IsZip (he.push { cls := .type "tuple", data := .seq #[x, y] }) z TI TO .ellipsis := Heap.get?_push_of_some _ ze
  refine wpAny_bind (wpAny_setField_rec zf (by simp) fun hg zg eg => ?_); replace zg : IsZip hg z TI TO (rawInt he.objs.size) := zg
  refine wpAny_setField_rec zg (by simp) fun hi zi ei => ?_; replace zi : IsZip hi z TI TO (rawInt he.objs.size) := zi
  have go : ∀ c o, c ≠ z → he.get? c = some o → hi.get? c = some o := fun c o c1 e => ei.extBut _ _ c1 (eg.extBut _ _ c1 (Heap.get?_push_of_some _ e))
  have np : IsPair hi he.objs.size x y := ei.extBut _ _ (Nat.ne_of_gt zl) (eg.extBut _ _ (Nat.ne_of_gt zl) (Heap.get?_push_size _ rfl))
  have ns : hi.objs.size = he.objs.size + 1 := by rw [ei.1, eg.1, Heap.size_push]
  rw [sz] at zi np ns
  refine wpAny_pure ⟨_, rfl, ?_⟩
  show Q (.ref he.objs.size) _
  rw [sz]
  exact q hi zi (go _ _ D.TOz pe) (f1.at fun o e => go _ o D.i1z e) (f2.at fun o e => go _ o D.i2z e) np ns fun c o c1 c2 c3 c4 e => go c o c1 (st c o c1 c2 c3 c4 e)
theorem one_end {Q : Fin → Shared → Prop} (hh : A.handled = none) (D : ZipApart z TI TO i1 i2 l1 l2) (S : Wk2 s.heap z TI TO i1 i2 l1 l2 k1 k2 xs ys a b) (en : xs[k1]? = none ∨ ys[k2]? = none)
    (q : ∀ h' e, Stay s.heap h' z TO i1 i2 → (∃ o, h'.get? e = some o ∧ o.cls = .type "StopIteration") → E (.ref e) { s with heap := h' }) :
    wpAny (model prog w) A (Builtin.«zip.__next__» ⟨[.ref z], []⟩) Q E s := by
  obtain ⟨z0, ti, tg, j1, j2, t1, t2⟩ := S
  (show wpAny _ _ (field (.ref _) 2 >>= _) _ _ _; refine wpAny_bind (wpAny_field z0 rfl (x := (.bool false)) rfl ?_))
  (show wpAny _ _ (field (.ref _) 3 >>= _) _ _ _; refine wpAny_bind (wpAny_field z0 rfl (x := (.ref TI)) rfl ?_))
  refine wpAny_bind (wpAny_seqItems ti rfl ?_)
  (show wpAny _ _ (Builtin.SmallTypes.ownedTupleIsFree (.ref z) >>= _) _ _ _); refine wpAny_bind ?_; unfold Builtin.SmallTypes.ownedTupleIsFree
  refine wpAny_bind (wpAny_field z0 rfl (x := .none) rfl (wpAny_pure ?_)); simp only [if_true]; refine wpAny_bind (wpAny_rule ?_); refine wpAny_bind (wpAny_field z0 rfl (x := .ref TO) rfl ?_)
  refine wpAny_bind (wpAny_setField_rec z0 (by simp) fun ha za ea => ?_); replace za : IsZip ha z TI TO .ellipsis := za
  refine wpAny_bind ?_; simp only [List.zipIdx_cons, List.zipIdx_nil, List.forIn_cons, List.forIn_nil]
  refine wpAny_bind (wpAny_bind (wpAny_onRaise ?_)); show wpAny _ _ (Builtin.SmallTypes.nextOf (.ref i1) >>= _) _ _ _
  cases hx : xs[k1]? with
  | none =>
    refine wpAny_bind (wpAny_nextOf_list_end hh (j1.extBut ea.extBut D.i1z) (t1.extBut ea.extBut D.l1z) hx fun hb e eb he => ?_)
    obtain ⟨oe, oh, oc⟩ := he
    have zb : IsZip hb z TI TO .ellipsis := eb _ _ D.i1z.symm za
    have ne : e ≠ z := fun t => by subst t; rw [zb] at oh; cases oh; simp at oc
    exact wpAny_setField_rec zb (by simp) fun hc _ ec => q hc e (fun c o c1 _ c3 _ t => ec.extBut _ _ c1 (eb _ _ c3 (ea.extBut _ _ c1 t))) ⟨oe, ec.extBut _ _ ne oh, oc⟩
  | some x =>
    have hy : ys[k2]? = none := en.resolve_left fun t => by rw [hx] at t; cases t
    refine wpAny_bind (wpAny_nextOf_list_item (j1.extBut ea.extBut D.i1z) (t1.extBut ea.extBut D.l1z) hx fun hb jb eb => wpAny_pure ?_)
    have pb : IsPair hb TO a b := eb.extBut _ _ D.TOi1 (ea.extBut _ _ D.TOz tg)
    refine wpAny_bind (wpAny_seqItems pb rfl ?_); refine wpAny_bind (wpAny_updateSeq_pair pb fun hc pc ec => ?_)
    refine wpAny_bind (wpAny_letGo (wpAny_pure ?_)); refine wpAny_bind (wpAny_bind (wpAny_onRaise ?_)); show wpAny _ _ (Builtin.SmallTypes.nextOf (.ref i2) >>= _) _ _ _
    have j2c : hc.IsTupleIter i2 l2 k2 := ((j2.extBut ea.extBut D.i2z).extBut eb.extBut D.i12.symm).extBut ec.extBut D.TOi2.symm
    have t2c : hc.IsTuple l2 ys := ((t2.extBut ea.extBut D.l2z).extBut eb.extBut D.l2i1).extBut ec.extBut D.l2TO
    refine wpAny_bind (nextOf_tuple_end hh j2c t2c hy fun hd e ed he => ?_)
    obtain ⟨oe, oh, oc⟩ := he
    have zd : IsZip hd z TI TO .ellipsis := ed _ _ D.i2z.symm (ec.extBut _ _ D.TOz.symm (eb.extBut _ _ D.i1z.symm za))
    have ne : e ≠ z := fun t => by subst t; rw [zd] at oh; cases oh; simp at oc
    exact wpAny_setField_rec zd (by simp) fun hg _ eg => q hg e (fun c o c1 c2 c3 c4 t => eg.extBut _ _ c1 (ed _ _ c4 (ec.extBut _ _ c2 (eb.extBut _ _ c3 (ea.extBut _ _ c1 t))))) ⟨oe, eg.extBut _ _ ne oh, oc⟩
theorem next_item {Q : Option Value → Shared → Prop} (D : ZipApart z TI TO i1 i2 l1 l2) (S : Wk2 s.heap z TI TO i1 i2 l1 l2 k1 k2 xs ys a b) (hx : xs[k1]? = some x) (hy : ys[k2]? = some y)
    (q : ∀ h', IsZip h' z TI TO (rawInt s.heap.objs.size) → IsPair h' TO x y → h'.IsListIter i1 l1 (k1 + 1) → h'.IsTupleIter i2 l2 (k2 + 1) → IsPair h' s.heap.objs.size x y → h'.objs.size = s.heap.objs.size + 1 → Stay s.heap h' z TO i1 i2 → Q (some (.ref s.heap.objs.size)) { s with heap := h' }) :
    wpAny (model prog w) A (pyNext (.ref z)) Q E s := by
  have ty : s.TypeIs (.ref z) "zip" := ⟨_, S.z0, rfl⟩
  unfold pyNext
  refine wpAny_bind (wpAny_attempt (wpAny_callSpecial?_slot (name := Str.ofString "__next__") ty F.slot_zip_next (wpAny_call_entry F.slot_zip_next ty F.entry_zip_next ?_ (F.args_zip_next_1 _))))
  exact one_item D S hx hy fun h' p1 p2 p3 p4 p5 p6 p7 => wpAny_pure (q h' p1 p2 p3 p4 p5 p6 p7)
theorem next_end {Q : Option Value → Shared → Prop} (hh : A.handled = none) (D : ZipApart z TI TO i1 i2 l1 l2) (S : Wk2 s.heap z TI TO i1 i2 l1 l2 k1 k2 xs ys a b) (en : xs[k1]? = none ∨ ys[k2]? = none)
    (q : ∀ h', Stay s.heap h' z TO i1 i2 → Q none { s with heap := h' }) : wpAny (model prog w) A (pyNext (.ref z)) Q E s := by
  have ty : s.TypeIs (.ref z) "zip" := ⟨_, S.z0, rfl⟩
  unfold pyNext
  refine wpAny_bind (wpAny_attempt (wpAny_callSpecial?_slot (name := Str.ofString "__next__") ty F.slot_zip_next (wpAny_call_entry F.slot_zip_next ty F.entry_zip_next ?_ (F.args_zip_next_1 _))))
  refine one_end hh D S en fun h' e st oe => ?_
  obtain ⟨o, oh, oc⟩ := oe
  refine wpAny_bind (wpAny_isInstance (T := "StopIteration") (b := true) ⟨o, oh, oc⟩ isSubtype_stop ?_)
  exact wpAny_pure (q _ st)
end
abbrev y1 (h : Heap) (l1 : Addr) : Heap := h.push { cls := .type "list_iterator", data := .fields #[.ref l1, .int 0 0] }
abbrev y2 (h : Heap) (l1 l2 : Addr) : Heap := (y1 h l1).push { cls := .type "tuple_iterator", data := .fields #[.ref l2, .int 0 0] }
abbrev y3 (h : Heap) (l1 l2 : Addr) : Heap := (y2 h l1 l2).push { cls := .type "tuple", data := .seq #[.ref h.objs.size, .ref (y1 h l1).objs.size] }
abbrev y4 (h : Heap) (l1 l2 : Addr) : Heap := (y3 h l1 l2).push { cls := .type "tuple", data := .seq #[.none, .none] }
abbrev y5 (h : Heap) (l1 l2 : Addr) : Heap := (y4 h l1 l2).push { cls := .type "zip", data := .fields #[.none, .bool false, .bool false, .ref (y2 h l1 l2).objs.size, .ref (y3 h l1 l2).objs.size] }
section
variable {prog : Program} {w : World} {A : Around} {E : Value → Shared → Prop} {s : Shared}
end
/-- the items in new pairs -/
def ItM (K : PySem.W.Frag) (a b : Addr) : It :=
  ⟨fun i H => ∃ (us vs : List V) (u v : V), (SqL K H a us ∧ SqT K H b vs) ∧ us[i]? = some u ∧ vs[i]? = some v,
    fun i H p H' => ∃ T u v, p = .ref T ∧ H T = none ∧ H' = upd H T (.tup [u, v]) ∧ (∀ us, SqL K H a us → us[i]? = some u) ∧ ∀ vs, SqT K H b vs → vs[i]? = some v,
    fun i H => ∃ us vs : List V, (SqL K H a us ∧ SqT K H b vs) ∧ (us.length ≤ i ∨ vs.length ≤ i)⟩
abbrev five (z TI TO i1 i2 : Addr) : List Addr := [z, TI, TO, i1, i2]
theorem five_mem {z TI TO i1 i2 c : Addr} (h : c ∈ five z TI TO i1 i2) : c = z ∨ c = TI ∨ c = TO ∨ c = i1 ∨ c = i2 := by simpa using h
/-- how the walk stands, whatever the pair holds -/
def Now (a b z TI TO i1 i2 : Addr) (i : Nat) (h : Heap) : Prop := IsZip h z TI TO .none ∧ IsPair h TI (.ref i1) (.ref i2) ∧ (∃ x y, IsPair h TO x y) ∧ h.IsListIter i1 a i ∧ h.IsTupleIter i2 b i
theorem Now.lt {a b z TI TO i1 i2 : Addr} {i : Nat} {h : Heap} (n : Now a b z TI TO i1 i2 i h) {c : Addr} (hc : c ∈ five z TI TO i1 i2) : c < h.objs.size := by
  obtain ⟨p1, p2, ⟨_, _, p3⟩, ⟨_, p4, _⟩, ⟨_, p5, _⟩⟩ := n
  rcases five_mem hc with rfl | rfl | rfl | rfl | rfl
  · exact Heap.lt_size p1
  · exact Heap.lt_size p2
  · exact Heap.lt_size p3
  · exact Heap.lt_size p4
  · exact Heap.lt_size p5
theorem turn {P : Program} {w : World} {K : PySem.W.Frag} {elts : List Expr} {kk : Nat} {tpos : Pos} {a b z TI TO i1 i2 : Addr} (D : ZipApart z TI TO i1 i2 a b) : Turn P w K (.Tuple elts kk tpos) (ItM K a b) (five z TI TO i1 i2) z (Now a b z TI TO i1 i2) where
  mem := by simp
  obj := fun i h n c hc => by
    obtain ⟨p1, p2, ⟨_, _, p3⟩, ⟨o1, p4, _, d1⟩, ⟨o2, p5, _, d2⟩⟩ := n
    rcases five_mem hc with rfl | rfl | rfl | rfl | rfl
    · exact ⟨_, p1, fun v t => nomatch t⟩
    · exact ⟨_, p2, fun v t => nomatch t⟩
    · exact ⟨_, p3, fun v t => nomatch t⟩
    · exact ⟨o1, p4, fun v t => by rw [d1] at t; cases t⟩
    · exact ⟨o2, p5, fun v t => by rw [d2] at t; cases t⟩
  keep := fun i h h' n k => by
    obtain ⟨p1, p2, ⟨u, v, p3⟩, p4, p5⟩ := n
    exact ⟨k z (by simp) _ p1, k TI (by simp) _ p2, ⟨u, v, k TO (by simp) _ p3⟩, p4.at fun o t => k i1 (by simp) o t, p5.at fun o t => k i2 (by simp) o t⟩
  item := by
    intro X hP hw hK hc i pins s σ H E I hf n hg
    subst hP hw hK
    have lt := @Now.lt _ _ _ _ _ _ _ _ _ n
    obtain ⟨p1, p2, ⟨u0, v0, p3⟩, p4, p5⟩ := n
    obtain ⟨us, vs, u, v, ⟨hu, hv⟩, eu, ev⟩ := hg
    obtain ⟨its, ru, lu, _⟩ := I.list hu
    obtain ⟨jts, rv, lv, _⟩ := I.tuple hv
    obtain ⟨m, mu, ru'⟩ := ru.get eu
    obtain ⟨m2, mv, rv'⟩ := rv.get ev
    have zl := lt (c := z) (by simp)
    refine next_item D ⟨p1, p2, p3, p4, p5, lu.isList, lv⟩ (x := m) (y := m2) (by simpa using mu) (by simpa using mv) fun h' g1 g2 g3 g4 g5 _ st => ?_
    refine ⟨_, rfl, wpAny_letOwnedTupleGo_zip (s := { s with heap := h' }) g1 fun h2 g6 sb => ?_⟩
    have nt : h2.get? s.heap.objs.size = some { cls := .type "tuple", data := .seq #[m, m2] } := (sb.2 _ (Nat.ne_of_gt zl)).trans g5
    have ok : ObjOk X.prog X.w (upd H s.heap.objs.size (.tup [u, v])) h2 s.heap.objs.size (.tup [u, v]) := ⟨by show 2 ≤ sizeLine; decide, [m, m2], .cons ru' (.cons rv' .nil), ⟨_, nt, rfl, _, rfl⟩⟩
    have I1 : Inv X pins σ (upd H s.heap.objs.size (.tup [u, v])) { s with heap := h2 } := I.turnedNew (t' := s.toks) (ch := five z TI TO i1 i2) (fun c o hb t => by
      have nz : c ≠ z := fun e => hb (by simp [e])
      exact (sb.2 c nz).trans (st c o nz (fun e => hb (by simp [e])) (fun e => hb (by simp [e])) (fun e => hb (by simp [e])) t)) hf (Nat.le_refl _) ok
    refine ⟨.ref s.heap.objs.size, _, I1, rfl, ⟨_, u, v, rfl, I.hok.fresh (Nat.le_refl _), rfl, fun l hl => by rw [I.list_inj hl hu]; exact eu, fun l hl => by rw [I.tuple_inj hl hv]; exact ev⟩, ⟨g6, (sb.2 _ D.TIz).trans (st _ _ D.TIz D.TITO D.TIi1 D.TIi2 p2), ⟨m, m2, (sb.2 _ D.TOz).trans g2⟩, g3.at fun o t => (sb.2 _ D.i1z).trans t, g4.at fun o t => (sb.2 _ D.i2z).trans t⟩, fun c hcm => ?_⟩
    rw [upd_ne (Nat.ne_of_lt (lt hcm))]
    exact (hf c hcm).1
  done := by
    intro X hP hw hK hc i pins s σ H E I hf n hg
    subst hP hw hK
    obtain ⟨p1, p2, ⟨u0, v0, p3⟩, p4, p5⟩ := n
    obtain ⟨us, vs, ⟨hu, hv⟩, en⟩ := hg
    obtain ⟨its, ru, lu, _⟩ := I.list hu
    obtain ⟨jts, rv, lv, _⟩ := I.tuple hv
    have n1 := ru.length
    have n2 := rv.length
    refine next_end (I.ok.hd hc) D ⟨p1, p2, p3, p4, p5, lu.isList, lv⟩ (en.imp (fun t => by simp; omega) fun t => by simp; omega) fun h' st => ⟨rfl, ?_⟩
    exact I.turnedL (t' := s.toks) (ch := five z TI TO i1 i2) (fun c o hb t => st c o (fun e => hb (by simp [e])) (fun e => hb (by simp [e])) (fun e => hb (by simp [e])) (fun e => hb (by simp [e])) t) hf
  self := fun A i s Q E n h => wpAny_pyIter_zip n.1 h
end RR.ZM
namespace RR
open PySem PySem.Spec PyProof.Rows L2
section
variable {X : Cx} {C : Cn} {a b : Expr} {pos : Pos}
end
section
variable {M : Type} {ρ : En} {m : M} {Z : Str → M → Prop} {QL : List D → M → Prop} {ds es : List D} {t u : DT M}
end
end RR

/-! RZn: zip of a tuple and a list (printed from RZm) -/
namespace RR.ZN
open PySem PySem.Spec PyProof.Rows L2 RZ
section
variable {prog : Program} {w : World} {A : Around} {E : Value → Shared → Prop} {s : Shared} {z TI TO i1 i2 l1 l2 : Addr} {k1 k2 : Nat} {xs ys : Array Value} {x y a b : Value}
/-- what stands of the walk -/
structure Wk2 (h : Heap) (z TI TO i1 i2 l1 l2 : Addr) (k1 k2 : Nat) (xs ys : Array Value) (a b : Value) : Prop where
  z0 : IsZip h z TI TO .none
  ti : IsPair h TI (.ref i1) (.ref i2)
  tg : IsPair h TO a b
  j1 : h.IsTupleIter i1 l1 k1
  j2 : h.IsListIter i2 l2 k2
  s1 : h.IsTuple l1 xs
  s2 : h.IsList l2 ys
/-- all but the four stay -/
def Stay (h h' : Heap) (z TO i1 i2 : Addr) : Prop := ∀ c o, c ≠ z → c ≠ TO → c ≠ i1 → c ≠ i2 → h.get? c = some o → h'.get? c = some o
theorem one_item {Q : Value → Shared → Prop} (D : ZipApart z TI TO i1 i2 l1 l2) (S : Wk2 s.heap z TI TO i1 i2 l1 l2 k1 k2 xs ys a b) (hx : xs[k1]? = some x) (hy : ys[k2]? = some y)
    (q : ∀ h', IsZip h' z TI TO (rawInt s.heap.objs.size) → IsPair h' TO x y → h'.IsTupleIter i1 l1 (k1 + 1) → h'.IsListIter i2 l2 (k2 + 1) → IsPair h' s.heap.objs.size x y → h'.objs.size = s.heap.objs.size + 1 → Stay s.heap h' z TO i1 i2 → Q (.ref s.heap.objs.size) { s with heap := h' }) :
    wpAny (model prog w) A (Builtin.«zip.__next__» ⟨[.ref z], []⟩) (fun r s' => ∃ v, r = .done (.ret v) ∧ Q v s') E s := by
  obtain ⟨z0, ti, tg, j1, j2, t1, t2⟩ := S
  (show wpAny _ _ (field (.ref _) 2 >>= _) _ _ _; refine wpAny_bind (wpAny_field z0 rfl (x := (.bool false)) rfl ?_))
  (show wpAny _ _ (field (.ref _) 3 >>= _) _ _ _; refine wpAny_bind (wpAny_field z0 rfl (x := (.ref TI)) rfl ?_))
  refine wpAny_bind (wpAny_seqItems ti rfl ?_)
  (show wpAny _ _ (Builtin.SmallTypes.ownedTupleIsFree (.ref z) >>= _) _ _ _); refine wpAny_bind ?_; unfold Builtin.SmallTypes.ownedTupleIsFree
  refine wpAny_bind (wpAny_field z0 rfl (x := .none) rfl (wpAny_pure ?_)); simp only [if_true]; refine wpAny_bind (wpAny_rule ?_); refine wpAny_bind (wpAny_field z0 rfl (x := .ref TO) rfl ?_)
  refine wpAny_bind (wpAny_setField_rec z0 (by simp) fun ha za ea => ?_); replace za : IsZip ha z TI TO .ellipsis := za
  refine wpAny_bind ?_; simp only [List.zipIdx_cons, List.zipIdx_nil, List.forIn_cons, List.forIn_nil]
  refine wpAny_bind (wpAny_bind (wpAny_onRaise ?_)); show wpAny _ _ (Builtin.SmallTypes.nextOf (.ref i1) >>= _) _ _ _
  refine wpAny_bind (nextOf_tuple_item (j1.extBut ea.extBut D.i1z) (t1.extBut ea.extBut D.l1z) hx fun hb jb eb => wpAny_pure ?_)
  have pb : IsPair hb TO a b := eb.extBut _ _ D.TOi1 (ea.extBut _ _ D.TOz tg)
  refine wpAny_bind (wpAny_seqItems pb rfl ?_); refine wpAny_bind (wpAny_updateSeq_pair pb fun hc pc ec => ?_); replace pc : IsPair hc TO x b := pc
  refine wpAny_bind (wpAny_letGo (wpAny_pure ?_)); refine wpAny_bind (wpAny_bind (wpAny_onRaise ?_)); show wpAny _ _ (Builtin.SmallTypes.nextOf (.ref i2) >>= _) _ _ _
  have j2c : hc.IsListIter i2 l2 k2 := ((j2.extBut ea.extBut D.i2z).extBut eb.extBut D.i12.symm).extBut ec.extBut D.TOi2.symm
  have t2c : hc.IsList l2 ys := ((t2.extBut ea.extBut D.l2z).extBut eb.extBut D.l2i1).extBut ec.extBut D.l2TO
  refine wpAny_bind (wpAny_nextOf_list_item j2c t2c hy fun hd jd ed => wpAny_pure ?_)
  have pd : IsPair hd TO x b := ed.extBut _ _ D.TOi2 pc
  refine wpAny_bind (wpAny_seqItems pd rfl ?_); refine wpAny_bind (wpAny_updateSeq_pair pd fun he pe ee => ?_); replace pe : IsPair he TO x y := pe
  refine wpAny_bind (wpAny_letGo (wpAny_pure (wpAny_pure ?_))); refine wpAny_bind (wpAny_seqItems pe rfl ?_); refine wpAny_bind (wpAny_newTuple ?_)
  have sz : he.objs.size = s.heap.objs.size := by rw [ee.1, ed.1, ec.1, eb.1, ea.1]
  have ze : IsZip he z TI TO .ellipsis := ee.extBut _ _ D.TOz.symm (ed.extBut _ _ D.i2z.symm (ec.extBut _ _ D.TOz.symm (eb.extBut _ _ D.i1z.symm za)))
  have st : Stay s.heap he z TO i1 i2 := fun c o c1 c2 c3 c4 e => ee.extBut _ _ c2 (ed.extBut _ _ c4 (ec.extBut _ _ c2 (eb.extBut _ _ c3 (ea.extBut _ _ c1 e))))
  have f1 : he.IsTupleIter i1 l1 (k1 + 1) := ((jb.extBut ec.extBut D.TOi1.symm).extBut ed.extBut D.i12).extBut ee.extBut D.TOi1.symm
  have f2 : he.IsListIter i2 l2 (k2 + 1) := jd.extBut ee.extBut D.TOi2.symm
  have zl : z < he.objs.size := Heap.lt_size ze
  (show wpAny _ _ (Builtin.SmallTypes.ownedTupleHandOut (.ref z) (.ref he.objs.size) >>= _) _ _ _); refine wpAny_bind ?_; unfold Builtin.SmallTypes.ownedTupleHandOut
  have zf : IsZip (he.push { cls := .type "tuple", data := .seq #[x, y] }) z TI TO .ellipsis := Heap.get?_push_of_some _ ze
  refine wpAny_bind (wpAny_setField_rec zf (by simp) fun hg zg eg => ?_); replace zg : IsZip hg z TI TO (rawInt he.objs.size) := zg
  refine wpAny_setField_rec zg (by simp) fun hi zi ei => ?_; replace zi : IsZip hi z TI TO (rawInt he.objs.size) := zi
  have go : ∀ c o, c ≠ z → he.get? c = some o → hi.get? c = some o := fun c o c1 e => ei.extBut _ _ c1 (eg.extBut _ _ c1 (Heap.get?_push_of_some _ e))
  have np : IsPair hi he.objs.size x y := ei.extBut _ _ (Nat.ne_of_gt zl) (eg.extBut _ _ (Nat.ne_of_gt zl) (Heap.get?_push_size _ rfl))
  have ns : hi.objs.size = he.objs.size + 1 := by rw [ei.1, eg.1, Heap.size_push]
  rw [sz] at zi np ns
  refine wpAny_pure ⟨_, rfl, ?_⟩
  show Q (.ref he.objs.size) _
  rw [sz]
  exact q hi zi (go _ _ D.TOz pe) (f1.at fun o e => go _ o D.i1z e) (f2.at fun o e => go _ o D.i2z e) np ns fun c o c1 c2 c3 c4 e => go c o c1 (st c o c1 c2 c3 c4 e)
theorem one_end {Q : Fin → Shared → Prop} (hh : A.handled = none) (D : ZipApart z TI TO i1 i2 l1 l2) (S : Wk2 s.heap z TI TO i1 i2 l1 l2 k1 k2 xs ys a b) (en : xs[k1]? = none ∨ ys[k2]? = none)
    (q : ∀ h' e, Stay s.heap h' z TO i1 i2 → (∃ o, h'.get? e = some o ∧ o.cls = .type "StopIteration") → E (.ref e) { s with heap := h' }) :
    wpAny (model prog w) A (Builtin.«zip.__next__» ⟨[.ref z], []⟩) Q E s := by
  obtain ⟨z0, ti, tg, j1, j2, t1, t2⟩ := S
  (show wpAny _ _ (field (.ref _) 2 >>= _) _ _ _; refine wpAny_bind (wpAny_field z0 rfl (x := (.bool false)) rfl ?_))
  (show wpAny _ _ (field (.ref _) 3 >>= _) _ _ _; refine wpAny_bind (wpAny_field z0 rfl (x := (.ref TI)) rfl ?_))
  refine wpAny_bind (wpAny_seqItems ti rfl ?_)
  (show wpAny _ _ (Builtin.SmallTypes.ownedTupleIsFree (.ref z) >>= _) _ _ _); refine wpAny_bind ?_; unfold Builtin.SmallTypes.ownedTupleIsFree
  refine wpAny_bind (wpAny_field z0 rfl (x := .none) rfl (wpAny_pure ?_)); simp only [if_true]; refine wpAny_bind (wpAny_rule ?_); refine wpAny_bind (wpAny_field z0 rfl (x := .ref TO) rfl ?_)
  refine wpAny_bind (wpAny_setField_rec z0 (by simp) fun ha za ea => ?_); replace za : IsZip ha z TI TO .ellipsis := za
  refine wpAny_bind ?_; simp only [List.zipIdx_cons, List.zipIdx_nil, List.forIn_cons, List.forIn_nil]
  refine wpAny_bind (wpAny_bind (wpAny_onRaise ?_)); show wpAny _ _ (Builtin.SmallTypes.nextOf (.ref i1) >>= _) _ _ _
  cases hx : xs[k1]? with
  | none =>
    refine wpAny_bind (nextOf_tuple_end hh (j1.extBut ea.extBut D.i1z) (t1.extBut ea.extBut D.l1z) hx fun hb e eb he => ?_)
    obtain ⟨oe, oh, oc⟩ := he
    have zb : IsZip hb z TI TO .ellipsis := eb _ _ D.i1z.symm za
    have ne : e ≠ z := fun t => by subst t; rw [zb] at oh; cases oh; simp at oc
    exact wpAny_setField_rec zb (by simp) fun hc _ ec => q hc e (fun c o c1 _ c3 _ t => ec.extBut _ _ c1 (eb _ _ c3 (ea.extBut _ _ c1 t))) ⟨oe, ec.extBut _ _ ne oh, oc⟩
  | some x =>
    have hy : ys[k2]? = none := en.resolve_left fun t => by rw [hx] at t; cases t
    refine wpAny_bind (nextOf_tuple_item (j1.extBut ea.extBut D.i1z) (t1.extBut ea.extBut D.l1z) hx fun hb jb eb => wpAny_pure ?_)
    have pb : IsPair hb TO a b := eb.extBut _ _ D.TOi1 (ea.extBut _ _ D.TOz tg)
    refine wpAny_bind (wpAny_seqItems pb rfl ?_); refine wpAny_bind (wpAny_updateSeq_pair pb fun hc pc ec => ?_)
    refine wpAny_bind (wpAny_letGo (wpAny_pure ?_)); refine wpAny_bind (wpAny_bind (wpAny_onRaise ?_)); show wpAny _ _ (Builtin.SmallTypes.nextOf (.ref i2) >>= _) _ _ _
    have j2c : hc.IsListIter i2 l2 k2 := ((j2.extBut ea.extBut D.i2z).extBut eb.extBut D.i12.symm).extBut ec.extBut D.TOi2.symm
    have t2c : hc.IsList l2 ys := ((t2.extBut ea.extBut D.l2z).extBut eb.extBut D.l2i1).extBut ec.extBut D.l2TO
    refine wpAny_bind (wpAny_nextOf_list_end hh j2c t2c hy fun hd e ed he => ?_)
    obtain ⟨oe, oh, oc⟩ := he
    have zd : IsZip hd z TI TO .ellipsis := ed _ _ D.i2z.symm (ec.extBut _ _ D.TOz.symm (eb.extBut _ _ D.i1z.symm za))
    have ne : e ≠ z := fun t => by subst t; rw [zd] at oh; cases oh; simp at oc
    exact wpAny_setField_rec zd (by simp) fun hg _ eg => q hg e (fun c o c1 c2 c3 c4 t => eg.extBut _ _ c1 (ed _ _ c4 (ec.extBut _ _ c2 (eb.extBut _ _ c3 (ea.extBut _ _ c1 t))))) ⟨oe, eg.extBut _ _ ne oh, oc⟩
theorem next_item {Q : Option Value → Shared → Prop} (D : ZipApart z TI TO i1 i2 l1 l2) (S : Wk2 s.heap z TI TO i1 i2 l1 l2 k1 k2 xs ys a b) (hx : xs[k1]? = some x) (hy : ys[k2]? = some y)
    (q : ∀ h', IsZip h' z TI TO (rawInt s.heap.objs.size) → IsPair h' TO x y → h'.IsTupleIter i1 l1 (k1 + 1) → h'.IsListIter i2 l2 (k2 + 1) → IsPair h' s.heap.objs.size x y → h'.objs.size = s.heap.objs.size + 1 → Stay s.heap h' z TO i1 i2 → Q (some (.ref s.heap.objs.size)) { s with heap := h' }) :
    wpAny (model prog w) A (pyNext (.ref z)) Q E s := by
  have ty : s.TypeIs (.ref z) "zip" := ⟨_, S.z0, rfl⟩
  unfold pyNext
  refine wpAny_bind (wpAny_attempt (wpAny_callSpecial?_slot (name := Str.ofString "__next__") ty F.slot_zip_next (wpAny_call_entry F.slot_zip_next ty F.entry_zip_next ?_ (F.args_zip_next_1 _))))
  exact one_item D S hx hy fun h' p1 p2 p3 p4 p5 p6 p7 => wpAny_pure (q h' p1 p2 p3 p4 p5 p6 p7)
theorem next_end {Q : Option Value → Shared → Prop} (hh : A.handled = none) (D : ZipApart z TI TO i1 i2 l1 l2) (S : Wk2 s.heap z TI TO i1 i2 l1 l2 k1 k2 xs ys a b) (en : xs[k1]? = none ∨ ys[k2]? = none)
    (q : ∀ h', Stay s.heap h' z TO i1 i2 → Q none { s with heap := h' }) : wpAny (model prog w) A (pyNext (.ref z)) Q E s := by
  have ty : s.TypeIs (.ref z) "zip" := ⟨_, S.z0, rfl⟩
  unfold pyNext
  refine wpAny_bind (wpAny_attempt (wpAny_callSpecial?_slot (name := Str.ofString "__next__") ty F.slot_zip_next (wpAny_call_entry F.slot_zip_next ty F.entry_zip_next ?_ (F.args_zip_next_1 _))))
  refine one_end hh D S en fun h' e st oe => ?_
  obtain ⟨o, oh, oc⟩ := oe
  refine wpAny_bind (wpAny_isInstance (T := "StopIteration") (b := true) ⟨o, oh, oc⟩ isSubtype_stop ?_)
  exact wpAny_pure (q _ st)
end
abbrev y1 (h : Heap) (l1 : Addr) : Heap := h.push { cls := .type "tuple_iterator", data := .fields #[.ref l1, .int 0 0] }
abbrev y2 (h : Heap) (l1 l2 : Addr) : Heap := (y1 h l1).push { cls := .type "list_iterator", data := .fields #[.ref l2, .int 0 0] }
abbrev y3 (h : Heap) (l1 l2 : Addr) : Heap := (y2 h l1 l2).push { cls := .type "tuple", data := .seq #[.ref h.objs.size, .ref (y1 h l1).objs.size] }
abbrev y4 (h : Heap) (l1 l2 : Addr) : Heap := (y3 h l1 l2).push { cls := .type "tuple", data := .seq #[.none, .none] }
abbrev y5 (h : Heap) (l1 l2 : Addr) : Heap := (y4 h l1 l2).push { cls := .type "zip", data := .fields #[.none, .bool false, .bool false, .ref (y2 h l1 l2).objs.size, .ref (y3 h l1 l2).objs.size] }
section
variable {prog : Program} {w : World} {A : Around} {E : Value → Shared → Prop} {s : Shared}
end
/-- the items in new pairs -/
def ItM (K : PySem.W.Frag) (a b : Addr) : It :=
  ⟨fun i H => ∃ (us vs : List V) (u v : V), (SqT K H a us ∧ SqL K H b vs) ∧ us[i]? = some u ∧ vs[i]? = some v,
    fun i H p H' => ∃ T u v, p = .ref T ∧ H T = none ∧ H' = upd H T (.tup [u, v]) ∧ (∀ us, SqT K H a us → us[i]? = some u) ∧ ∀ vs, SqL K H b vs → vs[i]? = some v,
    fun i H => ∃ us vs : List V, (SqT K H a us ∧ SqL K H b vs) ∧ (us.length ≤ i ∨ vs.length ≤ i)⟩
abbrev five (z TI TO i1 i2 : Addr) : List Addr := [z, TI, TO, i1, i2]
theorem five_mem {z TI TO i1 i2 c : Addr} (h : c ∈ five z TI TO i1 i2) : c = z ∨ c = TI ∨ c = TO ∨ c = i1 ∨ c = i2 := by simpa using h
/-- how the walk stands, whatever the pair holds -/
def Now (a b z TI TO i1 i2 : Addr) (i : Nat) (h : Heap) : Prop := IsZip h z TI TO .none ∧ IsPair h TI (.ref i1) (.ref i2) ∧ (∃ x y, IsPair h TO x y) ∧ h.IsTupleIter i1 a i ∧ h.IsListIter i2 b i
theorem Now.lt {a b z TI TO i1 i2 : Addr} {i : Nat} {h : Heap} (n : Now a b z TI TO i1 i2 i h) {c : Addr} (hc : c ∈ five z TI TO i1 i2) : c < h.objs.size := by
  obtain ⟨p1, p2, ⟨_, _, p3⟩, ⟨_, p4, _⟩, ⟨_, p5, _⟩⟩ := n
  rcases five_mem hc with rfl | rfl | rfl | rfl | rfl
  · exact Heap.lt_size p1
  · exact Heap.lt_size p2
  · exact Heap.lt_size p3
  · exact Heap.lt_size p4
  · exact Heap.lt_size p5
theorem turn {P : Program} {w : World} {K : PySem.W.Frag} {elts : List Expr} {kk : Nat} {tpos : Pos} {a b z TI TO i1 i2 : Addr} (D : ZipApart z TI TO i1 i2 a b) : Turn P w K (.Tuple elts kk tpos) (ItM K a b) (five z TI TO i1 i2) z (Now a b z TI TO i1 i2) where
  mem := by simp
  obj := fun i h n c hc => by
    obtain ⟨p1, p2, ⟨_, _, p3⟩, ⟨o1, p4, _, d1⟩, ⟨o2, p5, _, d2⟩⟩ := n
    rcases five_mem hc with rfl | rfl | rfl | rfl | rfl
    · exact ⟨_, p1, fun v t => nomatch t⟩
    · exact ⟨_, p2, fun v t => nomatch t⟩
    · exact ⟨_, p3, fun v t => nomatch t⟩
    · exact ⟨o1, p4, fun v t => by rw [d1] at t; cases t⟩
    · exact ⟨o2, p5, fun v t => by rw [d2] at t; cases t⟩
  keep := fun i h h' n k => by
    obtain ⟨p1, p2, ⟨u, v, p3⟩, p4, p5⟩ := n
    exact ⟨k z (by simp) _ p1, k TI (by simp) _ p2, ⟨u, v, k TO (by simp) _ p3⟩, p4.at fun o t => k i1 (by simp) o t, p5.at fun o t => k i2 (by simp) o t⟩
  item := by
    intro X hP hw hK hc i pins s σ H E I hf n hg
    subst hP hw hK
    have lt := @Now.lt _ _ _ _ _ _ _ _ _ n
    obtain ⟨p1, p2, ⟨u0, v0, p3⟩, p4, p5⟩ := n
    obtain ⟨us, vs, u, v, ⟨hu, hv⟩, eu, ev⟩ := hg
    obtain ⟨its, ru, lu, _⟩ := I.tuple hu
    obtain ⟨jts, rv, lv, _⟩ := I.list hv
    obtain ⟨m, mu, ru'⟩ := ru.get eu
    obtain ⟨m2, mv, rv'⟩ := rv.get ev
    have zl := lt (c := z) (by simp)
    refine next_item D ⟨p1, p2, p3, p4, p5, lu, lv.isList⟩ (x := m) (y := m2) (by simpa using mu) (by simpa using mv) fun h' g1 g2 g3 g4 g5 _ st => ?_
    refine ⟨_, rfl, wpAny_letOwnedTupleGo_zip (s := { s with heap := h' }) g1 fun h2 g6 sb => ?_⟩
    have nt : h2.get? s.heap.objs.size = some { cls := .type "tuple", data := .seq #[m, m2] } := (sb.2 _ (Nat.ne_of_gt zl)).trans g5
    have ok : ObjOk X.prog X.w (upd H s.heap.objs.size (.tup [u, v])) h2 s.heap.objs.size (.tup [u, v]) := ⟨by show 2 ≤ sizeLine; decide, [m, m2], .cons ru' (.cons rv' .nil), ⟨_, nt, rfl, _, rfl⟩⟩
    have I1 : Inv X pins σ (upd H s.heap.objs.size (.tup [u, v])) { s with heap := h2 } := I.turnedNew (t' := s.toks) (ch := five z TI TO i1 i2) (fun c o hb t => by
      have nz : c ≠ z := fun e => hb (by simp [e])
      exact (sb.2 c nz).trans (st c o nz (fun e => hb (by simp [e])) (fun e => hb (by simp [e])) (fun e => hb (by simp [e])) t)) hf (Nat.le_refl _) ok
    refine ⟨.ref s.heap.objs.size, _, I1, rfl, ⟨_, u, v, rfl, I.hok.fresh (Nat.le_refl _), rfl, fun l hl => by rw [I.tuple_inj hl hu]; exact eu, fun l hl => by rw [I.list_inj hl hv]; exact ev⟩, ⟨g6, (sb.2 _ D.TIz).trans (st _ _ D.TIz D.TITO D.TIi1 D.TIi2 p2), ⟨m, m2, (sb.2 _ D.TOz).trans g2⟩, g3.at fun o t => (sb.2 _ D.i1z).trans t, g4.at fun o t => (sb.2 _ D.i2z).trans t⟩, fun c hcm => ?_⟩
    rw [upd_ne (Nat.ne_of_lt (lt hcm))]
    exact (hf c hcm).1
  done := by
    intro X hP hw hK hc i pins s σ H E I hf n hg
    subst hP hw hK
    obtain ⟨p1, p2, ⟨u0, v0, p3⟩, p4, p5⟩ := n
    obtain ⟨us, vs, ⟨hu, hv⟩, en⟩ := hg
    obtain ⟨its, ru, lu, _⟩ := I.tuple hu
    obtain ⟨jts, rv, lv, _⟩ := I.list hv
    have n1 := ru.length
    have n2 := rv.length
    refine next_end (I.ok.hd hc) D ⟨p1, p2, p3, p4, p5, lu, lv.isList⟩ (en.imp (fun t => by simp; omega) fun t => by simp; omega) fun h' st => ⟨rfl, ?_⟩
    exact I.turnedL (t' := s.toks) (ch := five z TI TO i1 i2) (fun c o hb t => st c o (fun e => hb (by simp [e])) (fun e => hb (by simp [e])) (fun e => hb (by simp [e])) (fun e => hb (by simp [e])) t) hf
  self := fun A i s Q E n h => wpAny_pyIter_zip n.1 h
end RR.ZN
namespace RR
open PySem PySem.Spec PyProof.Rows L2
section
variable {X : Cx} {C : Cn} {a b : Expr} {pos : Pos}
end
section
variable {M : Type} {ρ : En} {m : M} {Z : Str → M → Prop} {QL : List D → M → Prop} {ds es : List D} {t u : DT M}
end
end RR

/-! RAt: tuples with lists within, summed -/
namespace RR
open PySem PySem.Spec PyProof.Rows L2
section
variable {X : Cx} {C : Cn} {a b : Expr} {pos : Pos} {ta tb : DT C.W.M}
end
end RR

/-! RPp: a, b = x.pop() of an own list -/
namespace RR
open PySem PySem.Spec PyProof.Rows L2
section
variable {X : Cx} {C : Cn} {pos : Pos}
end
section
variable {M : Type} {ρ : En} {m : M} {nx bk ct : En → M → Prop} {rt : D → M → Prop} {ex : Str → M → Prop} {ds : List D} {d : D} {g : DG}
end
end RR

/-! RBp: a borrowed name whose data holds no list may be kept -/
namespace RR
open PySem PySem.Spec PyProof.Rows L2
mutual
def D.pln : D → Bool
  | .non | .bl _ | .int _ | .str _ => true
  | .tup xs => D.plns xs
  | _ => false
def D.plns : List D → Bool
  | [] => true
  | x :: r => x.pln && D.plns r
end
section
variable {K : PySem.W.Frag} {F F' : List Addr} {G G' : Hp}
mutual
theorem Dn.kept (hG : ∀ a xs, G a = some (.tup xs) → G' a = some (.tup xs)) : ∀ {v : V} {d : D}, d.pln = true → Dn false K F G v d → Dn true K F' G' v d
  | _, _, _, .non => .non
  | _, _, _, .bl b => .bl b
  | _, _, _, .int i => .int i
  | _, _, _, .str x => .str x
  | _, _, p, .tup h r => .tup (h.mono hG) (DnA.kept hG p r)
  | _, _, p, .lst _ _ => by cases p
  | _, _, p, .hnd _ => by cases p
  | _, _, p, .dic _ => by cases p
  | _, _, p, .exc _ _ => by cases p
  | _, _, p, .fn _ => by cases p
  | _, _, p, .ptr => by cases p
theorem DnA.kept (hG : ∀ a xs, G a = some (.tup xs) → G' a = some (.tup xs)) : ∀ {v : List V} {d : List D}, D.plns d = true → DnA false K F G v d → DnA true K F' G' v d
  | _, _, _, .nil => .nil
  | _, _, p, .cons h r => by
    rw [D.plns, Bool.and_eq_true] at p
    exact .cons (Dn.kept hG p.1 h) (DnA.kept hG p.2 r)
end
end
section
variable {X : Cx} {C : Cn} {pos : Pos}
end
section
variable {M : Type} {ρ : En} {m : M} {Q : D → M → Prop} {Z : Str → M → Prop} {d : D}
end
end RR

/-! RSm: sum of a list of numbers -/
namespace RR
open PySem PySem.Spec PyProof.Rows L2
section
variable {X : Cx} {C : Cn}
end
end RR
namespace RR
open PySem PySem.Spec PyProof.Rows L2 RZ RT
section
variable {X : Cx} {C : Cn}
end
end RR
namespace RR
open PySem PySem.Spec PyProof.Rows L2
section
variable {X : Cx} {C : Cn}
end
end RR

/-! RSt: x[::k] of a tuple, k from 2 on -/
namespace RR
open PySem PySem.Spec PyProof.Rows L2 HT
section
variable {prog : Program} {w : World} {A : Around} {E : Value → Shared → Prop} {s : Shared}
end
section
variable {X : Cx} {C : Cn} {e f : Expr}
end
section
variable {M : Type} {ρ : En} {m : M} {Q : D → M → Prop} {Z : Str → M → Prop} {t u : DT M}
end
end RR

/-! RPo: a, b = x, y, both new lists of one's own -/
namespace RR
open PySem PySem.Spec PyProof.Rows L2
section
variable {K : PySem.W.Frag} {C : Cn} {Pr : Addr → Prop} {F : List Addr} {σ : L2.St} {ρ : En} {m : C.W.M} {H : Hp}
end
section
variable {X : Cx} {C : Cn} {pos : Pos}
end
end RR

/-! RNi: not in a tuple -/
namespace RR
open PySem PySem.Spec PyProof.Rows L2
section
variable {X : Cx} {C : Cn}
end
end RR

/-! RBo: the items of what is borrowed, borrowed themselves (they may hold lists): taken apart, and walked by a comprehension -/
namespace RR
open PySem PySem.Spec PyProof.Rows L2
section
variable {K : PySem.W.Frag} {C : Cn} {Pr : Addr → Prop} {F : List Addr} {σ : L2.St} {ρ : En} {m : C.W.M} {H : Hp}
end
section
variable {X : Cx} {C : Cn} {e a b : Expr} {pos : Pos}
def JGB (X : Cx) (C : Cn) (tg : Expr) (ws : List Nat) (g : DG) : Prop := ∃ tgt, PG X tg tgt ∧
  ∀ σ H Pr F ρ (m : C.W.M) v d Q (R : L2.St → Hp → Prop), SR X.K C Pr F σ ρ m H → Dn false X.K C.F0 (wv C.F0 C.H0) v d → g d ρ Q →
    (∀ σ' ρ', SR X.K C Pr F σ' ρ' m H → (∀ vs, (∀ i ∈ ws, i ∈ vs) → L2.wipe σ' vs = L2.wipe σ vs) → Q ρ' → R σ' H) → tgt v σ H R
/-! ### a comprehension over what is borrowed -/
variable {elt tg iter : Expr} {ifs : List Expr} {scope : Scope} {own : List (Str × Nat)} {ti : DTA C.W.M} {g : DG} {dt : DTT C.W.M} {de : DT C.W.M} {ws : List Nat}
def cnGB (K : PySem.W.Frag) (C : Cn) (ws : List Nat) (g : DG) : TG := fun v σ H R => ∃ Pr F ρ, ∃ m : C.W.M, ∃ d Q, SR K C Pr F σ ρ m H ∧ Dn false K C.F0 (wv C.F0 C.H0) v d ∧ g d ρ Q ∧
    (∀ σ' ρ', SR K C Pr F σ' ρ' m H → (∀ vs, (∀ i ∈ ws, i ∈ vs) → L2.wipe σ' vs = L2.wipe σ vs) → Q ρ' → R σ' H)
theorem JGB.cn {X : Cx} {C : Cn} {ws : List Nat} {e : Expr} {g : DG} (h : JGB X C e ws g) : PG X e (cnGB X.K C ws g) := by
  obtain ⟨te, p, q⟩ := h
  exact ⟨fun pins s σ H v u R I r ⟨Pr, F, ρ, m, d, Q, S, dv, z, k⟩ => p.run pins s σ H v u R I r (q σ H Pr F ρ m v d Q R S dv z k)⟩
end
section
variable {M : Type} {ρ : En} {m : M} {nx : En → M → Prop} {rt : D → M → Prop} {bk ct : En → M → Prop} {ex : Str → M → Prop} {Q : List D → M → Prop} {Z : Str → M → Prop} {ds : List D} {d : D}
end
end RR

/-! RX: the law's drawing state as a world -/
namespace RR
open PySem PySem.Spec PyProof.Rows L2
theorem DnA.ints_inv {s : Bool} {K : PySem.W.Frag} {F : List Addr} {G : Hp} : ∀ {vs : List V} {ns : List Int}, DnA s K F G vs (zz ns) → vs = ns.map V.int
  | _, [], h => by cases h; rfl
  | _, n :: ns, h => by
    have h : DnA s K F G _ (.int n :: zz ns) := h
    cases h with
    | cons a b =>
      cases a
      rw [DnA.ints_inv b, List.map_cons]
/-- the drawing state behind the handle 0: a dict of cells, digits and the place -/
def DrSt (N : Nat) (F : List Addr) (H : Hp) : Prop := ∃ (am ac ad : Addr) (cs ds : List Int) (n : Int), F = [am, ac, ad] ∧ am ≠ ac ∧ am ≠ ad ∧ ac ≠ ad ∧
  H am = some (.dK [(Sum.inr "cells", .ref ac), (Sum.inr "digits", .ref ad), (Sum.inr "at", .int n)]) ∧ H ac = some (.lst (cs.map V.int)) ∧ H ad = some (.lst (ds.map V.int)) ∧
  0 ≤ n ∧ n + (N : Int) ≤ 2 ^ 60 ∧ cs.length = 64 ∧ (∀ c ∈ cs, 0 ≤ c ∧ c < 2147483647) ∧ ds.length < sizeLine
def DrW : Wd where
  M := Option Nat
  Rz := fun m F H => match m with | none => F = [] | some N => DrSt N F H
  keep := fun {m F H H'} h k _ => by
    cases m with
    | none => exact h
    | some N =>
      obtain ⟨am, ac, ad, cs, ds, n, rfl, x1, x2, x3, e1, e2, e3, r⟩ := h
      exact ⟨am, ac, ad, cs, ds, n, rfl, x1, x2, x3, (k _ (by simp)).trans e1, (k _ (by simp)).trans e2, (k _ (by simp)).trans e3, r⟩
  there := fun {m F H} h a ha => by
    cases m with
    | none =>
      have h : F = [] := h
      rw [h] at ha; cases ha
    | some N =>
      obtain ⟨am, ac, ad, cs, ds, n, rfl, x1, x2, x3, e1, e2, e3, r⟩ := h
      simp only [List.mem_cons, List.not_mem_nil, or_false] at ha
      rcases ha with rfl | rfl | rfl
      · exact ⟨_, e1, fun h => h⟩
      · exact ⟨_, e2, fun h => h⟩
      · exact ⟨_, e3, fun h => h⟩
/-! ### what the state's functions promise -/
def s__law_mixed {M : Type} : DSp M := fun ds m Q Z => ∃ c k, ds = [.int c, .int k] ∧ c.natAbs < 2 ^ 70 ∧ 0 ≤ k ∧ k < 2 ^ 62 ∧ ∀ x, 0 ≤ x → x < 2 ^ 30 → Q (.int x) m
def s__law_folded {M : Type} : DSp M := fun ds m Q Z => ∃ ns, ds = [.lst (zz ns)] ∧ ns.length ≤ 63 ∧ ∀ cs : List Int, cs.length = 64 → (∀ c ∈ cs, 0 ≤ c ∧ c < 2147483647) → Q (.lst (zz cs)) m
/-- the place of the drawing state among the world's objects -/
abbrev hdl : Nat := 0
def s__law_draw : DSp (Option Nat) := fun ds m Q Z => ∃ N many, ds = [.hnd hdl, .int many] ∧ m = some (N + 1) ∧ 0 < many ∧ many.natAbs < 2 ^ 8000 ∧ ∀ x, 0 ≤ x → x < many → Q (.int x) (some N)
def s__law_begun : DSp (Option Nat) := fun ds m Q Z => ∃ ns, ds = [.lst (zz ns)] ∧ ns.length ≤ 63 ∧ m = none ∧ Q (.hnd hdl) (some (2 ^ 50))
def s0__law_draw : DSp (Option Nat) := fun ds m Q Z => ∃ N many, ds = [.hnd 0, .int many] ∧ m = some (N + 1) ∧ 0 < many ∧ many.natAbs < 2 ^ 8000 ∧ ∀ x, 0 ≤ x → x < many → Q (.int x) (some N)
def s0__law_begun : DSp (Option Nat) := fun ds m Q Z => ∃ ns, ds = [.lst (zz ns)] ∧ ns.length ≤ 63 ∧ m = none ∧ Q (.hnd 0) (some (2 ^ 50))
/-- the same, for a call by hand -/
def hMix : Sp := fun vs H Q _ => ∃ c k, vs = [.int c, .int k] ∧ c.natAbs < 2 ^ 70 ∧ 0 ≤ k ∧ k < 2 ^ 62 ∧ ∀ x H', 0 ≤ x → x < 2 ^ 30 → Same H H' → Q (.int x) H'
def hFold (K : PySem.W.Frag) : Sp := fun vs H Q _ => ∃ (a : Addr) (ns : List Int), vs = [.ref a] ∧ SqL K H a (ns.map V.int) ∧ ns.length ≤ 63 ∧ ∀ (cs : List Int) p H', Same H H' → H p = none → H' p = some (.lst (cs.map V.int)) → cs.length = 64 → (∀ c ∈ cs, 0 ≤ c ∧ c < 2147483647) → Q (.ref p) H'
section
variable {P : Program} {w : World} {K : PySem.W.Frag} {mg : Str → Option Value} {base : Heap} {k : Nat} {f : Addr} {fd : FuncData} {ps : List Str}
theorem hMix_of (F : FnG P w K mg base (L2.CX P w) k f fd ps (spD K mg W0 s__law_mixed)) : FnG P w K mg base (L2.CX P w) k f fd ps hMix := by
  refine F.imp fun vs H Q E h => ?_
  obtain ⟨c, n, rfl, h1, h2, h3, q⟩ := h
  refine ⟨[], (), [.int c, .int n], fun d _ => ∃ x, d = .int x ∧ 0 ≤ x ∧ x < 2 ^ 30, fun _ _ => False, rfl, .cons (.int c) (.cons (.int n) .nil), ⟨c, n, rfl, h1, h2, h3, fun x a b => ⟨x, rfl, a, b⟩⟩, fun v H' F' d m' _ _ _ kp dn e => ?_, fun _ _ _ _ _ _ _ _ _ _ z => z.elim⟩
  obtain ⟨x, rfl, a, b⟩ := e
  cases dn
  exact q x H' a b fun a o e => kp a o (by simp) e
theorem hFold_of (F : FnG P w K mg base (L2.CX P w) k f fd ps (spD K mg W0 s__law_folded)) : FnG P w K mg base (L2.CX P w) k f fd ps (hFold K) := by
  refine F.imp fun vs H Q E h => ?_
  obtain ⟨a, ns, rfl, hs, hl, q⟩ := h
  refine ⟨[], (), [.lst (zz ns)], fun d _ => ∃ cs : List Int, d = .lst (zz cs) ∧ cs.length = 64 ∧ ∀ c ∈ cs, 0 ≤ c ∧ c < 2147483647, fun _ _ => False, rfl, .cons (.lst (Ls.mono (s := false) (fun a o e => vw_iff.mpr ⟨e, by simp⟩) (show Ls false K H a _ from hs)) (ints_dn ns)) .nil, ⟨ns, rfl, hl, fun cs a b => ⟨cs, rfl, a, b⟩⟩, fun v H' F' d m' _ _ _ kp dn e => ?_, fun _ _ _ _ _ _ _ _ _ _ z => z.elim⟩
  obtain ⟨cs, rfl, c1, c2⟩ := e
  cases dn with
  | lst g r =>
    rename_i p xs
    have g : sv H (· ∈ F') H' p = some (.lst xs) := g
    obtain ⟨e1, e2⟩ := vw_iff.mp g
    rcases e2 with e2 | e2
    · exact e2.elim
    · rw [r.ints_inv] at e1
      exact q cs p H' (fun a o e => kp a o (by simp) e) e2.2.2 e1 c1 c2
end
abbrev drV (ac ad : Addr) (n : Int) : List (L2.Key × V) := [(Sum.inr "cells", .ref ac), (Sum.inr "digits", .ref ad), (Sum.inr "at", .int n)]
abbrev N__law_draw : List Str := ["_law_m", "_law_many", "_law_k", "_law_at", "_law_cell"]
abbrev N__law_begun : List Str := ["_law_script", "_law_m"]
end RR

/-! RY: the readings of the drawing state's two functions -/
namespace RR
open PySem PySem.Spec PyProof.Rows L2
section
variable {K : PySem.W.Frag} {E : L2.St → XK}
abbrev tLen (K : PySem.W.Frag) (t : TA) : TE := tCB (fun xs H Q => ∃ p ys, xs = [V.ref p] ∧ (SqL K H p ys ∨ SqT K H p ys) ∧ Q (V.int ys.length) H) t
abbrev tFld (i : Nat) (x : Str) : TE := tDGet (tVar i) (tC (V.str x))
abbrev tMod (a b : TE) : TE := tOp (rI (fun _ j => j ≠ 0) fun i j => V.int (i.fmod j)) a b
abbrev tDiv (a b : TE) : TE := tOp (rI Nd fun i j => V.int (i.fdiv j)) a b
abbrev tAdd (a b : TE) : TE := tOp (rI0 fun i j => V.int (i + j)) a b
abbrev t_last (K : PySem.W.Frag) (E : L2.St → XK) : TE :=
  tMod (tCallSD hMix [] E (tCons (tCallSD hMix [] E (tCons (tAdd (tOp (rIxL K) (tFld 0 "cells") (tMod (tVar 2) (tC (V.int 64)))) (tOp (rI IntMulOk fun i j => V.int (i * j)) (tC (V.int 31)) (tDiv (tVar 2) (tC (V.int 64))))) (tCons (tVar 2) tNil)))
    (tCons (tAdd (tVar 2) (tC (V.int 7))) tNil))) (tVar 1)
abbrev t_draw (K : PySem.W.Frag) (E : L2.St → XK) : TS :=
  tSeq (tAsg (tFld 0 "at") (gName 2))
    (tSeq (sDPut (tVar 0) (tC (V.str "at")) (tAdd (tVar 2) (tC (V.int 1))))
    (tSeq (tIfS (tTest (tOp (rNeD K) (tFld 0 "digits") (tLst tNil)))
      (tSeq (tAsg (tMod (tVar 2) (tLen K (tCons (tFld 0 "digits") tNil))) (gName 3))
      (tSeq (tAsg (tOp (rIxL K) (tFld 0 "digits") (tVar 3)) (gName 4))
        (tIfS (tTest (tOp (rIn K true) (tVar 4) (tTup (tCons (tC (V.int 0)) (tCons (tUn (rU fun i => V.int (-i)) (tC (V.int 1))) tNil)))))
          (tSeq (tAsg (tDiv (tVar 4) (tVar 1)) (gSub (tFld 0 "digits") (tVar 3) rSetL)) (tRet (tMod (tVar 4) (tVar 1))))
          tNext)))
      tNext)
    (tRet (t_last K E))))
theorem rd_last {am ac ad : Addr} {cs : List Int} {n many : Int} {y3 y4 : Option V} {Q : VK} {H : Hp} (e1 : H am = some (.dK (drV ac ad (n + 1)))) (e2 : H ac = some (.lst (cs.map V.int))) (n0 : 0 ≤ n) (n1 : n < 2 ^ 60)
    (lc : cs.length = 64) (bc : ∀ c ∈ cs, 0 ≤ c ∧ c < 2147483647) (hp : 0 < many) (fin : ∀ H' x, Same H H' → 0 ≤ x → x < many → Q (.int x) H') :
    t_last K E [some (.ref am), some (.int many), some (.int n), y3, y4] H Q := by
  have k0 : 0 ≤ n.fmod 64 := Int.fmod_nonneg_of_pos _ (by decide)
  have k1 : n.fmod 64 < 64 := Int.fmod_lt_of_pos _ (by decide)
  have ci : (n.fmod 64).toNat < cs.length := by omega
  obtain ⟨b0, b1⟩ := bc _ (List.getElem_mem ci)
  have g : atI (cs.map V.int) (n.fmod 64) = some (.int cs[(n.fmod 64).toNat]) := by
    rw [atI_at k0 (by rw [List.length_map, lc]; exact k1), List.getElem_map]
  have d0 : n.fdiv 64 = n / 64 := fdiv_pos (by decide)
  refine ⟨.ref am, rfl, am, .ref ac, rfl, DGet.k (k := Sum.inr "cells") e1,   .int n, rfl, n, 64, rfl, rfl, (by decide : (64 : Int) ≠ 0), ac, _, _, _, rfl, rfl, .inl (.inl e2), g,
    .int n, rfl, n, 64, rfl, rfl, nd_small (b := 8) (by decide) (bd_lit (by decide)), 31, n.fdiv 64, rfl, rfl, mulok (a := 5) (b := 62) (bd_lit (by decide)) ?_, _, _, rfl, rfl, .int n, rfl, _, n, rfl, ?_, n0, by omega, fun x H1 h0 h1 s1 =>
    ⟨.int n, rfl, n, 7, rfl, rfl, x, n + 7, rfl, ?_, by omega, by omega, fun y H2 h2 h3 s2 => ⟨.int many, rfl, y, many, rfl, rfl, by omega, fin H2 _ (s1.trans s2) (Int.fmod_nonneg_of_pos _ hp) (Int.fmod_lt_of_pos _ hp)⟩⟩⟩
  · rw [d0]; unfold bd; omega
  · rw [d0]; omega
  · omega
theorem rd_draw {mg : Str → Option Value} {vs : List V} {H : Hp} {Q : VK} {X : XK} (h : spD K mg DrW s0__law_draw vs H Q X) : t_draw K E { nx := fun _ H' => Q .non H', rt := Q } (L2.start N__law_draw vs) H := by
  obtain ⟨F0, m, ds, Qd, Zd, rz, dv, ⟨N, many, rfl, rfl, hp, hb, q⟩, hq, _⟩ := h
  obtain ⟨am, ac, ad, cs, dg, n, rfl, x1, x2, x3, e1, e2, e3, n0, nN, lc, bc, ld⟩ := rz
  cases dv with
  | cons d1 dv =>
  cases dv with
  | cons d2 dv =>
  cases dv
  cases d1 with
  | hnd e =>
  cases d2
  cases (Option.some.inj e)
  have e1 : H am = some (.dK (drV ac ad n)) := e1
  have nN' : n + N + 1 ≤ 2 ^ 60 := by omega
  have fin : ∀ (H' : Hp) (dg' : List Int) x, H' am = some (.dK (drV ac ad (n + 1))) → H' ac = some (.lst (cs.map V.int)) → H' ad = some (.lst (dg'.map V.int)) → dg'.length = dg.length → (∀ a o, a ∉ [am, ac, ad] → H a = some o → H' a = some o) → 0 ≤ x → x < many → Q (.int x) H' :=
    fun H' dg' x f1 f2 f3 l kp h0 h1 => hq (.int x) H' [am, ac, ad] (.int x) (some N) ⟨am, ac, ad, cs, dg', n + 1, rfl, x1, x2, x3, f1, f2, f3, by omega, by omega, lc, bc, by omega⟩ ⟨[], by simp⟩ (fun a h z => absurd h z) kp (.int x) (q x h0 h1)
  refine ⟨.ref am, rfl, am, .int n, rfl, DGet.k (k := Sum.inr "at") e1, .int n, rfl, n, 1, rfl, rfl, .ref am, rfl, am, upd H am (.dK (drV ac ad (n + 1))), rfl, DPut.k (k := Sum.inr "at") e1 (lt_line (show 3 < 16777216 by decide)), ?_⟩
  have f1 : upd H am (.dK (drV ac ad (n + 1))) am = some (.dK (drV ac ad (n + 1))) := upd_same
  have f2 : upd H am (.dK (drV ac ad (n + 1))) ac = some (.lst (cs.map V.int)) := by rw [upd_ne x1.symm]; exact e2
  have f3 : upd H am (.dK (drV ac ad (n + 1))) ad = some (.lst (dg.map V.int)) := by rw [upd_ne x2.symm]; exact e3
  have kp : ∀ a o, a ∉ [am, ac, ad] → H a = some o → upd H am (.dK (drV ac ad (n + 1))) a = some o := fun a o z e => by
    rw [upd_ne (fun q => z (by rw [q]; simp))]; exact e
  generalize upd H am (.dK (drV ac ad (n + 1))) = H1 at f1 f2 f3 kp ⊢
  have last : ∀ (H' : Hp) (y3 y4 : Option V), Same H1 H' → t_last K E [some (.ref am), some (.int many), some (.int n), y3, y4] H' Q := fun H' y3 y4 s =>
    rd_last (s _ _ f1) (s _ _ f2) n0 (by omega) lc bc hp fun H2 x s2 h0 h1 => fin H2 dg x (s2 _ _ (s _ _ f1)) (s2 _ _ (s _ _ f2)) (s2 _ _ (s _ _ f3)) rfl (fun a o z e => s2 _ _ (s _ _ (kp a o z e))) h0 h1
  refine ⟨.ref am, rfl, am, .ref ad, rfl, DGet.k (k := Sum.inr "digits") f1, Nat.zero_le _, fun p np => ?_⟩
  have s1 : Same H1 (upd H1 p (.lst [])) := fun b o z => by rw [upd_ne (fun q => by rw [q, np] at z; cases z)]; exact z
  have fp : upd H1 p (.lst []) p = some (.lst []) := upd_same
  generalize upd H1 p (.lst []) = H2 at s1 fp ⊢
  have g1 := s1 _ _ f1
  have g2 := s1 _ _ f2
  have g3 := s1 _ _ f3
  have dn : Dn true K [] H2 (.ref ad) (.lst (zz dg)) := .lst (show Ls true K H2 ad _ from g3) (ints_dn dg)
  have dn0 : Dn true K [] H2 (.ref p) (.lst (zz [])) := .lst (show Ls true K H2 p _ from fp) .nil
  refine ⟨_, _, dn.dp (n := 8) (fun _ _ h => h) (q_lst dg), dn0.dp (n := 8) (fun _ _ h => h) (q_lst []), shaped_q (q_lst dg), shaped_q (q_lst []), _, rfl, ?_⟩
  rw [py_eqv (q_lst (n := 7) dg) (q_lst []), eqv_lst]
  by_cases hd : dg = []
  · rw [decide_eq_true hd]
    exact iteF (last H2 none none s1)
  · rw [decide_eq_false hd]
    refine iteT ?_
    have l0 : 0 < dg.length := List.length_pos_iff.mpr hd
    have k0 : 0 ≤ n.fmod dg.length := Int.fmod_nonneg_of_pos _ (by omega)
    have k1 : n.fmod dg.length < dg.length := Int.fmod_lt_of_pos _ (by omega)
    have em : n.fmod ((dg.map V.int).length : Int) = n.fmod dg.length := by rw [List.length_map]
    refine ⟨.int n, rfl, .ref am, rfl, am, .ref ad, rfl, DGet.k (k := Sum.inr "digits") g1, ad, _, rfl, .inl (.inl (.inl g3)), n, _, rfl, rfl, by rw [List.length_map]; omega, ?_⟩
    show gName 3 (.int (n.fmod ((dg.map V.int).length : Int))) _ _ _
    rw [em]
    generalize n.fmod dg.length = j at k0 k1 ⊢
    obtain ⟨c, gj⟩ : ∃ c, atI (dg.map V.int) j = some (.int c) := ⟨dg[j.toNat]'(by omega), by rw [atI_at k0 (by rw [List.length_map]; exact k1), List.getElem_map]⟩
    refine ⟨.ref am, rfl, am, .ref ad, rfl, DGet.k (k := Sum.inr "digits") g1, .int j, rfl, ad, _, _, _, rfl, rfl, .inl (.inl g3), gj, .int c, rfl, 1, rfl, show 2 ≤ sizeLine from small_line (by decide), fun t nt => ?_⟩
    have s2 : Same H2 (upd H2 t (.tup [.int 0, .int (-1)])) := fun b o z => by rw [upd_ne (fun q => by rw [q, nt] at z; cases z)]; exact z
    have ft : upd H2 t (.tup [.int 0, .int (-1)]) t = some (.tup [.int 0, .int (-1)]) := upd_same
    generalize upd H2 t (.tup [.int 0, .int (-1)]) = H3 at s2 ft ⊢
    refine ⟨t, _, rfl, .inr (.inl (.inl ft)), rfl, rfl, _, rfl, ite2 (fun z => ?_) fun z => ?_⟩
    · have nj : ixN (dg.map V.int).length j = some j.toNat := ixN_at k0 (by rw [List.length_map]; exact k1)
      refine ⟨.int c, rfl, .int many, rfl, c, many, rfl, rfl, nd_small (b := 8000) (by omega) hb, .ref am, rfl, am, .ref ad, rfl, DGet.k (k := Sum.inr "digits") (s2 _ _ g1), .int j, rfl, ad, _, j, j.toNat, rfl, rfl, s2 _ _ g3, nj,
        .int c, rfl, .int many, rfl, c, many, rfl, rfl, by omega, ?_⟩
      refine fin _ (dg.set j.toNat (c.fdiv many)) _ ?_ ?_ ?_ (List.length_set ..) (fun a o z e => ?_) (Int.fmod_nonneg_of_pos _ hp) (Int.fmod_lt_of_pos _ hp)
      · rw [upd_ne x2]; exact s2 _ _ g1
      · rw [upd_ne x3]; exact s2 _ _ g2
      · rw [upd_same, List.map_set]
      · rw [upd_ne (fun q => z (by rw [q]; simp))]; exact s2 _ _ (s1 _ _ (kp a o z e))
    · exact last H3 _ _ (s1.trans s2)
abbrev t_begun (K : PySem.W.Frag) (E : L2.St → XK) : TS :=
  tSeq (tAsg (tDisp [(tC (V.str "cells"), tCallSD (hFold K) [] E (tCons (tVar 0) tNil)), (tC (V.str "digits"), tLst tNil), (tC (V.str "at"), tC (V.int 0))]) (gName 1))
    (tSeq (tIfS (tAnd (tTest (tOp (rNeD K) (tVar 0) (tLst tNil))) (tTest (tOp rEq (tMod (tOp (rIxL K) (tVar 0) (tC (V.int 0))) (tC (V.int 2))) (tC (V.int 1)))))
      (sDPut (tVar 1) (tC (V.str "digits")) (tOp rCat (tLst (tCons (tDiv (tOp (rIxL K) (tVar 0) (tC (V.int 0))) (tC (V.int 2))) tNil)) (tSl (rSlL K) (tVar 0) (tPart (tC (V.int 1))) tNoPart)))
      tNext)
    (tRet (tVar 1)))
theorem same_new {H : Hp} {p : Addr} {o : HO} (n : H p = none) : Same H (upd H p o) := fun b x z => by rw [upd_ne (fun q => by rw [q, n] at z; cases z)]; exact z
theorem ne_none {H : Hp} {p q : Addr} {o : HO} (e : H p = some o) (n : H q = none) : p ≠ q := fun z => by rw [z, n] at e; cases e
theorem none_back {H H' : Hp} {a : Addr} (s : Same H H') (n : H' a = none) : H a = none := by
  cases e : H a with
  | none => rfl
  | some o => rw [s _ _ e] at n; cases n
theorem rd_begun {mg : Str → Option Value} {vs : List V} {H : Hp} {Q : VK} {X : XK} (h : spD K mg DrW s0__law_begun vs H Q X) : t_begun K E { nx := fun _ H' => Q .non H', rt := Q } (L2.start N__law_begun vs) H := by
  obtain ⟨F0, m, ds, Qd, Zd, rz, dv, ⟨ns, rfl, hl, rfl, q⟩, hq, _⟩ := h
  have rz : F0 = [] := rz
  subst rz
  cases dv with
  | cons d1 dv =>
  cases dv
  cases d1 with
  | lst hs hr =>
  rename_i a xs
  have hx := hr.ints_inv
  subst hx
  have hs : SqL K H a (ns.map V.int) := Ls.mono (s := false) (fun _ _ => wv_le) hs
  refine fun p np => ⟨.ref a, rfl, a, ns, rfl, (same_new np).seq hs, hl, fun cs c H1 s1 nc ec lc bc => ⟨Nat.zero_le _, fun g ng => ⟨?_, [(Sum.inr "cells", .ref c), (Sum.inr "digits", .ref g), (Sum.inr "at", .int 0)], rfl, (show 3 ≤ 15 by decide), ?_⟩⟩⟩
  · exact same_new ng _ _ (s1 _ _ upd_same)
  show tSeq _ _ _ [some (.ref a), some (.ref p)] (upd (upd H1 g (.lst [])) p (.dK (drV c g 0)))
  have npc : p ≠ c := fun z => by rw [← z, upd_same] at nc; cases nc
  have ncH : H c = none := by rw [upd_ne npc.symm] at nc; exact nc
  have ep1 : H1 p = some (.dK []) := s1 _ _ upd_same
  have npg : p ≠ g := ne_none ep1 ng
  have ncg : c ≠ g := ne_none ec ng
  have sH : ∀ b o, H b = some o → H1 b = some o := fun b o e => s1 _ _ (same_new np _ _ e)
  have ngH : H g = none := none_back sH ng
  have f1 : upd (upd H1 g (.lst [])) p (.dK (drV c g 0)) p = some (.dK (drV c g 0)) := upd_same
  have f2 : upd (upd H1 g (.lst [])) p (.dK (drV c g 0)) c = some (.lst (cs.map V.int)) := by rw [upd_ne npc.symm, upd_ne ncg]; exact ec
  have f3 : upd (upd H1 g (.lst [])) p (.dK (drV c g 0)) g = some (.lst []) := by rw [upd_ne npg.symm, upd_same]
  have s2 : Same H (upd (upd H1 g (.lst [])) p (.dK (drV c g 0))) := fun b o e => by
    rw [upd_ne (fun z => by rw [z, np] at e; cases e), upd_ne (fun z => by rw [z, ngH] at e; cases e)]
    exact sH b o e
  generalize upd (upd H1 g (.lst [])) p (.dK (drV c g 0)) = H2 at f1 f2 f3 s2 ⊢
  have fin : ∀ (H' : Hp) (d : Addr) (dg : List Int), H d = none → d ≠ p → d ≠ c → H' p = some (.dK (drV c d 0)) → H' c = some (.lst (cs.map V.int)) → H' d = some (.lst (dg.map V.int)) → dg.length < sizeLine → Same H H' → Q (.ref p) H' :=
    fun H' d dg nd n1 n2 e1 e2 e3 ld s => hq (.ref p) H' [p, c, d] (.hnd 0) (some (2 ^ 50)) ⟨p, c, d, cs, dg, 0, rfl, npc, n1.symm, n2.symm, e1, e2, e3, by decide, by decide, lc, bc, ld⟩ ⟨[p, c, d], rfl⟩
      (fun x hx _ => by simp only [List.mem_cons, List.not_mem_nil, or_false] at hx; rcases hx with rfl | rfl | rfl <;> assumption) (fun x o _ e => s x o e) (.hnd rfl) q
  have hs2 : SqL K H2 a (ns.map V.int) := s2.seq hs
  refine ⟨.ref a, rfl, Nat.zero_le _, fun t nt => ?_⟩
  have s3 := same_new (o := .lst []) nt
  have et : upd H2 t (.lst []) t = some (.lst []) := upd_same
  generalize upd H2 t (.lst []) = H3 at s3 et ⊢
  have dn : Dn false K [] H3 (.ref a) (.lst (zz ns)) := .lst (show Ls false K H3 a _ from s3.seq hs2) (ints_dn ns)
  have dn0 : Dn true K [] H3 (.ref t) (.lst (zz [])) := .lst (show Ls true K H3 t _ from et) .nil
  refine ⟨_, _, dn.dp (n := 8) (fun _ _ h => h) (q_lst ns), dn0.dp (n := 8) (fun _ _ h => h) (q_lst []), shaped_q (q_lst ns), shaped_q (q_lst []), _, rfl, ?_⟩
  rw [py_eqv (q_lst (n := 7) ns) (q_lst []), eqv_lst]
  have skip : ∀ H', Same H2 H' → Q (.ref p) H' := fun H' s => fin H' g [] ngH npg.symm ncg.symm (s _ _ f1) (s _ _ f2) (s _ _ f3) (lt_line (show 0 < 16777216 by decide)) (s2.trans s)
  by_cases hn : ns = []
  · rw [decide_eq_true hn]
    exact iteF ⟨.ref p, rfl, skip _ s3⟩
  · rw [decide_eq_false hn]
    refine iteT ?_
    obtain ⟨x, r, rfl⟩ := List.exists_cons_of_ne_nil hn
    have hs3 := s3.seq hs2
    have g0 : atI ((x :: r).map V.int) 0 = some (.int x) := atI_nat (j := 0) rfl
    refine ⟨.ref a, rfl, a, _, 0, _, rfl, rfl, hs3, g0, x, 2, rfl, rfl, (by decide : (2 : Int) ≠ 0), rfl, _, rfl, ite2 (fun _ => ?_) fun _ => ⟨.ref p, rfl, skip _ s3⟩⟩
    refine ⟨.ref a, rfl, a, _, 0, _, rfl, rfl, hs3, g0, x, 2, rfl, rfl, nd_small (b := 8) (by decide) (bd_lit (by decide)), show 1 ≤ sizeLine from small_line (by decide), fun u nu => ?_⟩
    have s4 := same_new (o := .lst [.int (x.fdiv 2)]) nu
    have eu : upd H3 u (.lst [.int (x.fdiv 2)]) u = some (.lst [.int (x.fdiv 2)]) := upd_same
    generalize upd H3 u (.lst [.int (x.fdiv 2)]) = H4 at s4 eu ⊢
    refine ⟨.ref a, rfl, 1, rfl, a, _, rfl, s4.seq hs3, fun v nv => ?_⟩
    have s5 := same_new (o := .lst (cutV ((x :: r).map V.int) (some 1) none)) nv
    have ev : upd H4 v (.lst (cutV ((x :: r).map V.int) (some 1) none)) v = some (.lst (cutV ((x :: r).map V.int) (some 1) none)) := upd_same
    generalize upd H4 v (.lst (cutV ((x :: r).map V.int) (some 1) none)) = H5 at s5 ev ⊢
    have lcut := cutV_length ((x :: r).map V.int) (some 1) none
    rw [List.length_map] at lcut
    refine ⟨u, v, _, _, rfl, rfl, s5 _ _ eu, ev, small_line (by rw [List.length_singleton]; omega), fun y ny => ?_⟩
    obtain ⟨more, em, lm⟩ : ∃ more : List Int, cutV ((x :: r).map V.int) (some 1) none = more.map V.int ∧ more.length ≤ 63 := by
      refine ⟨_, show List.take _ (List.drop _ (List.map V.int (x :: r))) = _ by rw [← List.map_drop, ← List.map_take], ?_⟩
      rw [List.length_take, List.length_drop]; omega
    rw [em]
    have s6 := same_new (o := .lst ([V.int (x.fdiv 2)] ++ more.map V.int)) ny
    have ey : upd H5 y (.lst ([V.int (x.fdiv 2)] ++ more.map V.int)) y = some (.lst ([V.int (x.fdiv 2)] ++ more.map V.int)) := upd_same
    have sA := ((s3.trans s4).trans s5)
    have nyH : H2 y = none := none_back sA ny
    generalize upd H5 y (.lst ([V.int (x.fdiv 2)] ++ more.map V.int)) = H6 at s6 ey ⊢
    have sB := sA.trans s6
    have nyp : y ≠ p := (ne_none f1 nyH).symm
    have nyc : y ≠ c := (ne_none f2 nyH).symm
    refine ⟨.ref p, rfl, p, upd H6 p (.dK (drV c y 0)), rfl, DPut.k (k := Sum.inr "digits") (sB _ _ f1) (lt_line (show 3 < 16777216 by decide)), .ref p, rfl, ?_⟩
    refine fin _ y (x.fdiv 2 :: more) (none_back s2 nyH) nyp nyc upd_same ?_ ?_ (lt_line (by rw [List.length_cons]; omega)) fun b o e => ?_
    · rw [upd_ne npc.symm]; exact sB _ _ f2
    · rw [upd_ne nyp]; exact ey
    · rw [upd_ne (fun z => by rw [z, np] at e; cases e)]; exact sB _ _ (s2 _ _ e)
end
/-! ### the parts put together -/
theorem okK_len : ∀ {ks : List Bool} {ds : List D}, okK ks ds → ds.length = ks.length
  | [], [], _ => rfl
  | [], _ :: _, h => h.elim
  | _ :: _, [], h => h.elim
  | _ :: _, _ :: _, h => congrArg (· + 1) (okK_len h.2)
section
variable {P : Program} {w : World} {K : PySem.W.Frag} {mg : Str → Option Value} {base : Heap} {W : Wd}
theorem Dfn.go {g x : Str} {st : Stmt} {N ps : List Str} {k : Nat} {sp : DSp W.M} {t : DS W.M} (F : Dfn K mg g x st ps) (ks : List Bool) (S : FnScope N ps (defScope st)) (body : BodyJ P w K mg base W k N x st t)
    (vc : ∀ ds m Q Z, sp ds m Q Z → okK ks ds ∧ t { nx := fun _ m' => Q .non m', rt := Q, ex := Z } (st0 ks ds N.length) m) (hk : ks.length = ps.length := by rfl) (hn : ps.length ≤ N.length := by decide) : FD P w K mg base W (k + 1) g [] sp :=
  F.fd ks S body (fun ds m Q Z h => by rw [okK_len (vc ds m Q Z h).1, hk]) vc hn
/-- what a law asks of itself -/
def s_law : DSp (Option Nat) := fun ds m Q Z => ∃ ns : List Int, ds = [.lst (zz ns)] ∧ ns.length ≤ 63 ∧ m = none ∧ ∀ m', Q (.bl true) m'
theorem law_go {st : Stmt} {f : Addr} {fd : FuncData} {N ps : List Str} {k : Nat} {t : DS (Option Nat)} (F : Fun K "law" "law" st f fd) (S : FnScope N ps (defScope st)) (body : BodyJ P w K mg base DrW k N "law" st t)
    (vc : ∀ ds m Q Z, s_law ds m Q Z → okK [true] ds ∧ t { nx := fun _ m' => Q .non m', rt := Q, ex := Z } (st0 [true] ds N.length) m) (hk : ps.length = 1 := by rfl) (hn : ps.length ≤ N.length := by decide) : FnG P w K mg base (L2.CX P w) (k + 1) f fd ps (spLaw K) :=
  law_of (W := DrW) (m0 := none) (sp := s_law) (fn_data (W := DrW) [true] F S (fun ds m Q Z h => (okK_len (vc ds m Q Z h).1).trans hk.symm) hn (body f) vc) (fun _ => (rfl : ([] : List Addr) = [])) fun ns hl => ⟨ns, rfl, hl, rfl, fun _ => rfl⟩
end
end RR

/-! RRec: a def that calls itself: the promise of depth nought is kept by every def -/
namespace RR
open PySem PySem.Spec PyProof.Rows L2
section
variable {P : Program} {w : World} {K : PySem.W.Frag} {mg : Str → Option Value} {base : Heap} {W : Wd}
end
end RR

/-! RMx: a world that holds a matrix beside another world -/
namespace RR
open PySem PySem.Spec PyProof.Rows L2
abbrev Mx := Nat × List (List Int)
section
variable {X : Cx} {W : Wd} {n0 : Nat} {H0 : Hp} {F0 : List Addr} {wx : WX}
/-- what the names hold as data -/
def SV (K : PySem.W.Frag) (C : Cn) (Pr : Addr → Prop) (F : List Addr) (σ : L2.St) (ρ : En) (H : Hp) : Prop := ∀ (i : Nat) (d : D), ρ[i]? = some (.val d) → ∃ v, σ[i]? = some (some v) ∧ Dn true K F (sv C.H0 Pr H) v d
theorem SV.poke {K : PySem.W.Frag} {C : Cn} {Pr : Addr → Prop} {F : List Addr} {σ : L2.St} {ρ : En} {H : Hp} {p : Addr} {us vs : List V} (S : SV K C Pr F σ ρ H) (pp : Pr p) (hp : H p = some (.lst us)) : SV K C Pr F σ ρ (upd H p (.lst vs)) := fun i d e => by
  obtain ⟨v, a, h⟩ := S i d e
  refine ⟨v, a, h.mono ⟨[], by simp⟩ fun a o e => ?_⟩
  obtain ⟨x, y⟩ := vw_iff.mp e
  refine vw_iff.mpr ⟨?_, y⟩
  rw [upd_ne]
  · exact x
  · intro z
    rcases y with y | y
    · rw [z, hp] at x; cases x; exact y
    · exact y.2.1 (z ▸ pp)
end
end RR

/-! RMx2: a matrix is made of new rows; a def over a matrix -/
namespace RR
open PySem PySem.Spec PyProof.Rows L2
section
variable {X : Cx} {W : Wd} {n0 : Nat} {H0 : Hp} {F0 : List Addr} {wx : WX}
variable {elt tg iter : Expr} {scope : Scope} {own : List (Str × Nat)} {ti : DTA (W.M × Option Mx)} {g : DG} {de : DT (W.M × Option Mx)} {ws : List Nat}
end
section
variable {P : Program} {w : World} {K : PySem.W.Frag} {mg : Str → Option Value} {base : Heap} {W : Wd}
end
end RR

/-! RTx: texts sign by sign, parts of texts, dicts of the module with text keys -/
namespace RR
open PySem PySem.Spec PyProof.Rows L2
section
variable {X : Cx} {C : Cn} {e f a b : Expr} {ta tb : DT C.W.M} {pos : Pos}
theorem ji_signs {st : Bool} {tg : Expr} {t : DT C.W.M} (h : J .w X C e t) : JI st X C tg e (dSigns t) := by
  obtain ⟨te, p, q⟩ := h
  refine ⟨_, pi_str p, fun σ H Pr F ρ m Q Z R S E h k => ?_⟩
  refine q σ H Pr F ρ m _ Z _ S E h fun v H1 ⟨P1, F1, m1, d, S1, t1, dv, z⟩ => ?_
  have dv : Dn false X.K F1 (wv F1 H1) v d := dv
  try dsimp only at z
  split at z
  · rename_i _ x _
    cases dv
    have hw : Walk (Its x) (signs x).length (fun _ => True) (fun i H v H' => H' = H ∧ ∃ c, x.cps[i]? = some c ∧ v = .str ⟨#[c]⟩) := by
      rw [show (signs x).length = x.cps.size by simp [signs]]
      exact walk_str
    refine ⟨_, rfl, k _ _ ⟨P1, F1, m1, _, S1, t1, ⟨_, _, hw, fun P2 F2 H2 t2 => ⟨trivial, fun i v H3 y => ?_⟩⟩, z⟩⟩
    · obtain ⟨rfl, c, hc, rfl⟩ := y
      refine ⟨fun _ _ h => h, .str ⟨#[c]⟩, ?_, .str _⟩
      unfold signs
      rw [List.getElem?_map, Array.getElem?_toList, hc]
      rfl
  · exact z.elim
/-- one sign in a text -/
def gInS : G2 := fun x y Q => match x, y with
  | .str s, .str z => ∃ c, s = ⟨#[c]⟩ ∧ Q (.bl (decide (c ∈ z.cps.toList)))
  | _, _ => False
def gNinS : G2 := fun x y Q => match x, y with
  | .str s, .str z => ∃ c, s = ⟨#[c]⟩ ∧ Q (.bl (!decide (c ∈ z.cps.toList)))
  | _, _ => False
theorem ok_inS : OpOk X C (compareOp .In) gInS := by
  refine ⟨_, op_in_sign, fun σ H Pr F ρ m x y dx dy Q R S hx hy q k => ?_⟩
  unfold gInS at q
  split at q
  · obtain ⟨c, rfl, q⟩ := q
    cases hx
    cases hy
    exact ⟨c, _, rfl, rfl, k _ _ (post_here S (.bl _) (fun _ h => nomatch h) q)⟩
  · exact q.elim
def gInQ : G2 := fun x y Q => match y with
  | .tup ds => x.q 8 = true ∧ (D.tup ds).q 8 = true ∧ Q (.bl (ds.any fun z => z.eqv x))
  | _ => False
/-- text[lo:hi] -/
def dSlS {M : Type} (t : DT M) (lo hi : DTO M) : DT M := fun ρ m Q Z => t ρ m (fun x m1 => lo ρ m1 (fun l m2 => hi ρ m2 (fun u m3 => match x with
  | .str z => z.length ≤ sizeLine ∧ Q (.str (cutS z l u)) m3
  | _ => False) Z) Z) Z
/-- int(text), int(number), int(truth) -/
def gIntU : List D → (D → Prop) → Prop
  | [.int i], Q => Q (.int i)
  | [.bl b], Q => Q (.int (if b then 1 else 0))
  | [.str z], Q => ∃ n, PySem.intText? z = some n ∧ z.length ≤ 640 ∧ Q (.int n)
  | _, _ => False
end
/-! ### texts told several times -/
def repS (k : Int) (x : Str) : Str := ⟨(List.replicate k.toNat x.cps.toList).flatten.toArray⟩
theorem fold_cps (x : Array Nat) : ∀ (n : Nat) (a : Array Nat), (List.replicate n x).foldl (· ++ ·) a = ⟨a.toList ++ (List.replicate n x.toList).flatten⟩
  | 0, a => by simp
  | n + 1, a => by
    rw [List.replicate_succ, List.foldl_cons, fold_cps x n, List.replicate_succ, List.flatten_cons, Array.toList_append, List.append_assoc]
theorem repS_one (x : Str) : repS 1 x = x := by unfold repS; simp [List.replicate]
theorem repS_none {k : Int} {x : Str} (h : k < 1) : repS k x = Str.empty := by
  unfold repS Str.empty
  rw [show k.toNat = 0 by omega]; rfl
theorem repS_len (k : Int) (x : Str) : (repS k x).length = x.length * k.toNat := by
  unfold repS Str.length
  rw [List.size_toArray, List.length_flatten, List.map_replicate, List.sum_replicate_nat, Array.length_toList, Nat.mul_comm]
section
variable {X : Cx} {C : Cn}
def rMulT : R2 := fun x y H Q => ∃ (z : Str) (k : Int), x = .str z ∧ y = .int k ∧ -(2 ^ 62) ≤ k ∧ k ≤ 16777216 ∧ z.length * k.toNat ≤ 16777216 ∧ z.length ≤ 16777216 ∧ Q (.str (repS k z)) H
theorem op_mulT : OpR X (binaryOp .Mult) rMulT := by
  intro pins s σ H x y v u Q I rx ry h
  obtain ⟨z, k, rfl, rfl, k0, k1, kl, kz, q⟩ := h
  obtain ⟨t, rfl⟩ := rx
  obtain ⟨t', rfl⟩ := ry
  refine P.mul_str (by rw [decide_eq_false (by omega), decide_eq_false (by omega)]; rfl) (fun n1 n2 => ?_) (fun n1 n2 => ?_) ?_
  · have k2 : 1 ≤ k := by omega
    intro hc
    have : (2 ^ 63 - 1 : Int) / k ≥ 16777216 := by
      rw [ge_iff_le, Int.le_ediv_iff_mul_le (by omega)]
      have : (16777216 : Int) * k ≤ 16777216 * 16777216 := by omega
      omega
    have : (z.length : Int) ≤ 16777216 := by omega
    omega
  · unfold Builtin.Str.tooLong
    exact decide_eq_false (by rw [sizeLine_eq]; omega)
  · by_cases h1 : k < 1
    · rw [if_pos h1]
      rw [repS_none h1] at q
      exact ⟨Nat.zero_le _, .str _, H, I.tok _, ⟨_, rfl⟩, q⟩
    · rw [if_neg h1]
      by_cases h2 : (k == 1 || z.length == 0) = true
      · rw [if_pos h2]
        have e : repS k z = z := by
          rw [Bool.or_eq_true] at h2
          rcases h2 with h2 | h2
          · rw [beq_iff_eq.mp h2]; exact repS_one z
          · have : z.cps = #[] := Array.eq_empty_of_size_eq_zero (beq_iff_eq.mp h2)
            obtain ⟨c⟩ := z
            have this : c = #[] := this
            subst this
            unfold repS
            simp
        rw [e] at q
        exact ⟨.str _, H, I, ⟨_, rfl⟩, q⟩
      · rw [if_neg h2]
        have e : (⟨(List.replicate k.toNat z.cps).foldl (· ++ ·) #[]⟩ : Str) = repS k z := by
          unfold repS
          rw [fold_cps]; simp
        rw [e]
        exact ⟨by rw [repS_len]; exact small_line kl, .str _, H, I.tok _, ⟨_, rfl⟩, q⟩
def gMulT : G2 := fun x y Q => match x, y with
  | .str z, .int k => -(2 ^ 62) ≤ k ∧ k ≤ 16777216 ∧ z.length * k.toNat ≤ 16777216 ∧ z.length ≤ 16777216 ∧ Q (.str (repS k z))
  | _, _ => False
theorem okd_mulT : OpD X C (binaryOp .Mult) gMulT := by
  refine ⟨_, op_mulT, fun σ H Pr F ρ m x y dx dy Q R S hx hy q k => ?_⟩
  unfold gMulT at q
  split at q
  · obtain ⟨q1, q2, q3, q4, q⟩ := q
    cases hx
    rw [hy.toInt]
    exact ⟨_, _, rfl, rfl, q1, q2, q3, q4, k _ _ (post_here S (.str _) (fun _ h => nomatch h) q)⟩
  · exact q.elim
end
/-! ### dicts of the module -/
def ValT (d : D) (v : Value) : Prop := (∃ i t, d = .int i ∧ v = .int i t) ∨ ∃ z t, d = .str z ∧ v = .str z t
def tget (tab : List (Str × D)) (z : Str) : Option D := (tab.find? fun p => decide (p.1 = z)).map (·.2)
theorem ValT.rel {d : D} {u : Value} (h : ValT d u) : ∃ v, RelV v u ∧ (∀ (s : Bool) (K : PySem.W.Frag) (F : List Addr) (G : Hp), Dn s K F G v d) ∧ ∀ ds, d ≠ .lst ds := by
  rcases h with ⟨i, t, rfl, rfl⟩ | ⟨i, t, rfl, rfl⟩
  · exact ⟨.int i, ⟨t, rfl⟩, fun _ _ _ _ => .int i, fun _ h => nomatch h⟩
  · exact ⟨.str i, ⟨t, rfl⟩, fun _ _ _ _ => .str i, fun _ h => nomatch h⟩
section
variable {X : Cx} {C : Cn} {e f a b : Expr} {ta tb : DT C.W.M} {pos : Pos} {nm : Str} {tab : List (Str × D)}
def gInF (nm : Str) (tab : List (Str × D)) : G2 := fun x y Q => match x, y with
  | .str z, .fn n => n = nm ∧ Q (.bl (tget tab z).isSome)
  | _, _ => False
/-- D.get(text, x) -/
def gGetF (tab : List (Str × D)) (y z : D) (Q : D → Prop) : Prop := match y with
  | .str s => z.nl = true ∧ Q ((tget tab s).getD z)
  | _ => False
def dGetF {M : Type} (nm : Str) (tab : List (Str × D)) (t u w : DT M) : DT M := fun ρ m Q Z => t ρ m (fun x m1 => x = .fn nm ∧ u ρ m1 (fun y m2 => w ρ m2 (fun z m3 => gGetF tab y z fun d => Q d m3) Z) Z) Z
end
end RR

/-! RPx: expressions that take items out of lists of the own -/
namespace RR
open PySem PySem.Spec PyProof.Rows L2
abbrev XT (M : Type) := En → M → (D → En → M → Prop) → (Str → M → Prop) → Prop
def JX (X : Cx) (C : Cn) (e : Expr) (t : XT C.W.M) : Prop := ∃ te, PE X e te ∧
  ∀ σ H Pr F ρ m Q Z (R : VK), SR X.K C Pr F σ ρ m H → (∀ ρ, Ex X C Pr F H σ ρ Z) → t ρ m Q Z →
    (∀ v H', (∃ Pr' F' ρ' m' d, SR X.K C Pr' F' σ ρ' m' H' ∧ Tr Pr F H Pr' F' H' ∧ Dn true X.K F' (sv C.H0 Pr' H') v d ∧ Q d ρ' m') → R v H') → te σ H R
section
variable {X : Cx} {C : Cn} {e : Expr} {es : List Expr} {pos : Pos}
end
section
variable {M : Type} {ρ : En} {m : M} {nx bk ct : En → M → Prop} {rt : D → M → Prop} {ex : Str → M → Prop} {ds : List D} {d : D} {Z : Str → M → Prop}
end
end RR

/-! RO: a world that holds an instance of an own class beside another world -/
namespace RR
open PySem PySem.Spec PyProof.Rows L2
section
variable {X : Cx} {CT : CXT} {k : Nat} {f C : Addr} {fd : FuncData} {ps : List Str} {sp : Sp} {ds : List Value} {dvs : List V} {E : L2.St → XK} {x m : Str} {p pos apos : Pos} {e o : Expr} {es : List Expr} {ta : TE} {t : TA}
/-- the callee runs -/
theorem go_fnG {pins : List (Addr × Obj)} {σ : L2.St} {H : Hp} {s : Shared} {Q : VK} {us : List Value} {vs : List V} (F : FnG X.prog X.w X.K X.mg X.base CT k f fd ps sp) (room : RoomG k X.A) (bn : Binds X.K fd ps ds) (dv : Vals dvs ds) (px : ∀ σ, PassesAt CT X σ (E σ))
    (I : Inv X pins σ H s) (r : Vals vs us) (z : sp (vs ++ dvs) H Q (E σ)) : wpAny (model X.prog X.w) X.A (call (.ref f) us) (EP X pins σ Q) X.xe s := by
  have both : Vals (vs ++ dvs) (us ++ ds) := r.append dv
  have size : (us ++ ds).length = ps.length := both.length.symm.trans (F.ln z)
  refine wpAny_call (codeAny_mono (F.go (args := ⟨us, []⟩) room I.env0 (bn s us I.kIn size) both z) fun r s2 z2 => ?_)
  match r, z2 with
  | .error e, z2 => exact px σ pins H s e s2 I z2
  | .ok (.ret u), z2 => exact I.after z2
  | .ok .next, z2 => exact z2.elim
  | .ok .brk, z2 => exact z2.elim
  | .ok .cont, z2 => exact z2.elim
def tMethG (C : Addr) (m : Str) (sp : Sp) (dvs : List V) (E : L2.St → XK) (ta : TE) (t : TA) : TE := fun σ H Q => ta σ H fun x H1 => ∃ a dx fs, x = .ref a ∧ H1 a = some (.ins C dx fs) ∧ fs.lookup m = none ∧
  t σ H1 fun vs H2 => sp (x :: (vs ++ dvs)) H2 Q (E σ)
theorem pe_methG {pl : Sem Bool} (he : PE X o ta) (c : Cls X.K C) (hm : Meth X.K C m f) (F : FnG X.prog X.w X.K X.mg X.base CT k f fd ps sp) (room : RoomG k X.A) (bn : Binds X.K fd ps ds) (dv : Vals dvs ds) (px : ∀ σ, PassesAt CT X σ (E σ)) (ha : PA X (e :: es) t)
    (hst : starEach (e :: es) X.env = (false, eval e X.env) :: starEach es X.env := by rfl) (hpl : (backTo pos (starEach es X.env)).any (·.1) = false := by rfl)
    (ht : eval (.Call (.Attribute o m apos) (e :: es) [] pos) X.env = (do
      let ov ← eval o X.env
      standAt apos.atName
      let (f, first) ← holding [ov] (getMethod ov m pl)
      callWith pos f first (backTo pos (starEach (e :: es) X.env)) (backToKw pos (keywordEach [] X.env))) := by rfl) :
    PE X (.Call (.Attribute o m apos) (e :: es) [] pos) (tMethG C m sp dvs E ta t) := by
  refine ⟨fun pins s σ H Q I h => ?_⟩
  refine PySem.W.methodCall_KW (pl := pl) (thn (he.run pins s σ H _ I h) fun u s1 ⟨x, H1, I1, rx, a, dx, fs, ex, ea, l, q⟩ => ?_) ht
  subst ex
  obtain rfl : u = Value.ref a := rx
  refine getmeth_ok I1 ea c hm l ?_
  refine PySem.W.callWith_K (first := [.ref a]) (h₀ := X.base) I.ok.mod.kin hm.kp (thn (ha.run pos pins s1 σ H1 _ I1 q) fun us s2 ⟨vs, H2, I2, r, q2⟩ => ⟨I2.kIn, ?_⟩) hst hpl
  exact go_fnG (us := .ref a :: us) (vs := .ref a :: vs) F room bn dv px I2 (.cons rfl r) q2
theorem pe_methG0 {pl : Sem Bool} (he : PE X o ta) (c : Cls X.K C) (hm : Meth X.K C m f) (F : FnG X.prog X.w X.K X.mg X.base CT k f fd ps sp) (room : RoomG k X.A) (bn : Binds X.K fd ps ds) (dv : Vals dvs ds) (px : ∀ σ, PassesAt CT X σ (E σ))
    (ht : eval (.Call (.Attribute o m apos) [] [] pos) X.env = (do
      let ov ← eval o X.env
      standAt apos.atName
      let (f, first) ← holding [ov] (getMethod ov m pl)
      callWith pos f first (backTo pos (starEach [] X.env)) (backToKw pos (keywordEach [] X.env))) := by rfl) :
    PE X (.Call (.Attribute o m apos) [] [] pos) (tMethG C m sp dvs E ta tNil) := by
  refine ⟨fun pins s σ H Q I h => ?_⟩
  refine PySem.W.methodCall_KW (pl := pl) (thn (he.run pins s σ H _ I h) fun u s1 ⟨x, H1, I1, rx, a, dx, fs, ex, ea, l, q⟩ => ?_) ht
  subst ex
  obtain rfl : u = Value.ref a := rx
  refine getmeth_ok I1 ea c hm l ?_
  exact PySem.W.callWith_K0 (first := [.ref a]) I1.kIn hm.kp (go_fnG (us := [.ref a]) (vs := [.ref a]) F room bn dv px I1 (.cons rfl .nil) q)
/-- C(..) by such an __init__ -/
def tMakeG (C : Addr) (sp : Sp) (E : L2.St → XK) (t : TA) : TE := fun σ H Q => t σ H fun vs H1 => ∀ x dx, H1 x = none → H1 dx = none → dx ≠ x →
  sp (.ref x :: vs) (upd (upd H1 dx (.own x)) x (.ins C dx [])) (fun v H2 => v = .non ∧ Q (.ref x) H2) (E σ)
theorem pe_makeG (M : Mk X.K C f) (F : FnG X.prog X.w X.K X.mg X.base CT k f fd ps sp) (room : RoomG (k + 1) X.A) (gl : Gl X x) (gm : X.mg x = some (.ref C)) (bn : Binds X.K fd ps []) (px : ∀ σ, PassesAt CT X σ (E σ)) (ha : PA X (e :: es) t)
    (hdb : (x == ("__debug__" : Str)) = false := by decide) (he : starEach (e :: es) X.env = (false, eval e X.env) :: starEach es X.env := by rfl) (hpl : (backTo pos (starEach es X.env)).any (·.1) = false := by rfl) :
    PE X (.Call (.Name x p) (e :: es) [] pos) (tMakeG C sp E t) := by
  refine ⟨fun pins s σ H Q I h => ?_⟩
  refine wpAny_Call_Name_kw (ld_glob I gl gm ?_ hdb)
  refine PySem.W.callWith_K (h₀ := X.base) I.ok.mod.kin M.kp (thn (ha.run pos pins s σ H _ I h) fun us s1 ⟨vs, H1, I1, r, q⟩ => ⟨I1.kIn, ?_⟩) he hpl
  have hq := q (s1.heap.objs.size + 1) s1.heap.objs.size (I1.hok.fresh (Nat.le_succ _)) (I1.hok.fresh (Nat.le_refl _)) (Nat.ne_of_lt (Nat.lt_succ_self _))
  have I2 := Inv.made (C := C) I1
  have r2 : Vals (V.ref (s1.heap.objs.size + 1) :: vs) (Value.ref (s1.heap.objs.size + 1) :: us) := .cons rfl r
  have hl : (Value.ref (s1.heap.objs.size + 1) :: us ++ []).length = ps.length := by
    rw [List.append_nil, ← r2.length]; exact F.ln hq
  have rm : RoomG k (X.A.under (.builtin "type.__call__" ⟨.ref C :: us, []⟩)) := ⟨room.toRoom.make C us [], room.gd⟩
  have hb := bn _ (Value.ref (s1.heap.objs.size + 1) :: us) I2.kIn hl
  rw [List.append_nil] at hb
  refine wpAny_call (make_map (f := f) I1.kIn M.makes M.init (beq_iff_eq.mp M.fn) (codeAny_mono (F.go (args := ⟨Value.ref (s1.heap.objs.size + 1) :: us, []⟩) rm (I2.env0.make C us []) hb r2 hq) fun r s' hq' => ?_))
  cases r with
  | error e => exact px σ pins _ _ e s' I2 hq'
  | ok fl =>
    cases fl with
    | ret u =>
      obtain ⟨v, H', I3, rv, ev, q3⟩ := I2.after hq'
      subst ev
      exact ⟨rv, ⟨V.ref (s1.heap.objs.size + 1), H', I3, rfl, q3⟩⟩
    | next => exact False.elim hq'
    | brk => exact False.elim hq'
    | cont => exact False.elim hq'
end
end RR

/-! RO2: the world with an instance; its fields read and stored, its methods called -/
namespace RR
open PySem PySem.Spec PyProof.Rows L2
mutual
/-- none, truths, numbers, texts, tuples of such -/
def D.pl : D → Bool
  | .non => true
  | .bl _ => true
  | .int _ => true
  | .str _ => true
  | .tup xs => D.pls xs
  | _ => false
def D.pls : List D → Bool
  | [] => true
  | x :: r => x.pl && D.pls r
end
mutual
theorem pl_nl : ∀ {d : D}, d.pl = true → d.nl = true
  | .non, _ => rfl
  | .bl _, _ => rfl
  | .int _, _ => rfl
  | .str _, _ => rfl
  | .tup xs, h => pls_nls (show D.pls xs = true from h)
  | .lst _, h => by cases h
  | .hnd _, h => by cases h
  | .dic, h => by cases h
  | .exc _, h => by cases h
  | .fn _, h => by cases h
  | .ptr _, h => by cases h
theorem pls_nls : ∀ {ds : List D}, D.pls ds = true → D.nls ds = true
  | [], _ => rfl
  | x :: r, h => by
    rw [D.pls, Bool.and_eq_true] at h
    rw [D.nls, pl_nl h.1, pls_nls h.2]; rfl
end
theorem pls_all : ∀ {ds : List D}, D.pls ds = true ↔ ∀ d ∈ ds, d.pl = true
  | [] => by simp [D.pls]
  | d :: ds => by rw [D.pls, Bool.and_eq_true, pls_all]; simp
mutual
theorem Dn.plain {s s' : Bool} {K : PySem.W.Frag} {F F' : List Addr} {G G' : Hp} (hG : ∀ a xs, G a = some (.tup xs) → G' a = some (.tup xs)) : ∀ {v : V} {d : D}, Dn s K F G v d → d.pl = true → Dn s' K F' G' v d
  | _, _, .non, _ => .non
  | _, _, .bl b, _ => .bl b
  | _, _, .int i, _ => .int i
  | _, _, .str x, _ => .str x
  | _, _, .tup h r, n => .tup (h.mono hG) (DnA.plain hG r n)
  | _, _, .lst h r, n => by cases n
  | _, _, .hnd h, n => by cases n
  | _, _, .dic h, n => by cases n
  | _, _, .exc h c, n => by cases n
  | _, _, .fn h, n => by cases n
  | _, _, .ptr, n => by cases n
theorem DnA.plain {s s' : Bool} {K : PySem.W.Frag} {F F' : List Addr} {G G' : Hp} (hG : ∀ a xs, G a = some (.tup xs) → G' a = some (.tup xs)) : ∀ {vs : List V} {ds : List D}, DnA s K F G vs ds → D.pls ds = true → DnA s' K F' G' vs ds
  | _, _, .nil, _ => .nil
  | _, _, .cons h r, n => by
    rw [D.pls, Bool.and_eq_true] at n
    exact .cons (Dn.plain hG h n.1) (DnA.plain hG r n.2)
end
/-- what a field holds: data without lists, or a list of its own of such -/
inductive FV where
  | val (d : D) | lst (ds : List D) | free (ds : List D)
structure Ob where
  h : Nat
  fs : List (Str × FV)
/-- the tuples of a heap -/
noncomputable def tv (H : Hp) : Hp := vw (fun _ o => IsT o) H
theorem tv_mono {H H' : Hp} (t : ∀ a o, IsT o → H a = some o → H' a = some o) : ∀ a o, tv H a = some o → tv H' a = some o := fun a o h => by
  obtain ⟨e, i⟩ := vw_iff.mp h
  exact vw_iff.mpr ⟨t a o i e, i⟩
theorem tv_sv {H0 : Hp} {Pr : Addr → Prop} {H : Hp} : ∀ a o, tv H a = some o → sv H0 Pr H a = some o := fun a o h => by
  obtain ⟨e, i⟩ := vw_iff.mp h
  exact vw_iff.mpr ⟨e, .inl i⟩
inductive FvAt (K : PySem.W.Frag) (H : Hp) : List Addr → List (Str × FV) → List (Str × V) → Prop
  | nil : FvAt K H [] [] []
  | val {ls : List Addr} {fs : List (Str × FV)} {fv : List (Str × V)} {n : Str} {d : D} {v : V} : Dn true K [] (tv H) v d → d.pl = true → FvAt K H ls fs fv → FvAt K H ls ((n, .val d) :: fs) ((n, v) :: fv)
  | lst {ls : List Addr} {fs : List (Str × FV)} {fv : List (Str × V)} {n : Str} {ds : List D} {vs : List V} {l : Addr} : H l = some (.lst vs) → DnA true K [] (tv H) vs ds → D.pls ds = true → FvAt K H ls fs fv → FvAt K H (l :: ls) ((n, .lst ds) :: fs) ((n, .ref l) :: fv)
  | free {ls : List Addr} {fs : List (Str × FV)} {fv : List (Str × V)} {n : Str} {ds : List D} {vs : List V} {l : Addr} : H l = some (.lst vs) → DnA true K [] (tv H) vs ds → D.pls ds = true → FvAt K H ls fs fv → FvAt K H (l :: ls) ((n, .free ds) :: fs) fv
theorem FvAt.mono {K : PySem.W.Frag} {H H' : Hp} {ls : List Addr} {fs : List (Str × FV)} {fv : List (Str × V)} (h : FvAt K H ls fs fv) (k : ∀ a ∈ ls, H' a = H a) (t : ∀ a o, IsT o → H a = some o → H' a = some o) : FvAt K H' ls fs fv := by
  induction h with
  | nil => exact .nil
  | val a b _ ih => exact .val (a.mono ⟨[], rfl⟩ (tv_mono t)) b (ih k)
  | @lst ls fs fv n ds vs l a b c _ ih => exact .lst (by rw [k l (List.mem_cons_self ..)]; exact a) (b.mono ⟨[], rfl⟩ (tv_mono t)) c (ih fun x hx => k x (List.mem_cons_of_mem _ hx))
  | @free ls fs fv n ds vs l a b c _ ih => exact .free (by rw [k l (List.mem_cons_self ..)]; exact a) (b.mono ⟨[], rfl⟩ (tv_mono t)) c (ih fun x hx => k x (List.mem_cons_of_mem _ hx))
theorem FvAt.there {K : PySem.W.Frag} {H : Hp} {ls : List Addr} {fs : List (Str × FV)} {fv : List (Str × V)} (h : FvAt K H ls fs fv) : ∀ a ∈ ls, ∃ vs, H a = some (.lst vs) := by
  induction h with
  | nil => intro a ha; exact absurd ha List.not_mem_nil
  | val _ _ _ ih => exact ih
  | lst a _ _ _ ih =>
    intro x hx
    rcases List.mem_cons.mp hx with rfl | hx
    · exact ⟨_, a⟩
    · exact ih x hx
  | free a _ _ _ ih =>
    intro x hx
    rcases List.mem_cons.mp hx with rfl | hx
    · exact ⟨_, a⟩
    · exact ih x hx
/-- an own field of the name f -/
def fget (f : Str) (fs : List (Str × FV)) : Option FV := fs.lookup f
theorem FvAt.get {K : PySem.W.Frag} {H : Hp} {ls : List Addr} {fs : List (Str × FV)} {fv : List (Str × V)} (h : FvAt K H ls fs fv) (f : Str) : (fget f fs = none → fv.lookup f = none) ∧ (∀ d, fget f fs = some (.val d) → ∃ v, fv.lookup f = some v ∧ Dn true K [] (tv H) v d ∧ d.pl = true) ∧
    ∀ ds, fget f fs = some (.lst ds) → ∃ l vs, fv.lookup f = some (.ref l) ∧ l ∈ ls ∧ H l = some (.lst vs) ∧ DnA true K [] (tv H) vs ds ∧ D.pls ds = true := by
  unfold fget
  induction h with
  | nil => exact ⟨fun _ => rfl, fun d e => (nomatch e), fun ds e => (nomatch e)⟩
  | @val ls fs fv n d v a b _ ih =>
    by_cases q : f = n
    · subst q
      have hb : (f == f) = true := beq_self_eq_true f
      simp only [List.lookup, hb]
      exact ⟨fun e => (nomatch e), fun d' e => by cases e; exact ⟨v, rfl, a, b⟩, fun ds e => (nomatch e)⟩
    · have hb : (f == n) = false := beq_eq_false_iff_ne.mpr q
      simp only [List.lookup, hb]
      exact ih
  | @lst ls fs fv n ds vs l a b c _ ih =>
    by_cases q : f = n
    · subst q
      have hb : (f == f) = true := beq_self_eq_true f
      simp only [List.lookup, hb]
      exact ⟨fun e => (nomatch e), fun d e => (nomatch e), fun ds' e => by cases e; exact ⟨l, vs, rfl, List.mem_cons_self .., a, b, c⟩⟩
    · have hb : (f == n) = false := beq_eq_false_iff_ne.mpr q
      simp only [List.lookup, hb]
      exact ⟨ih.1, ih.2.1, fun ds' e => by
        obtain ⟨l', vs', x1, x2, x3⟩ := ih.2.2 ds' e
        exact ⟨l', vs', x1, List.mem_cons_of_mem _ x2, x3⟩⟩
  | @free ls fs fv n ds vs l a b c _ ih =>
    by_cases q : f = n
    · subst q
      have hb : (f == f) = true := beq_self_eq_true f
      simp only [List.lookup, hb]
      exact ⟨fun e => (nomatch e), fun d e => (nomatch e), fun ds' e => (nomatch e)⟩
    · have hb : (f == n) = false := beq_eq_false_iff_ne.mpr q
      simp only [List.lookup, hb]
      exact ⟨ih.1, ih.2.1, fun ds' e => by
        obtain ⟨l', vs', x1, x2, x3⟩ := ih.2.2 ds' e
        exact ⟨l', vs', x1, List.mem_cons_of_mem _ x2, x3⟩⟩
def ObAt (K : PySem.W.Frag) (Cl : Addr) (W : Wd) (F : List Addr) (H : Hp) (m : W.M) (o : Ob) : Prop :=
  ∃ (Fa : List Addr) (x dx : Addr) (ls : List Addr) (fv : List (Str × V)), F = Fa ++ x :: dx :: ls ∧ Fa.length = o.h ∧ W.Rz m Fa H ∧ H x = some (.ins Cl dx fv) ∧ H dx = some (.own x) ∧ FvAt K H ls o.fs fv ∧ (x :: dx :: ls).Nodup ∧ (∀ a ∈ x :: dx :: ls, a ∉ Fa) ∧ fv.length < 1000
def WdO (K : PySem.W.Frag) (Cl : Addr) (W : Wd) : Wd where
  M := W.M × Ob
  Rz := fun m F H => ObAt K Cl W F H m.1 m.2
  keep := fun {m F H H'} h k t => by
    obtain ⟨Fa, x, dx, ls, fv, rfl, e1, e2, e3, e4, e5, e6, e7, e8⟩ := h
    exact ⟨Fa, x, dx, ls, fv, rfl, e1, W.keep e2 (fun a ha => k a (List.mem_append_left _ ha)) t, by rw [k x (by simp)]; exact e3, by rw [k dx (by simp)]; exact e4, e5.mono (fun a ha => k a (by simp [ha])) t, e6, e7, e8⟩
  there := fun {m F H} h a ha => by
    obtain ⟨Fa, x, dx, ls, fv, rfl, e1, e2, e3, e4, e5, e6, e7, e8⟩ := h
    rcases List.mem_append.mp ha with h1 | h1
    · exact W.there e2 a h1
    · rcases List.mem_cons.mp h1 with rfl | h1
      · exact ⟨_, e3, fun z => z⟩
      · rcases List.mem_cons.mp h1 with rfl | h1
        · exact ⟨_, e4, fun z => z⟩
        · obtain ⟨vs, e⟩ := e5.there a h1
          exact ⟨_, e, fun z => z⟩
section
variable {X : Cx} {Cl : Addr} {W : Wd} {H0 : Hp} {F0 : List Addr} {wx : WX}
abbrev CnO (K : PySem.W.Frag) (Cl : Addr) (W : Wd) (H0 : Hp) (F0 : List Addr) (wx : WX) : Cn := ⟨WdO K Cl W, H0, F0, wx⟩
/-- the name holds the instance -/
def isOb {M : Type} (ρ : En) (i : Nat) (m : M × Ob) : Prop := ρ[i]? = some (.val (.hnd m.2.h))
theorem ob_at {K : PySem.W.Frag} {Pr : Addr → Prop} {F : List Addr} {σ : L2.St} {ρ : En} {m : W.M × Ob} {H : Hp} {i : Nat} (S : SR K (CnO K Cl W H0 F0 wx) Pr F σ ρ m H) (e : isOb ρ i m) :
    ∃ (x dx : Addr) (ls : List Addr) (fv : List (Str × V)), σ[i]? = some (some (.ref x)) ∧ F[m.2.h]? = some x ∧ H x = some (.ins Cl dx fv) ∧ FvAt K H ls m.2.fs fv ∧ (∀ a ∈ ls, a ∈ F) ∧ fv.length < 1000 := by
  obtain ⟨v, ev, hv⟩ := S.slot i _ e
  obtain ⟨Fa, x, dx, ls, fv, rfl, e1, e2, e3, e4, e5, e6, e7, e8⟩ := S.rz
  have hp : (Fa ++ x :: dx :: ls)[m.2.h]? = some x := by rw [List.getElem?_append_right (by omega), e1, Nat.sub_self]; rfl
  cases hv with
  | hnd ha =>
    rename_i a
    rw [hp] at ha
    cases ha
    exact ⟨x, dx, ls, fv, ev, hp, e3, e5, fun a ha => by simp [ha], e8⟩
/-- a reading that leaves the heap alone -/
def JH (X : Cx) (C : Cn) (e : Expr) (t : En → C.W.M → (D → Prop) → Prop) : Prop := ∃ te, PE X e te ∧
  ∀ σ H Pr F ρ m Q (R : VK), SR X.K C Pr F σ ρ m H → t ρ m Q → (∀ v d, Dn true X.K F (sv C.H0 Pr H) v d → (∀ ds, d ≠ .lst ds) → Q d → R v H) → te σ H R
def dH {M : Type} (t : En → M → (D → Prop) → Prop) : DT M := fun ρ m Q _ => t ρ m fun d => Q d m
theorem JH.j {C : Cn} {e : Expr} {t : En → C.W.M → (D → Prop) → Prop} (h : JH X C e t) : J .f X C e (dH t) := by
  obtain ⟨te, p, q⟩ := h
  exact ⟨te, p, fun σ H Pr F ρ m Q Z R S E h k => q σ H Pr F ρ m _ R S h fun v d dv n z => k v H (post_here S dv n z)⟩
def hVar {M : Type} (i : Nat) : En → M → (D → Prop) → Prop := fun ρ _ Q => match ρ[i]? with | some (.val d) => d.nl = true ∧ Q d | _ => False
def hInt {M : Type} (j : Int) : En → M → (D → Prop) → Prop := fun _ _ Q => Q (.int j)
theorem jh_int {C : Cn} {i : Int} {j} {pos : Pos} : JH X C (.Constant (.int i) j pos) (hInt i) := ⟨_, pe_int, fun σ H Pr F ρ m Q R S h k => k _ _ (.int _) (fun _ h => nomatch h) h⟩
/-- self.f, data -/
def hFld {M : Type} (i : Nat) (f : Str) : En → (M × Ob) → (D → Prop) → Prop := fun ρ m Q => isOb ρ i m ∧ ∃ d, fget f m.2.fs = some (.val d) ∧ Q d
theorem jh_fld (i : Nat) {x f : Str} {np pos : Pos} (c : Cls X.K Cl) (na : NoAttr X.K Cl f) (hN : X.N[i]? = some x := by rfl) (hv : Vis X.env.scope x := by first | exact Or.inl rfl | exact Or.inr (Or.inl rfl) | exact Or.inr (Or.inr rfl)) (hd : (x == ("__debug__" : Str)) = false := by decide)
    (hcd : (x == ("__classdict__" : Str)) = false := by decide) (hb : attributeBase (.Name x np) f X.env (eval (.Name x np) X.env) = eval (.Name x np) X.env := by rfl) : JH X (CnO X.K Cl W H0 F0 wx) (.Attribute (.Name x np) f pos) (hFld i f) := by
  refine ⟨_, pe_fld (pe_var hN hv hd hcd) hb, fun σ H Pr F ρ m Q R S h k => ?_⟩
  obtain ⟨ho, d, ed, h⟩ := h
  obtain ⟨x, dx, ls, fv, e1, e2, e3, e4, e5, e6⟩ := ob_at S ho
  obtain ⟨v, ev, dv, nl⟩ := (e4.get f).2.1 d ed
  exact ⟨_, e1, x, Cl, dx, fv, v, rfl, e3, c, na, ev, k _ _ (dv.mono ⟨F, by simp⟩ tv_sv) (fun ds e => by subst e; cases nl) h⟩
/-- self.f[e], an item of a list of the instance's -/
def hFix {M : Type} (i : Nat) (f : Str) (t : En → (M × Ob) → (D → Prop) → Prop) : En → (M × Ob) → (D → Prop) → Prop := fun ρ m Q => isOb ρ i m ∧ ∃ ds, fget f m.2.fs = some (.lst ds) ∧ t ρ m fun j => ∃ (n : Int) (d : D), j = .int n ∧ atI ds n = some d ∧ Q d
theorem jh_fix (i : Nat) {x f : Str} {np pos sp : Pos} {e : Expr} {t : En → (W.M × Ob) → (D → Prop) → Prop} (c : Cls X.K Cl) (na : NoAttr X.K Cl f) (he : JH X (CnO X.K Cl W H0 F0 wx) e t) (hN : X.N[i]? = some x := by rfl) (hv : Vis X.env.scope x := by first | exact Or.inl rfl | exact Or.inr (Or.inl rfl) | exact Or.inr (Or.inr rfl)) (hd : (x == ("__debug__" : Str)) = false := by decide)
    (hcd : (x == ("__classdict__" : Str)) = false := by decide) (hb : attributeBase (.Name x np) f X.env (eval (.Name x np) X.env) = eval (.Name x np) X.env := by rfl) (hs : PlainIx e := by exact fun _ _ => rfl) : JH X (CnO X.K Cl W H0 F0 wx) (.Subscript (.Attribute (.Name x np) f pos) e sp) (hFix i f t) := by
  obtain ⟨te, p, q⟩ := he
  refine ⟨_, pe_ix ix_seq (pe_fld (pos := pos) (pe_var hN hv hd hcd) hb) p hs, fun σ H Pr F ρ m Q R S h k => ?_⟩
  obtain ⟨ho, ds, ed, h⟩ := h
  obtain ⟨x, dx, ls, fv, e1, e2, e3, e4, e5, e6⟩ := ob_at S ho
  obtain ⟨l, vs, ev, el, hl, dv, nl⟩ := (e4.get f).2.2 ds ed
  refine ⟨_, e1, x, Cl, dx, fv, _, rfl, e3, c, na, ev, q σ H Pr F ρ m _ _ S h fun v d hv' _ z => ?_⟩
  obtain ⟨n, y, rfl, ea, z⟩ := z
  have e := hv'.toInt
  subst e
  have ll := dv.length
  unfold atI at ea
  cases ej : ixN ds.length n with
  | none => rw [ej] at ea; cases ea
  | some jj =>
    rw [ej] at ea
    obtain ⟨w, ew, hw⟩ := dv.getD ea
    refine .inl ⟨l, vs, n, w, rfl, rfl, SqL.of hl, by unfold atI; rw [ll, ej]; exact ew, k _ _ (hw.mono ⟨F, by simp⟩ tv_sv) (fun ds' e => ?_) z⟩
    subst e
    have := pls_all.mp nl (.lst ds') (List.mem_of_getElem? ea)
    cases this
/-- len(self.f) -/
def hFlen {M : Type} (i : Nat) (f : Str) : En → (M × Ob) → (D → Prop) → Prop := fun ρ m Q => isOb ρ i m ∧ ∃ ds, fget f m.2.fs = some (.lst ds) ∧ Q (.int ds.length)
theorem jh_flen (i : Nat) {x f : Str} {np ap p pos : Pos} (hm : X.mg "len" = none) (c : Cls X.K Cl) (na : NoAttr X.K Cl f) (hN : X.N[i]? = some x := by rfl) (hv : Vis X.env.scope x := by first | exact Or.inl rfl | exact Or.inr (Or.inl rfl) | exact Or.inr (Or.inr rfl)) (hd : (x == ("__debug__" : Str)) = false := by decide)
    (hcd : (x == ("__classdict__" : Str)) = false := by decide) (hb : attributeBase (.Name x np) f X.env (eval (.Name x np) X.env) = eval (.Name x np) X.env := by rfl) (hg : Gl X "len" := by rfl) (he : starEach [.Attribute (.Name x np) f ap] X.env = (false, eval (.Attribute (.Name x np) f ap) X.env) :: starEach [] X.env := by rfl) (hpl : (backTo pos (starEach [] X.env)).any (·.1) = false := by rfl) :
    JH X (CnO X.K Cl W H0 F0 wx) (.Call (.Name "len" p) [.Attribute (.Name x np) f ap] [] pos) (hFlen i f) := by
  refine ⟨_, pe_callB call_len_seq hg hm (by decide +kernel) (pa_cons (pe_fld (pos := ap) (pe_var (pos := np) hN hv hd hcd) hb) pa_nil he) (by decide) (by decide) he hpl, fun σ H Pr F ρ m Q R S h k => ?_⟩
  obtain ⟨ho, ds, ed, h⟩ := h
  obtain ⟨x, dx, ls, fv, e1, e2, e3, e4, e5, e6⟩ := ob_at S ho
  obtain ⟨l, vs, ev, el, hl, dv, nl⟩ := (e4.get f).2.2 ds ed
  refine ⟨_, e1, x, Cl, dx, fv, _, rfl, e3, c, na, ev, l, vs, rfl, .inl (SqL.of hl), ?_⟩
  rw [dv.length]
  exact k _ _ (.int _) (fun _ h => nomatch h) h
end
end RR

/-! RO3: fields stored, lists of an instance changed, methods called -/
namespace RR
open PySem PySem.Spec PyProof.Rows L2
/-- a thing of the world is changed -/
theorem SR.wpoke {K : PySem.W.Frag} {C : Cn} {Pr : Addr → Prop} {F : List Addr} {σ : L2.St} {ρ : En} {m m' : C.W.M} {H : Hp} {p : Addr} {o : HO} (S : SR K C Pr F σ ρ m H) (pF : p ∈ F) (n : ¬ IsT o) (rz : C.W.Rz m' F (upd H p o)) :
    SR K C Pr F σ ρ m' (upd H p o) ∧ Te Pr F H Pr F (upd H p o) := by
  have pP := S.prf p pF
  obtain ⟨o0, w1, w2⟩ := S.prs p pP
  have up : ∀ a u, sv C.H0 Pr H a = some u → sv C.H0 Pr (upd H p o) a = some u := fun a u e => by
    obtain ⟨x, y⟩ := vw_iff.mp e
    refine vw_iff.mpr ⟨?_, y⟩
    rw [upd_ne]
    · exact x
    · intro z
      rcases y with y | y
      · rw [z, w1] at x; cases x; exact w2 y
      · exact y.2.1 (by rw [z]; exact pP)
  have t : Te Pr F H Pr F (upd H p o) := ⟨⟨⟨[], by simp⟩, fun _ h n => absurd h n, fun _ h n => absurd h n, fun a u h => by
    by_cases z : a = p
    · exact ⟨o, by rw [z, upd_same]⟩
    · exact ⟨u, by rw [upd_ne z]; exact h⟩, fun a u n h => by rw [upd_ne (fun z => n (by rw [z]; exact pP))]; exact h⟩, fun _ h => h, fun a u n h => by rw [upd_ne (fun z => n (by rw [z]; exact pF))]; exact h⟩
  refine ⟨⟨fun a u na e => ?_, S.pre, S.new, fun a ha => ?_, S.prn, S.prf, rz, S.len, fun k s e => ?_, S.dist⟩, t⟩
  · by_cases z : a = p
    · subst z
      rw [S.new a pF na] at e; cases e
    · rw [upd_ne z]; exact S.keep a u na e
  · by_cases z : a = p
    · exact ⟨o, by rw [z, upd_same], n⟩
    · obtain ⟨u, e, m⟩ := S.prs a ha
      exact ⟨u, by rw [upd_ne z]; exact e, m⟩
  · cases s with
    | un => trivial
    | bor d => exact S.slot k _ e
    | val d =>
      obtain ⟨v, e1, q⟩ := S.slot k _ e
      exact ⟨v, e1, q.mono ⟨[], by simp⟩ up⟩
    | own ds =>
      obtain ⟨q', us', e1, w1, w2, w3, w4⟩ := S.slot k _ e
      exact ⟨q', us', e1, by rw [upd_ne (show q' ≠ p from fun z => w3 (by rw [z]; exact pF))]; exact w1, w2, w3, w4.mono ⟨[], by simp⟩ up⟩
def putO (f : Str) (v : FV) : List (Str × FV) → List (Str × FV)
  | [] => [(f, v)]
  | (g, x) :: r => if g = f then (g, v) :: r else (g, x) :: putO f v r
/-- which of the lists of the instance f is -/
def lix (f : Str) : List (Str × FV) → Nat
  | [] => 0
  | (n, .val _) :: r => lix f r
  | (n, .lst _) :: r => if n = f then 0 else lix f r + 1
  | (n, .free _) :: r => if n = f then 0 else lix f r + 1
theorem lookup_cons {α : Type} {f n : Str} {x : α} {r : List (Str × α)} : List.lookup f ((n, x) :: r) = if f = n then some x else List.lookup f r := by
  by_cases q : f = n
  · rw [if_pos q]; subst q; simp [List.lookup]
  · rw [if_neg q]; simp [List.lookup, beq_eq_false_iff_ne.mpr q]
theorem FvAt.putV {K : PySem.W.Frag} {H : Hp} {ls : List Addr} {fs : List (Str × FV)} {fv : List (Str × V)} {f : Str} {d0 d : D} {v : V} (h : FvAt K H ls fs fv) (e : fget f fs = some (.val d0)) (hv : Dn true K [] (tv H) v d) (nl : d.pl = true) :
    FvAt K H ls (putO f (.val d) fs) (putF f v fv) ∧ (putF f v fv).length = fv.length := by
  unfold fget at e
  induction h with
  | nil => cases e
  | @val ls fs fv n d1 v1 a b r ih =>
    rw [lookup_cons] at e
    unfold putO putF
    by_cases q : n = f
    · rw [if_pos q, if_pos q]
      exact ⟨.val hv nl r, rfl⟩
    · rw [if_neg q, if_neg q]
      rw [if_neg (Ne.symm q)] at e
      obtain ⟨i1, i2⟩ := ih e
      exact ⟨.val a b i1, by rw [List.length_cons, List.length_cons, i2]⟩
  | @lst ls fs fv n ds vs l a b c r ih =>
    rw [lookup_cons] at e
    unfold putO putF
    by_cases q : n = f
    · rw [if_pos q.symm] at e; cases e
    · rw [if_neg q, if_neg q]
      rw [if_neg (Ne.symm q)] at e
      obtain ⟨i1, i2⟩ := ih e
      exact ⟨.lst a b c i1, by rw [List.length_cons, List.length_cons, i2]⟩
  | @free ls fs fv n ds vs l a b c r ih =>
    rw [lookup_cons] at e
    unfold putO
    by_cases q : n = f
    · rw [if_pos q.symm] at e; cases e
    · rw [if_neg q]
      rw [if_neg (Ne.symm q)] at e
      obtain ⟨i1, i2⟩ := ih e
      exact ⟨.free a b c i1, i2⟩
theorem FvAt.other {K : PySem.W.Frag} {H : Hp} {l : Addr} {us vs : List V} {ls : List Addr} {fs : List (Str × FV)} {fv : List (Str × V)} (h : FvAt K H ls fs fv) (n : l ∉ ls) (hl : H l = some (.lst us)) : FvAt K (upd H l (.lst vs)) ls fs fv :=
  h.mono (fun a ha => upd_ne fun z => n (z ▸ ha)) fun a o it e => by rw [upd_ne (fun z => by rw [z, hl] at e; cases e; exact it)]; exact e
section
variable {X : Cx} {Cl : Addr} {W : Wd} {H0 : Hp} {F0 : List Addr} {wx : WX}
theorem sv_tv {H0 : Hp} {Pr : Addr → Prop} {H : Hp} : ∀ a xs, sv H0 Pr H a = some (.tup xs) → tv H a = some (.tup xs) := fun a xs h => by
  obtain ⟨e, _⟩ := vw_iff.mp h
  exact vw_iff.mpr ⟨e, trivial⟩
/-- a field gets data -/
theorem SR.fset {K : PySem.W.Frag} {Pr : Addr → Prop} {F : List Addr} {σ : L2.St} {ρ : En} {m : W.M × Ob} {H : Hp} {f : Str} {d0 d : D} {v : V} (S : SR K (CnO K Cl W H0 F0 wx) Pr F σ ρ m H) (e : fget f m.2.fs = some (.val d0))
    (hv : Dn true K F (sv H0 Pr H) v d) (nl : d.pl = true) : ∀ x dx fv, F[m.2.h]? = some x → H x = some (.ins Cl dx fv) →
    SR K (CnO K Cl W H0 F0 wx) Pr F σ ρ (m.1, ⟨m.2.h, putO f (.val d) m.2.fs⟩) (upd H x (.ins Cl dx (putF f v fv))) ∧ Te Pr F H Pr F (upd H x (.ins Cl dx (putF f v fv))) := fun x dx fv ex hx => by
  obtain ⟨Fa, x0, dx0, ls, fv0, eF, e1, e2, e3, e4, e5, e6, e7, e8⟩ := S.rz
  have ex0 : F[m.2.h]? = some x0 := by rw [eF, List.getElem?_append_right (by omega), e1, Nat.sub_self]; rfl
  rw [ex0] at ex; cases ex
  rw [e3] at hx; cases hx
  have pF : x ∈ F := by rw [eF]; simp
  have nd := List.nodup_cons.mp e6
  refine S.wpoke pF (fun z => z) ?_
  have tk : ∀ a o, IsT o → H a = some o → upd H x (.ins Cl dx (putF f v fv)) a = some o := fun a o it ea => by
    rw [upd_ne (fun z => by rw [z, e3] at ea; cases ea; exact it)]; exact ea
  have hv' : Dn true K [] (tv H) v d := hv.plain sv_tv nl
  obtain ⟨p1, p2⟩ := e5.putV e hv' nl
  refine ⟨Fa, x, dx, ls, putF f v fv, eF, e1, W.keep e2 (fun a ha => upd_ne fun z => e7 x (List.mem_cons_self ..) (z ▸ ha)) tk, upd_same, ?_, ?_, e6, e7, by rw [p2]; exact e8⟩
  · rw [upd_ne (fun z => nd.1 (by rw [← z]; exact List.mem_cons_self ..))]; exact e4
  · exact p1.mono (fun a ha => upd_ne fun z => nd.1 (by rw [← z]; exact List.mem_cons_of_mem _ ha)) tk
/-- self.f = e -/
def dFset {M : Type} (i : Nat) (f : Str) (te : DT (M × Ob)) : DS (M × Ob) := fun E ρ m => te ρ m (fun d m1 => isOb ρ i m1 ∧ d.pl = true ∧ ∃ d0, fget f m1.2.fs = some (.val d0) ∧ E.nx ρ (m1.1, ⟨m1.2.h, putO f (.val d) m1.2.fs⟩)) E.ex
/-- self.f += e, whole numbers -/
def dFaug {M : Type} (i : Nat) (f : Str) (t : En → (M × Ob) → (D → Prop) → Prop) : DS (M × Ob) := fun E ρ m => isOb ρ i m ∧ ∃ a : Int, fget f m.2.fs = some (.val (.int a)) ∧ t ρ m fun d => ∃ b : Int, d = .int b ∧ E.nx ρ (m.1, ⟨m.2.h, putO f (.val (.int (a + b))) m.2.fs⟩)
theorem js_faug (i : Nat) {x f : Str} {np pos pos' : Pos} {e : Expr} {t : En → (W.M × Ob) → (D → Prop) → Prop} (c : Cls X.K Cl) (na : NoAttr X.K Cl f) (he : JH X (CnO X.K Cl W H0 F0 wx) e t) (hN : X.N[i]? = some x := by rfl) (hv : Vis X.env.scope x := by first | exact Or.inl rfl | exact Or.inr (Or.inl rfl) | exact Or.inr (Or.inr rfl)) (hd : (x == ("__debug__" : Str)) = false := by decide)
    (hcd : (x == ("__classdict__" : Str)) = false := by decide) : JS X (CnO X.K Cl W H0 F0 wx) (.AugAssign (.Attribute (.Name x np) f pos') .Add e pos) (dFaug i f t) := by
  obtain ⟨te, p, q⟩ := he
  refine ⟨_, ps_fldaug (pe_var hN hv hd hcd) p in_add, fun σ H Pr F ρ m E D' S l h => ?_⟩
  obtain ⟨ho, a, ed, h⟩ := h
  obtain ⟨x, dx, ls, fv, e1, e2, e3, e4, e5, e6⟩ := ob_at S ho
  obtain ⟨v, ev, dv, pl⟩ := (e4.get f).2.1 _ ed
  have := dv.toInt
  subst this
  refine ⟨.ref x, e1, x, Cl, dx, fv, .int a, rfl, e3, c, na, ev, q σ H Pr F ρ m _ _ S h fun w d hw _ z => ?_⟩
  obtain ⟨b, rfl, z⟩ := z
  have := hw.toInt
  subst this
  obtain ⟨S2, t2⟩ := S.fset ed (.int (a + b)) rfl x dx fv e2 e3
  exact ⟨a, b, rfl, rfl, dx, fv, e3, e6, l.nx _ _ _ _ _ _ S2 t2.toTr z⟩
/-- self.f.append(e) -/
def dFapp {M : Type} (i : Nat) (f : Str) (te : DT (M × Ob)) : DS (M × Ob) := fun E ρ m => isOb ρ i m ∧ ∃ ds0, fget f m.2.fs = some (.lst ds0) ∧ te ρ m (fun d m1 => m1.2.h = m.2.h ∧ lix f m1.2.fs = lix f m.2.fs ∧ d.pl = true ∧ ∃ ds, fget f m1.2.fs = some (.lst ds) ∧ ds.length < sizeLine ∧ E.nx ρ (m1.1, ⟨m1.2.h, putO f (.lst (ds ++ [d])) m1.2.fs⟩)) E.ex
end
end RR

/-! RO4: methods: called, by their bodies; an instance made and asked at once -/
namespace RR
open PySem PySem.Spec PyProof.Rows L2
/-- a method m of the class at Cl -/
def FM (P : Program) (w : World) (K : PySem.W.Frag) (mg : Str → Option Value) (base : Heap) (W : Wd) (k : Nat) (Cl : Addr) (m : Str) (sp : DSp W.M) : Prop :=
  ∃ f fd ps, FnG P w K mg base (L2.CX P w) k f fd ps (spD K mg W sp) ∧ Meth K Cl m f ∧ Binds K fd ps []
theorem FM.mono {P : Program} {w : World} {K : PySem.W.Frag} {mg : Str → Option Value} {base : Heap} {W : Wd} {Cl : Addr} {m : Str} {sp : DSp W.M} {j k : Nat} (h : FM P w K mg base W j Cl m sp) (l : j ≤ k) : FM P w K mg base W k Cl m sp := by
  obtain ⟨f, fd, ps, F, r⟩ := h
  exact ⟨f, fd, ps, F.mono l, r⟩
section
variable {X : Cx} {Cl : Addr} {W : Wd} {H0 : Hp} {F0 : List Addr} {wx : WX}
/-- behind a call -/
theorem sp_here {C : Cn} {Pr : Addr → Prop} {F F1 : List Addr} {H H1 : Hp} {σ : L2.St} {ρ : En} {m1 : C.W.M} {P1 : Addr → Prop} {vs : List V} {ds : List D} {sp : DSp C.W.M} {Q : D → C.W.M → Prop} {Z : Str → C.W.M → Prop} {R : VK}
    (S1 : SR X.K C P1 F1 σ ρ m1 H1) (t1 : Te Pr F H P1 F1 H1) (E : Ex X C Pr F H σ ρ Z) (dv : DnA false X.K F1 (wv F1 H1) vs ds) (z : sp ds m1 Q Z) (k : ∀ v H', Post X.K C .f Pr F H σ ρ Q v H' → R v H') : spD X.K X.mg C.W sp vs H1 R (fun cls d H' => C.wx cls d σ H') := by
  refine ⟨F1, m1, ds, Q, Z, S1.rz, dv, z, fun v H' F' d m' rz pre fr kp dn q => ?_, fun x cls H' F' m' hx rz pre fr kp z => ?_⟩
  · obtain ⟨S2, t2⟩ := S1.turned rz pre fr kp
    have np : ∀ {a o}, sv H1 (· ∈ F') H' a = some o → IsL o → ¬ (P1 a ∨ a ∈ F') ∧ C.H0 a = none ∧ H1 a = none := fun {a o} h l => by
      obtain ⟨e, q⟩ := vw_iff.mp h
      rcases q with q | q
      · exact (IsT.not_L q l).elim
      · exact ⟨fun z => z.elim (S1.np q.2.2) q.2.1, S1.h0n q.2.2, q.2.2⟩
    have up : ∀ a o, sv H1 (· ∈ F') H' a = some o → sv C.H0 (fun a => P1 a ∨ a ∈ F') H' a = some o := fun a o h => by
      obtain ⟨e, q⟩ := vw_iff.mp h
      refine vw_iff.mpr ⟨e, q.imp id fun q => ⟨q.1, (np h q.1).1, (np h q.1).2.1⟩⟩
    refine k v H' ⟨_, F', m', d, S2, t1.trans t2, ⟨dn.mono ⟨[], by simp⟩ up, fun ds e => ?_⟩, q⟩
    subst e
    cases dn with
    | lst h r =>
      rename_i a xs
      have h : sv H1 (· ∈ F') H' a = some (.lst xs) := h
      obtain ⟨n1, n2, n3⟩ := np h trivial
      exact ⟨a, xs, rfl, some_of (t1.stay a) n3, n1, sv_le h, DnA.mono ⟨[], by simp⟩ up r⟩
  · obtain ⟨S2, t2⟩ := S1.turned rz pre fr kp
    exact E x cls _ F' m' H' hx S2 (t1.trans t2).toTr z
/-- self.m(e, ..) -/
def dMeth {M : Type} (i : Nat) (mn : Str) (sp : DSp (M × Ob)) (ta : DTA (M × Ob)) : DT (M × Ob) := fun ρ m Q Z => isOb ρ i m ∧ fget mn m.2.fs = none ∧ ta ρ m (fun ds m1 => sp (.hnd m.2.h :: ds) m1 Q Z) Z
theorem j_meth (i : Nat) {x mn : Str} {k : Nat} {np apos pos : Pos} {e : Expr} {es : List Expr} {sp : DSp (W.M × Ob)} {ta : DTA (W.M × Ob)} (c : Cls X.K Cl) (h : FM X.prog X.w X.K X.mg X.base (WdO X.K Cl W) k Cl mn sp) (hr : RoomG k X.A) (tk : Takes X wx) (ha : JA .w X (CnO X.K Cl W H0 F0 wx) (e :: es) ta)
    (hN : X.N[i]? = some x := by rfl) (hv : Vis X.env.scope x := by first | exact Or.inl rfl | exact Or.inr (Or.inl rfl) | exact Or.inr (Or.inr rfl)) (hd : (x == ("__debug__" : Str)) = false := by decide) (hcd : (x == ("__classdict__" : Str)) = false := by decide)
    {pl : Sem Bool} (hst : starEach (e :: es) X.env = (false, eval e X.env) :: starEach es X.env := by rfl) (hpl : (backTo pos (starEach es X.env)).any (·.1) = false := by rfl)
    (ht : eval (.Call (.Attribute (.Name x np) mn apos) (e :: es) [] pos) X.env = (do
      let ov ← eval (.Name x np) X.env
      standAt apos.atName
      let (f, first) ← holding [ov] (getMethod ov mn pl)
      callWith pos f first (backTo pos (starEach (e :: es) X.env)) (backToKw pos (keywordEach [] X.env))) := by rfl) :
    J .f X (CnO X.K Cl W H0 F0 wx) (.Call (.Attribute (.Name x np) mn apos) (e :: es) [] pos) (dMeth i mn sp ta) := by
  obtain ⟨f, fd, ps, G, hm, hb⟩ := h
  obtain ⟨te, pa, q⟩ := ha
  refine ⟨_, pe_methG (pl := pl) (E := fun σ cls d H' => wx cls d σ H') (pe_var hN hv hd hcd) c hm G hr hb .nil (fun σ => passAt tk σ) pa hst hpl ht, fun σ H Pr F ρ m Q Z R S E h k => ?_⟩
  obtain ⟨ho, hf, h⟩ := h
  obtain ⟨x, dx, ls, fv, e1, e2, e3, e4, e5, e6⟩ := ob_at S ho
  refine ⟨.ref x, e1, x, dx, fv, rfl, e3, (e4.get mn).1 hf, q σ H Pr F ρ m _ Z _ S E h fun vs H1 ⟨P1, F1, m1, ds, S1, t1, dv, z⟩ => ?_⟩
  have dv : DnA false X.K F1 (wv F1 H1) vs ds := dv
  rw [List.append_nil]
  refine sp_here (C := CnO X.K Cl W H0 F0 wx) S1 t1 E (.cons (.hnd ?_) dv) z k
  obtain ⟨G', eG⟩ := t1.pre
  rw [eG, List.getElem?_append_left (List.getElem?_eq_some_iff.mp e2).1]
  exact e2
/-- self.m() -/
theorem j_meth0 (i : Nat) {x mn : Str} {k : Nat} {np apos pos : Pos} {sp : DSp (W.M × Ob)} (c : Cls X.K Cl) (h : FM X.prog X.w X.K X.mg X.base (WdO X.K Cl W) k Cl mn sp) (hr : RoomG k X.A) (tk : Takes X wx)
    (hN : X.N[i]? = some x := by rfl) (hv : Vis X.env.scope x := by first | exact Or.inl rfl | exact Or.inr (Or.inl rfl) | exact Or.inr (Or.inr rfl)) (hd : (x == ("__debug__" : Str)) = false := by decide) (hcd : (x == ("__classdict__" : Str)) = false := by decide)
    {pl : Sem Bool} (ht : eval (.Call (.Attribute (.Name x np) mn apos) [] [] pos) X.env = (do
      let ov ← eval (.Name x np) X.env
      standAt apos.atName
      let (f, first) ← holding [ov] (getMethod ov mn pl)
      callWith pos f first (backTo pos (starEach [] X.env)) (backToKw pos (keywordEach [] X.env))) := by rfl) :
    J .f X (CnO X.K Cl W H0 F0 wx) (.Call (.Attribute (.Name x np) mn apos) [] [] pos) (dMeth i mn sp dNil) := by
  obtain ⟨f, fd, ps, G, hm, hb⟩ := h
  refine ⟨_, pe_methG0 (pl := pl) (E := fun σ cls d H' => wx cls d σ H') (pe_var hN hv hd hcd) c hm G hr hb .nil (fun σ => passAt tk σ) ht, fun σ H Pr F ρ m Q Z R S E h k => ?_⟩
  obtain ⟨ho, hf, h⟩ := h
  obtain ⟨x, dx, ls, fv, e1, e2, e3, e4, e5, e6⟩ := ob_at S ho
  refine ⟨.ref x, e1, x, dx, fv, rfl, e3, (e4.get mn).1 hf, ?_⟩

  exact sp_here (C := CnO X.K Cl W H0 F0 wx) (vs := [V.ref x]) S Te.refl E (.cons (.hnd e2) .nil) h k
/-- a list of the instance's, handed back -/
def hFl {M : Type} (i : Nat) (f : Str) : En → (M × Ob) → (D → Prop) → Prop := fun ρ m Q => isOb ρ i m ∧ ∃ ds, fget f m.2.fs = some (.lst ds) ∧ Q (.hnd (m.2.h + 2 + lix f m.2.fs))
end
/-- a method of the text -/
structure DfnM (K : PySem.W.Frag) (Cl : Addr) (m ql : Str) (st : Stmt) (ps : List Str) : Prop where
  ex : ∃ f fd, Fun K m ql st f fd ∧ Meth K Cl m f ∧ Binds K fd ps []
section
variable {P : Program} {w : World} {K : PySem.W.Frag} {mg : Str → Option Value} {base : Heap} {W : Wd} {Cl : Addr}
theorem DfnM.go {m ql : Str} {st : Stmt} {N ps : List Str} {k : Nat} {sp : DSp W.M} {t : DS W.M} (F : DfnM K Cl m ql st ps) (ks : List Bool) (S : FnScope N ps (defScope st)) (body : BodyJ P w K mg base W k N ql st t)
    (vc : ∀ ds m Q Z, sp ds m Q Z → okK ks ds ∧ t { nx := fun _ m' => Q .non m', rt := Q, ex := Z } (st0 ks ds N.length) m) (hk : ks.length = ps.length := by rfl) (hn : ps.length ≤ N.length := by decide) : FM P w K mg base W (k + 1) Cl m sp := by
  obtain ⟨f, fd, Fn, hm, b⟩ := F.ex
  exact ⟨f, fd, ps, fn_dataR ks (fun ln bd => okG Fn S ln bd) (fun ds m Q Z h => by rw [okK_len (vc ds m Q Z h).1, hk]) hn (body f) vc, hm, b⟩
end
end RR

/-! RO5: an instance is made and asked at once; its first fields; its lists empty or not -/
namespace RR
open PySem PySem.Spec PyProof.Rows L2
theorem putF_new {f : Str} {v : V} : ∀ {fv : List (Str × V)}, fv.lookup f = none → putF f v fv = fv ++ [(f, v)]
  | [], _ => rfl
  | (g, x) :: r, h => by
    rw [lookup_cons] at h
    by_cases c : f = g
    · rw [if_pos c] at h; cases h
    · rw [if_neg c] at h
      unfold putF
      rw [if_neg (Ne.symm c), putF_new h]
      rfl
theorem FvAt.snocV {K : PySem.W.Frag} {H : Hp} {ls : List Addr} {fs : List (Str × FV)} {fv : List (Str × V)} {f : Str} {d : D} {v : V} (h : FvAt K H ls fs fv) (hv : Dn true K [] (tv H) v d) (nl : d.pl = true) : FvAt K H ls (fs ++ [(f, .val d)]) (fv ++ [(f, v)]) := by
  induction h with
  | nil => exact .val hv nl .nil
  | val a b _ ih => exact .val a b ih
  | lst a b c _ ih => exact .lst a b c ih
  | free a b c _ ih => exact .free a b c ih
/-- the list that stands at a place among the lists of an instance -/
def lnth : Nat → List (Str × FV) → Option (List D)
  | _, [] => none
  | n, (_, .val _) :: r => lnth n r
  | 0, (_, .lst ds) :: _ => some ds
  | n + 1, (_, .lst _) :: r => lnth n r
  | 0, (_, .free _) :: _ => none
  | n + 1, (_, .free _) :: r => lnth n r
theorem FvAt.nth {K : PySem.W.Frag} {H : Hp} {ls : List Addr} {fs : List (Str × FV)} {fv : List (Str × V)} (h : FvAt K H ls fs fv) : ∀ {n : Nat} {ds : List D} {l : Addr}, lnth n fs = some ds → ls[n]? = some l → ∃ vs, H l = some (.lst vs) ∧ DnA true K [] (tv H) vs ds ∧ D.pls ds = true := by
  induction h with
  | nil => intro n ds l e; cases n <;> cases e
  | val _ _ _ ih =>
    intro n ds l e el
    cases n <;> exact ih e el
  | lst a b c _ ih =>
    intro n ds l e el
    cases n with
    | zero => cases e; cases el; exact ⟨_, a, b, c⟩
    | succ n => exact ih e el
  | free a b c _ ih =>
    intro n ds l e el
    cases n with
    | zero => cases e
    | succ n => exact ih e el
section
variable {X : Cx} {Cl : Addr} {W : Wd} {H0 : Hp} {F0 : List Addr} {wx : WX}
/-- self.f = e, a field that wasn't there -/
def dFnew {M : Type} (i : Nat) (f : Str) (te : DT (M × Ob)) : DS (M × Ob) := fun E ρ m => te ρ m (fun d m1 => isOb ρ i m1 ∧ d.pl = true ∧ fget f m1.2.fs = none ∧ m1.2.fs.length < 900 ∧ E.nx ρ (m1.1, ⟨m1.2.h, m1.2.fs ++ [(f, .val d)]⟩)) E.ex
theorem FvAt.few {K : PySem.W.Frag} {H : Hp} {ls : List Addr} {fs : List (Str × FV)} {fv : List (Str × V)} (h : FvAt K H ls fs fv) : fv.length ≤ fs.length := by
  induction h with
  | nil => exact Nat.le_refl _
  | val _ _ _ ih => simp only [List.length_cons]; omega
  | lst _ _ _ _ ih => simp only [List.length_cons]; omega
  | free _ _ _ _ ih => simp only [List.length_cons]; omega
theorem js_fnew (i : Nat) {x f : Str} {np pos pos' : Pos} {e : Expr} {te : DT (W.M × Ob)} (c : Cls X.K Cl) (na : NoAttr X.K Cl f) (he : J .s X (CnO X.K Cl W H0 F0 wx) e te) (hN : X.N[i]? = some x := by rfl) (hv : Vis X.env.scope x := by first | exact Or.inl rfl | exact Or.inr (Or.inl rfl) | exact Or.inr (Or.inr rfl)) (hd : (x == ("__debug__" : Str)) = false := by decide)
    (hcd : (x == ("__classdict__" : Str)) = false := by decide) (hs : swapsWith e (some (.Attribute (.Name x np) f pos')) pos.line X.env = pure false := by rfl) : JS X (CnO X.K Cl W H0 F0 wx) (.Assign [.Attribute (.Name x np) f pos'] e pos) (dFnew i f te) := by
  obtain ⟨t1, p, q⟩ := he
  refine ⟨_, ps_fld (pe_var hN hv hd hcd) p hs, fun σ H Pr F ρ m E D' S l h => ?_⟩
  refine q σ H Pr F ρ m _ _ _ S (l.ex σ ρ) h fun w H1 ⟨P1, F1, m1, d, S1, t1, dv, z⟩ => ?_
  have dv : Dn true X.K F1 (sv H0 P1 H1) w d := dv
  obtain ⟨ho, pl, ed, few, z⟩ := z
  obtain ⟨x, dx, ls, fv, e1, e2, e3, e4, e5, e6⟩ := ob_at S1 ho
  obtain ⟨Fa, x0, dx0, ls0, fv0, eF, k1, k2, k3, k4, k5, k6, k7, k8⟩ := S1.rz
  have ex0 : F1[m1.2.h]? = some x0 := by rw [eF, List.getElem?_append_right (by omega), k1, Nat.sub_self]; rfl
  rw [ex0] at e2; cases e2
  rw [k3] at e3; cases e3
  have pF : x ∈ F1 := by rw [eF]; simp
  have nd := List.nodup_cons.mp k6
  have tk : ∀ a o, IsT o → H1 a = some o → upd H1 x (.ins Cl dx (putF f w fv)) a = some o := fun a o it ea => by
    rw [upd_ne (fun z => by rw [z, k3] at ea; cases ea; exact it)]; exact ea
  have hn : fv.lookup f = none := (k5.get f).1 ed
  have fl := k5.few
  obtain ⟨S2, t2⟩ := S1.wpoke (m' := (m1.1, ⟨m1.2.h, m1.2.fs ++ [(f, .val d)]⟩)) (o := .ins Cl dx (putF f w fv)) pF (fun z => z) (by
    refine ⟨Fa, x, dx, ls0, putF f w fv, eF, k1, W.keep k2 (fun a ha => upd_ne fun z => k7 x (List.mem_cons_self ..) (z ▸ ha)) tk, upd_same, ?_, ?_, k6, k7, ?_⟩
    · rw [upd_ne (fun z => nd.1 (by rw [← z]; exact List.mem_cons_self ..))]; exact k4
    · have k9 := k5.snocV (f := f) (dv.plain sv_tv pl) pl
      rw [← putF_new hn] at k9
      exact k9.mono (fun a ha => upd_ne fun z => nd.1 (by rw [← z]; exact List.mem_cons_of_mem _ ha)) tk
    · rw [putF_new hn, List.length_append]
      simp only [List.length_cons, List.length_nil]; omega)
  exact ⟨.ref x, e1, x, Cl, dx, fv, rfl, k3, c, na, e6, l.nx _ _ _ _ _ _ S2 (t1.toTr.trans t2.toTr) z⟩
/-- self.f = x, the list that is handed in -/
def dFpar {M : Type} (i j : Nat) (f : Str) : DS (M × Ob) := fun E ρ m => isOb ρ i m ∧ ρ[j]? = some (.val (.hnd (m.2.h + 2))) ∧ ∃ ds, m.2.fs = [(f, .free ds)] ∧ E.nx ρ (m.1, ⟨m.2.h, [(f, .lst ds)]⟩)
theorem js_fpar (i j : Nat) {x y f : Str} {np yp pos pos' : Pos} (c : Cls X.K Cl) (na : NoAttr X.K Cl f) (hN : X.N[i]? = some x := by rfl) (hv : Vis X.env.scope x := by first | exact Or.inl rfl | exact Or.inr (Or.inl rfl) | exact Or.inr (Or.inr rfl)) (hd : (x == ("__debug__" : Str)) = false := by decide)
    (hcd : (x == ("__classdict__" : Str)) = false := by decide) (hN2 : X.N[j]? = some y := by rfl) (hv2 : Vis X.env.scope y := by first | exact Or.inl rfl | exact Or.inr (Or.inl rfl) | exact Or.inr (Or.inr rfl)) (hd2 : (y == ("__debug__" : Str)) = false := by decide)
    (hcd2 : (y == ("__classdict__" : Str)) = false := by decide) (hs : swapsWith (.Name y yp) (some (.Attribute (.Name x np) f pos')) pos.line X.env = pure false := by rfl) : JS X (CnO X.K Cl W H0 F0 wx) (.Assign [.Attribute (.Name x np) f pos'] (.Name y yp) pos) (dFpar i j f) := by
  refine ⟨_, ps_fld (pe_var hN hv hd hcd) (pe_var hN2 hv2 hd2 hcd2) hs, fun σ H Pr F ρ m E D' S l h => ?_⟩
  obtain ⟨ho, hj, ds, efs, z⟩ := h
  obtain ⟨x, dx, ls, fv, e1, e2, e3, e4, e5, e6⟩ := ob_at S ho
  obtain ⟨Fa, x0, dx0, ls0, fv0, eF, k1, k2, k3, k4, k5, k6, k7, k8⟩ := S.rz
  have ex0 : F[m.2.h]? = some x0 := by rw [eF, List.getElem?_append_right (by omega), k1, Nat.sub_self]; rfl
  rw [ex0] at e2; cases e2
  rw [k3] at e3; cases e3
  obtain ⟨vj, ej, hj⟩ := S.slot j _ hj
  rw [efs] at k5
  generalize hfs : ([(f, FV.free ds)] : List (Str × FV)) = fs at k5
  cases k5 with
  | nil => cases hfs
  | val _ _ _ => cases hfs
  | lst _ _ _ _ => cases hfs
  | free w1 w2 w3 w4 =>
    rename_i ls1 fs1 n1 ds1 vs1 l1
    cases hfs
    cases w4
    cases hj with
    | hnd ha =>
      rename_i a
      have el : F[m.2.h + 2]? = some l1 := by
        rw [eF, List.getElem?_append_right (by omega), k1, show m.2.h + 2 - m.2.h = 2 by omega]; rfl
      rw [el] at ha; cases ha
      have pF : x ∈ F := by rw [eF]; simp
      have nd := List.nodup_cons.mp k6
      have lx : l1 ≠ x := fun z => nd.1 (by rw [z]; simp)
      have tk : ∀ a o, IsT o → H a = some o → upd H x (.ins Cl dx (putF f (.ref l1) [])) a = some o := fun a o it ea => by
        rw [upd_ne (fun z => by rw [z, k3] at ea; cases ea; exact it)]; exact ea
      obtain ⟨S2, t2⟩ := S.wpoke (m' := (m.1, ⟨m.2.h, [(f, .lst ds)]⟩)) (o := .ins Cl dx (putF f (.ref l1) [])) pF (fun z => z) (by
        refine ⟨Fa, x, dx, [l1], putF f (.ref l1) [], eF, k1, W.keep k2 (fun a ha => upd_ne fun z => k7 x (List.mem_cons_self ..) (z ▸ ha)) tk, upd_same, ?_, ?_, k6, k7, ?_⟩
        · rw [upd_ne (fun z => nd.1 (by rw [← z]; exact List.mem_cons_self ..))]; exact k4
        · refine .lst (by rw [upd_ne lx]; exact w1) (w2.mono ⟨[], rfl⟩ (tv_mono tk)) w3 .nil
        · show 1 < 1000; decide)
      exact ⟨_, ej, .ref x, e1, x, Cl, dx, [], rfl, k3, c, na, by show (0 : Nat) < 1000; decide, l.nx _ _ _ _ _ _ S2 t2.toTr z⟩
end
end RR

/-! RO6: an instance made and asked at once; its lists empty or not -/
namespace RR
open PySem PySem.Spec PyProof.Rows L2
structure MkC (K : PySem.W.Frag) (C : Addr) : Prop where
  makes : PySem.W.makesIn K C = true
  kp : PySem.W.keepIn K (.ref C) = true
/-- the world beneath, where the instance stands at the same place -/
theorem ob_same {K : PySem.W.Frag} {Cl : Addr} {W : Wd} {F1 Fx G : List Addr} {x dx l : Addr} {H : Hp} {m : W.M × Ob} (rz : ObAt K Cl W Fx H m.1 m.2) (e : Fx = (F1 ++ [x, dx, l]) ++ G) (h : m.2.h = F1.length) :
    W.Rz m.1 F1 H ∧ ∃ fv, H x = some (.ins Cl dx fv) ∧ FvAt K H (l :: G) m.2.fs fv ∧ fv.length < 1000 ∧ (x :: dx :: l :: G).Nodup ∧ ∀ a ∈ x :: dx :: l :: G, a ∉ F1 := by
  obtain ⟨Fa, x', dx', ls, fv, e0, e1, e2, e3, e4, e5, e6, e7, e8⟩ := rz
  have e' : Fa ++ x' :: dx' :: ls = F1 ++ x :: dx :: l :: G := by rw [← e0, e]; simp
  have el : Fa.length = F1.length := by rw [e1, h]
  obtain ⟨a1, a2⟩ := List.append_inj e' el
  subst a1
  injection a2 with b1 b2
  injection b2 with b2 b3
  subst b1; subst b2; subst b3
  exact ⟨e2, fv, e3, e5, e8, e6, e7⟩
section
variable {X : Cx} {Cl : Addr} {W : Wd} {H0 : Hp} {F0 : List Addr} {wx : WX}
/-! ### self.f == [], self.f != [] -/
def hNeg {M : Type} (t : En → M → (D → Prop) → Prop) : En → M → (D → Prop) → Prop := fun ρ m Q => t ρ m fun d => ∃ j : Int, d = .int j ∧ Q (.int (-j))
end
/-- the j-th row of a class -/
def clsB : Stmt → Nat → Stmt
  | .ClassDef _ _ _ b _ _ _ _ _ _ _, j => b.getD j (.Pass ⟨0, 0, 0, 0⟩)
  | _, _ => .Pass ⟨0, 0, 0, 0⟩
end RR

/-! RO7: C(x).m() of a list of the own; x = e, a list or not; x.pop(k); range(i, j, -1) -/
namespace RR
open PySem PySem.Spec PyProof.Rows L2
/-- a heap without one place -/
def hdel (H : Hp) (p : Addr) : Hp := fun a => if a = p then none else H a
theorem hdel_ne {H : Hp} {p a : Addr} (h : a ≠ p) : hdel H p a = H a := if_neg h
theorem hdel_of {H : Hp} {p a : Addr} {o : HO} (h : hdel H p a = some o) : a ≠ p ∧ H a = some o := by
  unfold hdel at h
  by_cases q : a = p
  · rw [if_pos q] at h; cases h
  · rw [if_neg q] at h; exact ⟨q, h⟩
section
variable {K : PySem.W.Frag} {C : Cn} {Pr : Addr → Prop} {F : List Addr} {σ : L2.St} {ρ : En} {m : C.W.M} {H : Hp}
theorem SR.without (S : SR K C Pr F σ ρ m H) {i : Nat} {ds : List D} {p : Addr} (e : ρ[i]? = some (.own ds)) (e1 : σ[i]? = some (some (.ref p))) : SR K C (fun a => Pr a ∧ a ≠ p) F σ (ρ.set i .un) m (hdel H p) := by
  obtain ⟨p', vs, e2, hp, pp, nf, h4⟩ := S.slot i _ e
  rw [e1] at e2; cases e2
  have h0p : C.H0 p = none := S.prn p pp nf
  have up : ∀ a o, sv C.H0 Pr H a = some o → sv C.H0 (fun a => Pr a ∧ a ≠ p) (hdel H p) a = some o := fun a o h => by
    obtain ⟨h1, h2⟩ := vw_iff.mp h
    have na : a ≠ p := fun q => by
      subst q
      rcases h2 with h2 | h2
      · rw [hp] at h1; cases h1; exact h2
      · exact h2.2.1 pp
    exact vw_iff.mpr ⟨by rw [hdel_ne na]; exact h1, h2.imp id fun q => ⟨q.1, fun z => q.2.1 z.1, q.2.2⟩⟩
  refine ⟨fun a o n h => ?_, S.pre, S.new, fun a h => ?_, fun a h n => S.prn a h.1 n, fun a h => ⟨S.prf a h, fun q => nf (q ▸ h)⟩, C.W.keep S.rz (fun a h => hdel_ne fun q => nf (q ▸ h)) (fun a o it h => by rw [hdel_ne (fun q => by rw [q, hp] at h; cases h; exact it)]; exact h), by simpa using S.len, fun j s ej => ?_, fun a b ds' es' q ne ea eb sa sb => ?_⟩
  · rw [hdel_ne (fun q => by rw [q, h0p] at h; cases h)]
    exact S.keep a o n h
  · obtain ⟨o, h1, h2⟩ := S.prs a h.1
    exact ⟨o, by rw [hdel_ne h.2]; exact h1, h2⟩
  · rcases get_set ej with ⟨rfl, rfl⟩ | ⟨ne, ej⟩
    · trivial
    · cases s with
      | un => trivial
      | bor d => exact S.slot j _ ej
      | val d =>
        obtain ⟨v, e1, q⟩ := S.slot j _ ej
        exact ⟨v, e1, q.mono ⟨[], by simp⟩ up⟩
      | own ds' =>
        obtain ⟨q, ws', e3, h1, h2, h3, h4⟩ := S.slot j _ ej
        have nq : q ≠ p := fun z => by
          subst z
          exact S.dist j i _ _ _ ne ej e e3 e1
        exact ⟨q, ws', e3, by rw [hdel_ne nq]; exact h1, ⟨h2, nq⟩, h3, h4.mono ⟨[], by simp⟩ up⟩
  · rcases get_set ea with ⟨rfl, z⟩ | ⟨na, ea⟩
    · cases z
    · rcases get_set eb with ⟨rfl, z⟩ | ⟨nb, eb⟩
      · cases z
      · exact S.dist a b _ _ q ne ea eb sa sb
end
def xAsk {M : Type} (f0 mn : Str) (spI spM : DSp (M × Ob)) (i : Nat) : XT M := fun ρ m Q Z => match ρ[i]? with
  | some (.own ds) => D.pls ds = true ∧ ∀ h, spI [.hnd h, .hnd (h + 2)] (m, ⟨h, [(f0, .free ds)]⟩) (fun d2 m2 => d2 = .non ∧ m2.2.h = h ∧ fget mn m2.2.fs = none ∧
    spM [.hnd h] m2 (fun d3 m3 => m3.2.h = h ∧ d3.pl = true ∧ Q d3 (ρ.set i .un) m3.1) (fun x m3 => m3.2.h = h ∧ Z x m3.1)) (fun x m3 => m3.2.h = h ∧ Z x m3.1)
  | _ => False
section
variable {X : Cx} {Cl : Addr} {W : Wd} {H0 : Hp} {F0 : List Addr} {wx : WX}
theorem jx_ask (f0 : Str) (i : Nat) {x0 cn mn : Str} {k k2 : Nat} {p0 p1 p2 apos pos : Pos} {spI spM : DSp (W.M × Ob)} (mk : MkC X.K Cl) (gm : X.mg cn = some (.ref Cl)) (hI : FM X.prog X.w X.K X.mg X.base (WdO X.K Cl W) k Cl "__init__" spI) (hM : FM X.prog X.w X.K X.mg X.base (WdO X.K Cl W) k2 Cl mn spM) (c : Cls X.K Cl)
    (rI : RoomG (k + 1) X.A) (rM : RoomG k2 X.A) (tk : Takes X wx) (hN : X.N[i]? = some x0 := by rfl) (hv : Vis X.env.scope x0 := by first | exact Or.inl rfl | exact Or.inr (Or.inl rfl) | exact Or.inr (Or.inr rfl)) (hd : (x0 == ("__debug__" : Str)) = false := by decide) (hcd : (x0 == ("__classdict__" : Str)) = false := by decide)
    (gl : Gl X cn := by rfl) (hdb : (cn == ("__debug__" : Str)) = false := by decide)
    (hs : starEach [.Name x0 p0] X.env = (false, eval (.Name x0 p0) X.env) :: starEach [] X.env := by rfl) (hpl : (backTo p2 (starEach [] X.env)).any (·.1) = false := by rfl)
    {pl : Sem Bool} (ht : eval (.Call (.Attribute (.Call (.Name cn p1) [.Name x0 p0] [] p2) mn apos) [] [] pos) X.env = (do
      let ov ← eval (.Call (.Name cn p1) [.Name x0 p0] [] p2) X.env
      standAt apos.atName
      let (f, first) ← holding [ov] (getMethod ov mn pl)
      callWith pos f first (backTo pos (starEach [] X.env)) (backToKw pos (keywordEach [] X.env))) := by rfl) :
    JX X ⟨W, H0, F0, wx⟩ (.Call (.Attribute (.Call (.Name cn p1) [.Name x0 p0] [] p2) mn apos) [] [] pos) (xAsk f0 mn spI spM i) := by
  obtain ⟨fi, fdi, psi, GI, hmi, hbi⟩ := hI
  obtain ⟨fm, fdm, psm, GM, hmm, hbm⟩ := hM
  refine ⟨_, pe_methG0 (pl := pl) (E := fun σ cls d H' => wx cls d σ H') (pe_makeG (E := fun σ cls d H' => wx cls d σ H') ⟨mk.makes, hmi.at_, hmi.fn, mk.kp⟩ GI rI gl gm hbi (fun σ => passAt tk σ) (pa_cons (pe_var hN hv hd hcd) pa_nil hs) hdb hs hpl) c hmm GM rM hbm .nil (fun σ => passAt tk σ) ht, fun σ H Pr F ρ m Q Z R S E h kk => ?_⟩
  unfold xAsk at h
  split at h
  rotate_left
  · exact h.elim
  rename_i ds e0
  obtain ⟨pls, z⟩ := h
  obtain ⟨l, vs, e1, n3, pl0, lF, n4⟩ := S.slot i _ e0
  have Sm := S.without e0 e1
  refine ⟨.ref l, e1, fun x dx nx ndx nex => ?_⟩
  have n4' : DnA true X.K [] (tv H) vs ds := DnA.plain sv_tv n4 pls
  have there : ∀ a ∈ F, H a ≠ none := fun a ha y => by
    obtain ⟨o, e, _⟩ := W.there S.rz a ha
    rw [y] at e; cases e
  have xF : x ∉ F := fun y => there x y nx
  have dF : dx ∉ F := fun y => there dx y ndx
  have lx : l ≠ x := fun y => by rw [y, nx] at n3; cases n3
  have ld : l ≠ dx := fun y => by rw [y, ndx] at n3; cases n3
  generalize hH2 : upd (upd H dx (.own x)) x (.ins Cl dx []) = H2
  have o1 : ∀ a o, H a = some o → H2 a = some o := fun a o ea => by
    rw [← hH2, upd_ne (fun y => by rw [y, nx] at ea; cases ea), upd_ne (fun y => by rw [y, ndx] at ea; cases ea)]; exact ea
  have hx2 : H2 x = some (.ins Cl dx []) := by rw [← hH2]; exact upd_same
  have hd2 : H2 dx = some (.own x) := by rw [← hH2, upd_ne nex]; exact upd_same
  have W2 : W.Rz m F H2 := W.keep S.rz (fun a ha => by
    rw [← hH2, upd_ne (fun y : a = x => xF (by rw [← y]; exact ha)), upd_ne (fun y : a = dx => dF (by rw [← y]; exact ha))]) fun a o _ ea => o1 a o ea
  have nd : (x :: dx :: [l]).Nodup := by
    refine List.nodup_cons.mpr ⟨?_, List.nodup_cons.mpr ⟨?_, by simp⟩⟩
    · simp only [List.mem_cons, List.not_mem_nil, or_false, not_or]
      exact ⟨Ne.symm nex, Ne.symm lx⟩
    · simp only [List.mem_cons, List.not_mem_nil, or_false]
      exact Ne.symm ld
  have nF : ∀ a ∈ x :: dx :: [l], a ∉ F := fun a ha => by
    simp only [List.mem_cons, List.not_mem_nil, or_false] at ha
    rcases ha with rfl | rfl | rfl
    · exact xF
    · exact dF
    · exact lF
  have g1 : (F ++ [x, dx, l])[F.length]? = some x := by rw [List.getElem?_append_right (Nat.le_refl _), Nat.sub_self]; rfl
  have g2 : (F ++ [x, dx, l])[F.length + 2]? = some l := by rw [List.getElem?_append_right (by omega), show F.length + 2 - F.length = 2 by omega]; rfl
  have rz2 : (WdO X.K Cl W).Rz (m, ⟨F.length, [(f0, .free ds)]⟩) (F ++ [x, dx, l]) H2 :=
    ⟨F, x, dx, [l], [], rfl, rfl, W2, hx2, hd2, .free (o1 _ _ n3) (n4'.mono ⟨[], rfl⟩ (tv_mono fun a o _ ea => o1 a o ea)) pls .nil, nd, nF, by show 0 < 1000; decide⟩
  -- what stood at the start stays
  have old : ∀ a o, a ∉ F → hdel H l a = some o → H2 a = some o ∧ a ∉ F ++ [x, dx, l] := fun a o na ea => by
    obtain ⟨nl, ea⟩ := hdel_of ea
    refine ⟨o1 a o ea, fun y => ?_⟩
    rcases List.mem_append.mp y with y | y
    · exact na y
    · simp only [List.mem_cons, List.not_mem_nil, or_false] at y
      rcases y with rfl | rfl | rfl
      · rw [nx] at ea; cases ea
      · rw [ndx] at ea; cases ea
      · exact nl rfl
  -- from the heap without the list back to the heap
  have lift : ∀ {P' : Addr → Prop} {H' : Hp}, Te (fun a => Pr a ∧ a ≠ l) F (hdel H l) P' F H' → (∀ a, P' a → Pr a) → (∃ o, H' l = some o) → Tr Pr F H P' F H' := fun {P' H'} t pq he =>
    ⟨⟨[], by simp⟩, fun a h n => absurd (pq a h) n, fun a h n => absurd h n, fun a o h => by
      by_cases q : a = l
      · rw [q]; exact he
      · exact t.stay a o (by rw [hdel_ne q]; exact h), fun a o n h => by
      have q : a ≠ l := fun q => n (q ▸ pl0)
      exact t.all a o (fun y => n (S.prf a y)) (by rw [hdel_ne q]; exact h)⟩
  have lin : l ∈ F ++ [x, dx, l] := by simp
  refine ⟨F ++ [x, dx, l], (m, ⟨F.length, [(f0, .free ds)]⟩), [.hnd F.length, .hnd (F.length + 2)], _, _, rz2, .cons (.hnd g1) (.cons (.hnd g2) .nil), z F.length, fun v H3 F3 d3 m3 rz3 pre3 fr3 kp3 dn3 z3 => ?_, fun y cls H3 F3 m3 hy rz3 pre3 fr3 kp3 z3 => ?_⟩
  · obtain ⟨rfl, eh, eg, z3⟩ := z3
    have dn3 : Dn true X.K F3 (sv H2 (· ∈ F3) H3) v .non := dn3
    cases dn3
    obtain ⟨G, eF3⟩ := pre3
    obtain ⟨w1, fv, w2, w3, w4, w5, w6⟩ := ob_same rz3 eF3 eh
    refine ⟨rfl, x, dx, fv, rfl, w2, (w3.get mn).1 eg, F3, m3, [.hnd F.length], _, _, rz3, .cons (.hnd ?_) .nil, z3, fun v H4 F4 d4 m4 rz4 pre4 fr4 kp4 dn4 z4 => ?_, fun y cls H4 F4 m4 hy rz4 pre4 fr4 kp4 z4 => ?_⟩
    · rw [eF3, List.getElem?_append_left (by simp)]; exact g1
    · obtain ⟨eh4, pd, z4⟩ := z4
      obtain ⟨G4, eF4⟩ := pre4
      have eF4' : F4 = (F ++ [x, dx, l]) ++ (G ++ G4) := by rw [eF4, eF3]; simp
      obtain ⟨y1, fv4, y2, y3, y4, y5, y6⟩ := ob_same rz4 eF4' eh4
      have kp : ∀ a o, a ∉ F → hdel H l a = some o → H4 a = some o := fun a o na ea => by
        obtain ⟨e2, nn⟩ := old a o na ea
        have e3 := kp3 a o nn e2
        refine kp4 a o (fun y => ?_) e3
        have := fr3 a y nn
        rw [e2] at this; cases this
      obtain ⟨S2, t2⟩ := Sm.turned (m' := m4.1) (H' := H4) (F' := F) y1 ⟨[], by simp⟩ (fun a ha na => absurd ha na) kp
      have ll : ∃ o, H4 l = some o := by
        obtain ⟨o, q, _⟩ := (WdO X.K Cl W).there rz4 l (by rw [eF4']; exact List.mem_append_left _ lin)
        exact ⟨o, q⟩
      exact kk _ _ ⟨_, F, _, m4.1, d4, S2, lift t2 (fun a q => q.elim (fun q => q.1) (S.prf a)) ll, ((show Dn true X.K F4 (sv H3 (· ∈ F4) H4) v d4 from dn4).plain (fun a xs e => vw_iff.mpr ⟨sv_le e, .inl trivial⟩) pd), z4⟩
    · obtain ⟨eh4, z4⟩ := z4
      obtain ⟨G4, eF4⟩ := pre4
      have eF4' : F4 = (F ++ [x, dx, l]) ++ (G ++ G4) := by rw [eF4, eF3]; simp
      obtain ⟨y1, fv4, y2, y3, y4, y5, y6⟩ := ob_same rz4 eF4' eh4
      have kp : ∀ a o, a ∉ F → hdel H l a = some o → H4 a = some o := fun a o na ea => by
        obtain ⟨e2, nn⟩ := old a o na ea
        have e3 := kp3 a o nn e2
        refine kp4 a o (fun y => ?_) e3
        have := fr3 a y nn
        rw [e2] at this; cases this
      obtain ⟨S2, t2⟩ := Sm.turned (m' := m4.1) (H' := H4) (F' := F) y1 ⟨[], by simp⟩ (fun a ha na => absurd ha na) kp
      have ll : ∃ o, H4 l = some o := by
        obtain ⟨o, q, _⟩ := (WdO X.K Cl W).there rz4 l (by rw [eF4']; exact List.mem_append_left _ lin)
        exact ⟨o, q⟩
      exact E _ y cls _ F m4.1 H4 hy S2 (lift t2 (fun a q => q.elim (fun q => q.1) (S.prf a)) ll) z4
  · obtain ⟨eh, z3⟩ := z3
    obtain ⟨G, eF3⟩ := pre3
    obtain ⟨w1, fv, w2, w3, w4, w5, w6⟩ := ob_same rz3 eF3 eh
    obtain ⟨S2, t2⟩ := Sm.turned (m' := m3.1) (H' := H3) (F' := F) w1 ⟨[], by simp⟩ (fun a ha na => absurd ha na) fun a o na ea => kp3 a o (old a o na ea).2 (old a o na ea).1
    have ll : ∃ o, H3 l = some o := by
      obtain ⟨o, q, _⟩ := (WdO X.K Cl W).there rz3 l (by rw [eF3]; exact List.mem_append_left _ lin)
      exact ⟨o, q⟩
    exact E _ y cls _ F m3.1 H3 hy S2 (lift t2 (fun a q => q.elim (fun q => q.1) (S.prf a)) ll) z3
end
section
variable {X : Cx} {C : Cn} {e : Expr} {pos pos' : Pos}
def xRet {M : Type} (t : XT M) : DS M := fun E ρ m => t ρ m (fun d _ m' => E.rt d m') E.ex
theorem js_retX {te : XT C.W.M} (h : JX X C e te) : JS X C (.Return (some e) pos) (xRet te) := by
  obtain ⟨t1, p, q⟩ := h
  exact ⟨_, ps_ret p, fun σ H Pr F ρ m E D' S l h => q σ H Pr F ρ m _ _ _ S (fun ρ' => l.ex σ ρ') h fun v H1 ⟨P1, F1, ρ1, m1, d, S1, t1, dv, z⟩ => l.rt _ _ d m1 P1 F1 σ ρ1 H S1 t1 (dv.mono ⟨[], by simp⟩ S1.sv_rv) z⟩
/-- x = e: a new list is the name's own, all else is data -/
def dSetM {M : Type} (i : Nat) (t : DT M) : DS M := fun E ρ m => t ρ m (fun d m' => match d with | .lst ds => D.nls ds = true ∧ E.nx (ρ.set i (.own ds)) m' | d => E.nx (ρ.set i (.val d)) m') E.ex
theorem js_setM (i : Nat) {x : Str} {te : DT C.W.M} (hN : X.N.Nodup) (h : J .f X C e te) (hi : X.N[i]? = some x := by rfl) (hx : Loc X.env.scope x := by first | exact .inl rfl | exact .inr rfl) (hf : LocF X x := by first | exact .inl rfl | exact .inr rfl) (hs : swapsWith e (some (.Name x pos')) pos.line X.env = pure false := by rfl) :
    JS X C (.Assign [.Name x pos'] e pos) (dSetM i te) := by
  obtain ⟨t1, p, q⟩ := h
  refine ⟨_, ps_set hN hi hx p hs hf, fun σ H Pr F ρ m E D' S l h => q σ H Pr F ρ m _ _ _ S (l.ex σ ρ) h fun v H1 ⟨P1, F1, m1, d, S1, t1, dv, z⟩ => ?_⟩
  try dsimp only at z
  split at z
  · obtain ⟨p, vs, rfl, hn, np, hp, hd⟩ := dv.2 _ rfl
    obtain ⟨S2, t2⟩ := S.owned t1 S1 i hn hp np hd z.1
    exact l.nx _ _ _ _ _ _ S2 t2.toTr z.2
  · exact l.nx _ _ _ _ _ _ (S1.set i dv.1) t1.toTr z
/-- a name that holds a list of its own or data, looked at -/
def dAny {M : Type} (i : Nat) : DT M := fun ρ m Q _ => match ρ[i]? with | some (.own ds) => Q (.lst ds) m | some (.val d) => Q d m | _ => False
theorem j_any (i : Nat) {x : Str} (hN : X.N[i]? = some x := by rfl) (hv : Vis X.env.scope x := by first | exact Or.inl rfl | exact Or.inr (Or.inl rfl) | exact Or.inr (Or.inr rfl)) (hd : (x == ("__debug__" : Str)) = false := by decide)
    (hcd : (x == ("__classdict__" : Str)) = false := by decide) : J .w X C (.Name x pos) (dAny i) := by
  refine ⟨_, pe_var hN hv hd hcd, fun σ H Pr F ρ m Q Z R S E h k => ?_⟩
  unfold dAny at h
  split at h
  · rename_i d e
    obtain ⟨p, vs, e1, hp, pp, nf, q⟩ := S.slot i _ e
    exact ⟨.ref p, e1, k _ _ ⟨Pr, F, m, .lst d, S, Te.refl, .lst (.inl (.inl (vw_iff.mpr ⟨hp, nf⟩))) (q.mono ⟨[], by simp⟩ S.sv_wv).weak, h⟩⟩
  · rename_i d e
    obtain ⟨v, e1, q⟩ := S.slot i _ e
    exact ⟨v, e1, k _ _ ⟨Pr, F, m, d, S, Te.refl, (q.mono ⟨[], by simp⟩ S.sv_wv).weak, h⟩⟩
  · exact h.elim
end
section
variable {M : Type} {ρ : En} {m : M} {nx bk ct : En → M → Prop} {rt : D → M → Prop} {ex : Str → M → Prop} {ds : List D} {d : D} {g : DG} {t : DT M} {Z : Str → M → Prop}
def kSetM (i : Nat) (ρ : En) (nx : En → M → Prop) (d : D) (m' : M) : Prop := match d with | .lst ds => D.nls ds = true ∧ nx (ρ.set i (.own ds)) m' | d => nx (ρ.set i (.val d)) m'
theorem v_setM {i : Nat} (h : t ρ m (kSetM i ρ nx) ex) : dSetM i t ⟨nx, rt, bk, ct, ex⟩ ρ m := h
theorem v_kSetM {i : Nat} (n : D.nls ds = true) (h : nx (ρ.set i (.own ds)) m) : kSetM i ρ nx (.lst ds) m := ⟨n, h⟩
theorem v_kSetN {i : Nat} (h : nx (ρ.set i (.val .non)) m) : kSetM i ρ nx .non m := h
theorem v_anyO {i : Nat} {Q : D → M → Prop} (e : ρ[i]? = some (.own ds)) (h : Q (.lst ds) m) : dAny i ρ m Q Z := by
  unfold dAny
  rw [e]
  exact h
theorem v_anyV {i : Nat} {Q : D → M → Prop} (e : ρ[i]? = some (.val d)) (h : Q d m) : dAny i ρ m Q Z := by
  unfold dAny
  rw [e]
  exact h
theorem v_xRet {t : XT M} (h : t ρ m (fun d _ m' => rt d m') ex) : xRet t ⟨nx, rt, bk, ct, ex⟩ ρ m := h
theorem v_xAsk {f0 mn : Str} {spI spM : DSp (M × Ob)} {i : Nat} {Q : D → En → M → Prop} (e : ρ[i]? = some (.own ds)) (p : D.pls ds = true) (h : ∀ h, spI [.hnd h, .hnd (h + 2)] (m, ⟨h, [(f0, .free ds)]⟩) (fun d2 m2 => d2 = .non ∧ m2.2.h = h ∧ fget mn m2.2.fs = none ∧
    spM [.hnd h] m2 (fun d3 m3 => m3.2.h = h ∧ d3.pl = true ∧ Q d3 (ρ.set i .un) m3.1) (fun x m3 => m3.2.h = h ∧ Z x m3.1)) (fun x m3 => m3.2.h = h ∧ Z x m3.1)) : xAsk f0 mn spI spM i ρ m Q Z := by
  unfold xAsk
  rw [e]
  exact ⟨p, h⟩
variable {ta : DTA M} {QL : List D → M → Prop} {i j : Int}
end
end RR

/-! VK: plain lists: trailing noughts off, nearest rests -/
namespace RR
open PySem PySem.Spec PyProof.Rows L2
/-- without the noughts at the end -/
def strip (xs : List Int) : List Int := (xs.reverse.dropWhile (· == 0)).reverse
theorem strip_snoc (xs : List Int) (a : Int) : strip (xs ++ [a]) = if a = 0 then strip xs else xs ++ [a] := by
  unfold strip
  rw [List.reverse_append, List.reverse_singleton, List.singleton_append, List.dropWhile_cons]
  by_cases h : a = 0
  · rw [if_pos h, if_pos (by simp [h])]
  · rw [if_neg h, if_neg (by simp [h]), List.reverse_cons, List.reverse_reverse]
theorem strip_ind {P : List Int → Prop} (h0 : P []) (h1 : ∀ xs a, P xs → P (xs ++ [a])) : ∀ xs, P xs := fun xs => by
  have : ∀ ys : List Int, P ys.reverse := fun ys => by
    induction ys with
    | nil => exact h0
    | cons y ys ih => rw [List.reverse_cons]; exact h1 _ _ ih
  have := this xs.reverse
  rwa [List.reverse_reverse] at this
theorem strip_len (xs : List Int) : (strip xs).length ≤ xs.length := by
  induction xs using strip_ind with
  | h0 => exact Nat.le_refl _
  | h1 xs a ih =>
    rw [strip_snoc]
    split
    · rw [List.length_append]; omega
    · exact Nat.le_refl _
theorem strip_mem {xs : List Int} {x : Int} : x ∈ strip xs → x ∈ xs := by
  induction xs using strip_ind with
  | h0 => exact id
  | h1 xs a ih =>
    rw [strip_snoc]
    split
    · exact fun h => List.mem_append_left _ (ih h)
    · exact id
/-- done: no nought at the end -/
def done (xs : List Int) : Prop := strip xs = xs
theorem strip_done (xs : List Int) : strip (strip xs) = strip xs := by
  induction xs using strip_ind with
  | h0 => rfl
  | h1 xs a ih =>
    by_cases h : a = 0
    · rw [strip_snoc, if_pos h]; exact ih
    · rw [strip_snoc, if_neg h, strip_snoc, if_neg h]
theorem take_snoc {xs : List Int} {n : Nat} (h : n < xs.length) : xs.take (n + 1) = xs.take n ++ [xs[n]] := by
  rw [List.take_add_one, List.getElem?_eq_getElem h]; rfl
/-- the loop's step: the last one of the first n is nought -/
theorem strip_step {xs : List Int} {n : Nat} (h : n < xs.length) (z : xs[n] = 0) : strip (xs.take (n + 1)) = strip (xs.take n) := by
  rw [take_snoc h, strip_snoc, if_pos z]
theorem strip_stop {xs : List Int} {n : Nat} (h : n < xs.length) (z : xs[n] ≠ 0) : strip (xs.take (n + 1)) = xs.take (n + 1) := by
  rw [take_snoc h, strip_snoc, if_neg z]
end RR

/-! RS: stepping through a data reading by rules -/
namespace RR
open PySem PySem.Spec PyProof.Rows L2
section
variable {M : Type} {ρ : En} {m : M} {Q : D → M → Prop} {QL : List D → M → Prop} {QB : Bool → M → Prop} {QO : Option Int → M → Prop} {Z ex : Str → M → Prop} {nx bk ct : En → M → Prop} {rt : D → M → Prop} {t u w : DT M} {ta : DTA M} {tt tu : DTT M} {s1 s2 : DS M} {q : D → Prop} {i j : Int} {d x y : D} {xs ys : List Int} {ds es : List D}
theorem v_then (h : s1 ⟨s2 ⟨nx, rt, bk, ct, ex⟩, rt, bk, ct, ex⟩ ρ m) : dThen s1 s2 ⟨nx, rt, bk, ct, ex⟩ ρ m := h
theorem v_next (h : nx ρ m) : dNext ⟨nx, rt, bk, ct, ex⟩ ρ m := h
theorem v_set {i : Nat} (h : t ρ m (fun d m' => nx (ρ.set i (.val d)) m') ex) : dSet i t ⟨nx, rt, bk, ct, ex⟩ ρ m := h
def kO (ρ : En) (i : Nat) (nx : En → M → Prop) : D → M → Prop := fun d m' => match d with | .lst ds => D.nls ds = true ∧ nx (ρ.set i (.own ds)) m' | _ => False
theorem v_setO {i : Nat} (h : t ρ m (kO ρ i nx) ex) : dSetO i t ⟨nx, rt, bk, ct, ex⟩ ρ m := h
theorem v_kO {i : Nat} (n : D.nls ds = true) (h : nx (ρ.set i (.own ds)) m) : kO ρ i nx (.lst ds) m := ⟨n, h⟩
theorem v_ret (h : t ρ m rt ex) : dRet t ⟨nx, rt, bk, ct, ex⟩ ρ m := h
theorem v_drop (h : t ρ m (fun _ m' => nx ρ m') ex) : dDrop t ⟨nx, rt, bk, ct, ex⟩ ρ m := h
theorem v_ite (h : tt ρ m (fun b m1 => if b = true then s1 ⟨nx, rt, bk, ct, ex⟩ ρ m1 else s2 ⟨nx, rt, bk, ct, ex⟩ ρ m1) ex) : dIte tt s1 s2 ⟨nx, rt, bk, ct, ex⟩ ρ m := h
theorem v_ifT {A B : Prop} (h : A) : if true = true then A else B := by rw [if_pos rfl]; exact h
theorem v_ifF {A B : Prop} (h : B) : if false = true then A else B := by rw [if_neg Bool.false_ne_true]; exact h
theorem v_ifd {p : Prop} [Decidable p] {A B : Prop} (h : p → A) (h' : ¬ p → B) : if decide p = true then A else B := by
  by_cases e : p
  · rw [if_pos (decide_eq_true e)]; exact h e
  · rw [if_neg (by simpa using e)]; exact h' e
theorem v_var {i : Nat} (e : ρ[i]? = some (.val d)) (h : Q d m) : dVar i ρ m Q Z := by unfold dVar; rw [e]; exact h
theorem v_bor {i : Nat} (e : ρ[i]? = some (.bor d)) (h : Q d m) : dBor i ρ m Q Z := by unfold dBor; rw [e]; exact h
theorem v_own {i : Nat} (e : ρ[i]? = some (.own ds)) (h : Q (.lst ds) m) : dOwn i ρ m Q Z := by unfold dOwn; rw [e]; exact h
theorem v_c (h : Q d m) : dC d ρ m Q Z := h
theorem v_nil (h : QL [] m) : dNil ρ m QL Z := h
theorem v_cons (h : t ρ m (fun d m1 => ta ρ m1 (fun ds m2 => QL (d :: ds) m2) Z) Z) : dCons t ta ρ m QL Z := h
theorem v_tup (h : ta ρ m (fun ds m1 => ds.length ≤ sizeLine ∧ Q (.tup ds) m1) Z) : dTup ta ρ m Q Z := h
theorem v_lst (h : ta ρ m (fun ds m1 => ds.length ≤ sizeLine ∧ Q (.lst ds) m1) Z) : dLst ta ρ m Q Z := h
theorem v_sz {n : Nat} {A : Prop} (e : n ≤ 16777216) (h : A) : n ≤ sizeLine ∧ A := ⟨small_line e, h⟩
theorem v_bin {g : G2} (h : t ρ m (fun x m1 => u ρ m1 (fun y m2 => g x y fun d => Q d m2) Z) Z) : dBin g t u ρ m Q Z := h
theorem v_g0 {f : Int → Int → D} (h : q (f i j)) : g0 f (.int i) (.int j) q := h
theorem v_gII {P : Int → Int → Prop} {f : Int → Int → D} (p : P i j) (h : q (f i j)) : gII P f (.int i) (.int j) q := ⟨p, h⟩
theorem v_gIIz {f : Int → Int → D} (p : j ≠ 0) (h : q (f i j)) : gII Nz f (.int i) (.int j) q := ⟨p, h⟩
theorem v_add (h : q (.int (i + j))) : gAdd (.int i) (.int j) q := h
theorem v_addl (a : ds.length + es.length ≤ 16777216) (b : D.nls ds = true) (c : D.nls es = true) (h : q (.lst (ds ++ es))) : gAdd (.lst ds) (.lst es) q := ⟨small_line a, b, c, h⟩
theorem v_mul (p : IntMulOk i j) (h : q (.int (i * j))) : gMul (.int i) (.int j) q := ⟨p, h⟩
theorem v_repl {k : Int} (a : 0 ≤ k) (b : ds.length * k.toNat ≤ 16777216) (hk : k < 2 ^ 63) (n : D.nls ds = true) (h : q (.lst (rep k ds))) : gMul (.lst ds) (.int k) q := ⟨by omega, hk, small_line b, n, h⟩
theorem v_eqi (h : q (.bl (decide (i = j)))) : gEq (.int i) (.int j) q := .inl ⟨q_int, q_int, h⟩
theorem v_nei (h : q (.bl (!decide (i = j)))) : gNe (.int i) (.int j) q := .inl ⟨q_int, q_int, h⟩
theorem v_eqr (h : q (.bl (decide (xs = ys)))) : gEq (.tup (zz xs)) (.tup (zz ys)) q := .inl ⟨q_row xs, q_row ys, by rw [eqv_row]; exact h⟩
theorem v_ner (h : q (.bl (!decide (xs = ys)))) : gNe (.tup (zz xs)) (.tup (zz ys)) q := .inl ⟨q_row xs, q_row ys, by rw [eqv_row]; exact h⟩
theorem v_eqr0 (h : q (.bl (decide (xs = [])))) : gEq (.tup (zz xs)) (.tup []) q := v_eqr (ys := []) h
theorem v_ner0 (h : q (.bl (!decide (xs = [])))) : gNe (.tup (zz xs)) (.tup []) q := v_ner (ys := []) h
theorem v_eql (h : q (.bl (decide (xs = ys)))) : gEq (.lst (zz xs)) (.lst (zz ys)) q := .inl ⟨q_lst xs, q_lst ys, by rw [eqv_lst]; exact h⟩
theorem v_nel (h : q (.bl (!decide (xs = ys)))) : gNe (.lst (zz xs)) (.lst (zz ys)) q := .inl ⟨q_lst xs, q_lst ys, by rw [eqv_lst]; exact h⟩
theorem v_eql0 (h : q (.bl (decide (xs = [])))) : gEq (.lst (zz xs)) (.lst []) q := v_eql (ys := []) h
theorem v_nel0 (h : q (.bl (!decide (xs = [])))) : gNe (.lst (zz xs)) (.lst []) q := v_nel (ys := []) h
theorem v_isN (h : q (.bl x.isN)) : gIsN x .non q := ⟨rfl, h⟩
theorem v_notN (h : q (.bl (!x.isN))) : gNotN x .non q := ⟨rfl, h⟩
/-- the place i from the front, nought behind the end -/
def nth (xs : List Int) (i : Int) : Int := xs.getD i.toNat 0
theorem nth_get {n : Nat} (h : n < xs.length) : nth xs (n : Int) = xs[n] := by unfold nth; simp [List.getD, List.getElem?_eq_getElem h]
theorem nth_mem (h0 : 0 ≤ i) (h1 : i < xs.length) : nth xs i ∈ xs := by
  obtain ⟨n, rfl⟩ := Int.eq_ofNat_of_zero_le h0
  rw [nth_get (by omega)]
  exact List.getElem_mem _
theorem atI_nth (h0 : 0 ≤ i) (h1 : i < xs.length) : atI (zz xs) i = some (.int (nth xs i)) := by
  rw [atI_ints, atI_at h0 h1]
  obtain ⟨n, rfl⟩ := Int.eq_ofNat_of_zero_le h0
  rw [nth_get (by omega)]
  rfl
theorem v_ixl {n : Bool} (h0 : 0 ≤ i) (h1 : i < xs.length) (h : q (.int (nth xs i))) : gIx n (.lst (zz xs)) (.int i) q := by
  unfold gIx; dsimp only; rw [atI_nth h0 h1]; exact ⟨fun _ => rfl, h⟩
theorem v_ixt {n : Bool} (h0 : 0 ≤ i) (h1 : i < xs.length) (h : q (.int (nth xs i))) : gIx n (.tup (zz xs)) (.int i) q := by
  unfold gIx; dsimp only; rw [atI_nth h0 h1]; exact ⟨fun _ => rfl, h⟩
theorem v_ixL {n : Bool} (e : atI ds i = some d) (nl : d.nl = true) (h : q d) : gIx n (.lst ds) (.int i) q := by
  unfold gIx; dsimp only; rw [e]; exact ⟨fun _ => nl, h⟩
theorem v_dB {g : List D → (D → Prop) → Prop} (h : ta ρ m (fun ds m1 => g ds fun d => Q d m1) Z) : dB g ta ρ m Q Z := h
theorem v_lent (h : q (.int ds.length)) : gLen [.tup ds] q := h
theorem v_lenl (h : q (.int ds.length)) : gLen [.lst ds] q := h
theorem v_lentz (h : q (.int xs.length)) : gLen [.tup (zz xs)] q := by show q (.int (zz xs).length); rw [show (zz xs).length = xs.length from List.length_map _]; exact h
theorem v_lenlz (h : q (.int xs.length)) : gLen [.lst (zz xs)] q := by show q (.int (zz xs).length); rw [show (zz xs).length = xs.length from List.length_map _]; exact h
theorem v_I1 {f : Int → Int} (h : q (.int (f i))) : gI1 f [.int i] q := h
theorem v_I2 {f : Int → Int → Int} (h : q (.int (f i j))) : gI2 f [.int i, .int j] q := h
theorem v_int (h : q (.int i)) : gInt [.int i] q := h
theorem v_seqlz {mk : List D → D} (h : q (mk (zz xs))) : gSeq mk [.lst (zz xs)] q := ⟨nls_ints xs, h⟩
theorem v_seqtz {mk : List D → D} (h : q (mk (zz xs))) : gSeq mk [.tup (zz xs)] q := ⟨nls_ints xs, h⟩
/-! slices -/
def kSl (x : D) (l u : Option Int) (Q : D → M → Prop) (m3 : M) : Prop := match x with
  | .lst ds => D.nls ds = true ∧ Q (.lst (cutD ds l u)) m3
  | .tup ds => D.nls ds = true ∧ Q (.tup (cutD ds l u)) m3
  | _ => False
theorem v_sl {lo hi : DTO M} (h : t ρ m (fun x m1 => lo ρ m1 (fun l m2 => hi ρ m2 (fun u m3 => kSl x l u Q m3) Z) Z) Z) : dSl t lo hi ρ m Q Z := h
theorem v_kSll {l u : Option Int} (h : Q (.lst (cutD (zz xs) l u)) m) : kSl (.lst (zz xs)) l u Q m := ⟨nls_ints xs, h⟩
theorem v_kSlt {l u : Option Int} (h : Q (.tup (cutD (zz xs) l u)) m) : kSl (.tup (zz xs)) l u Q m := ⟨nls_ints xs, h⟩
theorem v_ono (h : QO none m) : dONone ρ m QO Z := h
def kOS (Q : Option Int → M → Prop) (d : D) (m1 : M) : Prop := match d with | .int i => Q (some i) m1 | _ => False
theorem v_oso (h : t ρ m (fun d m1 => kOS QO d m1) Z) : dOSome t ρ m QO Z := h
theorem v_kOS (h : QO (some i) m) : kOS QO (.int i) m := h
/-! tests -/
def kT (Q : Bool → M → Prop) (d : D) (m' : M) : Prop := match d with | .bl b => Q b m' | _ => False
theorem v_tst (h : t ρ m (fun d m' => kT QB d m') Z) : dTst t ρ m QB Z := h
theorem v_kT {b : Bool} (h : QB b m) : kT QB (.bl b) m := h
def kV (Q : Bool → M → Prop) (d : D) (m' : M) : Prop := match d.tr with | some b => Q b m' | none => False
theorem v_val (h : t ρ m (fun d m' => RR.kV QB d m') Z) : dVal t ρ m QB Z := h
theorem v_kVb {b : Bool} (h : QB b m) : RR.kV QB (.bl b) m := h
theorem v_kVi (h : QB (i != 0) m) : RR.kV QB (.int i) m := h
theorem v_kVt (h : QB (!ds.isEmpty) m) : RR.kV QB (.tup ds) m := h
theorem v_kVl (h : QB (!ds.isEmpty) m) : RR.kV QB (.lst ds) m := h
theorem v_and (h : tt ρ m (fun b m1 => if b = true then tu ρ m1 QB Z else QB false m1) Z) : dAnd tt tu ρ m QB Z := h
theorem v_or (h : tt ρ m (fun b m1 => if b = true then QB true m1 else tu ρ m1 QB Z) Z) : dOr tt tu ρ m QB Z := h
theorem v_not (h : tt ρ m (fun b m1 => QB (!b) m1) Z) : dNot tt ρ m QB Z := h
theorem v_yes (h : QB true m) : dYes ρ m QB Z := h
theorem v_if' (h : tt ρ m (fun b m1 => if b = true then t ρ m1 Q Z else u ρ m1 Q Z) Z) : dIf tt t u ρ m Q Z := h
def kI (T : String) (Q : D → M → Prop) (d : D) (m1 : M) : Prop := match d.ty with | some ty => Q (.bl (isiB ty T)) m1 | none => False
theorem v_isi {T : String} (h : t ρ m (fun d m1 => kI T Q d m1) Z) : dIsi T t ρ m Q Z := h
theorem v_kIii (h : Q (.bl true) m) : kI "int" Q (.int i) m := h
theorem v_kIib (h : Q (.bl false) m) : kI "bool" Q (.int i) m := h
theorem v_kItt (h : Q (.bl true) m) : kI "tuple" Q (.tup ds) m := h
theorem v_kI {T ty : String} {b : Bool} (e : d.ty = some ty) (e2 : isiB ty T = b) (h : Q (.bl b) m) : kI T Q d m := by unfold kI; rw [e]; dsimp only; rw [e2]; exact h
def kAV (A : Prop) (Q : D → M → Prop) (d : D) (m1 : M) : Prop := match d with | .bl true => A | .bl false => Q (.bl false) m1 | _ => False
theorem v_andV (h : t ρ m (fun d m1 => kAV (u ρ m1 Q Z) Q d m1) Z) : dAndV t u ρ m Q Z := by
  unfold dAndV
  refine (?_ : t ρ m _ Z)
  exact h
def kOV (A : Prop) (Q : D → M → Prop) (d : D) (m1 : M) : Prop := match d with | .bl false => A | .bl true => Q (.bl true) m1 | _ => False
theorem v_orV (h : t ρ m (fun d m1 => kOV (u ρ m1 Q Z) Q d m1) Z) : dOrV t u ρ m Q Z := h
theorem v_kAV {b : Bool} {A : Prop} (h : b = true → A) (h' : b = false → Q (.bl false) m) : kAV A Q (.bl b) m := by
  cases b with
  | true => exact h rfl
  | false => exact h' rfl
theorem v_kOV {b : Bool} {A : Prop} (h : b = false → A) (h' : b = true → Q (.bl true) m) : kOV A Q (.bl b) m := by
  cases b with
  | false => exact h rfl
  | true => exact h' rfl
def kNV (Q : D → M → Prop) (d : D) (m1 : M) : Prop := match d with | .bl b => Q (.bl (!b)) m1 | _ => False
theorem v_notV (h : t ρ m (fun d m1 => kNV Q d m1) Z) : dNotV t ρ m Q Z := h
theorem v_kNV {b : Bool} (h : Q (.bl (!b)) m) : kNV Q (.bl b) m := h
def kNeg (Q : D → M → Prop) (d : D) (m1 : M) : Prop := match d with | .int i => Q (.int (-i)) m1 | _ => False
theorem v_neg (h : t ρ m (fun d m1 => kNeg Q d m1) Z) : dNeg t ρ m Q Z := h
theorem v_kNeg (h : Q (.int (-i)) m) : kNeg Q (.int i) m := h
/-! calls, sources, comprehensions, loops -/
theorem v_call {sp : DSp M} {dds : List D} (h : ta ρ m (fun ds m1 => sp (ds ++ dds) m1 Q Z) Z) : dCall sp dds ta ρ m Q Z := h
theorem v_call0 {sp : DSp M} (h : sp ds m Q Z) : sp (ds ++ []) m Q Z := by rw [List.append_nil]; exact h
def kSeq (n : Bool) (Q : List D → M → Prop) (d : D) (m1 : M) : Prop := match d with | .lst ds | .tup ds => (n = true → D.nls ds = true) ∧ Q ds m1 | _ => False
theorem v_seq {n : Bool} (h : t ρ m (fun d m1 => kSeq n QL d m1) Z) : dSeq n t ρ m QL Z := by
  refine (?_ : t ρ m _ Z); exact h
theorem v_kSeql {n : Bool} (h : QL (zz xs) m) : kSeq n QL (.lst (zz xs)) m := ⟨fun _ => nls_ints xs, h⟩
theorem v_kSeqt {n : Bool} (h : QL (zz xs) m) : kSeq n QL (.tup (zz xs)) m := ⟨fun _ => nls_ints xs, h⟩
def kR1 (Q : List D → M → Prop) (ds : List D) (m1 : M) : Prop := match ds with | [.int j] => -(2 ^ 62) ≤ j ∧ j < 2 ^ 62 ∧ Q (iota 0 j.toNat) m1 | _ => False
theorem v_rng1 (h : ta ρ m (fun ds m1 => kR1 QL ds m1) Z) : dRng1 ta ρ m QL Z := by
  refine (?_ : ta ρ m _ Z); exact h
theorem v_kR1 (a : -(2 ^ 62) ≤ j) (b : j < 2 ^ 62) (h : QL (iota 0 j.toNat) m) : kR1 QL [.int j] m := ⟨a, b, h⟩
def kR2 (Q : List D → M → Prop) (ds : List D) (m1 : M) : Prop := match ds with | [.int i, .int j] => (-(2 ^ 62) ≤ i ∧ i < 2 ^ 62 ∧ -(2 ^ 62) ≤ j ∧ j < 2 ^ 62) ∧ Q (iota i (j - i).toNat) m1 | _ => False
theorem v_rng2 (h : ta ρ m (fun ds m1 => kR2 QL ds m1) Z) : dRng2 ta ρ m QL Z := by
  refine (?_ : ta ρ m _ Z); exact h
theorem v_kR2 (a : -(2 ^ 62) ≤ i) (b : i < 2 ^ 62) (c : -(2 ^ 62) ≤ j) (e : j < 2 ^ 62) (h : QL (iota i (j - i).toNat) m) : kR2 QL [.int i, .int j] m := ⟨⟨a, b, c, e⟩, h⟩
theorem v_enum {n : Bool} (h : dSeq n t ρ m (fun ds m1 => QL (enumD 0 ds) m1) Z) : dEnum n t ρ m QL Z := h
def kRR (Q : List D → M → Prop) (d : D) (m1 : M) : Prop := match d with | .int j => -(2 ^ 62) ≤ j ∧ j < 2 ^ 62 ∧ Q (iota 0 j.toNat).reverse m1 | _ => False
theorem v_revr (h : t ρ m (fun d m1 => kRR QL d m1) Z) : dRevR t ρ m QL Z := h
theorem v_rev {n : Bool} (h : dSeq n t ρ m (fun ds m1 => QL ds.reverse m1) Z) : dRev n t ρ m QL Z := h
theorem v_gn {i : Nat} {P : En → Prop} (h : P (ρ.set i (.val d))) : dgN i d ρ P := h
theorem v_gt2 {i j : Nat} {P : En → Prop} (h : P ((ρ.set i (.val x)).set j (.val y))) : dgT 2 (dgCons (dgN i) (dgCons (dgN j) dgNil)) (.tup [x, y]) ρ P := ⟨rfl, h⟩
theorem v_gt3 {i j k : Nat} {P : En → Prop} (h : P (((ρ.set i (.val x)).set j (.val y)).set k (.val d))) : dgT 3 (dgCons (dgN i) (dgCons (dgN j) (dgCons (dgN k) dgNil))) (.tup [x, y, d]) ρ P := ⟨rfl, h⟩
theorem v_lc {g : DG} {vs : List Nat} (h : ta ρ m (fun items m1 => lcGo g tt t (wipeD ρ vs) items [] m1 (fun ds m2 => Q (.lst ds) m2)) Z) : dLc ta g tt t vs ρ m Q Z := h
theorem v_while {c : DTT M} (W : Nat → En → M → Prop) (n : Nat) (h : W n ρ m) (st : ∀ n ρ m, W n ρ m → c ρ m (fun b m1 => if b = true then s1 ⟨fun ρ' m' => ∃ n', n' < n ∧ W n' ρ' m', rt, nx, fun ρ' m' => ∃ n', n' < n ∧ W n' ρ' m', ex⟩ ρ m1 else nx ρ m1) ex) : dWhile c s1 ⟨nx, rt, bk, ct, ex⟩ ρ m := ⟨W, ⟨n, h⟩, st⟩
def kFor (g : DG) (s1 : DS M) (E : DE M) (ρ : En) (items : List D) (m1 : M) : Prop := ∃ W : List D → En → M → Prop, W items ρ m1 ∧ (∀ ρ m, W [] ρ m → E.nx ρ m) ∧
  ∀ x r ρ m, W (x :: r) ρ m → g x ρ fun ρ2 => s1 { E with nx := W r, ct := W r, bk := E.nx } ρ2 m
theorem v_for {g : DG} (h : ta ρ m (fun items m1 => kFor g s1 ⟨nx, rt, bk, ct, ex⟩ ρ items m1) ex) : dFor ta g s1 ⟨nx, rt, bk, ct, ex⟩ ρ m := h
/-- items out of a plain list, by what is left -/
theorem v_kforL {α : Type} {inj : α → D} {g : DG} (W : List α → En → M → Prop) (l : List α) (h : W l ρ m) (e : ∀ ρ m, W [] ρ m → nx ρ m) (st : ∀ x r ρ m, W (x :: r) ρ m → g (inj x) ρ fun ρ2 => s1 ⟨fun ρ m => ∃ r', r.map inj = r'.map inj ∧ W r' ρ m, rt, nx, fun ρ m => ∃ r', r.map inj = r'.map inj ∧ W r' ρ m, ex⟩ ρ2 m) :
    kFor g s1 ⟨nx, rt, bk, ct, ex⟩ ρ (l.map inj) m := by
  refine ⟨fun it ρ m => ∃ r', it = r'.map inj ∧ W r' ρ m, ⟨l, rfl, h⟩, fun ρ m h => ?_, fun x r ρ m h => ?_⟩
  · obtain ⟨r', e1, h⟩ := h
    cases r' with
    | nil => exact e ρ m h
    | cons a r' => cases e1
  · obtain ⟨r', e1, h⟩ := h
    cases r' with
    | nil => cases e1
    | cons a r' =>
      rw [List.map_cons] at e1
      cases e1
      exact st a r' ρ m h
/-! statements about lists of one's own -/
theorem v_app {i : Nat} (e : ρ[i]? = some (.own ds)) (h : t ρ m (fun d m' => d.nl = true ∧ ds.length < sizeLine ∧ nx (ρ.set i (.own (ds ++ [d]))) m') ex) : dApp i t ⟨nx, rt, bk, ct, ex⟩ ρ m := by
  unfold dApp; rw [e]; exact h
theorem v_appk {A : Prop} (n : d.nl = true) (l : ds.length < 16777216) (h : A) : d.nl = true ∧ ds.length < sizeLine ∧ A := ⟨n, lt_line l, h⟩
def kSI (ρ : En) (i : Nat) (ds : List D) (nx : En → M → Prop) (d k : D) (m2 : M) : Prop := match k with
    | .int k => (match ixN ds.length k with | some j => d.nl = true ∧ nx (ρ.set i (.own (ds.set j d))) m2 | none => False) | _ => False
theorem v_setI {i : Nat} (e : ρ[i]? = some (.own ds)) (h : t ρ m (fun d m1 => u ρ m1 (fun k m2 => kSI ρ i ds nx d k m2) ex) ex) : dSetI i t u ⟨nx, rt, bk, ct, ex⟩ ρ m := by
  unfold dSetI; rw [e]; exact h
theorem v_kSI {i : Nat} {k : Int} (h0 : 0 ≤ k) (h1 : k < ds.length) (n : d.nl = true) (h : nx (ρ.set i (.own (ds.set k.toNat d))) m) : kSI ρ i ds nx d (.int k) m := by
  unfold kSI; dsimp only; rw [ixN_at h0 h1]; exact ⟨n, h⟩
theorem v_rel {i : Nat} (e : ρ[i]? = some (.own ds)) (h : s1 ⟨nx, rt, bk, ct, ex⟩ (ρ.set i (.val (.lst ds))) m) : dRel i s1 ⟨nx, rt, bk, ct, ex⟩ ρ m := by
  unfold dRel; rw [e]; exact h
theorem v_raise {x : Str} (h : ex x m) : dRaise x ⟨nx, rt, bk, ct, ex⟩ ρ m := h
def kP (ρ : En) (i j : Nat) (nx : En → M → Prop) (ds : List D) (m' : M) : Prop := match ds with | [x, y] => nx ((ρ.set i (.val x)).set j (.val y)) m' | _ => False
theorem v_par {i j : Nat} (h : ta ρ m (fun ds m' => kP ρ i j nx ds m') ex) : dPar i j ta ⟨nx, rt, bk, ct, ex⟩ ρ m := h
theorem v_kP {i j : Nat} (h : nx ((ρ.set i (.val x)).set j (.val y)) m) : kP ρ i j nx [x, y] m := h
theorem v_asg {g : DG} (h : t ρ m (fun d m' => g d ρ fun ρ' => nx ρ' m') ex) : dAsg t g ⟨nx, rt, bk, ct, ex⟩ ρ m := h
theorem v_aug {i : Nat} {f : Int → Int → Int} {a : Int} (e : ρ[i]? = some (.val (.int a))) (h : t ρ m (fun y m' => kOS (fun o m' => match o with | some y => nx (ρ.set i (.val (.int (f a y)))) m' | none => False) y m') ex) : dAug i f t ⟨nx, rt, bk, ct, ex⟩ ρ m := by
  unfold dAug; rw [e]
  exact h
/-! rows given as a list or a tuple -/
def isRow (d : D) (xs : List Int) : Prop := d = .tup (zz xs) ∨ d = .lst (zz xs)
theorem isRow_t : isRow (.tup (zz xs)) xs := .inl rfl
theorem isRow_l : isRow (.lst (zz xs)) xs := .inr rfl
theorem v_lenr (hd : isRow d xs) (h : q (.int xs.length)) : gLen [d] q := by
  rcases hd with rfl | rfl
  · exact v_lentz h
  · exact v_lenlz h
theorem v_ixr {n : Bool} (hd : isRow d xs) (h0 : 0 ≤ i) (h1 : i < xs.length) (h : q (.int (nth xs i))) : gIx n d (.int i) q := by
  rcases hd with rfl | rfl
  · exact v_ixt h0 h1 h
  · exact v_ixl h0 h1 h
def cutZ (xs : List Int) (lo hi : Option Int) : List Int := (xs.drop (HT.sIx xs.length 0 lo)).take (HT.sIx xs.length xs.length hi - HT.sIx xs.length 0 lo)
theorem cutD_zz {l u : Option Int} : cutD (zz xs) l u = zz (cutZ xs l u) := by
  unfold cutD cutZ zz
  rw [List.length_map, List.map_take, List.map_drop]
theorem zz_inj {xs ys : List Int} (h : zz xs = zz ys) : xs = ys := by
  induction xs generalizing ys with
  | nil => cases ys with
    | nil => rfl
    | cons y ys => cases h
  | cons x xs ih => cases ys with
    | nil => cases h
    | cons y ys =>
      obtain ⟨h1, h2⟩ := List.cons.inj h
      cases h1
      rw [ih h2]
theorem cutZ_to {k : Int} (h0 : 0 ≤ k) : cutZ xs none (some k) = xs.take k.toNat := zz_inj (by rw [← cutD_zz, cut_upto h0]; exact (List.map_take ..).symm)
theorem v_kSlr {l u : Option Int} (hd : isRow d xs) (h : ∀ d', isRow d' (cutZ xs l u) → Q d' m) : kSl d l u Q m := by
  rcases hd with rfl | rfl
  · exact ⟨nls_ints xs, h _ (by rw [cutD_zz]; exact isRow_t)⟩
  · exact ⟨nls_ints xs, h _ (by rw [cutD_zz]; exact isRow_l)⟩
theorem v_seqr {mk : List D → D} (hd : isRow d xs) (h : q (mk (zz xs))) : gSeq mk [d] q := by
  rcases hd with rfl | rfl
  · exact v_seqtz h
  · exact v_seqlz h
theorem v_kSeqr {n : Bool} (hd : isRow d xs) (h : QL (zz xs) m) : kSeq n QL d m := by
  rcases hd with rfl | rfl
  · exact v_kSeqt h
  · exact v_kSeql h
/-! comprehensions over whole numbers -/
theorem lc_zz {g : DG} {f : Int → Int} (xs : List Int) (st : ∀ a ∈ xs, ∀ m (k : D → M → Prop) (l : M → Prop), k (.int (f a)) m → g (.int a) ρ fun ρ2 => tt ρ2 m (fun b m1 => if b = true then t ρ2 m1 k (fun _ _ => False) else l m1) (fun _ _ => False))
    (hl : xs.length ≤ 16777216) (h : QL (zz (xs.map f)) m) : lcGo g tt t ρ (zz xs) [] m QL := by
  refine lcGo_map (h := fun a => .int (f a)) xs st (small_line hl) ?_
  rw [show xs.map (fun a => D.int (f a)) = zz (xs.map f) from (List.map_map ..).symm]
  exact h
/-- over range(n) -/
theorem lc_rz {g : DG} {f : Nat → Int} (n : Nat) (st : ∀ a, a < n → ∀ m (k : D → M → Prop) (l : M → Prop), k (.int (f a)) m → g (.int a) ρ fun ρ2 => tt ρ2 m (fun b m1 => if b = true then t ρ2 m1 k (fun _ _ => False) else l m1) (fun _ _ => False))
    (hl : n ≤ 16777216) (h : QL (zz ((List.range n).map f)) m) : lcGo g tt t ρ (iota 0 n) [] m QL := by
  rw [iota_map]
  refine lcGo_map (h := fun a => .int (f a)) (List.range n) (fun a ha => st a (List.mem_range.mp ha)) (small_line (by rw [List.length_range]; exact hl)) ?_
  rw [show (List.range n).map (fun a => D.int (f a)) = zz ((List.range n).map f) from (List.map_map ..).symm]
  exact h
theorem v_kforZ {g : DG} (W : List Int → En → M → Prop) (l : List Int) (h : W l ρ m) (e : ∀ ρ m, W [] ρ m → nx ρ m) (st : ∀ x r ρ m, W (x :: r) ρ m → g (.int x) ρ fun ρ2 => s1 ⟨fun ρ m => W r ρ m, rt, nx, fun ρ m => W r ρ m, ex⟩ ρ2 m) :
    kFor g s1 ⟨nx, rt, bk, ct, ex⟩ ρ (zz l) m := by
  refine ⟨fun it ρ m => ∃ r', it = zz r' ∧ W r' ρ m, ⟨l, rfl, h⟩, fun ρ m h => ?_, fun x r ρ m h => ?_⟩
  · obtain ⟨r', e1, h⟩ := h
    cases r' with
    | nil => exact e ρ m h
    | cons a r' => cases e1
  · obtain ⟨r', e1, h⟩ := h
    cases r' with
    | nil => cases e1
    | cons a r' =>
      cases e1
      have z := st a r' ρ m h
      have f1 : (fun ρ m => ∃ r'', zz r' = zz r'' ∧ W r'' ρ m) = fun ρ m => W r' ρ m := by
        funext ρ m
        refine propext ⟨fun ⟨r'', e, h⟩ => ?_, fun h => ⟨r', rfl, h⟩⟩
        rw [zz_inj e]; exact h
      show g (.int a) ρ fun ρ2 => s1 ⟨fun ρ m => ∃ r'', zz r' = zz r'' ∧ W r'' ρ m, rt, nx, fun ρ m => ∃ r'', zz r' = zz r'' ∧ W r'' ρ m, ex⟩ ρ2 m
      rw [f1]
      exact z
/-- over range(i, i + n), by the number gone -/
theorem v_kforR {g : DG} {i : Int} (n : Nat) (W : Nat → En → M → Prop) (h : W 0 ρ m) (e : ∀ ρ m, W n ρ m → nx ρ m) (st : ∀ k ρ m, k < n → W k ρ m → g (.int (i + k)) ρ fun ρ2 => s1 ⟨fun ρ m => W (k + 1) ρ m, rt, nx, fun ρ m => W (k + 1) ρ m, ex⟩ ρ2 m) :
    kFor g s1 ⟨nx, rt, bk, ct, ex⟩ ρ (iota i n) m := by
  have key : ∀ j, j ≤ n → ∀ it, it = (List.range' j (n - j)).map (fun k : Nat => D.int (i + k)) → True := fun _ _ _ _ => trivial
  refine ⟨fun it ρ m => ∃ j, j ≤ n ∧ it = (List.range' j (n - j)).map (fun k : Nat => D.int (i + k)) ∧ W j ρ m, ⟨0, Nat.zero_le _, ?_, h⟩, fun ρ m h => ?_, fun x r ρ m h => ?_⟩
  · unfold iota; rw [Nat.sub_zero, List.range_eq_range']
  · obtain ⟨j, hj, e1, h⟩ := h
    have : n - j = 0 := by
      have := congrArg List.length e1
      rw [List.length_map, List.length_range'] at this
      exact this.symm
    have : j = n := by omega
    subst this
    exact e ρ m h
  · obtain ⟨j, hj, e1, h⟩ := h
    have hlt : j < n := by
      have := congrArg List.length e1
      rw [List.length_map, List.length_range', List.length_cons] at this
      omega
    obtain ⟨p, hp⟩ : ∃ p, n - j = p + 1 := ⟨n - j - 1, by omega⟩
    rw [hp, List.range'_succ, List.map_cons] at e1
    obtain ⟨e2, e3⟩ := List.cons.inj e1
    subst e2
    have z := st j ρ m hlt h
    have f1 : (fun ρ m => ∃ j', j' ≤ n ∧ r = (List.range' j' (n - j')).map (fun k : Nat => D.int (i + k)) ∧ W j' ρ m) = fun ρ m => W (j + 1) ρ m := by
      funext ρ m
      refine propext ⟨fun ⟨j', h1, h2, h⟩ => ?_, fun h => ⟨j + 1, hlt, by rw [e3, show n - (j + 1) = p by omega], h⟩⟩
      have := congrArg List.length (e3.symm.trans h2)
      rw [List.length_map, List.length_range', List.length_map, List.length_range'] at this
      have : j' = j + 1 := by omega
      subst this
      exact h
    show g _ ρ fun ρ2 => s1 ⟨fun ρ m => ∃ j', j' ≤ n ∧ r = (List.range' j' (n - j')).map (fun k : Nat => D.int (i + k)) ∧ W j' ρ m, rt, nx, fun ρ m => ∃ j', j' ≤ n ∧ r = (List.range' j' (n - j')).map (fun k : Nat => D.int (i + k)) ∧ W j' ρ m, ex⟩ ρ2 m
    rw [f1]
    exact z
theorem v_kforE {g : DG} {i : Nat} (W : Nat → List Int → En → M → Prop) (l : List Int) (h : W i l ρ m) (e : ∀ j ρ m, W j [] ρ m → nx ρ m) (st : ∀ (j : Nat) x r ρ m (N : En → M → Prop), W j (x :: r) ρ m → (∀ ρ m, W (j + 1) r ρ m → N ρ m) → g (.tup [.int j, .int x]) ρ fun ρ2 => s1 ⟨N, rt, nx, N, ex⟩ ρ2 m) :
    kFor g s1 ⟨nx, rt, bk, ct, ex⟩ ρ (enumD i (zz l)) m := by
  refine ⟨fun it ρ m => ∃ j r', it = enumD j (zz r') ∧ W j r' ρ m, ⟨i, l, rfl, h⟩, fun ρ m h => ?_, fun x r ρ m h => ?_⟩
  · obtain ⟨j, r', e1, h⟩ := h
    cases r' with
    | nil => exact e j ρ m h
    | cons a r' => cases e1
  · obtain ⟨j, r', e1, h⟩ := h
    cases r' with
    | nil => cases e1
    | cons a r' =>
      cases e1
      exact st j a r' ρ m _ h fun ρ m h => ⟨_, _, rfl, h⟩
theorem v_kSIz {i : Nat} {k v : Int} (h0 : 0 ≤ k) (h1 : k < xs.length) (h : nx (ρ.set i (.own (zz (xs.set k.toNat v)))) m) : kSI ρ i (zz xs) nx (.int v) (.int k) m := by
  refine v_kSI h0 (by rw [List.length_map]; exact h1) rfl ?_
  rw [show zz (xs.set k.toNat v) = (zz xs).set k.toNat (.int v) from List.map_set ..] at h
  exact h
theorem v_pow (a : 0 ≤ j) (b : j ≤ 1000000) (c : i.natAbs < 2 ^ 64) (h : q (.int (i ^ j.toNat))) : gII CPow (fun i j => .int (i ^ j.toNat)) (.int i) (.int j) q := ⟨⟨a, b, c⟩, h⟩
theorem v_draw {N : Nat} {many : Int} {Q : D → Option Nat → Prop} {Z : Str → Option Nat → Prop} (h0 : 0 < many) (hb : many.natAbs < 2 ^ 250) (h : ∀ x, 0 ≤ x → x < many → Q (.int x) (some N)) : s__law_draw [.hnd hdl, .int many] (some (N + 1)) Q Z := ⟨N, many, rfl, rfl, h0, Nat.lt_of_lt_of_le hb (Nat.pow_le_pow_right (by decide) (by decide)), h⟩
end
end RR

/-! PS: formal series over a commutative ring, a commutative ring -/
namespace RR
structure Ser (K : Type) where
  co : Nat → K
namespace Ser
variable {K : Type}
theorem ext {f g : Ser K} (h : ∀ k, f.co k = g.co k) : f = g := by
  cases f; cases g; congr; funext k; exact h k
def tl (f : Ser K) : Ser K := ⟨fun k => f.co (k + 1)⟩
variable [Lean.Grind.CommRing K]
def mulc : Nat → Ser K → Ser K → K
  | 0, f, g => f.co 0 * g.co 0
  | k + 1, f, g => f.co 0 * g.co (k + 1) + mulc k f.tl g
def add (f g : Ser K) : Ser K := ⟨fun k => f.co k + g.co k⟩
def neg (f : Ser K) : Ser K := ⟨fun k => - f.co k⟩
def mul (f g : Ser K) : Ser K := ⟨fun k => mulc k f g⟩
/-- a number -/
def C (c : K) : Ser K := ⟨fun k => if k = 0 then c else 0⟩
instance : Add (Ser K) := ⟨add⟩
instance : Mul (Ser K) := ⟨mul⟩
instance : Neg (Ser K) := ⟨neg⟩
instance : Sub (Ser K) := ⟨fun f g => add f (neg g)⟩
local instance : NatCast K := Lean.Grind.Semiring.natCast
local instance : IntCast K := Lean.Grind.Ring.intCast
instance (n : Nat) : OfNat (Ser K) n := ⟨C (OfNat.ofNat n)⟩
instance : NatCast (Ser K) := ⟨fun n => C (NatCast.natCast n)⟩
instance : IntCast (Ser K) := ⟨fun n => C (IntCast.intCast n)⟩
def pow (f : Ser K) : Nat → Ser K
  | 0 => C 1
  | n + 1 => mul (pow f n) f
instance : HPow (Ser K) Nat (Ser K) := ⟨pow⟩
instance : SMul Nat (Ser K) := ⟨fun n f => ⟨fun k => n • f.co k⟩⟩
instance : SMul Int (Ser K) := ⟨fun n f => ⟨fun k => n • f.co k⟩⟩
theorem add_co (f g : Ser K) (k : Nat) : (f + g).co k = f.co k + g.co k := rfl
theorem neg_co (f : Ser K) (k : Nat) : (-f).co k = - f.co k := rfl
theorem sub_co (f g : Ser K) (k : Nat) : (f - g).co k = f.co k - g.co k := by show f.co k + - g.co k = _; grind
theorem mul_co (f g : Ser K) (k : Nat) : (f * g).co k = mulc k f g := rfl
theorem C_co (c : K) (k : Nat) : (C c).co k = if k = 0 then c else 0 := rfl
theorem mulc_right : ∀ (k : Nat) (f g : Ser K), mulc (k + 1) f g = f.co (k + 1) * g.co 0 + mulc k f g.tl
  | 0, f, g => by show f.co 0 * g.co 1 + f.co 1 * g.co 0 = f.co 1 * g.co 0 + f.co 0 * g.co 1; grind
  | k + 1, f, g => by
    have := mulc_right k f.tl g
    show f.co 0 * g.co (k + 2) + mulc (k + 1) f.tl g = f.co (k + 2) * g.co 0 + (f.co 0 * g.co (k + 2) + mulc k f.tl g.tl)
    rw [this]
    show _ + (f.co (k + 2) * g.co 0 + _) = _
    grind
theorem mulc_comm : ∀ (k : Nat) (f g : Ser K), mulc k f g = mulc k g f
  | 0, f, g => by show f.co 0 * g.co 0 = g.co 0 * f.co 0; grind
  | k + 1, f, g => by
    rw [mulc_right k g f]
    show f.co 0 * g.co (k + 1) + mulc k f.tl g = _
    rw [mulc_comm k f.tl g]; grind
theorem mulc_add : ∀ (k : Nat) (f g h : Ser K), mulc k (f + g) h = mulc k f h + mulc k g h
  | 0, f, g, h => by show (f.co 0 + g.co 0) * h.co 0 = f.co 0 * h.co 0 + g.co 0 * h.co 0; grind
  | k + 1, f, g, h => by
    show (f.co 0 + g.co 0) * h.co (k + 1) + mulc k (f.tl + g.tl) h = f.co 0 * h.co (k + 1) + mulc k f.tl h + (g.co 0 * h.co (k + 1) + mulc k g.tl h)
    rw [mulc_add k f.tl g.tl h]; grind
theorem mulc_scale : ∀ (k : Nat) (c : K) (f h : Ser K), mulc k ⟨fun j => c * f.co j⟩ h = c * mulc k f h
  | 0, c, f, h => by show c * f.co 0 * h.co 0 = c * (f.co 0 * h.co 0); grind
  | k + 1, c, f, h => by
    show (c * f.co 0) * h.co (k + 1) + mulc k ⟨fun j => c * f.tl.co j⟩ h = c * (f.co 0 * h.co (k + 1) + mulc k f.tl h)
    rw [mulc_scale k c f.tl h]; grind
theorem tl_mul (f g : Ser K) : (f * g).tl = (⟨fun j => f.co 0 * g.tl.co j⟩ : Ser K) + f.tl * g := ext fun k => rfl
theorem mulc_assoc : ∀ (k : Nat) (f g h : Ser K), mulc k (f * g) h = mulc k f (g * h)
  | 0, f, g, h => by show f.co 0 * g.co 0 * h.co 0 = f.co 0 * (g.co 0 * h.co 0); grind
  | k + 1, f, g, h => by
    show (f.co 0 * g.co 0) * h.co (k + 1) + mulc k (f * g).tl h = f.co 0 * mulc (k + 1) g h + mulc k f.tl (g * h)
    rw [tl_mul, mulc_add, mulc_assoc k f.tl g h, mulc_scale k (f.co 0) g.tl h]
    show _ = f.co 0 * (g.co 0 * h.co (k + 1) + mulc k g.tl h) + _
    grind
theorem tl_C (c : K) : (C c).tl = C 0 := ext fun j => by
  show (if j + 1 = 0 then c else 0) = if j = 0 then 0 else 0
  rw [if_neg (by omega)]; split <;> rfl
theorem mulc_zero : ∀ (k : Nat) (g : Ser K), mulc k (C 0) g = 0
  | 0, g => by show (if 0 = 0 then (0 : K) else 0) * g.co 0 = 0; rw [if_pos rfl]; grind
  | k + 1, g => by
    show (if 0 = 0 then (0 : K) else 0) * g.co (k + 1) + mulc k (C 0).tl g = 0
    rw [tl_C, mulc_zero k g, if_pos rfl]; grind
theorem mulc_C (k : Nat) (c : K) (g : Ser K) : mulc k (C c) g = c * g.co k := by
  cases k with
  | zero => rfl
  | succ k =>
    show (if 0 = 0 then c else 0) * g.co (k + 1) + mulc k (C c).tl g = c * g.co (k + 1)
    rw [tl_C, mulc_zero, if_pos rfl]; grind
theorem C_mul_co (c : K) (g : Ser K) (k : Nat) : (C c * g).co k = c * g.co k := mulc_C k c g
instance : Lean.Grind.CommRing (Ser K) where
  add_zero f := ext fun k => by show f.co k + (if k = 0 then (0 : K) else 0) = f.co k; split <;> grind
  add_comm f g := ext fun k => by show f.co k + g.co k = g.co k + f.co k; grind
  add_assoc f g h := ext fun k => by show f.co k + g.co k + h.co k = f.co k + (g.co k + h.co k); grind
  mul_assoc f g h := ext fun k => mulc_assoc k f g h
  mul_one f := ext fun k => by show mulc k f (C 1) = _; rw [mulc_comm, mulc_C]; grind
  one_mul f := ext fun k => by show mulc k (C 1) f = _; rw [mulc_C]; grind
  left_distrib f g h := ext fun k => by show mulc k f (g + h) = mulc k f g + mulc k f h; rw [mulc_comm, mulc_add, mulc_comm k g, mulc_comm k h]
  right_distrib f g h := ext fun k => mulc_add k f g h
  zero_mul f := ext fun k => by show mulc k (C 0) f = _; rw [mulc_C]; show (0 : K) * f.co k = if k = 0 then 0 else 0; split <;> grind
  mul_zero f := ext fun k => by show mulc k f (C 0) = _; rw [mulc_comm, mulc_C]; show (0 : K) * f.co k = if k = 0 then 0 else 0; split <;> grind
  pow_zero f := rfl
  pow_succ f n := rfl
  neg_add_cancel f := ext fun k => by show - f.co k + f.co k = if k = 0 then 0 else 0; split <;> grind
  sub_eq_add_neg f g := rfl
  mul_comm f g := ext fun k => mulc_comm k f g
  nsmul_eq_natCast_mul n f := ext fun k => by show n • f.co k = mulc k (C (NatCast.natCast n)) f; rw [mulc_C]; exact Lean.Grind.Semiring.nsmul_eq_natCast_mul n (f.co k)
  zsmul_natCast_eq_nsmul n f := ext fun k => Lean.Grind.Ring.zsmul_natCast_eq_nsmul n (f.co k)
  ofNat_succ n := ext fun k => by
    show (if k = 0 then (OfNat.ofNat (n + 1) : K) else 0) = (if k = 0 then (OfNat.ofNat n : K) else 0) + (if k = 0 then (1 : K) else 0)
    split
    · exact Lean.Grind.Semiring.ofNat_succ n
    · grind
  ofNat_eq_natCast n := ext fun k => by
    show (if k = 0 then (OfNat.ofNat n : K) else 0) = (if k = 0 then (NatCast.natCast n : K) else 0)
    split
    · exact Lean.Grind.Semiring.ofNat_eq_natCast n
    · rfl
  intCast_ofNat n := ext fun k => by
    show (if k = 0 then (IntCast.intCast (OfNat.ofNat n : Int) : K) else 0) = (if k = 0 then (OfNat.ofNat n : K) else 0)
    split
    · exact Lean.Grind.Ring.intCast_ofNat n
    · rfl
  intCast_neg i := ext fun k => by
    show (if k = 0 then (IntCast.intCast (-i) : K) else 0) = - (if k = 0 then (IntCast.intCast i : K) else 0)
    split
    · exact Lean.Grind.Ring.intCast_neg i
    · grind
  neg_zsmul i f := ext fun k => Lean.Grind.Ring.neg_zsmul i (f.co k)
end Ser
end RR

/-! PG: series: single powers, places, the highest place, quotients and rests -/
namespace RR
section
variable {K : Type} [Lean.Grind.CommRing K]
theorem zero_co (k : Nat) : (0 : Ser K).co k = 0 := by
  show (if k = 0 then (0 : K) else 0) = 0
  split <;> rfl
theorem one_co (k : Nat) : (1 : Ser K).co k = if k = 0 then 1 else 0 := rfl
/-- x to the k -/
def xp (k : Nat) : Ser K := ⟨fun j => if j = k then 1 else 0⟩
theorem xp_co (k j : Nat) : (xp k : Ser K).co j = if j = k then 1 else 0 := rfl
theorem xp0 : (xp 0 : Ser K) = 1 := Ser.ext fun j => rfl
theorem tl_xp (k : Nat) : (xp (k + 1) : Ser K).tl = xp k := Ser.ext fun j => by
  show (if j + 1 = k + 1 then (1 : K) else 0) = if j = k then 1 else 0
  by_cases h : j = k
  · rw [if_pos h, if_pos (by omega)]
  · rw [if_neg h, if_neg (by omega)]
theorem xp_mul_co (k : Nat) (f : Ser K) (j : Nat) : (xp k * f).co j = if k ≤ j then f.co (j - k) else 0 := by
  induction k generalizing j with
  | zero => rw [xp0, Lean.Grind.Semiring.one_mul, if_pos (Nat.zero_le _), Nat.sub_zero]
  | succ k ih =>
    cases j with
    | zero =>
      rw [if_neg (by omega)]
      show (if 0 = k + 1 then (1 : K) else 0) * f.co 0 = 0
      rw [if_neg (by omega)]; grind
    | succ j =>
      show (if 0 = k + 1 then (1 : K) else 0) * f.co (j + 1) + Ser.mulc j (xp (k + 1)).tl f = _
      rw [if_neg (by omega), tl_xp]
      rw [show Ser.mulc j (xp k) f = (xp k * f).co j from rfl, ih]
      by_cases h : k ≤ j
      · rw [if_pos h, if_pos (by omega), show j + 1 - (k + 1) = j - k by omega]; grind
      · rw [if_neg h, if_neg (by omega)]; grind
theorem C_mul (a b : K) : Ser.C (a * b) = Ser.C a * Ser.C b := Ser.ext fun k => by
  rw [Ser.C_mul_co]; simp only [Ser.C_co]; split <;> grind
theorem C_neg (a : K) : Ser.C (-a) = - Ser.C a := Ser.ext fun k => by rw [Ser.neg_co]; simp only [Ser.C_co]; split <;> grind
theorem C_one : Ser.C (1 : K) = 1 := rfl
/-- nought from place n on -/
def far (n : Nat) (f : Ser K) : Prop := ∀ k, n ≤ k → f.co k = 0
theorem far_mono {n m : Nat} {f : Ser K} (h : far n f) (l : n ≤ m) : far m f := fun k hk => h k (Nat.le_trans l hk)
theorem far_sub {n : Nat} {f g : Ser K} (h : far n f) (h' : far n g) : far n (f - g) := fun k hk => by rw [Ser.sub_co, h k hk, h' k hk]; grind
theorem far_neg {n : Nat} {f : Ser K} (h : far n f) : far n (-f) := fun k hk => by rw [Ser.neg_co, h k hk]; grind
theorem far_scale {n : Nat} {c : K} {f : Ser K} (h : far n f) : far n (Ser.C c * f) := fun k hk => by rw [Ser.C_mul_co, h k hk]; grind
theorem far0 {f : Ser K} (h : far 0 f) : f = 0 := Ser.ext fun j => by rw [h j (Nat.zero_le _), zero_co]
theorem mul_far {n k : Nat} {f g : Ser K} (hf : far n f) (hg : far k g) : ∀ j, n + k ≤ j + 1 → (f * g).co j = 0 := by
  induction n generalizing f with
  | zero =>
    intro j _
    rw [far0 hf, Lean.Grind.Semiring.zero_mul, zero_co]
  | succ n ih =>
    intro j hj
    cases j with
    | zero =>
      show f.co 0 * g.co 0 = 0
      rw [hg 0 (by omega)]; grind
    | succ j =>
      show f.co 0 * g.co (j + 1) + (f.tl * g).co j = 0
      rw [ih (f := f.tl) (fun i hi => hf (i + 1) (by omega)) j (by omega), hg _ (by omega)]
      grind
/-- the highest place of a product -/
theorem mul_top {n k : Nat} {f g : Ser K} (hf : far (n + 1) f) (hg : far (k + 1) g) : (f * g).co (n + k) = f.co n * g.co k := by
  induction n generalizing f with
  | zero =>
    cases k with
    | zero => rfl
    | succ k =>
      have e : f.tl = 0 := Ser.ext fun j => by rw [zero_co]; exact hf (j + 1) (by omega)
      rw [Nat.zero_add]
      show f.co 0 * g.co (k + 1) + (f.tl * g).co k = _
      rw [e, Lean.Grind.Semiring.zero_mul, zero_co]; grind
  | succ n ih =>
    rw [show n + 1 + k = (n + k) + 1 by omega]
    show f.co 0 * g.co (n + k + 1) + (f.tl * g).co (n + k) = _
    rw [ih (f := f.tl) (fun i hi => hf (i + 1) (by omega)), hg _ (by omega)]
    show f.co 0 * 0 + f.co (n + 1) * g.co k = _
    grind
/-- f is of degree n -/
def top (n : Nat) (f : Ser K) : Prop := far (n + 1) f ∧ f.co n ≠ 0
theorem top_of {n : Nat} {f : Ser K} (h : far n f) (h0 : f ≠ 0) : ∃ k, k < n ∧ top k f := by
  induction n with
  | zero => exact absurd (far0 h) h0
  | succ n ih =>
    by_cases e : f.co n = 0
    · obtain ⟨k, hk, t⟩ := ih fun j hj => by
        by_cases q : j = n
        · rw [q]; exact e
        · exact h j (by omega)
      exact ⟨k, by omega, t⟩
    · exact ⟨n, by omega, h, e⟩
theorem top_lt {n k : Nat} {f : Ser K} (h : top n f) (h' : far k f) : n < k := by
  refine Nat.lt_of_not_le fun l => h.2 (h' n l)
/-- no divisors of nought -/
def Dom (K : Type) [Lean.Grind.CommRing K] : Prop := ∀ a b : K, a * b = 0 → a = 0 ∨ b = 0
theorem top_mul (D : Dom K) {n k : Nat} {f g : Ser K} (h : top n f) (h' : top k g) : top (n + k) (f * g) :=
  ⟨fun j hj => mul_far h.1 h'.1 j (by omega), fun e => by
    rw [mul_top h.1 h'.1] at e
    exact (D _ _ e).elim h.2 h'.2⟩
/-- quotient and rest are the only ones -/
theorem div_uniq (D : Dom K) {n N : Nat} {g q q' r r' : Ser K} (hg : top n g) (hq : far N q) (hq' : far N q') (hr : far n r) (hr' : far n r') (e : q * g + r = q' * g + r') : q = q' ∧ r = r' := by
  have e1 : (q - q') * g = r' - r := by grind
  have e2 : q - q' = 0 := by
    refine Classical.byContradiction fun z => ?_
    obtain ⟨k, _, t⟩ := top_of (far_sub hq hq') z
    have := top_lt (top_mul D t hg) (f := (q - q') * g) (by rw [e1]; exact far_sub hr' hr)
    omega
  have e3 : q = q' := by grind
  subst e3
  exact ⟨rfl, by grind⟩
end
theorem dom_int : Dom Int := fun a b h => Int.mul_eq_zero.mp h
end RR

/-! MA: rows as series; lowest terms -/
namespace RR
open PySem PySem.Spec PyProof.Rows L2
/-! ### rows as series -/
def ser (xs : List Int) : Ser Int := ⟨fun k => xs.getD k 0⟩
theorem ser_co (xs : List Int) (k : Nat) : (ser xs).co k = xs.getD k 0 := rfl
theorem ser_nil : ser [] = 0 := Ser.ext fun k => by
  show (0 : Int) = if k = 0 then ((0 : Nat) : Int) else 0
  split <;> rfl
theorem getD_snoc (xs : List Int) (a : Int) (k : Nat) : (xs ++ [a]).getD k 0 = if k = xs.length then a else xs.getD k 0 := by
  simp only [List.getD_eq_getElem?_getD, List.getElem?_append]
  by_cases h : k < xs.length
  · rw [if_pos h, if_neg (by omega)]
  · rw [if_neg h]
    by_cases e : k = xs.length
    · subst e; simp
    · rw [if_neg e, List.getElem?_eq_none (l := xs) (by omega), List.getElem?_eq_none (by simp; omega)]
theorem getD_far {xs : List Int} {k : Nat} (h : xs.length ≤ k) : xs.getD k 0 = 0 := by
  rw [List.getD_eq_getElem?_getD, List.getElem?_eq_none h]; rfl
theorem ser_strip (xs : List Int) : ser (strip xs) = ser xs := by
  refine Ser.ext fun k => ?_
  show (strip xs).getD k 0 = xs.getD k 0
  induction xs using strip_ind with
  | h0 => rfl
  | h1 xs a ih =>
    rw [strip_snoc]
    by_cases h : a = 0
    · rw [if_pos h, ih, getD_snoc, h]
      split
      · rename_i e; exact getD_far (Nat.le_of_eq e.symm)
      · rfl
    · rw [if_neg h]
theorem done_last {xs : List Int} (h : done xs) (n : xs ≠ []) : xs.getD (xs.length - 1) 0 ≠ 0 := by
  induction xs using strip_ind with
  | h0 => exact absurd rfl n
  | h1 xs a _ =>
    intro z
    rw [List.length_append, List.length_singleton, Nat.add_sub_cancel, getD_snoc, if_pos rfl] at z
    unfold done at h
    rw [strip_snoc, if_pos z] at h
    have := congrArg List.length h
    have := strip_len xs
    rw [List.length_append, List.length_singleton] at *
    omega
theorem done_uniq {xs ys : List Int} (hx : done xs) (hy : done ys) (h : ser xs = ser ys) : xs = ys := by
  have co : ∀ k, xs.getD k 0 = ys.getD k 0 := fun k => congrArg (fun f => Ser.co f k) h
  have le : ∀ {xs ys : List Int}, done xs → (∀ k, xs.getD k 0 = ys.getD k 0) → xs.length ≤ ys.length := fun {xs ys} hx co => by
    refine Nat.le_of_not_lt fun lt => ?_
    have n : xs ≠ [] := fun z => by rw [z] at lt; simp at lt
    exact done_last hx n (by rw [co, getD_far (by omega)])
  have el : xs.length = ys.length := Nat.le_antisymm (le hx co) (le hy fun k => (co k).symm)
  refine List.ext_getElem el fun i h1 h2 => ?_
  have := co i
  rwa [List.getD_eq_getElem?_getD, List.getD_eq_getElem?_getD, List.getElem?_eq_getElem h1, List.getElem?_eq_getElem h2] at this
theorem bd0 {n : Nat} : bd n 0 := by unfold bd; exact Nat.pow_pos (by decide)
/-! the operations, list by list -/
def padTo (n : Nat) (xs : List Int) : List Int := xs ++ List.replicate (n - xs.length) 0
theorem pad_len {n : Nat} {xs : List Int} (h : xs.length ≤ n) : (padTo n xs).length = n := by unfold padTo; rw [List.length_append, List.length_replicate]; omega
theorem pad_co {n : Nat} {xs : List Int} (k : Nat) : (padTo n xs).getD k 0 = xs.getD k 0 := by
  unfold padTo
  simp only [List.getD_eq_getElem?_getD, List.getElem?_append]
  by_cases h : k < xs.length
  · rw [if_pos h]
  · rw [if_neg h, List.getElem?_eq_none (l := xs) (by omega), List.getElem?_replicate]
    split <;> rfl
theorem zip_co {g : Int → Int → Int} (h0 : g 0 0 = 0) {xs ys : List Int} (hl : xs.length = ys.length) (k : Nat) : (List.zipWith g xs ys).getD k 0 = g (xs.getD k 0) (ys.getD k 0) := by
  simp only [List.getD_eq_getElem?_getD]
  rw [List.getElem?_zipWith]
  by_cases h : k < xs.length
  · rw [List.getElem?_eq_getElem h, List.getElem?_eq_getElem (hl ▸ h)]; rfl
  · rw [List.getElem?_eq_none (Nat.le_of_not_lt h), List.getElem?_eq_none (by omega)]
    exact h0.symm
theorem map_co {g : Int → Int} (h0 : g 0 = 0) (xs : List Int) (k : Nat) : (xs.map g).getD k 0 = g (xs.getD k 0) := by
  simp only [List.getD_eq_getElem?_getD, List.getElem?_map]
  cases xs[k]? with
  | none => exact h0.symm
  | some x => rfl
theorem ser_scale (c : Int) (xs : List Int) : ser (xs.map fun x => c * x) = Ser.C c * ser xs := Ser.ext fun k => by rw [ser_co, map_co (by simp), Ser.C_mul_co]; rfl
theorem ser_cons (a : Int) (xs : List Int) : ser (a :: xs) = Ser.C a + xp 1 * ser xs := Ser.ext fun k => by
  rw [Ser.add_co, xp_mul_co]
  cases k with
  | zero => simp [ser, Ser.C]
  | succ k => simp [ser, Ser.C]
theorem C_cancel {c : Int} {f g : Ser Int} (hc : c ≠ 0) (h : Ser.C c * f = Ser.C c * g) : f = g := Ser.ext fun k => by
  have := congrArg (fun f => Ser.co f k) h
  simp only [Ser.C_mul_co] at this
  exact Int.eq_of_mul_eq_mul_left hc this
/-! ### rows by their series, their sizes apart -/
structure R (f : Ser Int) (r : List Int) : Prop where
  dn : done r
  sr : ser r = f
/-- below n places, of at most a bits -/
structure B (n a : Nat) (f : Ser Int) : Prop where
  far : ∀ k, n ≤ k → f.co k = 0
  bd : ∀ k, RR.bd a (f.co k)
theorem R.uniq {f : Ser Int} {r r' : List Int} (h : R f r) (h' : R f r') : r = r' := done_uniq h.dn h'.dn (h.sr.trans h'.sr.symm)
theorem R.of {f : Ser Int} {xs : List Int} (e : ser xs = f) : R f (strip xs) := ⟨strip_done xs, (ser_strip xs).trans e⟩
theorem R.cong {f g : Ser Int} {r : List Int} (h : R f r) (e : f = g) : R g r := e ▸ h
theorem R.nil : R 0 [] := ⟨rfl, ser_nil⟩
theorem R.get {f : Ser Int} {r : List Int} (h : R f r) (k : Nat) : r.getD k 0 = f.co k := by rw [← h.sr]; rfl
theorem R.zero {f : Ser Int} {r : List Int} (h : R f r) : r = [] ↔ f = 0 := ⟨fun e => by rw [← h.sr, e, ser_nil], fun e => done_uniq h.dn rfl (by rw [h.sr, e, ser_nil])⟩
theorem R.len {n a : Nat} {f : Ser Int} {r : List Int} (h : R f r) (b : B n a f) : r.length ≤ n := by
  refine Nat.le_of_not_lt fun lt => ?_
  have n0 : r ≠ [] := fun z => by rw [z] at lt; simp at lt
  exact done_last h.dn n0 (by rw [h.get, b.far _ (by omega)])
theorem R.bds {n a : Nat} {f : Ser Int} {r : List Int} (h : R f r) (b : B n a f) : ∀ x ∈ r, RR.bd a x := fun x hx => by
  obtain ⟨i, hi, rfl⟩ := List.mem_iff_getElem.mp hx
  have := b.bd i
  rw [← h.get, List.getD_eq_getElem?_getD, List.getElem?_eq_getElem hi] at this
  exact this
theorem R.far {f : Ser Int} {r : List Int} (h : R f r) {k : Nat} (hk : r.length ≤ k) : f.co k = 0 := by rw [← h.get, getD_far hk]
theorem R.last {f : Ser Int} {r : List Int} (h : R f r) (n : r ≠ []) : f.co (r.length - 1) ≠ 0 := by rw [← h.get]; exact done_last h.dn n
theorem B.of {n a : Nat} {xs : List Int} (hl : xs.length ≤ n) (hb : ∀ x ∈ xs, RR.bd a x) : B n a (ser xs) := ⟨fun k hk => by rw [ser_co, getD_far (by omega)], fun k => by
  rw [ser_co]
  by_cases hk : k < xs.length
  · rw [List.getD_eq_getElem?_getD, List.getElem?_eq_getElem hk]; exact hb _ (List.getElem_mem hk)
  · rw [getD_far (by omega)]; exact bd0⟩
theorem B.mono {n a n' a' : Nat} {f : Ser Int} (h : B n a f) (hn : n ≤ n') (ha : a ≤ a') : B n' a' f := ⟨fun k hk => h.far k (by omega), fun k => bd_mono (h.bd k) ha⟩
theorem B.cong {n a : Nat} {f g : Ser Int} (h : B n a f) (e : f = g) : B n a g := e ▸ h
theorem B.zero {n a : Nat} : B n a 0 := ⟨fun k _ => zero_co k, fun k => by rw [zero_co]; exact bd0⟩
theorem B.add {n a k b : Nat} {f g : Ser Int} (h : B n a f) (h' : B k b g) : B (max n k) (max a b + 1) (f + g) := ⟨fun j hj => by rw [Ser.add_co, h.far j (by omega), h'.far j (by omega)]; rfl, fun j => by rw [Ser.add_co]; exact bd_add (h.bd j) (h'.bd j)⟩
theorem B.add' {n a : Nat} {f g : Ser Int} (h : B n a f) (h' : B n a g) : B n (a + 1) (f + g) := by
  have := h.add h'
  rwa [Nat.max_self, Nat.max_self] at this
theorem B.neg {n a : Nat} {f : Ser Int} (h : B n a f) : B n a (-f) := ⟨fun j hj => by rw [Ser.neg_co, h.far j hj]; rfl, fun j => by rw [Ser.neg_co]; exact bd_neg (h.bd j)⟩
theorem B.sub' {n a : Nat} {f g : Ser Int} (h : B n a f) (h' : B n a g) : B n (a + 1) (f - g) := by
  rw [Lean.Grind.Ring.sub_eq_add_neg]; exact h.add' h'.neg
theorem B.scale {n a c : Nat} {q : Int} {f : Ser Int} (hq : RR.bd c q) (h : B n a f) : B n (c + a) (Ser.C q * f) := ⟨fun j hj => by rw [Ser.C_mul_co, h.far j hj, Int.mul_zero], fun j => by rw [Ser.C_mul_co]; exact bd_mul hq (h.bd j)⟩
theorem B.shift {n a k : Nat} {f : Ser Int} (h : B n a f) : B (k + n) a (xp k * f) := ⟨fun j hj => by
  rw [xp_mul_co]; split
  · exact h.far _ (by omega)
  · rfl, fun j => by
  rw [xp_mul_co]; split
  · exact h.bd _
  · exact bd0⟩
theorem B.xp {k : Nat} : B (k + 1) 1 (RR.xp k : Ser Int) := ⟨fun j hj => by rw [xp_co, if_neg (by omega)], fun j => by rw [xp_co]; split <;> (unfold RR.bd; decide)⟩
theorem B.C {a : Nat} {c : Int} (h : RR.bd a c) : B 1 a (Ser.C c) := ⟨fun j hj => by rw [Ser.C_co, if_neg (by omega)], fun j => by
  rw [Ser.C_co]; split
  · exact h
  · exact bd0⟩
theorem mulc_le {a b : Nat} : ∀ (k n : Nat) (f g : Ser Int), (∀ j, n ≤ j → f.co j = 0) → (∀ j, (f.co j).natAbs ≤ 2 ^ a) → (∀ j, (g.co j).natAbs ≤ 2 ^ b) → (Ser.mulc k f g).natAbs ≤ n * 2 ^ (a + b)
  | k, 0, f, g, hf, ha, hb => by
    have e : f = 0 := Ser.ext fun j => by rw [hf j (Nat.zero_le _), zero_co]
    rw [e, show Ser.mulc k 0 g = 0 from Ser.mulc_zero k g]
    simp
  | 0, n + 1, f, g, hf, ha, hb => by
    show (f.co 0 * g.co 0).natAbs ≤ _
    rw [Int.natAbs_mul, Nat.pow_add]
    have := Nat.mul_le_mul (ha 0) (hb 0)
    rw [Nat.succ_mul]; omega
  | k + 1, n + 1, f, g, hf, ha, hb => by
    show (f.co 0 * g.co (k + 1) + Ser.mulc k f.tl g).natAbs ≤ _
    have h1 := mulc_le k n f.tl g (fun j hj => hf (j + 1) (by omega)) (fun j => ha (j + 1)) hb
    have h2 : (f.co 0 * g.co (k + 1)).natAbs ≤ 2 ^ (a + b) := by
      rw [Int.natAbs_mul, Nat.pow_add]; exact Nat.mul_le_mul (ha 0) (hb (k + 1))
    rw [Nat.succ_mul]; omega
theorem B.mul {n a k b : Nat} {f g : Ser Int} (h : B n a f) (h' : B k b g) : B (n + k) (a + b + n) (f * g) := ⟨fun j hj => mul_far h.far h'.far j (by omega), fun j => by
  have ha : ∀ j, (f.co j).natAbs ≤ 2 ^ a := fun j => Nat.le_of_lt (h.bd j)
  have hb : ∀ j, (g.co j).natAbs ≤ 2 ^ b := fun j => Nat.le_of_lt (h'.bd j)
  cases n with
  | zero =>
    have e : f = 0 := Ser.ext fun j => by rw [h.far j (Nat.zero_le _), zero_co]
    rw [e, Lean.Grind.Semiring.zero_mul, zero_co]; exact bd0
  | succ n =>
    have := mulc_le j (n + 1) f g h.far ha hb
    rw [Ser.mul_co]
    unfold RR.bd
    refine Nat.lt_of_le_of_lt this ?_
    rw [Nat.pow_add 2 (a + b), Nat.mul_comm]
    exact Nat.mul_lt_mul_of_pos_left (Nat.lt_two_pow_self) (Nat.pow_pos (by decide))⟩
end RR

/-! RS2: more rules for stepping -/
namespace RR
open PySem PySem.Spec PyProof.Rows L2
section
variable {M : Type} {ρ : En} {m : M} {Q : D → M → Prop} {QL : List D → M → Prop} {QB : Bool → M → Prop} {Z ex : Str → M → Prop} {nx bk ct : En → M → Prop} {rt : D → M → Prop} {t u w : DT M} {ta : DTA M} {tt tu : DTT M} {s1 s2 : DS M} {q : D → Prop} {i j : Int} {d x y : D} {xs ys : List Int} {ds es : List D}
/-! places of written tuples -/
theorem v_ix0 (h : q x) : gIx false (.tup (x :: ds)) (.int 0) q := by
  unfold gIx; dsimp only
  rw [show atI (x :: ds) 0 = some x from by unfold atI ixN; rw [if_pos (by decide), if_pos (by rw [List.length_cons]; omega)]; rfl]
  exact ⟨(fun z => nomatch z), h⟩
theorem v_ix1 (h : q y) : gIx false (.tup (x :: y :: ds)) (.int 1) q := by
  unfold gIx; dsimp only
  rw [show atI (x :: y :: ds) 1 = some y from by unfold atI ixN; rw [if_pos (by decide), if_pos (by rw [List.length_cons, List.length_cons]; omega)]; rfl]
  exact ⟨(fun z => nomatch z), h⟩
theorem v_ix2 {z : D} (h : q z) : gIx false (.tup (x :: y :: z :: ds)) (.int 2) q := by
  unfold gIx; dsimp only
  rw [show atI (x :: y :: z :: ds) 2 = some z from by unfold atI ixN; rw [if_pos (by decide), if_pos (by simp only [List.length_cons]; omega)]; rfl]
  exact ⟨(fun z => nomatch z), h⟩
/-! products, quotients of what is known to be small -/
theorem v_mulb {a b : Nat} (ha : bd a i) (hb : bd b j) (l : a + b ≤ 100000000) (h : q (.int (i * j))) : gMul (.int i) (.int j) q := v_mul (mulok ha hb l) h
theorem v_fdivb {b : Nat} (h0 : j ≠ 0) (hb : bd b j) (l : b ≤ 9000) (h : q (.int (i.fdiv j))) : gII Nd (fun i j => .int (i.fdiv j)) (.int i) (.int j) q := v_gII (nd_small h0 hb l) h
/-- no number of more than 13400 bits comes by another way of dividing -/
theorem nd_big {i j : Int} (h : j ≠ 0) (hi : bd 13400 i) : Nd i j := by
  refine ⟨h, ?_⟩
  have e : Builtin.divisionGoesByPylong i j = (decide ((if j == 0 then 0 else j.natAbs.log2 / 30 + 1) > 300) && decide ((if i == 0 then 0 else i.natAbs.log2 / 30 + 1) > (if j == 0 then 0 else j.natAbs.log2 / 30 + 1) + 150)) := rfl
  rw [e]
  by_cases i0 : i = 0
  · subst i0
    rw [if_pos (by rfl : ((0 : Int) == 0) = true)]
    rw [Bool.and_eq_false_iff]
    exact .inr (decide_eq_false (by omega))
  · have hl := (Nat.log2_lt (show i.natAbs ≠ 0 by omega)).mpr hi
    have h2 : (if i == 0 then 0 else i.natAbs.log2 / 30 + 1) ≤ 447 := by split <;> omega
    rw [Bool.and_eq_false_iff]
    by_cases q : (if j == 0 then 0 else j.natAbs.log2 / 30 + 1) > 300
    · exact .inr (decide_eq_false (by omega))
    · exact .inl (decide_eq_false q)
theorem v_fdivs (h0 : j ≠ 0) (hb : bd 9000 j ∨ bd 13400 i) (h : q (.int (i.fdiv j))) : gII Nd (fun i j => .int (i.fdiv j)) (.int i) (.int j) q := v_gII (hb.elim (fun hb => nd_small h0 hb (Nat.le_refl _)) fun hb => nd_big h0 hb) h
/-- rows and what they are divided by, little enough -/
def Sm (xs : List Int) (d : Int) : Prop := bd 9000 d ∨ (bd 13400 d ∧ ∀ x ∈ xs, bd 13400 x)
theorem Sm.of {xs : List Int} {d : Int} {k j : Nat} (h : bd k d) (hx : ∀ x ∈ xs, bd j x) (l : k ≤ 9000 ∨ (k ≤ 13400 ∧ j ≤ 13400)) : Sm xs d := by
  rcases l with l | ⟨l, l'⟩
  · exact .inl (bd_mono h l)
  · exact .inr ⟨bd_mono h l, fun x m => bd_mono (hx x m) l'⟩
theorem Sm.le {xs : List Int} {d e : Int} (h : Sm xs d) (l : ∀ k, bd k d → bd k e) : (∀ x ∈ d :: xs, bd 9000 e ∨ bd 13400 x) := fun x hx => by
  rcases h with h | ⟨h, h'⟩
  · exact .inl (l _ h)
  · rcases List.mem_cons.mp hx with rfl | hx
    · exact .inr h
    · exact .inr (h' x hx)
/-- [v] * k -/
theorem v_repl1 {v : Int} {k : Int} (h1 : k ≤ 16777216) (hm : -16777216 ≤ k) (h : q (.lst (zz (List.replicate k.toNat v)))) : gMul (.lst [.int v]) (.int k) q := by
  by_cases h0 : 0 ≤ k
  · refine v_repl h0 (by simp; omega) (by omega) rfl ?_
    unfold rep
    rw [show (List.replicate k.toNat [D.int v]).flatten = zz (List.replicate k.toNat v) from by
      simp only [zz, List.map_replicate]
      induction k.toNat with
      | zero => rfl
      | succ n ih => rw [List.replicate_succ, List.replicate_succ, List.flatten_cons, ih]; rfl]
    exact h
  · refine ⟨by omega, by omega, small_line (by rw [show k.toNat = 0 by omega]; simp), rfl, ?_⟩
    unfold rep
    rw [show k.toNat = 0 by omega] at h ⊢
    exact h
theorem zz_app : zz xs ++ zz ys = zz (xs ++ ys) := (List.map_append ..).symm
theorem v_addlz (a : xs.length + ys.length ≤ 16777216) (h : q (.lst (zz (xs ++ ys)))) : gAdd (.lst (zz xs)) (.lst (zz ys)) q := by
  refine v_addl (by simpa using a) (nls_ints _) (nls_ints _) ?_
  rw [zz_app]; exact h
/-- x[k] += v of a list of whole numbers -/
def kAI (ρ : En) (i : Nat) (f : Int → Int → Int) (ds : List D) (nx : En → M → Prop) (te : DT M) (ex : Str → M → Prop) (k : D) (m1 : M) : Prop := match k with
    | .int k => (match ixN ds.length k with
      | some j => (match ds[j]? with
        | some (.int x) => te ρ m1 (fun d m2 => match d with | .int y => nx (ρ.set i (.own (ds.set j (.int (f x y))))) m2 | _ => False) ex
        | _ => False)
      | none => False)
    | _ => False
theorem v_augI {i : Nat} {f : Int → Int → Int} (e : ρ[i]? = some (.own ds)) (h : t ρ m (fun k m1 => kAI ρ i f ds nx u ex k m1) ex) : dAugI i f t u ⟨nx, rt, bk, ct, ex⟩ ρ m := by
  unfold dAugI; rw [e]; exact h
/-! sources -/
def kZip (n : Bool) (Q : List D → M → Prop) (x y : D) (m2 : M) : Prop := match x, y with
  | .lst xs, .lst ys | .tup xs, .tup ys => (n = true → D.nls xs = true ∧ D.nls ys = true) ∧ Q (zipD xs ys) m2
  | _, _ => False
theorem v_zip {n : Bool} (h : t ρ m (fun x m1 => u ρ m1 (fun y m2 => kZip n QL x y m2) Z) Z) : dZip n t u ρ m QL Z := by
  refine (?_ : t ρ m _ Z); exact h
abbrev pr2 (p : Int × Int) : D := .tup [.int p.1, .int p.2]
theorem zipD_zz : ∀ {xs ys : List Int}, zipD (zz xs) (zz ys) = (List.zip xs ys).map pr2
  | [], _ => by simp [zipD]
  | _ :: _, [] => by simp [zipD]
  | x :: xs, y :: ys => by
    show D.tup [.int x, .int y] :: zipD (zz xs) (zz ys) = _
    rw [zipD_zz, List.zip_cons_cons, List.map_cons]
theorem v_kZl {n : Bool} (h : QL ((List.zip xs ys).map pr2) m) : kZip n QL (.lst (zz xs)) (.lst (zz ys)) m := ⟨fun _ => ⟨nls_ints _, nls_ints _⟩, by rw [zipD_zz]; exact h⟩
theorem v_kZt {n : Bool} (h : QL ((List.zip xs ys).map pr2) m) : kZip n QL (.tup (zz xs)) (.tup (zz ys)) m := ⟨fun _ => ⟨nls_ints _, nls_ints _⟩, by rw [zipD_zz]; exact h⟩
/-- numbers out of pairs of numbers -/
theorem lc_zip {g : DG} {f : Int → Int → Int} (st : ∀ a ∈ xs, ∀ b ∈ ys, ∀ m (k : D → M → Prop) (l : M → Prop), k (.int (f a b)) m → g (.tup [.int a, .int b]) ρ fun ρ2 => tt ρ2 m (fun b m1 => if b = true then t ρ2 m1 k (fun _ _ => False) else l m1) (fun _ _ => False))
    (hl : xs.length ≤ 16777216) (q : QL (zz (List.zipWith f xs ys)) m) : lcGo g tt t ρ ((List.zip xs ys).map pr2) [] m QL := by
  refine lcGo_map (h := fun p => .int (f p.1 p.2)) (List.zip xs ys) (fun p hp m k l hk => ?_) (small_line (by rw [List.length_zip]; omega)) ?_
  · obtain ⟨h1, h2⟩ := List.of_mem_zip (show (p.1, p.2) ∈ _ from hp)
    exact st _ h1 _ h2 m k l hk
  · rw [show (List.zip xs ys).map (fun p => D.int (f p.1 p.2)) = zz (List.zipWith f xs ys) from by
      rw [List.zip, List.map_zipWith]
      exact (List.map_zipWith ..).symm]
    exact q
theorem zz_rev : (zz xs).reverse = zz xs.reverse := (List.map_reverse ..).symm
/-! try, texts, truths -/
theorem v_try {es : List Str} {i j : Nat} (h : s1 ⟨nx, fun _ _ => False, fun _ _ => False, fun _ _ => False, fun x m' => x ∈ es ∧ nx (((ρ.set i .un).set j (.val (.exc x))).set i .un) m'⟩ ρ m) : dTry es i j s1 ⟨nx, rt, bk, ct, ex⟩ ρ m := h
def kIE (bs : List (Str × Bool)) (Q : D → M → Prop) (d : D) (m1 : M) : Prop := match d with | .exc x => (match bs.lookup x with | some b => Q (.bl b) m1 | none => False) | _ => False
theorem v_isE {bs : List (Str × Bool)} (h : t ρ m (fun d m1 => kIE bs Q d m1) Z) : dIsE bs t ρ m Q Z := h
theorem v_kIE {bs : List (Str × Bool)} {x : Str} {b : Bool} (e : bs.lookup x = some b) (h : Q (.bl b) m) : kIE bs Q (.exc x) m := by unfold kIE; dsimp only; rw [e]; exact h
theorem v_isB {a b : Bool} (h : q (.bl (decide (a = b)))) : gIsB (.bl a) (.bl b) q := h
theorem v_notB {a b : Bool} (h : q (.bl (!decide (a = b)))) : gNotB (.bl a) (.bl b) q := h
theorem v_all {bs : List Bool} (h : q (.bl (bs.all id))) : gAll [.lst (bs.map D.bl)] q := ⟨bs, rfl, h⟩
theorem v_addS (a : ds.length + es.length ≤ 16777216) (h : q (.lst (ds ++ es))) : gAddS (.lst ds) (.lst es) q := ⟨small_line a, h⟩
/-- x[::-1] -/
def kRv (Q : D → M → Prop) (x : D) (m1 : M) : Prop := match x with
  | .lst ds => D.nls ds = true ∧ Q (.lst ds.reverse) m1
  | .tup ds => D.nls ds = true ∧ Q (.tup ds.reverse) m1
  | _ => False
theorem v_rvs (h : t ρ m (fun x m1 => kRv Q x m1) Z) : dRvs t ρ m Q Z := h
theorem v_kRvl (h : Q (.lst (zz xs.reverse)) m) : kRv Q (.lst (zz xs)) m := ⟨nls_ints xs, by rw [zz_rev]; exact h⟩
theorem v_kRvt (h : Q (.tup (zz xs.reverse)) m) : kRv Q (.tup (zz xs)) m := ⟨nls_ints xs, by rw [zz_rev]; exact h⟩
theorem v_par3 {i j l : Nat} (h : ta ρ m (fun ds m' => match ds with | [x, y, z] => nx (((ρ.set i (.val x)).set j (.val y)).set l (.val z)) m' | _ => False) ex) : dPar3 i j l ta ⟨nx, rt, bk, ct, ex⟩ ρ m := h
theorem v_nes {x y : Str} (h : q (.bl (!decide (x = y)))) : gNe (.str x) (.str y) q := .inr ⟨_, _, rfl, rfl, h⟩
theorem v_eqs {x y : Str} (h : q (.bl (decide (x = y)))) : gEq (.str x) (.str y) q := .inr ⟨_, _, rfl, rfl, h⟩
theorem v_ifnT {A E : Prop} (h : E) : if (!true) = true then A else E := h
theorem v_ifnF {A E : Prop} (h : A) : if (!false) = true then A else E := h
end
end RR

/-! VD: what the drawing state's two plain functions compute -/
namespace RR
open PySem PySem.Spec PyProof.Rows L2
local macro_rules | `(tactic| walk_at "bd") => `(tactic| first | assumption | exact bd_lit (by decide) | (with_reducible refine bd_mul ?_ ?_ <;> walk_at "bd") | (with_reducible refine bd_add ?_ ?_ <;> walk_at "bd") | (with_reducible refine bd_sub ?_ ?_ <;> walk_at "bd") | (with_reducible refine bd_neg ?_ <;> walk_at "bd"))
local macro_rules | `(tactic| walk_at "s") => `(tactic| with_reducible first
  | refine v_then ?_ | refine v_set ?_ | (apply v_var; · with_unfolding_all exact rfl) | refine v_bin ?_ | refine v_c ?_ | refine v_g0 ?_ | refine v_add ?_ | refine v_cons ?_ | refine v_nil ?_ | refine v_call ?_ | refine v_dB ?_ | refine v_next ?_ | refine v_ret ?_
  | refine v_ite ?_ | refine v_tst ?_ | refine v_kT ?_ | refine v_eqi ?_ | refine v_nei ?_ | refine v_eqr ?_ | refine v_ner ?_ | refine v_eqr0 ?_ | refine v_ner0 ?_ | refine v_eql ?_ | refine v_nel ?_ | refine v_eql0 ?_ | refine v_nel0 ?_ | refine v_isN ?_ | refine v_notN ?_
  | (apply v_bor; · with_unfolding_all exact rfl) | (apply v_own; · with_unfolding_all exact rfl) | refine v_tup ?_ | refine v_lst ?_ | (refine v_sz ?_ ?_; (· with_unfolding_all exact Nat.le_of_ble_eq_true rfl)) | (refine v_gIIz ?_ ?_; (· first | decide | omega))
  | refine v_lentz ?_ | refine v_lenlz ?_ | refine v_lent ?_ | refine v_lenl ?_ | refine v_I1 ?_ | refine v_I2 ?_ | refine v_int ?_ | refine v_seqlz ?_ | refine v_seqtz ?_ | refine v_sl ?_ | refine v_kSll ?_ | refine v_kSlt ?_ | refine v_ono ?_ | refine v_oso ?_ | refine v_kOS ?_
  | refine v_val ?_ | refine v_kVb ?_ | refine v_kVi ?_ | refine v_kVt ?_ | refine v_kVl ?_ | refine v_and ?_ | refine v_or ?_ | refine v_not ?_ | refine v_yes ?_ | refine v_if' ?_ | refine v_isi ?_ | refine v_kIii ?_ | refine v_kIib ?_ | refine v_kItt ?_
  | refine v_andV ?_ | refine v_orV ?_ | refine v_notV ?_ | refine v_kNV ?_ | refine v_neg ?_ | refine v_kNeg ?_ | refine v_seq ?_ | refine v_kSeql ?_ | refine v_kSeqt ?_ | refine v_rng1 ?_ | refine v_rng2 ?_ | refine v_enum ?_ | refine v_revr ?_ | refine v_rev ?_
  | (refine v_kR1 ?_ ?_ ?_; (· decide); (· decide))
  | (refine v_kR2 ?_ ?_ ?_ ?_ ?_; (· decide); (· decide); (· decide); (· decide))
  | refine v_gn ?_ | refine v_gt2 ?_ | refine v_gt3 ?_ | refine v_lc ?_ | refine v_for ?_ | refine v_setO ?_ | refine v_drop ?_ | (apply v_app; · with_unfolding_all exact rfl) | (apply v_setI; · with_unfolding_all exact rfl) | (apply v_rel; · with_unfolding_all exact rfl) | refine v_raise ?_ | refine v_par ?_ | refine v_kP ?_ | refine v_asg ?_
  | (apply v_aug; · with_unfolding_all exact rfl) | refine v_ifT ?_ | refine v_ifF ?_ | (refine v_pow ?_ ?_ ?_ ?_; (· decide); (· decide); (· decide)) | refine v_call0 ?_ | (apply v_lenr; · assumption) | (apply v_seqr; · assumption) | (apply v_kSeqr; · assumption) | (apply v_kSlr; · assumption))
def b__law_mixed {M : Type} : DS M :=
    (dThen (dSet 2 (dBin gAdd (dBin gAdd (dBin (gII Nz fun i j => .int (i.fmod j)) (dBin gMul (dBin gMul (dVar 0) (dBin gAdd (dC (.int 1)) (dBin gMul (dC (.int 2)) (dVar 1)))) (dC (.int 48271))) (dC (.int 2147483647))) (dBin gMul (dBin gMul (dC (.int 7919)) (dVar 1)) (dVar 1))) (dBin gMul (dC (.int 104729)) (dVar 1))))
    (dRet (dBin (gII Nd fun i j => .int (i.fdiv j)) (dBin (gII Nz fun i j => .int (i.fmod j)) (dBin gMul (dVar 2) (dC (.int 69621))) (dC (.int 2147483629))) (dC (.int 7)))))

theorem vc__law_mixed {M : Type} : ∀ ds (m : M) Q Z, s__law_mixed ds m Q Z → okK [false, false] ds ∧ b__law_mixed { nx := fun _ m' => Q .non m', rt := Q, ex := Z } (st0 [false, false] ds 3) m := by
  rintro ds m Q Z ⟨c, k, rfl, hc, k0, k1, q⟩
  refine ⟨⟨fun _ => rfl, fun _ => rfl, trivial⟩, ?_⟩
  have bc : bd 70 c := hc
  have bk : bd 62 k := by unfold bd; omega
  unfold b__law_mixed
  repeat walk_at "s"
  refine v_mul (mulok (bd_lit (n := 2) (by decide)) bk) ?_
  repeat walk_at "s"
  have b1 : bd 64 (1 + 2 * k) := by unfold bd; omega
  refine v_mul (mulok bc b1) ?_
  repeat walk_at "s"
  refine v_mul (mulok (bd_mul bc b1) (bd_lit (n := 16) (by decide))) ?_
  repeat walk_at "s"
  refine v_mul (mulok (bd_lit (n := 13) (by decide)) bk) ?_
  repeat walk_at "s"
  refine v_mul (mulok (bd_mul (bd_lit (n := 13) (by decide)) bk) bk) ?_
  repeat walk_at "s"
  refine v_mul (mulok (bd_lit (n := 17) (by decide)) bk) ?_
  repeat walk_at "s"
  have b2 : bd 31 ((c * (1 + 2 * k) * 48271).fmod 2147483647) := bd_fmod (bd_lit (by decide)) (by decide)
  have b3 := bd_add (bd_add b2 (bd_mul (bd_mul (bd_lit (n := 13) (x := 7919) (by decide)) bk) bk)) (bd_mul (bd_lit (n := 17) (x := 104729) (by decide)) bk)
  refine v_mul (mulok b3 (bd_lit (n := 17) (by decide))) ?_
  repeat walk_at "s"
  refine v_gII (nd_small (b := 8) (by decide) (bd_lit (by decide))) ?_
  have h0 := Int.fmod_nonneg_of_pos (((c * (1 + 2 * k) * 48271).fmod 2147483647 + 7919 * k * k + 104729 * k) * 69621) (show (0 : Int) < 2147483629 by decide)
  have h1 := Int.fmod_lt_of_pos (((c * (1 + 2 * k) * 48271).fmod 2147483647 + 7919 * k * k + 104729 * k) * 69621) (show (0 : Int) < 2147483629 by decide)
  refine q _ ?_ ?_
  · rw [fdiv_pos (by decide)]; omega
  · rw [fdiv_pos (by decide)]; omega
def b__law_folded {M : Type} : DS M :=
    (dThen (dSetO 1 (dLc (dRng1 (dCons (dC (.int 64)) dNil)) (dgN 2) dYes (dBin gAdd (dC (.int 17)) (dVar 2)) [2]))
    (dThen (dFor (dEnum true (dBor 0)) (dgT 2 (dgCons (dgN 2) (dgCons (dgN 3) dgNil)))
      (dSetI 1 (dBin (gII Nz fun i j => .int (i.fmod j)) (dBin gAdd (dBin gMul (dBin (gIx true) (dOwn 1) (dBin (gII Nz fun i j => .int (i.fmod j)) (dVar 2) (dC (.int 64)))) (dC (.int 48271))) (dVar 3)) (dC (.int 2147483647))) (dBin (gII Nz fun i j => .int (i.fmod j)) (dVar 2) (dC (.int 64)))))
    (dThen (dFor (dRng2 (dCons (dC (.int 1)) (dCons (dC (.int 64)) dNil))) (dgN 2)
      (dSetI 1 (dBin (gII Nz fun i j => .int (i.fmod j)) (dBin gAdd (dBin (gIx true) (dOwn 1) (dVar 2)) (dBin gMul (dBin (gIx true) (dOwn 1) (dBin (g0 fun i j => .int (i - j)) (dVar 2) (dC (.int 1)))) (dC (.int 16807)))) (dC (.int 2147483647))) (dVar 2)))
    (dRet (dOwn 1)))))

theorem fold_set {cs : List Int} {j : Nat} {v : Int} (l : cs.length = 64) (h : ∀ c ∈ cs, 0 ≤ c ∧ c < 2147483647) (h0 : 0 ≤ v) (h1 : v < 2147483647) : (cs.set j v).length = 64 ∧ ∀ c ∈ cs.set j v, 0 ≤ c ∧ c < 2147483647 :=
  ⟨by rw [List.length_set]; exact l, fun c hc => (List.mem_or_eq_of_mem_set hc).elim (h c) fun e => by rw [e]; exact ⟨h0, h1⟩⟩
theorem vc__law_folded {M : Type} : ∀ ds (m : M) Q Z, s__law_folded ds m Q Z → okK [true] ds ∧ b__law_folded { nx := fun _ m' => Q .non m', rt := Q, ex := Z } (st0 [true] ds 4) m := by
  rintro ds m Q Z ⟨ns, rfl, hl, q⟩
  refine ⟨⟨fun h => (nomatch h), trivial⟩, ?_⟩
  unfold b__law_folded
  repeat walk_at "s"
  refine lc_rz (f := fun j => 17 + (j : Int)) 64 (fun a _ m1 k l hk => ?_) (by decide) ?_
  · repeat walk_at "s"
    exact hk
  have c0 : ∀ c ∈ (List.range 64).map (fun j : Nat => 17 + (j : Int)), 0 ≤ c ∧ c < 2147483647 := fun c hc => by
    obtain ⟨j, hj, rfl⟩ := List.mem_map.mp hc
    have := List.mem_range.mp hj
    omega
  have l0 : ((List.range 64).map (fun j : Nat => 17 + (j : Int))).length = 64 := by rw [List.length_map, List.length_range]
  generalize (List.range 64).map (fun j : Nat => 17 + (j : Int)) = cs at c0 l0 ⊢
  refine v_kO (nls_ints cs) ?_
  repeat walk_at "s"
  refine v_kforE (fun j r ρ m' => ∃ a2 a3 cs, ρ = [.bor (.lst (zz ns)), .own (zz cs), a2, a3] ∧ m' = m ∧ cs.length = 64 ∧ ∀ c ∈ cs, 0 ≤ c ∧ c < 2147483647) ns ⟨_, _, _, rfl, rfl, l0, c0⟩ (fun j ρ m' h => ?_) fun j x r ρ m' N h hN => ?_
  · obtain ⟨a2, a3, cs, rfl, rfl, lc, hc⟩ := h
    repeat walk_at "s"
    refine v_kforR 63 (fun k ρ m1 => ∃ a2 a3 cs, ρ = [.bor (.lst (zz ns)), .own (zz cs), a2, a3] ∧ m1 = m' ∧ cs.length = 64 ∧ ∀ c ∈ cs, 0 ≤ c ∧ c < 2147483647) ⟨_, _, _, rfl, rfl, lc, hc⟩ (fun ρ m' h => ?_) fun k ρ m' hk h => ?_
    · obtain ⟨a2, a3, cs, rfl, rfl, lc, hc⟩ := h
      repeat walk_at "s"
      exact q cs lc hc
    obtain ⟨a2, a3, cs, rfl, rfl, lc, hc⟩ := h
    repeat walk_at "s"
    refine v_ixl (by omega) (by omega) ?_
    obtain ⟨y0, y1⟩ := hc _ (nth_mem (xs := cs) (i := 1 + (k : Int)) (by omega) (by omega))
    generalize nth cs (1 + (k : Int)) = y at y0 y1 ⊢
    repeat walk_at "s"
    refine v_ixl (by omega) (by omega) ?_
    obtain ⟨z0, z1⟩ := hc _ (nth_mem (xs := cs) (i := 1 + (k : Int) - 1) (by omega) (by omega))
    generalize nth cs (1 + (k : Int) - 1) = z at z0 z1 ⊢
    have bz : bd 31 z := by unfold bd; omega
    repeat walk_at "s"
    refine v_mul (mulok bz (bd_lit (n := 15) (by decide))) ?_
    repeat walk_at "s"
    have v0 := Int.fmod_nonneg_of_pos (y + z * 16807) (show (0 : Int) < 2147483647 by decide)
    have v1 := Int.fmod_lt_of_pos (y + z * 16807) (show (0 : Int) < 2147483647 by decide)
    refine v_kSIz (by omega) (by omega) ?_
    obtain ⟨p1, p2⟩ := fold_set (j := (1 + (k : Int)).toNat) lc hc v0 v1
    exact ⟨_, _, _, rfl, rfl, p1, p2⟩
  · obtain ⟨a2, a3, cs, rfl, rfl, lc, hc⟩ := h
    have k0 := Int.fmod_nonneg_of_pos (j : Int) (show (0 : Int) < 64 by decide)
    have k1 := Int.fmod_lt_of_pos (j : Int) (show (0 : Int) < 64 by decide)
    repeat walk_at "s"
    refine v_ixl k0 (by omega) ?_
    obtain ⟨z0, z1⟩ := hc _ (nth_mem (xs := cs) k0 (by omega))
    generalize nth cs ((j : Int).fmod 64) = z at z0 z1 ⊢
    have bz : bd 31 z := by unfold bd; omega
    repeat walk_at "s"
    refine v_mul (mulok bz (bd_lit (n := 16) (by decide))) ?_
    repeat walk_at "s"
    have v0 := Int.fmod_nonneg_of_pos (z * 48271 + x) (show (0 : Int) < 2147483647 by decide)
    have v1 := Int.fmod_lt_of_pos (z * 48271 + x) (show (0 : Int) < 2147483647 by decide)
    refine v_kSIz k0 (by omega) ?_
    obtain ⟨p1, p2⟩ := fold_set (j := ((j : Int).fmod 64).toNat) lc hc v0 v1
    exact hN _ _ ⟨_, _, _, rfl, rfl, p1, p2⟩
end RR

namespace RR
open PySem PySem.Spec PyProof.Rows L2
def topS (i : Nat) : Stmt := PySem.Challenge.pw_rootring_k08_texts_refused.main.body.getD i (.Pass ⟨0, 0, 0, 0⟩)
end RR
namespace RR
open PySem PySem.Spec PyProof.Rows L2
def clsS (i j : Nat) : Stmt := clsB (topS i) j
end RR
/-! VTx: stepping rules for texts and instances -/
namespace RR
open PySem PySem.Spec PyProof.Rows L2
section
variable {M : Type} {ρ : En} {m : M} {Q : D → M → Prop} {QL : List D → M → Prop} {QB : Bool → M → Prop} {Z ex : Str → M → Prop} {nx bk ct : En → M → Prop} {rt : D → M → Prop} {t u w : DT M} {ta : DTA M} {ds : List D} {d : D} {q : D → Prop}
def kSg (QL : List D → M → Prop) (d : D) (m1 : M) : Prop := match d with | .str z => QL (signs z) m1 | _ => False
theorem v_signs (h : t ρ m (fun d m1 => kSg QL d m1) Z) : dSigns t ρ m QL Z := h
theorem v_kSg {z : Str} (h : QL (signs z) m) : kSg QL (.str z) m := h
theorem v_inS {c : Nat} {z : Str} (h : q (.bl (decide (c ∈ z.cps.toList)))) : gInS (.str ⟨#[c]⟩) (.str z) q := ⟨c, rfl, h⟩
theorem v_ninS {c : Nat} {z : Str} (h : q (.bl (!decide (c ∈ z.cps.toList)))) : gNinS (.str ⟨#[c]⟩) (.str z) q := ⟨c, rfl, h⟩
abbrev okS (z : Str) : Prop := PyData.strOk z = true
theorem q_s {z : Str} {n : Nat} (h : okS z) : (D.str z).q n = true := by cases n <;> exact h
theorem eqv_s (a b : Str) : (D.str a).eqv (.str b) = decide (a = b) := by
  unfold D.eqv
  rw [Bool.eq_iff_iff]; simp
theorem eqv_s' (a b : Str) : (D.str a).eqv (.str b) = decide (b = a) := by
  rw [eqv_s, Bool.eq_iff_iff, decide_eq_true_eq, decide_eq_true_eq]
  exact eq_comm
theorem q_tup {ds : List D} {n : Nat} (h : ∀ d ∈ ds, d.q n = true) : (D.tup ds).q (n + 1) = true := List.all_eq_true.mpr h
theorem v_inQ2 {z a b : Str} (h0 : okS z) (h1 : okS a) (h2 : okS b) (h : q (.bl (decide (z = a ∨ z = b)))) : gInQ (.str z) (.tup [.str a, .str b]) q := by
  refine ⟨q_s h0, q_tup (n := 7) fun d hd => ?_, ?_⟩
  · simp only [List.mem_cons, List.not_mem_nil, or_false] at hd
    rcases hd with rfl | rfl
    · exact q_s h1
    · exact q_s h2
  · simp only [List.any_cons, List.any_nil, eqv_s', Bool.or_false, ← Bool.decide_or]
    exact h
theorem v_inQ3 {z a b c : Str} (h0 : okS z) (h1 : okS a) (h2 : okS b) (h3 : okS c) (h : q (.bl (decide (z = a ∨ z = b ∨ z = c)))) : gInQ (.str z) (.tup [.str a, .str b, .str c]) q := by
  refine ⟨q_s h0, q_tup (n := 7) fun d hd => ?_, ?_⟩
  · simp only [List.mem_cons, List.not_mem_nil, or_false] at hd
    rcases hd with rfl | rfl | rfl
    · exact q_s h1
    · exact q_s h2
    · exact q_s h3
  · simp only [List.any_cons, List.any_nil, eqv_s', Bool.or_false, ← Bool.decide_or]
    exact h
theorem v_inQ4 {z a b c e : Str} (h0 : okS z) (h1 : okS a) (h2 : okS b) (h3 : okS c) (h4 : okS e) (h : q (.bl (decide (z = a ∨ z = b ∨ z = c ∨ z = e)))) : gInQ (.str z) (.tup [.str a, .str b, .str c, .str e]) q := by
  refine ⟨q_s h0, q_tup (n := 7) fun d hd => ?_, ?_⟩
  · simp only [List.mem_cons, List.not_mem_nil, or_false] at hd
    rcases hd with rfl | rfl | rfl | rfl
    · exact q_s h1
    · exact q_s h2
    · exact q_s h3
    · exact q_s h4
  · simp only [List.any_cons, List.any_nil, eqv_s', Bool.or_false, ← Bool.decide_or]
    exact h
theorem v_inF {nm z : Str} {tab : List (Str × D)} (h : q (.bl (tget tab z).isSome)) : gInF nm tab (.str z) (.fn nm) q := ⟨rfl, h⟩
def kGF (nm : Str) (A : Prop) (x : D) : Prop := x = .fn nm ∧ A
theorem v_getF {nm : Str} {tab : List (Str × D)} (h : t ρ m (fun x m1 => kGF nm (u ρ m1 (fun y m2 => w ρ m2 (fun z m3 => gGetF tab y z fun d => Q d m3) Z) Z) x) Z) : dGetF nm tab t u w ρ m Q Z := h
theorem v_kGF {nm : Str} {A : Prop} (h : A) : kGF nm A (.fn nm) := ⟨rfl, h⟩
theorem v_gGetF {tab : List (Str × D)} {z : Str} (n : d.nl = true) (h : q ((tget tab z).getD d)) : gGetF tab (.str z) d q := ⟨n, h⟩
def kSS (Q : D → M → Prop) (x : D) (l u : Option Int) (m3 : M) : Prop := match x with | .str z => z.length ≤ sizeLine ∧ Q (.str (cutS z l u)) m3 | _ => False
theorem v_slS {lo hi : DTO M} (h : t ρ m (fun x m1 => lo ρ m1 (fun l m2 => hi ρ m2 (fun u m3 => kSS Q x l u m3) Z) Z) Z) : dSlS t lo hi ρ m Q Z := h
theorem v_kSS {z : Str} {l u : Option Int} (e : z.length ≤ 16777216) (h : Q (.str (cutS z l u)) m) : kSS Q (.str z) l u m := ⟨small_line e, h⟩
theorem v_intUi {i : Int} (h : q (.int i)) : gIntU [.int i] q := h
theorem v_ixs {n : Bool} {z : Str} {i : Int} {c : Nat} (l : z.length ≤ 16777216) (e : atI z.cps.toList i = some c) (h : q (.str ⟨#[c]⟩)) : gIx n (.str z) (.int i) q := by
  unfold gIx; dsimp only; rw [e]; exact ⟨small_line l, h⟩
theorem v_lens {z : Str} (l : z.length ≤ 16777216) (h : q (.int z.length)) : gLen [.str z] q := ⟨small_line l, h⟩
theorem v_addStr {x y : Str} (l : x.length + y.length ≤ 16777216) (h : q (.str (x ++ y))) : gAdd (.str x) (.str y) q := ⟨small_line l, h⟩
theorem v_mulT {z : Str} {k : Int} (h0 : -(2 ^ 62) ≤ k) (h1 : k ≤ 16777216) (h2 : z.length * k.toNat ≤ 16777216) (h3 : z.length ≤ 16777216) (h : q (.str (repS k z))) : gMulT (.str z) (.int k) q := ⟨h0, h1, h2, h3, h⟩
def kCh (A : Prop) (Q : D → M → Prop) (m : M) (d : D) : Prop := match d with | .bl true => A | .bl false => Q (.bl false) m | _ => False
theorem v_chn {g g' : G2} (h : t ρ m (fun x m1 => u ρ m1 (fun y m2 => g x y fun d => kCh (w ρ m2 (fun z m3 => g' y z fun d => Q d m3) Z) Q m2 d) Z) Z) : dChain g g' t u w ρ m Q Z := h
theorem v_kIs {z : Str} {T : String} {b : Bool} (e : isiB "str" T = b) (h : Q (.bl b) m) : kI T Q (.str z) m := v_kI rfl e h
end
/-! ### instances -/
section
variable {M : Type} {ρ : En} {m : M × Ob} {Q : D → M × Ob → Prop} {QL : List D → M × Ob → Prop} {QB : Bool → M × Ob → Prop} {Z ex : Str → M × Ob → Prop} {nx bk ct : En → M × Ob → Prop} {rt : D → M × Ob → Prop} {t u w : DT (M × Ob)} {ta : DTA (M × Ob)} {ds : List D} {d : D} {q : D → Prop} {i : Nat} {f : Str} {hh : En → M × Ob → (D → Prop) → Prop}
theorem v_dH (h : hh ρ m fun d => Q d m) : dH hh ρ m Q Z := h
theorem v_hFld (e : isOb ρ i m) (g : fget f m.2.fs = some (.val d)) (h : q d) : hFld i f ρ m q := ⟨e, d, g, h⟩
theorem v_hVar {j : Nat} (e : ρ[j]? = some (.val d)) (n : d.nl = true) (h : q d) : hVar (M := M × Ob) j ρ m q := by unfold hVar; rw [e]; exact ⟨n, h⟩
theorem v_hInt {k : Int} (h : q (.int k)) : hInt (M := M × Ob) k ρ m q := h
theorem v_hNeg (h : hh ρ m fun d => ∃ j : Int, d = .int j ∧ q (.int (-j))) : hNeg hh ρ m q := h
theorem v_hFix (e : isOb ρ i m) (g : fget f m.2.fs = some (.lst ds)) (h : hh ρ m fun j => ∃ (n : Int) (d : D), j = .int n ∧ atI ds n = some d ∧ q d) : hFix i f hh ρ m q := ⟨e, ds, g, h⟩
theorem v_hFlen (e : isOb ρ i m) (g : fget f m.2.fs = some (.lst ds)) (h : q (.int ds.length)) : hFlen i f ρ m q := ⟨e, ds, g, h⟩
theorem v_hFl (e : isOb ρ i m) (g : fget f m.2.fs = some (.lst ds)) (h : q (.hnd (m.2.h + 2 + lix f m.2.fs))) : hFl i f ρ m q := ⟨e, ds, g, h⟩
theorem v_meth {mn : Str} {sp : DSp (M × Ob)} (e : isOb ρ i m) (g : fget mn m.2.fs = none) (h : ta ρ m (fun ds m1 => sp (.hnd m.2.h :: ds) m1 Q Z) Z) : dMeth i mn sp ta ρ m Q Z := ⟨e, g, h⟩
def kFset (i : Nat) (f : Str) (ρ : En) (nx : En → M × Ob → Prop) (d : D) (m1 : M × Ob) : Prop := isOb ρ i m1 ∧ d.pl = true ∧ ∃ d0, fget f m1.2.fs = some (.val d0) ∧ nx ρ (m1.1, ⟨m1.2.h, putO f (.val d) m1.2.fs⟩)
theorem v_fset (h : t ρ m (kFset i f ρ nx) ex) : dFset i f t ⟨nx, rt, bk, ct, ex⟩ ρ m := h
def kFapp (i : Nat) (f : Str) (ρ : En) (nx : En → M × Ob → Prop) (m : M × Ob) (d : D) (m1 : M × Ob) : Prop := m1.2.h = m.2.h ∧ lix f m1.2.fs = lix f m.2.fs ∧ d.pl = true ∧ ∃ ds, fget f m1.2.fs = some (.lst ds) ∧ ds.length < sizeLine ∧ nx ρ (m1.1, ⟨m1.2.h, putO f (.lst (ds ++ [d])) m1.2.fs⟩)
theorem v_fapp {ds0 : List D} (e : isOb ρ i m) (g : fget f m.2.fs = some (.lst ds0)) (h : t ρ m (kFapp i f ρ nx m) ex) : dFapp i f t ⟨nx, rt, bk, ct, ex⟩ ρ m := ⟨e, ds0, g, h⟩
end
end RR

/-! V82a: the words of an expression's text -/
namespace RR
open PySem PySem.Spec PyProof.Rows L2
local macro_rules | `(tactic| walk_at "bd") => `(tactic| first | assumption | exact bd_lit (by decide) | (with_reducible refine bd_mul ?_ ?_ <;> walk_at "bd") | (with_reducible refine bd_add ?_ ?_ <;> walk_at "bd") | (with_reducible refine bd_sub ?_ ?_ <;> walk_at "bd") | (with_reducible refine bd_neg ?_ <;> walk_at "bd"))
local macro_rules | `(tactic| walk_at "s") => `(tactic| with_reducible first
  | refine v_then ?_ | refine v_set ?_ | (apply v_var; · with_unfolding_all exact rfl) | refine v_bin ?_ | refine v_c ?_ | refine v_g0 ?_ | refine v_add ?_ | refine v_cons ?_ | refine v_nil ?_ | refine v_call ?_ | refine v_dB ?_ | refine v_next ?_ | refine v_ret ?_
  | refine v_ite ?_ | refine v_tst ?_ | refine v_kT ?_ | refine v_eqi ?_ | refine v_nei ?_ | refine v_eqr ?_ | refine v_ner ?_ | refine v_eqr0 ?_ | refine v_ner0 ?_ | refine v_eql ?_ | refine v_nel ?_ | refine v_eql0 ?_ | refine v_nel0 ?_ | refine v_isN ?_ | refine v_notN ?_
  | (apply v_bor; · with_unfolding_all exact rfl) | (apply v_own; · with_unfolding_all exact rfl) | refine v_tup ?_ | refine v_lst ?_ | (refine v_sz ?_ ?_; (· with_unfolding_all exact Nat.le_of_ble_eq_true rfl)) | (refine v_gIIz ?_ ?_; (· first | decide | omega))
  | refine v_lentz ?_ | refine v_lenlz ?_ | refine v_lent ?_ | refine v_lenl ?_ | refine v_I1 ?_ | refine v_I2 ?_ | refine v_int ?_ | refine v_seqlz ?_ | refine v_seqtz ?_ | refine v_sl ?_ | refine v_kSll ?_ | refine v_kSlt ?_ | refine v_ono ?_ | refine v_oso ?_ | refine v_kOS ?_
  | refine v_val ?_ | refine v_kVb ?_ | refine v_kVi ?_ | refine v_kVt ?_ | refine v_kVl ?_ | refine v_and ?_ | refine v_or ?_ | refine v_not ?_ | refine v_yes ?_ | refine v_if' ?_ | refine v_isi ?_ | refine v_kIii ?_ | refine v_kIib ?_ | refine v_kItt ?_
  | refine v_andV ?_ | refine v_orV ?_ | refine v_notV ?_ | refine v_kNV ?_ | refine v_neg ?_ | refine v_kNeg ?_ | refine v_seq ?_ | refine v_kSeql ?_ | refine v_kSeqt ?_ | refine v_rng1 ?_ | refine v_rng2 ?_ | refine v_enum ?_ | refine v_revr ?_ | refine v_rev ?_
  | (refine v_kR1 ?_ ?_ ?_; (· with_unfolding_all decide +kernel); (· with_unfolding_all decide +kernel))
  | (refine v_kR2 ?_ ?_ ?_ ?_ ?_; (· with_unfolding_all decide +kernel); (· with_unfolding_all decide +kernel); (· with_unfolding_all decide +kernel); (· with_unfolding_all decide +kernel))
  | refine v_gn ?_ | refine v_gt2 ?_ | refine v_gt3 ?_ | refine v_lc ?_ | refine v_for ?_ | refine v_setO ?_ | refine v_drop ?_ | (apply v_app; · with_unfolding_all exact rfl) | (apply v_setI; · with_unfolding_all exact rfl) | (apply v_rel; · with_unfolding_all exact rfl) | refine v_raise ?_ | refine v_par ?_ | refine v_kP ?_ | refine v_asg ?_
  | (apply v_aug; · with_unfolding_all exact rfl) | refine v_ifT ?_ | refine v_ifF ?_ | (refine v_pow ?_ ?_ ?_ ?_; (· with_unfolding_all decide +kernel); (· with_unfolding_all decide +kernel); (· with_unfolding_all decide +kernel)) | refine v_call0 ?_ | (apply v_lenr; · assumption) | (apply v_seqr; · assumption) | (apply v_kSeqr; · assumption) | (apply v_kSlr; · assumption)
  | refine v_ix0 ?_ | refine v_ix1 ?_ | refine v_ix2 ?_ | refine v_zip ?_ | refine v_kZl ?_ | refine v_kZt ?_ | (apply v_augI; · with_unfolding_all exact rfl) | refine v_try ?_ | refine v_isE ?_ | (refine v_kIE ?_ ?_; (· with_unfolding_all exact rfl)) | refine v_isB ?_ | refine v_notB ?_ | refine v_all ?_ | refine v_par3 ?_ | refine v_ifnT ?_ | refine v_ifnF ?_ | refine v_eqs ?_ | refine v_nes ?_ | refine v_rvs ?_ | refine v_kRvl ?_ | refine v_kRvt ?_
  | (refine v_mulb (a := ?a) (b := ?b) ?ha ?hb ?l ?h; (case ha => assumption); (case hb => assumption); (case l => omega)) | (refine v_fdivb (b := ?b) ?h0 ?hb ?l ?h; (case h0 => assumption); (case hb => assumption); (case l => omega)))
local macro_rules | `(tactic| walk_at "o") => `(tactic| first | walk_at "s" | with_reducible first
  | refine v_chn ?_ | refine v_signs ?_ | refine v_kSg ?_ | refine v_inS ?_ | refine v_ninS ?_ | (refine v_inQ2 ?_ ?_ ?_ ?_; (· first | assumption | (with_unfolding_all decide +kernel)); (· with_unfolding_all decide +kernel); (· with_unfolding_all decide +kernel)) | (refine v_inQ3 ?_ ?_ ?_ ?_ ?_; (· first | assumption | (with_unfolding_all decide +kernel)); (· with_unfolding_all decide +kernel); (· with_unfolding_all decide +kernel); (· with_unfolding_all decide +kernel)) | (refine v_inQ4 ?_ ?_ ?_ ?_ ?_ ?_; (· first | assumption | (with_unfolding_all decide +kernel)); (· with_unfolding_all decide +kernel); (· with_unfolding_all decide +kernel); (· with_unfolding_all decide +kernel); (· with_unfolding_all decide +kernel))
  | refine v_inF ?_ | refine v_getF ?_ | refine v_kGF ?_ | (refine v_gGetF ?_ ?_; (· with_unfolding_all exact rfl)) | refine v_slS ?_ | (refine v_kSS ?_ ?_; (· first | assumption | omega)) | refine v_intUi ?_ | (refine v_lens ?_ ?_; (· first | assumption | omega)) | refine v_dH ?_ | refine v_hInt ?_ | refine v_hNeg ?_ | refine v_fset ?_
  | (apply v_hVar; (· with_unfolding_all exact rfl); (· rfl)))
def isDig (c : Nat) : Bool := decide (48 ≤ c) && decide (c ≤ 57)
theorem figs : ("0123456789" : Str).cps.toList = [48, 49, 50, 51, 52, 53, 54, 55, 56, 57] := by decide +kernel
theorem lets : ("abcdefghijklmnopqrstuvwxyz" : Str).cps.toList = [97, 98, 99, 100, 101, 102, 103, 104, 105, 106, 107, 108, 109, 110, 111, 112, 113, 114, 115, 116, 117, 118, 119, 120, 121, 122] := by decide +kernel
theorem dig_in (c : Nat) : decide (c ∈ ("0123456789" : Str).cps.toList) = isDig c := by
  rw [figs, Bool.eq_iff_iff]
  unfold isDig
  simp
  omega
def sgn : List Nat := [43, 45, 42, 47, 94, 40, 41, 91, 93, 44]
/-- a text by its signs -/
def tx (l : List Nat) : Str := ⟨l.toArray⟩
theorem tx_of (z : Str) : tx z.cps.toList = z := rfl
theorem tx_len (l : List Nat) : (tx l).length = l.length := List.size_toArray ..
theorem tx_inj {a b : List Nat} (h : tx a = tx b) : a = b := by
  have := congrArg (fun z : Str => z.cps.toList) h
  exact this
theorem len_list (z : Str) : z.cps.toList.length = z.length := Array.length_toList
section
variable {M : Type}
theorem atI_zero {α : Type} (c : α) (l : List α) : atI (c :: l) 0 = some c := by
  unfold atI ixN
  simp
theorem head_eq (c : Nat) : decide ((⟨#[c]⟩ : Str) = ("0" : Str)) = decide (c = 48) := by
  rw [show ("0" : Str) = ⟨#[48]⟩ from by decide +kernel, Bool.eq_iff_iff]; simp
theorem word_0 (z : Str) : decide (z = ("0" : Str)) = decide (z.cps.toList = [48]) := by
  rw [show ("0" : Str) = tx [48] from by decide +kernel, Bool.eq_iff_iff, decide_eq_true_eq, decide_eq_true_eq]
  exact ⟨fun h => by rw [h]; rfl, fun h => by rw [← tx_of z, h]⟩
end
/-! ### runs of signs -/
/-! ### all words -/
end RR

/-! RTd: {text: ..}.get(x, y), {text: ..}[x]; x.isalpha(), x.isdigit() -/
namespace RR
open PySem PySem.Spec PyProof.Rows L2
section
variable {X : Cx} {C : Cn} {e f : Expr} {pos : Pos}
end
section
variable {M : Type} {ρ : En} {m : M} {Q : D → M → Prop} {Z : Str → M → Prop}
end
end RR

/-! RTy: try: x.append(e) except T: y = [] -/
namespace RR
open PySem PySem.Spec PyProof.Rows L2
section
variable {X : Cx} {C : Cn} {e : Expr} {pos : Pos} {t u : DS C.W.M} {body : List Stmt}
end
section
variable {M : Type} {ρ : En} {m : M} {nx bk ct : En → M → Prop} {rt : D → M → Prop} {ex : Str → M → Prop} {s1 : DS M}
end
end RR

/-! RTk: a token is out: text.replace of written texts -/
namespace RR
open PySem PySem.Spec PyProof.Rows L2
section
variable {X : Cx} {C : Cn} {e : Expr} {es : List Expr} {te : TE} {ta tb : TA} {pos : Pos}
/-! ### behind an expression a token is out -/
def PEk (X : Cx) (e : Expr) (t : TE) : Prop :=
  ∀ (pins : List (Addr × Obj)) (s : Shared) (σ : L2.St) (H : Hp) (Q : VK), Inv X pins σ H s → t σ H Q → wpAny (model X.prog X.w) X.A (eval e X.env) (fun u s1 => 1 ≤ s1.toks ∧ EP X pins σ Q u s1) X.xe s
/-! ### over data -/
def JK (c : Cl) (X : Cx) (C : Cn) (e : Expr) (t : DT C.W.M) : Prop := ∃ te, PEk X e te ∧
  ∀ σ H Pr F ρ m Q Z (R : VK), SR X.K C Pr F σ ρ m H → Ex X C Pr F H σ ρ Z → t ρ m Q Z → (∀ v H', Post X.K C c Pr F H σ ρ Q v H' → R v H') → te σ H R
theorem JK.weak {t : DT C.W.M} (h : JK .f X C e t) : JK .w X C e t := by
  obtain ⟨te, p, q⟩ := h
  exact ⟨te, p, fun σ H Pr F ρ m Q Z R S E h k => q σ H Pr F ρ m Q Z R S E h fun v H' z => k v H' (z.imp fun _ _ _ _ S q => (Dv.fs q).sw S)⟩
theorem JK.strong {t : DT C.W.M} (h : JK .f X C e t) : JK .s X C e t := by
  obtain ⟨te, p, q⟩ := h
  exact ⟨te, p, fun σ H Pr F ρ m Q Z R S E h k => q σ H Pr F ρ m Q Z R S E h fun v H' z => k v H' (z.imp fun _ _ _ _ S q => Dv.fs q)⟩
/-! ### where a token is out -/
def JTT (c : Cl) (X : Cx) (C : Cn) (e : Expr) (t : DT C.W.M) : Prop := ∃ te, PET X e te ∧
  ∀ σ H Pr F ρ m Q Z (R : VK), SR X.K C Pr F σ ρ m H → Ex X C Pr F H σ ρ Z → t ρ m Q Z → (∀ v H', Post X.K C c Pr F H σ ρ Q v H' → R v H') → te σ H R
theorem JTT.sf {t : DT C.W.M} (h : JTT .f X C e t) : JTT .s X C e t := by
  obtain ⟨te, p, q⟩ := h
  exact ⟨te, p, fun σ H Pr F ρ m Q Z R S E h k => q σ H Pr F ρ m Q Z R S E h fun v H' z => k v H' (z.imp fun _ _ _ _ S q => Dv.fs q)⟩
variable {st : Stmt} {rest body : List Stmt} {t u : DS C.W.M}
end
section
variable {M : Type} {ρ : En} {m : M} {Q : D → M → Prop} {Z : Str → M → Prop}
end
/-! ### strip, count of texts -/
section
variable {X : Cx} {C : Cn} {a b : Expr} {ta tb : DT C.W.M} {pos : Pos}
end
end RR

/-! RTe: enumerate of a text -/
namespace RR
open PySem PyProof.Rows
open PySem.Spec L2
section
variable {X : Cx} {C : Cn} {e : Expr} {pos : Pos}
end
/-! ### repr of deeper data, where there is room -/
section
variable {X : Cx} {C : Cn}
end
end RR

/-! V07a: the words of a polynomial's text -/
namespace RR
open PySem PySem.Spec PyProof.Rows L2
local macro_rules | `(tactic| walk_at "bd") => `(tactic| first | assumption | exact bd_lit (by decide) | (with_reducible refine bd_mul ?_ ?_ <;> walk_at "bd") | (with_reducible refine bd_add ?_ ?_ <;> walk_at "bd") | (with_reducible refine bd_sub ?_ ?_ <;> walk_at "bd") | (with_reducible refine bd_neg ?_ <;> walk_at "bd"))
local macro_rules | `(tactic| walk_at "s") => `(tactic| with_reducible first
  | refine v_then ?_ | refine v_set ?_ | (apply v_var; · with_unfolding_all exact rfl) | refine v_bin ?_ | refine v_c ?_ | refine v_g0 ?_ | refine v_add ?_ | refine v_cons ?_ | refine v_nil ?_ | refine v_call ?_ | refine v_dB ?_ | refine v_next ?_ | refine v_ret ?_
  | refine v_ite ?_ | refine v_tst ?_ | refine v_kT ?_ | refine v_eqi ?_ | refine v_nei ?_ | refine v_eqr ?_ | refine v_ner ?_ | refine v_eqr0 ?_ | refine v_ner0 ?_ | refine v_eql ?_ | refine v_nel ?_ | refine v_eql0 ?_ | refine v_nel0 ?_ | refine v_isN ?_ | refine v_notN ?_
  | (apply v_bor; · with_unfolding_all exact rfl) | (apply v_own; · with_unfolding_all exact rfl) | refine v_tup ?_ | refine v_lst ?_ | (refine v_sz ?_ ?_; (· with_unfolding_all exact Nat.le_of_ble_eq_true rfl)) | (refine v_gIIz ?_ ?_; (· first | decide | omega))
  | refine v_lentz ?_ | refine v_lenlz ?_ | refine v_lent ?_ | refine v_lenl ?_ | refine v_I1 ?_ | refine v_I2 ?_ | refine v_int ?_ | refine v_seqlz ?_ | refine v_seqtz ?_ | refine v_sl ?_ | refine v_kSll ?_ | refine v_kSlt ?_ | refine v_ono ?_ | refine v_oso ?_ | refine v_kOS ?_
  | refine v_val ?_ | refine v_kVb ?_ | refine v_kVi ?_ | refine v_kVt ?_ | refine v_kVl ?_ | refine v_and ?_ | refine v_or ?_ | refine v_not ?_ | refine v_yes ?_ | refine v_if' ?_ | refine v_isi ?_ | refine v_kIii ?_ | refine v_kIib ?_ | refine v_kItt ?_
  | refine v_andV ?_ | refine v_orV ?_ | refine v_notV ?_ | refine v_kNV ?_ | refine v_neg ?_ | refine v_kNeg ?_ | refine v_seq ?_ | refine v_kSeql ?_ | refine v_kSeqt ?_ | refine v_rng1 ?_ | refine v_rng2 ?_ | refine v_enum ?_ | refine v_revr ?_ | refine v_rev ?_
  | (refine v_kR1 ?_ ?_ ?_; (· with_unfolding_all decide +kernel); (· with_unfolding_all decide +kernel))
  | (refine v_kR2 ?_ ?_ ?_ ?_ ?_; (· with_unfolding_all decide +kernel); (· with_unfolding_all decide +kernel); (· with_unfolding_all decide +kernel); (· with_unfolding_all decide +kernel))
  | refine v_gn ?_ | refine v_gt2 ?_ | refine v_gt3 ?_ | refine v_lc ?_ | refine v_for ?_ | refine v_setO ?_ | refine v_drop ?_ | (apply v_app; · with_unfolding_all exact rfl) | (apply v_setI; · with_unfolding_all exact rfl) | (apply v_rel; · with_unfolding_all exact rfl) | refine v_raise ?_ | refine v_par ?_ | refine v_kP ?_ | refine v_asg ?_
  | (apply v_aug; · with_unfolding_all exact rfl) | refine v_ifT ?_ | refine v_ifF ?_ | (refine v_pow ?_ ?_ ?_ ?_; (· with_unfolding_all decide +kernel); (· with_unfolding_all decide +kernel); (· with_unfolding_all decide +kernel)) | refine v_call0 ?_ | (apply v_lenr; · assumption) | (apply v_seqr; · assumption) | (apply v_kSeqr; · assumption) | (apply v_kSlr; · assumption)
  | refine v_ix0 ?_ | refine v_ix1 ?_ | refine v_ix2 ?_ | refine v_zip ?_ | refine v_kZl ?_ | refine v_kZt ?_ | (apply v_augI; · with_unfolding_all exact rfl) | refine v_try ?_ | refine v_isE ?_ | (refine v_kIE ?_ ?_; (· with_unfolding_all exact rfl)) | refine v_isB ?_ | refine v_notB ?_ | refine v_all ?_ | refine v_par3 ?_ | refine v_ifnT ?_ | refine v_ifnF ?_ | refine v_eqs ?_ | refine v_nes ?_ | refine v_rvs ?_ | refine v_kRvl ?_ | refine v_kRvt ?_
  | (refine v_mulb (a := ?a) (b := ?b) ?ha ?hb ?l ?h; (case ha => assumption); (case hb => assumption); (case l => omega)) | (refine v_fdivb (b := ?b) ?h0 ?hb ?l ?h; (case h0 => assumption); (case hb => assumption); (case l => omega)))
local macro_rules | `(tactic| walk_at "o") => `(tactic| first | walk_at "s" | with_reducible first
  | refine v_chn ?_ | refine v_signs ?_ | refine v_kSg ?_ | refine v_inS ?_ | refine v_ninS ?_ | (refine v_inQ2 ?_ ?_ ?_ ?_; (· first | assumption | (with_unfolding_all decide +kernel)); (· with_unfolding_all decide +kernel); (· with_unfolding_all decide +kernel)) | (refine v_inQ3 ?_ ?_ ?_ ?_ ?_; (· first | assumption | (with_unfolding_all decide +kernel)); (· with_unfolding_all decide +kernel); (· with_unfolding_all decide +kernel); (· with_unfolding_all decide +kernel)) | (refine v_inQ4 ?_ ?_ ?_ ?_ ?_ ?_; (· first | assumption | (with_unfolding_all decide +kernel)); (· with_unfolding_all decide +kernel); (· with_unfolding_all decide +kernel); (· with_unfolding_all decide +kernel); (· with_unfolding_all decide +kernel))
  | refine v_inF ?_ | refine v_getF ?_ | refine v_kGF ?_ | (refine v_gGetF ?_ ?_; (· with_unfolding_all exact rfl)) | refine v_slS ?_ | (refine v_kSS ?_ ?_; (· first | assumption | omega)) | refine v_intUi ?_ | (refine v_lens ?_ ?_; (· first | assumption | omega)) | refine v_dH ?_ | refine v_hInt ?_ | refine v_hNeg ?_ | refine v_fset ?_
  | (apply v_hVar; (· with_unfolding_all exact rfl); (· rfl)))
def sg7 : List Nat := [43, 45, 42, 47, 94, 120]
def isSg (c : Nat) : Bool := decide (c ∈ sg7)
theorem sg_in (c : Nat) : decide (c ∈ ("+-*/^x" : Str).cps.toList) = isSg c := by
  rw [show ("+-*/^x" : Str).cps.toList = sg7 by decide +kernel]; rfl
abbrev WSt := List (List Nat) × Bool
def wstep (s : WSt) (c : Nat) : Option WSt :=
  if (isDig c && s.2) = true then some (s.1.dropLast ++ [s.1.getLastD [] ++ [c]], true)
  else if (isDig c || isSg c) = true then some (s.1 ++ [[c]], isDig c)
  else if c = 32 then some (s.1, false) else none
def wrun : WSt → List Nat → Option WSt
  | s, [] => some s
  | s, c :: r => (wstep s c).bind fun s' => wrun s' r
def wds (l : List Nat) : Option (List (List Nat)) := (wrun ([], false) l).map (·.1)
theorem wrun_app : ∀ (l r : List Nat) (s : WSt), wrun s (l ++ r) = (wrun s l).bind fun s' => wrun s' r
  | [], _, _ => rfl
  | c :: l, r, s => by
    show (wstep s c).bind (fun s' => wrun s' (l ++ r)) = ((wstep s c).bind fun s' => wrun s' l).bind _
    cases wstep s c with
    | none => rfl
    | some s' => exact wrun_app l r s'
/-- a word: a run of figures, or one sign -/
def Wok (w : List Nat) : Prop := (w ≠ [] ∧ w.all isDig = true) ∨ ∃ c, isSg c = true ∧ w = [c]
theorem dig_sg {c : Nat} (h : isDig c = true) : isSg c = false := by
  unfold isDig at h
  simp only [Bool.and_eq_true, decide_eq_true_eq] at h
  unfold isSg sg7
  rw [decide_eq_false_iff_not]
  simp
  omega
structure WInv (s : WSt) : Prop where
  ok : ∀ w ∈ s.1, Wok w
  j : s.2 = true → ∃ a w, s.1 = a ++ [w] ∧ w ≠ [] ∧ w.all isDig = true
theorem winv0 : WInv ([], false) := ⟨(fun _ h => by cases h), fun z => Bool.noConfusion (show false = true from z)⟩
theorem winv_step {s s' : WSt} {c : Nat} (h : WInv s) (e : wstep s c = some s') : WInv s' := by
  unfold wstep at e
  split at e
  · rename_i q
    rw [Bool.and_eq_true] at q
    obtain ⟨a, w, e1, e2, e3⟩ := h.j q.2
    rw [e1, List.dropLast_concat, List.getLastD_concat] at e
    cases e
    have d : (w ++ [c]).all isDig = true := by rw [List.all_append, e3]; simpa using q.1
    refine ⟨fun x hx => ?_, fun _ => ⟨a, w ++ [c], rfl, by simp, d⟩⟩
    rcases List.mem_append.mp hx with hx | hx
    · exact h.ok x (by rw [e1]; exact List.mem_append_left _ hx)
    · simp at hx; subst hx; exact .inl ⟨by simp, d⟩
  · split at e
    · rename_i q q2
      cases e
      rw [Bool.or_eq_true] at q2
      refine ⟨fun x hx => ?_, fun hj => ⟨s.1, [c], rfl, by simp, by simpa using hj⟩⟩
      rcases List.mem_append.mp hx with hx | hx
      · exact h.ok x hx
      · simp at hx; subst hx
        rcases q2 with q2 | q2
        · exact .inl ⟨by simp, by simpa using q2⟩
        · exact .inr ⟨c, q2, rfl⟩
    · split at e
      · cases e
        exact ⟨h.ok, fun z => nomatch z⟩
      · cases e
theorem winv_run : ∀ {l : List Nat} {s s' : WSt}, WInv s → wrun s l = some s' → WInv s'
  | [], _, _, h, e => by cases e; exact h
  | c :: r, s, s', h, e => by
    obtain ⟨s1, e1, e2⟩ := Option.bind_eq_some_iff.mp e
    exact winv_run (winv_step h e1) e2
theorem wds_ok {l : List Nat} {ws : List (List Nat)} (h : wds l = some ws) : ∀ w ∈ ws, Wok w := by
  obtain ⟨s, e, rfl⟩ := Option.map_eq_some_iff.mp h
  exact (winv_run winv0 e).ok
/-- how many words, how many signs in them -/
def wsum (ws : List (List Nat)) : Nat := (ws.map List.length).sum
theorem wsum_app (a b : List (List Nat)) : wsum (a ++ b) = wsum a + wsum b := by unfold wsum; simp
theorem wstep_sum {s s' : WSt} {c : Nat} (h : WInv s) (e : wstep s c = some s') : wsum s'.1 ≤ wsum s.1 + 1 ∧ s'.1.length ≤ s.1.length + 1 := by
  unfold wstep at e
  split at e
  · rename_i q
    rw [Bool.and_eq_true] at q
    obtain ⟨a, w, e1, e2, e3⟩ := h.j q.2
    rw [e1, List.dropLast_concat, List.getLastD_concat] at e
    cases e
    rw [e1]
    simp only [wsum_app]
    simp [wsum]
    omega
  · split at e
    · cases e
      simp only [wsum_app]
      simp [wsum]
    · split at e
      · cases e; simp
      · cases e
theorem wrun_sum : ∀ {l : List Nat} {s s' : WSt}, WInv s → wrun s l = some s' → wsum s'.1 ≤ wsum s.1 + l.length ∧ s'.1.length ≤ s.1.length + l.length
  | [], _, _, h, e => by cases e; simp
  | c :: r, s, s', h, e => by
    obtain ⟨s1, e1, e2⟩ := Option.bind_eq_some_iff.mp e
    have a := wstep_sum h e1
    have b := wrun_sum (winv_step h e1) e2
    simp only [List.length_cons]
    omega
theorem wds_sum {l : List Nat} {ws : List (List Nat)} (h : wds l = some ws) : wsum ws ≤ l.length ∧ ws.length ≤ l.length := by
  obtain ⟨s, e, rfl⟩ := Option.map_eq_some_iff.mp h
  have := wrun_sum winv0 e
  simpa [wsum] using this
abbrev wD (w : List Nat) : D := .str (tx w)
def outW : Option (List (List Nat)) → D
  | none => .non
  | some ws => .lst (ws.map wD)
def b_reading_words_of {M : Type} : DS M :=
    (dThen (dSetO 1 (dLst dNil))
    (dThen (dSet 2 (dC (.bl false)))
    (dThen (dFor (dSigns (dBor 0)) (dgN 3)
      (dThen (dIte (dAnd (dTst (dBin gInS (dVar 3) (dC (.str "0123456789")))) (dVal (dVar 2)))
      (dSetI 1 (dBin gAdd (dBin (gIx true) (dOwn 1) (dNeg (dC (.int 1)))) (dVar 3)) (dNeg (dC (.int 1))))
      (dIte (dOr (dTst (dBin gInS (dVar 3) (dC (.str "0123456789")))) (dTst (dBin gInS (dVar 3) (dC (.str "+-*/^x")))))
      (dApp 1 (dVar 3))
      (dIte (dTst (dBin gNe (dVar 3) (dC (.str " "))))
      (dRet (dC .non))
      dNext)))
    (dSet 2 (dBin gInS (dVar 3) (dC (.str "0123456789"))))))
    (dRet (dOwn 1)))))
def s_reading_words_of {M : Type} : DSp M := fun ds m Q Z => ∃ z : Str, ds = [.str z] ∧ z.length ≤ 16000000 ∧ Q (outW (wds z.cps.toList)) m
theorem nls_wD (ws : List (List Nat)) : D.nls (ws.map wD) = true := nls_all.mpr fun d hd => by
  obtain ⟨w, _, rfl⟩ := List.mem_map.mp hd; rfl
theorem v_kSIm {M : Type} {ρ : En} {i : Nat} {ds : List D} {d e : D} {nx : En → M → Prop} {m : M} (n : d.nl = true) (h : nx (ρ.set i (.own (ds ++ [d]))) m) : kSI ρ i (ds ++ [e]) nx d (.int (-1)) m := by
  unfold kSI; dsimp only
  have q : ixN (ds ++ [e]).length (-1) = some ds.length := by
    unfold ixN
    rw [if_neg (by decide), if_pos (by simp; omega)]
    congr 1
    simp
    omega
  rw [q]
  refine ⟨n, ?_⟩
  rw [show (ds ++ [e]).set ds.length d = ds ++ [d] by simp]
  exact h
theorem tx1_ne (c : Nat) : decide ((⟨#[c]⟩ : Str) = (" " : Str)) = decide (c = 32) := by
  rw [show (" " : Str) = tx [32] by decide +kernel, Bool.eq_iff_iff, decide_eq_true_eq, decide_eq_true_eq]
  refine ⟨fun e => ?_, fun e => by rw [e]; rfl⟩
  have := tx_inj (a := [c]) (b := [32]) e
  simpa using this
theorem tx_app (a b : List Nat) : tx a ++ tx b = tx (a ++ b) := by
  have : ∀ x y : Str, (x ++ y).cps = x.cps ++ y.cps := fun _ _ => rfl
  show (⟨(tx a).cps ++ (tx b).cps⟩ : Str) = ⟨(a ++ b).toArray⟩
  congr 1
  simp [tx]
theorem vc_reading_words_of {M : Type} : ∀ ds (m : M) Q Z, s_reading_words_of ds m Q Z → okK [true] ds ∧ b_reading_words_of { nx := fun _ m' => Q .non m', rt := Q, ex := Z } (st0 [true] ds 4) m := by
  rintro ds m Q Z ⟨z, rfl, hl, k⟩
  refine ⟨⟨(fun z => by cases z), trivial⟩, ?_⟩
  unfold b_reading_words_of
  repeat walk_at "o"
  refine v_kO (by rfl) ?_
  repeat walk_at "o"
  have l0 := len_list z
  refine v_kforL (inj := fun c => D.str ⟨#[c]⟩) (fun r ρ m' => m' = m ∧ ∃ (acc : List (List Nat)) (j : Bool) (b : Sl), WInv (acc, j) ∧ wrun (acc, j) r = wrun ([], false) z.cps.toList ∧ acc.length + r.length ≤ z.length ∧ (∀ w ∈ acc, w.length + r.length ≤ z.length) ∧ ρ = [.bor (.str z), .own (acc.map wD), .val (.bl j), b]) z.cps.toList
    ⟨rfl, [], false, .un, winv0, rfl, by show 0 + z.cps.toList.length ≤ _; omega, (fun _ h => by cases h), rfl⟩ (fun ρ m' h => ?_) fun c r ρ m' h => ?_
  · obtain ⟨rfl, acc, j, b, _, h2, _, _, rfl⟩ := h
    repeat walk_at "o"
    have e : wds z.cps.toList = some acc := by
      unfold wds
      rw [← h2]
      rfl
    rw [e] at k
    exact k
  · obtain ⟨rfl, acc, j, b, h1, h2, h3, h4, rfl⟩ := h
    have h2 : (wstep (acc, j) c).bind (fun s' => wrun s' r) = wrun ([], false) z.cps.toList := h2
    simp only [List.length_cons] at h3 h4
    repeat walk_at "o"
    rw [dig_in]
    have fin : ∀ {acc' : List (List Nat)} {b' : Sl}, wstep (acc, j) c = some (acc', isDig c) → acc'.length ≤ acc.length + 1 → (∀ w ∈ acc', w.length + r.length ≤ z.length) →
        ∃ r', r.map (fun c => D.str ⟨#[c]⟩) = r'.map (fun c => D.str ⟨#[c]⟩) ∧ m' = m' ∧ ∃ (acc2 : List (List Nat)) (j2 : Bool) (b2 : Sl), WInv (acc2, j2) ∧ wrun (acc2, j2) r' = wrun ([], false) z.cps.toList ∧ acc2.length + r'.length ≤ z.length ∧ (∀ w ∈ acc2, w.length + r'.length ≤ z.length) ∧ [Sl.bor (.str z), .own (acc'.map wD), .val (.bl (isDig c)), b'] = [.bor (.str z), .own (acc2.map wD), .val (.bl j2), b2] := fun {acc' b'} e l4 l5 =>
      ⟨r, rfl, rfl, acc', isDig c, b', winv_step h1 e, by rw [e] at h2; exact h2, by omega, l5, rfl⟩
    cases hd : isDig c with
    | true =>
      try ((with_reducible show @ite _ _ _ _ _); refine v_ifT ?_)
      repeat walk_at "o"
      cases j with
      | true =>
        obtain ⟨a, w, e1, e2, e3⟩ := h1.j rfl
        dsimp only at e1
        subst e1
        have ew : wstep (a ++ [w], true) c = some (a ++ [w ++ [c]], isDig c) := by
          unfold wstep
          rw [hd, if_pos (by rfl), List.dropLast_concat, List.getLastD_concat]
        try ((with_reducible show @ite _ _ _ _ _); refine v_ifT ?_)
        repeat walk_at "o"
        rw [List.map_append]
        refine v_ixL (d := wD w) (atI_last _ _) rfl ?_
        repeat walk_at "o"
        have lw := h4 w (by simp)
        refine v_addStr (by rw [tx_len]; show w.length + 1 ≤ _; omega) ?_
        repeat walk_at "o"
        refine v_kSIm rfl ?_
        repeat walk_at "o"
        rw [dig_in]
        have es : (tx w ++ ⟨#[c]⟩ : Str) = tx (w ++ [c]) := tx_app w [c]
        rw [es]
        refine (show _ from ?_)
        have := fin (b' := .val (.str ⟨#[c]⟩)) ew (by simp) (fun x hx => by
          rcases List.mem_append.mp hx with hx | hx
          · have := h4 x (List.mem_append_left _ hx); omega
          · simp at hx; subst hx; simp; omega)
        rw [List.map_append] at this
        exact this
      | false =>
        try ((with_reducible show @ite _ _ _ _ _); refine v_ifF ?_)
        repeat walk_at "o"
        rw [dig_in, hd]
        repeat walk_at "o"
        try ((with_reducible show @ite _ _ _ _ _); refine v_ifT ?_)
        repeat walk_at "o"
        refine v_appk rfl (by rw [List.length_map]; omega) ?_
        repeat walk_at "o"
        rw [dig_in]
        have ew : wstep (acc, false) c = some (acc ++ [[c]], isDig c) := by
          unfold wstep
          rw [hd]; rfl
        have := fin (b' := .val (.str ⟨#[c]⟩)) ew (by simp) (fun x hx => by
          rcases List.mem_append.mp hx with hx | hx
          · have := h4 x hx; omega
          · simp at hx; subst hx; simp; omega)
        rw [List.map_append] at this
        exact this
    | false =>
      try ((with_reducible show @ite _ _ _ _ _); refine v_ifF ?_)
      repeat walk_at "o"
      rw [dig_in, hd]
      repeat walk_at "o"
      try ((with_reducible show @ite _ _ _ _ _); refine v_ifF ?_)
      repeat walk_at "o"
      rw [sg_in]
      cases hs : isSg c with
      | true =>
        try ((with_reducible show @ite _ _ _ _ _); refine v_ifT ?_)
        repeat walk_at "o"
        refine v_appk rfl (by rw [List.length_map]; omega) ?_
        repeat walk_at "o"
        rw [dig_in]
        have ew : wstep (acc, j) c = some (acc ++ [[c]], isDig c) := by
          unfold wstep
          rw [hd, if_neg (by simp), if_pos (by rw [hs]; rfl)]
        have := fin (b' := .val (.str ⟨#[c]⟩)) ew (by simp) (fun x hx => by
          rcases List.mem_append.mp hx with hx | hx
          · have := h4 x hx; omega
          · simp at hx; subst hx; simp; omega)
        rw [List.map_append] at this
        exact this
      | false =>
        try ((with_reducible show @ite _ _ _ _ _); refine v_ifF ?_)
        repeat walk_at "o"
        rw [tx1_ne]
        by_cases q : c = 32
        · rw [decide_eq_true q]
          try ((with_reducible show @ite _ _ _ _ _); refine v_ifF ?_)
          repeat walk_at "o"
          rw [dig_in]
          have ew : wstep (acc, j) c = some (acc, isDig c) := by
            unfold wstep
            rw [hd, if_neg (by simp), if_neg (by rw [hs]; simp), if_pos q]
          exact fin (b' := .val (.str ⟨#[c]⟩)) ew (by simp) (fun x hx => by have := h4 x hx; omega)
        · rw [decide_eq_false q]
          try ((with_reducible show @ite _ _ _ _ _); refine v_ifT ?_)
          repeat walk_at "o"
          have ew : wstep (acc, j) c = none := by
            unfold wstep
            rw [hd, if_neg (by simp), if_neg (by rw [hs]; simp), if_neg q]
          have e : wds z.cps.toList = none := by
            unfold wds
            rw [← h2, ew]
            rfl
          rw [e] at k
          exact k
end RR

/-! VN: whole numbers and fractions -/
namespace RR
open PySem PySem.Spec PyProof.Rows L2
local macro_rules | `(tactic| walk_at "bd") => `(tactic| first | assumption | exact bd_lit (by decide) | (with_reducible refine bd_mul ?_ ?_ <;> walk_at "bd") | (with_reducible refine bd_add ?_ ?_ <;> walk_at "bd") | (with_reducible refine bd_sub ?_ ?_ <;> walk_at "bd") | (with_reducible refine bd_neg ?_ <;> walk_at "bd"))
local macro_rules | `(tactic| walk_at "s") => `(tactic| with_reducible first
  | refine v_then ?_ | refine v_set ?_ | (apply v_var; · with_unfolding_all exact rfl) | refine v_bin ?_ | refine v_c ?_ | refine v_g0 ?_ | refine v_add ?_ | refine v_cons ?_ | refine v_nil ?_ | refine v_call ?_ | refine v_dB ?_ | refine v_next ?_ | refine v_ret ?_
  | refine v_ite ?_ | refine v_tst ?_ | refine v_kT ?_ | refine v_eqi ?_ | refine v_nei ?_ | refine v_eqr ?_ | refine v_ner ?_ | refine v_eqr0 ?_ | refine v_ner0 ?_ | refine v_eql ?_ | refine v_nel ?_ | refine v_eql0 ?_ | refine v_nel0 ?_ | refine v_isN ?_ | refine v_notN ?_
  | (apply v_bor; · with_unfolding_all exact rfl) | (apply v_own; · with_unfolding_all exact rfl) | refine v_tup ?_ | refine v_lst ?_ | (refine v_sz ?_ ?_; (· with_unfolding_all exact Nat.le_of_ble_eq_true rfl)) | (refine v_gIIz ?_ ?_; (· first | decide | omega))
  | refine v_lentz ?_ | refine v_lenlz ?_ | refine v_lent ?_ | refine v_lenl ?_ | refine v_I1 ?_ | refine v_I2 ?_ | refine v_int ?_ | refine v_seqlz ?_ | refine v_seqtz ?_ | refine v_sl ?_ | refine v_kSll ?_ | refine v_kSlt ?_ | refine v_ono ?_ | refine v_oso ?_ | refine v_kOS ?_
  | refine v_val ?_ | refine v_kVb ?_ | refine v_kVi ?_ | refine v_kVt ?_ | refine v_kVl ?_ | refine v_and ?_ | refine v_or ?_ | refine v_not ?_ | refine v_yes ?_ | refine v_if' ?_ | refine v_isi ?_ | refine v_kIii ?_ | refine v_kIib ?_ | refine v_kItt ?_
  | refine v_andV ?_ | refine v_orV ?_ | refine v_notV ?_ | refine v_kNV ?_ | refine v_neg ?_ | refine v_kNeg ?_ | refine v_seq ?_ | refine v_kSeql ?_ | refine v_kSeqt ?_ | refine v_rng1 ?_ | refine v_rng2 ?_ | refine v_enum ?_ | refine v_revr ?_ | refine v_rev ?_
  | (refine v_kR1 ?_ ?_ ?_; (· decide); (· decide))
  | (refine v_kR2 ?_ ?_ ?_ ?_ ?_; (· decide); (· decide); (· decide); (· decide))
  | refine v_gn ?_ | refine v_gt2 ?_ | refine v_gt3 ?_ | refine v_lc ?_ | refine v_for ?_ | refine v_setO ?_ | refine v_drop ?_ | (apply v_app; · with_unfolding_all exact rfl) | (apply v_setI; · with_unfolding_all exact rfl) | (apply v_rel; · with_unfolding_all exact rfl) | refine v_raise ?_ | refine v_par ?_ | refine v_kP ?_ | refine v_asg ?_
  | (apply v_aug; · with_unfolding_all exact rfl) | refine v_ifT ?_ | refine v_ifF ?_ | (refine v_pow ?_ ?_ ?_ ?_; (· decide); (· decide); (· decide)) | refine v_call0 ?_ | (apply v_lenr; · assumption) | (apply v_seqr; · assumption) | (apply v_kSeqr; · assumption) | (apply v_kSlr; · assumption)
  | refine v_ix0 ?_ | refine v_ix1 ?_ | refine v_ix2 ?_ | refine v_zip ?_ | refine v_kZl ?_ | refine v_kZt ?_ | (apply v_augI; · with_unfolding_all exact rfl) | refine v_try ?_ | refine v_isE ?_ | (refine v_kIE ?_ ?_; (· with_unfolding_all exact rfl)) | refine v_isB ?_ | refine v_notB ?_ | refine v_all ?_ | refine v_par3 ?_ | refine v_ifnT ?_ | refine v_ifnF ?_ | refine v_eqs ?_ | refine v_nes ?_ | refine v_rvs ?_ | refine v_kRvl ?_ | refine v_kRvt ?_
  | (refine v_mulb (a := ?a) (b := ?b) ?ha ?hb ?l ?h; (case ha => assumption); (case hb => assumption); (case l => omega)) | (refine v_fdivb (b := ?b) ?h0 ?hb ?l ?h; (case h0 => assumption); (case hb => assumption); (case l => omega)))
theorem gcd_step {x y : Int} (h0 : 0 ≤ x) (h1 : 0 < y) : Int.gcd y (x.fmod y) = Int.gcd x y := by
  rw [Int.fmod_eq_emod_of_nonneg x (Int.le_of_lt h1)]
  obtain ⟨a, rfl⟩ := Int.eq_ofNat_of_zero_le h0
  obtain ⟨b, rfl⟩ := Int.eq_ofNat_of_zero_le (Int.le_of_lt h1)
  rw [← Int.natCast_emod]
  show Nat.gcd _ _ = Nat.gcd _ _
  simp only [Int.natAbs_natCast]
  rw [Nat.gcd_comm, ← Nat.gcd_rec, Nat.gcd_comm]
theorem gcd_abs (x y : Int) : Int.gcd (iabs x) (iabs y) = Int.gcd x y := by
  rw [iabs_eq, iabs_eq]; unfold Int.gcd; simp
theorem gcd_zero {x : Int} (h : 0 ≤ x) : (Int.gcd x 0 : Int) = x := by rw [Int.gcd_zero]; omega
def b_numbers_common {M : Type} : DS M :=
    (dThen (dPar 0 1 (dCons (dB (gI1 iabs) (dCons (dVar 0) dNil)) (dCons (dB (gI1 iabs) (dCons (dVar 1) dNil)) dNil)))
    (dThen (dWhile (dTst (dBin gGt (dVar 1) (dC (.int 0))))
      (dPar 0 1 (dCons (dVar 1) (dCons (dBin (gII Nz fun i j => .int (i.fmod j)) (dVar 0) (dVar 1)) dNil))))
    (dRet (dVar 0))))

def s_numbers_common {M : Type} : DSp M := fun ds m Q Z => ∃ x y, ds = [.int x, .int y] ∧ Q (.int (Int.gcd x y)) m
theorem vc_numbers_common {M : Type} : ∀ ds (m : M) Q Z, s_numbers_common ds m Q Z → okK [false, false] ds ∧ b_numbers_common { nx := fun _ m' => Q .non m', rt := Q, ex := Z } (st0 [false, false] ds 2) m := by
  rintro ds m Q Z ⟨x, y, rfl, q⟩
  refine ⟨⟨fun _ => rfl, fun _ => rfl, trivial⟩, ?_⟩
  unfold b_numbers_common
  repeat walk_at "s"
  refine v_while (fun n ρ m' => m' = m ∧ ∃ a b : Int, ρ = [.val (.int a), .val (.int b)] ∧ 0 ≤ a ∧ 0 ≤ b ∧ n = b.toNat ∧ Int.gcd a b = Int.gcd x y) _ ⟨rfl, _, _, rfl, by rw [iabs_eq]; omega, by rw [iabs_eq]; omega, rfl, gcd_abs x y⟩ fun n ρ m' h => ?_
  obtain ⟨rfl, a, b, rfl, ha, hb, rfl, e⟩ := h
  repeat walk_at "s"
  refine v_ifd (fun h => ?_) fun h => ?_
  · have h1 := Int.fmod_nonneg_of_pos a h
    have h2 := Int.fmod_lt_of_pos a h
    repeat walk_at "s"
    exact ⟨_, by omega, rfl, _, _, rfl, hb, h1, rfl, by rw [gcd_step ha h]; exact e⟩
  · repeat walk_at "s"
    obtain rfl : b = 0 := by omega
    rw [← e, gcd_zero ha] at q
    exact q
/-- the greatest that divides all -/
def gcdL (xs : List Int) : Nat := xs.foldl (fun g x => Int.gcd g x) 0
/-! ### fractions -/
/-- a fraction -/
abbrev pq (r : Rat) : D := .tup [.int r.num, .int r.den]
def part (n d : Int) : Int := if 0 < d then (Int.gcd n d : Int) else 0 - (Int.gcd n d : Int)
theorem part_ne {n d : Int} (hd : d ≠ 0) : part n d ≠ 0 := by
  have : Int.gcd n d ≠ 0 := fun e => hd (Int.gcd_eq_zero_iff.mp e).2
  unfold part; split <;> omega
theorem part_bd {n d : Int} {b : Nat} (hd : d ≠ 0) (h : bd b d) : bd b (part n d) := by
  have h1 : Int.gcd n d ≤ d.natAbs := Nat.le_of_dvd (by omega) (Nat.gcd_dvd_right _ _)
  unfold bd at *
  unfold part; split <;> omega
end RR

/-! VR: rows -/
namespace RR
open PySem PySem.Spec PyProof.Rows L2
local macro_rules | `(tactic| walk_at "bd") => `(tactic| first | assumption | exact bd_lit (by decide) | (with_reducible refine bd_mul ?_ ?_ <;> walk_at "bd") | (with_reducible refine bd_add ?_ ?_ <;> walk_at "bd") | (with_reducible refine bd_sub ?_ ?_ <;> walk_at "bd") | (with_reducible refine bd_neg ?_ <;> walk_at "bd"))
local macro_rules | `(tactic| walk_at "s") => `(tactic| with_reducible first
  | refine v_then ?_ | refine v_set ?_ | (apply v_var; · with_unfolding_all exact rfl) | refine v_bin ?_ | refine v_c ?_ | refine v_g0 ?_ | refine v_add ?_ | refine v_cons ?_ | refine v_nil ?_ | refine v_call ?_ | refine v_dB ?_ | refine v_next ?_ | refine v_ret ?_
  | refine v_ite ?_ | refine v_tst ?_ | refine v_kT ?_ | refine v_eqi ?_ | refine v_nei ?_ | refine v_eqr ?_ | refine v_ner ?_ | refine v_eqr0 ?_ | refine v_ner0 ?_ | refine v_eql ?_ | refine v_nel ?_ | refine v_eql0 ?_ | refine v_nel0 ?_ | refine v_isN ?_ | refine v_notN ?_
  | (apply v_bor; · with_unfolding_all exact rfl) | (apply v_own; · with_unfolding_all exact rfl) | refine v_tup ?_ | refine v_lst ?_ | (refine v_sz ?_ ?_; (· with_unfolding_all exact Nat.le_of_ble_eq_true rfl)) | (refine v_gIIz ?_ ?_; (· first | decide | omega))
  | refine v_lentz ?_ | refine v_lenlz ?_ | refine v_lent ?_ | refine v_lenl ?_ | refine v_I1 ?_ | refine v_I2 ?_ | refine v_int ?_ | refine v_seqlz ?_ | refine v_seqtz ?_ | refine v_sl ?_ | refine v_kSll ?_ | refine v_kSlt ?_ | refine v_ono ?_ | refine v_oso ?_ | refine v_kOS ?_
  | refine v_val ?_ | refine v_kVb ?_ | refine v_kVi ?_ | refine v_kVt ?_ | refine v_kVl ?_ | refine v_and ?_ | refine v_or ?_ | refine v_not ?_ | refine v_yes ?_ | refine v_if' ?_ | refine v_isi ?_ | refine v_kIii ?_ | refine v_kIib ?_ | refine v_kItt ?_
  | refine v_andV ?_ | refine v_orV ?_ | refine v_notV ?_ | refine v_kNV ?_ | refine v_neg ?_ | refine v_kNeg ?_ | refine v_seq ?_ | refine v_kSeql ?_ | refine v_kSeqt ?_ | refine v_rng1 ?_ | refine v_rng2 ?_ | refine v_enum ?_ | refine v_revr ?_ | refine v_rev ?_
  | (refine v_kR1 ?_ ?_ ?_; (· decide); (· decide))
  | (refine v_kR2 ?_ ?_ ?_ ?_ ?_; (· decide); (· decide); (· decide); (· decide))
  | refine v_gn ?_ | refine v_gt2 ?_ | refine v_gt3 ?_ | refine v_lc ?_ | refine v_for ?_ | refine v_setO ?_ | refine v_drop ?_ | (apply v_app; · with_unfolding_all exact rfl) | (apply v_setI; · with_unfolding_all exact rfl) | (apply v_rel; · with_unfolding_all exact rfl) | refine v_raise ?_ | refine v_par ?_ | refine v_kP ?_ | refine v_asg ?_
  | (apply v_aug; · with_unfolding_all exact rfl) | refine v_ifT ?_ | refine v_ifF ?_ | (refine v_pow ?_ ?_ ?_ ?_; (· decide); (· decide); (· decide)) | refine v_call0 ?_ | (apply v_lenr; · assumption) | (apply v_seqr; · assumption) | (apply v_kSeqr; · assumption) | (apply v_kSlr; · assumption)
  | refine v_ix0 ?_ | refine v_ix1 ?_ | refine v_ix2 ?_ | refine v_zip ?_ | refine v_kZl ?_ | refine v_kZt ?_ | (apply v_augI; · with_unfolding_all exact rfl) | refine v_try ?_ | refine v_isE ?_ | (refine v_kIE ?_ ?_; (· with_unfolding_all exact rfl)) | refine v_isB ?_ | refine v_notB ?_ | refine v_all ?_ | refine v_par3 ?_ | refine v_ifnT ?_ | refine v_ifnF ?_ | refine v_eqs ?_ | refine v_nes ?_ | refine v_rvs ?_ | refine v_kRvl ?_ | refine v_kRvt ?_
  | (refine v_mulb (a := ?a) (b := ?b) ?ha ?hb ?l ?h; (case ha => assumption); (case hb => assumption); (case l => omega)) | (refine v_fdivb (b := ?b) ?h0 ?hb ?l ?h; (case h0 => assumption); (case hb => assumption); (case l => omega)))
/-! ### noughts at the end -/
def b_rows_row_of {M : Type} : DS M :=
    (dThen (dSet 1 (dB gLen (dCons (dBor 0) dNil)))
    (dThen (dWhile (dAnd (dTst (dBin gGt (dVar 1) (dC (.int 0)))) (dTst (dBin gEq (dBin (gIx true) (dBor 0) (dBin (g0 fun i j => .int (i - j)) (dVar 1) (dC (.int 1)))) (dC (.int 0)))))
      (dAug 1 (fun i j => i - j) (dC (.int 1))))
    (dRet (dB (gSeq .tup) (dCons (dSl (dBor 0) dONone (dOSome (dVar 1))) dNil)))))

def s_rows_row_of {M : Type} : DSp M := fun ds m Q Z => ∃ d xs, ds = [d] ∧ isRow d xs ∧ xs.length ≤ 16000000 ∧ ∀ r, R (ser xs) r → Q (.tup (zz r)) m
theorem vc_rows_row_of {M : Type} : ∀ ds (m : M) Q Z, s_rows_row_of ds m Q Z → okK [true] ds ∧ b_rows_row_of { nx := fun _ m' => Q .non m', rt := Q, ex := Z } (st0 [true] ds 2) m := by
  rintro ds m Q Z ⟨d, xs, rfl, hd, hl, q⟩
  have q := q (strip xs) (R.of rfl)
  refine ⟨⟨fun h => (nomatch h), trivial⟩, ?_⟩
  unfold b_rows_row_of
  repeat walk_at "s"
  refine v_while (fun n ρ m' => m' = m ∧ ρ = [.bor d, .val (.int n)] ∧ n ≤ xs.length ∧ strip (xs.take n) = strip xs) xs.length ⟨rfl, rfl, Nat.le_refl _, by rw [List.take_length]⟩ fun n ρ m' h => ?_
  obtain ⟨rfl, rfl, hn, hs⟩ := h
  repeat walk_at "s"
  refine v_ifd (fun h => ?_) fun h => ?_
  · repeat walk_at "s"
    refine v_ixr hd (by omega) (by omega) ?_
    repeat walk_at "s"
    obtain ⟨k, rfl⟩ : ∃ k, n = k + 1 := ⟨n - 1, by omega⟩
    have e : ((k + 1 : Nat) : Int) - 1 = k := by omega
    rw [e, nth_get (by omega)]
    refine v_ifd (fun z => ?_) fun z => ?_
    · repeat walk_at "s"
      exact ⟨k, by omega, rfl, by rw [e]; rfl, by omega, by rw [← strip_step (by omega) z]; exact hs⟩
    · repeat walk_at "s"
      intro d' hd'
      rw [cutZ_to (by omega)] at hd'
      repeat walk_at "s"
      rw [Int.toNat_natCast, ← strip_stop (by omega) z, hs]
      exact q
  · repeat walk_at "s"
    intro d' hd'
    rw [cutZ_to (by omega)] at hd'
    repeat walk_at "s"
    have e : n = 0 := by omega
    subst e
    rw [← hs] at q
    exact q
/-! ### sums -/
def b_rows_at_size {M : Type} : DS M :=
    (dRet (dBin gAdd (dB (gSeq .lst) (dCons (dVar 0) dNil)) (dBin gMul (dLst (dCons (dC (.int 0)) dNil)) (dBin (g0 fun i j => .int (i - j)) (dVar 1) (dB gLen (dCons (dVar 0) dNil))))))

def s_rows_at_size {M : Type} : DSp M := fun ds m Q Z => ∃ xs n, ds = [.tup (zz xs), .int n] ∧ xs.length ≤ n ∧ n ≤ 8000000 ∧ Q (.lst (zz (padTo n.toNat xs))) m
theorem pad_toNat {xs : List Int} {n : Int} : xs ++ List.replicate (n - (xs.length : Int)).toNat 0 = padTo n.toNat xs := by
  unfold padTo
  rw [show (n - (xs.length : Int)).toNat = n.toNat - xs.length by omega]
theorem vc_rows_at_size {M : Type} : ∀ ds (m : M) Q Z, s_rows_at_size ds m Q Z → okK [false, false] ds ∧ b_rows_at_size { nx := fun _ m' => Q .non m', rt := Q, ex := Z } (st0 [false, false] ds 2) m := by
  rintro ds m Q Z ⟨xs, n, rfl, h1, h2, q⟩
  refine ⟨⟨fun _ => nl_row xs, fun _ => rfl, trivial⟩, ?_⟩
  unfold b_rows_at_size
  repeat walk_at "s"
  refine v_repl1 (by omega) (by omega) ?_
  refine v_addlz (by rw [List.length_replicate]; omega) ?_
  rw [pad_toNat]
  exact q
def b_rows_plus {M : Type} : DS M :=
    (dThen (dSet 2 (dB (gI2 imax) (dCons (dB gLen (dCons (dVar 0) dNil)) (dCons (dB gLen (dCons (dVar 1) dNil)) dNil))))
    (dRet (dCall s_rows_row_of [] (dCons (dLc (dZip false (dCall s_rows_at_size [] (dCons (dVar 0) (dCons (dVar 2) dNil))) (dCall s_rows_at_size [] (dCons (dVar 1) (dCons (dVar 2) dNil)))) (dgT 2 (dgCons (dgN 3) (dgCons (dgN 4) dgNil))) dYes (dBin gAdd (dVar 3) (dVar 4)) [3, 4]) dNil))))

def s_rows_plus {M : Type} : DSp M := fun ds m Q Z => ∃ xs ys, ds = [.tup (zz xs), .tup (zz ys)] ∧ xs.length ≤ 1000000 ∧ ys.length ≤ 1000000 ∧ ∀ r, R (ser xs + ser ys) r → Q (.tup (zz r)) m
theorem ser_zip1 {k : Nat} {xs ys : List Int} (h1 : xs.length ≤ k) (h2 : ys.length ≤ k) : ser (List.zipWith (fun x y => x + y) (padTo k xs) (padTo k ys)) = ser xs + ser ys := Ser.ext fun j => by
  rw [ser_co, zip_co rfl (by rw [pad_len h1, pad_len h2]), pad_co, pad_co, Ser.add_co]; rfl
theorem vc_rows_plus {M : Type} : ∀ ds (m : M) Q Z, s_rows_plus ds m Q Z → okK [false, false] ds ∧ b_rows_plus { nx := fun _ m' => Q .non m', rt := Q, ex := Z } (st0 [false, false] ds 5) m := by
  rintro ds m Q Z ⟨xs, ys, rfl, h1, h2, q⟩
  refine ⟨⟨fun _ => nl_row xs, fun _ => nl_row ys, trivial⟩, ?_⟩
  unfold b_rows_plus
  repeat walk_at "s"
  rw [imax_eq]
  refine ⟨xs, _, rfl, by omega, by omega, ?_⟩
  repeat walk_at "s"
  refine ⟨ys, _, rfl, by omega, by omega, ?_⟩
  have e : (max (xs.length : Int) (ys.length : Int)).toNat = max xs.length ys.length := by omega
  rw [e]
  have p1 : (padTo (max xs.length ys.length) xs).length = max xs.length ys.length := pad_len (by omega)
  have p2 : (padTo (max xs.length ys.length) ys).length = max xs.length ys.length := pad_len (by omega)
  repeat walk_at "s"
  refine lc_zip (f := fun x y => x + y) (fun a _ b _ m k l hk => ?_) (by omega) ?_
  · repeat walk_at "s"
    exact hk
  repeat walk_at "s"
  refine ⟨_, _, rfl, isRow_l, by rw [List.length_zipWith]; omega, fun r hr => q r ?_⟩
  rw [ser_zip1 (by omega) (by omega)] at hr
  exact hr
/-! ### products -/
end RR

/-! VL: what laws draw -/
namespace RR
open PySem PySem.Spec PyProof.Rows L2
local macro_rules | `(tactic| walk_at "bd") => `(tactic| first | assumption | exact bd_lit (by decide) | (with_reducible refine bd_mul ?_ ?_ <;> walk_at "bd") | (with_reducible refine bd_add ?_ ?_ <;> walk_at "bd") | (with_reducible refine bd_sub ?_ ?_ <;> walk_at "bd") | (with_reducible refine bd_neg ?_ <;> walk_at "bd"))
local macro_rules | `(tactic| walk_at "s") => `(tactic| with_reducible first
  | refine v_then ?_ | refine v_set ?_ | (apply v_var; · with_unfolding_all exact rfl) | refine v_bin ?_ | refine v_c ?_ | refine v_g0 ?_ | refine v_add ?_ | refine v_cons ?_ | refine v_nil ?_ | refine v_call ?_ | refine v_dB ?_ | refine v_next ?_ | refine v_ret ?_
  | refine v_ite ?_ | refine v_tst ?_ | refine v_kT ?_ | refine v_eqi ?_ | refine v_nei ?_ | refine v_eqr ?_ | refine v_ner ?_ | refine v_eqr0 ?_ | refine v_ner0 ?_ | refine v_eql ?_ | refine v_nel ?_ | refine v_eql0 ?_ | refine v_nel0 ?_ | refine v_isN ?_ | refine v_notN ?_
  | (apply v_bor; · with_unfolding_all exact rfl) | (apply v_own; · with_unfolding_all exact rfl) | refine v_tup ?_ | refine v_lst ?_ | (refine v_sz ?_ ?_; (· with_unfolding_all exact Nat.le_of_ble_eq_true rfl)) | (refine v_gIIz ?_ ?_; (· first | decide | omega))
  | refine v_lentz ?_ | refine v_lenlz ?_ | refine v_lent ?_ | refine v_lenl ?_ | refine v_I1 ?_ | refine v_I2 ?_ | refine v_int ?_ | refine v_seqlz ?_ | refine v_seqtz ?_ | refine v_sl ?_ | refine v_kSll ?_ | refine v_kSlt ?_ | refine v_ono ?_ | refine v_oso ?_ | refine v_kOS ?_
  | refine v_val ?_ | refine v_kVb ?_ | refine v_kVi ?_ | refine v_kVt ?_ | refine v_kVl ?_ | refine v_and ?_ | refine v_or ?_ | refine v_not ?_ | refine v_yes ?_ | refine v_if' ?_ | refine v_isi ?_ | refine v_kIii ?_ | refine v_kIib ?_ | refine v_kItt ?_
  | refine v_andV ?_ | refine v_orV ?_ | refine v_notV ?_ | refine v_kNV ?_ | refine v_neg ?_ | refine v_kNeg ?_ | refine v_seq ?_ | refine v_kSeql ?_ | refine v_kSeqt ?_ | refine v_rng1 ?_ | refine v_rng2 ?_ | refine v_enum ?_ | refine v_revr ?_ | refine v_rev ?_
  | (refine v_kR1 ?_ ?_ ?_; (· decide); (· decide))
  | (refine v_kR2 ?_ ?_ ?_ ?_ ?_; (· decide); (· decide); (· decide); (· decide))
  | refine v_gn ?_ | refine v_gt2 ?_ | refine v_gt3 ?_ | refine v_lc ?_ | refine v_for ?_ | refine v_setO ?_ | refine v_drop ?_ | (apply v_app; · with_unfolding_all exact rfl) | (apply v_setI; · with_unfolding_all exact rfl) | (apply v_rel; · with_unfolding_all exact rfl) | refine v_raise ?_ | refine v_par ?_ | refine v_kP ?_ | refine v_asg ?_
  | (apply v_aug; · with_unfolding_all exact rfl) | refine v_ifT ?_ | refine v_ifF ?_ | (refine v_pow ?_ ?_ ?_ ?_; (· decide); (· decide); (· decide)) | refine v_call0 ?_ | (apply v_lenr; · assumption) | (apply v_seqr; · assumption) | (apply v_kSeqr; · assumption) | (apply v_kSlr; · assumption)
  | refine v_ix0 ?_ | refine v_ix1 ?_ | refine v_ix2 ?_ | refine v_zip ?_ | refine v_kZl ?_ | refine v_kZt ?_ | (apply v_augI; · with_unfolding_all exact rfl) | refine v_try ?_ | refine v_isE ?_ | (refine v_kIE ?_ ?_; (· with_unfolding_all exact rfl)) | refine v_isB ?_ | refine v_notB ?_ | refine v_all ?_ | refine v_par3 ?_ | refine v_ifnT ?_ | refine v_ifnF ?_ | refine v_eqs ?_ | refine v_nes ?_ | refine v_rvs ?_ | refine v_kRvl ?_ | refine v_kRvt ?_
  | (refine v_mulb (a := ?a) (b := ?b) ?ha ?hb ?l ?h; (case ha => assumption); (case hb => assumption); (case l => omega)) | (refine v_fdivb (b := ?b) ?h0 ?hb ?l ?h; (case h0 => assumption); (case hb => assumption); (case l => omega)))
theorem v_drawN {N : Nat} {many : Int} {Q : D → Option Nat → Prop} {Z : Str → Option Nat → Prop} (hN : 1 ≤ N) (h0 : 0 < many) (hb : many.natAbs < 2 ^ 250) (h : ∀ x, 0 ≤ x → x < many → Q (.int x) (some (N - 1))) : s__law_draw [.hnd hdl, .int many] (some N) Q Z := by
  obtain ⟨k, rfl⟩ : ∃ k, N = k + 1 := ⟨N - 1, by omega⟩
  exact v_draw h0 hb h
end RR

/-! MP: polynomials with fractions, in lowest terms -/
namespace RR
open PySem PySem.Spec PyProof.Rows L2
/-- whole numbers as fractions -/
def qs (f : Ser Int) : Ser Rat := ⟨fun k => (f.co k : Rat)⟩
theorem qs_co (f : Ser Int) (k : Nat) : (qs f).co k = (f.co k : Rat) := rfl
theorem qs_add (f g : Ser Int) : qs (f + g) = qs f + qs g := Ser.ext fun k => by rw [qs_co, Ser.add_co, Ser.add_co, Rat.intCast_add]; rfl
theorem qs_C (c : Int) : qs (Ser.C c) = Ser.C (c : Rat) := Ser.ext fun k => by
  rw [qs_co, Ser.C_co, Ser.C_co]; split <;> rfl
theorem qs_mulc : ∀ (k : Nat) (f g : Ser Int), ((Ser.mulc k f g : Int) : Rat) = Ser.mulc k (qs f) (qs g)
  | 0, f, g => by show ((f.co 0 * g.co 0 : Int) : Rat) = _; rw [Rat.intCast_mul]; rfl
  | k + 1, f, g => by
    show ((f.co 0 * g.co (k + 1) + Ser.mulc k f.tl g : Int) : Rat) = (f.co 0 : Rat) * (g.co (k + 1) : Rat) + Ser.mulc k (qs f).tl (qs g)
    rw [Rat.intCast_add, Rat.intCast_mul, qs_mulc k f.tl g]; rfl
theorem qs_mul (f g : Ser Int) : qs (f * g) = qs f * qs g := Ser.ext fun k => qs_mulc k f g
theorem qs_xp (k : Nat) : qs (xp k) = xp k := Ser.ext fun j => by rw [qs_co, xp_co, xp_co]; split <;> rfl
theorem qs_zero : qs 0 = 0 := Ser.ext fun k => by rw [qs_co, zero_co, zero_co]; rfl
theorem qs_one : qs 1 = 1 := Ser.ext fun k => by rw [qs_co, one_co, one_co]; split <;> rfl
theorem cne {d : Int} (h : d ≠ 0) : (d : Rat) ≠ 0 := fun e => h (Rat.intCast_inj.mp e)
theorem Cq_cancel {c : Rat} {f g : Ser Rat} (hc : c ≠ 0) (h : Ser.C c * f = Ser.C c * g) : f = g := Ser.ext fun k => by
  have := congrArg (fun f => Ser.co f k) h
  simp only [Ser.C_mul_co] at this
  have e : c⁻¹ * (c * f.co k) = c⁻¹ * (c * g.co k) := by rw [this]
  rw [← Lean.Grind.Semiring.mul_assoc, ← Lean.Grind.Semiring.mul_assoc, Rat.inv_mul_cancel c hc] at e
  grind
/-! ### the common part of a row's numbers -/
theorem gcd_fold_dvd : ∀ (xs : List Int) (g : Nat), (xs.foldl (fun g x => Int.gcd g x) g) ∣ g ∧ ∀ x ∈ xs, ((xs.foldl (fun g x => Int.gcd g x) g : Nat) : Int) ∣ x
  | [], g => ⟨Nat.dvd_refl _, fun _ h => nomatch h⟩
  | x :: xs, g => by
    obtain ⟨h1, h2⟩ := gcd_fold_dvd xs (Int.gcd g x)
    have a : Int.gcd g x ∣ g := by have := Int.gcd_dvd_natAbs_left (g : Int) x; simpa using this
    have b : ((Int.gcd g x : Nat) : Int) ∣ x := Int.gcd_dvd_right ..
    refine ⟨Nat.dvd_trans h1 a, fun y hy => ?_⟩
    rcases List.mem_cons.mp hy with rfl | hy
    · exact Int.dvd_trans (Int.natCast_dvd_natCast.mpr h1) b
    · exact h2 y hy
theorem gcdL_dvd {xs : List Int} {x : Int} (h : x ∈ xs) : ((gcdL xs : Nat) : Int) ∣ x := (gcd_fold_dvd xs 0).2 x h
theorem gcd_fold_great : ∀ (xs : List Int) (g k : Nat), k ∣ g → (∀ x ∈ xs, (k : Int) ∣ x) → k ∣ xs.foldl (fun g x => Int.gcd g x) g
  | [], g, k, h, _ => h
  | x :: xs, g, k, h, hx => gcd_fold_great xs _ k (Int.natCast_dvd_natCast.mp (Int.dvd_coe_gcd (Int.natCast_dvd_natCast.mpr h) (hx x List.mem_cons_self))) fun y hy => hx y (List.mem_cons_of_mem _ hy)
theorem gcdL_great {xs : List Int} {k : Nat} (h : ∀ x ∈ xs, (k : Int) ∣ x) : k ∣ gcdL xs := gcd_fold_great xs 0 k (Nat.dvd_zero k) h
/-! ### lowest terms -/
/-- f is the row r by d, in lowest terms -/
structure P (f : Ser Rat) (r : List Int) (d : Int) : Prop where
  pos : 0 < d
  dn : done r
  low : Int.gcd (gcdL r) d = 1
  eq : Ser.C (d : Rat) * f = qs (ser r)
theorem dvd_of_all {r : List Int} {d e : Int} (h : Int.gcd (gcdL r) d = 1) (a : ∀ x ∈ r, d ∣ x * e) : d ∣ e := by
  have fold : ∀ (xs : List Int) (g : Nat), (d ∣ (g : Int) * e) → (∀ x ∈ xs, d ∣ x * e) → d ∣ ((xs.foldl (fun g x => Int.gcd g x) g : Nat) : Int) * e := by
    intro xs
    induction xs with
    | nil => exact fun g h _ => h
    | cons x xs ih =>
      intro g hg hx
      refine ih _ ?_ fun y hy => hx y (List.mem_cons_of_mem _ hy)
      have := Int.dvd_coe_gcd hg (hx x List.mem_cons_self)
      rw [Int.gcd_mul_right] at this
      have e2 : ((Int.gcd g x : Int) * e).natAbs = Int.gcd g x * e.natAbs := by rw [Int.natAbs_mul]; simp
      exact Int.dvd_natAbs.mp (by rw [e2]; exact this)
  have h1 := fold r 0 (by simp) a
  have h1 : d ∣ (gcdL r : Int) * e := h1
  have h2 : d ∣ d * e := Int.dvd_mul_right ..
  have h3 := Int.dvd_coe_gcd h1 h2
  rw [Int.gcd_mul_right, h, Nat.one_mul] at h3
  exact Int.dvd_natAbs.mp h3
theorem P.get {f : Ser Rat} {r : List Int} {d : Int} (h : P f r d) (k : Nat) : (d : Rat) * f.co k = (r.getD k 0 : Int) := by
  have := congrArg (fun f => Ser.co f k) h.eq
  simp only [Ser.C_mul_co, qs_co, ser_co] at this
  exact this
theorem P.dq {f : Ser Rat} {r : List Int} {d : Int} (h : P f r d) : (d : Rat) ≠ 0 := cne (by have := h.pos; omega)
theorem P.uniq {f : Ser Rat} {r r' : List Int} {d d' : Int} (h : P f r d) (h' : P f r' d') : r = r' ∧ d = d' := by
  have cross : ∀ k, r.getD k 0 * d' = r'.getD k 0 * d := fun k => by
    have e1 := h.get k
    have e2 := h'.get k
    refine Rat.intCast_inj.mp ?_
    rw [Rat.intCast_mul, Rat.intCast_mul, ← e1, ← e2]; grind
  have dv : ∀ {r r' : List Int} {d d' : Int}, Int.gcd (gcdL r) d = 1 → (∀ k, r.getD k 0 * d' = r'.getD k 0 * d) → d ∣ d' := fun {r r' d d'} g c => dvd_of_all g fun x hx => by
    obtain ⟨i, hi, rfl⟩ := List.mem_iff_getElem.mp hx
    have := c i
    rw [List.getD_eq_getElem?_getD, List.getElem?_eq_getElem hi] at this
    exact ⟨r'.getD i 0, by rw [Int.mul_comm d]; exact this⟩
  have e : d = d' := Int.dvd_antisymm (Int.le_of_lt h.pos) (Int.le_of_lt h'.pos) (dv h.low cross) (dv h'.low fun k => (cross k).symm)
  subst e
  refine ⟨done_uniq h.dn h'.dn (Ser.ext fun k => ?_), rfl⟩
  have := cross k
  have d0 := h.pos
  exact Int.eq_of_mul_eq_mul_right (by omega) this
theorem P.inj {f g : Ser Rat} {r : List Int} {d : Int} (h : P f r d) (h' : P g r d) : f = g := Cq_cancel h.dq (h.eq.trans h'.eq.symm)
theorem P.cong {f g : Ser Rat} {r : List Int} {d : Int} (h : P f r d) (e : f = g) : P g r d := e ▸ h
theorem P.far {f : Ser Rat} {r : List Int} {d : Int} (h : P f r d) : RR.far r.length f := fun k hk => by
  have := h.get k
  rw [getD_far hk, Rat.intCast_zero] at this
  have e : (d : Rat)⁻¹ * ((d : Rat) * f.co k) = (d : Rat)⁻¹ * 0 := by rw [this]
  rw [← Lean.Grind.Semiring.mul_assoc, Rat.inv_mul_cancel _ h.dq] at e
  grind
theorem P.top {f : Ser Rat} {r : List Int} {d : Int} (h : P f r d) (n : r ≠ []) : RR.top (r.length - 1) f := by
  have l0 := List.length_pos_iff.mpr n
  refine ⟨fun k hk => h.far k (by omega), fun e => done_last h.dn n ?_⟩
  have := h.get (r.length - 1)
  rw [e, Lean.Grind.Semiring.mul_zero] at this
  exact Rat.intCast_inj.mp this.symm
theorem P.nil : P 0 [] 1 := ⟨by decide, rfl, by decide, by rw [ser_nil, qs_zero]; grind⟩
theorem P.zero {f : Ser Rat} {r : List Int} {d : Int} (h : P f r d) : f = 0 ↔ (r = [] ∧ d = 1) := by
  refine ⟨fun e => ?_, fun ⟨e, e'⟩ => ?_⟩
  · subst e; exact h.uniq P.nil
  · subst e e'; exact h.inj P.nil
/-- the row and the number by which a row by a number is told -/
def lowR (xs : List Int) (d : Int) : List Int := xs.map fun x => x.fdiv (part (gcdL xs) d)
def lowD (xs : List Int) (d : Int) : Int := d.fdiv (part (gcdL xs) d)
theorem part_dvd {n d : Int} : part n d ∣ n ∧ part n d ∣ d := by
  have h1 : ((Int.gcd n d : Nat) : Int) ∣ n := Int.gcd_dvd_left ..
  have h2 : ((Int.gcd n d : Nat) : Int) ∣ d := Int.gcd_dvd_right ..
  unfold part; split
  · exact ⟨h1, h2⟩
  · rw [show (0 : Int) - (Int.gcd n d : Int) = -(Int.gcd n d : Int) by omega]
    exact ⟨Int.neg_dvd.mpr h1, Int.neg_dvd.mpr h2⟩
theorem lowR_mul {xs : List Int} {d : Int} (hd : d ≠ 0) : xs = (lowR xs d).map fun x => part (gcdL xs) d * x := by
  unfold lowR
  rw [List.map_map]
  refine (List.map_id xs).symm.trans (List.map_congr_left fun x hx => ?_)
  have p0 := part_ne (n := (gcdL xs : Int)) hd
  obtain ⟨k, hk⟩ := Int.dvd_trans (part_dvd (n := (gcdL xs : Int)) (d := d)).1 (gcdL_dvd hx)
  show x = part (gcdL xs) d * x.fdiv (part (gcdL xs) d)
  generalize part (gcdL xs) d = p at *
  rw [hk, Int.mul_fdiv_cancel_left _ p0]
theorem lowD_mul {xs : List Int} {d : Int} (hd : d ≠ 0) : d = part (gcdL xs) d * lowD xs d := by
  unfold lowD
  have p0 := part_ne (n := (gcdL xs : Int)) hd
  obtain ⟨k, hk⟩ := (part_dvd (n := (gcdL xs : Int)) (d := d)).2
  generalize hp : part (gcdL xs) d = p at *
  rw [hk, Int.mul_fdiv_cancel_left _ p0]
theorem lowD_pos {xs : List Int} {d : Int} (hd : d ≠ 0) : 0 < lowD xs d := by
  have e := lowD_mul (xs := xs) hd
  have g0 : Int.gcd (gcdL xs) d ≠ 0 := fun e => hd (Int.gcd_eq_zero_iff.mp e).2
  have p : (0 < d → 0 < part (gcdL xs) d) ∧ (¬ 0 < d → part (gcdL xs) d < 0) := by
    unfold part; refine ⟨fun h => ?_, fun h => ?_⟩
    · rw [if_pos h]; omega
    · rw [if_neg h]; omega
  generalize part (gcdL xs) d = q at *
  generalize lowD xs d = l at *
  refine Classical.byContradiction fun nl => ?_
  by_cases h : 0 < d
  · have := Int.mul_nonneg (Int.le_of_lt (p.1 h)) (show 0 ≤ -l by omega)
    rw [Int.mul_neg] at this; omega
  · have := Int.mul_nonneg (show 0 ≤ -q by have := p.2 h; omega) (show 0 ≤ -l by omega)
    rw [Int.neg_mul_neg] at this; omega
theorem low_gcd {xs : List Int} {d : Int} (hd : d ≠ 0) : Int.gcd (gcdL (lowR xs d)) (lowD xs d) = 1 := by
  have g0 : Int.gcd (gcdL xs) d ≠ 0 := fun e => hd (Int.gcd_eq_zero_iff.mp e).2
  generalize hk : Int.gcd (gcdL (lowR xs d)) (lowD xs d) = k
  have k1 : ((k : Nat) : Int) ∣ (gcdL (lowR xs d) : Int) := hk ▸ Int.gcd_dvd_left ..
  have k2 : ((k : Nat) : Int) ∣ lowD xs d := hk ▸ Int.gcd_dvd_right ..
  have pn : (part (gcdL xs) d).natAbs = Int.gcd (gcdL xs) d := by unfold part; split <;> omega
  -- k times the part divides all of xs and d
  have h1 : (part (gcdL xs) d).natAbs * k ∣ gcdL xs := gcdL_great fun x hx => by
    rw [lowR_mul (xs := xs) hd] at hx
    obtain ⟨y, hy, rfl⟩ := List.mem_map.mp hx
    have := Int.dvd_trans k1 (gcdL_dvd hy)
    rw [Int.natCast_mul]
    refine Int.mul_dvd_mul ?_ this
    exact Int.natAbs_dvd.mpr (Int.dvd_refl _)
  have h2 : (((part (gcdL xs) d).natAbs * k : Nat) : Int) ∣ d := by
    have e := lowD_mul (xs := xs) hd
    generalize hpp : part (gcdL xs) d = p at *
    rw [e, Int.natCast_mul]
    exact Int.mul_dvd_mul (Int.natAbs_dvd.mpr (Int.dvd_refl _)) k2
  have h3 : (part (gcdL xs) d).natAbs * k ∣ Int.gcd (gcdL xs) d := Int.natCast_dvd_natCast.mp (Int.dvd_coe_gcd (Int.natCast_dvd_natCast.mpr h1) h2)
  rw [pn] at h3
  have h4 := Nat.le_of_dvd (by omega) h3
  have h5 : k ≠ 0 := fun e => by rw [e, Nat.mul_zero] at h3; exact g0 (Nat.eq_zero_of_zero_dvd h3)
  refine Classical.byContradiction fun n => ?_
  have : Int.gcd (gcdL xs) d * 2 ≤ Int.gcd (gcdL xs) d * k := Nat.mul_le_mul_left _ (by omega)
  omega
theorem strip_map_ne {g : Int → Int} {xs : List Int} (h : done xs) (hg : ∀ x ∈ xs, x ≠ 0 → g x ≠ 0) : done (xs.map g) := by
  unfold done at *
  induction xs using strip_ind with
  | h0 => rfl
  | h1 xs a _ =>
    rw [strip_snoc] at h
    by_cases e : a = 0
    · rw [if_pos e] at h
      have := congrArg List.length h
      have := strip_len xs
      rw [List.length_append, List.length_singleton] at *
      omega
    · rw [List.map_append, List.map_singleton, strip_snoc, if_neg (hg a (by simp) e)]
theorem lowR_done {xs : List Int} {d : Int} (hd : d ≠ 0) (h : done xs) : done (lowR xs d) := by
  refine strip_map_ne h fun x hx x0 e => x0 ?_
  have p0 := part_ne (n := (gcdL xs : Int)) hd
  obtain ⟨k, hk⟩ := Int.dvd_trans (part_dvd (n := (gcdL xs : Int)) (d := d)).1 (gcdL_dvd hx)
  generalize part (gcdL xs) d = p at *
  rw [hk, Int.mul_fdiv_cancel_left _ p0] at e
  rw [hk, e, Int.mul_zero]
theorem low_P {f : Ser Rat} {xs : List Int} {d : Int} (hd : d ≠ 0) (h : done xs) (e : Ser.C (d : Rat) * f = qs (ser xs)) : P f (lowR xs d) (lowD xs d) := by
  refine ⟨lowD_pos hd, lowR_done hd h, low_gcd hd, ?_⟩
  have p0 := cne (part_ne (n := (gcdL xs : Int)) hd)
  refine Cq_cancel p0 ?_
  have e1 : Ser.C (d : Rat) = Ser.C ((part (gcdL xs) d : Int) : Rat) * Ser.C ((lowD xs d : Int) : Rat) := by
    rw [← C_mul, ← Rat.intCast_mul, ← lowD_mul hd]
  have e2 : qs (ser xs) = Ser.C ((part (gcdL xs) d : Int) : Rat) * qs (ser (lowR xs d)) := by
    conv => lhs; rw [lowR_mul (xs := xs) hd]
    rw [ser_scale, qs_mul, qs_C]
  rw [← Lean.Grind.Semiring.mul_assoc, ← e1, e, e2]
theorem abs_part {n x : Int} {d : Int} (hd : d ≠ 0) (h : part n d ∣ x) : (x.fdiv (part n d)).natAbs ≤ x.natAbs := by
  have p0 := part_ne (n := n) hd
  obtain ⟨k, hk⟩ := h
  generalize part n d = p at *
  rw [hk, Int.mul_fdiv_cancel_left _ p0, Int.natAbs_mul]
  exact Nat.le_mul_of_pos_left _ (by omega)
theorem lowR_bd {xs : List Int} {d : Int} {a : Nat} (hd : d ≠ 0) (h : ∀ x ∈ xs, bd a x) : ∀ x ∈ lowR xs d, bd a x := fun y hy => by
  obtain ⟨x, hx, rfl⟩ := List.mem_map.mp hy
  have := abs_part hd (Int.dvd_trans (part_dvd (n := (gcdL xs : Int)) (d := d)).1 (gcdL_dvd hx))
  have := h x hx
  unfold bd at *; omega
theorem lowD_bd {xs : List Int} {d : Int} {a : Nat} (hd : d ≠ 0) (h : bd a d) : bd a (lowD xs d) := by
  have := abs_part hd (part_dvd (n := (gcdL xs : Int)) (d := d)).2
  unfold lowD bd at *; omega
theorem lowR_len {xs : List Int} {d : Int} : (lowR xs d).length = xs.length := by unfold lowR; rw [List.length_map]
/-- sizes of a told polynomial -/
structure PB (n a : Nat) (r : List Int) (d : Int) : Prop where
  ln : r.length ≤ n
  bd : ∀ x ∈ r, RR.bd a x
  dd : RR.bd a d
/-- .. by any way it can be put -/
theorem P.PB {f : Ser Rat} {r xs : List Int} {d e : Int} {n a : Nat} (h : P f r d) (e0 : e ≠ 0) (eq : Ser.C (e : Rat) * f = qs (ser xs)) (ln : xs.length ≤ n) (b1 : ∀ x ∈ xs, RR.bd a x) (b2 : RR.bd a e) : RR.PB n a r d := by
  have dn := strip_done xs
  have h' := low_P e0 dn (by rw [ser_strip]; exact eq)
  obtain ⟨rfl, rfl⟩ := h.uniq h'
  exact ⟨by rw [lowR_len]; exact Nat.le_trans (strip_len xs) ln, lowR_bd e0 fun x hx => b1 x (strip_mem hx), lowD_bd e0 b2⟩
theorem PB.mono {n a n' a' : Nat} {r : List Int} {d : Int} (h : PB n a r d) (hn : n ≤ n') (ha : a ≤ a') : PB n' a' r d := ⟨Nat.le_trans h.ln hn, fun x hx => bd_mono (h.bd x hx) ha, bd_mono h.dd ha⟩
abbrev pd (r : List Int) (d : Int) : D := .tup [.tup (zz r), .int d]
end RR

/-! VP: polynomials told, drawn, summed, multiplied -/
namespace RR
open PySem PySem.Spec PyProof.Rows L2
local macro_rules | `(tactic| walk_at "bd") => `(tactic| first | assumption | exact bd_lit (by decide) | (with_reducible refine bd_mul ?_ ?_ <;> walk_at "bd") | (with_reducible refine bd_add ?_ ?_ <;> walk_at "bd") | (with_reducible refine bd_sub ?_ ?_ <;> walk_at "bd") | (with_reducible refine bd_neg ?_ <;> walk_at "bd"))
local macro_rules | `(tactic| walk_at "s") => `(tactic| with_reducible first
  | refine v_then ?_ | refine v_set ?_ | (apply v_var; · with_unfolding_all exact rfl) | refine v_bin ?_ | refine v_c ?_ | refine v_g0 ?_ | refine v_add ?_ | refine v_cons ?_ | refine v_nil ?_ | refine v_call ?_ | refine v_dB ?_ | refine v_next ?_ | refine v_ret ?_
  | refine v_ite ?_ | refine v_tst ?_ | refine v_kT ?_ | refine v_eqi ?_ | refine v_nei ?_ | refine v_eqr ?_ | refine v_ner ?_ | refine v_eqr0 ?_ | refine v_ner0 ?_ | refine v_eql ?_ | refine v_nel ?_ | refine v_eql0 ?_ | refine v_nel0 ?_ | refine v_isN ?_ | refine v_notN ?_
  | (apply v_bor; · with_unfolding_all exact rfl) | (apply v_own; · with_unfolding_all exact rfl) | refine v_tup ?_ | refine v_lst ?_ | (refine v_sz ?_ ?_; (· with_unfolding_all exact Nat.le_of_ble_eq_true rfl)) | (refine v_gIIz ?_ ?_; (· first | decide | omega))
  | refine v_lentz ?_ | refine v_lenlz ?_ | refine v_lent ?_ | refine v_lenl ?_ | refine v_I1 ?_ | refine v_I2 ?_ | refine v_int ?_ | refine v_seqlz ?_ | refine v_seqtz ?_ | refine v_sl ?_ | refine v_kSll ?_ | refine v_kSlt ?_ | refine v_ono ?_ | refine v_oso ?_ | refine v_kOS ?_
  | refine v_val ?_ | refine v_kVb ?_ | refine v_kVi ?_ | refine v_kVt ?_ | refine v_kVl ?_ | refine v_and ?_ | refine v_or ?_ | refine v_not ?_ | refine v_yes ?_ | refine v_if' ?_ | refine v_isi ?_ | refine v_kIii ?_ | refine v_kIib ?_ | refine v_kItt ?_
  | refine v_andV ?_ | refine v_orV ?_ | refine v_notV ?_ | refine v_kNV ?_ | refine v_neg ?_ | refine v_kNeg ?_ | refine v_seq ?_ | refine v_kSeql ?_ | refine v_kSeqt ?_ | refine v_rng1 ?_ | refine v_rng2 ?_ | refine v_enum ?_ | refine v_revr ?_ | refine v_rev ?_
  | (refine v_kR1 ?_ ?_ ?_; (· decide); (· decide))
  | (refine v_kR2 ?_ ?_ ?_ ?_ ?_; (· decide); (· decide); (· decide); (· decide))
  | refine v_gn ?_ | refine v_gt2 ?_ | refine v_gt3 ?_ | refine v_lc ?_ | refine v_for ?_ | refine v_setO ?_ | refine v_drop ?_ | (apply v_app; · with_unfolding_all exact rfl) | (apply v_setI; · with_unfolding_all exact rfl) | (apply v_rel; · with_unfolding_all exact rfl) | refine v_raise ?_ | refine v_par ?_ | refine v_kP ?_ | refine v_asg ?_
  | (apply v_aug; · with_unfolding_all exact rfl) | refine v_ifT ?_ | refine v_ifF ?_ | (refine v_pow ?_ ?_ ?_ ?_; (· decide); (· decide); (· decide)) | refine v_call0 ?_ | (apply v_lenr; · assumption) | (apply v_seqr; · assumption) | (apply v_kSeqr; · assumption) | (apply v_kSlr; · assumption)
  | refine v_ix0 ?_ | refine v_ix1 ?_ | refine v_ix2 ?_ | refine v_zip ?_ | refine v_kZl ?_ | refine v_kZt ?_ | (apply v_augI; · with_unfolding_all exact rfl) | refine v_try ?_ | refine v_isE ?_ | (refine v_kIE ?_ ?_; (· with_unfolding_all exact rfl)) | refine v_isB ?_ | refine v_notB ?_ | refine v_all ?_ | refine v_par3 ?_ | refine v_ifnT ?_ | refine v_ifnF ?_ | refine v_eqs ?_ | refine v_nes ?_ | refine v_rvs ?_ | refine v_kRvl ?_ | refine v_kRvt ?_
  | (refine v_mulb (a := ?a) (b := ?b) ?ha ?hb ?l ?h; (case ha => assumption); (case hb => assumption); (case l => omega)) | (refine v_fdivb (b := ?b) ?h0 ?hb ?l ?h; (case h0 => assumption); (case hb => assumption); (case l => omega)))
/-! ### told polynomials compared -/
theorem eqv_pd {r r' : List Int} {d d' : Int} : (pd r d).eqv (pd r' d') = decide (r = r' ∧ d = d') := by
  show ((D.tup (zz r)).eqv (.tup (zz r')) && ((D.int d).eqv (.int d') && true)) = _
  rw [eqv_row, eqv_int, Bool.and_true, Bool.eq_iff_iff]
  simp
theorem q_pd {n : Nat} {r : List Int} {d : Int} : (pd r d).q (n + 2) = true := by
  simp only [D.q, List.all_cons, List.all_nil, Bool.and_true]
  exact List.all_eq_true.mpr fun x hx => by obtain ⟨i, _, rfl⟩ := List.mem_map.mp hx; exact q_int
section
variable {q : D → Prop} {r r' : List Int} {d d' : Int}
theorem v_eqpd (h : q (.bl (decide (r = r' ∧ d = d')))) : gEq (pd r d) (pd r' d') q := .inl ⟨q_pd, q_pd, by rw [eqv_pd]; exact h⟩
theorem v_nepd (h : q (.bl (!decide (r = r' ∧ d = d')))) : gNe (pd r d) (pd r' d') q := .inl ⟨q_pd, q_pd, by rw [eqv_pd]; exact h⟩
theorem nl_pd : (pd r d).nl = true := by
  show (D.nls (zz r) && true) = true
  rw [nls_ints]; rfl
end
/-! ### content, poly -/
def b_rows_content {M : Type} : DS M :=
    (dThen (dSet 1 (dC (.int 0)))
    (dThen (dFor (dSeq false (dVar 0)) (dgN 2)
      (dSet 1 (dCall s_numbers_common [] (dCons (dVar 1) (dCons (dVar 2) dNil)))))
    (dRet (dVar 1))))

def s_rows_content {M : Type} : DSp M := fun ds m Q Z => ∃ xs, ds = [.tup (zz xs)] ∧ Q (.int (gcdL xs)) m
theorem vc_rows_content {M : Type} : ∀ ds (m : M) Q Z, s_rows_content ds m Q Z → okK [false] ds ∧ b_rows_content { nx := fun _ m' => Q .non m', rt := Q, ex := Z } (st0 [false] ds 3) m := by
  rintro ds m Q Z ⟨xs, rfl, q⟩
  refine ⟨⟨fun _ => nl_row xs, trivial⟩, ?_⟩
  unfold b_rows_content
  repeat walk_at "s"
  refine v_kforZ (fun r ρ m' => m' = m ∧ ∃ (g : Nat) (a2 : Sl), ρ = [.val (.tup (zz xs)), .val (.int g), a2] ∧ r.foldl (fun g x => Int.gcd g x) g = gcdL xs) xs ⟨rfl, 0, _, rfl, rfl⟩ (fun ρ m' h => ?_) fun x r ρ m' h => ?_
  · obtain ⟨rfl, g, _, rfl, e⟩ := h
    repeat walk_at "s"
    rw [← e] at q
    exact q
  · obtain ⟨rfl, g, _, rfl, e⟩ := h
    repeat walk_at "s"
    refine ⟨_, _, rfl, ?_⟩
    repeat walk_at "s"
    exact ⟨rfl, Int.gcd g x, _, rfl, e⟩
def b_polys_poly {M : Type} : DS M :=
    (dThen (dIte (dTst (dBin gEq (dVar 1) (dC (.int 0))))
      (dRaise "ByNought")
      dNext)
    (dThen (dSet 2 (dCall s_numbers_common [] (dCons (dCall s_rows_content [] (dCons (dVar 0) dNil)) (dCons (dVar 1) dNil))))
    (dThen (dSet 2 (dIf (dTst (dBin gGt (dVar 1) (dC (.int 0)))) (dVar 2) (dBin (g0 fun i j => .int (i - j)) (dC (.int 0)) (dVar 2))))
    (dRet (dTup (dCons (dB (gSeq .tup) (dCons (dLc (dSeq false (dVar 0)) (dgN 3) dYes (dBin (gII Nd fun i j => .int (i.fdiv j)) (dVar 3) (dVar 2)) [3]) dNil)) (dCons (dBin (gII Nd fun i j => .int (i.fdiv j)) (dVar 1) (dVar 2)) dNil)))))))

def s_polys_poly {M : Type} : DSp M := fun ds m Q Z => ∃ xs d, ds = [.tup (zz xs), .int d] ∧ xs.length ≤ 1000000 ∧ (d = 0 → Z "ByNought" m) ∧ (d ≠ 0 → Sm xs d ∧ Q (pd (lowR xs d) (lowD xs d)) m)
theorem vc_polys_poly {M : Type} : ∀ ds (m : M) Q Z, s_polys_poly ds m Q Z → okK [false, false] ds ∧ b_polys_poly { nx := fun _ m' => Q .non m', rt := Q, ex := Z } (st0 [false, false] ds 4) m := by
  rintro ds m Q Z ⟨xs, d, rfl, hl, z, q⟩
  refine ⟨⟨fun _ => nl_row xs, fun _ => rfl, trivial⟩, ?_⟩
  unfold b_polys_poly
  repeat walk_at "s"
  refine v_ifd (fun h => ?_) fun h => ?_
  · repeat walk_at "s"
    exact z h
  obtain ⟨hb, q⟩ := q h
  have pn := part_ne (n := (gcdL xs : Int)) h
  have pb := Sm.le hb fun _ z => part_bd (n := (gcdL xs : Int)) h z
  have e1 : 0 < d → (Int.gcd (gcdL xs) d : Int) = part (gcdL xs) d := fun h0 => by unfold part; rw [if_pos h0]
  have e2 : ¬ 0 < d → 0 - (Int.gcd (gcdL xs) d : Int) = part (gcdL xs) d := fun h0 => by unfold part; rw [if_neg h0]
  repeat walk_at "s"
  refine ⟨xs, rfl, ?_⟩
  repeat walk_at "s"
  refine ⟨_, d, rfl, ?_⟩
  repeat walk_at "s"
  refine v_ifd (fun h0 => ?_) fun h0 => ?_
  · repeat walk_at "s"
    rw [e1 h0]
    refine lc_zz (f := fun x => x.fdiv (part (gcdL xs) d)) xs (fun a ha m1 k l hk => ?_) (by omega) ?_
    · repeat walk_at "s"
      refine v_fdivs pn (pb a (List.mem_cons_of_mem _ ha)) ?_
      repeat walk_at "s"
      exact hk
    repeat walk_at "s"
    refine v_fdivs pn (pb d List.mem_cons_self) ?_
    repeat walk_at "s"
    exact q
  · repeat walk_at "s"
    rw [e2 h0]
    refine lc_zz (f := fun x => x.fdiv (part (gcdL xs) d)) xs (fun a ha m1 k l hk => ?_) (by omega) ?_
    · repeat walk_at "s"
      refine v_fdivs pn (pb a (List.mem_cons_of_mem _ ha)) ?_
      repeat walk_at "s"
      exact hk
    repeat walk_at "s"
    refine v_fdivs pn (pb d List.mem_cons_self) ?_
    repeat walk_at "s"
    exact q
theorem gcdL_snoc (xs : List Int) (d : Int) : gcdL (xs ++ [d]) = Int.gcd (gcdL xs) d := by
  unfold gcdL; rw [List.foldl_append]; rfl
/-! ### sums, products by the law -/
/-! ### drawn ones -/
end RR

/-! VQ: quotients and rests -/
namespace RR
open PySem PySem.Spec PyProof.Rows L2
local macro_rules | `(tactic| walk_at "bd") => `(tactic| first | assumption | exact bd_lit (by decide) | (with_reducible refine bd_mul ?_ ?_ <;> walk_at "bd") | (with_reducible refine bd_add ?_ ?_ <;> walk_at "bd") | (with_reducible refine bd_sub ?_ ?_ <;> walk_at "bd") | (with_reducible refine bd_neg ?_ <;> walk_at "bd"))
local macro_rules | `(tactic| walk_at "s") => `(tactic| with_reducible first
  | refine v_then ?_ | refine v_set ?_ | (apply v_var; · with_unfolding_all exact rfl) | refine v_bin ?_ | refine v_c ?_ | refine v_g0 ?_ | refine v_add ?_ | refine v_cons ?_ | refine v_nil ?_ | refine v_call ?_ | refine v_dB ?_ | refine v_next ?_ | refine v_ret ?_
  | refine v_ite ?_ | refine v_tst ?_ | refine v_kT ?_ | refine v_eqi ?_ | refine v_nei ?_ | refine v_eqr ?_ | refine v_ner ?_ | refine v_eqr0 ?_ | refine v_ner0 ?_ | refine v_eql ?_ | refine v_nel ?_ | refine v_eql0 ?_ | refine v_nel0 ?_ | refine v_isN ?_ | refine v_notN ?_
  | (apply v_bor; · with_unfolding_all exact rfl) | (apply v_own; · with_unfolding_all exact rfl) | refine v_tup ?_ | refine v_lst ?_ | (refine v_sz ?_ ?_; (· with_unfolding_all exact Nat.le_of_ble_eq_true rfl)) | (refine v_gIIz ?_ ?_; (· first | decide | omega))
  | refine v_lentz ?_ | refine v_lenlz ?_ | refine v_lent ?_ | refine v_lenl ?_ | refine v_I1 ?_ | refine v_I2 ?_ | refine v_int ?_ | refine v_seqlz ?_ | refine v_seqtz ?_ | refine v_sl ?_ | refine v_kSll ?_ | refine v_kSlt ?_ | refine v_ono ?_ | refine v_oso ?_ | refine v_kOS ?_
  | refine v_val ?_ | refine v_kVb ?_ | refine v_kVi ?_ | refine v_kVt ?_ | refine v_kVl ?_ | refine v_and ?_ | refine v_or ?_ | refine v_not ?_ | refine v_yes ?_ | refine v_if' ?_ | refine v_isi ?_ | refine v_kIii ?_ | refine v_kIib ?_ | refine v_kItt ?_
  | refine v_andV ?_ | refine v_orV ?_ | refine v_notV ?_ | refine v_kNV ?_ | refine v_neg ?_ | refine v_kNeg ?_ | refine v_seq ?_ | refine v_kSeql ?_ | refine v_kSeqt ?_ | refine v_rng1 ?_ | refine v_rng2 ?_ | refine v_enum ?_ | refine v_revr ?_ | refine v_rev ?_
  | (refine v_kR1 ?_ ?_ ?_; (· decide); (· decide))
  | (refine v_kR2 ?_ ?_ ?_ ?_ ?_; (· decide); (· decide); (· decide); (· decide))
  | refine v_gn ?_ | refine v_gt2 ?_ | refine v_gt3 ?_ | refine v_lc ?_ | refine v_for ?_ | refine v_setO ?_ | refine v_drop ?_ | (apply v_app; · with_unfolding_all exact rfl) | (apply v_setI; · with_unfolding_all exact rfl) | (apply v_rel; · with_unfolding_all exact rfl) | refine v_raise ?_ | refine v_par ?_ | refine v_kP ?_ | refine v_asg ?_
  | (apply v_aug; · with_unfolding_all exact rfl) | refine v_ifT ?_ | refine v_ifF ?_ | (refine v_pow ?_ ?_ ?_ ?_; (· decide); (· decide); (· decide)) | refine v_call0 ?_ | (apply v_lenr; · assumption) | (apply v_seqr; · assumption) | (apply v_kSeqr; · assumption) | (apply v_kSlr; · assumption)
  | refine v_ix0 ?_ | refine v_ix1 ?_ | refine v_ix2 ?_ | refine v_zip ?_ | refine v_kZl ?_ | refine v_kZt ?_ | (apply v_augI; · with_unfolding_all exact rfl) | refine v_try ?_ | refine v_isE ?_ | (refine v_kIE ?_ ?_; (· with_unfolding_all exact rfl)) | refine v_isB ?_ | refine v_notB ?_ | refine v_all ?_ | refine v_par3 ?_ | refine v_ifnT ?_ | refine v_ifnF ?_ | refine v_eqs ?_ | refine v_nes ?_ | refine v_rvs ?_ | refine v_kRvl ?_ | refine v_kRvt ?_
  | (refine v_mulb (a := ?a) (b := ?b) ?ha ?hb ?l ?h; (case ha => assumption); (case hb => assumption); (case l => omega)) | (refine v_fdivb (b := ?b) ?h0 ?hb ?l ?h; (case h0 => assumption); (case hb => assumption); (case l => omega)))
/-- any row -/
theorem row_of {n : Nat} {f : Ser Int} (h : far n f) : ∃ xs : List Int, xs.length = n ∧ ser xs = f := by
  refine ⟨(List.range n).map f.co, by simp, Ser.ext fun k => ?_⟩
  rw [ser_co, List.getD_eq_getElem?_getD, List.getElem?_map]
  by_cases hk : k < n
  · rw [List.getElem?_range hk]; rfl
  · rw [List.getElem?_eq_none (by simp; omega), h k (by omega)]; rfl
theorem P.int {f : Ser Int} {r : List Int} (h : R f r) : P (qs f) r 1 := ⟨by decide, h.dn, Int.gcd_one, by rw [h.sr, show ((1 : Int) : Rat) = 1 from rfl, C_one]; grind⟩
theorem PB.dec {n a : Nat} {r : List Int} {d : Int} (h : (decide (r.length ≤ n) && r.all (fun x => decide (x.natAbs < 2 ^ a)) && decide (d.natAbs < 2 ^ a)) = true) : PB n a r d := by
  simp only [Bool.and_eq_true, List.all_eq_true, decide_eq_true_eq] at h
  exact ⟨h.1.1, fun x hx => h.1.2 x hx, h.2⟩
end RR

/-! V05: polynomials reckoned (law k05) -/
namespace RR
open PySem PySem.Spec PyProof.Rows L2
local macro_rules | `(tactic| walk_at "bd") => `(tactic| first | assumption | exact bd_lit (by decide) | (with_reducible refine bd_mul ?_ ?_ <;> walk_at "bd") | (with_reducible refine bd_add ?_ ?_ <;> walk_at "bd") | (with_reducible refine bd_sub ?_ ?_ <;> walk_at "bd") | (with_reducible refine bd_neg ?_ <;> walk_at "bd"))
local macro_rules | `(tactic| walk_at "s") => `(tactic| with_reducible first
  | refine v_then ?_ | refine v_set ?_ | (apply v_var; · with_unfolding_all exact rfl) | refine v_bin ?_ | refine v_c ?_ | refine v_g0 ?_ | refine v_add ?_ | refine v_cons ?_ | refine v_nil ?_ | refine v_call ?_ | refine v_dB ?_ | refine v_next ?_ | refine v_ret ?_
  | refine v_ite ?_ | refine v_tst ?_ | refine v_kT ?_ | refine v_eqi ?_ | refine v_nei ?_ | refine v_eqr ?_ | refine v_ner ?_ | refine v_eqr0 ?_ | refine v_ner0 ?_ | refine v_eql ?_ | refine v_nel ?_ | refine v_eql0 ?_ | refine v_nel0 ?_ | refine v_isN ?_ | refine v_notN ?_
  | (apply v_bor; · with_unfolding_all exact rfl) | (apply v_own; · with_unfolding_all exact rfl) | refine v_tup ?_ | refine v_lst ?_ | (refine v_sz ?_ ?_; (· with_unfolding_all exact Nat.le_of_ble_eq_true rfl)) | (refine v_gIIz ?_ ?_; (· first | decide | omega))
  | refine v_lentz ?_ | refine v_lenlz ?_ | refine v_lent ?_ | refine v_lenl ?_ | refine v_I1 ?_ | refine v_I2 ?_ | refine v_int ?_ | refine v_seqlz ?_ | refine v_seqtz ?_ | refine v_sl ?_ | refine v_kSll ?_ | refine v_kSlt ?_ | refine v_ono ?_ | refine v_oso ?_ | refine v_kOS ?_
  | refine v_val ?_ | refine v_kVb ?_ | refine v_kVi ?_ | refine v_kVt ?_ | refine v_kVl ?_ | refine v_and ?_ | refine v_or ?_ | refine v_not ?_ | refine v_yes ?_ | refine v_if' ?_ | refine v_isi ?_ | refine v_kIii ?_ | refine v_kIib ?_ | refine v_kItt ?_
  | refine v_andV ?_ | refine v_orV ?_ | refine v_notV ?_ | refine v_kNV ?_ | refine v_neg ?_ | refine v_kNeg ?_ | refine v_seq ?_ | refine v_kSeql ?_ | refine v_kSeqt ?_ | refine v_rng1 ?_ | refine v_rng2 ?_ | refine v_enum ?_ | refine v_revr ?_ | refine v_rev ?_
  | (refine v_kR1 ?_ ?_ ?_; (· decide); (· decide))
  | (refine v_kR2 ?_ ?_ ?_ ?_ ?_; (· decide); (· decide); (· decide); (· decide))
  | refine v_gn ?_ | refine v_gt2 ?_ | refine v_gt3 ?_ | refine v_lc ?_ | refine v_for ?_ | refine v_setO ?_ | refine v_drop ?_ | (apply v_app; · with_unfolding_all exact rfl) | (apply v_setI; · with_unfolding_all exact rfl) | (apply v_rel; · with_unfolding_all exact rfl) | refine v_raise ?_ | refine v_par ?_ | refine v_kP ?_ | refine v_asg ?_
  | (apply v_aug; · with_unfolding_all exact rfl) | refine v_ifT ?_ | refine v_ifF ?_ | (refine v_pow ?_ ?_ ?_ ?_; (· decide); (· decide); (· decide)) | refine v_call0 ?_ | (apply v_lenr; · assumption) | (apply v_seqr; · assumption) | (apply v_kSeqr; · assumption) | (apply v_kSlr; · assumption)
  | refine v_ix0 ?_ | refine v_ix1 ?_ | refine v_ix2 ?_ | refine v_zip ?_ | refine v_kZl ?_ | refine v_kZt ?_ | (apply v_augI; · with_unfolding_all exact rfl) | refine v_try ?_ | refine v_isE ?_ | (refine v_kIE ?_ ?_; (· with_unfolding_all exact rfl)) | refine v_isB ?_ | refine v_notB ?_ | refine v_all ?_ | refine v_par3 ?_ | refine v_ifnT ?_ | refine v_ifnF ?_ | refine v_eqs ?_ | refine v_nes ?_ | refine v_rvs ?_ | refine v_kRvl ?_ | refine v_kRvt ?_
  | (refine v_mulb (a := ?a) (b := ?b) ?ha ?hb ?l ?h; (case ha => assumption); (case hb => assumption); (case l => omega)) | (refine v_fdivb (b := ?b) ?h0 ?hb ?l ?h; (case h0 => assumption); (case hb => assumption); (case l => omega)))
def b_rows_scaled {M : Type} : DS M :=
    (dRet (dCall s_rows_row_of [] (dCons (dLc (dSeq false (dVar 0)) (dgN 2) dYes (dBin gMul (dVar 1) (dVar 2)) [2]) dNil)))

def s_rows_scaled {M : Type} : DSp M := fun ds m Q Z => ∃ xs k a b, ds = [.tup (zz xs), .int k] ∧ xs.length ≤ 1000000 ∧ (∀ x ∈ xs, bd a x) ∧ bd b k ∧ a + b ≤ 100000000 ∧ ∀ r, R (Ser.C k * ser xs) r → Q (.tup (zz r)) m
theorem vc_rows_scaled {M : Type} : ∀ ds (m : M) Q Z, s_rows_scaled ds m Q Z → okK [false, false] ds ∧ b_rows_scaled { nx := fun _ m' => Q .non m', rt := Q, ex := Z } (st0 [false, false] ds 3) m := by
  rintro ds m Q Z ⟨xs, k, a, b, rfl, hl, hx, hk, hab, q⟩
  refine ⟨⟨fun _ => nl_row xs, fun _ => rfl, trivial⟩, ?_⟩
  unfold b_rows_scaled
  repeat walk_at "s"
  refine lc_zz (f := fun x => k * x) xs (fun x hx' m1 k l hk => ?_) (by omega) ?_
  · have bx := hx x hx'
    repeat walk_at "s"
    exact hk
  repeat walk_at "s"
  refine ⟨_, _, rfl, isRow_l, by rw [List.length_map]; omega, fun r hr => q r ?_⟩
  rw [ser_scale] at hr
  exact hr
def b_polys_plus {M : Type} : DS M :=
    (dRet (dCall s_polys_poly [] (dCons (dCall s_rows_plus [] (dCons (dCall s_rows_scaled [] (dCons (dBin (gIx false) (dVar 0) (dC (.int 0))) (dCons (dBin (gIx false) (dVar 1) (dC (.int 1))) dNil))) (dCons (dCall s_rows_scaled [] (dCons (dBin (gIx false) (dVar 1) (dC (.int 0))) (dCons (dBin (gIx false) (dVar 0) (dC (.int 1))) dNil))) dNil))) (dCons (dBin gMul (dBin (gIx false) (dVar 0) (dC (.int 1))) (dBin (gIx false) (dVar 1) (dC (.int 1)))) dNil))))

def s_polys_plus {M : Type} : DSp M := fun ds m Q Z => ∃ f g r d r' d' n a n' b, ds = [pd r d, pd r' d'] ∧ P f r d ∧ P g r' d' ∧ PB n a r d ∧ PB n' b r' d' ∧ n ≤ 1000000 ∧ n' ≤ 1000000 ∧ a + b ≤ 13399 ∧
  ∀ r'' d'', P (f + g) r'' d'' → PB (max n n') (a + b + 1) r'' d'' → Q (pd r'' d'') m
theorem vc_polys_plus {M : Type} : ∀ ds (m : M) Q Z, s_polys_plus ds m Q Z → okK [false, false] ds ∧ b_polys_plus { nx := fun _ m' => Q .non m', rt := Q, ex := Z } (st0 [false, false] ds 2) m := by
  rintro ds m Q Z ⟨f, g, r, d, r', d', n, a, n', b, rfl, hf, hg, pf, pg, hn, hn', hab, q⟩
  refine ⟨⟨fun _ => nl_pd, fun _ => nl_pd, trivial⟩, ?_⟩
  unfold b_polys_plus
  have ln := pf.ln
  have ln' := pg.ln
  have bd1 := pf.dd
  have bd2 := pg.dd
  repeat walk_at "s"
  refine ⟨r, d', a, b, rfl, by omega, pf.bd, bd2, by omega, fun s1 hs1 => ?_⟩
  have B1 : B n (a + b) (ser s1) := by rw [hs1.sr]; exact (B.scale bd2 (B.of ln pf.bd)).mono (Nat.le_refl _) (by omega)
  have l1 := (R.mk hs1.dn rfl).len B1
  repeat walk_at "s"
  refine ⟨r', d, b, a, rfl, by omega, pg.bd, bd1, by omega, fun s2 hs2 => ?_⟩
  have B2 : B n' (a + b) (ser s2) := by rw [hs2.sr]; exact B.scale bd1 (B.of ln' pg.bd)
  have l2 := (R.mk hs2.dn rfl).len B2
  repeat walk_at "s"
  refine ⟨s1, s2, rfl, by omega, by omega, fun s hs => ?_⟩
  have dp := hf.pos
  have dp' := hg.pos
  have d0 : d * d' ≠ 0 := Int.mul_ne_zero (by omega) (by omega)
  have eq : Ser.C ((d * d' : Int) : Rat) * (f + g) = qs (ser s) := by
    have e1 := hf.eq
    have e2 := hg.eq
    rw [hs.sr, hs1.sr, hs2.sr, qs_add, qs_mul, qs_mul, qs_C, qs_C, ← e1, ← e2, Rat.intCast_mul, C_mul]
    grind
  have sB : B (max n n') (a + b + 1) (ser s) := by
    rw [hs.sr]
    exact (B1.add B2).mono (Nat.le_refl _) (by omega)
  have ls : s.length ≤ max n n' := (R.mk hs.dn rfl).len sB
  repeat walk_at "s"
  refine ⟨s, d * d', rfl, by omega, fun z => absurd z d0, fun _ => ⟨Sm.of (bd_mul bd1 bd2) ((R.mk hs.dn rfl).bds sB) (by omega), ?_⟩⟩
  have hP := low_P d0 hs.dn eq
  exact q _ _ hP (hP.PB d0 eq ls ((R.mk hs.dn rfl).bds sB) (bd_mono (bd_mul bd1 bd2) (by omega)))
theorem P.one : P 1 [1] 1 := (P.int (r := [1]) ⟨rfl, by
  rw [ser_cons, ser_nil, C_one]
  exact (by grind : (1 : Ser Int) + xp 1 * 0 = 1)⟩).cong qs_one
theorem PB.one : PB 1 1 [1] 1 := PB.dec (by decide)
end RR

/-! V05b: derived, monic, is_poly -/
namespace RR
open PySem PySem.Spec PyProof.Rows L2
local macro_rules | `(tactic| walk_at "bd") => `(tactic| first | assumption | exact bd_lit (by decide) | (with_reducible refine bd_mul ?_ ?_ <;> walk_at "bd") | (with_reducible refine bd_add ?_ ?_ <;> walk_at "bd") | (with_reducible refine bd_sub ?_ ?_ <;> walk_at "bd") | (with_reducible refine bd_neg ?_ <;> walk_at "bd"))
local macro_rules | `(tactic| walk_at "s") => `(tactic| with_reducible first
  | refine v_then ?_ | refine v_set ?_ | (apply v_var; · with_unfolding_all exact rfl) | refine v_bin ?_ | refine v_c ?_ | refine v_g0 ?_ | refine v_add ?_ | refine v_cons ?_ | refine v_nil ?_ | refine v_call ?_ | refine v_dB ?_ | refine v_next ?_ | refine v_ret ?_
  | refine v_ite ?_ | refine v_tst ?_ | refine v_kT ?_ | refine v_eqi ?_ | refine v_nei ?_ | refine v_eqr ?_ | refine v_ner ?_ | refine v_eqr0 ?_ | refine v_ner0 ?_ | refine v_eql ?_ | refine v_nel ?_ | refine v_eql0 ?_ | refine v_nel0 ?_ | refine v_isN ?_ | refine v_notN ?_
  | (apply v_bor; · with_unfolding_all exact rfl) | (apply v_own; · with_unfolding_all exact rfl) | refine v_tup ?_ | refine v_lst ?_ | (refine v_sz ?_ ?_; (· with_unfolding_all exact Nat.le_of_ble_eq_true rfl)) | (refine v_gIIz ?_ ?_; (· first | decide | omega))
  | refine v_lentz ?_ | refine v_lenlz ?_ | refine v_lent ?_ | refine v_lenl ?_ | refine v_I1 ?_ | refine v_I2 ?_ | refine v_int ?_ | refine v_seqlz ?_ | refine v_seqtz ?_ | refine v_sl ?_ | refine v_kSll ?_ | refine v_kSlt ?_ | refine v_ono ?_ | refine v_oso ?_ | refine v_kOS ?_
  | refine v_val ?_ | refine v_kVb ?_ | refine v_kVi ?_ | refine v_kVt ?_ | refine v_kVl ?_ | refine v_and ?_ | refine v_or ?_ | refine v_not ?_ | refine v_yes ?_ | refine v_if' ?_ | refine v_isi ?_ | refine v_kIii ?_ | refine v_kIib ?_ | refine v_kItt ?_
  | refine v_andV ?_ | refine v_orV ?_ | refine v_notV ?_ | refine v_kNV ?_ | refine v_neg ?_ | refine v_kNeg ?_ | refine v_seq ?_ | refine v_kSeql ?_ | refine v_kSeqt ?_ | refine v_rng1 ?_ | refine v_rng2 ?_ | refine v_enum ?_ | refine v_revr ?_ | refine v_rev ?_
  | (refine v_kR1 ?_ ?_ ?_; (· decide); (· decide))
  | (refine v_kR2 ?_ ?_ ?_ ?_ ?_; (· decide); (· decide); (· decide); (· decide))
  | refine v_gn ?_ | refine v_gt2 ?_ | refine v_gt3 ?_ | refine v_lc ?_ | refine v_for ?_ | refine v_setO ?_ | refine v_drop ?_ | (apply v_app; · with_unfolding_all exact rfl) | (apply v_setI; · with_unfolding_all exact rfl) | (apply v_rel; · with_unfolding_all exact rfl) | refine v_raise ?_ | refine v_par ?_ | refine v_kP ?_ | refine v_asg ?_
  | (apply v_aug; · with_unfolding_all exact rfl) | refine v_ifT ?_ | refine v_ifF ?_ | (refine v_pow ?_ ?_ ?_ ?_; (· decide); (· decide); (· decide)) | refine v_call0 ?_ | (apply v_lenr; · assumption) | (apply v_seqr; · assumption) | (apply v_kSeqr; · assumption) | (apply v_kSlr; · assumption)
  | refine v_ix0 ?_ | refine v_ix1 ?_ | refine v_ix2 ?_ | refine v_zip ?_ | refine v_kZl ?_ | refine v_kZt ?_ | (apply v_augI; · with_unfolding_all exact rfl) | refine v_try ?_ | refine v_isE ?_ | (refine v_kIE ?_ ?_; (· with_unfolding_all exact rfl)) | refine v_isB ?_ | refine v_notB ?_ | refine v_all ?_ | refine v_par3 ?_ | refine v_ifnT ?_ | refine v_ifnF ?_ | refine v_eqs ?_ | refine v_nes ?_ | refine v_rvs ?_ | refine v_kRvl ?_ | refine v_kRvt ?_
  | (refine v_mulb (a := ?a) (b := ?b) ?ha ?hb ?l ?h; (case ha => assumption); (case hb => assumption); (case l => omega)) | (refine v_fdivb (b := ?b) ?h0 ?hb ?l ?h; (case h0 => assumption); (case hb => assumption); (case l => omega)))
section
variable {M : Type} {ρ : En} {QL : List D → M → Prop} {tt : DTT M} {t : DT M}
end
/-! ### is_poly -/
end RR

/-! V05c: the law k05 -/
namespace RR
open PySem PySem.Spec PyProof.Rows L2
local macro_rules | `(tactic| walk_at "bd") => `(tactic| first | assumption | exact bd_lit (by decide) | (with_reducible refine bd_mul ?_ ?_ <;> walk_at "bd") | (with_reducible refine bd_add ?_ ?_ <;> walk_at "bd") | (with_reducible refine bd_sub ?_ ?_ <;> walk_at "bd") | (with_reducible refine bd_neg ?_ <;> walk_at "bd"))
local macro_rules | `(tactic| walk_at "s") => `(tactic| with_reducible first
  | refine v_then ?_ | refine v_set ?_ | (apply v_var; · with_unfolding_all exact rfl) | refine v_bin ?_ | refine v_c ?_ | refine v_g0 ?_ | refine v_add ?_ | refine v_cons ?_ | refine v_nil ?_ | refine v_call ?_ | refine v_dB ?_ | refine v_next ?_ | refine v_ret ?_
  | refine v_ite ?_ | refine v_tst ?_ | refine v_kT ?_ | refine v_eqi ?_ | refine v_nei ?_ | refine v_eqr ?_ | refine v_ner ?_ | refine v_eqr0 ?_ | refine v_ner0 ?_ | refine v_eql ?_ | refine v_nel ?_ | refine v_eql0 ?_ | refine v_nel0 ?_ | refine v_isN ?_ | refine v_notN ?_
  | (apply v_bor; · with_unfolding_all exact rfl) | (apply v_own; · with_unfolding_all exact rfl) | refine v_tup ?_ | refine v_lst ?_ | (refine v_sz ?_ ?_; (· with_unfolding_all exact Nat.le_of_ble_eq_true rfl)) | (refine v_gIIz ?_ ?_; (· first | decide | omega))
  | refine v_lentz ?_ | refine v_lenlz ?_ | refine v_lent ?_ | refine v_lenl ?_ | refine v_I1 ?_ | refine v_I2 ?_ | refine v_int ?_ | refine v_seqlz ?_ | refine v_seqtz ?_ | refine v_sl ?_ | refine v_kSll ?_ | refine v_kSlt ?_ | refine v_ono ?_ | refine v_oso ?_ | refine v_kOS ?_
  | refine v_val ?_ | refine v_kVb ?_ | refine v_kVi ?_ | refine v_kVt ?_ | refine v_kVl ?_ | refine v_and ?_ | refine v_or ?_ | refine v_not ?_ | refine v_yes ?_ | refine v_if' ?_ | refine v_isi ?_ | refine v_kIii ?_ | refine v_kIib ?_ | refine v_kItt ?_
  | refine v_andV ?_ | refine v_orV ?_ | refine v_notV ?_ | refine v_kNV ?_ | refine v_neg ?_ | refine v_kNeg ?_ | refine v_seq ?_ | refine v_kSeql ?_ | refine v_kSeqt ?_ | refine v_rng1 ?_ | refine v_rng2 ?_ | refine v_enum ?_ | refine v_revr ?_ | refine v_rev ?_
  | (refine v_kR1 ?_ ?_ ?_; (· decide); (· decide))
  | (refine v_kR2 ?_ ?_ ?_ ?_ ?_; (· decide); (· decide); (· decide); (· decide))
  | refine v_gn ?_ | refine v_gt2 ?_ | refine v_gt3 ?_ | refine v_lc ?_ | refine v_for ?_ | refine v_setO ?_ | refine v_drop ?_ | (apply v_app; · with_unfolding_all exact rfl) | (apply v_setI; · with_unfolding_all exact rfl) | (apply v_rel; · with_unfolding_all exact rfl) | refine v_raise ?_ | refine v_par ?_ | refine v_kP ?_ | refine v_asg ?_
  | (apply v_aug; · with_unfolding_all exact rfl) | refine v_ifT ?_ | refine v_ifF ?_ | (refine v_pow ?_ ?_ ?_ ?_; (· decide); (· decide); (· decide)) | refine v_call0 ?_ | (apply v_lenr; · assumption) | (apply v_seqr; · assumption) | (apply v_kSeqr; · assumption) | (apply v_kSlr; · assumption)
  | refine v_ix0 ?_ | refine v_ix1 ?_ | refine v_ix2 ?_ | refine v_zip ?_ | refine v_kZl ?_ | refine v_kZt ?_ | (apply v_augI; · with_unfolding_all exact rfl) | refine v_try ?_ | refine v_isE ?_ | (refine v_kIE ?_ ?_; (· with_unfolding_all exact rfl)) | refine v_isB ?_ | refine v_notB ?_ | refine v_all ?_ | refine v_par3 ?_ | refine v_ifnT ?_ | refine v_ifnF ?_ | refine v_eqs ?_ | refine v_nes ?_ | refine v_rvs ?_ | refine v_kRvl ?_ | refine v_kRvt ?_
  | (refine v_mulb (a := ?a) (b := ?b) ?ha ?hb ?l ?h; (case ha => assumption); (case hb => assumption); (case l => omega)) | (refine v_fdivb (b := ?b) ?h0 ?hb ?l ?h; (case h0 => assumption); (case hb => assumption); (case l => omega)))
theorem v_kIE1 {M : Type} {Q : D → M → Prop} {m : M} {x : Str} {b : Bool} (h : Q (.bl b) m) : kIE [(x, b)] Q (.exc x) m := v_kIE (by unfold List.lookup; rw [beq_self_eq_true]) h
local macro_rules | `(tactic| walk_at "s") => `(tactic| with_reducible refine v_kIE1 ?_)
end RR

/-! RTi: int(text) to 4300 signs; strip of told signs -/
namespace RR
open PySem PySem.Spec PyProof.Rows L2 PySem.NumText
theorem wp_maxd {M : Model} {A : Around} {E : Value → Shared → Prop} {s : Shared} {K : PySem.W.Frag} {Q : Nat → Shared → Prop} (kin : K.In s.heap) (hk : PySem.W.nsIn K cStatics "sys.int_max_str_digits" = some none) (h : Q 4300 s) : wpAny M A Builtin.intMaxStrDigits Q E s :=
  wpAny_bind ((PySem.W.looks_nsIn kin hk) A _ E s (fun _ _ e => e) (wpAny_pure h))
theorem wp_textL {M : Model} {A : Around} {E : Value → Shared → Prop} {s : Shared} {K : PySem.W.Frag} {Q : Value → Shared → Prop} {v : Value} {text : List Nat} {n : Int} (kin : K.In s.heap) (hk : PySem.W.nsIn K cStatics "sys.int_max_str_digits" = some none)
    (hs : ¬ (text.takeWhile (· != 0)).length ≤ 640) (hr : (int_private% "readNumeral") 4300 10 (text.takeWhile (· != 0)) = (int_private% "Numeral.value") n)
    (ha : ((text.takeWhile (· != 0)).length == text.length) = true) (h : Q (.int n s.toks) { s with toks := s.toks + 1 }) :
    wpAny M A ((int_private% "intFromText") v text 10) Q E s := by
  obtain ⟨hp, g, d, tk, os⟩ := s
  repeat (any_goals (first
    | assumption
    | ((with_reducible show wpAny _ _ Builtin.intMaxStrDigits _ _ _); refine wp_maxd kin hk ?_)
    | (with_reducible refine wpAny_ite_false (decide_eq_false hs) ?_)
    | (with_reducible refine wpAny_ite_true (decide_eq_true ha) ?_)
    | wp_step))
  all_goals (try rw [hr])
  all_goals (try dsimp only)
  repeat (any_goals (first
    | assumption
    | ((with_reducible show wpAny _ _ Builtin.intMaxStrDigits _ _ _); refine wp_maxd kin hk ?_)
    | (with_reducible refine wpAny_ite_false (decide_eq_false hs) ?_)
    | (with_reducible refine wpAny_ite_true (decide_eq_true ha) ?_)
    | wp_step))
structure HidI (p : Prop) : Prop where
  out : p
theorem meets_textL {K : PySem.W.Frag} {x : PySem.Str} {u : Tok} {n : Int} (hk : PySem.W.nsIn K cStatics "sys.int_max_str_digits" = some none) (hl : x.length ≤ 4300) (hn : PySem.intText? x = some n) :
    Meets (Builtin.«int.__new__» ⟨[.type "int", .str x u], []⟩) (fun _ R s => K.In s.heap ∧ R (.ok (.ret (.int n s.toks))) { s with toks := s.toks + 1 }) :=
  .of_wp fun prog w A R s hS => by
    obtain ⟨kin, hQ⟩ := hS
    obtain ⟨hp, g, d, tk, os⟩ := s
    have f1 := F.conv_sub_int
    have f2 := F.madeHere_int
    have f3 := PySem.W.KIN.str_int
    have f4 := PySem.W.KIN.str_idx
    have f5 := PySem.W.KIN.str_trunc
    have f6 : typeOf (.str x u) = pure (.type "str") := rfl
    by_cases hs : (numSeenOf x).length ≤ 640
    · have hr : (int_private% "readNumeral") 0 10 (numSeenOf x) = (int_private% "Numeral.value") n ∧ ((numSeenOf x).length == (numTextOf x).length) = true := by
        rcases read0 x hs with ⟨m, h1, h2, h3⟩ | ⟨h1, _⟩
        · rw [hn] at h1
          injection h1 with h1
          subst h1
          exact ⟨h3, h2⟩
        · rw [hn] at h1
          cases h1
      have hk := HidI.mk (And.intro hs hr)
      clear hs hr hl hn
      repeat (any_goals (first
        | assumption
        | ((with_reducible show wpAny _ _ ((int_private% "intFromText") _ _ _) _ _ _); refine PySem.W.KIN.wp_text hk.out.1 hk.out.2.1 hk.out.2.2 ?_)
        | wp_step))
      all_goals first | exact ⟨_, rfl, hQ⟩ | skip
    · have hr : (int_private% "readNumeral") 4300 10 (numSeenOf x) = (int_private% "Numeral.value") n ∧ ((numSeenOf x).length == (numTextOf x).length) = true := by
        rcases read4300 x (Nat.le_trans hl (Nat.le_of_ble_eq_true rfl)) with ⟨m, h1, h2, h3⟩ | ⟨h1, _⟩
        · rw [hn] at h1
          injection h1 with h1
          subst h1
          exact ⟨h3, h2⟩
        · rw [hn] at h1
          cases h1
      have hk := HidI.mk (And.intro hs (And.intro hr (And.intro kin hk)))
      clear hs hr hl hn kin
      repeat (any_goals (first
        | assumption
        | ((with_reducible show wpAny _ _ ((int_private% "intFromText") _ _ _) _ _ _); refine wp_textL hk.out.2.2.1 hk.out.2.2.2 hk.out.1 hk.out.2.1.1 hk.out.2.1.2 ?_)
        | wp_step))
      all_goals first | exact ⟨_, rfl, hQ⟩ | skip
section
variable {X : Cx} {C : Cn} {a b c : Expr} {pos : Pos} {ta tb : DT C.W.M}
theorem call_int_long (hk : PySem.W.nsIn X.K cStatics "sys.int_max_str_digits" = some none) : CallR X (.type "int") (fun xs H Q => ∃ a n, xs = [.str a] ∧ PySem.intText? a = some n ∧ a.length ≤ 4300 ∧ Q (.int n) H) := by
  intro pins s σ H xs us Q I rs h
  obtain ⟨a, n, rfl, hn, hl, h⟩ := h
  cases rs with
  | cons r1 rs =>
    cases rs
    obtain ⟨t, rfl⟩ := r1
    exact call_int_1 (meets_textL hk hl hn) ⟨I.kIn, rfl, ⟨.int n, H, I.tok _, ⟨_, rfl⟩, h⟩⟩
def gIntV : List D → (D → Prop) → Prop
  | [.int i], Q => Q (.int i)
  | [.bl b], Q => Q (.int (if b then 1 else 0))
  | [.str z], Q => ∃ n, PySem.intText? z = some n ∧ z.length ≤ 4300 ∧ Q (.int n)
  | _, _ => False
theorem ca_intV (hk : PySem.W.nsIn X.K cStatics "sys.int_max_str_digits" = some none) : CaOk X C .w (.type "int") gIntV := by
  refine ⟨_, call_int1.or (call_int_long hk), fun σ H Pr F ρ m vs ds Q R S dv q k => ?_⟩
  have dv : DnA false X.K F (wv F H) vs ds := dv
  unfold gIntV at q
  split at q
  · cases dv with
    | cons h r =>
      cases r
      cases h
      exact .inl (.inl ⟨_, rfl, k _ _ (post_here S (.int _) (fun _ h => nomatch h) q)⟩)
  · cases dv with
    | cons h r =>
      cases r
      cases h
      exact .inl (.inr ⟨_, rfl, k _ _ (post_here S (.int _) (fun _ h => nomatch h) q)⟩)
  · cases dv with
    | cons h r =>
      cases r
      cases h
      obtain ⟨n, q1, q2, q⟩ := q
      exact .inr ⟨_, n, rfl, q1, q2, k _ _ (post_here S (.int _) (fun _ h => nomatch h) q)⟩
  · exact q.elim
/-- a.strip(b) -/
def gStripC (z : Str) (y : D) (Q : D → Prop) : Prop := match y with
  | .str w => z.length ≤ 16777216 ∧ Q (.str (Txt.stripChars z w))
  | _ => False
theorem j_stripC {apos : Pos} (ha : J .w X C a ta) (hb : J .w X C b tb) (hs : starEach [b] X.env = [(false, eval b X.env)] := by rfl) (hbase : attributeBase a "strip" X.env (eval a X.env) = eval a X.env := by rfl) (hline : (apos.endLine == pos.line) = true := by rfl) :
    J .f X C (.Call (.Attribute a "strip" apos) [b] [] pos) (dS1 gStripC ta tb) := by
  obtain ⟨te, p, q1⟩ := ha
  obtain ⟨te', p', q2⟩ := hb
  refine ⟨_, pe_m1 PySem.F.slot_str_strip PySem.F.type_str_strip mt_stripChars p p' hs hbase hline, fun σ H Pr F ρ m Q Z R S E h k => ?_⟩
  refine q1 σ H Pr F ρ m _ Z _ S E h fun v H1 ⟨P1, F1, m1, d, S1, t1, dv, z⟩ => ?_
  have dv : Dn false X.K F1 (wv F1 H1) v d := dv
  try dsimp only at z
  split at z
  · cases dv
    refine ⟨⟨_, rfl⟩, q2 σ H1 P1 F1 ρ m1 _ Z _ S1 (E.te t1.toTr) z fun w H2 ⟨P2, F2, m2, d2, S2, t2, dv2, z2⟩ => ?_⟩
    have dv2 : Dn false X.K F2 (wv F2 H2) w d2 := dv2
    unfold gStripC at z2
    try dsimp only at z2
    split at z2
    · cases dv2
      exact ⟨_, _, rfl, rfl, small_line z2.1, k _ _ (((post_here S2 (.str _) (fun _ h => nomatch h) z2.2).te t2).te t1)⟩
    · exact z2.elim
  · exact z.elim
end
section
variable {M : Type} {q : D → Prop}
theorem v_intVs {z : Str} {n : Int} (e : PySem.intText? z = some n) (l : z.length ≤ 4300) (h : q (.int n)) : gIntV [.str z] q := ⟨n, e, l, h⟩
end
end RR

/-! V07b: a polynomial's source, as a function; its short methods -/
namespace RR
open PySem PySem.Spec PyProof.Rows L2
local macro_rules | `(tactic| walk_at "bd") => `(tactic| first | assumption | exact bd_lit (by decide) | (with_reducible refine bd_mul ?_ ?_ <;> walk_at "bd") | (with_reducible refine bd_add ?_ ?_ <;> walk_at "bd") | (with_reducible refine bd_sub ?_ ?_ <;> walk_at "bd") | (with_reducible refine bd_neg ?_ <;> walk_at "bd"))
local macro_rules | `(tactic| walk_at "s") => `(tactic| with_reducible first
  | refine v_then ?_ | refine v_set ?_ | (apply v_var; · with_unfolding_all exact rfl) | refine v_bin ?_ | refine v_c ?_ | refine v_g0 ?_ | refine v_add ?_ | refine v_cons ?_ | refine v_nil ?_ | refine v_call ?_ | refine v_dB ?_ | refine v_next ?_ | refine v_ret ?_
  | refine v_ite ?_ | refine v_tst ?_ | refine v_kT ?_ | refine v_eqi ?_ | refine v_nei ?_ | refine v_eqr ?_ | refine v_ner ?_ | refine v_eqr0 ?_ | refine v_ner0 ?_ | refine v_eql ?_ | refine v_nel ?_ | refine v_eql0 ?_ | refine v_nel0 ?_ | refine v_isN ?_ | refine v_notN ?_
  | (apply v_bor; · with_unfolding_all exact rfl) | (apply v_own; · with_unfolding_all exact rfl) | refine v_tup ?_ | refine v_lst ?_ | (refine v_sz ?_ ?_; (· with_unfolding_all exact Nat.le_of_ble_eq_true rfl)) | (refine v_gIIz ?_ ?_; (· first | decide | omega))
  | refine v_lentz ?_ | refine v_lenlz ?_ | refine v_lent ?_ | refine v_lenl ?_ | refine v_I1 ?_ | refine v_I2 ?_ | refine v_int ?_ | refine v_seqlz ?_ | refine v_seqtz ?_ | refine v_sl ?_ | refine v_kSll ?_ | refine v_kSlt ?_ | refine v_ono ?_ | refine v_oso ?_ | refine v_kOS ?_
  | refine v_val ?_ | refine v_kVb ?_ | refine v_kVi ?_ | refine v_kVt ?_ | refine v_kVl ?_ | refine v_and ?_ | refine v_or ?_ | refine v_not ?_ | refine v_yes ?_ | refine v_if' ?_ | refine v_isi ?_ | refine v_kIii ?_ | refine v_kIib ?_ | refine v_kItt ?_
  | refine v_andV ?_ | refine v_orV ?_ | refine v_notV ?_ | refine v_kNV ?_ | refine v_neg ?_ | refine v_kNeg ?_ | refine v_seq ?_ | refine v_kSeql ?_ | refine v_kSeqt ?_ | refine v_rng1 ?_ | refine v_rng2 ?_ | refine v_enum ?_ | refine v_revr ?_ | refine v_rev ?_
  | (refine v_kR1 ?_ ?_ ?_; (· with_unfolding_all decide +kernel); (· with_unfolding_all decide +kernel))
  | (refine v_kR2 ?_ ?_ ?_ ?_ ?_; (· with_unfolding_all decide +kernel); (· with_unfolding_all decide +kernel); (· with_unfolding_all decide +kernel); (· with_unfolding_all decide +kernel))
  | refine v_gn ?_ | refine v_gt2 ?_ | refine v_gt3 ?_ | refine v_lc ?_ | refine v_for ?_ | refine v_setO ?_ | refine v_drop ?_ | (apply v_app; · with_unfolding_all exact rfl) | (apply v_setI; · with_unfolding_all exact rfl) | (apply v_rel; · with_unfolding_all exact rfl) | refine v_raise ?_ | refine v_par ?_ | refine v_kP ?_ | refine v_asg ?_
  | (apply v_aug; · with_unfolding_all exact rfl) | refine v_ifT ?_ | refine v_ifF ?_ | (refine v_pow ?_ ?_ ?_ ?_; (· with_unfolding_all decide +kernel); (· with_unfolding_all decide +kernel); (· with_unfolding_all decide +kernel)) | refine v_call0 ?_ | (apply v_lenr; · assumption) | (apply v_seqr; · assumption) | (apply v_kSeqr; · assumption) | (apply v_kSlr; · assumption)
  | refine v_ix0 ?_ | refine v_ix1 ?_ | refine v_ix2 ?_ | refine v_zip ?_ | refine v_kZl ?_ | refine v_kZt ?_ | (apply v_augI; · with_unfolding_all exact rfl) | refine v_try ?_ | refine v_isE ?_ | (refine v_kIE ?_ ?_; (· with_unfolding_all exact rfl)) | refine v_isB ?_ | refine v_notB ?_ | refine v_all ?_ | refine v_par3 ?_ | refine v_ifnT ?_ | refine v_ifnF ?_ | refine v_eqs ?_ | refine v_nes ?_ | refine v_rvs ?_ | refine v_kRvl ?_ | refine v_kRvt ?_
  | (refine v_mulb (a := ?a) (b := ?b) ?ha ?hb ?l ?h; (case ha => assumption); (case hb => assumption); (case l => omega)) | (refine v_fdivb (b := ?b) ?h0 ?hb ?l ?h; (case h0 => assumption); (case hb => assumption); (case l => omega)))
local macro_rules | `(tactic| walk_at "o") => `(tactic| first | walk_at "s" | with_reducible first
  | refine v_chn ?_ | refine v_signs ?_ | refine v_kSg ?_ | refine v_inS ?_ | refine v_ninS ?_ | (refine v_inQ2 ?_ ?_ ?_ ?_; (· first | assumption | (with_unfolding_all decide +kernel)); (· with_unfolding_all decide +kernel); (· with_unfolding_all decide +kernel)) | (refine v_inQ3 ?_ ?_ ?_ ?_ ?_; (· first | assumption | (with_unfolding_all decide +kernel)); (· with_unfolding_all decide +kernel); (· with_unfolding_all decide +kernel); (· with_unfolding_all decide +kernel)) | (refine v_inQ4 ?_ ?_ ?_ ?_ ?_ ?_; (· first | assumption | (with_unfolding_all decide +kernel)); (· with_unfolding_all decide +kernel); (· with_unfolding_all decide +kernel); (· with_unfolding_all decide +kernel); (· with_unfolding_all decide +kernel))
  | refine v_inF ?_ | refine v_getF ?_ | refine v_kGF ?_ | (refine v_gGetF ?_ ?_; (· with_unfolding_all exact rfl)) | refine v_slS ?_ | (refine v_kSS ?_ ?_; (· first | assumption | omega)) | refine v_intUi ?_ | (refine v_lens ?_ ?_; (· first | assumption | omega)) | refine v_dH ?_ | refine v_hInt ?_ | refine v_hNeg ?_ | refine v_fset ?_
  | (apply v_hVar; (· with_unfolding_all exact rfl); (· rfl)))
structure ScF where
  words : List D
  at_ : Int
def obS (h : Nat) (r : ScF) : Ob := ⟨h, [("words", .lst r.words), ("at", .val (.int r.at_))]⟩
theorem ug_words (h : Nat) (r : ScF) : fget "words" (obS h r).fs = some (.lst r.words) := by
  show List.lookup ("words" : Str) _ = _
  unfold obS
  rw [lookup_cons, if_pos rfl]
theorem ug_at_ (h : Nat) (r : ScF) : fget "at" (obS h r).fs = some (.val (.int r.at_)) := by
  show List.lookup ("at" : Str) _ = _
  unfold obS
  rw [lookup_cons, if_neg (by decide +kernel), lookup_cons, if_pos rfl]
theorem up_at_ (h : Nat) (r : ScF) (x : Int) : putO "at" (.val (.int x)) (obS h r).fs = (obS h { r with at_ := x }).fs := by
  unfold obS
  dsimp only
  rw [putO, if_neg (by decide +kernel), putO, if_pos rfl]
theorem ul_words (h : Nat) (r : ScF) : lix "words" (obS h r).fs = 0 := by
  unfold obS
  dsimp only
  simp only [lix]
  rw [if_pos trivial]
theorem um_here (h : Nat) (r : ScF) : fget "here" (obS h r).fs = none := by
  show List.lookup ("here" : Str) _ = _
  unfold obS
  rw [lookup_cons, if_neg (by decide +kernel), lookup_cons, if_neg (by decide +kernel)]
  rfl
theorem um_takes (h : Nat) (r : ScF) : fget "takes" (obS h r).fs = none := by
  show List.lookup ("takes" : Str) _ = _
  unfold obS
  rw [lookup_cons, if_neg (by decide +kernel), lookup_cons, if_neg (by decide +kernel)]
  rfl
theorem um_number (h : Nat) (r : ScF) : fget "number" (obS h r).fs = none := by
  show List.lookup ("number" : Str) _ = _
  unfold obS
  rw [lookup_cons, if_neg (by decide +kernel), lookup_cons, if_neg (by decide +kernel)]
  rfl
theorem um_letter_power (h : Nat) (r : ScF) : fget "letter_power" (obS h r).fs = none := by
  show List.lookup ("letter_power" : Str) _ = _
  unfold obS
  rw [lookup_cons, if_neg (by decide +kernel), lookup_cons, if_neg (by decide +kernel)]
  rfl
theorem um_term (h : Nat) (r : ScF) : fget "term" (obS h r).fs = none := by
  show List.lookup ("term" : Str) _ = _
  unfold obS
  rw [lookup_cons, if_neg (by decide +kernel), lookup_cons, if_neg (by decide +kernel)]
  rfl
theorem um_whole (h : Nat) (r : ScF) : fget "whole" (obS h r).fs = none := by
  show List.lookup ("whole" : Str) _ = _
  unfold obS
  rw [lookup_cons, if_neg (by decide +kernel), lookup_cons, if_neg (by decide +kernel)]
  rfl
section
variable {M : Type} {ρ : En} {m1 m2 : M} {h : Nat} {r r2 : ScF} {Q : D → M × Ob → Prop} {Z ex : Str → M × Ob → Prop} {nx bk ct : En → M × Ob → Prop} {rt : D → M × Ob → Prop} {t : DT (M × Ob)} {ta : DTA (M × Ob)} {ds : List D} {d : D} {q : D → Prop}
theorem un_words (e : ρ[0]? = some (.val (.hnd h))) (k : q (.int r.words.length)) : hFlen 0 "words" ρ (m1, obS h r) q := v_hFlen e (ug_words h r) k
theorem ui_words {hh : En → M × Ob → (D → Prop) → Prop} (e : ρ[0]? = some (.val (.hnd h))) (k : hh ρ (m1, obS h r) fun j => ∃ (n : Int) (d : D), j = .int n ∧ atI r.words n = some d ∧ q d) : hFix 0 "words" hh ρ (m1, obS h r) q := v_hFix e (ug_words h r) k
theorem ua_words (e : ρ[0]? = some (.val (.hnd h))) (k : t ρ (m1, obS h r) (kFapp 0 "words" ρ nx (m1, obS h r)) ex) : dFapp 0 "words" t ⟨nx, rt, bk, ct, ex⟩ ρ (m1, obS h r) := v_fapp e (ug_words h r) k
theorem uh_words (e : ρ[0]? = some (.val (.hnd h))) (k : q (.hnd (h + 2 + 0))) : hFl 0 "words" ρ (m1, obS h r) q := v_hFl e (ug_words h r) (by rw [ul_words]; exact k)
theorem uf_at_ (e : ρ[0]? = some (.val (.hnd h))) (k : q (.int r.at_)) : hFld 0 "at" ρ (m1, obS h r) q := v_hFld e (ug_at_ h r) k
theorem us_at_ {x : Int} (e : ρ[0]? = some (.val (.hnd h))) (k : nx ρ (m1, obS h { r with at_ := x })) : kFset 0 "at" ρ nx (.int x) (m1, obS h r) := ⟨e, rfl, _, ug_at_ h r, by rw [up_at_]; exact k⟩
theorem uc_here {sp : DSp (M × Ob)} (e : ρ[0]? = some (.val (.hnd h))) (k : ta ρ (m1, obS h r) (fun ds m1 => sp (.hnd h :: ds) m1 Q Z) Z) : dMeth 0 "here" sp ta ρ (m1, obS h r) Q Z := v_meth e (um_here h r) k
theorem uc_takes {sp : DSp (M × Ob)} (e : ρ[0]? = some (.val (.hnd h))) (k : ta ρ (m1, obS h r) (fun ds m1 => sp (.hnd h :: ds) m1 Q Z) Z) : dMeth 0 "takes" sp ta ρ (m1, obS h r) Q Z := v_meth e (um_takes h r) k
theorem uc_number {sp : DSp (M × Ob)} (e : ρ[0]? = some (.val (.hnd h))) (k : ta ρ (m1, obS h r) (fun ds m1 => sp (.hnd h :: ds) m1 Q Z) Z) : dMeth 0 "number" sp ta ρ (m1, obS h r) Q Z := v_meth e (um_number h r) k
theorem uc_letter_power {sp : DSp (M × Ob)} (e : ρ[0]? = some (.val (.hnd h))) (k : ta ρ (m1, obS h r) (fun ds m1 => sp (.hnd h :: ds) m1 Q Z) Z) : dMeth 0 "letter_power" sp ta ρ (m1, obS h r) Q Z := v_meth e (um_letter_power h r) k
theorem uc_term {sp : DSp (M × Ob)} (e : ρ[0]? = some (.val (.hnd h))) (k : ta ρ (m1, obS h r) (fun ds m1 => sp (.hnd h :: ds) m1 Q Z) Z) : dMeth 0 "term" sp ta ρ (m1, obS h r) Q Z := v_meth e (um_term h r) k
theorem uc_whole {sp : DSp (M × Ob)} (e : ρ[0]? = some (.val (.hnd h))) (k : ta ρ (m1, obS h r) (fun ds m1 => sp (.hnd h :: ds) m1 Q Z) Z) : dMeth 0 "whole" sp ta ρ (m1, obS h r) Q Z := v_meth e (um_whole h r) k
end

local macro_rules | `(tactic| walk_at "r") => `(tactic| first | walk_at "o" | with_reducible first
  | (apply un_words; (· with_unfolding_all exact rfl)) | (apply ui_words; (· with_unfolding_all exact rfl)) | (apply ua_words; (· with_unfolding_all exact rfl)) | (apply uh_words; (· with_unfolding_all exact rfl)) | (apply uf_at_; (· with_unfolding_all exact rfl)) | (apply us_at_; (· with_unfolding_all exact rfl)) | (apply uc_here; (· with_unfolding_all exact rfl)) | (apply uc_takes; (· with_unfolding_all exact rfl)) | (apply uc_number; (· with_unfolding_all exact rfl)) | (apply uc_letter_power; (· with_unfolding_all exact rfl)) | (apply uc_term; (· with_unfolding_all exact rfl)) | (apply uc_whole; (· with_unfolding_all exact rfl)))
abbrev LW := List (List Nat)
def hd (r : LW) : List Nat := r.headD []
/-- the first word is a number without a nought ahead -/
def isN : List Nat → Bool
  | [] => false
  | c :: r => isDig c && (decide (c ≠ 48) || decide (c :: r = [48]))
def vN (w : List Nat) : Nat := NumText.digitsVal w
def numF (r : LW) : Option (Nat × LW) := if isN (hd r) = true then some (vN (hd r), r.tail) else none
def letF (r : LW) : Option (Nat × LW) :=
  if hd r = [120] then (if hd r.tail = [94] then (numF r.tail.tail).bind fun p => if p.1 ≤ 64 then some p else none else some (1, r.tail)) else none
def Sf (ws r : LW) : ScF := ⟨ws.map wD, ((ws.length - r.length : Nat) : Int)⟩
structure Wal (ws : LW) : Prop where
  ok : ∀ w ∈ ws, Wok w ∧ w.length ≤ 4300
  len : ws.length ≤ 16000000
/-- what is asked behind: a refusal, or what comes -/
def Aft {M α : Type} (h : Nat) (ws : LW) (m1 : M) (Q : D → M × Ob → Prop) (Z : Str → M × Ob → Prop) (inj : α → D) : Option (α × LW) → Prop
  | none => ∀ o : Ob, o.h = h → Z "BadText" (m1, o)
  | some (a, r) => r <:+ ws → Q (inj a) (m1, obS h (Sf ws r))
theorem tail_suf {r ws : LW} (h : r <:+ ws) : r.tail <:+ ws := List.IsSuffix.trans (List.tail_suffix r) h
theorem hd_ne {r : LW} (h : hd r ≠ []) : ∃ a t, r = a :: t := by
  cases r with
  | nil => exact absurd rfl h
  | cons a t => exact ⟨a, t, rfl⟩
theorem sf_step {ws r : LW} (h : r <:+ ws) (n : hd r ≠ []) : ({ Sf ws r with at_ := (Sf ws r).at_ + 1 } : ScF) = Sf ws r.tail := by
  obtain ⟨a, t, rfl⟩ := hd_ne n
  have l := h.length_le
  show (⟨ws.map wD, ((ws.length - (a :: t).length : Nat) : Int) + 1⟩ : ScF) = ⟨ws.map wD, ((ws.length - t.length : Nat) : Int)⟩
  simp only [List.length_cons] at l ⊢
  congr 1
  omega
theorem sf_at {ws r : LW} (h : r <:+ ws) : (Sf ws r).at_ < ((Sf ws r).words.length : Int) ↔ r ≠ [] := by
  have l := h.length_le
  show (((ws.length - r.length : Nat) : Int) < ((ws.map wD).length : Int)) ↔ _
  rw [List.length_map]
  cases r with
  | nil => simp
  | cons a r => simp at l ⊢; omega
theorem sf_head {ws r : LW} (h : r <:+ ws) (n : r ≠ []) : atI (Sf ws r).words (Sf ws r).at_ = some (wD (hd r)) := by
  obtain ⟨p, e⟩ := h
  cases r with
  | nil => exact absurd rfl n
  | cons a t =>
    show atI (ws.map wD) _ = _
    have ep : ws.length - (a :: t).length = p.length := by rw [← e]; simp
    have eg : (ws.map wD)[p.length]? = some (wD a) := by
      rw [← e, List.map_append, List.getElem?_append_right (by simp)]
      simp
    show atI (ws.map wD) ((ws.length - (a :: t).length : Nat) : Int) = _
    rw [ep]
    unfold atI ixN
    have lt := (List.getElem?_eq_some_iff.mp eg).1
    rw [if_pos (by omega), if_pos (by omega)]
    exact eg
theorem Wok.ne {w : List Nat} (h : Wok w) : w ≠ [] := by
  rcases h with h | ⟨c, _, rfl⟩
  · exact h.1
  · exact List.cons_ne_nil _ _
theorem hd_len {ws r : LW} (W : Wal ws) (h : r <:+ ws) : (hd r).length ≤ 4300 := by
  cases r with
  | nil => exact Nat.zero_le _
  | cons a t => exact (W.ok a (h.mem (List.mem_cons_self ..))).2
theorem hd_wok {ws r : LW} (W : Wal ws) (h : r <:+ ws) (n : hd r ≠ []) : Wok (hd r) := by
  obtain ⟨a, t, rfl⟩ := hd_ne n
  exact (W.ok a (h.mem (List.mem_cons_self ..))).1
theorem tx_eq (a : List Nat) (z : Str) : decide (tx a = z) = decide (a = z.cps.toList) := by
  rw [Bool.eq_iff_iff, decide_eq_true_eq, decide_eq_true_eq]
  exact ⟨fun e => by rw [← e]; rfl, fun e => by rw [e]; rfl⟩
theorem isN_dig {w : List Nat} (h : isN w = true) (k : Wok w) : w ≠ [] ∧ w.all isDig = true := by
  rcases k with k | ⟨c, hc, rfl⟩
  · exact k
  · unfold isN at h
    rw [Bool.and_eq_true] at h
    rw [dig_sg h.1] at hc
    cases hc
theorem isN_text {w : List Nat} (h : isN w = true) (k : Wok w) (l : w.length ≤ 4300) : PySem.intText? (tx w) = some ((vN w : Nat) : Int) := by
  obtain ⟨n0, a⟩ := isN_dig h k
  have e : w = (tx w).cps.toList := rfl
  refine PySem.intText_digits (fun c hc => ?_) n0 (by show w.length ≤ _; omega)
  have := List.all_eq_true.mp a c hc
  unfold isDig at this
  simpa using this
section
variable {M : Type}
theorem uaug {ρ : En} {m1 : M} {h : Nat} {r : ScF} {j : Int} {nx bk ct : En → M × Ob → Prop} {rt : D → M × Ob → Prop} {ex : Str → M × Ob → Prop} (e : ρ[0]? = some (.val (.hnd h))) (k : nx ρ (m1, obS h { r with at_ := r.at_ + j })) : dFaug 0 "at" (hInt j) ⟨nx, rt, bk, ct, ex⟩ ρ (m1, obS h r) :=
  ⟨e, _, ug_at_ h r, j, rfl, by rw [up_at_]; exact k⟩
theorem s43 : ("+" : Str).cps.toList = [43] := by decide +kernel
theorem s45 : ("-" : Str).cps.toList = [45] := by decide +kernel
theorem s42 : ("*" : Str).cps.toList = [42] := by decide +kernel
theorem s47 : ("/" : Str).cps.toList = [47] := by decide +kernel
theorem s94 : ("^" : Str).cps.toList = [94] := by decide +kernel
theorem s120 : ("x" : Str).cps.toList = [120] := by decide +kernel
theorem s0 : ("" : Str).cps.toList = [] := by decide +kernel
def b_reading_Source___init__ {M : Type} : DS (M × Ob) :=
    (dThen (dFpar 0 1 "words")
    (dFnew 0 "at" (dC (.int 0))))
def s_reading_Source___init__ {M : Type} : DSp (M × Ob) := fun ds m Q Z => ∃ (h : Nat) (ws : LW) (m1 : M), ds = [.hnd h, .hnd (h + 2)] ∧ m = (m1, ⟨h, [("words", .free (ws.map wD))]⟩) ∧ Q .non (m1, obS h (Sf ws ws))
theorem vc_reading_Source___init__ {M : Type} : ∀ ds (m : M × Ob) Q Z, s_reading_Source___init__ ds m Q Z → okK [false, false] ds ∧ b_reading_Source___init__ { nx := fun _ m' => Q .non m', rt := Q, ex := Z } (st0 [false, false] ds 2) m := by
  rintro ds m Q Z ⟨h, ws, m1, rfl, rfl, k⟩
  refine ⟨⟨fun _ => rfl, fun _ => rfl, trivial⟩, ?_⟩
  unfold b_reading_Source___init__
  refine ⟨rfl, rfl, _, rfl, ?_⟩
  have e0 : (⟨h, [("words", .lst (ws.map wD)), ("at", .val (.int 0))]⟩ : Ob) = obS h (Sf ws ws) := by
    unfold obS Sf
    simp
  refine ⟨rfl, rfl, ?_, by show 1 < 900; decide, ?_⟩
  · show List.lookup ("at" : Str) _ = _
    dsimp only
    rw [lookup_cons, if_neg (by decide +kernel)]
    rfl
  rw [← e0] at k
  exact k
def b_reading_Source_here {M : Type} : DS (M × Ob) :=
    (dRet (dIf (dTst (dBin gLt (dH (hFld 0 "at")) (dH (hFlen 0 "words")))) (dH (hFix 0 "words" (hFld 0 "at"))) (dC (.str ""))))
def s_reading_Source_here {M : Type} : DSp (M × Ob) := fun ds m Q Z => ∃ (h : Nat) (ws r : LW) (m1 : M), ds = [.hnd h] ∧ m = (m1, obS h (Sf ws r)) ∧ r <:+ ws ∧ Q (wD (hd r)) m
theorem vc_reading_Source_here {M : Type} : ∀ ds (m : M × Ob) Q Z, s_reading_Source_here ds m Q Z → okK [false] ds ∧ b_reading_Source_here { nx := fun _ m' => Q .non m', rt := Q, ex := Z } (st0 [false] ds 1) m := by
  rintro ds m Q Z ⟨h, ws, r, m1, rfl, rfl, S, k⟩
  refine ⟨⟨fun _ => rfl, trivial⟩, ?_⟩
  unfold b_reading_Source_here
  repeat walk_at "r"
  by_cases c : r = []
  · rw [decide_eq_false (fun y => (sf_at S).mp y c)]
    try ((with_reducible show @ite _ _ _ _ _); refine v_ifF ?_)
    repeat walk_at "r"
    subst c
    rw [show ("" : Str) = tx [] by decide +kernel]
    exact k
  · rw [decide_eq_true ((sf_at S).mpr c)]
    try ((with_reducible show @ite _ _ _ _ _); refine v_ifT ?_)
    repeat walk_at "r"
    exact ⟨_, _, rfl, sf_head S c, k⟩
def b_reading_Source_takes {M : Type} : DS (M × Ob) :=
    (dThen (dIte (dTst (dBin gNe (dMeth 0 "here" s_reading_Source_here dNil) (dVar 1)))
      (dRet (dC (.bl false)))
      dNext)
    (dThen (dFaug 0 "at" (hInt 1))
    (dRet (dC (.bl true)))))
def s_reading_Source_takes {M : Type} : DSp (M × Ob) := fun ds m Q Z => ∃ (h : Nat) (ws r : LW) (m1 : M) (z : Str), ds = [.hnd h, .str z] ∧ m = (m1, obS h (Sf ws r)) ∧ r <:+ ws ∧ z.cps.toList ≠ [] ∧
  (hd r = z.cps.toList → Q (.bl true) (m1, obS h (Sf ws r.tail))) ∧ (hd r ≠ z.cps.toList → Q (.bl false) (m1, obS h (Sf ws r)))
theorem vc_reading_Source_takes {M : Type} : ∀ ds (m : M × Ob) Q Z, s_reading_Source_takes ds m Q Z → okK [false, false] ds ∧ b_reading_Source_takes { nx := fun _ m' => Q .non m', rt := Q, ex := Z } (st0 [false, false] ds 2) m := by
  rintro ds m Q Z ⟨h, ws, r, m1, z, rfl, rfl, S, n, k1, k2⟩
  refine ⟨⟨fun _ => rfl, fun _ => rfl, trivial⟩, ?_⟩
  unfold b_reading_Source_takes
  repeat walk_at "r"
  refine ⟨h, ws, r, m1, rfl, rfl, S, ?_⟩
  repeat walk_at "r"
  rw [tx_eq]
  by_cases c : hd r = z.cps.toList
  · rw [decide_eq_true c]
    try ((with_reducible show @ite _ _ _ _ _); refine v_ifF ?_)
    repeat walk_at "r"
    refine uaug (by rfl) ?_
    repeat walk_at "r"
    rw [sf_step S (by rw [c]; exact n)]
    exact k1 c
  · rw [decide_eq_false c]
    try ((with_reducible show @ite _ _ _ _ _); refine v_ifT ?_)
    repeat walk_at "r"
    exact k2 c
def b_reading_is_number {M : Type} : DS M :=
    (dRet (dAndV (dBin gInS (dBin (gIx false) (dVar 0) (dC (.int 0))) (dC (.str "0123456789"))) (dOrV (dBin gNe (dBin (gIx false) (dVar 0) (dC (.int 0))) (dC (.str "0"))) (dBin gEq (dVar 0) (dC (.str "0"))))))
def s_reading_is_number {M : Type} : DSp M := fun ds m Q Z => ∃ w : List Nat, ds = [wD w] ∧ w ≠ [] ∧ w.length ≤ 16777216 ∧ Q (.bl (isN w)) m
theorem vc_reading_is_number {M : Type} : ∀ ds (m : M) Q Z, s_reading_is_number ds m Q Z → okK [false] ds ∧ b_reading_is_number { nx := fun _ m' => Q .non m', rt := Q, ex := Z } (st0 [false] ds 1) m := by
  rintro ds m Q Z ⟨w, rfl, n, l, k⟩
  refine ⟨⟨fun _ => rfl, trivial⟩, ?_⟩
  unfold b_reading_is_number
  cases w with
  | nil => exact absurd rfl n
  | cons c t =>
    have lt : (tx (c :: t)).length ≤ 16777216 := by rw [tx_len]; exact l
    repeat walk_at "o"
    refine v_ixs (c := c) lt (atI_zero c t) ?_
    repeat walk_at "o"
    rw [dig_in]
    have e0 : isN (c :: t) = (isDig c && (decide (c ≠ 48) || decide (c :: t = [48]))) := rfl
    refine v_kAV (fun hd => ?_) fun hd => ?_
    · rw [hd, Bool.true_and] at e0
      repeat walk_at "o"
      refine v_ixs (c := c) lt (atI_zero c t) ?_
      repeat walk_at "o"
      rw [head_eq]
      refine v_kOV (fun h => ?_) fun h => ?_
      · repeat walk_at "o"
        rw [word_0, show (tx (c :: t)).cps.toList = c :: t from rfl]
        have hc : c = 48 := by simpa using h
        rw [e0, show decide (c ≠ 48) = false by simp [hc], Bool.false_or] at k
        exact k
      · have hc : c ≠ 48 := by simpa using h
        rw [e0, show decide (c ≠ 48) = true by simp [hc], Bool.true_or] at k
        exact k
    · rw [hd, Bool.false_and] at e0
      rw [e0] at k
      exact k
def b_reading_Source_number {M : Type} : DS (M × Ob) :=
    (dThen (dSet 1 (dMeth 0 "here" s_reading_Source_here dNil))
    (dThen (dIte (dOr (dTst (dBin gEq (dVar 1) (dC (.str "")))) (dNot (dVal (dCall s_reading_is_number [] (dCons (dVar 1) dNil)))))
      (dRaise "BadText")
      dNext)
    (dThen (dFaug 0 "at" (hInt 1))
    (dRet (dB gIntV (dCons (dVar 1) dNil))))))
def s_reading_Source_number {M : Type} : DSp (M × Ob) := fun ds m Q Z => ∃ (h : Nat) (ws r : LW) (m1 : M), ds = [.hnd h] ∧ m = (m1, obS h (Sf ws r)) ∧ r <:+ ws ∧ Wal ws ∧ Aft h ws m1 Q Z (fun n : Nat => .int n) (numF r)
theorem vc_reading_Source_number {M : Type} : ∀ ds (m : M × Ob) Q Z, s_reading_Source_number ds m Q Z → okK [false] ds ∧ b_reading_Source_number { nx := fun _ m' => Q .non m', rt := Q, ex := Z } (st0 [false] ds 2) m := by
  rintro ds m Q Z ⟨h, ws, r, m1, rfl, rfl, S, W, k⟩
  refine ⟨⟨fun _ => rfl, trivial⟩, ?_⟩
  unfold b_reading_Source_number
  repeat walk_at "r"
  refine ⟨h, ws, r, m1, rfl, rfl, S, ?_⟩
  repeat walk_at "r"
  rw [tx_eq, s0]
  by_cases c : hd r = []
  · rw [decide_eq_true c]
    try ((with_reducible show @ite _ _ _ _ _); refine v_ifT ?_)
    repeat walk_at "r"
    unfold numF at k
    rw [c, if_neg (by decide)] at k
    exact k _ rfl
  · rw [decide_eq_false c]
    try ((with_reducible show @ite _ _ _ _ _); refine v_ifF ?_)
    repeat walk_at "r"
    have hl := hd_len W S
    refine ⟨hd r, rfl, c, by omega, ?_⟩
    repeat walk_at "r"
    unfold numF at k
    cases q : isN (hd r) with
    | true =>
      rw [if_pos q] at k
      try ((with_reducible show @ite _ _ _ _ _); refine v_ifF ?_)
      repeat walk_at "r"
      refine uaug (by rfl) ?_
      repeat walk_at "r"
      refine v_intVs (isN_text q (hd_wok W S c) hl) (by rw [tx_len]; exact hl) ?_
      rw [sf_step S c]
      exact k (tail_suf S)
    | false =>
      rw [if_neg (by rw [q]; decide)] at k
      try ((with_reducible show @ite _ _ _ _ _); refine v_ifT ?_)
      repeat walk_at "r"
      exact k _ rfl
def b_reading_Source_letter_power {M : Type} : DS (M × Ob) :=
    (dThen (dIte (dNot (dVal (dMeth 0 "takes" s_reading_Source_takes (dCons (dC (.str "x")) dNil))))
      (dRaise "BadText")
      dNext)
    (dThen (dIte (dNot (dVal (dMeth 0 "takes" s_reading_Source_takes (dCons (dC (.str "^")) dNil))))
      (dRet (dC (.int 1)))
      dNext)
    (dThen (dSet 1 (dMeth 0 "number" s_reading_Source_number dNil))
    (dThen (dIte (dTst (dBin gGt (dVar 1) (dC (.int 64))))
      (dRaise "BadText")
      dNext)
    (dRet (dVar 1))))))
def s_reading_Source_letter_power {M : Type} : DSp (M × Ob) := fun ds m Q Z => ∃ (h : Nat) (ws r : LW) (m1 : M), ds = [.hnd h] ∧ m = (m1, obS h (Sf ws r)) ∧ r <:+ ws ∧ Wal ws ∧ Aft h ws m1 Q Z (fun n : Nat => .int n) (letF r)
theorem vc_reading_Source_letter_power {M : Type} : ∀ ds (m : M × Ob) Q Z, s_reading_Source_letter_power ds m Q Z → okK [false] ds ∧ b_reading_Source_letter_power { nx := fun _ m' => Q .non m', rt := Q, ex := Z } (st0 [false] ds 2) m := by
  rintro ds m Q Z ⟨h, ws, r, m1, rfl, rfl, S, W, k⟩
  refine ⟨⟨fun _ => rfl, trivial⟩, ?_⟩
  unfold b_reading_Source_letter_power
  repeat walk_at "r"
  refine ⟨h, ws, r, m1, "x", rfl, rfl, S, by rw [s120]; exact List.cons_ne_nil _ _, fun c => ?_, fun c => ?_⟩
  · rw [s120] at c
    unfold letF at k
    rw [if_pos c] at k
    repeat walk_at "r"
    try ((with_reducible show @ite _ _ _ _ _); refine v_ifF ?_)
    repeat walk_at "r"
    refine ⟨h, ws, r.tail, m1, "^", rfl, rfl, tail_suf S, by rw [s94]; exact List.cons_ne_nil _ _, fun c => ?_, fun c => ?_⟩
    · rw [s94] at c
      rw [if_pos c] at k
      repeat walk_at "r"
      try ((with_reducible show @ite _ _ _ _ _); refine v_ifF ?_)
      repeat walk_at "r"
      refine ⟨h, ws, r.tail.tail, m1, rfl, rfl, tail_suf (tail_suf S), W, ?_⟩
      cases q : numF r.tail.tail with
      | none =>
        rw [q] at k
        exact k
      | some p =>
        rw [q] at k
        obtain ⟨a, r2⟩ := p
        intro S2
        repeat walk_at "r"
        have k : Aft h ws m1 Q Z (fun n : Nat => .int n) (if a ≤ 64 then some (a, r2) else none) := k
        by_cases c2 : a ≤ 64
        · rw [if_pos c2] at k
          rw [show decide ((a : Int) > 64) = false from decide_eq_false (by omega)]
          try ((with_reducible show @ite _ _ _ _ _); refine v_ifF ?_)
          repeat walk_at "r"
          exact k S2
        · rw [if_neg c2] at k
          rw [show decide ((a : Int) > 64) = true from decide_eq_true (by omega)]
          try ((with_reducible show @ite _ _ _ _ _); refine v_ifT ?_)
          repeat walk_at "r"
          exact k _ rfl
    · rw [s94] at c
      rw [if_neg c] at k
      repeat walk_at "r"
      try ((with_reducible show @ite _ _ _ _ _); refine v_ifT ?_)
      repeat walk_at "r"
      exact k (tail_suf S)
  · rw [s120] at c
    unfold letF at k
    rw [if_neg c] at k
    repeat walk_at "r"
    try ((with_reducible show @ite _ _ _ _ _); refine v_ifT ?_)
    repeat walk_at "r"
    exact k _ rfl
end
end RR

/-! VPl: plain rows -/
namespace RR
open PySem PySem.Spec PyProof.Rows L2
local macro_rules | `(tactic| walk_at "bd") => `(tactic| first | assumption | exact bd_lit (by decide) | (with_reducible refine bd_mul ?_ ?_ <;> walk_at "bd") | (with_reducible refine bd_add ?_ ?_ <;> walk_at "bd") | (with_reducible refine bd_sub ?_ ?_ <;> walk_at "bd") | (with_reducible refine bd_neg ?_ <;> walk_at "bd"))
local macro_rules | `(tactic| walk_at "s") => `(tactic| with_reducible first
  | refine v_then ?_ | refine v_set ?_ | (apply v_var; · with_unfolding_all exact rfl) | refine v_bin ?_ | refine v_c ?_ | refine v_g0 ?_ | refine v_add ?_ | refine v_cons ?_ | refine v_nil ?_ | refine v_call ?_ | refine v_dB ?_ | refine v_next ?_ | refine v_ret ?_
  | refine v_ite ?_ | refine v_tst ?_ | refine v_kT ?_ | refine v_eqi ?_ | refine v_nei ?_ | refine v_eqr ?_ | refine v_ner ?_ | refine v_eqr0 ?_ | refine v_ner0 ?_ | refine v_eql ?_ | refine v_nel ?_ | refine v_eql0 ?_ | refine v_nel0 ?_ | refine v_isN ?_ | refine v_notN ?_
  | (apply v_bor; · with_unfolding_all exact rfl) | (apply v_own; · with_unfolding_all exact rfl) | refine v_tup ?_ | refine v_lst ?_ | (refine v_sz ?_ ?_; (· with_unfolding_all exact Nat.le_of_ble_eq_true rfl)) | (refine v_gIIz ?_ ?_; (· first | decide | omega))
  | refine v_lentz ?_ | refine v_lenlz ?_ | refine v_lent ?_ | refine v_lenl ?_ | refine v_I1 ?_ | refine v_I2 ?_ | refine v_int ?_ | refine v_seqlz ?_ | refine v_seqtz ?_ | refine v_sl ?_ | refine v_kSll ?_ | refine v_kSlt ?_ | refine v_ono ?_ | refine v_oso ?_ | refine v_kOS ?_
  | refine v_val ?_ | refine v_kVb ?_ | refine v_kVi ?_ | refine v_kVt ?_ | refine v_kVl ?_ | refine v_and ?_ | refine v_or ?_ | refine v_not ?_ | refine v_yes ?_ | refine v_if' ?_ | refine v_isi ?_ | refine v_kIii ?_ | refine v_kIib ?_ | refine v_kItt ?_
  | refine v_andV ?_ | refine v_orV ?_ | refine v_notV ?_ | refine v_kNV ?_ | refine v_neg ?_ | refine v_kNeg ?_ | refine v_seq ?_ | refine v_kSeql ?_ | refine v_kSeqt ?_ | refine v_rng1 ?_ | refine v_rng2 ?_ | refine v_enum ?_ | refine v_revr ?_ | refine v_rev ?_
  | (refine v_kR1 ?_ ?_ ?_; (· decide); (· decide))
  | (refine v_kR2 ?_ ?_ ?_ ?_ ?_; (· decide); (· decide); (· decide); (· decide))
  | refine v_gn ?_ | refine v_gt2 ?_ | refine v_gt3 ?_ | refine v_lc ?_ | refine v_for ?_ | refine v_setO ?_ | refine v_drop ?_ | (apply v_app; · with_unfolding_all exact rfl) | (apply v_setI; · with_unfolding_all exact rfl) | (apply v_rel; · with_unfolding_all exact rfl) | refine v_raise ?_ | refine v_par ?_ | refine v_kP ?_ | refine v_asg ?_
  | (apply v_aug; · with_unfolding_all exact rfl) | refine v_ifT ?_ | refine v_ifF ?_ | (refine v_pow ?_ ?_ ?_ ?_; (· decide); (· decide); (· decide)) | refine v_call0 ?_ | (apply v_lenr; · assumption) | (apply v_seqr; · assumption) | (apply v_kSeqr; · assumption) | (apply v_kSlr; · assumption)
  | refine v_ix0 ?_ | refine v_ix1 ?_ | refine v_ix2 ?_ | refine v_zip ?_ | refine v_kZl ?_ | refine v_kZt ?_ | (apply v_augI; · with_unfolding_all exact rfl) | refine v_try ?_ | refine v_isE ?_ | (refine v_kIE ?_ ?_; (· with_unfolding_all exact rfl)) | refine v_isB ?_ | refine v_notB ?_ | refine v_all ?_ | refine v_par3 ?_ | refine v_ifnT ?_ | refine v_ifnF ?_ | refine v_eqs ?_ | refine v_nes ?_ | refine v_rvs ?_ | refine v_kRvl ?_ | refine v_kRvt ?_
  | (refine v_mulb (a := ?a) (b := ?b) ?ha ?hb ?l ?h; (case ha => assumption); (case hb => assumption); (case l => omega)) | (refine v_fdivb (b := ?b) ?h0 ?hb ?l ?h; (case h0 => assumption); (case hb => assumption); (case l => omega)))
end RR

/-! VC1: chains of rows -/
namespace RR
theorem far_ser (r : List Int) : far r.length (ser r) := fun k hk => by rw [ser_co, getD_far hk]
theorem top_ser {r : List Int} (h : done r) (n : r ≠ []) : top (r.length - 1) (ser r) := ⟨by
  have := List.length_pos_iff.mpr n
  rw [show r.length - 1 + 1 = r.length by omega]
  exact far_ser r, by rw [ser_co]; exact done_last h n⟩
/-- a step of a chain: from r0 and r1 to r2 -/
structure Stp (r0 r1 r2 : List Int) (a : Int) (q : List Int) (b : Int) : Prop where
  a0 : 0 < a
  b0 : 0 < b
  eq : Ser.C a * ser r0 = ser q * ser r1 - Ser.C b * ser r2
  ln : r2.length < r1.length
  dn : done r2
  gc : gcdL r2 = 1
  dq : done q
  g1 : Int.gcd (Int.gcd a b) (gcdL q) = 1
/-- r1 goes into r0 so many times -/
def Dvw (r0 r1 : List Int) (a : Int) (q : List Int) : Prop := 0 < a ∧ done q ∧ Ser.C a * ser r0 = ser q * ser r1
theorem C_mulS (a b : Int) : (Ser.C (a * b) : Ser Int) = Ser.C a * Ser.C b := Ser.ext fun k => by
  rw [Ser.C_mul_co, Ser.C_co, Ser.C_co]; split <;> grind
/-- of proportional ways the rests are so, too -/
theorem prop_rest {r0 r1 : List Int} (d1 : done r1) (n1 : r1 ≠ []) {a a' : Int} {q q' : List Int} {s s' : Ser Int} (e : Ser.C a * ser r0 = ser q * ser r1 + s) (e' : Ser.C a' * ser r0 = ser q' * ser r1 + s') (f : far (r1.length - 1) s) (f' : far (r1.length - 1) s') :
    Ser.C a' * ser q = Ser.C a * ser q' ∧ Ser.C a' * s = Ser.C a * s' := by
  have h : (Ser.C a' * ser q) * ser r1 + Ser.C a' * s = (Ser.C a * ser q') * ser r1 + Ser.C a * s' := by
    calc _ = Ser.C a' * (ser q * ser r1 + s) := by grind
      _ = Ser.C a' * (Ser.C a * ser r0) := by rw [e]
      _ = Ser.C a * (Ser.C a' * ser r0) := by grind
      _ = Ser.C a * (ser q' * ser r1 + s') := by rw [e']
      _ = _ := by grind
  exact div_uniq dom_int (N := max q.length q'.length) (top_ser d1 n1) (far_mono (far_scale (far_ser q)) (by omega)) (far_mono (far_scale (far_ser q')) (by omega)) (far_scale f) (far_scale f') h
theorem gcdL_pos_mul {a : Nat} {r r' : List Int} (h : ∀ k, (a : Int) * r.getD k 0 = r'.getD k 0) : gcdL r' = a * gcdL r := by
  have e1 : a * gcdL r ∣ gcdL r' := gcdL_great fun x hx => by
    obtain ⟨i, hi, rfl⟩ := List.mem_iff_getElem.mp hx
    have e := h i
    rw [List.getD_eq_getElem?_getD (l := r'), List.getElem?_eq_getElem hi] at e
    have e : (a : Int) * r.getD i 0 = r'[i] := e
    rw [← e, Int.natCast_mul]
    refine Int.mul_dvd_mul (Int.dvd_refl _) ?_
    by_cases z : i < r.length
    · rw [List.getD_eq_getElem?_getD, List.getElem?_eq_getElem z]; exact gcdL_dvd (List.getElem_mem z)
    · rw [getD_far (by omega)]; exact Int.dvd_zero _
  have e2 : ∀ x ∈ r, (gcdL r' : Int) ∣ (a : Int) * x := fun x hx => by
    obtain ⟨i, hi, rfl⟩ := List.mem_iff_getElem.mp hx
    have e := h i
    rw [List.getD_eq_getElem?_getD (l := r), List.getElem?_eq_getElem hi] at e
    have e : (a : Int) * r[i] = r'.getD i 0 := e
    rw [e]
    by_cases z : i < r'.length
    · rw [List.getD_eq_getElem?_getD, List.getElem?_eq_getElem z]; exact gcdL_dvd (List.getElem_mem z)
    · rw [getD_far (by omega)]; exact Int.dvd_zero _
  have e3 : gcdL r' ∣ a * gcdL r := by
    have : gcdL (r.map fun x => (a : Int) * x) = a * gcdL r := by
      clear e1 e2 h
      induction r using strip_ind with
      | h0 => show 0 = a * 0; rw [Nat.mul_zero]
      | h1 r x ih =>
        rw [List.map_append, List.map_singleton, gcdL_snoc, gcdL_snoc, ih, Int.natCast_mul, Int.gcd_mul_left]; rfl
    rw [← this]
    exact gcdL_great fun x hx => by
      obtain ⟨y, hy, rfl⟩ := List.mem_map.mp hx
      exact e2 y hy
  exact Nat.dvd_antisymm e3 e1
theorem ne_of_gc {r : List Int} (h : gcdL r = 1) : r ≠ [] := fun z => by rw [z] at h; exact absurd h (by decide)
theorem gcd_three {a b c : Int} {g : Nat} (x y z : Int) (h : Int.gcd (Int.gcd a b) c = 1) (hx : (g : Int) ∣ x * a) (hy : (g : Int) ∣ x * b) (hz : (g : Int) ∣ x * c) : (g : Int) ∣ x := by
  have h1 : (g : Int) ∣ ((Int.gcd (x * a) (x * b) : Nat) : Int) := Int.dvd_coe_gcd hx hy
  rw [Int.gcd_mul_left] at h1
  have hz' : (g : Int) ∣ (x.natAbs : Int) * c := by
    rcases Int.natAbs_eq x with e | e
    · rw [← e]; exact hz
    · have : (x.natAbs : Int) * c = -(x * c) := by
        have : (x.natAbs : Int) = -x := by omega
        rw [this, Int.neg_mul]
      rw [this]; exact Int.dvd_neg.mpr hz
  have h1' : (g : Int) ∣ (x.natAbs : Int) * ((Int.gcd a b : Nat) : Int) := by rw [← Int.natCast_mul]; exact h1
  have h2 : (g : Int) ∣ ((Int.gcd ((x.natAbs : Int) * ((Int.gcd a b : Nat) : Int)) ((x.natAbs : Int) * c) : Nat) : Int) := Int.dvd_coe_gcd h1' hz'
  rw [Int.gcd_mul_left, h, Nat.mul_one, Int.natAbs_natCast] at h2
  exact Int.dvd_natAbs.mp h2
theorem pos_scale {x y : Int} (hx : 0 < x) (hy : 0 < y) {r r' : List Int} (h : Ser.C x * ser r = Ser.C y * ser r') (g : gcdL r = 1) (g' : gcdL r' = 1) : x = y := by
  have e : ∀ k, x * r.getD k 0 = y * r'.getD k 0 := fun k => by
    have := congrArg (fun f => Ser.co f k) h
    have : (Ser.C x * ser r).co k = (Ser.C y * ser r').co k := this
    rwa [Ser.C_mul_co, Ser.C_mul_co] at this
  have e1 := gcdL_pos_mul (a := x.natAbs) (r := r) (r' := r'.map fun z => y * z) fun k => by
    rw [map_co (by simp), show ((x.natAbs : Nat) : Int) = x by omega]; exact e k
  have e2 := gcdL_pos_mul (a := y.natAbs) (r := r') (r' := r'.map fun z => y * z) fun k => by
    rw [map_co (by simp), show ((y.natAbs : Nat) : Int) = y by omega]
  rw [g] at e1
  rw [g'] at e2
  omega
theorem Stp.far {r0 r1 r2 q : List Int} {a b : Int} (h : Stp r0 r1 r2 a q b) : RR.far (r1.length - 1) (-(Ser.C b * ser r2)) := far_neg (far_scale (far_mono (far_ser r2) (by have := h.ln; omega)))
theorem Stp.uniq {r0 r1 r2 r2' q q' : List Int} {a a' b b' : Int} (d1 : done r1) (n1 : r1 ≠ []) (h : Stp r0 r1 r2 a q b) (h' : Stp r0 r1 r2' a' q' b') : r2 = r2' ∧ a = a' ∧ q = q' ∧ b = b' := by
  obtain ⟨eq, er⟩ := prop_rest d1 n1 (a := a) (a' := a') (q := q) (q' := q') (s := -(Ser.C b * ser r2)) (s' := -(Ser.C b' * ser r2')) (by rw [h.eq]; grind) (by rw [h'.eq]; grind) h.far h'.far
  have er : Ser.C (a' * b) * ser r2 = Ser.C (a * b') * ser r2' := by
    rw [C_mulS, C_mulS]
    have : Ser.C a' * (Ser.C b * ser r2) = Ser.C a * (Ser.C b' * ser r2') := by grind
    grind
  have p1 := Int.mul_pos h'.a0 h.b0
  have p2 := Int.mul_pos h.a0 h'.b0
  have ab := pos_scale p1 p2 er h.gc h'.gc
  have e2 : r2 = r2' := done_uniq h.dn h'.dn (C_cancel (Int.ne_of_gt p2) (by rw [ab] at er; exact er))
  have qk : ∀ k, a' * q.getD k 0 = a * q'.getD k 0 := fun k => by
    have := congrArg (fun f => Ser.co f k) eq
    have : (Ser.C a' * ser q).co k = (Ser.C a * ser q').co k := this
    rwa [Ser.C_mul_co, Ser.C_mul_co] at this
  have gq : a'.natAbs * gcdL q = a.natAbs * gcdL q' := by
    have e1 := gcdL_pos_mul (a := a'.natAbs) (r := q) (r' := q'.map fun z => a * z) fun k => by
      rw [map_co (by simp), show ((a'.natAbs : Nat) : Int) = a' by have := h'.a0; omega]; exact qk k
    have e2 := gcdL_pos_mul (a := a.natAbs) (r := q') (r' := q'.map fun z => a * z) fun k => by
      rw [map_co (by simp), show ((a.natAbs : Nat) : Int) = a by have := h.a0; omega]
    omega
  have aa : a = a' := by
    have ha := h.a0
    have ha' := h'.a0
    have d1 : ((a.natAbs : Nat) : Int) ∣ a' := gcd_three (g := a.natAbs) a' 0 0 h.g1 ⟨a', by rw [show ((a.natAbs : Nat) : Int) = a by omega, Int.mul_comm]⟩ ⟨b', by rw [ab, show ((a.natAbs : Nat) : Int) = a by omega]⟩ ⟨gcdL q', by
      have : ((a'.natAbs * gcdL q : Nat) : Int) = ((a.natAbs * gcdL q' : Nat) : Int) := by rw [gq]
      rw [Int.natCast_mul, Int.natCast_mul] at this
      rw [show ((a'.natAbs : Nat) : Int) = a' by omega] at this
      exact this⟩
    have d2 : ((a'.natAbs : Nat) : Int) ∣ a := gcd_three (g := a'.natAbs) a 0 0 h'.g1 ⟨a, by rw [show ((a'.natAbs : Nat) : Int) = a' by omega, Int.mul_comm]⟩ ⟨b, by rw [← ab, show ((a'.natAbs : Nat) : Int) = a' by omega]⟩ ⟨gcdL q, by
      have : ((a'.natAbs * gcdL q : Nat) : Int) = ((a.natAbs * gcdL q' : Nat) : Int) := by rw [gq]
      rw [Int.natCast_mul, Int.natCast_mul] at this
      rw [show ((a.natAbs : Nat) : Int) = a by omega] at this
      exact this.symm⟩
    have l1 := Int.le_of_dvd ha' d1
    have l2 := Int.le_of_dvd ha d2
    omega
  subst aa
  have ha := h.a0
  refine ⟨e2, rfl, done_uniq h.dq h'.dq (C_cancel (Int.ne_of_gt ha) eq), Int.eq_of_mul_eq_mul_left (Int.ne_of_gt ha) ab⟩
/-- rows of a chain and its steps, so far -/
structure Ch (r0 r1 : List Int) (rs : List (List Int)) (ss : List (Int × List Int × Int)) : Prop where
  len : rs.length = ss.length + 2
  c0 : rs[0]? = some r0
  c1 : rs[1]? = some r1
  st : ∀ (i : Nat) s, ss[i]? = some s → ∃ x y z, rs[i]? = some x ∧ rs[i + 1]? = some y ∧ rs[i + 2]? = some z ∧ Stp x y z s.1 s.2.1 s.2.2
/-- what the first two rows are -/
structure Hd (r0 r1 : List Int) : Prop where
  d0 : done r0
  d1 : done r1
  g0 : gcdL r0 = 1
  g1 : gcdL r1 = 1
  ln : r1.length < r0.length
section
variable {r0 r1 : List Int} {rs rs' : List (List Int)} {ss ss' : List (Int × List Int × Int)}
theorem Ch.row (H : Hd r0 r1) (h : Ch r0 r1 rs ss) {i : Nat} {r : List Int} (e : rs[i]? = some r) : done r ∧ gcdL r = 1 := by
  match i, e with
  | 0, e => rw [h.c0] at e; cases e; exact ⟨H.d0, H.g0⟩
  | 1, e => rw [h.c1] at e; cases e; exact ⟨H.d1, H.g1⟩
  | i + 2, e =>
    have li : i < ss.length := by have := (List.getElem?_eq_some_iff.mp e).1; have := h.len; omega
    obtain ⟨x, y, z, _, _, e3, s⟩ := h.st i _ (List.getElem?_eq_getElem li)
    rw [e] at e3; cases e3
    exact ⟨s.dn, s.gc⟩
theorem Ch.falls (H : Hd r0 r1) (h : Ch r0 r1 rs ss) {i : Nat} {x y : List Int} (ex : rs[i]? = some x) (ey : rs[i + 1]? = some y) : y.length < x.length := by
  match i, ex, ey with
  | 0, ex, ey =>
    rw [h.c0] at ex; cases ex
    rw [h.c1] at ey; cases ey
    exact H.ln
  | i + 1, ex, ey =>
    have li : i < ss.length := by have := (List.getElem?_eq_some_iff.mp ey).1; have := h.len; omega
    obtain ⟨_, y', z, _, e2, e3, s⟩ := h.st i _ (List.getElem?_eq_getElem li)
    rw [ex] at e2; cases e2
    rw [ey] at e3; cases e3
    exact s.ln
theorem Ch.same (H : Hd r0 r1) (h : Ch r0 r1 rs ss) (h' : Ch r0 r1 rs' ss') : ∀ (i : Nat) {x x' : List Int}, rs[i]? = some x → rs'[i]? = some x' → x = x' := by
  intro i
  induction i using Nat.strongRecOn with
  | _ i ih =>
    intro x x' e e'
    match i, e, e' with
    | 0, e, e' => rw [h.c0] at e; rw [h'.c0] at e'; cases e; cases e'; rfl
    | 1, e, e' => rw [h.c1] at e; rw [h'.c1] at e'; cases e; cases e'; rfl
    | i + 2, e, e' =>
      have l1 : i < ss.length := by have := (List.getElem?_eq_some_iff.mp e).1; have := h.len; omega
      have l2 : i < ss'.length := by have := (List.getElem?_eq_some_iff.mp e').1; have := h'.len; omega
      obtain ⟨a, b, c, e1, e2, e3, s⟩ := h.st i _ (List.getElem?_eq_getElem l1)
      obtain ⟨a', b', c', f1, f2, f3, s'⟩ := h'.st i _ (List.getElem?_eq_getElem l2)
      rw [e] at e3; cases e3
      rw [e'] at f3; cases f3
      obtain rfl := ih i (by omega) e1 f1
      obtain rfl := ih (i + 1) (by omega) e2 f2
      have rw_ := h.row H e2
      exact (Stp.uniq rw_.1 (ne_of_gc rw_.2) s s').1
theorem Ch.steps (H : Hd r0 r1) (h : Ch r0 r1 rs ss) (h' : Ch r0 r1 rs' ss') (i : Nat) {s s' : Int × List Int × Int} (e : ss[i]? = some s) (e' : ss'[i]? = some s') : s = s' := by
  obtain ⟨a, b, c, e1, e2, e3, t⟩ := h.st i _ e
  obtain ⟨a', b', c', f1, f2, f3, t'⟩ := h'.st i _ e'
  obtain rfl := h.same H h' i e1 f1
  obtain rfl := h.same H h' (i + 1) e2 f2
  have rw_ := h.row H e2
  obtain ⟨_, h2, h3, h4⟩ := Stp.uniq rw_.1 (ne_of_gc rw_.2) t t'
  exact Prod.ext h2 (Prod.ext h3 h4)
/-- a whole chain: it ends with a number -/
structure Lone (r0 r1 : List Int) (rs : List (List Int)) (ss : List (Int × List Int × Int)) : Prop where
  ch : Ch r0 r1 rs ss
  last : ∃ z, rs[ss.length + 1]? = some z ∧ z.length = 1
theorem Lone.uniq (H : Hd r0 r1) (h : Lone r0 r1 rs ss) (h' : Lone r0 r1 rs' ss') : rs = rs' ∧ ss = ss' := by
  have key : ∀ {rs rs' : List (List Int)} {ss ss' : List (Int × List Int × Int)}, Lone r0 r1 rs ss → Lone r0 r1 rs' ss' → ss.length ≤ ss'.length → ss'.length ≤ ss.length := fun {rs rs' ss ss'} h h' l => by
    refine Nat.le_of_not_lt fun lt => ?_
    obtain ⟨z, ez, lz⟩ := h.last
    have l2 : ss.length + 2 < rs'.length + 0 := by have := h'.ch.len; omega
    have e1 := List.getElem?_eq_getElem (l := rs') (i := ss.length + 1) (by omega)
    have e2 := List.getElem?_eq_getElem (l := rs') (i := ss.length + 2) (by omega)
    have s := h.ch.same H h'.ch _ ez e1
    have f := h'.ch.falls H e1 e2
    have g := h'.ch.row H e2
    have n := List.length_pos_iff.mpr (ne_of_gc g.2)
    rw [← s] at f
    omega
  have es : ss.length = ss'.length := by
    rcases Nat.le_total ss.length ss'.length with l | l
    · exact Nat.le_antisymm l (key h h' l)
    · exact Nat.le_antisymm (key h' h l) l
  refine ⟨List.ext_getElem (by rw [h.ch.len, h'.ch.len, es]) fun i a b => h.ch.same H h'.ch i (List.getElem?_eq_getElem a) (List.getElem?_eq_getElem b), List.ext_getElem es fun i a b => h.ch.steps H h'.ch i (List.getElem?_eq_getElem a) (List.getElem?_eq_getElem b)⟩
end
end RR

/-! VC2: one step of a chain, round by round -/
namespace RR
theorem ser_back (k : Nat) (xs : List Int) : ser (List.replicate k 0 ++ xs) = xp k * ser xs := Ser.ext fun j => by
  rw [ser_co, xp_mul_co, List.getD_eq_getElem?_getD]
  by_cases h : k ≤ j
  · rw [if_pos h, List.getElem?_append_right (by simpa using h), List.length_replicate, ser_co, List.getD_eq_getElem?_getD]
  · rw [if_neg h, List.getElem?_append_left (by simp; omega), List.getElem?_replicate, if_pos (by omega)]; rfl
theorem done_snoc' {xs : List Int} {v : Int} (h : v ≠ 0) : done (xs ++ [v]) := by unfold done; rw [strip_snoc, if_neg h]
theorem ser_one (x : Int) : ser [x] = Ser.C x := by
  rw [ser_cons, ser_nil]
  grind
theorem done_of_last {xs : List Int} (h : xs.getD (xs.length - 1) 0 ≠ 0) : done xs := by
  induction xs using strip_ind with
  | h0 => rfl
  | h1 r x _ => exact done_snoc' (by simpa using h)
theorem fd_back {x d : Int} (h : d ∣ x) : d * x.fdiv d = x := Int.mul_fdiv_cancel' h
theorem fd_le {x d : Int} (d0 : d ≠ 0) (h : d ∣ x) : (x.fdiv d).natAbs ≤ x.natAbs := by
  have e := congrArg Int.natAbs (fd_back h)
  rw [Int.natAbs_mul] at e
  rw [← e]
  exact Nat.le_mul_of_pos_left _ (by omega)
theorem div_ser {xs : List Int} {d : Int} (h : ∀ x ∈ xs, d ∣ x) : Ser.C d * ser (xs.map fun x => x.fdiv d) = ser xs := Ser.ext fun k => by
  rw [Ser.C_mul_co, ser_co, ser_co, List.getD_eq_getElem?_getD, List.getD_eq_getElem?_getD, List.getElem?_map]
  by_cases l : k < xs.length
  · rw [List.getElem?_eq_getElem l]
    exact fd_back (h _ (List.getElem_mem l))
  · rw [List.getElem?_eq_none (by omega)]
    exact Int.mul_zero _
theorem div_done {xs : List Int} {d : Int} (d0 : d ≠ 0) (h : ∀ x ∈ xs, d ∣ x) (dx : done xs) : done (xs.map fun x => x.fdiv d) := by
  cases xs with
  | nil => rfl
  | cons x r =>
    refine done_of_last fun z => done_last dx (by simp) ?_
    have e := congrArg (fun f => Ser.co f ((x :: r).length - 1)) (div_ser h)
    have e : (Ser.C d * ser ((x :: r).map fun x => x.fdiv d)).co ((x :: r).length - 1) = (ser (x :: r)).co ((x :: r).length - 1) := e
    rw [Ser.C_mul_co, ser_co, ser_co] at e
    rw [List.length_map] at z
    rw [← e, z, Int.mul_zero]
/-- the numbers of a round -/
def rF (e o : Int) : Int := (o.natAbs : Int).fdiv (Int.gcd e o)
def rL (e o : Int) : Int := if 0 < o then e.fdiv (Int.gcd e o) else 0 - e.fdiv (Int.gcd e o)
theorem gcd_ne {e o : Int} (o0 : o ≠ 0) : ((Int.gcd e o : Nat) : Int) ≠ 0 := fun z => by
  have : Int.gcd e o = 0 := by omega
  exact o0 (Int.gcd_eq_zero_iff.mp this).2
theorem round_eq {e o : Int} (o0 : o ≠ 0) : 0 < rF e o ∧ rF e o * e = rL e o * o := by
  have g0 := gcd_ne (e := e) o0
  have d1 : ((Int.gcd e o : Nat) : Int) ∣ e := Int.gcd_dvd_left ..
  have d2 : ((Int.gcd e o : Nat) : Int) ∣ (o.natAbs : Int) := Int.dvd_natAbs.mpr (Int.gcd_dvd_right ..)
  have e1 := fd_back d1
  have e2 := fd_back d2
  have e2 : ((Int.gcd e o : Nat) : Int) * rF e o = (o.natAbs : Int) := e2
  generalize hx : e.fdiv ((Int.gcd e o : Nat) : Int) = x at e1
  obtain ⟨g, hg⟩ : ∃ g : Int, g = ((Int.gcd e o : Nat) : Int) := ⟨_, rfl⟩
  rw [← hg] at e1 e2 g0
  have gp : 0 < g := by omega
  refine ⟨?_, ?_⟩
  · refine Int.pos_of_mul_pos_right (a := g) (by rw [e2]; omega) (by omega)
  · refine Int.eq_of_mul_eq_mul_left g0 ?_
    clear d1 d2
    unfold rL
    rw [hx]
    split
    · rename_i s
      have : (o.natAbs : Int) = o := by omega
      rw [← Int.mul_assoc, e2, this, ← Int.mul_assoc, e1, Int.mul_comm]
    · rename_i s
      have : (o.natAbs : Int) = -o := by omega
      rw [← Int.mul_assoc, e2, this]
      have e3 : g * ((0 - x) * o) = -(g * x * o) := by grind
      rw [e3, e1]; grind
theorem round_bd {e o : Int} {a b : Nat} (o0 : o ≠ 0) (he : bd a e) (ho : bd b o) : bd b (rF e o) ∧ bd a (rL e o) := by
  have g0 := gcd_ne (e := e) o0
  have h1 := fd_le g0 (Int.gcd_dvd_left (a := e) (b := o))
  have h2 := fd_le (x := (o.natAbs : Int)) g0 (Int.dvd_natAbs.mpr (Int.gcd_dvd_right ..))
  unfold bd rF rL at *
  refine ⟨by omega, ?_⟩
  split <;> omega
/-- so far -/
structure SF (r0 r1 : List Int) (A0 A1 : Nat) (many : Int) (q rest : List Int) (t : Nat) : Prop where
  m0 : 0 < many
  dq : done q
  dr : done rest
  eq : Ser.C many * ser r0 = ser q * ser r1 + ser rest
  tl : t + rest.length ≤ r0.length
  tm : t + r1.length ≤ r0.length + 1
  bm : bd (t * A1 + 1) many
  lq : q.length ≤ r0.length
  bq : ∀ x ∈ q, bd (A0 + t * (A1 + 1)) x
  br : ∀ x ∈ rest, bd (A0 + t * (A1 + 1)) x
theorem SF.start {r0 r1 : List Int} {A0 A1 : Nat} (d0 : done r0) (l : r1.length ≤ r0.length) (h0 : ∀ x ∈ r0, bd A0 x) : SF r0 r1 A0 A1 1 [] r0 0 :=
  ⟨by decide, rfl, d0, by rw [ser_nil, C_one]; grind, by omega, by omega, by rw [Nat.zero_mul]; unfold bd; decide, Nat.zero_le _, fun x hx => by simp at hx, by rw [Nat.zero_mul]; exact h0⟩
theorem SF.next {r0 r1 : List Int} {A0 A1 : Nat} {many : Int} {q rest q1 s q' u v w rest' : List Int} {t : Nat} {e o : Int} {far_ : Nat} (h : SF r0 r1 A0 A1 many q rest t) (n1 : r1 ≠ []) (d1 : done r1) (le : r1.length ≤ rest.length) (h1 : ∀ x ∈ r1, bd A1 x)
    (he : e = rest.getD (rest.length - 1) 0) (ho : o = r1.getD (r1.length - 1) 0) (hf : far_ = rest.length - r1.length)
    (q1_ : R (Ser.C (rF e o) * ser q) q1) (s_ : R (ser (List.replicate far_ 0 ++ [rL e o])) s) (q'_ : R (ser q1 + ser s) q') (u_ : R (Ser.C (rF e o) * ser rest) u) (v_ : R (Ser.C (rL e o) * ser r1) v) (w_ : R (ser (List.replicate far_ 0 ++ v)) w) (r_ : R (ser u + Ser.C (-1) * ser w) rest') :
    SF r0 r1 A0 A1 (many * rF e o) q' rest' (t + 1) ∧ rest'.length < rest.length := by
  have l1 := List.length_pos_iff.mpr n1
  have o0 : o ≠ 0 := by rw [ho]; exact done_last d1 n1
  have be : bd (A0 + t * (A1 + 1)) e := by rw [he]; exact (B.of (Nat.le_refl _) h.br).bd _
  have bo : bd A1 o := by rw [ho]; exact (B.of (Nat.le_refl _) h1).bd _
  obtain ⟨bF, bL⟩ := round_bd o0 be bo
  obtain ⟨f0, fe⟩ := round_eq (e := e) o0
  obtain ⟨F, hF⟩ : ∃ F, F = rF e o := ⟨_, rfl⟩
  obtain ⟨L, hL⟩ : ∃ L, L = rL e o := ⟨_, rfl⟩
  rw [← hF] at q1_ u_ bF f0 fe ⊢
  rw [← hL] at s_ v_ bL fe
  have sr : ser rest' = Ser.C F * ser rest - Ser.C L * (xp far_ * ser r1) := by
    rw [r_.sr, u_.sr, w_.sr, ser_back, v_.sr, C_neg, C_one]; grind
  have sq : ser q' = Ser.C F * ser q + Ser.C L * xp far_ := by
    rw [q'_.sr, q1_.sr, s_.sr, ser_back, ser_one]; grind
  have tt : A0 + (t + 1) * (A1 + 1) = A1 + (A0 + t * (A1 + 1)) + 1 := by rw [Nat.succ_mul]; omega
  have B1 : B rest.length (A1 + (A0 + t * (A1 + 1))) (Ser.C F * ser rest) := B.scale bF (B.of (Nat.le_refl _) h.br)
  have B2 : B rest.length (A1 + (A0 + t * (A1 + 1))) (Ser.C L * (xp far_ * ser r1)) := (B.scale bL (B.shift (k := far_) (B.of (Nat.le_refl _) h1))).mono (by omega) (by omega)
  have B3 : B rest.length (A0 + (t + 1) * (A1 + 1)) (ser rest') := by rw [sr, tt]; exact B1.sub' B2
  have B4 : B (rest.length - 1) (A0 + (t + 1) * (A1 + 1)) (ser rest') := ⟨fun k hk => by
    by_cases z : rest.length ≤ k
    · exact B3.far k z
    · have kk : k = rest.length - 1 := by omega
      subst kk
      rw [sr, Ser.sub_co, Ser.C_mul_co, Ser.C_mul_co, xp_mul_co, if_pos (by omega), ser_co, ser_co, ← he, show rest.length - 1 - far_ = r1.length - 1 by omega, ← ho, fe]
      omega, B3.bd⟩
  have ll := (R.mk r_.dn rfl).len B4
  have B5 : B r0.length (A0 + (t + 1) * (A1 + 1)) (ser q') := by
    rw [sq, tt]
    refine B.add' ((B.scale bF (B.of h.lq h.bq)).mono (Nat.le_refl _) (Nat.le_refl _)) ?_
    have bx : B (far_ + 1) (A0 + t * (A1 + 1) + 0 + 1) (Ser.C L * xp far_) := ⟨fun k hk => by rw [Ser.C_mul_co, xp_co, if_neg (by omega), Int.mul_zero], fun k => by
      rw [Ser.C_mul_co, xp_co]
      split
      · rw [Int.mul_one]; exact bd_mono bL (by omega)
      · rw [Int.mul_zero]; unfold bd; exact Nat.pow_pos (by decide)⟩
    have bx : B (far_ + 1) (A0 + t * (A1 + 1)) (Ser.C L * xp far_) := ⟨bx.far, fun k => by
      rw [Ser.C_mul_co, xp_co]
      split
      · rw [Int.mul_one]; exact bL
      · rw [Int.mul_zero]; unfold bd; exact Nat.pow_pos (by decide)⟩
    have := h.tl
    exact bx.mono (by omega) (by omega)
  refine ⟨⟨Int.mul_pos h.m0 f0, q'_.dn, r_.dn, ?_, ?_, ?_, ?_, (R.mk q'_.dn rfl).len B5, (R.mk q'_.dn rfl).bds B5, (R.mk r_.dn rfl).bds B3⟩, by omega⟩
  · rw [C_mulS, sq, sr]
    have := h.eq
    grind
  · have := h.tl
    omega
  · have := h.tl
    omega
  · rw [Nat.succ_mul, show t * A1 + A1 + 1 = (t * A1 + 1) + A1 by omega]
    exact bd_mul h.bm bF
/-- at the end -/
theorem SF.ends {r0 r1 : List Int} {A0 A1 : Nat} {many : Int} {q : List Int} {t : Nat} (h : SF r0 r1 A0 A1 many q [] t) : Dvw r0 r1 many q := ⟨h.m0, h.dq, by rw [h.eq, ser_nil]; grind⟩
theorem goes0 {r0 r1 : List Int} {many : Int} {q rest : List Int} (m0 : 0 < many) (hdq : done q) (hdr : done rest) (hh : Ser.C many * ser r0 = ser q * ser r1 + ser rest) (n : rest ≠ []) (lt : rest.length < r1.length) {both : Int} (hb : both = Int.gcd (Int.gcd many (gcdL rest)) (gcdL q)) :
    both ≠ 0 ∧ (0 - (gcdL rest : Int)) ≠ 0 ∧ (∀ x ∈ rest, (0 - (gcdL rest : Int)) ∣ x) ∧ (∀ x ∈ q, both ∣ x) ∧ both.natAbs ≤ many.natAbs ∧ both ∣ many ∧ both ∣ (gcdL rest : Int) ∧
    Stp r0 r1 (rest.map fun x => x.fdiv (0 - (gcdL rest : Int))) (many.fdiv both) (q.map fun x => x.fdiv both) ((gcdL rest : Int).fdiv both) := by
  have g0 : gcdL rest ≠ 0 := fun z => by
    have e := done_last hdr n
    have l := List.length_pos_iff.mpr n
    have := gcdL_dvd (xs := rest) (x := rest.getD (rest.length - 1) 0) (by
      rw [List.getD_eq_getElem?_getD, List.getElem?_eq_getElem (by omega)]; exact List.getElem_mem _)
    rw [z] at this
    exact e (Int.zero_dvd.mp this)
  have b1 : both ∣ many := by rw [hb]; exact Int.dvd_trans (Int.gcd_dvd_left ..) (Int.gcd_dvd_left ..)
  have b2 : both ∣ (gcdL rest : Int) := by rw [hb]; exact Int.dvd_trans (Int.gcd_dvd_left ..) (Int.gcd_dvd_right ..)
  have b3 : both ∣ (gcdL q : Int) := by rw [hb]; exact Int.gcd_dvd_right ..
  have bnz : both ≠ 0 := fun z => by rw [z] at b1; have := Int.zero_dvd.mp b1; omega
  have bp : 0 < both := by
    have : 0 ≤ both := by rw [hb]; exact Int.natCast_nonneg _
    omega
  have dr : ∀ x ∈ rest, (0 - (gcdL rest : Int)) ∣ x := fun x hx => by
    rw [Int.zero_sub]; exact Int.neg_dvd.mpr (gcdL_dvd hx)
  have dq : ∀ x ∈ q, both ∣ x := fun x hx => Int.dvd_trans b3 (gcdL_dvd hx)
  have gz : (0 - (gcdL rest : Int)) ≠ 0 := by omega
  have e1 := fd_back b1
  have e2 := fd_back b2
  have sR := div_ser dr
  have sQ := div_ser dq
  refine ⟨bnz, gz, dr, dq, ?_, b1, b2, ?_, ?_, ?_, by rw [List.length_map]; exact lt, div_done gz dr hdr, ?_, div_done bnz dq hdq, ?_⟩
  · have := Int.le_of_dvd m0 b1
    omega
  · exact Int.pos_of_mul_pos_right (a := both) (by rw [e1]; exact m0) (by omega)
  · exact Int.pos_of_mul_pos_right (a := both) (by rw [e2]; omega) (by omega)
  · refine C_cancel bnz ?_
    obtain ⟨a, ha⟩ : ∃ a, a = many.fdiv both := ⟨_, rfl⟩
    obtain ⟨b, hb'⟩ : ∃ b, b = (gcdL rest : Int).fdiv both := ⟨_, rfl⟩
    rw [← ha] at e1 ⊢
    rw [← hb'] at e2 ⊢
    rw [← e1, C_mulS] at hh
    have sR' : Ser.C (0 - (gcdL rest : Int)) = -(Ser.C both * Ser.C b) := by rw [← C_mulS, e2, Int.zero_sub, C_neg]
    rw [sR'] at sR
    grind
  · have k := gcdL_pos_mul (a := gcdL rest) (r := rest.map fun x => x.fdiv (0 - (gcdL rest : Int))) (r' := rest.map fun x => -x) fun k => by
      rw [map_co (g := fun x => -x) (by simp)]
      have e := congrArg (fun f => Ser.co f k) sR
      have e : (Ser.C (0 - (gcdL rest : Int)) * ser (rest.map fun x => x.fdiv (0 - (gcdL rest : Int)))).co k = (ser rest).co k := e
      rw [Ser.C_mul_co, ser_co, ser_co] at e
      rw [← e, Int.zero_sub, Int.neg_mul, Int.neg_neg]
    have k2 := gcdL_pos_mul (a := 1) (r := rest.map fun x => -x) (r' := rest.map fun x => -x) fun k => by simp
    have k3 : gcdL (rest.map fun x => -x) = gcdL rest := Nat.dvd_antisymm (gcdL_great fun x hx => by
      have := gcdL_dvd (xs := rest.map fun x => -x) (x := -x) (List.mem_map.mpr ⟨x, hx, rfl⟩)
      exact Int.dvd_neg.mp this) (gcdL_great fun x hx => by
      obtain ⟨y, hy, rfl⟩ := List.mem_map.mp hx
      exact Int.dvd_neg.mpr (gcdL_dvd hy))
    rw [k3] at k
    exact Nat.eq_of_mul_eq_mul_left (Nat.pos_of_ne_zero g0) (by rw [← k, Nat.mul_one])
  · have k := gcdL_pos_mul (a := both.natAbs) (r := q.map fun x => x.fdiv both) (r' := q) fun k => by
      have e := congrArg (fun f => Ser.co f k) sQ
      have e : (Ser.C both * ser (q.map fun x => x.fdiv both)).co k = (ser q).co k := e
      rw [Ser.C_mul_co, ser_co, ser_co] at e
      rw [← e, show ((both.natAbs : Nat) : Int) = both by omega]
    have hb2 : both.natAbs = Int.gcd (Int.gcd many (gcdL rest)) (gcdL q) := (congrArg Int.natAbs hb).trans (Int.natAbs_natCast _)
    have s1 : Int.gcd many (gcdL rest) = both.natAbs * Int.gcd (many.fdiv both) ((gcdL rest : Int).fdiv both) := by rw [← Int.gcd_mul_left, e1, e2]
    have s2 : Int.gcd (Int.gcd many (gcdL rest)) (gcdL q) = both.natAbs * Int.gcd (Int.gcd (many.fdiv both) ((gcdL rest : Int).fdiv both)) (gcdL (q.map fun x => x.fdiv both)) := by
      rw [s1, k, Int.natCast_mul, Int.natCast_mul, Int.gcd_mul_left, Int.natAbs_natCast]
    have s3 : both.natAbs = both.natAbs * Int.gcd (Int.gcd (many.fdiv both) ((gcdL rest : Int).fdiv both)) (gcdL (q.map fun x => x.fdiv both)) := Eq.trans hb2 s2
    exact (Nat.eq_of_mul_eq_mul_left (Int.natAbs_pos.mpr bnz) ((Nat.mul_one _).trans s3)).symm
theorem SF.goes {r0 r1 : List Int} {A0 A1 : Nat} {many : Int} {q rest : List Int} {t : Nat} (h : SF r0 r1 A0 A1 many q rest t) (n : rest ≠ []) (lt : rest.length < r1.length) {both : Int} (hb : both = Int.gcd (Int.gcd many (gcdL rest)) (gcdL q)) :
    both ≠ 0 ∧ (0 - (gcdL rest : Int)) ≠ 0 ∧ (∀ x ∈ rest, (0 - (gcdL rest : Int)) ∣ x) ∧ (∀ x ∈ q, both ∣ x) ∧ both.natAbs ≤ many.natAbs ∧ both ∣ many ∧ both ∣ (gcdL rest : Int) ∧
    Stp r0 r1 (rest.map fun x => x.fdiv (0 - (gcdL rest : Int))) (many.fdiv both) (q.map fun x => x.fdiv both) ((gcdL rest : Int).fdiv both) := goes0 h.m0 h.dq h.dr h.eq n lt hb
end RR

/-! VC3: one step of a chain, read -/
namespace RR
open PySem PySem.Spec PyProof.Rows L2
local macro_rules | `(tactic| walk_at "bd") => `(tactic| first | assumption | exact bd_lit (by decide) | (with_reducible refine bd_mul ?_ ?_ <;> walk_at "bd") | (with_reducible refine bd_add ?_ ?_ <;> walk_at "bd") | (with_reducible refine bd_sub ?_ ?_ <;> walk_at "bd") | (with_reducible refine bd_neg ?_ <;> walk_at "bd"))
local macro_rules | `(tactic| walk_at "s") => `(tactic| with_reducible first
  | refine v_then ?_ | refine v_set ?_ | (apply v_var; · with_unfolding_all exact rfl) | refine v_bin ?_ | refine v_c ?_ | refine v_g0 ?_ | refine v_add ?_ | refine v_cons ?_ | refine v_nil ?_ | refine v_call ?_ | refine v_dB ?_ | refine v_next ?_ | refine v_ret ?_
  | refine v_ite ?_ | refine v_tst ?_ | refine v_kT ?_ | refine v_eqi ?_ | refine v_nei ?_ | refine v_eqr ?_ | refine v_ner ?_ | refine v_eqr0 ?_ | refine v_ner0 ?_ | refine v_eql ?_ | refine v_nel ?_ | refine v_eql0 ?_ | refine v_nel0 ?_ | refine v_isN ?_ | refine v_notN ?_
  | (apply v_bor; · with_unfolding_all exact rfl) | (apply v_own; · with_unfolding_all exact rfl) | refine v_tup ?_ | refine v_lst ?_ | (refine v_sz ?_ ?_; (· with_unfolding_all exact Nat.le_of_ble_eq_true rfl)) | (refine v_gIIz ?_ ?_; (· first | decide | omega))
  | refine v_lentz ?_ | refine v_lenlz ?_ | refine v_lent ?_ | refine v_lenl ?_ | refine v_I1 ?_ | refine v_I2 ?_ | refine v_int ?_ | refine v_seqlz ?_ | refine v_seqtz ?_ | refine v_sl ?_ | refine v_kSll ?_ | refine v_kSlt ?_ | refine v_ono ?_ | refine v_oso ?_ | refine v_kOS ?_
  | refine v_val ?_ | refine v_kVb ?_ | refine v_kVi ?_ | refine v_kVt ?_ | refine v_kVl ?_ | refine v_and ?_ | refine v_or ?_ | refine v_not ?_ | refine v_yes ?_ | refine v_if' ?_ | refine v_isi ?_ | refine v_kIii ?_ | refine v_kIib ?_ | refine v_kItt ?_
  | refine v_andV ?_ | refine v_orV ?_ | refine v_notV ?_ | refine v_kNV ?_ | refine v_neg ?_ | refine v_kNeg ?_ | refine v_seq ?_ | refine v_kSeql ?_ | refine v_kSeqt ?_ | refine v_rng1 ?_ | refine v_rng2 ?_ | refine v_enum ?_ | refine v_revr ?_ | refine v_rev ?_
  | (refine v_kR1 ?_ ?_ ?_; (· decide); (· decide))
  | (refine v_kR2 ?_ ?_ ?_ ?_ ?_; (· decide); (· decide); (· decide); (· decide))
  | refine v_gn ?_ | refine v_gt2 ?_ | refine v_gt3 ?_ | refine v_lc ?_ | refine v_for ?_ | refine v_setO ?_ | refine v_drop ?_ | (apply v_app; · with_unfolding_all exact rfl) | (apply v_setI; · with_unfolding_all exact rfl) | (apply v_rel; · with_unfolding_all exact rfl) | refine v_raise ?_ | refine v_par ?_ | refine v_kP ?_ | refine v_asg ?_
  | (apply v_aug; · with_unfolding_all exact rfl) | refine v_ifT ?_ | refine v_ifF ?_ | (refine v_pow ?_ ?_ ?_ ?_; (· decide); (· decide); (· decide)) | refine v_call0 ?_ | (apply v_lenr; · assumption) | (apply v_seqr; · assumption) | (apply v_kSeqr; · assumption) | (apply v_kSlr; · assumption)
  | refine v_ix0 ?_ | refine v_ix1 ?_ | refine v_ix2 ?_ | refine v_zip ?_ | refine v_kZl ?_ | refine v_kZt ?_ | (apply v_augI; · with_unfolding_all exact rfl) | refine v_try ?_ | refine v_isE ?_ | (refine v_kIE ?_ ?_; (· with_unfolding_all exact rfl)) | refine v_isB ?_ | refine v_notB ?_ | refine v_all ?_ | refine v_par3 ?_ | refine v_ifnT ?_ | refine v_ifnF ?_ | refine v_eqs ?_ | refine v_nes ?_ | refine v_rvs ?_ | refine v_kRvl ?_ | refine v_kRvt ?_
  | (refine v_mulb (a := ?a) (b := ?b) ?ha ?hb ?l ?h; (case ha => assumption); (case hb => assumption); (case l => omega)) | (refine v_fdivb (b := ?b) ?h0 ?hb ?l ?h; (case h0 => assumption); (case hb => assumption); (case l => omega)))
def b_rows_shifted {M : Type} : DS M :=
    (dRet (dCall s_rows_row_of [] (dCons (dBin gAdd (dBin gMul (dLst (dCons (dC (.int 0)) dNil)) (dVar 1)) (dB (gSeq .lst) (dCons (dVar 0) dNil))) dNil)))
def s_rows_shifted {M : Type} : DSp M := fun ds m Q Z => ∃ (xs : List Int) (k : Nat), ds = [.tup (zz xs), .int k] ∧ xs.length ≤ 1000000 ∧ k ≤ 1000000 ∧ ∀ r, R (ser (List.replicate k 0 ++ xs)) r → Q (.tup (zz r)) m
theorem vc_rows_shifted {M : Type} : ∀ ds (m : M) Q Z, s_rows_shifted ds m Q Z → okK [false, false] ds ∧ b_rows_shifted { nx := fun _ m' => Q .non m', rt := Q, ex := Z } (st0 [false, false] ds 2) m := by
  rintro ds m Q Z ⟨xs, k, rfl, hl, hk, q⟩
  refine ⟨⟨fun _ => nl_row xs, fun _ => rfl, trivial⟩, ?_⟩
  unfold b_rows_shifted
  repeat walk_at "s"
  refine v_repl1 (by omega) (by omega) ?_
  repeat walk_at "s"
  refine v_addlz (xs := List.replicate (k : Int).toNat 0) (ys := xs) (by rw [List.length_replicate]; omega) ?_
  rw [Int.toNat_natCast]
  repeat walk_at "s"
  refine ⟨_, List.replicate k 0 ++ xs, rfl, isRow_l, by rw [List.length_append, List.length_replicate]; omega, q⟩
/-- room for a step -/
def Room (r0 r1 : List Int) (A0 A1 : Nat) : Prop := (∀ x ∈ r0, bd A0 x) ∧ (∀ x ∈ r1, bd A1 x) ∧ A0 + (r0.length + 1 - r1.length) * (A1 + 1) ≤ 9000
end RR

/-! V07c: a polynomial's source: terms -/
namespace RR
open PySem PySem.Spec PyProof.Rows L2
local macro_rules | `(tactic| walk_at "bd") => `(tactic| first | assumption | exact bd_lit (by decide) | (with_reducible refine bd_mul ?_ ?_ <;> walk_at "bd") | (with_reducible refine bd_add ?_ ?_ <;> walk_at "bd") | (with_reducible refine bd_sub ?_ ?_ <;> walk_at "bd") | (with_reducible refine bd_neg ?_ <;> walk_at "bd"))
local macro_rules | `(tactic| walk_at "s") => `(tactic| with_reducible first
  | refine v_then ?_ | refine v_set ?_ | (apply v_var; · with_unfolding_all exact rfl) | refine v_bin ?_ | refine v_c ?_ | refine v_g0 ?_ | refine v_add ?_ | refine v_cons ?_ | refine v_nil ?_ | refine v_call ?_ | refine v_dB ?_ | refine v_next ?_ | refine v_ret ?_
  | refine v_ite ?_ | refine v_tst ?_ | refine v_kT ?_ | refine v_eqi ?_ | refine v_nei ?_ | refine v_eqr ?_ | refine v_ner ?_ | refine v_eqr0 ?_ | refine v_ner0 ?_ | refine v_eql ?_ | refine v_nel ?_ | refine v_eql0 ?_ | refine v_nel0 ?_ | refine v_isN ?_ | refine v_notN ?_
  | (apply v_bor; · with_unfolding_all exact rfl) | (apply v_own; · with_unfolding_all exact rfl) | refine v_tup ?_ | refine v_lst ?_ | (refine v_sz ?_ ?_; (· with_unfolding_all exact Nat.le_of_ble_eq_true rfl)) | (refine v_gIIz ?_ ?_; (· first | decide | omega))
  | refine v_lentz ?_ | refine v_lenlz ?_ | refine v_lent ?_ | refine v_lenl ?_ | refine v_I1 ?_ | refine v_I2 ?_ | refine v_int ?_ | refine v_seqlz ?_ | refine v_seqtz ?_ | refine v_sl ?_ | refine v_kSll ?_ | refine v_kSlt ?_ | refine v_ono ?_ | refine v_oso ?_ | refine v_kOS ?_
  | refine v_val ?_ | refine v_kVb ?_ | refine v_kVi ?_ | refine v_kVt ?_ | refine v_kVl ?_ | refine v_and ?_ | refine v_or ?_ | refine v_not ?_ | refine v_yes ?_ | refine v_if' ?_ | refine v_isi ?_ | refine v_kIii ?_ | refine v_kIib ?_ | refine v_kItt ?_
  | refine v_andV ?_ | refine v_orV ?_ | refine v_notV ?_ | refine v_kNV ?_ | refine v_neg ?_ | refine v_kNeg ?_ | refine v_seq ?_ | refine v_kSeql ?_ | refine v_kSeqt ?_ | refine v_rng1 ?_ | refine v_rng2 ?_ | refine v_enum ?_ | refine v_revr ?_ | refine v_rev ?_
  | (refine v_kR1 ?_ ?_ ?_; (· with_unfolding_all decide +kernel); (· with_unfolding_all decide +kernel))
  | (refine v_kR2 ?_ ?_ ?_ ?_ ?_; (· with_unfolding_all decide +kernel); (· with_unfolding_all decide +kernel); (· with_unfolding_all decide +kernel); (· with_unfolding_all decide +kernel))
  | refine v_gn ?_ | refine v_gt2 ?_ | refine v_gt3 ?_ | refine v_lc ?_ | refine v_for ?_ | refine v_setO ?_ | refine v_drop ?_ | (apply v_app; · with_unfolding_all exact rfl) | (apply v_setI; · with_unfolding_all exact rfl) | (apply v_rel; · with_unfolding_all exact rfl) | refine v_raise ?_ | refine v_par ?_ | refine v_kP ?_ | refine v_asg ?_
  | (apply v_aug; · with_unfolding_all exact rfl) | refine v_ifT ?_ | refine v_ifF ?_ | (refine v_pow ?_ ?_ ?_ ?_; (· with_unfolding_all decide +kernel); (· with_unfolding_all decide +kernel); (· with_unfolding_all decide +kernel)) | refine v_call0 ?_ | (apply v_lenr; · assumption) | (apply v_seqr; · assumption) | (apply v_kSeqr; · assumption) | (apply v_kSlr; · assumption)
  | refine v_ix0 ?_ | refine v_ix1 ?_ | refine v_ix2 ?_ | refine v_zip ?_ | refine v_kZl ?_ | refine v_kZt ?_ | (apply v_augI; · with_unfolding_all exact rfl) | refine v_try ?_ | refine v_isE ?_ | (refine v_kIE ?_ ?_; (· with_unfolding_all exact rfl)) | refine v_isB ?_ | refine v_notB ?_ | refine v_all ?_ | refine v_par3 ?_ | refine v_ifnT ?_ | refine v_ifnF ?_ | refine v_eqs ?_ | refine v_nes ?_ | refine v_rvs ?_ | refine v_kRvl ?_ | refine v_kRvt ?_
  | (refine v_mulb (a := ?a) (b := ?b) ?ha ?hb ?l ?h; (case ha => assumption); (case hb => assumption); (case l => omega)) | (refine v_fdivb (b := ?b) ?h0 ?hb ?l ?h; (case h0 => assumption); (case hb => assumption); (case l => omega)))
local macro_rules | `(tactic| walk_at "o") => `(tactic| first | walk_at "s" | with_reducible first
  | refine v_chn ?_ | refine v_signs ?_ | refine v_kSg ?_ | refine v_inS ?_ | refine v_ninS ?_ | (refine v_inQ2 ?_ ?_ ?_ ?_; (· first | assumption | (with_unfolding_all decide +kernel)); (· with_unfolding_all decide +kernel); (· with_unfolding_all decide +kernel)) | (refine v_inQ3 ?_ ?_ ?_ ?_ ?_; (· first | assumption | (with_unfolding_all decide +kernel)); (· with_unfolding_all decide +kernel); (· with_unfolding_all decide +kernel); (· with_unfolding_all decide +kernel)) | (refine v_inQ4 ?_ ?_ ?_ ?_ ?_ ?_; (· first | assumption | (with_unfolding_all decide +kernel)); (· with_unfolding_all decide +kernel); (· with_unfolding_all decide +kernel); (· with_unfolding_all decide +kernel); (· with_unfolding_all decide +kernel))
  | refine v_inF ?_ | refine v_getF ?_ | refine v_kGF ?_ | (refine v_gGetF ?_ ?_; (· with_unfolding_all exact rfl)) | refine v_slS ?_ | (refine v_kSS ?_ ?_; (· first | assumption | omega)) | refine v_intUi ?_ | (refine v_lens ?_ ?_; (· first | assumption | omega)) | refine v_dH ?_ | refine v_hInt ?_ | refine v_hNeg ?_ | refine v_fset ?_
  | (apply v_hVar; (· with_unfolding_all exact rfl); (· rfl)))
local macro_rules | `(tactic| walk_at "r") => `(tactic| first | walk_at "o" | with_reducible first
  | (apply un_words; (· with_unfolding_all exact rfl)) | (apply ui_words; (· with_unfolding_all exact rfl)) | (apply ua_words; (· with_unfolding_all exact rfl)) | (apply uh_words; (· with_unfolding_all exact rfl)) | (apply uf_at_; (· with_unfolding_all exact rfl)) | (apply us_at_; (· with_unfolding_all exact rfl)) | (apply uc_here; (· with_unfolding_all exact rfl)) | (apply uc_takes; (· with_unfolding_all exact rfl)) | (apply uc_number; (· with_unfolding_all exact rfl)) | (apply uc_letter_power; (· with_unfolding_all exact rfl)) | (apply uc_term; (· with_unfolding_all exact rfl)) | (apply uc_whole; (· with_unfolding_all exact rfl)))
abbrev Tm := Int × Nat × Nat
def termF (r : LW) : Option ((Nat × Nat × Nat) × LW) :=
  if hd r = [120] then (letF r).map fun p => ((1, 1, p.1), p.2)
  else (numF r).bind fun p => (if hd p.2 = [47] then numF p.2.tail else some (1, p.2)).bind fun q =>
    if q.1 = 0 then none else (if hd q.2 = [42] then letF q.2.tail else some (0, q.2)).map fun t => ((p.1, q.1, t.1), t.2)
def tq (a : Int) (b k : Nat) : Ser Rat := Ser.C ((a : Rat) / (b : Rat)) * xp k
/-! ### sizes -/
theorem dgv_snoc (l : List Nat) (c : Nat) : NumText.digitsVal (l ++ [c]) = NumText.digitsVal l * 10 + (c - 48) := by
  unfold NumText.digitsVal
  rw [List.foldl_append]; rfl
theorem dgv_lt : ∀ (n : Nat) (l : List Nat), l.length = n → l.all isDig = true → NumText.digitsVal l < 10 ^ n
  | 0, l, hl, _ => by rw [List.eq_nil_of_length_eq_zero hl]; decide
  | n + 1, l, hl, hd => by
    rcases List.eq_nil_or_concat l with rfl | ⟨r, c, rfl⟩
    · cases hl
    rw [List.concat_eq_append] at *
    rw [List.all_append, Bool.and_eq_true] at hd
    have hc : isDig c = true := by have := hd.2; simpa using this
    have hc : 48 ≤ c ∧ c ≤ 57 := by unfold isDig at hc; simpa using hc
    have ih := dgv_lt n r (by simp at hl; exact hl) hd.1
    rw [dgv_snoc, Nat.pow_succ]
    omega
theorem ten_two (n : Nat) : 10 ^ n ≤ 2 ^ (4 * n) := by
  rw [Nat.pow_mul]
  exact Nat.pow_le_pow_left (by decide) n
theorem vN_bd {w : List Nat} (h : isN w = true) (k : Wok w) : bd (4 * w.length) ((vN w : Nat) : Int) := by
  have := dgv_lt _ w rfl (isN_dig h k).2
  have t := ten_two w.length
  unfold bd vN
  rw [Int.natAbs_natCast]
  omega
theorem wsum_hd {r : LW} (n : hd r ≠ []) : wsum r = (hd r).length + wsum r.tail := by
  obtain ⟨a, t, rfl⟩ := hd_ne n
  simp [wsum, hd]
theorem numF_some {r : LW} {p : Nat × LW} (h : numF r = some p) : isN (hd r) = true ∧ hd r ≠ [] ∧ p = (vN (hd r), r.tail) := by
  unfold numF at h
  split at h
  · rename_i c
    refine ⟨c, ?_, ?_⟩
    · intro e
      rw [e] at c
      cases c
    · cases h; rfl
  · cases h
theorem numF_bd {ws r : LW} (W : Wal ws) (S : r <:+ ws) {p : Nat × LW} (h : numF r = some p) : bd (4 * (wsum r - wsum p.2)) ((p.1 : Nat) : Int) ∧ wsum p.2 < wsum r ∧ p.2 <:+ ws := by
  obtain ⟨c, n, rfl⟩ := numF_some h
  have k := hd_wok W S n
  have e := wsum_hd n
  have l := List.length_pos_iff.mpr n
  refine ⟨?_, by show wsum r.tail < wsum r; omega, tail_suf S⟩
  show bd (4 * (wsum r - wsum r.tail)) _
  rw [show wsum r - wsum r.tail = (hd r).length by omega]
  exact vN_bd c k
theorem letF_some {ws r : LW} (S : r <:+ ws) {p : Nat × LW} (h : letF r = some p) : p.1 ≤ 64 ∧ wsum p.2 < wsum r ∧ p.2 <:+ ws := by
  unfold letF at h
  split at h
  · rename_i c
    have n : hd r ≠ [] := by rw [c]; exact List.cons_ne_nil _ _
    have e := wsum_hd n
    rw [c] at e
    simp only [List.length_cons, List.length_nil] at e
    split at h
    · rename_i c2
      have n2 : hd r.tail ≠ [] := by rw [c2]; exact List.cons_ne_nil _ _
      have e2 := wsum_hd n2
      obtain ⟨q, e3, h⟩ := Option.bind_eq_some_iff.mp h
      split at h
      · rename_i c3
        cases h
        obtain ⟨_, n3, rfl⟩ := numF_some e3
        have e4 := wsum_hd n3
        exact ⟨c3, by show wsum r.tail.tail.tail < _; omega, tail_suf (tail_suf (tail_suf S))⟩
      · cases h
    · cases h
      exact ⟨by show (1 : Nat) ≤ 64; decide, by show wsum r.tail < _; omega, tail_suf S⟩
  · cases h
theorem tail_lt {ws r : LW} (W : Wal ws) (S : r <:+ ws) (n : hd r ≠ []) : wsum r.tail < wsum r := by
  have := wsum_hd n
  have := List.length_pos_iff.mpr n
  omega
theorem termF_some {ws r : LW} (W : Wal ws) (S : r <:+ ws) {a b k : Nat} {r2 : LW} (h : termF r = some ((a, b, k), r2)) : r2 <:+ ws ∧ wsum r2 < wsum r ∧ b ≠ 0 ∧ k ≤ 64 ∧ bd (4 * (wsum r - wsum r2)) (a : Int) ∧ bd (4 * (wsum r - wsum r2)) (b : Int) := by
  unfold termF at h
  split at h
  · obtain ⟨p, e, h⟩ := Option.map_eq_some_iff.mp h
    obtain ⟨h1, h2, h3⟩ := letF_some S e
    cases h
    have one : bd (4 * (wsum r - wsum p.2)) 1 := bd_mono (show bd 1 1 by unfold bd; decide) (by omega)
    exact ⟨h3, h2, by decide, h1, one, one⟩
  · obtain ⟨p, e, h⟩ := Option.bind_eq_some_iff.mp h
    obtain ⟨a1, a2, a3⟩ := numF_bd W S e
    obtain ⟨q, e2, h⟩ := Option.bind_eq_some_iff.mp h
    have hq : bd (4 * (wsum r - wsum q.2)) ((q.1 : Nat) : Int) ∧ wsum q.2 ≤ wsum p.2 ∧ q.2 <:+ ws := by
      split at e2
      · rename_i c
        have := tail_lt W a3 (by rw [c]; exact List.cons_ne_nil _ _)
        obtain ⟨b1, b2, b3⟩ := numF_bd W (tail_suf a3) e2
        exact ⟨bd_mono b1 (by omega), by omega, b3⟩
      · cases e2
        exact ⟨bd_mono (show bd 1 1 by unfold bd; decide) (by show 1 ≤ 4 * (wsum r - wsum p.2); omega), Nat.le_refl _, a3⟩
    split at h
    · cases h
    rename_i q0
    obtain ⟨t, e3, h⟩ := Option.map_eq_some_iff.mp h
    have ht : t.1 ≤ 64 ∧ wsum t.2 ≤ wsum q.2 ∧ t.2 <:+ ws := by
      split at e3
      · rename_i c
        have := tail_lt W hq.2.2 (by rw [c]; exact List.cons_ne_nil _ _)
        obtain ⟨b1, b2, b3⟩ := letF_some (tail_suf hq.2.2) e3
        exact ⟨b1, by omega, b3⟩
      · cases e3
        exact ⟨by show (0 : Nat) ≤ 64; decide, Nat.le_refl _, hq.2.2⟩
    cases h
    exact ⟨ht.2.2, by omega, q0, ht.1, bd_mono a1 (by omega), bd_mono hq.1 (by omega)⟩
theorem natq {b : Nat} (h : b ≠ 0) : (b : Rat) ≠ 0 := fun e => h (by exact_mod_cast e)
theorem tq_P {a : Int} {b k : Nat} {xs : List Int} (hb : b ≠ 0) (hx : R (ser (List.replicate k 0 ++ [a])) xs) : P (tq a b k) (lowR xs (b : Int)) (lowD xs (b : Int)) := by
  refine low_P (by omega) hx.dn ?_
  rw [hx.sr, ser_back, qs_mul, qs_xp, show ser [a] = Ser.C a by rw [ser_cons, ser_nil]; grind, qs_C]
  unfold tq
  have e : ((b : Nat) : Int) = ((b : Int) : Int) := rfl
  have q : (((b : Nat) : Int) : Rat) = (b : Rat) := by first | rfl | exact Rat.intCast_natCast b | norm_cast
  rw [q, ← Lean.Grind.Semiring.mul_assoc, ← C_mul]
  have b0 := natq hb
  have : (b : Rat) * ((a : Rat) / (b : Rat)) = (a : Rat) := by
    rw [Rat.div_def]
    have := Rat.mul_inv_cancel _ b0
    grind
  rw [this]
  grind
theorem row_len {a : Int} {k : Nat} {xs : List Int} (hx : R (ser (List.replicate k 0 ++ [a])) xs) : xs.length ≤ k + 1 := by
  have := R.of (f := ser (List.replicate k 0 ++ [a])) rfl
  rw [hx.uniq this]
  refine Nat.le_trans (strip_len _) ?_
  simp
theorem row_bd {a : Int} {k n : Nat} {xs : List Int} (hx : R (ser (List.replicate k 0 ++ [a])) xs) (h : bd n a) : ∀ x ∈ xs, bd n x := by
  have := R.of (f := ser (List.replicate k 0 ++ [a])) rfl
  rw [hx.uniq this]
  intro x m
  have := strip_mem m
  simp at this
  rcases this with ⟨_, rfl⟩ | rfl
  · unfold bd; simp; exact Nat.pow_pos (by decide)
  · exact h
section
variable {M : Type}
def b_reading_Source_term {M : Type} : DS (M × Ob) :=
    (dThen (dIte (dTst (dBin gEq (dMeth 0 "here" s_reading_Source_here dNil) (dC (.str "x"))))
      (dRet (dCall s_polys_poly [.int 1] (dCons (dCall s_rows_shifted [] (dCons (dTup (dCons (dC (.int 1)) dNil)) (dCons (dMeth 0 "letter_power" s_reading_Source_letter_power dNil) dNil))) dNil)))
      dNext)
    (dThen (dSet 1 (dMeth 0 "number" s_reading_Source_number dNil))
    (dThen (dSet 2 (dIf (dVal (dMeth 0 "takes" s_reading_Source_takes (dCons (dC (.str "/")) dNil))) (dMeth 0 "number" s_reading_Source_number dNil) (dC (.int 1))))
    (dThen (dIte (dTst (dBin gEq (dVar 2) (dC (.int 0))))
      (dRaise "BadText")
      dNext)
    (dThen (dSet 3 (dIf (dVal (dMeth 0 "takes" s_reading_Source_takes (dCons (dC (.str "*")) dNil))) (dMeth 0 "letter_power" s_reading_Source_letter_power dNil) (dC (.int 0))))
    (dRet (dCall s_polys_poly [] (dCons (dCall s_rows_row_of [] (dCons (dBin gAdd (dBin gMul (dLst (dCons (dC (.int 0)) dNil)) (dVar 3)) (dLst (dCons (dVar 1) dNil))) dNil)) (dCons (dVar 2) dNil)))))))))
/-- what comes behind a term -/
def AftT (h : Nat) (ws : LW) (m1 : M) (Q : D → M × Ob → Prop) (Z : Str → M × Ob → Prop) (n : Nat) : Option ((Nat × Nat × Nat) × LW) → Prop
  | none => ∀ o : Ob, o.h = h → Z "BadText" (m1, o)
  | some ((a, b, k), r2) => ∀ x d, P (tq a b k) x d → PB 65 (4 * (n - wsum r2)) x d → Q (pd x d) (m1, obS h (Sf ws r2))
def s_reading_Source_term {M : Type} : DSp (M × Ob) := fun ds m Q Z => ∃ (h : Nat) (ws r : LW) (m1 : M), ds = [.hnd h] ∧ m = (m1, obS h (Sf ws r)) ∧ r <:+ ws ∧ Wal ws ∧ wsum ws ≤ 2000 ∧ AftT h ws m1 Q Z (wsum r) (termF r)
theorem wsum_suf {r ws : LW} (h : r <:+ ws) : wsum r ≤ wsum ws := by
  obtain ⟨p, rfl⟩ := h
  rw [wsum_app]
  omega
theorem vc_reading_Source_term {M : Type} : ∀ ds (m : M × Ob) Q Z, s_reading_Source_term ds m Q Z → okK [false] ds ∧ b_reading_Source_term { nx := fun _ m' => Q .non m', rt := Q, ex := Z } (st0 [false] ds 4) m := by
  rintro ds m Q Z ⟨h, ws, r, m1, rfl, rfl, S, W, hw, k⟩
  refine ⟨⟨fun _ => rfl, trivial⟩, ?_⟩
  have hs := wsum_suf S
  -- the end: a told row, by a number
  have fin : ∀ {a b kk : Nat} {r2 : LW}, termF r = some ((a, b, kk), r2) → ∀ xs, R (ser (List.replicate kk 0 ++ [(a : Int)])) xs → Sm xs (b : Int) ∧ Q (pd (lowR xs (b : Int)) (lowD xs (b : Int))) (m1, obS h (Sf ws r2)) := fun {a b kk r2} e xs hx => by
    obtain ⟨t1, t2, t3, t4, t5, t6⟩ := termF_some W S e
    rw [e] at k
    have hP := tq_P t3 hx
    refine ⟨Sm.of t6 (row_bd hx t5) (.inl (by omega)), k _ _ hP ⟨?_, lowR_bd (by omega) (row_bd hx t5), lowD_bd (by omega) t6⟩⟩
    rw [lowR_len]
    have := row_len hx
    omega
  unfold b_reading_Source_term
  repeat walk_at "r"
  refine ⟨h, ws, r, m1, rfl, rfl, S, ?_⟩
  repeat walk_at "r"
  rw [tx_eq, s120]
  by_cases c : hd r = [120]
  · rw [decide_eq_true c]
    try ((with_reducible show @ite _ _ _ _ _); refine v_ifT ?_)
    repeat walk_at "r"
    refine ⟨h, ws, r, m1, rfl, rfl, S, W, ?_⟩
    have e0 : termF r = (letF r).map fun p => ((1, 1, p.1), p.2) := by unfold termF; rw [if_pos c]
    cases q : letF r with
    | none => rw [e0, q] at k; exact k
    | some p =>
      obtain ⟨kk, r2⟩ := p
      rw [q] at e0
      obtain ⟨p1, p2, p3⟩ := letF_some S q
      intro S2
      repeat walk_at "r"
      refine ⟨[1], kk, rfl, by decide, by have : kk ≤ 64 := p1; omega, fun xs hx => ?_⟩
      repeat walk_at "r"
      have hl := row_len (a := 1) hx
      exact ⟨xs, 1, rfl, by have : kk ≤ 64 := p1; omega, fun z => absurd z (by decide), fun _ => fin e0 xs hx⟩
  · rw [decide_eq_false c]
    try ((with_reducible show @ite _ _ _ _ _); refine v_ifF ?_)
    repeat walk_at "r"
    refine ⟨h, ws, r, m1, rfl, rfl, S, W, ?_⟩
    have e0 : termF r = (numF r).bind fun p => (if hd p.2 = [47] then numF p.2.tail else some (1, p.2)).bind fun q =>
      if q.1 = 0 then none else (if hd q.2 = [42] then letF q.2.tail else some (0, q.2)).map fun t => ((p.1, q.1, t.1), t.2) := by unfold termF; rw [if_neg c]
    cases q : numF r with
    | none => rw [e0, q] at k; exact k
    | some p =>
      obtain ⟨a, r1⟩ := p
      have e1 : termF r = (if hd r1 = [47] then numF r1.tail else some (1, r1)).bind fun q =>
        if q.1 = 0 then none else (if hd q.2 = [42] then letF q.2.tail else some (0, q.2)).map fun t => ((a, q.1, t.1), t.2) := by rw [e0, q]; rfl
      intro S1
      repeat walk_at "r"
      -- behind the second number
      have rest : ∀ (b : Nat) (r2 : LW), r2 <:+ ws → termF r = (if b = 0 then none else (if hd r2 = [42] then letF r2.tail else some (0, r2)).map fun t => ((a, b, t.1), t.2)) →
          (dThen (dIte (dTst (dBin gEq (dVar 2) (dC (.int 0))))
            (dRaise "BadText")
            dNext)
          (dThen (dSet 3 (dIf (dVal (dMeth 0 "takes" s_reading_Source_takes (dCons (dC (.str "*")) dNil))) (dMeth 0 "letter_power" s_reading_Source_letter_power dNil) (dC (.int 0))))
          (dRet (dCall s_polys_poly [] (dCons (dCall s_rows_row_of [] (dCons (dBin gAdd (dBin gMul (dLst (dCons (dC (.int 0)) dNil)) (dVar 3)) (dLst (dCons (dVar 1) dNil))) dNil)) (dCons (dVar 2) dNil)))))) { nx := fun _ m' => Q .non m', rt := Q, ex := Z } [.val (.hnd h), .val (.int a), .val (.int b), .un] (m1, obS h (Sf ws r2)) := by
        intro b r2 S2 e2
        repeat walk_at "r"
        by_cases b0 : b = 0
        · rw [if_pos b0] at e2
          rw [show decide ((b : Int) = 0) = true from decide_eq_true (by omega)]
          try ((with_reducible show @ite _ _ _ _ _); refine v_ifT ?_)
          repeat walk_at "r"
          rw [e2] at k
          exact k _ rfl
        · rw [if_neg b0] at e2
          rw [show decide ((b : Int) = 0) = false from decide_eq_false (by omega)]
          try ((with_reducible show @ite _ _ _ _ _); refine v_ifF ?_)
          repeat walk_at "r"
          -- behind the power
          have last : ∀ (kk : Nat) (r3 : LW), r3 <:+ ws → kk ≤ 64 → termF r = some ((a, b, kk), r3) →
              (dRet (dCall s_polys_poly [] (dCons (dCall s_rows_row_of [] (dCons (dBin gAdd (dBin gMul (dLst (dCons (dC (.int 0)) dNil)) (dVar 3)) (dLst (dCons (dVar 1) dNil))) dNil)) (dCons (dVar 2) dNil)))) ({ nx := fun _ m' => Q .non m', rt := Q, ex := Z } : DE (M × Ob)) [.val (.hnd h), .val (.int a), .val (.int b), .val (.int kk)] (m1, obS h (Sf ws r3)) := by
            intro kk r3 S3 hk e3
            repeat walk_at "r"
            refine v_repl1 (by omega) (by omega) ?_
            repeat walk_at "r"
            refine v_addlz (xs := List.replicate (kk : Int).toNat 0) (ys := [(a : Int)]) (by rw [List.length_replicate]; show kk + 1 ≤ _; omega) ?_
            rw [Int.toNat_natCast]
            repeat walk_at "r"
            refine ⟨_, List.replicate kk 0 ++ [(a : Int)], rfl, isRow_l, by rw [List.length_append, List.length_replicate]; show kk + 1 ≤ _; omega, fun xs hx => ?_⟩
            repeat walk_at "r"
            have hl := row_len hx
            exact ⟨xs, b, rfl, by omega, fun z => absurd z (by omega), fun _ => fin e3 xs hx⟩
          refine ⟨h, ws, r2, m1, "*", rfl, rfl, S2, by rw [s42]; exact List.cons_ne_nil _ _, fun c2 => ?_, fun c2 => ?_⟩
          · rw [s42] at c2
            rw [if_pos c2] at e2
            repeat walk_at "r"
            try ((with_reducible show @ite _ _ _ _ _); refine v_ifT ?_)
            repeat walk_at "r"
            refine ⟨h, ws, r2.tail, m1, rfl, rfl, tail_suf S2, W, ?_⟩
            cases q3 : letF r2.tail with
            | none =>
              rw [q3] at e2
              rw [e2] at k
              exact k
            | some p3 =>
              obtain ⟨kk, r3⟩ := p3
              rw [q3] at e2
              obtain ⟨l1, l2, l3⟩ := letF_some (tail_suf S2) q3
              intro S3
              exact last kk r3 S3 l1 e2
          · rw [s42] at c2
            rw [if_neg c2] at e2
            refine v_kVb ?_
            refine v_ifF ?_
            refine v_c ?_
            exact last 0 r2 S2 (by decide) e2
      refine ⟨h, ws, r1, m1, "/", rfl, rfl, S1, by rw [s47]; exact List.cons_ne_nil _ _, fun c2 => ?_, fun c2 => ?_⟩
      · rw [s47] at c2
        rw [if_pos c2] at e1
        repeat walk_at "r"
        try ((with_reducible show @ite _ _ _ _ _); refine v_ifT ?_)
        repeat walk_at "r"
        refine ⟨h, ws, r1.tail, m1, rfl, rfl, tail_suf S1, W, ?_⟩
        cases q3 : numF r1.tail with
        | none =>
          rw [q3] at e1
          rw [e1] at k
          exact k
        | some p3 =>
          obtain ⟨b, r2⟩ := p3
          rw [q3] at e1
          intro S2
          exact rest b r2 S2 e1
      · rw [s47] at c2
        rw [if_neg c2] at e1
        refine v_kVb ?_
        refine v_ifF ?_
        refine v_c ?_
        exact rest 1 r1 S1 e1
end
end RR

/-! V07d: all terms; a text read -/
namespace RR
open PySem PySem.Spec PyProof.Rows L2
local macro_rules | `(tactic| walk_at "bd") => `(tactic| first | assumption | exact bd_lit (by decide) | (with_reducible refine bd_mul ?_ ?_ <;> walk_at "bd") | (with_reducible refine bd_add ?_ ?_ <;> walk_at "bd") | (with_reducible refine bd_sub ?_ ?_ <;> walk_at "bd") | (with_reducible refine bd_neg ?_ <;> walk_at "bd"))
local macro_rules | `(tactic| walk_at "s") => `(tactic| with_reducible first
  | refine v_then ?_ | refine v_set ?_ | (apply v_var; · with_unfolding_all exact rfl) | refine v_bin ?_ | refine v_c ?_ | refine v_g0 ?_ | refine v_add ?_ | refine v_cons ?_ | refine v_nil ?_ | refine v_call ?_ | refine v_dB ?_ | refine v_next ?_ | refine v_ret ?_
  | refine v_ite ?_ | refine v_tst ?_ | refine v_kT ?_ | refine v_eqi ?_ | refine v_nei ?_ | refine v_eqr ?_ | refine v_ner ?_ | refine v_eqr0 ?_ | refine v_ner0 ?_ | refine v_eql ?_ | refine v_nel ?_ | refine v_eql0 ?_ | refine v_nel0 ?_ | refine v_isN ?_ | refine v_notN ?_
  | (apply v_bor; · with_unfolding_all exact rfl) | (apply v_own; · with_unfolding_all exact rfl) | refine v_tup ?_ | refine v_lst ?_ | (refine v_sz ?_ ?_; (· with_unfolding_all exact Nat.le_of_ble_eq_true rfl)) | (refine v_gIIz ?_ ?_; (· first | decide | omega))
  | refine v_lentz ?_ | refine v_lenlz ?_ | refine v_lent ?_ | refine v_lenl ?_ | refine v_I1 ?_ | refine v_I2 ?_ | refine v_int ?_ | refine v_seqlz ?_ | refine v_seqtz ?_ | refine v_sl ?_ | refine v_kSll ?_ | refine v_kSlt ?_ | refine v_ono ?_ | refine v_oso ?_ | refine v_kOS ?_
  | refine v_val ?_ | refine v_kVb ?_ | refine v_kVi ?_ | refine v_kVt ?_ | refine v_kVl ?_ | refine v_and ?_ | refine v_or ?_ | refine v_not ?_ | refine v_yes ?_ | refine v_if' ?_ | refine v_isi ?_ | refine v_kIii ?_ | refine v_kIib ?_ | refine v_kItt ?_
  | refine v_andV ?_ | refine v_orV ?_ | refine v_notV ?_ | refine v_kNV ?_ | refine v_neg ?_ | refine v_kNeg ?_ | refine v_seq ?_ | refine v_kSeql ?_ | refine v_kSeqt ?_ | refine v_rng1 ?_ | refine v_rng2 ?_ | refine v_enum ?_ | refine v_revr ?_ | refine v_rev ?_
  | (refine v_kR1 ?_ ?_ ?_; (· with_unfolding_all decide +kernel); (· with_unfolding_all decide +kernel))
  | (refine v_kR2 ?_ ?_ ?_ ?_ ?_; (· with_unfolding_all decide +kernel); (· with_unfolding_all decide +kernel); (· with_unfolding_all decide +kernel); (· with_unfolding_all decide +kernel))
  | refine v_gn ?_ | refine v_gt2 ?_ | refine v_gt3 ?_ | refine v_lc ?_ | refine v_for ?_ | refine v_setO ?_ | refine v_drop ?_ | (apply v_app; · with_unfolding_all exact rfl) | (apply v_setI; · with_unfolding_all exact rfl) | (apply v_rel; · with_unfolding_all exact rfl) | refine v_raise ?_ | refine v_par ?_ | refine v_kP ?_ | refine v_asg ?_
  | (apply v_aug; · with_unfolding_all exact rfl) | refine v_ifT ?_ | refine v_ifF ?_ | (refine v_pow ?_ ?_ ?_ ?_; (· with_unfolding_all decide +kernel); (· with_unfolding_all decide +kernel); (· with_unfolding_all decide +kernel)) | refine v_call0 ?_ | (apply v_lenr; · assumption) | (apply v_seqr; · assumption) | (apply v_kSeqr; · assumption) | (apply v_kSlr; · assumption)
  | refine v_ix0 ?_ | refine v_ix1 ?_ | refine v_ix2 ?_ | refine v_zip ?_ | refine v_kZl ?_ | refine v_kZt ?_ | (apply v_augI; · with_unfolding_all exact rfl) | refine v_try ?_ | refine v_isE ?_ | (refine v_kIE ?_ ?_; (· with_unfolding_all exact rfl)) | refine v_isB ?_ | refine v_notB ?_ | refine v_all ?_ | refine v_par3 ?_ | refine v_ifnT ?_ | refine v_ifnF ?_ | refine v_eqs ?_ | refine v_nes ?_ | refine v_rvs ?_ | refine v_kRvl ?_ | refine v_kRvt ?_
  | (refine v_mulb (a := ?a) (b := ?b) ?ha ?hb ?l ?h; (case ha => assumption); (case hb => assumption); (case l => omega)) | (refine v_fdivb (b := ?b) ?h0 ?hb ?l ?h; (case h0 => assumption); (case hb => assumption); (case l => omega)))
local macro_rules | `(tactic| walk_at "o") => `(tactic| first | walk_at "s" | with_reducible first
  | refine v_chn ?_ | refine v_signs ?_ | refine v_kSg ?_ | refine v_inS ?_ | refine v_ninS ?_ | (refine v_inQ2 ?_ ?_ ?_ ?_; (· first | assumption | (with_unfolding_all decide +kernel)); (· with_unfolding_all decide +kernel); (· with_unfolding_all decide +kernel)) | (refine v_inQ3 ?_ ?_ ?_ ?_ ?_; (· first | assumption | (with_unfolding_all decide +kernel)); (· with_unfolding_all decide +kernel); (· with_unfolding_all decide +kernel); (· with_unfolding_all decide +kernel)) | (refine v_inQ4 ?_ ?_ ?_ ?_ ?_ ?_; (· first | assumption | (with_unfolding_all decide +kernel)); (· with_unfolding_all decide +kernel); (· with_unfolding_all decide +kernel); (· with_unfolding_all decide +kernel); (· with_unfolding_all decide +kernel))
  | refine v_inF ?_ | refine v_getF ?_ | refine v_kGF ?_ | (refine v_gGetF ?_ ?_; (· with_unfolding_all exact rfl)) | refine v_slS ?_ | (refine v_kSS ?_ ?_; (· first | assumption | omega)) | refine v_intUi ?_ | (refine v_lens ?_ ?_; (· first | assumption | omega)) | refine v_dH ?_ | refine v_hInt ?_ | refine v_hNeg ?_ | refine v_fset ?_
  | (apply v_hVar; (· with_unfolding_all exact rfl); (· rfl)))
local macro_rules | `(tactic| walk_at "r") => `(tactic| first | walk_at "o" | with_reducible first
  | (apply un_words; (· with_unfolding_all exact rfl)) | (apply ui_words; (· with_unfolding_all exact rfl)) | (apply ua_words; (· with_unfolding_all exact rfl)) | (apply uh_words; (· with_unfolding_all exact rfl)) | (apply uf_at_; (· with_unfolding_all exact rfl)) | (apply us_at_; (· with_unfolding_all exact rfl)) | (apply uc_here; (· with_unfolding_all exact rfl)) | (apply uc_takes; (· with_unfolding_all exact rfl)) | (apply uc_number; (· with_unfolding_all exact rfl)) | (apply uc_letter_power; (· with_unfolding_all exact rfl)) | (apply uc_term; (· with_unfolding_all exact rfl)) | (apply uc_whole; (· with_unfolding_all exact rfl)))
def loopF : Nat → Int → LW → List Tm → Option (List Tm)
  | 0, _, _, _ => none
  | f + 1, side, r, acc => (termF r).bind fun p =>
    if hd p.2 = [43] then loopF f 1 p.2.tail (acc ++ [(side * p.1.1, p.1.2.1, p.1.2.2)])
    else if hd p.2 = [45] then loopF f (-1) p.2.tail (acc ++ [(side * p.1.1, p.1.2.1, p.1.2.2)])
    else if hd p.2 = [] then some (acc ++ [(side * p.1.1, p.1.2.1, p.1.2.2)]) else none
def wholeF (ws : LW) : Option (List Tm) :=
  if hd ws = [45] then loopF (ws.length + 1) (-1) ws.tail [] else if hd ws = [43] then loopF (ws.length + 1) 1 ws.tail [] else loopF (ws.length + 1) 1 ws []
def sumT (ts : List Tm) : Ser Rat := ts.foldl (fun s t => s + tq t.1 t.2.1 t.2.2) 0
theorem sumT_snoc (ts : List Tm) (a : Int) (b k : Nat) : sumT (ts ++ [(a, b, k)]) = sumT ts + tq a b k := by
  unfold sumT
  rw [List.foldl_append]; rfl
theorem suf_lt {ws r r2 : LW} (S : r <:+ ws) (S2 : r2 <:+ ws) (h : wsum r2 < wsum r) : r2.length < r.length := by
  rcases Nat.lt_or_ge r2.length r.length with l | l
  · exact l
  · have := wsum_suf (List.suffix_of_suffix_length_le S S2 l)
    omega
theorem tq_side {a side : Int} {b k : Nat} (h : side = 1 ∨ side = -1) : tq (side * a) b k = Ser.C (side : Rat) * tq a b k := by
  unfold tq
  rw [← Lean.Grind.Semiring.mul_assoc, ← C_mul, Rat.intCast_mul, Rat.div_def, Rat.div_def]
  congr 2
  grind
/-- a told term, of the other sign -/
theorem side_P {a side : Int} {b k n : Nat} {x : List Int} {d : Int} (h : side = 1 ∨ side = -1) (p : P (tq a b k) x d) (pb : PB 65 n x d) : side * d ≠ 0 ∧ P (tq (side * a) b k) (lowR x (side * d)) (lowD x (side * d)) ∧ PB 65 n (lowR x (side * d)) (lowD x (side * d)) ∧ bd n (side * d) := by
  have d0 := p.pos
  have e0 : side * d ≠ 0 := by rcases h with rfl | rfl <;> omega
  have sb : bd n (side * d) := by
    have := pb.dd
    unfold bd at *
    rcases h with rfl | rfl <;> simpa using this
  have eq : Ser.C ((side * d : Int) : Rat) * tq (side * a) b k = qs (ser x) := by
    rw [tq_side h, ← p.eq, ← Lean.Grind.Semiring.mul_assoc, ← C_mul, Rat.intCast_mul]
    congr 2
    rcases h with rfl | rfl
    · have : ((1 : Int) : Rat) = 1 := rfl
      rw [this]; grind
    · have : ((-1 : Int) : Rat) = -1 := rfl
      rw [this]; grind
  have hP := low_P e0 p.dn eq
  exact ⟨e0, hP, hP.PB e0 eq pb.ln pb.bd sb, sb⟩
section
variable {M : Type}
def b_reading_Source_whole {M : Type} : DS (M × Ob) :=
    (dThen (dSet 1 (dC (.tup [(.tup []), (.int 1)])))
    (dThen (dSet 2 (dIf (dVal (dMeth 0 "takes" s_reading_Source_takes (dCons (dC (.str "-")) dNil))) (dNeg (dC (.int 1))) (dC (.int 1))))
    (dThen (dIte (dTst (dBin gEq (dVar 2) (dC (.int 1))))
      (dDrop (dMeth 0 "takes" s_reading_Source_takes (dCons (dC (.str "+")) dNil)))
      dNext)
    (dThen (dSet 3 (dC (.bl false)))
    (dThen (dWhile (dNot (dVal (dVar 3)))
      (dThen (dAsg (dMeth 0 "term" s_reading_Source_term dNil) (dgT 2 (dgCons (dgN 4) (dgCons (dgN 5) dgNil))))
    (dThen (dSet 1 (dCall s_polys_plus [] (dCons (dVar 1) (dCons (dCall s_polys_poly [] (dCons (dVar 4) (dCons (dBin gMul (dVar 2) (dVar 5)) dNil))) dNil))))
    (dThen (dSet 2 (dIf (dTst (dBin gEq (dMeth 0 "here" s_reading_Source_here dNil) (dC (.str "-")))) (dNeg (dC (.int 1))) (dC (.int 1))))
    (dSet 3 (dAndV (dNotV (dMeth 0 "takes" s_reading_Source_takes (dCons (dC (.str "+")) dNil))) (dNotV (dMeth 0 "takes" s_reading_Source_takes (dCons (dC (.str "-")) dNil)))))))))
    (dThen (dIte (dTst (dBin gNe (dMeth 0 "here" s_reading_Source_here dNil) (dC (.str ""))))
      (dRaise "BadText")
      dNext)
    (dRet (dVar 1))))))))
def tl_whole {M : Type} : DS (M × Ob) :=
    (dThen (dSet 3 (dC (.bl false)))
    (dThen (dWhile (dNot (dVal (dVar 3)))
      (dThen (dAsg (dMeth 0 "term" s_reading_Source_term dNil) (dgT 2 (dgCons (dgN 4) (dgCons (dgN 5) dgNil))))
    (dThen (dSet 1 (dCall s_polys_plus [] (dCons (dVar 1) (dCons (dCall s_polys_poly [] (dCons (dVar 4) (dCons (dBin gMul (dVar 2) (dVar 5)) dNil))) dNil))))
    (dThen (dSet 2 (dIf (dTst (dBin gEq (dMeth 0 "here" s_reading_Source_here dNil) (dC (.str "-")))) (dNeg (dC (.int 1))) (dC (.int 1))))
    (dSet 3 (dAndV (dNotV (dMeth 0 "takes" s_reading_Source_takes (dCons (dC (.str "+")) dNil))) (dNotV (dMeth 0 "takes" s_reading_Source_takes (dCons (dC (.str "-")) dNil)))))))))
    (dThen (dIte (dTst (dBin gNe (dMeth 0 "here" s_reading_Source_here dNil) (dC (.str ""))))
      (dRaise "BadText")
      dNext)
    (dRet (dVar 1)))))
def b_reading_Source_whole2 {M : Type} : DS (M × Ob) :=
    (dThen (dSet 1 (dC (.tup [(.tup []), (.int 1)])))
    (dThen (dSet 2 (dIf (dVal (dMeth 0 "takes" s_reading_Source_takes (dCons (dC (.str "-")) dNil))) (dNeg (dC (.int 1))) (dC (.int 1))))
    (dThen (dIte (dTst (dBin gEq (dVar 2) (dC (.int 1))))
      (dDrop (dMeth 0 "takes" s_reading_Source_takes (dCons (dC (.str "+")) dNil)))
      dNext)
    tl_whole)))
theorem b_reading_Source_whole_eq : (b_reading_Source_whole : DS (M × Ob)) = b_reading_Source_whole2 := rfl
def AftW (h : Nat) (m1 : M) (Q : D → M × Ob → Prop) (Z : Str → M × Ob → Prop) : Option (List Tm) → Prop
  | none => ∀ o : Ob, o.h = h → Z "BadText" (m1, o)
  | some ts => ∀ x d, P (sumT ts) x d → PB 65 10001 x d → ∀ o : Ob, o.h = h → Q (pd x d) (m1, o)
def s_reading_Source_whole {M : Type} : DSp (M × Ob) := fun ds m Q Z => ∃ (h : Nat) (ws : LW) (m1 : M), ds = [.hnd h] ∧ m = (m1, obS h (Sf ws ws)) ∧ Wal ws ∧ wsum ws ≤ 2000 ∧ AftW h m1 Q Z (wholeF ws)
theorem tl_whole_ok {h : Nat} {ws : LW} {m1 : M} {Q : D → M × Ob → Prop} {Z : Str → M × Ob → Prop} (W : Wal ws) (hw : wsum ws ≤ 2000) (k : AftW h m1 Q Z (wholeF ws)) {r : LW} {side : Int} {s3 s4 s5 : Sl} (S : r <:+ ws) (hs : side = 1 ∨ side = -1) (f : Nat) (hf : r.length < f) (e : wholeF ws = loopF f side r []) :
    (tl_whole : DS (M × Ob)) { nx := fun _ m' => Q .non m', rt := Q, ex := Z } [.val (.hnd h), .val (pd [] 1), .val (.int side), s3, s4, s5] (m1, obS h (Sf ws r)) := by
  have pb0 : PB 65 (5 * (2000 - wsum r) + 1) [] 1 := by
    refine ⟨Nat.zero_le _, ?_, ?_⟩
    · intro _ h
      cases h
    · have : bd 1 1 := by unfold bd; decide
      exact bd_mono this (by omega)
  unfold tl_whole
  repeat walk_at "r"
  refine v_while (fun n ρ m' => ∃ (r : LW) (over : Bool) (acc : List Tm) (side : Int) (x : List Int) (d : Int) (s4 s5 : Sl), r <:+ ws ∧ (side = 1 ∨ side = -1) ∧ P (sumT acc) x d ∧ PB 65 (5 * (2000 - wsum r) + 1) x d ∧ n = 2 * r.length + (if over = true then 0 else 1) ∧ (over = false → ∃ f, r.length < f ∧ wholeF ws = loopF f side r acc) ∧ (over = true → wholeF ws = if hd r = [] then some acc else none) ∧
    ρ = [.val (.hnd h), .val (pd x d), .val (.int side), .val (.bl over), s4, s5] ∧ m' = (m1, obS h (Sf ws r))) (2 * r.length + 1)
    ⟨r, false, [], side, [], 1, s4, s5, S, hs, P.nil, pb0, rfl, fun _ => ⟨f, hf, e⟩, fun z => (nomatch z), rfl, rfl⟩ fun n ρ m' hW => ?_
  obtain ⟨r, over, acc, side, x, d, s4, s5, S, hs, hp, pb, rfl, h1, h2, rfl, rfl⟩ := hW
  have lw := wsum_suf S
  repeat walk_at "r"
  cases over with
  | true =>
    try ((with_reducible show @ite _ _ _ _ _); refine v_ifF ?_)
    repeat walk_at "r"
    refine ⟨h, ws, r, m1, rfl, rfl, S, ?_⟩
    repeat walk_at "r"
    rw [tx_eq, s0]
    have e := h2 rfl
    by_cases c : hd r = []
    · rw [if_pos c] at e
      rw [e] at k
      rw [decide_eq_true c]
      try ((with_reducible show @ite _ _ _ _ _); refine v_ifF ?_)
      repeat walk_at "r"
      exact k x d hp (pb.mono (Nat.le_refl _) (by omega)) _ rfl
    · rw [if_neg c] at e
      rw [e] at k
      rw [decide_eq_false c]
      try ((with_reducible show @ite _ _ _ _ _); refine v_ifT ?_)
      repeat walk_at "r"
      exact k _ rfl
  | false =>
    try ((with_reducible show @ite _ _ _ _ _); refine v_ifT ?_)
    obtain ⟨f, hf, e⟩ := h1 rfl
    obtain ⟨f, rfl⟩ : ∃ f', f = f' + 1 := ⟨f - 1, by omega⟩
    rw [loopF] at e
    repeat walk_at "r"
    refine ⟨h, ws, r, m1, rfl, rfl, S, W, hw, ?_⟩
    cases q : termF r with
    | none =>
      rw [q] at e
      rw [e] at k
      exact k
    | some p =>
      obtain ⟨⟨a, b, kk⟩, r2⟩ := p
      rw [q] at e
      obtain ⟨S2, l2, b0, k64, _, _⟩ := termF_some W S q
      have ll := suf_lt S S2 l2
      intro y c hy pby
      obtain ⟨z0, z1, z2, z3⟩ := side_P hs hy pby
      have e : wholeF ws = if hd r2 = [43] then loopF f 1 r2.tail (acc ++ [(side * a, b, kk)]) else if hd r2 = [45] then loopF f (-1) r2.tail (acc ++ [(side * a, b, kk)]) else if hd r2 = [] then some (acc ++ [(side * a, b, kk)]) else none := e
      repeat walk_at "r"
      refine v_mulb (a := 1) (b := 4 * (wsum r - wsum r2)) (by unfold bd; rcases hs with rfl | rfl <;> decide) pby.dd (by omega) ?_
      repeat walk_at "r"
      refine ⟨y, side * c, rfl, by have := pby.ln; omega, fun z => absurd z z0, fun _ => ⟨Sm.of z3 pby.bd (.inl (by omega)), ?_⟩⟩
      repeat walk_at "r"
      refine ⟨sumT acc, tq (side * a) b kk, x, d, _, _, 65, _, 65, _, rfl, hp, z1, pb, z2, by decide, by decide, by omega, fun x2 d2 hp2 pb2 => ?_⟩
      rw [← sumT_snoc] at hp2
      have pb2 : PB 65 (5 * (2000 - wsum r2) + 1) x2 d2 := pb2.mono (by decide) (by omega)
      repeat walk_at "r"
      refine ⟨h, ws, r2, m1, rfl, rfl, S2, ?_⟩
      repeat walk_at "r"
      rw [tx_eq, s45]
      have tl : r2.tail.length ≤ r2.length := by rw [List.length_tail]; omega
      by_cases c43 : hd r2 = [43]
      · rw [decide_eq_false (by rw [c43]; decide)]
        try ((with_reducible show @ite _ _ _ _ _); refine v_ifF ?_)
        repeat walk_at "r"
        refine ⟨h, ws, r2, m1, "+", rfl, rfl, S2, by rw [s43]; exact List.cons_ne_nil _ _, fun _ => ?_, fun z => absurd (by rw [s43]; exact c43) z⟩
        rw [if_pos c43] at e
        have tw := tail_lt W S2 (by rw [c43]; exact List.cons_ne_nil _ _)
        have tl2 := suf_lt S2 (tail_suf S2) tw
        repeat walk_at "r"
        refine v_kAV (fun z => (nomatch z)) fun _ => ?_
        repeat walk_at "r"
        exact ⟨2 * r2.tail.length + 1, by show _ < 2 * r.length + 1; omega, r2.tail, false, acc ++ [(side * a, b, kk)], 1, x2, d2, _, _, tail_suf S2, .inl rfl, hp2, pb2.mono (Nat.le_refl _) (by omega), rfl, fun _ => ⟨f, by omega, e⟩, fun z => (nomatch z), rfl, rfl⟩
      · rw [if_neg c43] at e
        have s43n : hd r2 ≠ ("+" : Str).cps.toList := by rw [s43]; exact c43
        by_cases c45 : hd r2 = [45]
        · rw [decide_eq_true c45]
          try ((with_reducible show @ite _ _ _ _ _); refine v_ifT ?_)
          repeat walk_at "r"
          refine ⟨h, ws, r2, m1, "+", rfl, rfl, S2, by rw [s43]; exact List.cons_ne_nil _ _, fun z => absurd z s43n, fun _ => ?_⟩
          rw [if_pos c45] at e
          have tw := tail_lt W S2 (by rw [c45]; exact List.cons_ne_nil _ _)
          have tl2 := suf_lt S2 (tail_suf S2) tw
          repeat walk_at "r"
          refine v_kAV (fun _ => ?_) fun z => (nomatch z)
          repeat walk_at "r"
          refine ⟨h, ws, r2, m1, "-", rfl, rfl, S2, by rw [s45]; exact List.cons_ne_nil _ _, fun _ => ?_, fun z => absurd (by rw [s45]; exact c45) z⟩
          repeat walk_at "r"
          exact ⟨2 * r2.tail.length + 1, by show _ < 2 * r.length + 1; omega, r2.tail, false, acc ++ [(side * a, b, kk)], -1, x2, d2, _, _, tail_suf S2, .inr rfl, hp2, pb2.mono (Nat.le_refl _) (by omega), rfl, fun _ => ⟨f, by omega, e⟩, fun z => (nomatch z), rfl, rfl⟩
        · rw [if_neg c45] at e
          have s45n : hd r2 ≠ ("-" : Str).cps.toList := by rw [s45]; exact c45
          rw [decide_eq_false c45]
          try ((with_reducible show @ite _ _ _ _ _); refine v_ifF ?_)
          repeat walk_at "r"
          refine ⟨h, ws, r2, m1, "+", rfl, rfl, S2, by rw [s43]; exact List.cons_ne_nil _ _, fun z => absurd z s43n, fun _ => ?_⟩
          repeat walk_at "r"
          refine v_kAV (fun _ => ?_) fun z => (nomatch z)
          repeat walk_at "r"
          refine ⟨h, ws, r2, m1, "-", rfl, rfl, S2, by rw [s45]; exact List.cons_ne_nil _ _, fun z => absurd z s45n, fun _ => ?_⟩
          repeat walk_at "r"
          exact ⟨2 * r2.length, by show _ < 2 * r.length + 1; omega, r2, true, acc ++ [(side * a, b, kk)], 1, x2, d2, _, _, S2, .inl rfl, hp2, pb2, rfl, fun z => (nomatch z), fun _ => e, rfl, rfl⟩
theorem vc_reading_Source_whole {M : Type} : ∀ ds (m : M × Ob) Q Z, s_reading_Source_whole ds m Q Z → okK [false] ds ∧ b_reading_Source_whole { nx := fun _ m' => Q .non m', rt := Q, ex := Z } (st0 [false] ds 6) m := by
  rintro ds m Q Z ⟨h, ws, m1, rfl, rfl, W, hw, k⟩
  refine ⟨⟨fun _ => rfl, trivial⟩, ?_⟩
  rw [b_reading_Source_whole_eq]
  unfold b_reading_Source_whole2
  have S : ws <:+ ws := List.suffix_refl _
  have tl : ws.tail.length ≤ ws.length := by rw [List.length_tail]; omega
  repeat walk_at "r"
  refine ⟨h, ws, ws, m1, "-", rfl, rfl, S, by rw [s45]; exact List.cons_ne_nil _ _, fun c => ?_, fun c => ?_⟩
  · rw [s45] at c
    repeat walk_at "r"
    exact tl_whole_ok W hw k (tail_suf S) (.inr rfl) (ws.length + 1) (by omega) (by unfold wholeF; rw [if_pos c])
  · rw [s45] at c
    repeat walk_at "r"
    rw [if_pos (by decide)]
    repeat walk_at "r"
    refine ⟨h, ws, ws, m1, "+", rfl, rfl, S, by rw [s43]; exact List.cons_ne_nil _ _, fun c2 => ?_, fun c2 => ?_⟩
    · rw [s43] at c2
      repeat walk_at "r"
      exact tl_whole_ok W hw k (tail_suf S) (.inl rfl) (ws.length + 1) (by omega) (by unfold wholeF; rw [if_neg c, if_pos c2])
    · rw [s43] at c2
      repeat walk_at "r"
      exact tl_whole_ok W hw k S (.inl rfl) (ws.length + 1) (by omega) (by unfold wholeF; rw [if_neg c, if_neg c2])
def readF (l : List Nat) : Option (List Tm) := (wds l).bind wholeF
def b_reading_read {M : Type} : DS M :=
    (dThen (dIte (dOr (dNot (dVal (dIsi "str" (dBor 0)))) (dTst (dBin gGt (dB gLen (dCons (dBor 0) dNil)) (dC (.int 2000)))))
      (dRaise "BadText")
      dNext)
    (dThen (dSetM 1 (dCall s_reading_words_of [] (dCons (dBor 0) dNil)))
    (dThen (dIte (dTst (dBin gIsN (dAny 1) (dC .non)))
      (dRaise "BadText")
      dNext)
    (xRet (xAsk "words" "whole" s_reading_Source___init__ s_reading_Source_whole 1)))))
def AftR (m : M) (Q : D → M → Prop) (Z : Str → M → Prop) : Option (List Tm) → Prop
  | none => Z "BadText" m
  | some ts => ∀ x d, P (sumT ts) x d → PB 65 10001 x d → Q (pd x d) m
def s_reading_read {M : Type} : DSp M := fun ds m Q Z => ∃ d, ds = [d] ∧ ((∃ z : Str, d = .str z ∧ z.length ≤ 16000000 ∧ (2000 < z.length → Z "BadText" m) ∧ (z.length ≤ 2000 → AftR m Q Z (readF z.cps.toList))) ∨
  ((∃ t, d.ty = some t ∧ isiB t "str" = false) ∧ Z "BadText" m))
theorem len_wsum {ws : LW} {w : List Nat} (h : w ∈ ws) : w.length ≤ wsum ws := by
  induction ws with
  | nil => cases h
  | cons a r ih =>
    have e : wsum (a :: r) = a.length + wsum r := by simp [wsum]
    rcases List.mem_cons.mp h with rfl | h
    · omega
    · have := ih h; omega
theorem pls_z7 (l : List Int) : D.pls (zz l) = true := pls_all.mpr fun d hd => by
  obtain ⟨_, _, rfl⟩ := List.mem_map.mp hd; rfl
theorem pl_pd (x : List Int) (d : Int) : (pd x d).pl = true := by
  show D.pls [.tup (zz x), .int d] = true
  rw [D.pls, D.pls]
  show (D.pls (zz x) && _) = true
  rw [pls_z7]; rfl
theorem pls_wD : ∀ ws : LW, D.pls (ws.map wD) = true
  | [] => rfl
  | w :: ws => by
    rw [List.map_cons, D.pls, pls_wD ws]; rfl
theorem vc_reading_read {M : Type} : ∀ ds (m : M) Q Z, s_reading_read ds m Q Z → okK [true] ds ∧ b_reading_read { nx := fun _ m' => Q .non m', rt := Q, ex := Z } (st0 [true] ds 2) m := by
  rintro ds m Q Z ⟨d, rfl, h⟩
  unfold b_reading_read
  rcases h with ⟨z, rfl, hl, h1, h2⟩ | ⟨⟨t, et, et2⟩, hZ⟩
  · refine ⟨⟨(fun z => by cases z), trivial⟩, ?_⟩
    repeat walk_at "o"
    refine v_kIs (b := true) rfl ?_
    repeat walk_at "o"
    by_cases c : 2000 < z.length
    · rw [show decide ((z.length : Int) > 2000) = true from decide_eq_true (by omega)]
      try ((with_reducible show @ite _ _ _ _ _); refine v_ifT ?_)
      repeat walk_at "o"
      exact h1 c
    · rw [show decide ((z.length : Int) > 2000) = false from decide_eq_false (by omega)]
      try ((with_reducible show @ite _ _ _ _ _); refine v_ifF ?_)
      repeat walk_at "o"
      have k := h2 (by omega)
      refine v_setM ?_
      repeat walk_at "o"
      refine ⟨z, rfl, hl, ?_⟩
      unfold readF at k
      cases q : wds z.cps.toList with
      | none =>
        rw [q] at k
        refine v_kSetN ?_
        repeat walk_at "o"
        refine v_anyV (by rfl) ?_
        repeat walk_at "o"
        exact k
      | some ws =>
        rw [q] at k
        have k : AftR m Q Z (wholeF ws) := k
        have sm := wds_sum q
        have ok := wds_ok q
        rw [len_list] at sm
        refine v_kSetM (nls_wD ws) ?_
        repeat walk_at "o"
        refine v_anyO (by rfl) ?_
        repeat walk_at "o"
        rw [show (D.lst (ws.map wD)).isN = false from rfl]
        try ((with_reducible show @ite _ _ _ _ _); refine v_ifF ?_)
        repeat walk_at "o"
        refine v_xRet ?_
        refine v_xAsk (by rfl) (pls_wD ws) fun h => ?_
        refine ⟨h, ws, m, rfl, rfl, rfl, rfl, um_whole h _, h, ws, m, rfl, rfl, ⟨fun w hw => ⟨ok w hw, by have := len_wsum hw; omega⟩, by omega⟩, by omega, ?_⟩
        cases e : wholeF ws with
        | none =>
          rw [e] at k
          exact fun o ho => ⟨ho, k⟩
        | some ts =>
          rw [e] at k
          exact fun x d hp pb o ho => ⟨ho, pl_pd x d, k x d hp pb⟩
  · refine ⟨⟨(fun z => by cases z), trivial⟩, ?_⟩
    repeat walk_at "o"
    refine v_kI (b := false) et et2 ?_
    repeat walk_at "o"
    exact hZ
end
end RR

/-! V07e: texts of terms: their words, how they are read -/
namespace RR
open PySem PySem.Spec PyProof.Rows L2 TL
theorem nm_dig (n : Nat) : ∀ c ∈ numL n, isDig c = true := fun c hc => by
  have := numL_digits n c hc
  unfold isDig
  simpa using this
theorem nm_head {n : Nat} (h : n ≠ 0) : (numL n).head? ≠ some 48 := fun e => by
  induction n using Nat.strongRecOn with
  | _ n ih =>
    by_cases h1 : n < 10
    · rw [numL_lt h1] at e
      simp at e; omega
    · rw [numL_step (by omega)] at e
      cases hh : numL (n / 10) with
      | nil => exact numL_ne _ hh
      | cons c r =>
        rw [hh] at e
        refine ih (n / 10) (by omega) (by omega) ?_
        rw [hh]; exact e
theorem nm_isN (n : Nat) : isN (numL n) = true := by
  cases e : numL n with
  | nil => exact absurd e (numL_ne n)
  | cons c r =>
    have hc := nm_dig n c (by rw [e]; exact List.mem_cons_self ..)
    show (isDig c && (decide (c ≠ 48) || decide (c :: r = [48]))) = true
    rw [hc, Bool.true_and]
    by_cases h0 : n = 0
    · subst h0
      rw [numL_lt (by decide)] at e
      cases e; rfl
    · have := nm_head h0
      rw [e] at this
      have : c ≠ 48 := by simpa using this
      rw [decide_eq_true this]; rfl
theorem nm_v (n : Nat) : vN (numL n) = n := numL_val n
/-! ### a text's words, from a state to a state -/
def Wr (l : List Nat) (ws : LW) (j j' : Bool) : Prop := ∀ acc, wrun (acc, j) l = some (acc ++ ws, j')
theorem Wr.nil {j : Bool} : Wr [] [] j j := fun acc => by rw [List.append_nil]; rfl
theorem Wr.app {l1 l2 : List Nat} {w1 w2 : LW} {a b c : Bool} (h : Wr l1 w1 a b) (h' : Wr l2 w2 b c) : Wr (l1 ++ l2) (w1 ++ w2) a c := fun acc => by
  rw [wrun_app, h acc]
  show wrun (acc ++ w1, b) l2 = _
  rw [h' (acc ++ w1), List.append_assoc]
theorem Wr.sg {c : Nat} {j : Bool} (h : isSg c = true) : Wr [c] [[c]] j false := fun acc => by
  have hd : isDig c = false := by
    cases e : isDig c with
    | false => rfl
    | true => rw [dig_sg e] at h; cases h
  show (wstep (acc, j) c).bind _ = _
  unfold wstep
  rw [hd, if_neg (by simp), if_pos (by rw [h]; rfl)]
  rfl
theorem Wr.gap0 : ∀ n : Nat, Wr (List.replicate n 32) [] false false
  | 0 => Wr.nil
  | n + 1 => fun acc => by
    have := Wr.gap0 n acc
    show (wstep (acc, false) 32).bind _ = _
    rw [show wstep (acc, false) 32 = some (acc, false) from rfl]
    exact this
theorem Wr.gap (n : Nat) (j : Bool) : ∃ j', Wr (List.replicate n 32) [] j j' := by
  cases n with
  | zero => exact ⟨j, Wr.nil⟩
  | succ n =>
    refine ⟨false, fun acc => ?_⟩
    have := Wr.gap0 n acc
    show (wstep (acc, j) 32).bind _ = _
    rw [show wstep (acc, j) 32 = some (acc, false) from by cases j <;> rfl]
    exact this
theorem run_digs : ∀ (d : List Nat) (acc : LW) (w : List Nat), (∀ c ∈ d, isDig c = true) → wrun (acc ++ [w], true) d = some (acc ++ [w ++ d], true)
  | [], acc, w, _ => by rw [List.append_nil]; rfl
  | c :: d, acc, w, h => by
    have e : wstep (acc ++ [w], true) c = some (acc ++ [w ++ [c]], true) := by
      unfold wstep
      rw [h c (List.mem_cons_self ..), if_pos (by rfl), List.dropLast_concat, List.getLastD_concat]
    show (wstep (acc ++ [w], true) c).bind _ = _
    rw [e]
    show wrun (acc ++ [w ++ [c]], true) d = _
    rw [run_digs d acc (w ++ [c]) fun x hx => h x (List.mem_cons_of_mem _ hx)]
    simp
theorem Wr.num (n : Nat) : Wr (numL n) [numL n] false true := fun acc => by
  cases e : numL n with
  | nil => exact absurd e (numL_ne n)
  | cons c d =>
    have hc := nm_dig n c (by rw [e]; exact List.mem_cons_self ..)
    show (wstep (acc, false) c).bind _ = _
    have e1 : wstep (acc, false) c = some (acc ++ [[c]], true) := by
      unfold wstep
      rw [hc]; rfl
    rw [e1]
    show wrun (acc ++ [[c]], true) d = _
    rw [run_digs d acc [c] fun x hx => nm_dig n x (by rw [e]; exact List.mem_cons_of_mem _ hx)]
    rfl
theorem Wr.wds {l : List Nat} {ws : LW} {j' : Bool} (h : Wr l ws false j') : RR.wds l = some ws := by
  unfold RR.wds
  rw [h []]
  rfl
/-! ### words that write a term -/
/-- the power of x -/
inductive Lw : LW → Nat → Prop
  | one : Lw [[120]] 1
  | pow (k : Nat) : k ≤ 64 → Lw [[120], [94], numL k] k
inductive Tw : LW → Nat → Nat → Nat → Prop
  | num (a : Nat) : Tw [numL a] a 1 0
  | frac (a b : Nat) : b ≠ 0 → Tw [numL a, [47], numL b] a b 0
  | let {w : LW} {k : Nat} : Lw w k → Tw w 1 1 k
  | numx (a : Nat) {w : LW} {k : Nat} : Lw w k → Tw ([numL a, [42]] ++ w) a 1 k
  | fracx (a b : Nat) {w : LW} {k : Nat} : b ≠ 0 → Lw w k → Tw ([numL a, [47], numL b, [42]] ++ w) a b k
/-- what may stand behind a term -/
def Ends (r : LW) : Prop := hd r = [43] ∨ hd r = [45] ∨ r = []
theorem Ends.n {r : LW} (h : Ends r) : hd r ≠ [47] ∧ hd r ≠ [42] ∧ hd r ≠ [94] := by
  rcases h with h | h | h
  · rw [h]; decide
  · rw [h]; decide
  · rw [h]; decide
theorem numF_num (n : Nat) (r : LW) : numF (numL n :: r) = some (n, r) := by
  unfold numF
  rw [if_pos (show isN (hd (numL n :: r)) = true from nm_isN n)]
  rw [show vN (hd (numL n :: r)) = n from nm_v n]
  rfl
theorem letF_read {w : LW} {k : Nat} (h : Lw w k) {r : LW} (e : Ends r) : letF (w ++ r) = some (k, r) := by
  cases h with
  | one =>
    unfold letF
    rw [if_pos (by rfl), if_neg (by exact e.n.2.2)]
    rfl
  | pow k hk =>
    unfold letF
    rw [if_pos (by rfl), if_pos (by rfl)]
    show (numF (numL k :: r)).bind _ = _
    rw [numF_num]
    show (if k ≤ 64 then _ else _) = _
    rw [if_pos hk]
theorem nm_ne120 (n : Nat) : numL n ≠ [120] := fun e => by
  have := nm_dig n 120 (by rw [e]; exact List.mem_singleton.mpr rfl)
  cases this
theorem Lw.hd {w : LW} {k : Nat} (h : Lw w k) (r : LW) : RR.hd (w ++ r) = [120] := by cases h <;> rfl
theorem termF_read {w : LW} {a b k : Nat} (h : Tw w a b k) {r : LW} (e : Ends r) : termF (w ++ r) = some ((a, b, k), r) := by
  obtain ⟨e1, e2, e3⟩ := e.n
  cases h with
  | num =>
    unfold termF
    rw [if_neg (show ¬ hd ([numL a] ++ r) = [120] from nm_ne120 a)]
    show (numF (numL a :: r)).bind _ = _
    rw [numF_num]
    show (if hd r = [47] then numF r.tail else some (1, r)).bind _ = _
    rw [if_neg e1]
    show (if (1 : Nat) = 0 then none else (if hd r = [42] then letF r.tail else some (0, r)).map _) = _
    rw [if_neg (by decide), if_neg e2]
    rfl
  | frac _ _ hb =>
    unfold termF
    rw [if_neg (show ¬ hd ([numL a, [47], numL b] ++ r) = [120] from nm_ne120 a)]
    show (numF (numL a :: ([47] :: numL b :: r))).bind _ = _
    rw [numF_num]
    show (if hd ([47] :: numL b :: r) = [47] then numF (numL b :: r) else _).bind _ = _
    rw [if_pos (by rfl), numF_num]
    show (if b = 0 then none else (if hd r = [42] then letF r.tail else some (0, r)).map _) = _
    rw [if_neg hb, if_neg e2]
    rfl
  | «let» l =>
    unfold termF
    rw [if_pos (l.hd r), letF_read l e]
    rfl
  | @numx _ w _ l =>
    unfold termF
    rw [if_neg (show ¬ hd ([numL a, [42]] ++ w ++ r) = [120] from nm_ne120 a)]
    show (numF (numL a :: ([42] :: (w ++ r)))).bind _ = _
    rw [numF_num]
    show (letF (w ++ r)).map (fun t => ((a, 1, t.1), t.2)) = _
    rw [letF_read l e]
    rfl
  | @fracx _ _ w _ hb l =>
    unfold termF
    rw [if_neg (show ¬ hd ([numL a, [47], numL b, [42]] ++ w ++ r) = [120] from nm_ne120 a)]
    show (numF (numL a :: ([47] :: numL b :: [42] :: (w ++ r)))).bind _ = _
    rw [numF_num]
    show (if hd ([47] :: numL b :: [42] :: (w ++ r)) = [47] then numF (numL b :: [42] :: (w ++ r)) else _).bind _ = _
    rw [if_pos (by rfl), numF_num]
    show (if b = 0 then none else (if hd ([42] :: (w ++ r)) = [42] then letF (w ++ r) else _).map _) = _
    rw [if_neg hb, if_pos (by rfl), letF_read l e]
    rfl
theorem Tw.hd {w : LW} {a b k : Nat} (h : Tw w a b k) (r : LW) : RR.hd (w ++ r) ≠ [43] ∧ RR.hd (w ++ r) ≠ [45] := by
  have nn : ∀ (n c : Nat), isDig c = false → numL n ≠ [c] := fun n c hc e => by
    have := nm_dig n c (by rw [e]; exact List.mem_singleton.mpr rfl)
    rw [hc] at this; cases this
  cases h with
  | «let» l => rw [l.hd r]; decide
  | _ => exact ⟨nn _ 43 rfl, nn _ 45 rfl⟩
/-! ### sums of terms -/
/-- a term: below nought or not, its words, what they tell -/
structure It where
  neg : Bool
  w : LW
  a : Nat
  b : Nat
  k : Nat
def It.ok (i : It) : Prop := Tw i.w i.a i.b i.k ∧ ∀ x ∈ i.w, x.length ≤ 640
def It.tm (i : It) : Tm := ((if i.neg = true then -1 else 1) * (i.a : Int), i.b, i.k)
def sgw (n : Bool) : List Nat := [if n = true then 45 else 43]
def flat : List It → LW
  | [] => []
  | i :: r => sgw i.neg :: (i.w ++ flat r)
theorem flat_ends (r : List It) : Ends (flat r) := by
  cases r with
  | nil => exact .inr (.inr rfl)
  | cons i r =>
    unfold flat sgw
    cases i.neg
    · exact .inl rfl
    · exact .inr (.inl rfl)
theorem loop_read : ∀ (r : List It) (i : It) (acc : List Tm) (f : Nat), i.ok → (∀ j ∈ r, j.ok) → r.length < f → loopF f (if i.neg = true then -1 else 1) (i.w ++ flat r) acc = some (acc ++ i.tm :: r.map It.tm)
  | r, i, acc, 0, _, _, h => absurd h (Nat.not_lt_zero _)
  | [], i, acc, f + 1, hi, _, _ => by
    rw [loopF, termF_read hi.1 (flat_ends [])]
    rfl
  | j :: r, i, acc, f + 1, hi, hr, h => by
    rw [loopF, termF_read hi.1 (flat_ends (j :: r))]
    have ih := loop_read r j (acc ++ [i.tm]) f (hr j (List.mem_cons_self ..)) (fun x hx => hr x (List.mem_cons_of_mem _ hx)) (by simp at h; omega)
    cases hn : j.neg with
    | false =>
      rw [hn] at ih
      have e : hd (flat (j :: r)) = [43] := by unfold flat sgw; rw [hn]; rfl
      show (if hd (flat (j :: r)) = [43] then _ else _) = _
      rw [if_pos e]
      refine Eq.trans ih ?_
      simp [It.tm]
    | true =>
      rw [hn] at ih
      have e : hd (flat (j :: r)) = [45] := by unfold flat sgw; rw [hn]; rfl
      show (if hd (flat (j :: r)) = [43] then _ else if hd (flat (j :: r)) = [45] then _ else _) = _
      rw [if_neg (by rw [e]; decide), if_pos e]
      refine Eq.trans ih ?_
      simp [It.tm]
/-- the words of a whole text: the first sign may be left out where it is + -/
def Lead (lead : LW) (i : It) : Prop := lead = [sgw i.neg] ∨ (lead = [] ∧ i.neg = false)
theorem Tw.len {w : LW} {a b k : Nat} (h : Tw w a b k) : 1 ≤ w.length := by
  cases h with
  | «let» l => cases l <;> simp
  | _ => simp
theorem flat_len : ∀ r : List It, r.length ≤ (flat r).length
  | [] => Nat.le_refl _
  | i :: r => by
    have := flat_len r
    simp [flat]
    omega
theorem whole_read {lead : LW} {i : It} {r : List It} (hl : Lead lead i) (hi : i.ok) (hr : ∀ j ∈ r, j.ok) : wholeF (lead ++ (i.w ++ flat r)) = some (i.tm :: r.map It.tm) := by
  have fl := flat_len r
  rcases hl with rfl | ⟨rfl, hn⟩
  · cases hn : i.neg with
    | false =>
      have e := loop_read r i [] ((sgw i.neg :: (i.w ++ flat r)).length + 1) hi hr (by simp; omega)
      rw [hn] at e
      unfold wholeF
      show (if hd (sgw false :: (i.w ++ flat r)) = [45] then _ else if hd (sgw false :: (i.w ++ flat r)) = [43] then _ else _) = _
      rw [if_neg (show ¬ hd (sgw false :: (i.w ++ flat r)) = [45] from (by decide : ¬ ([43] : List Nat) = [45])), if_pos (by rfl)]
      exact e
    | true =>
      have e := loop_read r i [] ((sgw i.neg :: (i.w ++ flat r)).length + 1) hi hr (by simp; omega)
      rw [hn] at e
      unfold wholeF
      show (if hd (sgw true :: (i.w ++ flat r)) = [45] then _ else _) = _
      rw [if_pos (by rfl)]
      exact e
  · have e := loop_read r i [] ((i.w ++ flat r).length + 1) hi hr (by simp; omega)
    rw [hn] at e
    have := Tw.hd hi.1 (flat r)
    unfold wholeF
    rw [List.nil_append, if_neg this.2, if_neg this.1]
    exact e
/-! ### a text as such a sum -/
/-- the text so far: none yet, or terms -/
def Told (l : List Nat) (ts : List Tm) : Prop := (l = [] ∧ ts = []) ∨ ∃ (lead : LW) (i : It) (r : List It) (j : Bool), Lead lead i ∧ i.ok ∧ (∀ x ∈ r, x.ok) ∧ Wr l (lead ++ (i.w ++ flat r)) false j ∧ ts = i.tm :: r.map It.tm
theorem Told.read {l : List Nat} {ts : List Tm} (h : Told l ts) (n : ts ≠ []) : readF l = some ts := by
  rcases h with ⟨_, h⟩ | ⟨lead, i, r, j, h1, h2, h3, h4, rfl⟩
  · exact absurd h n
  · unfold readF
    rw [h4.wds]
    exact whole_read h1 h2 h3
theorem flat_snoc : ∀ (r : List It) (i : It), flat (r ++ [i]) = flat r ++ (sgw i.neg :: i.w)
  | [], i => by simp [flat]
  | j :: r, i => by simp [flat, flat_snoc r i]
theorem Wr.sgn {j : Bool} (n : Bool) (a b : Nat) : Wr (List.replicate a 32 ++ (sgw n ++ List.replicate b 32)) [sgw n] j false := by
  obtain ⟨j', h⟩ := Wr.gap a j
  have s : Wr (sgw n) [sgw n] j' false := by
    unfold sgw
    cases n
    · exact Wr.sg (by decide)
    · exact Wr.sg (by decide)
  have := h.app (s.app (Wr.gap0 b))
  exact this
/-- one term more, with a sign -/
theorem Told.more {l : List Nat} {ts : List Tm} (h : Told l ts) {n : Bool} {w : LW} {a b k p q : Nat} {t : List Nat} {j : Bool} (hw : Tw w a b k) (hx : ∀ x ∈ w, x.length ≤ 640) (ht : Wr t w false j) :
    Told (l ++ ((List.replicate p 32 ++ (sgw n ++ List.replicate q 32)) ++ t)) (ts ++ [((if n = true then -1 else 1) * (a : Int), b, k)]) := by
  rcases h with ⟨rfl, rfl⟩ | ⟨lead, i, r, j2, h1, h2, h3, h4, rfl⟩
  · refine .inr ⟨[sgw n], ⟨n, w, a, b, k⟩, [], j, .inl rfl, ⟨hw, hx⟩, (fun _ h => by cases h), ?_, rfl⟩
    have := (Wr.sgn (j := false) n p q).app ht
    simp [flat]
    simpa using this
  · refine .inr ⟨lead, i, r ++ [⟨n, w, a, b, k⟩], j, h1, h2, fun x hx' => ?_, ?_, by simp [It.tm]⟩
    · rcases List.mem_append.mp hx' with hx' | hx'
      · exact h3 x hx'
      · simp at hx'; subst hx'; exact ⟨hw, hx⟩
    · have := h4.app ((Wr.sgn (j := j2) n p q).app ht)
      rw [flat_snoc]
      simpa using this
/-- the first term, without a sign -/
theorem Told.first {w : LW} {a b k p q : Nat} {t : List Nat} {j : Bool} (hw : Tw w a b k) (hx : ∀ x ∈ w, x.length ≤ 640) (ht : Wr t w false j) : Told ((List.replicate p 32 ++ List.replicate q 32) ++ t) [((if false = true then -1 else 1) * (a : Int), b, k)] := by
  refine .inr ⟨[], ⟨false, w, a, b, k⟩, [], j, .inr ⟨rfl, rfl⟩, ⟨hw, hx⟩, (fun _ h => by cases h), ?_, rfl⟩
  have := ((Wr.gap0 p).app (Wr.gap0 q)).app ht
  simp [flat]
  simpa using this
theorem Told.gap {l : List Nat} {ts : List Tm} (h : Told l ts) (n : ts ≠ []) (p : Nat) : Told (l ++ List.replicate p 32) ts := by
  rcases h with ⟨_, h⟩ | ⟨lead, i, r, j2, h1, h2, h3, h4, rfl⟩
  · exact absurd h n
  · obtain ⟨j', hg⟩ := Wr.gap p j2
    have := h4.app hg
    rw [List.append_nil] at this
    exact .inr ⟨lead, i, r, j', h1, h2, h3, this, rfl⟩
theorem flat_short : ∀ r : List It, (∀ i ∈ r, i.ok) → ∀ x ∈ flat r, x.length ≤ 640
  | [], _, _, h => by cases h
  | i :: r, h, x, hx => by
    unfold flat at hx
    rcases List.mem_cons.mp hx with rfl | hx
    · show 1 ≤ 640; decide
    · rcases List.mem_append.mp hx with hx | hx
      · exact (h i (List.mem_cons_self ..)).2 x hx
      · exact flat_short r (fun j hj => h j (List.mem_cons_of_mem _ hj)) x hx
theorem Told.short {l : List Nat} {ts : List Tm} (h : Told l ts) (n : ts ≠ []) : ∀ ws, RR.wds l = some ws → ∀ w ∈ ws, w.length ≤ 640 := by
  rcases h with ⟨_, h⟩ | ⟨lead, i, r, j2, h1, h2, h3, h4, rfl⟩
  · exact absurd h n
  · intro ws e x hx
    rw [h4.wds] at e
    cases e
    rcases List.mem_append.mp hx with hx | hx
    · rcases h1 with rfl | ⟨rfl, _⟩
      · simp at hx; subst hx; show 1 ≤ 640; decide
      · cases hx
    · rcases List.mem_append.mp hx with hx | hx
      · exact h2.2 x hx
      · exact flat_short r h3 x hx
/-! ### texts of letters and numbers -/
theorem Wr.lw1 : Wr [120] [[120]] false false := Wr.sg (by decide)
theorem Wr.mark (c : Nat) (h : isSg c = true) (n p q : Nat) {t : List Nat} {w : LW} {j : Bool} (ht : Wr t w false j) : Wr (numL n ++ (List.replicate p 32 ++ ([c] ++ (List.replicate q 32 ++ t)))) ([numL n, [c]] ++ w) false j := by
  obtain ⟨j', hg⟩ := Wr.gap p true
  have := (Wr.num n).app (hg.app ((Wr.sg (c := c) (j := j') h).app ((Wr.gap0 q).app ht)))
  exact this
end RR

/-! V07f: terms shown -/
namespace RR
open PySem PySem.Spec PyProof.Rows L2 TL
local macro_rules | `(tactic| walk_at "bd") => `(tactic| first | assumption | exact bd_lit (by decide) | (with_reducible refine bd_mul ?_ ?_ <;> walk_at "bd") | (with_reducible refine bd_add ?_ ?_ <;> walk_at "bd") | (with_reducible refine bd_sub ?_ ?_ <;> walk_at "bd") | (with_reducible refine bd_neg ?_ <;> walk_at "bd"))
local macro_rules | `(tactic| walk_at "s") => `(tactic| with_reducible first
  | refine v_then ?_ | refine v_set ?_ | (apply v_var; · with_unfolding_all exact rfl) | refine v_bin ?_ | refine v_c ?_ | refine v_g0 ?_ | refine v_add ?_ | refine v_cons ?_ | refine v_nil ?_ | refine v_call ?_ | refine v_dB ?_ | refine v_next ?_ | refine v_ret ?_
  | refine v_ite ?_ | refine v_tst ?_ | refine v_kT ?_ | refine v_eqi ?_ | refine v_nei ?_ | refine v_eqr ?_ | refine v_ner ?_ | refine v_eqr0 ?_ | refine v_ner0 ?_ | refine v_eql ?_ | refine v_nel ?_ | refine v_eql0 ?_ | refine v_nel0 ?_ | refine v_isN ?_ | refine v_notN ?_
  | (apply v_bor; · with_unfolding_all exact rfl) | (apply v_own; · with_unfolding_all exact rfl) | refine v_tup ?_ | refine v_lst ?_ | (refine v_sz ?_ ?_; (· with_unfolding_all exact Nat.le_of_ble_eq_true rfl)) | (refine v_gIIz ?_ ?_; (· first | decide | omega))
  | refine v_lentz ?_ | refine v_lenlz ?_ | refine v_lent ?_ | refine v_lenl ?_ | refine v_I1 ?_ | refine v_I2 ?_ | refine v_int ?_ | refine v_seqlz ?_ | refine v_seqtz ?_ | refine v_sl ?_ | refine v_kSll ?_ | refine v_kSlt ?_ | refine v_ono ?_ | refine v_oso ?_ | refine v_kOS ?_
  | refine v_val ?_ | refine v_kVb ?_ | refine v_kVi ?_ | refine v_kVt ?_ | refine v_kVl ?_ | refine v_and ?_ | refine v_or ?_ | refine v_not ?_ | refine v_yes ?_ | refine v_if' ?_ | refine v_isi ?_ | refine v_kIii ?_ | refine v_kIib ?_ | refine v_kItt ?_
  | refine v_andV ?_ | refine v_orV ?_ | refine v_notV ?_ | refine v_kNV ?_ | refine v_neg ?_ | refine v_kNeg ?_ | refine v_seq ?_ | refine v_kSeql ?_ | refine v_kSeqt ?_ | refine v_rng1 ?_ | refine v_rng2 ?_ | refine v_enum ?_ | refine v_revr ?_ | refine v_rev ?_
  | (refine v_kR1 ?_ ?_ ?_; (· with_unfolding_all decide +kernel); (· with_unfolding_all decide +kernel))
  | (refine v_kR2 ?_ ?_ ?_ ?_ ?_; (· with_unfolding_all decide +kernel); (· with_unfolding_all decide +kernel); (· with_unfolding_all decide +kernel); (· with_unfolding_all decide +kernel))
  | refine v_gn ?_ | refine v_gt2 ?_ | refine v_gt3 ?_ | refine v_lc ?_ | refine v_for ?_ | refine v_setO ?_ | refine v_drop ?_ | (apply v_app; · with_unfolding_all exact rfl) | (apply v_setI; · with_unfolding_all exact rfl) | (apply v_rel; · with_unfolding_all exact rfl) | refine v_raise ?_ | refine v_par ?_ | refine v_kP ?_ | refine v_asg ?_
  | (apply v_aug; · with_unfolding_all exact rfl) | refine v_ifT ?_ | refine v_ifF ?_ | (refine v_pow ?_ ?_ ?_ ?_; (· with_unfolding_all decide +kernel); (· with_unfolding_all decide +kernel); (· with_unfolding_all decide +kernel)) | refine v_call0 ?_ | (apply v_lenr; · assumption) | (apply v_seqr; · assumption) | (apply v_kSeqr; · assumption) | (apply v_kSlr; · assumption)
  | refine v_ix0 ?_ | refine v_ix1 ?_ | refine v_ix2 ?_ | refine v_zip ?_ | refine v_kZl ?_ | refine v_kZt ?_ | (apply v_augI; · with_unfolding_all exact rfl) | refine v_try ?_ | refine v_isE ?_ | (refine v_kIE ?_ ?_; (· with_unfolding_all exact rfl)) | refine v_isB ?_ | refine v_notB ?_ | refine v_all ?_ | refine v_par3 ?_ | refine v_ifnT ?_ | refine v_ifnF ?_ | refine v_eqs ?_ | refine v_nes ?_ | refine v_rvs ?_ | refine v_kRvl ?_ | refine v_kRvt ?_
  | (refine v_mulb (a := ?a) (b := ?b) ?ha ?hb ?l ?h; (case ha => assumption); (case hb => assumption); (case l => omega)) | (refine v_fdivb (b := ?b) ?h0 ?hb ?l ?h; (case h0 => assumption); (case hb => assumption); (case l => omega)))
local macro_rules | `(tactic| walk_at "o") => `(tactic| first | walk_at "s" | with_reducible first
  | refine v_chn ?_ | refine v_signs ?_ | refine v_kSg ?_ | refine v_inS ?_ | refine v_ninS ?_ | (refine v_inQ2 ?_ ?_ ?_ ?_; (· first | assumption | (with_unfolding_all decide +kernel)); (· with_unfolding_all decide +kernel); (· with_unfolding_all decide +kernel)) | (refine v_inQ3 ?_ ?_ ?_ ?_ ?_; (· first | assumption | (with_unfolding_all decide +kernel)); (· with_unfolding_all decide +kernel); (· with_unfolding_all decide +kernel); (· with_unfolding_all decide +kernel)) | (refine v_inQ4 ?_ ?_ ?_ ?_ ?_ ?_; (· first | assumption | (with_unfolding_all decide +kernel)); (· with_unfolding_all decide +kernel); (· with_unfolding_all decide +kernel); (· with_unfolding_all decide +kernel); (· with_unfolding_all decide +kernel))
  | refine v_inF ?_ | refine v_getF ?_ | refine v_kGF ?_ | (refine v_gGetF ?_ ?_; (· with_unfolding_all exact rfl)) | refine v_slS ?_ | (refine v_kSS ?_ ?_; (· first | assumption | omega)) | refine v_intUi ?_ | (refine v_lens ?_ ?_; (· first | assumption | omega)) | refine v_dH ?_ | refine v_hInt ?_ | refine v_hNeg ?_ | refine v_fset ?_
  | (apply v_hVar; (· with_unfolding_all exact rfl); (· rfl)))
theorem nm_len {n k : Nat} (h : bd 1900 (n : Int)) : (numL n).length ≤ 600 := by
  refine numL_len (by decide) ?_
  unfold bd at h
  rw [Int.natAbs_natCast] at h
  exact Nat.lt_trans h (by decide +kernel)
/-! ### the words of a term shown -/
section
variable {M : Type}
end
end RR

/-! V07g: polynomials shown -/
namespace RR
open PySem PySem.Spec PyProof.Rows L2 TL
local macro_rules | `(tactic| walk_at "bd") => `(tactic| first | assumption | exact bd_lit (by decide) | (with_reducible refine bd_mul ?_ ?_ <;> walk_at "bd") | (with_reducible refine bd_add ?_ ?_ <;> walk_at "bd") | (with_reducible refine bd_sub ?_ ?_ <;> walk_at "bd") | (with_reducible refine bd_neg ?_ <;> walk_at "bd"))
local macro_rules | `(tactic| walk_at "s") => `(tactic| with_reducible first
  | refine v_then ?_ | refine v_set ?_ | (apply v_var; · with_unfolding_all exact rfl) | refine v_bin ?_ | refine v_c ?_ | refine v_g0 ?_ | refine v_add ?_ | refine v_cons ?_ | refine v_nil ?_ | refine v_call ?_ | refine v_dB ?_ | refine v_next ?_ | refine v_ret ?_
  | refine v_ite ?_ | refine v_tst ?_ | refine v_kT ?_ | refine v_eqi ?_ | refine v_nei ?_ | refine v_eqr ?_ | refine v_ner ?_ | refine v_eqr0 ?_ | refine v_ner0 ?_ | refine v_eql ?_ | refine v_nel ?_ | refine v_eql0 ?_ | refine v_nel0 ?_ | refine v_isN ?_ | refine v_notN ?_
  | (apply v_bor; · with_unfolding_all exact rfl) | (apply v_own; · with_unfolding_all exact rfl) | refine v_tup ?_ | refine v_lst ?_ | (refine v_sz ?_ ?_; (· with_unfolding_all exact Nat.le_of_ble_eq_true rfl)) | (refine v_gIIz ?_ ?_; (· first | decide | omega))
  | refine v_lentz ?_ | refine v_lenlz ?_ | refine v_lent ?_ | refine v_lenl ?_ | refine v_I1 ?_ | refine v_I2 ?_ | refine v_int ?_ | refine v_seqlz ?_ | refine v_seqtz ?_ | refine v_sl ?_ | refine v_kSll ?_ | refine v_kSlt ?_ | refine v_ono ?_ | refine v_oso ?_ | refine v_kOS ?_
  | refine v_val ?_ | refine v_kVb ?_ | refine v_kVi ?_ | refine v_kVt ?_ | refine v_kVl ?_ | refine v_and ?_ | refine v_or ?_ | refine v_not ?_ | refine v_yes ?_ | refine v_if' ?_ | refine v_isi ?_ | refine v_kIii ?_ | refine v_kIib ?_ | refine v_kItt ?_
  | refine v_andV ?_ | refine v_orV ?_ | refine v_notV ?_ | refine v_kNV ?_ | refine v_neg ?_ | refine v_kNeg ?_ | refine v_seq ?_ | refine v_kSeql ?_ | refine v_kSeqt ?_ | refine v_rng1 ?_ | refine v_rng2 ?_ | refine v_enum ?_ | refine v_revr ?_ | refine v_rev ?_
  | (refine v_kR1 ?_ ?_ ?_; (· with_unfolding_all decide +kernel); (· with_unfolding_all decide +kernel))
  | (refine v_kR2 ?_ ?_ ?_ ?_ ?_; (· with_unfolding_all decide +kernel); (· with_unfolding_all decide +kernel); (· with_unfolding_all decide +kernel); (· with_unfolding_all decide +kernel))
  | refine v_gn ?_ | refine v_gt2 ?_ | refine v_gt3 ?_ | refine v_lc ?_ | refine v_for ?_ | refine v_setO ?_ | refine v_drop ?_ | (apply v_app; · with_unfolding_all exact rfl) | (apply v_setI; · with_unfolding_all exact rfl) | (apply v_rel; · with_unfolding_all exact rfl) | refine v_raise ?_ | refine v_par ?_ | refine v_kP ?_ | refine v_asg ?_
  | (apply v_aug; · with_unfolding_all exact rfl) | refine v_ifT ?_ | refine v_ifF ?_ | (refine v_pow ?_ ?_ ?_ ?_; (· with_unfolding_all decide +kernel); (· with_unfolding_all decide +kernel); (· with_unfolding_all decide +kernel)) | refine v_call0 ?_ | (apply v_lenr; · assumption) | (apply v_seqr; · assumption) | (apply v_kSeqr; · assumption) | (apply v_kSlr; · assumption)
  | refine v_ix0 ?_ | refine v_ix1 ?_ | refine v_ix2 ?_ | refine v_zip ?_ | refine v_kZl ?_ | refine v_kZt ?_ | (apply v_augI; · with_unfolding_all exact rfl) | refine v_try ?_ | refine v_isE ?_ | (refine v_kIE ?_ ?_; (· with_unfolding_all exact rfl)) | refine v_isB ?_ | refine v_notB ?_ | refine v_all ?_ | refine v_par3 ?_ | refine v_ifnT ?_ | refine v_ifnF ?_ | refine v_eqs ?_ | refine v_nes ?_ | refine v_rvs ?_ | refine v_kRvl ?_ | refine v_kRvt ?_
  | (refine v_mulb (a := ?a) (b := ?b) ?ha ?hb ?l ?h; (case ha => assumption); (case hb => assumption); (case l => omega)) | (refine v_fdivb (b := ?b) ?h0 ?hb ?l ?h; (case h0 => assumption); (case hb => assumption); (case l => omega)))
local macro_rules | `(tactic| walk_at "o") => `(tactic| first | walk_at "s" | with_reducible first
  | refine v_chn ?_ | refine v_signs ?_ | refine v_kSg ?_ | refine v_inS ?_ | refine v_ninS ?_ | (refine v_inQ2 ?_ ?_ ?_ ?_; (· first | assumption | (with_unfolding_all decide +kernel)); (· with_unfolding_all decide +kernel); (· with_unfolding_all decide +kernel)) | (refine v_inQ3 ?_ ?_ ?_ ?_ ?_; (· first | assumption | (with_unfolding_all decide +kernel)); (· with_unfolding_all decide +kernel); (· with_unfolding_all decide +kernel); (· with_unfolding_all decide +kernel)) | (refine v_inQ4 ?_ ?_ ?_ ?_ ?_ ?_; (· first | assumption | (with_unfolding_all decide +kernel)); (· with_unfolding_all decide +kernel); (· with_unfolding_all decide +kernel); (· with_unfolding_all decide +kernel); (· with_unfolding_all decide +kernel))
  | refine v_inF ?_ | refine v_getF ?_ | refine v_kGF ?_ | (refine v_gGetF ?_ ?_; (· with_unfolding_all exact rfl)) | refine v_slS ?_ | (refine v_kSS ?_ ?_; (· first | assumption | omega)) | refine v_intUi ?_ | (refine v_lens ?_ ?_; (· first | assumption | omega)) | refine v_dH ?_ | refine v_hInt ?_ | refine v_hNeg ?_ | refine v_fset ?_
  | (apply v_hVar; (· with_unfolding_all exact rfl); (· rfl)))
/-! ### lowest terms -/
section
variable {M : Type}
theorem k_bd {k : Nat} (h : k ≤ 100000) : bd 1900 (k : Int) := by
  have : bd 20 (k : Int) := by unfold bd; rw [Int.natAbs_natCast]; omega
  exact bd_mono this (by decide)
end
end RR

/-! V07h: what is shown is read -/
namespace RR
open PySem PySem.Spec PyProof.Rows L2 TL
theorem Lw.short {w : LW} {k : Nat} (h : Lw w k) : ∀ x ∈ w, x.length ≤ 640 := by
  cases h with
  | one => intro x hx; simp at hx; subst hx; decide
  | pow k hk =>
    intro x hx
    simp at hx
    have := nm_len (k := 1) (k_bd (k := k) (by omega))
    rcases hx with rfl | rfl | rfl
    · decide
    · decide
    · omega
theorem Tw.short {w : LW} {a b k : Nat} (h : Tw w a b k) (ha : bd 1900 (a : Int)) (hb : bd 1900 (b : Int)) : ∀ x ∈ w, x.length ≤ 640 := by
  have la := nm_len (k := 1) ha
  have lb := nm_len (k := 1) hb
  cases h with
  | num => intro x hx; simp at hx; subst hx; omega
  | frac => intro x hx; simp at hx; rcases hx with rfl | rfl | rfl <;> first | omega | decide
  | «let» l => exact l.short
  | numx _ l =>
    intro x hx
    rcases List.mem_append.mp hx with hx | hx
    · simp at hx; rcases hx with rfl | rfl <;> first | omega | decide
    · exact l.short x hx
  | fracx _ _ _ l =>
    intro x hx
    rcases List.mem_append.mp hx with hx | hx
    · simp at hx; rcases hx with rfl | rfl | rfl | rfl <;> first | omega | decide
    · exact l.short x hx
theorem tq_co (a : Int) (b k j : Nat) : (tq a b k).co j = if j = k then (a : Rat) / (b : Rat) else 0 := by
  unfold tq
  rw [Ser.C_mul_co, xp_co]
  split
  · grind
  · grind
theorem P.co {f : Ser Rat} {r : List Int} {d : Int} (h : P f r d) (j : Nat) : f.co j = ((r.getD j 0 : Int) : Rat) / (d : Rat) := by
  have e := h.get j
  have n := h.dq
  rw [← e, Rat.div_def]
  have := Rat.mul_inv_cancel _ n
  grind
end RR

/-! V08a: texts that are none, and good ones -/
namespace RR
open PySem PySem.Spec PyProof.Rows L2 TL
local macro_rules | `(tactic| walk_at "bd") => `(tactic| first | assumption | exact bd_lit (by decide) | (with_reducible refine bd_mul ?_ ?_ <;> walk_at "bd") | (with_reducible refine bd_add ?_ ?_ <;> walk_at "bd") | (with_reducible refine bd_sub ?_ ?_ <;> walk_at "bd") | (with_reducible refine bd_neg ?_ <;> walk_at "bd"))
local macro_rules | `(tactic| walk_at "s") => `(tactic| with_reducible first
  | refine v_then ?_ | refine v_set ?_ | (apply v_var; · with_unfolding_all exact rfl) | refine v_bin ?_ | refine v_c ?_ | refine v_g0 ?_ | refine v_add ?_ | refine v_cons ?_ | refine v_nil ?_ | refine v_call ?_ | refine v_dB ?_ | refine v_next ?_ | refine v_ret ?_
  | refine v_ite ?_ | refine v_tst ?_ | refine v_kT ?_ | refine v_eqi ?_ | refine v_nei ?_ | refine v_eqr ?_ | refine v_ner ?_ | refine v_eqr0 ?_ | refine v_ner0 ?_ | refine v_eql ?_ | refine v_nel ?_ | refine v_eql0 ?_ | refine v_nel0 ?_ | refine v_isN ?_ | refine v_notN ?_
  | (apply v_bor; · with_unfolding_all exact rfl) | (apply v_own; · with_unfolding_all exact rfl) | refine v_tup ?_ | refine v_lst ?_ | (refine v_sz ?_ ?_; (· with_unfolding_all exact Nat.le_of_ble_eq_true rfl)) | (refine v_gIIz ?_ ?_; (· first | decide | omega))
  | refine v_lentz ?_ | refine v_lenlz ?_ | refine v_lent ?_ | refine v_lenl ?_ | refine v_I1 ?_ | refine v_I2 ?_ | refine v_int ?_ | refine v_seqlz ?_ | refine v_seqtz ?_ | refine v_sl ?_ | refine v_kSll ?_ | refine v_kSlt ?_ | refine v_ono ?_ | refine v_oso ?_ | refine v_kOS ?_
  | refine v_val ?_ | refine v_kVb ?_ | refine v_kVi ?_ | refine v_kVt ?_ | refine v_kVl ?_ | refine v_and ?_ | refine v_or ?_ | refine v_not ?_ | refine v_yes ?_ | refine v_if' ?_ | refine v_isi ?_ | refine v_kIii ?_ | refine v_kIib ?_ | refine v_kItt ?_
  | refine v_andV ?_ | refine v_orV ?_ | refine v_notV ?_ | refine v_kNV ?_ | refine v_neg ?_ | refine v_kNeg ?_ | refine v_seq ?_ | refine v_kSeql ?_ | refine v_kSeqt ?_ | refine v_rng1 ?_ | refine v_rng2 ?_ | refine v_enum ?_ | refine v_revr ?_ | refine v_rev ?_
  | (refine v_kR1 ?_ ?_ ?_; (· with_unfolding_all decide +kernel); (· with_unfolding_all decide +kernel))
  | (refine v_kR2 ?_ ?_ ?_ ?_ ?_; (· with_unfolding_all decide +kernel); (· with_unfolding_all decide +kernel); (· with_unfolding_all decide +kernel); (· with_unfolding_all decide +kernel))
  | refine v_gn ?_ | refine v_gt2 ?_ | refine v_gt3 ?_ | refine v_lc ?_ | refine v_for ?_ | refine v_setO ?_ | refine v_drop ?_ | (apply v_app; · with_unfolding_all exact rfl) | (apply v_setI; · with_unfolding_all exact rfl) | (apply v_rel; · with_unfolding_all exact rfl) | refine v_raise ?_ | refine v_par ?_ | refine v_kP ?_ | refine v_asg ?_
  | (apply v_aug; · with_unfolding_all exact rfl) | refine v_ifT ?_ | refine v_ifF ?_ | (refine v_pow ?_ ?_ ?_ ?_; (· with_unfolding_all decide +kernel); (· with_unfolding_all decide +kernel); (· with_unfolding_all decide +kernel)) | refine v_call0 ?_ | (apply v_lenr; · assumption) | (apply v_seqr; · assumption) | (apply v_kSeqr; · assumption) | (apply v_kSlr; · assumption)
  | refine v_ix0 ?_ | refine v_ix1 ?_ | refine v_ix2 ?_ | refine v_zip ?_ | refine v_kZl ?_ | refine v_kZt ?_ | (apply v_augI; · with_unfolding_all exact rfl) | refine v_try ?_ | refine v_isE ?_ | (refine v_kIE ?_ ?_; (· with_unfolding_all exact rfl)) | refine v_isB ?_ | refine v_notB ?_ | refine v_all ?_ | refine v_par3 ?_ | refine v_ifnT ?_ | refine v_ifnF ?_ | refine v_eqs ?_ | refine v_nes ?_ | refine v_rvs ?_ | refine v_kRvl ?_ | refine v_kRvt ?_
  | (refine v_mulb (a := ?a) (b := ?b) ?ha ?hb ?l ?h; (case ha => assumption); (case hb => assumption); (case l => omega)) | (refine v_fdivb (b := ?b) ?h0 ?hb ?l ?h; (case h0 => assumption); (case hb => assumption); (case l => omega)))
local macro_rules | `(tactic| walk_at "o") => `(tactic| first | walk_at "s" | with_reducible first
  | refine v_chn ?_ | refine v_signs ?_ | refine v_kSg ?_ | refine v_inS ?_ | refine v_ninS ?_ | (refine v_inQ2 ?_ ?_ ?_ ?_; (· first | assumption | (with_unfolding_all decide +kernel)); (· with_unfolding_all decide +kernel); (· with_unfolding_all decide +kernel)) | (refine v_inQ3 ?_ ?_ ?_ ?_ ?_; (· first | assumption | (with_unfolding_all decide +kernel)); (· with_unfolding_all decide +kernel); (· with_unfolding_all decide +kernel); (· with_unfolding_all decide +kernel)) | (refine v_inQ4 ?_ ?_ ?_ ?_ ?_ ?_; (· first | assumption | (with_unfolding_all decide +kernel)); (· with_unfolding_all decide +kernel); (· with_unfolding_all decide +kernel); (· with_unfolding_all decide +kernel); (· with_unfolding_all decide +kernel))
  | refine v_inF ?_ | refine v_getF ?_ | refine v_kGF ?_ | (refine v_gGetF ?_ ?_; (· with_unfolding_all exact rfl)) | refine v_slS ?_ | (refine v_kSS ?_ ?_; (· first | assumption | omega)) | refine v_intUi ?_ | (refine v_lens ?_ ?_; (· first | assumption | omega)) | refine v_dH ?_ | refine v_hInt ?_ | refine v_hNeg ?_ | refine v_fset ?_
  | (apply v_hVar; (· with_unfolding_all exact rfl); (· rfl)))
local macro_rules | `(tactic| walk_at "s") => `(tactic| with_reducible refine v_kIE1 ?_)
def odd0 : List Str := ["", "  ", "+", "-", "x +", "+ + x", "x + - 1", "2x", "x2", "x*2", "2*3*x", "x^", "x^65", "x^-1", "x^01"]
def odd1 : List Str := ["01", "00", "1/0", "1/", "/2", "1//2", "1/2/3", "x/2", "y", "X", "x\n", "	x", "x  1", "1 2", "1_0"]
def odd2 : List Str := ["1.5", "(x)", "x^2^3", "*x", "2*", "x^1/2", "2**x", "x x", "xx", "3 * - x", "x^ ", "- - x", "x,1"]
def odd3 : List Str := ["0x", "1e5", "x^1 0", "1 / 02", "x^0x", "x = 1", "x^100"]
def oddS : List Str := ((odd0 ++ odd1) ++ odd2) ++ odd3
def goodS : List Str := ["x", "- x", "3", "0", "1/2*x^2 - 7", "+x^64", " 12 * x ^ 3 + x ", "4/6*x + 0*x^5", "x^0", "-5/5"]
def cp (z : Str) : List Nat := z.cps.toList
def chk08 (o g : Str) : Bool := (readF (cp o)).isNone && (readF (cp g ++ ([32, 43, 32] ++ cp o))).isNone && (readF (cp g ++ ([45] ++ cp o))).isNone && (decide (Txt.stripChars o (" " : Str) = ("" : Str)) || ((readF (cp o ++ ([32, 45, 32] ++ cp g))).isNone && (readF (cp o ++ ([43] ++ cp g))).isNone)) && (readF (cp g)).isSome && decide ((cp o).length ≤ 20) && decide ((cp g).length ≤ 30)
theorem chk_all : (oddS.all fun o => goodS.all fun g => chk08 o g) = true := by decide +kernel
theorem chk_of {o g : Str} (ho : o ∈ oddS) (hg : g ∈ goodS) : chk08 o g = true := List.all_eq_true.mp (List.all_eq_true.mp chk_all o ho) g hg
/-- what is refused -/
def NoRead (x : D) : Prop := (∃ z : Str, x = .str z ∧ z.length ≤ 16000000 ∧ (z.length ≤ 2000 → readF (cp z) = none)) ∨ ∃ t, x.ty = some t ∧ isiB t "str" = false
def b__law_refused_k08 {M : Type} : DS M :=
    (dThen (dSet 1 (dC .non))
    (dThen (dTry ["BadText"] 2 1 (dDrop (dCall s_reading_read [] (dCons (dBor 0) dNil))))
    (dThen (dIte (dTst (dBin gIsN (dVar 1) (dC .non)))
      (dRet (dC (.bl false)))
      dNext)
    (dThen (dSetO 3 (dLst (dCons (dIsE [("BadText", false)] (dVar 1)) (dCons (dIsE [("BadText", false)] (dVar 1)) (dCons (dIsE [("BadText", false)] (dVar 1)) dNil)))))
    (dThen (dSetO 3 (dBin gAdd (dOwn 3) (dLst (dCons (dIsE [("BadText", false)] (dVar 1)) (dCons (dIsE [("BadText", false)] (dVar 1)) (dCons (dIsE [("BadText", false)] (dVar 1)) dNil))))))
    (dThen (dApp 3 (dIsE [("BadText", false)] (dVar 1)))
    (dRet (dAndV (dIsE [("BadText", true)] (dVar 1)) (dAndV (dIsE [("BadText", true)] (dVar 1)) (dBin gNin (dC (.bl true)) (dOwn 3)))))))))))
def s__law_refused_k08 {M : Type} : DSp M := fun ds m Q Z => ∃ x, ds = [x] ∧ NoRead x ∧ Q (.bl true) m
theorem vc__law_refused_k08 {M : Type} : ∀ ds (m : M) Q Z, s__law_refused_k08 ds m Q Z → okK [true] ds ∧ b__law_refused_k08 { nx := fun _ m' => Q .non m', rt := Q, ex := Z } (st0 [true] ds 4) m := by
  rintro ds m Q Z ⟨x, rfl, hx, q⟩
  refine ⟨⟨fun h => (nomatch h), trivial⟩, ?_⟩
  unfold b__law_refused_k08
  repeat walk_at "s"
  -- the refusal is caught
  have tail : ("BadText" : Str) ∈ [("BadText" : Str)] ∧ (dThen (dIte (dTst (dBin gIsN (dVar 1) (dC .non)))
      (dRet (dC (.bl false)))
      dNext)
    (dThen (dSetO 3 (dLst (dCons (dIsE [("BadText", false)] (dVar 1)) (dCons (dIsE [("BadText", false)] (dVar 1)) (dCons (dIsE [("BadText", false)] (dVar 1)) dNil)))))
    (dThen (dSetO 3 (dBin gAdd (dOwn 3) (dLst (dCons (dIsE [("BadText", false)] (dVar 1)) (dCons (dIsE [("BadText", false)] (dVar 1)) (dCons (dIsE [("BadText", false)] (dVar 1)) dNil))))))
    (dThen (dApp 3 (dIsE [("BadText", false)] (dVar 1)))
    (dRet (dAndV (dIsE [("BadText", true)] (dVar 1)) (dAndV (dIsE [("BadText", true)] (dVar 1)) (dBin gNin (dC (.bl true)) (dOwn 3))))))))) { nx := fun _ m' => Q .non m', rt := Q, ex := Z } [.bor x, .val (.exc "BadText"), .un, .un] m := by
    refine ⟨List.mem_singleton.mpr rfl, ?_⟩
    repeat walk_at "s"
    try ((with_reducible show @ite _ _ _ _ _); refine v_ifF ?_)
    repeat walk_at "s"
    try ((with_reducible show @ite _ _ _ _ _); refine v_ifF ?_)
    repeat walk_at "s"
    refine v_kO (by rfl) ?_
    repeat walk_at "s"
    refine v_addl (by decide) (by rfl) (by rfl) ?_
    refine v_kO (by rfl) ?_
    repeat walk_at "s"
    refine v_appk (by rfl) (by decide) ?_
    repeat walk_at "s"
    refine v_kAV (fun _ => ?_) fun h => (nomatch h)
    repeat walk_at "s"
    refine v_kAV (fun _ => ?_) fun h => (nomatch h)
    repeat walk_at "s"
    exact ⟨rfl, rfl, q⟩
  refine ⟨x, rfl, ?_⟩
  rcases hx with ⟨z, rfl, hl, hz⟩ | ⟨t, ht, hw⟩
  · refine .inl ⟨z, rfl, hl, fun _ => tail, fun h => ?_⟩
    have e := hz h
    rw [show readF z.cps.toList = none from e]
    exact tail
  · exact .inr ⟨⟨t, ht, hw⟩, tail⟩
theorem v_ixStr {n : Bool} {ds : List D} {zs : List Str} {i : Int} {q : D → Prop} (e : ds = zs.map D.str) (h0 : 0 ≤ i) (h1 : i < zs.length) (h : ∀ z ∈ zs, q (.str z)) : gIx n (.lst ds) (.int i) q := by
  subst e
  have lt : i.toNat < zs.length := by omega
  refine v_ixL (d := .str (zs[i.toNat]'lt)) ?_ rfl (h _ (List.getElem_mem lt))
  unfold atI ixN
  rw [List.length_map, if_pos h0, if_pos h1]
  show (zs.map D.str)[i.toNat]? = _
  rw [List.getElem?_map, List.getElem?_eq_getElem lt]; rfl
def b__law_odd_k08 : DS (Option Nat) :=
    (dThen (dSet 1 (dLst (dCons (dC (.str "")) (dCons (dC (.str "  ")) (dCons (dC (.str "+")) (dCons (dC (.str "-")) (dCons (dC (.str "x +")) (dCons (dC (.str "+ + x")) (dCons (dC (.str "x + - 1")) (dCons (dC (.str "2x")) (dCons (dC (.str "x2")) (dCons (dC (.str "x*2")) (dCons (dC (.str "2*3*x")) (dCons (dC (.str "x^")) (dCons (dC (.str "x^65")) (dCons (dC (.str "x^-1")) (dCons (dC (.str "x^01")) dNil)))))))))))))))))
    (dThen (dSet 1 (dBin gAddS (dVar 1) (dLst (dCons (dC (.str "01")) (dCons (dC (.str "00")) (dCons (dC (.str "1/0")) (dCons (dC (.str "1/")) (dCons (dC (.str "/2")) (dCons (dC (.str "1//2")) (dCons (dC (.str "1/2/3")) (dCons (dC (.str "x/2")) (dCons (dC (.str "y")) (dCons (dC (.str "X")) (dCons (dC (.str "x\n")) (dCons (dC (.str "	x")) (dCons (dC (.str "x  1")) (dCons (dC (.str "1 2")) (dCons (dC (.str "1_0")) dNil))))))))))))))))))
    (dThen (dSet 1 (dBin gAddS (dVar 1) (dLst (dCons (dC (.str "1.5")) (dCons (dC (.str "(x)")) (dCons (dC (.str "x^2^3")) (dCons (dC (.str "*x")) (dCons (dC (.str "2*")) (dCons (dC (.str "x^1/2")) (dCons (dC (.str "2**x")) (dCons (dC (.str "x x")) (dCons (dC (.str "xx")) (dCons (dC (.str "3 * - x")) (dCons (dC (.str "x^ ")) (dCons (dC (.str "- - x")) (dCons (dC (.str "x,1")) dNil))))))))))))))))
    (dRet (dBin (gIx false) (dBin gAddS (dVar 1) (dLst (dCons (dC (.str "0x")) (dCons (dC (.str "1e5")) (dCons (dC (.str "x^1 0")) (dCons (dC (.str "1 / 02")) (dCons (dC (.str "x^0x")) (dCons (dC (.str "x = 1")) (dCons (dC (.str "x^100")) dNil))))))))) (dCall s__law_draw [] (dCons (dVar 0) (dCons (dC (.int 50)) dNil))))))))
def s__law_odd_k08 : DSp (Option Nat) := fun ds m Q Z => ∃ N : Nat, ds = [.hnd hdl] ∧ m = some N ∧ 1 ≤ N ∧ ∀ z ∈ oddS, Q (.str z) (some (N - 1))
theorem vc__law_odd_k08 : ∀ ds (m : Option Nat) Q Z, s__law_odd_k08 ds m Q Z → okK [false] ds ∧ b__law_odd_k08 { nx := fun _ m' => Q .non m', rt := Q, ex := Z } (st0 [false] ds 2) m := by
  rintro ds m Q Z ⟨N, rfl, rfl, hN, k⟩
  refine ⟨⟨fun _ => rfl, trivial⟩, ?_⟩
  unfold b__law_odd_k08
  repeat walk_at "s"
  refine v_addS (by decide) ?_
  repeat walk_at "s"
  refine v_addS (by decide) ?_
  repeat walk_at "s"
  refine v_addS (by decide) ?_
  repeat walk_at "s"
  refine v_drawN (by omega) (by decide) (by decide) fun i i0 i1 => ?_
  exact v_ixStr (zs := oddS) rfl i0 i1 k
def b__law_good : DS (Option Nat) :=
    (dThen (dSet 1 (dLst (dCons (dC (.str "x")) (dCons (dC (.str "- x")) (dCons (dC (.str "3")) (dCons (dC (.str "0")) (dCons (dC (.str "1/2*x^2 - 7")) (dCons (dC (.str "+x^64")) (dCons (dC (.str " 12 * x ^ 3 + x ")) (dCons (dC (.str "4/6*x + 0*x^5")) (dCons (dC (.str "x^0")) (dCons (dC (.str "-5/5")) dNil))))))))))))
    (dRet (dBin (gIx false) (dVar 1) (dCall s__law_draw [] (dCons (dVar 0) (dCons (dC (.int 10)) dNil))))))
def s__law_good : DSp (Option Nat) := fun ds m Q Z => ∃ N : Nat, ds = [.hnd hdl] ∧ m = some N ∧ 1 ≤ N ∧ ∀ z ∈ goodS, Q (.str z) (some (N - 1))
theorem vc__law_good : ∀ ds (m : Option Nat) Q Z, s__law_good ds m Q Z → okK [false] ds ∧ b__law_good { nx := fun _ m' => Q .non m', rt := Q, ex := Z } (st0 [false] ds 2) m := by
  rintro ds m Q Z ⟨N, rfl, rfl, hN, k⟩
  refine ⟨⟨fun _ => rfl, trivial⟩, ?_⟩
  unfold b__law_good
  repeat walk_at "s"
  refine v_drawN (by omega) (by decide) (by decide) fun i i0 i1 => ?_
  exact v_ixStr (zs := goodS) rfl i0 i1 k
end RR

/-! V08b: long texts -/
namespace RR
open PySem PySem.Spec PyProof.Rows L2 TL
theorem rot2 (a b : Nat) : ∀ k : Nat, (List.replicate k [a, b]).flatten ++ [a] = [a] ++ (List.replicate k [b, a]).flatten
  | 0 => rfl
  | k + 1 => by
    rw [List.replicate_succ, List.flatten_cons, List.append_assoc, rot2 a b k, List.replicate_succ, List.flatten_cons]
    rfl
def tsN (s : Int) (k : Nat) : List Tm := (1, 1, 1) :: List.replicate k (s, 1, 1)
theorem tsN_succ (s : Int) (k : Nat) : tsN s (k + 1) = tsN s k ++ [(s, 1, 1)] := by
  unfold tsN
  rw [List.replicate_succ']
  rfl
theorem short_x : ∀ x ∈ ([[120]] : LW), x.length ≤ 640 := (Lw.short .one)
theorem told_rep (n : Bool) : ∀ k : Nat, Told ([120] ++ (List.replicate k (sgw n ++ [120])).flatten) (tsN (if n = true then -1 else 1) k)
  | 0 => by
    have := Told.first (p := 0) (q := 0) (.let .one) short_x Wr.lw1
    exact this
  | k + 1 => by
    have := (told_rep n k).more (n := n) (p := 0) (q := 0) (.let .one) short_x Wr.lw1
    rw [tsN_succ, List.replicate_succ', List.flatten_append]
    have e : (if n = true then (-1 : Int) else 1) * ((1 : Nat) : Int) = if n = true then -1 else 1 := by cases n <;> rfl
    rw [e] at this
    simpa using this
theorem tsN_co (s : Int) : ∀ (k j : Nat), (sumT (tsN s k)).co j = if j = 1 then (((1 + s * k : Int)) : Rat) else 0
  | 0, j => by
    have : sumT (tsN s 0) = sumT [] + tq 1 1 1 := sumT_snoc [] 1 1 1
    rw [this, Ser.add_co, tq_co]
    have z : (sumT []).co j = 0 := zero_co j
    rw [z]
    have e : ((1 : Int) : Rat) / ((1 : Nat) : Rat) = ((1 + s * (0 : Nat) : Int) : Rat) := by
      rw [show (1 + s * ((0 : Nat) : Int)) = 1 by simp]
      have : ((1 : Int) : Rat) = 1 := rfl
      have h2 : ((1 : Nat) : Rat) = 1 := rfl
      rw [this, h2, Rat.div_def]; grind
    rw [e]
    split <;> grind
  | k + 1, j => by
    rw [tsN_succ, sumT_snoc, Ser.add_co, tq_co, tsN_co s k j]
    have h2 : ((1 : Nat) : Rat) = 1 := rfl
    have e : (s : Rat) / ((1 : Nat) : Rat) = (s : Rat) := by rw [h2, Rat.div_def]; grind
    rw [e]
    have c : ((1 + s * ((k + 1 : Nat) : Int) : Int) : Rat) = ((1 + s * (k : Int) : Int) : Rat) + (s : Rat) := by
      rw [← Rat.intCast_add]
      congr 1
      rw [Int.natCast_add, Int.mul_add]
      simp
      omega
    rw [c]
    split <;> grind
theorem tsN_P (s : Int) (k : Nat) (h : 1 + s * k ≠ 0) : P (sumT (tsN s k)) [0, 1 + s * k] 1 := by
  have e : sumT (tsN s k) = qs (ser [0, 1 + s * k]) := Ser.ext fun j => by
    rw [tsN_co, qs_co, ser_co]
    match j with
    | 0 => rfl
    | 1 => rfl
    | j + 2 => rfl
  rw [e]
  refine P.int ⟨?_, rfl⟩
  have := strip_snoc [0] (1 + s * (k : Int))
  rw [if_neg h] at this
  exact this
theorem Wr.digs {l : List Nat} (n0 : l ≠ []) (h : ∀ c ∈ l, isDig c = true) : Wr l [l] false true := fun acc => by
  cases l with
  | nil => exact absurd rfl n0
  | cons c d =>
    have hc := h c (List.mem_cons_self ..)
    show (wstep (acc, false) c).bind _ = _
    have e1 : wstep (acc, false) c = some (acc ++ [[c]], true) := by
      unfold wstep
      rw [hc]; rfl
    rw [e1]
    show wrun (acc ++ [[c]], true) d = _
    rw [run_digs d acc [c] fun x hx => h x (List.mem_cons_of_mem _ hx)]
    rfl
/-- a figure but nought, again and again -/
theorem rep_isN {c n : Nat} (h : 49 ≤ c) (h' : c ≤ 57) : isN (List.replicate (n + 1) c) = true := by
  rw [List.replicate_succ]
  show (isDig c && (decide (c ≠ 48) || decide (c :: List.replicate n c = [48]))) = true
  have : isDig c = true := by unfold isDig; simp; omega
  rw [this, decide_eq_true (show c ≠ 48 by omega)]; rfl
theorem rep_dig {c n : Nat} (h : 49 ≤ c) (h' : c ≤ 57) : ∀ x ∈ List.replicate n c, isDig x = true := fun x hx => by
  rw [List.eq_of_mem_replicate hx]
  unfold isDig; simp; omega
theorem rep_pos {c n : Nat} (h : 49 ≤ c) : vN (List.replicate (n + 1) c) ≠ 0 := by
  rw [List.replicate_succ]
  have : 0 < NumText.digitsVal (c :: List.replicate n c) := NumText.digitsVal_pos h
  unfold vN
  omega
theorem repl_ne08 {c n d : Nat} (h : c ≠ d) : List.replicate (n + 1) c ≠ [d] := fun e => by
  rw [List.replicate_succ] at e
  injection e with e
  exact h e
theorem whole_one {c n : Nat} (h : 49 ≤ c) (h' : c ≤ 57) : wholeF [List.replicate (n + 1) c] = some [(1 * ((vN (List.replicate (n + 1) c) : Nat) : Int), 1, 0)] := by
  have hN := rep_isN (n := n) h h'
  have e1 := repl_ne08 (n := n) (show c ≠ 45 by omega)
  have e2 := repl_ne08 (n := n) (show c ≠ 43 by omega)
  have e3 := repl_ne08 (n := n) (show c ≠ 120 by omega)
  generalize List.replicate (n + 1) c = l at *
  have et : termF [l] = some ((vN l, 1, 0), []) := by
    unfold termF
    rw [if_neg (show ¬ hd [l] = [120] from e3)]
    have : numF [l] = some (vN l, []) := by
      unfold numF
      rw [if_pos (show isN (hd [l]) = true from hN)]
      rfl
    rw [this]
    rfl
  unfold wholeF
  rw [if_neg (show ¬ hd [l] = [45] from e1), if_neg (show ¬ hd [l] = [43] from e2)]
  show loopF 2 1 [l] [] = _
  rw [loopF, et]
  rfl
theorem whole_frac {c n : Nat} (h : 49 ≤ c) (h' : c ≤ 57) : wholeF [[49], [47], List.replicate (n + 1) c] = some [(1 * ((1 : Nat) : Int), vN (List.replicate (n + 1) c), 0)] := by
  have hN := rep_isN (n := n) h h'
  have h0 := rep_pos (c := c) (n := n) h
  generalize List.replicate (n + 1) c = l at *
  have n1 : numF [[49], [47], l] = some (1, [[47], l]) := rfl
  have n2 : numF [l] = some (vN l, []) := by
    unfold numF
    rw [if_pos (show isN (hd [l]) = true from hN)]
    rfl
  have et : termF [[49], [47], l] = some ((1, vN l, 0), []) := by
    unfold termF
    rw [if_neg (show ¬ hd [[49], [47], l] = [120] from (by decide : ¬ ([49] : List Nat) = [120])), n1]
    show (numF [l]).bind _ = _
    rw [n2]
    show (if vN l = 0 then none else _) = _
    rw [if_neg h0]
    rfl
  unfold wholeF
  rw [if_neg (show ¬ hd [[49], [47], l] = [45] from (by decide : ¬ ([49] : List Nat) = [45])), if_neg (show ¬ hd [[49], [47], l] = [43] from (by decide : ¬ ([49] : List Nat) = [43]))]
  show loopF 4 1 [[49], [47], l] [] = _
  rw [loopF, et]
  rfl
theorem one_sum (a : Int) (b : Nat) : sumT [(a, b, 0)] = tq a b 0 := by
  have : sumT [(a, b, 0)] = sumT [] + tq a b 0 := sumT_snoc [] a b 0
  rw [this]
  have z : sumT [] = 0 := rfl
  rw [z]; grind
theorem num_P {N : Nat} (h : N ≠ 0) : P (sumT [(1 * ((N : Nat) : Int), 1, 0)]) [(N : Int)] 1 := by
  have e : sumT [(1 * ((N : Nat) : Int), 1, 0)] = qs (ser [(N : Int)]) := Ser.ext fun j => by
    rw [one_sum, tq_co, qs_co, ser_co, Int.one_mul]
    have h2 : ((1 : Nat) : Rat) = 1 := rfl
    have q : (((N : Nat) : Int) : Rat) / ((1 : Nat) : Rat) = (((N : Nat) : Int) : Rat) := by rw [h2, Rat.div_def]; grind
    rw [q]
    match j with
    | 0 => rfl
    | j + 1 => rfl
  rw [e]
  refine P.int ⟨?_, rfl⟩
  have := strip_snoc [] (N : Int)
  rw [if_neg (by omega)] at this
  exact this
theorem frac_P {N : Nat} (h : N ≠ 0) : P (sumT [(1 * ((1 : Nat) : Int), N, 0)]) [1] (N : Int) := by
  refine ⟨by omega, rfl, ?_, ?_⟩
  · have : gcdL [1] = 1 := by decide
    rw [this]; simp
  · rw [one_sum]
    refine Ser.ext fun j => ?_
    rw [Ser.C_mul_co, tq_co, qs_co, ser_co]
    have q : (((N : Nat) : Int) : Rat) = ((N : Nat) : Rat) := by first | rfl | exact Rat.intCast_natCast _ | norm_cast
    have n0 := natq h
    match j with
    | 0 =>
      rw [if_pos rfl, q]
      show (N : Rat) * (((1 * ((1 : Nat) : Int) : Int) : Rat) / (N : Rat)) = ((1 : Int) : Rat)
      have e1 : ((1 * ((1 : Nat) : Int) : Int) : Rat) = 1 := rfl
      have e2 : ((1 : Int) : Rat) = 1 := rfl
      rw [e1, e2, Rat.div_def]
      have := Rat.mul_inv_cancel _ n0
      grind
    | j + 1 =>
      rw [if_neg (by omega)]
      show _ = ((0 : Int) : Rat)
      have e2 : ((0 : Int) : Rat) = 0 := rfl
      rw [e2]; grind
theorem read_x (n : Nat) : readF ([120] ++ List.replicate n 32) = some [(1, 1, 1)] := by
  have t := ((told_rep true 0).gap (by decide) n)
  exact t.read (by decide)
theorem read_rep (n : Bool) (k : Nat) : readF ((List.replicate k [120, if n = true then 45 else 43]).flatten ++ [120]) = some (tsN (if n = true then -1 else 1) k) := by
  rw [rot2]
  have t := told_rep n k
  exact t.read (by unfold tsN; exact List.cons_ne_nil _ _)
end RR

/-! V08: the law k08 -/
namespace RR
open PySem PySem.Spec PyProof.Rows L2 TL
local macro_rules | `(tactic| walk_at "bd") => `(tactic| first | assumption | exact bd_lit (by decide) | (with_reducible refine bd_mul ?_ ?_ <;> walk_at "bd") | (with_reducible refine bd_add ?_ ?_ <;> walk_at "bd") | (with_reducible refine bd_sub ?_ ?_ <;> walk_at "bd") | (with_reducible refine bd_neg ?_ <;> walk_at "bd"))
local macro_rules | `(tactic| walk_at "s") => `(tactic| with_reducible first
  | refine v_then ?_ | refine v_set ?_ | (apply v_var; · with_unfolding_all exact rfl) | refine v_bin ?_ | refine v_c ?_ | refine v_g0 ?_ | refine v_add ?_ | refine v_cons ?_ | refine v_nil ?_ | refine v_call ?_ | refine v_dB ?_ | refine v_next ?_ | refine v_ret ?_
  | refine v_ite ?_ | refine v_tst ?_ | refine v_kT ?_ | refine v_eqi ?_ | refine v_nei ?_ | refine v_eqr ?_ | refine v_ner ?_ | refine v_eqr0 ?_ | refine v_ner0 ?_ | refine v_eql ?_ | refine v_nel ?_ | refine v_eql0 ?_ | refine v_nel0 ?_ | refine v_isN ?_ | refine v_notN ?_
  | (apply v_bor; · with_unfolding_all exact rfl) | (apply v_own; · with_unfolding_all exact rfl) | refine v_tup ?_ | refine v_lst ?_ | (refine v_sz ?_ ?_; (· with_unfolding_all exact Nat.le_of_ble_eq_true rfl)) | (refine v_gIIz ?_ ?_; (· first | decide | omega))
  | refine v_lentz ?_ | refine v_lenlz ?_ | refine v_lent ?_ | refine v_lenl ?_ | refine v_I1 ?_ | refine v_I2 ?_ | refine v_int ?_ | refine v_seqlz ?_ | refine v_seqtz ?_ | refine v_sl ?_ | refine v_kSll ?_ | refine v_kSlt ?_ | refine v_ono ?_ | refine v_oso ?_ | refine v_kOS ?_
  | refine v_val ?_ | refine v_kVb ?_ | refine v_kVi ?_ | refine v_kVt ?_ | refine v_kVl ?_ | refine v_and ?_ | refine v_or ?_ | refine v_not ?_ | refine v_yes ?_ | refine v_if' ?_ | refine v_isi ?_ | refine v_kIii ?_ | refine v_kIib ?_ | refine v_kItt ?_
  | refine v_andV ?_ | refine v_orV ?_ | refine v_notV ?_ | refine v_kNV ?_ | refine v_neg ?_ | refine v_kNeg ?_ | refine v_seq ?_ | refine v_kSeql ?_ | refine v_kSeqt ?_ | refine v_rng1 ?_ | refine v_rng2 ?_ | refine v_enum ?_ | refine v_revr ?_ | refine v_rev ?_
  | (refine v_kR1 ?_ ?_ ?_; (· with_unfolding_all decide +kernel); (· with_unfolding_all decide +kernel))
  | (refine v_kR2 ?_ ?_ ?_ ?_ ?_; (· with_unfolding_all decide +kernel); (· with_unfolding_all decide +kernel); (· with_unfolding_all decide +kernel); (· with_unfolding_all decide +kernel))
  | refine v_gn ?_ | refine v_gt2 ?_ | refine v_gt3 ?_ | refine v_lc ?_ | refine v_for ?_ | refine v_setO ?_ | refine v_drop ?_ | (apply v_app; · with_unfolding_all exact rfl) | (apply v_setI; · with_unfolding_all exact rfl) | (apply v_rel; · with_unfolding_all exact rfl) | refine v_raise ?_ | refine v_par ?_ | refine v_kP ?_ | refine v_asg ?_
  | (apply v_aug; · with_unfolding_all exact rfl) | refine v_ifT ?_ | refine v_ifF ?_ | (refine v_pow ?_ ?_ ?_ ?_; (· with_unfolding_all decide +kernel); (· with_unfolding_all decide +kernel); (· with_unfolding_all decide +kernel)) | refine v_call0 ?_ | (apply v_lenr; · assumption) | (apply v_seqr; · assumption) | (apply v_kSeqr; · assumption) | (apply v_kSlr; · assumption)
  | refine v_ix0 ?_ | refine v_ix1 ?_ | refine v_ix2 ?_ | refine v_zip ?_ | refine v_kZl ?_ | refine v_kZt ?_ | (apply v_augI; · with_unfolding_all exact rfl) | refine v_try ?_ | refine v_isE ?_ | (refine v_kIE ?_ ?_; (· with_unfolding_all exact rfl)) | refine v_isB ?_ | refine v_notB ?_ | refine v_all ?_ | refine v_par3 ?_ | refine v_ifnT ?_ | refine v_ifnF ?_ | refine v_eqs ?_ | refine v_nes ?_ | refine v_rvs ?_ | refine v_kRvl ?_ | refine v_kRvt ?_
  | (refine v_mulb (a := ?a) (b := ?b) ?ha ?hb ?l ?h; (case ha => assumption); (case hb => assumption); (case l => omega)) | (refine v_fdivb (b := ?b) ?h0 ?hb ?l ?h; (case h0 => assumption); (case hb => assumption); (case l => omega)))
local macro_rules | `(tactic| walk_at "o") => `(tactic| first | walk_at "s" | with_reducible first
  | refine v_chn ?_ | refine v_signs ?_ | refine v_kSg ?_ | refine v_inS ?_ | refine v_ninS ?_ | (refine v_inQ2 ?_ ?_ ?_ ?_; (· first | assumption | (with_unfolding_all decide +kernel)); (· with_unfolding_all decide +kernel); (· with_unfolding_all decide +kernel)) | (refine v_inQ3 ?_ ?_ ?_ ?_ ?_; (· first | assumption | (with_unfolding_all decide +kernel)); (· with_unfolding_all decide +kernel); (· with_unfolding_all decide +kernel); (· with_unfolding_all decide +kernel)) | (refine v_inQ4 ?_ ?_ ?_ ?_ ?_ ?_; (· first | assumption | (with_unfolding_all decide +kernel)); (· with_unfolding_all decide +kernel); (· with_unfolding_all decide +kernel); (· with_unfolding_all decide +kernel); (· with_unfolding_all decide +kernel))
  | refine v_inF ?_ | refine v_getF ?_ | refine v_kGF ?_ | (refine v_gGetF ?_ ?_; (· with_unfolding_all exact rfl)) | refine v_slS ?_ | (refine v_kSS ?_ ?_; (· first | assumption | omega)) | refine v_intUi ?_ | (refine v_lens ?_ ?_; (· first | assumption | omega)) | refine v_dH ?_ | refine v_hInt ?_ | refine v_hNeg ?_ | refine v_fset ?_
  | (apply v_hVar; (· with_unfolding_all exact rfl); (· rfl)))
theorem v_S1d {M : Type} {ρ : En} {m : M} {Q : D → M → Prop} {Z : Str → M → Prop} {g : Str → D → (D → Prop) → Prop} {t u : DT M} (h : t ρ m (fun x m1 => match x with | .str z => u ρ m1 (fun y m2 => g z y fun d => Q d m2) Z | _ => False) Z) : dS1 g t u ρ m Q Z := h
theorem v_stripC {z w : Str} {q : D → Prop} (l : z.length ≤ 16777216) (h : q (.str (Txt.stripChars z w))) : gStripC z (.str w) q := ⟨l, h⟩
def b_law : DS (Option Nat) :=
    (dThen (dSet 1 (dCall s__law_begun [] (dCons (dBor 0) dNil)))
    (dThen (dFor (dRng1 (dCons (dBin gAdd (dC (.int 1)) (dB (gI2 imin) (dCons (dC (.int 62)) (dCons (dB gLen (dCons (dBor 0) dNil)) dNil)))) dNil)) (dgN 2)
      (dThen (dPar 3 4 (dCons (dCall s__law_odd_k08 [] (dCons (dVar 1) dNil)) (dCons (dCall s__law_good [] (dCons (dVar 1) dNil)) dNil)))
    (dThen (dSet 5 (dLst (dCons (dVar 3) (dCons (dBin gAdd (dBin gAdd (dVar 4) (dC (.str " + "))) (dVar 3)) (dCons (dBin gAdd (dBin gAdd (dVar 4) (dC (.str "-"))) (dVar 3)) dNil)))))
    (dThen (dIte (dTst (dBin gNe (dS1 gStripC (dVar 3) (dC (.str " "))) (dC (.str ""))))
      (dSet 5 (dBin gAdd (dVar 5) (dLst (dCons (dBin gAdd (dBin gAdd (dVar 3) (dC (.str " - "))) (dVar 4)) (dCons (dBin gAdd (dBin gAdd (dVar 3) (dC (.str "+"))) (dVar 4)) dNil)))))
      dNext)
    (dThen (dSet 6 (dBin (gIx false) (dVar 5) (dCall s__law_draw [] (dCons (dVar 1) (dCons (dB gLen (dCons (dVar 5) dNil)) dNil)))))
    (dThen (dIte (dOr (dNot (dVal (dCall s__law_refused_k08 [] (dCons (dVar 6) dNil)))) (dNot (dVal (dIsi "tuple" (dCall s_reading_read [] (dCons (dVar 4) dNil))))))
      (dRet (dC (.bl false)))
      dNext)
    (dIte (dNot (dVal (dCall s__law_refused_k08 [] (dCons (dBin (gIx false) (dLst (dCons (dC .non) (dCons (dC (.int 5)) (dCons (dC (.bl true)) (dCons (dLst (dCons (dC (.str "x")) dNil)) (dCons (dC .dic) (dCons (dTup (dCons (dC (.str "x")) dNil)) dNil))))))) (dCall s__law_draw [] (dCons (dVar 1) (dCons (dC (.int 6)) dNil)))) dNil))))
      (dRet (dC (.bl false)))
      dNext)))))))
    (dThen (dIte (dOr (dTst (dBin gNe (dCall s_reading_read [] (dCons (dBin gAdd (dBin gMulT (dC (.str "x+")) (dC (.int 999))) (dC (.str "x"))) dNil)) (dTup (dCons (dTup (dCons (dC (.int 0)) (dCons (dC (.int 1000)) dNil))) (dCons (dC (.int 1)) dNil))))) (dTst (dBin gNe (dCall s_reading_read [] (dCons (dBin gMulT (dC (.str "9")) (dC (.int 2000))) dNil)) (dTup (dCons (dTup (dCons (dB gIntV (dCons (dBin gMulT (dC (.str "9")) (dC (.int 2000))) dNil)) dNil)) (dCons (dC (.int 1)) dNil))))))
      (dRet (dC (.bl false)))
      dNext)
    (dThen (dIte (dOr (dTst (dBin gNe (dCall s_reading_read [] (dCons (dBin gAdd (dC (.str "1/")) (dBin gMulT (dC (.str "7")) (dC (.int 1998)))) dNil)) (dTup (dCons (dTup (dCons (dC (.int 1)) dNil)) (dCons (dB gIntV (dCons (dBin gMulT (dC (.str "7")) (dC (.int 1998))) dNil)) dNil))))) (dTst (dBin gNe (dCall s_reading_read [] (dCons (dBin gAdd (dBin gMulT (dC (.str "x-")) (dC (.int 999))) (dC (.str "x"))) dNil)) (dTup (dCons (dTup (dCons (dC (.int 0)) (dCons (dNeg (dC (.int 998))) dNil))) (dCons (dC (.int 1)) dNil))))))
      (dRet (dC (.bl false)))
      dNext)
    (dRet (dAndV (dBin gEq (dCall s_reading_read [] (dCons (dBin gAdd (dC (.str "x")) (dBin gMulT (dC (.str " ")) (dC (.int 1999)))) dNil)) (dTup (dCons (dTup (dCons (dC (.int 0)) (dCons (dC (.int 1)) dNil))) (dCons (dC (.int 1)) dNil)))) (dAndV (dCall s__law_refused_k08 [] (dCons (dBin gAdd (dC (.str "x")) (dBin gMulT (dC (.str " ")) (dC (.int 2000)))) dNil)) (dCall s__law_refused_k08 [] (dCons (dBin gAdd (dBin gMulT (dC (.str "x + ")) (dC (.int 500))) (dC (.str "x"))) dNil)))))))))
def l6 : DS (Option Nat) :=
    (dThen (dSet 6 (dBin (gIx false) (dVar 5) (dCall s__law_draw [] (dCons (dVar 1) (dCons (dB gLen (dCons (dVar 5) dNil)) dNil)))))
    (dThen (dIte (dOr (dNot (dVal (dCall s__law_refused_k08 [] (dCons (dVar 6) dNil)))) (dNot (dVal (dIsi "tuple" (dCall s_reading_read [] (dCons (dVar 4) dNil))))))
      (dRet (dC (.bl false)))
      dNext)
    (dIte (dNot (dVal (dCall s__law_refused_k08 [] (dCons (dBin (gIx false) (dLst (dCons (dC .non) (dCons (dC (.int 5)) (dCons (dC (.bl true)) (dCons (dLst (dCons (dC (.str "x")) dNil)) (dCons (dC .dic) (dCons (dTup (dCons (dC (.str "x")) dNil)) dNil))))))) (dCall s__law_draw [] (dCons (dVar 1) (dCons (dC (.int 6)) dNil)))) dNil))))
      (dRet (dC (.bl false)))
      dNext)))
def lE : DS (Option Nat) :=
    (dThen (dIte (dOr (dTst (dBin gNe (dCall s_reading_read [] (dCons (dBin gAdd (dBin gMulT (dC (.str "x+")) (dC (.int 999))) (dC (.str "x"))) dNil)) (dTup (dCons (dTup (dCons (dC (.int 0)) (dCons (dC (.int 1000)) dNil))) (dCons (dC (.int 1)) dNil))))) (dTst (dBin gNe (dCall s_reading_read [] (dCons (dBin gMulT (dC (.str "9")) (dC (.int 2000))) dNil)) (dTup (dCons (dTup (dCons (dB gIntV (dCons (dBin gMulT (dC (.str "9")) (dC (.int 2000))) dNil)) dNil)) (dCons (dC (.int 1)) dNil))))))
      (dRet (dC (.bl false)))
      dNext)
    (dThen (dIte (dOr (dTst (dBin gNe (dCall s_reading_read [] (dCons (dBin gAdd (dC (.str "1/")) (dBin gMulT (dC (.str "7")) (dC (.int 1998)))) dNil)) (dTup (dCons (dTup (dCons (dC (.int 1)) dNil)) (dCons (dB gIntV (dCons (dBin gMulT (dC (.str "7")) (dC (.int 1998))) dNil)) dNil))))) (dTst (dBin gNe (dCall s_reading_read [] (dCons (dBin gAdd (dBin gMulT (dC (.str "x-")) (dC (.int 999))) (dC (.str "x"))) dNil)) (dTup (dCons (dTup (dCons (dC (.int 0)) (dCons (dNeg (dC (.int 998))) dNil))) (dCons (dC (.int 1)) dNil))))))
      (dRet (dC (.bl false)))
      dNext)
    (dRet (dAndV (dBin gEq (dCall s_reading_read [] (dCons (dBin gAdd (dC (.str "x")) (dBin gMulT (dC (.str " ")) (dC (.int 1999)))) dNil)) (dTup (dCons (dTup (dCons (dC (.int 0)) (dCons (dC (.int 1)) dNil))) (dCons (dC (.int 1)) dNil)))) (dAndV (dCall s__law_refused_k08 [] (dCons (dBin gAdd (dC (.str "x")) (dBin gMulT (dC (.str " ")) (dC (.int 2000)))) dNil)) (dCall s__law_refused_k08 [] (dCons (dBin gAdd (dBin gMulT (dC (.str "x + ")) (dC (.int 500))) (dC (.str "x"))) dNil)))))))
def b_law2 : DS (Option Nat) :=
    (dThen (dSet 1 (dCall s__law_begun [] (dCons (dBor 0) dNil)))
    (dThen (dFor (dRng1 (dCons (dBin gAdd (dC (.int 1)) (dB (gI2 imin) (dCons (dC (.int 62)) (dCons (dB gLen (dCons (dBor 0) dNil)) dNil)))) dNil)) (dgN 2)
      (dThen (dPar 3 4 (dCons (dCall s__law_odd_k08 [] (dCons (dVar 1) dNil)) (dCons (dCall s__law_good [] (dCons (dVar 1) dNil)) dNil)))
    (dThen (dSet 5 (dLst (dCons (dVar 3) (dCons (dBin gAdd (dBin gAdd (dVar 4) (dC (.str " + "))) (dVar 3)) (dCons (dBin gAdd (dBin gAdd (dVar 4) (dC (.str "-"))) (dVar 3)) dNil)))))
    (dThen (dIte (dTst (dBin gNe (dS1 gStripC (dVar 3) (dC (.str " "))) (dC (.str ""))))
      (dSet 5 (dBin gAdd (dVar 5) (dLst (dCons (dBin gAdd (dBin gAdd (dVar 3) (dC (.str " - "))) (dVar 4)) (dCons (dBin gAdd (dBin gAdd (dVar 3) (dC (.str "+"))) (dVar 4)) dNil)))))
      dNext)
    l6))))
    lE))
theorem b_law_eq : b_law = b_law2 := rfl
theorem cp_app (a b : Str) : cp (a ++ b) = cp a ++ cp b := by
  show (a.cps ++ b.cps).toList = _
  rw [Array.toList_append]; rfl
theorem cp_len (z : Str) : (cp z).length = z.length := len_list z
theorem len_app (a b : Str) : (a ++ b).length = a.length + b.length := by rw [← cp_len, cp_app, List.length_append, cp_len, cp_len]
theorem rd_none {z : Str} (h : readF (cp z) = none) (l : z.length ≤ 16000000) : NoRead (.str z) := .inl ⟨z, rfl, l, fun _ => h⟩
theorem rd_some {M : Type} {z : Str} {m : M} {Q : D → M → Prop} {Z : Str → M → Prop} {ts : List Tm} (l : z.length ≤ 2000) (h : readF (cp z) = some ts) (k : ∀ x d, P (sumT ts) x d → Q (pd x d) m) : s_reading_read [.str z] m Q Z := by
  refine ⟨_, rfl, .inl ⟨z, rfl, by omega, fun y => by omega, fun _ => ?_⟩⟩
  rw [show readF z.cps.toList = some ts from h]
  exact fun x d hp _ => k x d hp
theorem rd_told {M : Type} {z : Str} {m : M} {Q : D → M → Prop} {Z : Str → M → Prop} {ts : List Tm} {r : List Int} {d : Int} (l : z.length ≤ 2000) (h : readF (cp z) = some ts) (hP : P (sumT ts) r d) (k : Q (pd r d) m) : s_reading_read [.str z] m Q Z := rd_some l h fun x e hp => by
  obtain ⟨rfl, rfl⟩ := hp.uniq hP
  exact k
theorem l6_ok {zs : List Str} {g : Str} {N : Nat} {NX CT BK : En → Option Nat → Prop} {Q : D → Option Nat → Prop} {Z : Str → Option Nat → Prop} {a0 a2 a3 a6 : Sl} (hz : ∀ z ∈ zs, NoRead (.str z)) (h0 : 0 < zs.length) (h5 : zs.length ≤ 5) (hg : ∃ ts, readF (cp g) = some ts) (gl : g.length ≤ 30) (hN : 2 ≤ N)
    (k : ∀ (a6 : Sl) (N' : Nat), N ≤ N' + 2 → NX [a0, .val (.hnd hdl), a2, a3, .val (.str g), .val (.lst (zs.map D.str)), a6] (some N')) :
    l6 ⟨NX, Q, BK, CT, Z⟩ [a0, .val (.hnd hdl), a2, a3, .val (.str g), .val (.lst (zs.map D.str)), a6] (some N) := by
  obtain ⟨ts, hg⟩ := hg
  unfold l6
  repeat walk_at "o"
  rw [List.length_map]
  refine v_drawN (by omega) (by omega) (by omega) fun i i0 i1 => ?_
  refine v_ixStr (zs := zs) rfl i0 i1 fun z hzm => ?_
  repeat walk_at "o"
  refine ⟨_, rfl, hz z hzm, ?_⟩
  repeat walk_at "o"
  try ((with_reducible show @ite _ _ _ _ _); refine v_ifF ?_)
  repeat walk_at "o"
  refine rd_some (by omega) hg fun x d hp => ?_
  repeat walk_at "o"
  try (refine v_kI (b := true) rfl rfl ?_)
  repeat walk_at "o"
  try ((with_reducible show @ite _ _ _ _ _); refine v_ifF ?_)
  repeat walk_at "o"
  refine v_drawN (by omega) (by decide) (by decide) fun j j0 j1 => ?_
  -- things that are no texts
  have odd : ∀ j : Int, 0 ≤ j → j < 6 → ∃ x, atI [D.non, .int 5, .bl true, .lst [.str "x"], .dic, .tup [.str "x"]] j = some x ∧ NoRead x := by
    intro j h0 h6
    obtain ⟨n, rfl⟩ : ∃ n : Nat, j = (n : Int) := ⟨j.toNat, by omega⟩
    have : n = 0 ∨ n = 1 ∨ n = 2 ∨ n = 3 ∨ n = 4 ∨ n = 5 := by omega
    rcases this with rfl | rfl | rfl | rfl | rfl | rfl
    · exact ⟨_, rfl, .inr ⟨_, rfl, rfl⟩⟩
    · exact ⟨_, rfl, .inr ⟨_, rfl, rfl⟩⟩
    · exact ⟨_, rfl, .inr ⟨_, rfl, rfl⟩⟩
    · exact ⟨_, rfl, .inr ⟨_, rfl, rfl⟩⟩
    · exact ⟨_, rfl, .inr ⟨_, rfl, rfl⟩⟩
    · exact ⟨_, rfl, .inr ⟨_, rfl, rfl⟩⟩
  obtain ⟨x, e, hx⟩ := odd j j0 j1
  have ix : ∀ {q : D → Prop}, q x → gIx false (.lst [D.non, .int 5, .bl true, .lst [.str "x"], .dic, .tup [.str "x"]]) (.int j) q := fun {q} h => by
    unfold gIx; dsimp only; rw [e]; exact ⟨(fun z => nomatch z), h⟩
  refine ix ?_
  repeat walk_at "o"
  refine ⟨_, rfl, hx, ?_⟩
  repeat walk_at "o"
  try ((with_reducible show @ite _ _ _ _ _); refine v_ifF ?_)
  repeat walk_at "o"
  exact k _ _ (by omega)
theorem v_ne_same {x y : List Int} {d e : Int} {q : D → Prop} (h1 : x = y) (h2 : d = e) (h : q (.bl false)) : gNe (pd x d) (pd y e) q := v_nepd (by rw [decide_eq_true ⟨h1, h2⟩]; exact h)
theorem v_eq_same {x y : List Int} {d e : Int} {q : D → Prop} (h1 : x = y) (h2 : d = e) (h : q (.bl true)) : gEq (pd x d) (pd y e) q := v_eqpd (by rw [decide_eq_true ⟨h1, h2⟩]; exact h)
theorem rep_cp (k : Int) (z : Str) : cp (repS k z) = (List.replicate k.toNat (cp z)).flatten := rfl
theorem rep_len (k : Int) (z : Str) : (repS k z).length = k.toNat * z.length := by
  rw [← cp_len, rep_cp, ← cp_len z]
  simp
theorem flat1 (n c : Nat) : (List.replicate n [c]).flatten = List.replicate n c := by
  induction n with
  | zero => rfl
  | succ n ih => rw [List.replicate_succ, List.flatten_cons, ih, List.replicate_succ]; rfl
theorem l_xp : ("x+" : Str).length = 2 ∧ ("x-" : Str).length = 2 ∧ ("x" : Str).length = 1 ∧ ("9" : Str).length = 1 ∧ ("7" : Str).length = 1 ∧ ("1/" : Str).length = 2 ∧ (" " : Str).length = 1 ∧ ("x + " : Str).length = 4 ∧ (" + " : Str).length = 3 ∧ (" - " : Str).length = 3 ∧ ("-" : Str).length = 1 ∧ ("+" : Str).length = 1 := by decide +kernel
theorem c_xp : cp "x+" = [120, 43] ∧ cp "x-" = [120, 45] ∧ cp "x" = [120] ∧ cp "9" = [57] ∧ cp "7" = [55] ∧ cp "1/" = [49, 47] ∧ cp " " = [32] ∧ cp " + " = [32, 43, 32] ∧ cp " - " = [32, 45, 32] ∧ cp "-" = [45] ∧ cp "+" = [43] := by decide +kernel
theorem v_repT {z : Str} {k n : Nat} {q : D → Prop} (hl : z.length = n) (h : n * k ≤ 16000000) (hk : k ≤ 16000) (hn : n ≤ 100) (r : q (.str (repS k z))) : gMulT (.str z) (.int (k : Int)) q :=
  v_mulT (by omega) (by omega) (by rw [hl, Int.toNat_natCast]; omega) (by omega) r
theorem int_rep {c n : Nat} {z : Str} (hz : cp z = [c]) (h : 49 ≤ c) (h' : c ≤ 57) (hn : n + 1 ≤ 4300) : PySem.intText? (repS ((n + 1 : Nat) : Int) z) = some ((vN (List.replicate (n + 1) c) : Nat) : Int) := by
  have e : cp (repS ((n + 1 : Nat) : Int) z) = List.replicate (n + 1) c := by rw [rep_cp, hz, Int.toNat_natCast, flat1]
  have e2 : (repS ((n + 1 : Nat) : Int) z).cps.toList = List.replicate (n + 1) c := e
  have d := rep_dig (c := c) (n := n + 1) h h'
  have := PySem.intText_digits (x := repS ((n + 1 : Nat) : Int) z) (by
    intro x hx
    rw [e2] at hx
    have := d x hx
    unfold isDig at this
    simpa using this) (by rw [e2, List.replicate_succ]; exact List.cons_ne_nil _ _) (by
    rw [← cp_len, e, List.length_replicate]; exact hn)
  rw [this, e2]
  rfl
theorem cpA (n : Nat) (z y : Str) : cp (repS (n : Int) z ++ y) = (List.replicate n (cp z)).flatten ++ cp y := by
  rw [cp_app, rep_cp, Int.toNat_natCast]
theorem cpB (n : Nat) (z y : Str) : cp (y ++ repS (n : Int) z) = cp y ++ (List.replicate n (cp z)).flatten := by
  rw [cp_app, rep_cp, Int.toNat_natCast]
theorem read_xp (n : Nat) : readF (cp (repS (n : Int) "x+" ++ "x")) = some (tsN 1 n) := by
  rw [cpA, c_xp.1, c_xp.2.2.1]
  exact read_rep false n
theorem read_xm (n : Nat) : readF (cp (repS (n : Int) "x-" ++ "x")) = some (tsN (-1) n) := by
  rw [cpA, c_xp.2.1, c_xp.2.2.1]
  exact read_rep true n
theorem read_xb (n : Nat) : readF (cp ("x" ++ repS (n : Int) " ")) = some (tsN 0 0) := by
  rw [cpB, c_xp.2.2.1, c_xp.2.2.2.2.2.2.1, flat1]
  exact read_x n
theorem read_n {c n : Nat} (h : 49 ≤ c) (h' : c ≤ 57) : readF (List.replicate (n + 1) c) = some [(1 * ((vN (List.replicate (n + 1) c) : Nat) : Int), 1, 0)] := by
  have w := Wr.digs (l := List.replicate (n + 1) c) (by rw [List.replicate_succ]; exact List.cons_ne_nil _ _) (rep_dig h h')
  have o := whole_one (c := c) (n := n) h h'
  generalize List.replicate (n + 1) c = l at *
  unfold readF
  rw [w.wds]
  exact o
theorem read_f {c n : Nat} (h : 49 ≤ c) (h' : c ≤ 57) : readF ([49, 47] ++ List.replicate (n + 1) c) = some [(1 * ((1 : Nat) : Int), vN (List.replicate (n + 1) c), 0)] := by
  have w := Wr.digs (l := List.replicate (n + 1) c) (by rw [List.replicate_succ]; exact List.cons_ne_nil _ _) (rep_dig h h')
  have o := whole_frac (c := c) (n := n) h h'
  generalize List.replicate (n + 1) c = l at *
  have one : Wr [49] [[49]] false true := Wr.digs (by decide) (by decide)
  have w2 := one.app ((Wr.sg (c := 47) (j := true) (by decide)).app w)
  have w2 : Wr ([49, 47] ++ l) [[49], [47], l] false true := w2
  unfold readF
  rw [w2.wds]
  exact o
theorem nine {k : Nat} (h0 : k ≠ 0) (h : k ≤ 4300) : ∃ N : Nat, N ≠ 0 ∧ readF (cp (repS (k : Int) "9")) = some [(1 * ((N : Nat) : Int), 1, 0)] ∧ PySem.intText? (repS (k : Int) "9") = some ((N : Nat) : Int) := by
  obtain ⟨n, rfl⟩ : ∃ n, k = n + 1 := ⟨k - 1, by omega⟩
  refine ⟨vN (List.replicate (n + 1) 57), rep_pos (by decide), ?_, int_rep c_xp.2.2.2.1 (by decide) (by decide) h⟩
  rw [rep_cp, c_xp.2.2.2.1, Int.toNat_natCast, flat1]
  exact read_n (by decide) (by decide)
theorem seven {k : Nat} (h0 : k ≠ 0) (h : k ≤ 4300) : ∃ N : Nat, N ≠ 0 ∧ readF (cp ("1/" ++ repS (k : Int) "7")) = some [(1 * ((1 : Nat) : Int), N, 0)] ∧ PySem.intText? (repS (k : Int) "7") = some ((N : Nat) : Int) := by
  obtain ⟨n, rfl⟩ : ∃ n, k = n + 1 := ⟨k - 1, by omega⟩
  refine ⟨vN (List.replicate (n + 1) 55), rep_pos (by decide), ?_, int_rep c_xp.2.2.2.2.1 (by decide) (by decide) h⟩
  rw [cpB, c_xp.2.2.2.2.2.1, c_xp.2.2.2.2.1, flat1]
  exact read_f (by decide) (by decide)
theorem lE_ok {ρ : En} {m : Option Nat} {Q : D → Option Nat → Prop} {Z : Str → Option Nat → Prop} (k : Q (.bl true) m) : lE { nx := fun _ m' => Q .non m', rt := Q, ex := Z } ρ m := by
  obtain ⟨N, N0, r9, i9⟩ := nine (k := 2000) (by decide) (by decide)
  obtain ⟨M, M0, r7, i7⟩ := seven (k := 1998) (by decide) (by decide)
  have p1 : P (sumT (tsN 1 999)) [0, 1000] 1 := tsN_P 1 999 (by decide)
  have p2 : P (sumT (tsN (-1) 999)) [0, -998] 1 := tsN_P (-1) 999 (by decide)
  have p3 : P (sumT (tsN 0 0)) [0, 1] 1 := tsN_P 0 0 (by decide)
  have rx := read_xp 999
  have rm := read_xm 999
  have rb := read_xb 1999
  obtain ⟨l1, l2, l3, l4, l5, l6', l7, l8, _⟩ := l_xp
  have L1 : (repS ((999 : Nat) : Int) "x+").length = 1998 := by rw [rep_len, l1, Int.toNat_natCast]
  have L2 : (repS ((999 : Nat) : Int) "x-").length = 1998 := by rw [rep_len, l2, Int.toNat_natCast]
  have L3 : (repS ((2000 : Nat) : Int) "9").length = 2000 := by rw [rep_len, l4, Int.toNat_natCast]
  have L4 : (repS ((1998 : Nat) : Int) "7").length = 1998 := by rw [rep_len, l5, Int.toNat_natCast]
  have L5 : (repS ((1999 : Nat) : Int) " ").length = 1999 := by rw [rep_len, l7, Int.toNat_natCast]
  have L6 : (repS ((2000 : Nat) : Int) " ").length = 2000 := by rw [rep_len, l7, Int.toNat_natCast]
  have L7 : (repS ((500 : Nat) : Int) "x + ").length = 2000 := by rw [rep_len, l8, Int.toNat_natCast]
  unfold lE
  repeat walk_at "o"
  refine v_repT (k := 999) l1 (by decide) (by decide) (by decide) ?_
  generalize repS ((999 : Nat) : Int) "x+" = t1 at *
  repeat walk_at "o"
  refine v_addStr (by omega) ?_
  repeat walk_at "o"
  refine rd_told (by rw [len_app]; omega) rx p1 ?_
  repeat walk_at "o"
  refine v_ne_same rfl rfl ?_
  repeat walk_at "o"
  try ((with_reducible show @ite _ _ _ _ _); refine v_ifF ?_)
  repeat walk_at "o"
  refine v_repT (k := 2000) l4 (by decide) (by decide) (by decide) ?_
  repeat walk_at "o"
  refine rd_told (by omega) r9 (num_P N0) ?_
  repeat walk_at "o"
  refine v_repT (k := 2000) l4 (by decide) (by decide) (by decide) ?_
  repeat walk_at "o"
  refine v_intVs i9 (by omega) ?_
  repeat walk_at "o"
  refine v_ne_same rfl rfl ?_
  repeat walk_at "o"
  try ((with_reducible show @ite _ _ _ _ _); refine v_ifF ?_)
  repeat walk_at "o"
  refine v_repT (k := 1998) l5 (by decide) (by decide) (by decide) ?_
  repeat walk_at "o"
  refine v_addStr (by omega) ?_
  repeat walk_at "o"
  refine rd_told (by rw [len_app]; omega) r7 (frac_P M0) ?_
  repeat walk_at "o"
  refine v_repT (k := 1998) l5 (by decide) (by decide) (by decide) ?_
  repeat walk_at "o"
  refine v_intVs i7 (by omega) ?_
  repeat walk_at "o"
  refine v_ne_same rfl rfl ?_
  repeat walk_at "o"
  try ((with_reducible show @ite _ _ _ _ _); refine v_ifF ?_)
  repeat walk_at "o"
  refine v_repT (k := 999) l2 (by decide) (by decide) (by decide) ?_
  generalize repS ((999 : Nat) : Int) "x-" = t3 at *
  repeat walk_at "o"
  refine v_addStr (by omega) ?_
  repeat walk_at "o"
  refine rd_told (by rw [len_app]; omega) rm p2 ?_
  repeat walk_at "o"
  refine v_ne_same rfl rfl ?_
  repeat walk_at "o"
  try ((with_reducible show @ite _ _ _ _ _); refine v_ifF ?_)
  repeat walk_at "o"
  refine v_repT (k := 1999) l7 (by decide) (by decide) (by decide) ?_
  generalize repS ((1999 : Nat) : Int) " " = t4 at *
  repeat walk_at "o"
  refine v_addStr (by omega) ?_
  repeat walk_at "o"
  refine rd_told (by rw [len_app]; omega) rb p3 ?_
  repeat walk_at "o"
  refine v_eq_same rfl rfl ?_
  refine v_kAV (fun _ => ?_) fun h => (nomatch h)
  repeat walk_at "o"
  refine v_repT (k := 2000) l7 (by decide) (by decide) (by decide) ?_
  generalize repS ((2000 : Nat) : Int) " " = t5 at *
  repeat walk_at "o"
  refine v_addStr (by omega) ?_
  repeat walk_at "o"
  refine ⟨_, rfl, .inl ⟨_, rfl, by rw [len_app]; omega, fun h => by rw [len_app] at h; omega⟩, ?_⟩
  refine v_kAV (fun _ => ?_) fun h => (nomatch h)
  repeat walk_at "o"
  refine v_repT (k := 500) l8 (by decide) (by decide) (by decide) ?_
  generalize repS ((500 : Nat) : Int) "x + " = t6 at *
  repeat walk_at "o"
  refine v_addStr (by omega) ?_
  repeat walk_at "o"
  exact ⟨_, rfl, .inl ⟨_, rfl, by rw [len_app]; omega, fun h => by rw [len_app] at h; omega⟩, k⟩
theorem vc_law : ∀ ds (m : Option Nat) Q Z, s_law ds m Q Z → okK [true] ds ∧ b_law { nx := fun _ m' => Q .non m', rt := Q, ex := Z } (st0 [true] ds 7) m := by
  rintro ds m Q Z ⟨ns, rfl, hl, rfl, q⟩
  refine ⟨⟨fun h => (nomatch h), trivial⟩, ?_⟩
  rw [b_law_eq]
  unfold b_law2
  repeat walk_at "o"
  refine ⟨ns, rfl, hl, rfl, ?_⟩
  repeat walk_at "o"
  rw [imin_eq]
  refine v_kR1 (by omega) (by omega) ?_
  obtain ⟨n, hn⟩ : ∃ n, n = (1 + min (62 : Int) ns.length).toNat := ⟨_, rfl⟩
  have n63 : n ≤ 63 := by omega
  rw [← hn]
  refine v_kforR n (fun k ρ m => ∃ a2 a3 a4 a5 a6, ∃ N : Nat, ρ = [.bor (.lst (zz ns)), .val (.hnd hdl), a2, a3, a4, a5, a6] ∧ m = some N ∧ 2 ^ 50 ≤ N + 100 * k) ⟨_, _, _, _, _, 2 ^ 50, rfl, rfl, by decide⟩ (fun ρ m h => ?_) fun k ρ m hk h => ?_
  · obtain ⟨a2, a3, a4, a5, a6, N, rfl, rfl, hN⟩ := h
    exact lE_ok (q _)
  obtain ⟨a2, a3, a4, a5, a6, N, rfl, rfl, hN⟩ := h
  repeat walk_at "o"
  refine ⟨N, rfl, rfl, by omega, fun o ho => ?_⟩
  repeat walk_at "o"
  refine ⟨N - 1, rfl, rfl, by omega, fun g hg => ?_⟩
  repeat walk_at "o"
  have chk := chk_of ho hg
  unfold chk08 at chk
  simp only [Bool.and_eq_true, decide_eq_true_eq, Option.isNone_iff_eq_none] at chk
  obtain ⟨⟨⟨⟨⟨⟨cA, cB⟩, cC⟩, cS⟩, cG⟩, lo⟩, lg⟩ := chk
  rw [cp_len] at lo lg
  obtain ⟨_, _, _, _, _, _, _, _, m1, m2, m3, m4⟩ := l_xp
  obtain ⟨_, _, _, _, _, _, _, d1, d2, d3, d4⟩ := c_xp
  refine v_addStr (by omega) ?_
  repeat walk_at "o"
  refine v_addStr (by rw [len_app]; omega) ?_
  repeat walk_at "o"
  refine v_addStr (by omega) ?_
  repeat walk_at "o"
  refine v_addStr (by rw [len_app]; omega) ?_
  repeat walk_at "o"
  have hA : NoRead (.str o) := rd_none cA (by omega)
  have hB : NoRead (.str (g ++ " + " ++ o)) := rd_none (by rw [cp_app, cp_app, d1, List.append_assoc]; exact cB) (by rw [len_app, len_app]; omega)
  have hC : NoRead (.str (g ++ "-" ++ o)) := rd_none (by rw [cp_app, cp_app, d3, List.append_assoc]; exact cC) (by rw [len_app, len_app]; omega)
  have hG : ∃ ts, readF (cp g) = some ts := Option.isSome_iff_exists.mp cG
  have go : ∀ (zs : List Str) (a6 : Sl), (∀ z ∈ zs, NoRead (.str z)) → 0 < zs.length → zs.length ≤ 5 →
      l6 ⟨fun ρ m => ∃ a2 a3 a4 a5 a6, ∃ N : Nat, ρ = [.bor (.lst (zz ns)), .val (.hnd hdl), a2, a3, a4, a5, a6] ∧ m = some N ∧ 2 ^ 50 ≤ N + 100 * (k + 1), Q, lE { nx := fun _ m' => Q .non m', rt := Q, ex := Z }, fun ρ m => ∃ a2 a3 a4 a5 a6, ∃ N : Nat, ρ = [.bor (.lst (zz ns)), .val (.hnd hdl), a2, a3, a4, a5, a6] ∧ m = some N ∧ 2 ^ 50 ≤ N + 100 * (k + 1), Z⟩
        [.bor (.lst (zz ns)), .val (.hnd hdl), .val (.int (0 + k)), .val (.str o), .val (.str g), .val (.lst (zs.map D.str)), a6] (some (N - 1 - 1)) := fun zs a6 h1 h2 h3 =>
    l6_ok h1 h2 h3 hG lg (by omega) fun a6 N' hN' => ⟨_, _, _, _, _, N', rfl, rfl, by omega⟩
  refine v_S1d ?_
  repeat walk_at "o"
  try dsimp only
  repeat walk_at "o"
  refine v_stripC (by omega) ?_
  repeat walk_at "o"
  by_cases c : Txt.stripChars o (" " : Str) = ("" : Str)
  · rw [decide_eq_true c]
    try ((with_reducible show @ite _ _ _ _ _); refine v_ifF ?_)
    repeat walk_at "o"
    exact go [o, g ++ " + " ++ o, g ++ "-" ++ o] _ (fun z hz => by simp at hz; rcases hz with rfl | rfl | rfl <;> assumption) (by simp) (by simp)
  · rw [decide_eq_false c]
    try ((with_reducible show @ite _ _ _ _ _); refine v_ifT ?_)
    simp only [Bool.or_eq_true, decide_eq_true_eq, Bool.and_eq_true, Option.isNone_iff_eq_none] at cS
    obtain ⟨cD, cE⟩ := cS.resolve_left c
    have hD : NoRead (.str (o ++ " - " ++ g)) := rd_none (by rw [cp_app, cp_app, d2, List.append_assoc]; exact cD) (by rw [len_app, len_app]; omega)
    have hE : NoRead (.str (o ++ "+" ++ g)) := rd_none (by rw [cp_app, cp_app, d4, List.append_assoc]; exact cE) (by rw [len_app, len_app]; omega)
    repeat walk_at "o"
    refine v_addStr (by omega) ?_
    repeat walk_at "o"
    refine v_addStr (by rw [len_app]; omega) ?_
    repeat walk_at "o"
    refine v_addStr (by omega) ?_
    repeat walk_at "o"
    refine v_addStr (by rw [len_app]; omega) ?_
    repeat walk_at "o"
    refine v_addl (by simp) (by rfl) (by rfl) ?_
    repeat walk_at "o"
    exact go [o, g ++ " + " ++ o, g ++ "-" ++ o, o ++ " - " ++ g, o ++ "+" ++ g] _ (fun z hz => by simp at hz; rcases hz with rfl | rfl | rfl | rfl | rfl <;> assumption) (by simp) (by simp)
end RR

namespace RR
open PySem PySem.Spec PyProof.Rows L2
section
variable {P : Program} {w : World} {K : PySem.W.Frag} {mg : Str → Option Value} {base : Heap} {W : Wd}
abbrev st__law_folded : Stmt := topS 36
def N__law_folded : List Str := ["_law_script", "_law_found", "_law_k", "_law_cell"]
theorem sc__law_folded : FnScope N__law_folded ["_law_script"] (defScope st__law_folded) := ⟨rfl, rfl, rfl, by decide +kernel, rfl, by decide +kernel, by decide +kernel⟩
theorem w__law_folded (m_enumerate : mg "enumerate" = none) (m_range : mg "range" = none) : BodyJ P w K mg base W 0 N__law_folded "_law_folded" st__law_folded b__law_folded := by
  intro f cdv A outer s H E F0 hr
  have nd : N__law_folded.Nodup := by decide +kernel
  have tk := takes_of (X := XOf P w K mg base N__law_folded "_law_folded" (defScope st__law_folded) f cdv A outer s H E) rfl rfl rfl rfl
  have hp := passes_of (X := XOf P w K mg base N__law_folded "_law_folded" (defScope st__law_folded) f cdv A outer s H E) rfl
  exact (jls_of (jss_cons (js_setLcO 1 rfl nd (own := [("_law_k", 2)]) (ws := [2]) (ji_range1 (st := false) m_range (ja_cons ncl_w (j_int).fw ja_nil)) (blkOk_by (N := N__law_folded) (sc := defScope st__law_folded) (by decide +kernel)) (fun _ _ _ _ _ => (jg_name 2 nd)) (fun _ _ _ _ _ => jts_nil) (fun _ _ _ _ _ => ((j_bind okd_add (j_int).fd ((j_var 2)).sd)).sf) (by decide))
    (jss_cons (js_for hp rfl (ji_enumb 0 m_enumerate) (jg_tup rfl (jgs_cons (jg_name 2 nd) (jgs_cons (jg_name 3 nd) jgs_nil)))
      (jss_one (js_seti 1 ((j_bin ok_mod ((j_bind okd_add ((j_bind okd_mul ((j_ixw (j_own 1) ((j_bin ok_mod ((j_var 2)).sw (j_int).fw)).fw)).sd (j_int).fd)).fd ((j_var 3)).sd)).fw (j_int).fw)).sf ((j_bin ok_mod ((j_var 2)).sw (j_int).fw)).fw)))
    (jss_cons (js_for hp rfl (ji_range2 (st := true) m_range (ja_cons ncl_w (j_int).fw (ja_cons ncl_w (j_int).fw ja_nil))) (jg_name 2 nd)
      (jss_one (js_seti 1 ((j_bin ok_mod ((j_bind okd_add ((j_ixw (j_own 1) ((j_var 2)).sw)).sd ((j_bind okd_mul ((j_ixw (j_own 1) ((j_bin ok_sub ((j_var 2)).sw (j_int).fw)).fw)).sd (j_int).fd)).fd)).fw (j_int).fw)).sf ((j_var 2)).sw)))
    (jss_one (js_ret (j_ownr 1)))))))

abbrev st_Source___init__ : Stmt := clsS 32 0
def N_Source___init__ : List Str := ["self", "words"]
theorem sc_Source___init__ : FnScope N_Source___init__ ["self", "words"] (defScope st_Source___init__) := ⟨rfl, rfl, rfl, by decide +kernel, rfl, by decide +kernel, by decide +kernel⟩
theorem w_Source___init__ {Cl : Addr} (cl_Source : Cls K Cl) (na_Source_at : NoAttr K Cl "at") (na_Source_words : NoAttr K Cl "words") : BodyJ P w K mg base (WdO K Cl W) 0 N_Source___init__ "Source.__init__" st_Source___init__ b_reading_Source___init__ := by
  intro f cdv A outer s H E F0 hr
  have nd : N_Source___init__.Nodup := by decide +kernel
  have tk := takes_of (X := XOf P w K mg base N_Source___init__ "Source.__init__" (defScope st_Source___init__) f cdv A outer s H E) rfl rfl rfl rfl
  have hp := passes_of (X := XOf P w K mg base N_Source___init__ "Source.__init__" (defScope st_Source___init__) f cdv A outer s H E) rfl
  exact (jls_of (jss_cons (js_fpar 0 1 cl_Source na_Source_words)
    (jss_one (js_fnew 0 cl_Source na_Source_at (j_int).sf))))

abbrev st_Source_here : Stmt := clsS 32 1
def N_Source_here : List Str := ["self"]
theorem sc_Source_here : FnScope N_Source_here ["self"] (defScope st_Source_here) := ⟨rfl, rfl, rfl, by decide +kernel, rfl, by decide +kernel, by decide +kernel⟩
theorem w_Source_here {Cl : Addr} (m_len : mg "len" = none) (cl_Source : Cls K Cl) (na_Source_at : NoAttr K Cl "at") (na_Source_words : NoAttr K Cl "words") : BodyJ P w K mg base (WdO K Cl W) 0 N_Source_here "Source.here" st_Source_here b_reading_Source_here := by
  intro f cdv A outer s H E F0 hr
  have nd : N_Source_here.Nodup := by decide +kernel
  have tk := takes_of (X := XOf P w K mg base N_Source_here "Source.here" (defScope st_Source_here) f cdv A outer s H E) rfl rfl rfl rfl
  have hp := passes_of (X := XOf P w K mg base N_Source_here "Source.here" (defScope st_Source_here) f cdv A outer s H E) rfl
  exact (jls_of (jss_one (js_ret ((j_if (jt_cmp ok_lt ((JH.j (jh_fld 0 cl_Source na_Source_at))).fw ((JH.j (jh_flen 0 m_len cl_Source na_Source_words))).fw) (JH.j (jh_fix 0 cl_Source na_Source_words (jh_fld 0 cl_Source na_Source_at))) j_str)).fr)))

abbrev st_Source_takes : Stmt := clsS 32 2
def N_Source_takes : List Str := ["self", "word"]
theorem sc_Source_takes : FnScope N_Source_takes ["self", "word"] (defScope st_Source_takes) := ⟨rfl, rfl, rfl, by decide +kernel, rfl, by decide +kernel, by decide +kernel⟩
theorem w_Source_takes {Cl : Addr} (cl_Source : Cls K Cl) (hm_Source_here : FM P w K mg base (WdO K Cl W) 1 Cl "here" s_reading_Source_here) (na_Source_at : NoAttr K Cl "at") : BodyJ P w K mg base (WdO K Cl W) 1 N_Source_takes "Source.takes" st_Source_takes b_reading_Source_takes := by
  intro f cdv A outer s H E F0 hr
  have nd : N_Source_takes.Nodup := by decide +kernel
  have tk := takes_of (X := XOf P w K mg base N_Source_takes "Source.takes" (defScope st_Source_takes) f cdv A outer s H E) rfl rfl rfl rfl
  have hp := passes_of (X := XOf P w K mg base N_Source_takes "Source.takes" (defScope st_Source_takes) f cdv A outer s H E) rfl
  exact (jls_of (jss_cons (js_if (jt_cmp (ok_ne hr.units) ((j_meth0 0 cl_Source hm_Source_here (hr.mono (by decide)) tk)).fw ((j_var 1)).sw)
      (jss_one (js_ret (j_bl).fr))
      jss_nil)
    (jss_cons (js_faug 0 cl_Source na_Source_at jh_int)
    (jss_one (js_ret (j_bl).fr)))))

abbrev st_is_number : Stmt := topS 31
def N_is_number : List Str := ["word"]
theorem sc_is_number : FnScope N_is_number ["word"] (defScope st_is_number) := ⟨rfl, rfl, rfl, by decide +kernel, rfl, by decide +kernel, by decide +kernel⟩
theorem w_is_number (c_FIGURES : Cst K mg "FIGURES" (.str "0123456789")) : BodyJ P w K mg base W 0 N_is_number "is_number" st_is_number b_reading_is_number := by
  intro f cdv A outer s H E F0 hr
  have nd : N_is_number.Nodup := by decide +kernel
  have tk := takes_of (X := XOf P w K mg base N_is_number "is_number" (defScope st_is_number) f cdv A outer s H E) rfl rfl rfl rfl
  have hp := passes_of (X := XOf P w K mg base N_is_number "is_number" (defScope st_is_number) f cdv A outer s H E) rfl
  exact (jls_of (jss_one (js_ret ((j_and (j_cmp ok_inS ((j_ix (j_var 0) (j_int).fw)).sw ((j_glob (by rfl) c_FIGURES)).fw (by rfl)) (j_one (j_or (j_cmp (ok_ne hr.units) ((j_ix (j_var 0) (j_int).fw)).sw (j_str).fw) (j_one (j_cmp (ok_eq hr.units) ((j_var 0)).sw (j_str).fw)))))).fr)))

abbrev st_Source_number : Stmt := clsS 32 3
def N_Source_number : List Str := ["self", "word"]
theorem sc_Source_number : FnScope N_Source_number ["self"] (defScope st_Source_number) := ⟨rfl, rfl, rfl, by decide +kernel, rfl, by decide +kernel, by decide +kernel⟩
theorem w_Source_number {Cl : Addr} (m_int : mg "int" = none) (x_BadText : ExcF K mg "BadText") (cl_Source : Cls K Cl) (hm_Source_here : FM P w K mg base (WdO K Cl W) 1 Cl "here" s_reading_Source_here) (i_dig : PySem.W.nsIn K cStatics "sys.int_max_str_digits" = some none) (na_Source_at : NoAttr K Cl "at") (h_is_number : FD P w K mg base (WdO K Cl W) 1 "is_number" [] s_reading_is_number) : BodyJ P w K mg base (WdO K Cl W) 1 N_Source_number "Source.number" st_Source_number b_reading_Source_number := by
  intro f cdv A outer s H E F0 hr
  have nd : N_Source_number.Nodup := by decide +kernel
  have tk := takes_of (X := XOf P w K mg base N_Source_number "Source.number" (defScope st_Source_number) f cdv A outer s H E) rfl rfl rfl rfl
  have hp := passes_of (X := XOf P w K mg base N_Source_number "Source.number" (defScope st_Source_number) f cdv A outer s H E) rfl
  exact (jls_of (jss_cons (js_set 1 nd ((j_meth0 0 cl_Source hm_Source_here (hr.mono (by decide)) tk)).sf)
    (jss_cons (js_if (JW.t (jw_or (jt_cmp (ok_eq hr.units) ((j_var 1)).sw (j_str).fw) (jw_or1 (jt_not (jt_val ((j_call h_is_number (hr.mono (by decide)) tk (by rfl) (ja_cons ncl_w ((j_var 1)).sw ja_nil))).fw)))))
      (jss_one (js_raise rfl tk x_BadText))
      jss_nil)
    (jss_cons (js_faug 0 cl_Source na_Source_at jh_int)
    (jss_one (js_ret ((j_callTy (ca_intV i_dig) m_int (by decide +kernel) (ja_cons ncl_w ((j_var 1)).sw ja_nil))).fr))))))

abbrev st_Source_letter_power : Stmt := clsS 32 4
def N_Source_letter_power : List Str := ["self", "found"]
theorem sc_Source_letter_power : FnScope N_Source_letter_power ["self"] (defScope st_Source_letter_power) := ⟨rfl, rfl, rfl, by decide +kernel, rfl, by decide +kernel, by decide +kernel⟩
theorem w_Source_letter_power {Cl : Addr} (c_MOST_POWER : Cst K mg "MOST_POWER" (.int 64)) (x_BadText : ExcF K mg "BadText") (cl_Source : Cls K Cl) (hm_Source_number : FM P w K mg base (WdO K Cl W) 2 Cl "number" s_reading_Source_number) (hm_Source_takes : FM P w K mg base (WdO K Cl W) 2 Cl "takes" s_reading_Source_takes) : BodyJ P w K mg base (WdO K Cl W) 2 N_Source_letter_power "Source.letter_power" st_Source_letter_power b_reading_Source_letter_power := by
  intro f cdv A outer s H E F0 hr
  have nd : N_Source_letter_power.Nodup := by decide +kernel
  have tk := takes_of (X := XOf P w K mg base N_Source_letter_power "Source.letter_power" (defScope st_Source_letter_power) f cdv A outer s H E) rfl rfl rfl rfl
  have hp := passes_of (X := XOf P w K mg base N_Source_letter_power "Source.letter_power" (defScope st_Source_letter_power) f cdv A outer s H E) rfl
  exact (jls_of (jss_cons (js_if (jt_not (jt_val ((j_meth 0 cl_Source hm_Source_takes (hr.mono (by decide)) tk (ja_cons ncl_w (j_str).fw ja_nil))).fw))
      (jss_one (js_raise rfl tk x_BadText))
      jss_nil)
    (jss_cons (js_if (jt_not (jt_val ((j_meth 0 cl_Source hm_Source_takes (hr.mono (by decide)) tk (ja_cons ncl_w (j_str).fw ja_nil))).fw))
      (jss_one (js_ret (j_int).fr))
      jss_nil)
    (jss_cons (js_set 1 nd ((j_meth0 0 cl_Source hm_Source_number (hr.mono (by decide)) tk)).sf)
    (jss_cons (js_if (jt_cmp ok_gt ((j_var 1)).sw ((j_glob (by rfl) c_MOST_POWER)).fw)
      (jss_one (js_raise rfl tk x_BadText))
      jss_nil)
    (jss_one (js_ret ((j_var 1)).sr)))))))

abbrev st_common : Stmt := topS 11
def N_common : List Str := ["one", "other"]
theorem sc_common : FnScope N_common ["one", "other"] (defScope st_common) := ⟨rfl, rfl, rfl, by decide +kernel, rfl, by decide +kernel, by decide +kernel⟩
theorem w_common (m_abs : mg "abs" = none) : BodyJ P w K mg base W 0 N_common "common" st_common b_numbers_common := by
  intro f cdv A outer s H E F0 hr
  have nd : N_common.Nodup := by decide +kernel
  have tk := takes_of (X := XOf P w K mg base N_common "common" (defScope st_common) f cdv A outer s H E) rfl rfl rfl rfl
  have hp := passes_of (X := XOf P w K mg base N_common "common" (defScope st_common) f cdv A outer s H E) rfl
  exact (jls_of (jss_cons (js_par 0 1 rfl nd (ja_cons ncl_s ((j_callB ca_abs m_abs (by decide +kernel) (ja_cons ncl_w ((j_var 0)).sw ja_nil))).sf (ja_cons ncl_s ((j_callB ca_abs m_abs (by decide +kernel) (ja_cons ncl_w ((j_var 1)).sw ja_nil))).sf ja_nil)))
    (jss_cons (js_while hp (jt_cmp ok_gt ((j_var 1)).sw (j_int).fw)
      (jss_one (js_par 0 1 rfl nd (ja_cons ncl_s (j_var 1) (ja_cons ncl_s ((j_bin ok_mod ((j_var 0)).sw ((j_var 1)).sw)).sf ja_nil)))))
    (jss_one (js_ret ((j_var 0)).sr)))))

abbrev st_content : Stmt := topS 19
def N_content : List Str := ["row", "found", "number"]
theorem sc_content : FnScope N_content ["row"] (defScope st_content) := ⟨rfl, rfl, rfl, by decide +kernel, rfl, by decide +kernel, by decide +kernel⟩
theorem w_content (h_common : FD P w K mg base W 1 "common" [] s_numbers_common) : BodyJ P w K mg base W 1 N_content "content" st_content b_rows_content := by
  intro f cdv A outer s H E F0 hr
  have nd : N_content.Nodup := by decide +kernel
  have tk := takes_of (X := XOf P w K mg base N_content "content" (defScope st_content) f cdv A outer s H E) rfl rfl rfl rfl
  have hp := passes_of (X := XOf P w K mg base N_content "content" (defScope st_content) f cdv A outer s H E) rfl
  exact (jls_of (jss_cons (js_set 1 nd (j_int).sf)
    (jss_cons (js_for hp rfl (ji_seq (j_var 0)) (jg_name 2 nd)
      (jss_one (js_set 1 nd ((j_call h_common (hr.mono (by decide)) tk (by rfl) (ja_cons ncl_w ((j_var 1)).sw (ja_cons ncl_w ((j_var 2)).sw ja_nil)))).sf)))
    (jss_one (js_ret ((j_var 1)).sr)))))

abbrev st_poly : Stmt := topS 22
def N_poly : List Str := ["row", "d", "part", "number"]
theorem sc_poly : FnScope N_poly ["row", "d"] (defScope st_poly) := ⟨rfl, rfl, rfl, by decide +kernel, rfl, by decide +kernel, by decide +kernel⟩
theorem w_poly (m_tuple : mg "tuple" = none) (x_ByNought : ExcF K mg "ByNought") (h_common : FD P w K mg base W 1 "common" [] s_numbers_common) (h_content : FD P w K mg base W 2 "content" [] s_rows_content) : BodyJ P w K mg base W 2 N_poly "poly" st_poly b_polys_poly := by
  intro f cdv A outer s H E F0 hr
  have nd : N_poly.Nodup := by decide +kernel
  have tk := takes_of (X := XOf P w K mg base N_poly "poly" (defScope st_poly) f cdv A outer s H E) rfl rfl rfl rfl
  have hp := passes_of (X := XOf P w K mg base N_poly "poly" (defScope st_poly) f cdv A outer s H E) rfl
  exact (jls_of (jss_cons (js_if (jt_cmp (ok_eq hr.units) ((j_var 1)).sw (j_int).fw)
      (jss_one (js_raise rfl tk x_ByNought))
      jss_nil)
    (jss_cons (js_set 2 nd ((j_call h_common (hr.mono (by decide)) tk (by rfl) (ja_cons ncl_w ((j_call h_content (hr.mono (by decide)) tk (by rfl) (ja_cons ncl_w ((j_var 0)).sw ja_nil))).fw (ja_cons ncl_w ((j_var 1)).sw ja_nil)))).sf)
    (jss_cons (js_set 2 nd (j_if (jt_cmp ok_gt ((j_var 1)).sw (j_int).fw) (j_var 2) ((j_bin ok_sub (j_int).fw ((j_var 2)).sw)).sf))
    (jss_one (js_ret ((j_tup (ja_cons ncl_s ((j_callTy ca_tuple m_tuple (by decide +kernel) (ja_cons ncl_w ((j_lc rfl nd (own := [("number", 3)]) (ws := [3]) (JI.weak (ji_seq (j_var 0))) (blkOk_by (N := N_poly) (sc := defScope st_poly) (by decide +kernel)) (fun _ _ _ _ _ => (jg_name 3 nd)) (fun _ _ _ _ _ => jts_nil) (fun _ _ _ _ _ => ((j_bin ok_fdiv ((j_var 3)).sw ((j_var 2)).sw)).sf) (by decide))).fw ja_nil))).sf (ja_cons ncl_s ((j_bin ok_fdiv ((j_var 1)).sw ((j_var 2)).sw)).sf ja_nil)))).fr))))))

abbrev st_row_of : Stmt := topS 13
def N_row_of : List Str := ["numbers", "size"]
theorem sc_row_of : FnScope N_row_of ["numbers"] (defScope st_row_of) := ⟨rfl, rfl, rfl, by decide +kernel, rfl, by decide +kernel, by decide +kernel⟩
theorem w_row_of (m_len : mg "len" = none) (m_tuple : mg "tuple" = none) : BodyJ P w K mg base W 0 N_row_of "row_of" st_row_of b_rows_row_of := by
  intro f cdv A outer s H E F0 hr
  have nd : N_row_of.Nodup := by decide +kernel
  have tk := takes_of (X := XOf P w K mg base N_row_of "row_of" (defScope st_row_of) f cdv A outer s H E) rfl rfl rfl rfl
  have hp := passes_of (X := XOf P w K mg base N_row_of "row_of" (defScope st_row_of) f cdv A outer s H E) rfl
  exact (jls_of (jss_cons (js_set 1 nd ((j_callB ca_len m_len (by decide +kernel) (ja_cons ncl_w (j_bor 0) ja_nil))).sf)
    (jss_cons (js_while hp (JW.t (jw_and (jt_cmp ok_gt ((j_var 1)).sw (j_int).fw) (jw_and1 (jt_cmp (ok_eq hr.units) ((j_ixw (j_bor 0) ((j_bin ok_sub ((j_var 1)).sw (j_int).fw)).fw)).sw (j_int).fw))))
      (jss_one (js_aug 1 ip_sub nd (j_int).fw)))
    (jss_one (js_ret ((j_callTy ca_tuple m_tuple (by decide +kernel) (ja_cons ncl_w ((j_sl (j_bor 0) jo_none (jo_some ((j_var 1)).sw))).fw ja_nil))).fr)))))

abbrev st_shifted : Stmt := topS 18
def N_shifted : List Str := ["row", "k"]
theorem sc_shifted : FnScope N_shifted ["row", "k"] (defScope st_shifted) := ⟨rfl, rfl, rfl, by decide +kernel, rfl, by decide +kernel, by decide +kernel⟩
theorem w_shifted (m_list : mg "list" = none) (h_row_of : FD P w K mg base W 1 "row_of" [] s_rows_row_of) : BodyJ P w K mg base W 1 N_shifted "shifted" st_shifted b_rows_shifted := by
  intro f cdv A outer s H E F0 hr
  have nd : N_shifted.Nodup := by decide +kernel
  have tk := takes_of (X := XOf P w K mg base N_shifted "shifted" (defScope st_shifted) f cdv A outer s H E) rfl rfl rfl rfl
  have hp := passes_of (X := XOf P w K mg base N_shifted "shifted" (defScope st_shifted) f cdv A outer s H E) rfl
  exact (jls_of (jss_one (js_ret ((j_call h_row_of (hr.mono (by decide)) tk (by rfl) (ja_cons ncl_w ((j_bind okd_add ((j_bind okd_mul ((j_lst (ja_cons ncl_s (j_int).sf ja_nil))).fd ((j_var 1)).sd)).fd ((j_callTy ca_list m_list (by decide +kernel) (ja_cons ncl_w ((j_var 0)).sw ja_nil))).fd)).fw ja_nil))).fr)))

abbrev st_Source_term : Stmt := clsS 32 5
def N_Source_term : List Str := ["self", "top", "below", "k"]
theorem sc_Source_term : FnScope N_Source_term ["self"] (defScope st_Source_term) := ⟨rfl, rfl, rfl, by decide +kernel, rfl, by decide +kernel, by decide +kernel⟩
theorem w_Source_term {Cl : Addr} (x_BadText : ExcF K mg "BadText") (cl_Source : Cls K Cl) (hm_Source_here : FM P w K mg base (WdO K Cl W) 1 Cl "here" s_reading_Source_here) (hm_Source_letter_power : FM P w K mg base (WdO K Cl W) 3 Cl "letter_power" s_reading_Source_letter_power) (hm_Source_number : FM P w K mg base (WdO K Cl W) 2 Cl "number" s_reading_Source_number) (hm_Source_takes : FM P w K mg base (WdO K Cl W) 2 Cl "takes" s_reading_Source_takes) (h_poly : FD P w K mg base (WdO K Cl W) 3 "poly" [] s_polys_poly) (h_poly_1 : FD P w K mg base (WdO K Cl W) 3 "poly" [.int 1] s_polys_poly) (h_row_of : FD P w K mg base (WdO K Cl W) 1 "row_of" [] s_rows_row_of) (h_shifted : FD P w K mg base (WdO K Cl W) 2 "shifted" [] s_rows_shifted) : BodyJ P w K mg base (WdO K Cl W) 3 N_Source_term "Source.term" st_Source_term b_reading_Source_term := by
  intro f cdv A outer s H E F0 hr
  have nd : N_Source_term.Nodup := by decide +kernel
  have tk := takes_of (X := XOf P w K mg base N_Source_term "Source.term" (defScope st_Source_term) f cdv A outer s H E) rfl rfl rfl rfl
  have hp := passes_of (X := XOf P w K mg base N_Source_term "Source.term" (defScope st_Source_term) f cdv A outer s H E) rfl
  exact (jls_of (jss_cons (js_if (jt_cmp (ok_eq hr.units) ((j_meth0 0 cl_Source hm_Source_here (hr.mono (by decide)) tk)).fw (j_str).fw)
      (jss_one (js_ret ((j_call h_poly_1 (hr.mono (by decide)) tk (by rfl) (ja_cons ncl_w ((j_call h_shifted (hr.mono (by decide)) tk (by rfl) (ja_cons ncl_w ((j_tup (ja_cons ncl_s (j_int).sf ja_nil))).fw (ja_cons ncl_w ((j_meth0 0 cl_Source hm_Source_letter_power (hr.mono (by decide)) tk)).fw ja_nil)))).fw ja_nil))).fr))
      jss_nil)
    (jss_cons (js_set 1 nd ((j_meth0 0 cl_Source hm_Source_number (hr.mono (by decide)) tk)).sf)
    (jss_cons (js_set 2 nd ((j_if (jt_val ((j_meth 0 cl_Source hm_Source_takes (hr.mono (by decide)) tk (ja_cons ncl_w (j_str).fw ja_nil))).fw) (j_meth0 0 cl_Source hm_Source_number (hr.mono (by decide)) tk) j_int)).sf)
    (jss_cons (js_if (jt_cmp (ok_eq hr.units) ((j_var 2)).sw (j_int).fw)
      (jss_one (js_raise rfl tk x_BadText))
      jss_nil)
    (jss_cons (js_set 3 nd ((j_if (jt_val ((j_meth 0 cl_Source hm_Source_takes (hr.mono (by decide)) tk (ja_cons ncl_w (j_str).fw ja_nil))).fw) (j_meth0 0 cl_Source hm_Source_letter_power (hr.mono (by decide)) tk) j_int)).sf)
    (jss_one (js_ret ((j_call h_poly (hr.mono (by decide)) tk (by rfl) (ja_cons ncl_w ((j_call h_row_of (hr.mono (by decide)) tk (by rfl) (ja_cons ncl_w ((j_bind okd_add ((j_bind okd_mul ((j_lst (ja_cons ncl_s (j_int).sf ja_nil))).fd ((j_var 3)).sd)).fd ((j_lst (ja_cons ncl_s (j_var 1) ja_nil))).fd)).fw ja_nil))).fw (ja_cons ncl_w ((j_var 2)).sw ja_nil)))).fr))))))))

abbrev st_at_size : Stmt := topS 14
def N_at_size : List Str := ["row", "size"]
theorem sc_at_size : FnScope N_at_size ["row", "size"] (defScope st_at_size) := ⟨rfl, rfl, rfl, by decide +kernel, rfl, by decide +kernel, by decide +kernel⟩
theorem w_at_size (m_len : mg "len" = none) (m_list : mg "list" = none) : BodyJ P w K mg base W 0 N_at_size "at_size" st_at_size b_rows_at_size := by
  intro f cdv A outer s H E F0 hr
  have nd : N_at_size.Nodup := by decide +kernel
  have tk := takes_of (X := XOf P w K mg base N_at_size "at_size" (defScope st_at_size) f cdv A outer s H E) rfl rfl rfl rfl
  have hp := passes_of (X := XOf P w K mg base N_at_size "at_size" (defScope st_at_size) f cdv A outer s H E) rfl
  exact (jls_of (jss_one (js_ret ((j_bind okd_add ((j_callTy ca_list m_list (by decide +kernel) (ja_cons ncl_w ((j_var 0)).sw ja_nil))).fd ((j_bind okd_mul ((j_lst (ja_cons ncl_s (j_int).sf ja_nil))).fd ((j_bin ok_sub ((j_var 1)).sw ((j_callB ca_len m_len (by decide +kernel) (ja_cons ncl_w ((j_var 0)).sw ja_nil))).fw)).fd)).fd)).fr)))

abbrev st_plus_rows : Stmt := topS 15
def N_plus_rows : List Str := ["one", "other", "size", "left", "right"]
theorem sc_plus_rows : FnScope N_plus_rows ["one", "other"] (defScope st_plus_rows) := ⟨rfl, rfl, rfl, by decide +kernel, rfl, by decide +kernel, by decide +kernel⟩
theorem w_plus_rows (m_len : mg "len" = none) (m_max : mg "max" = none) (m_zip : mg "zip" = none) (h_at_size : FD P w K mg base W 1 "at_size" [] s_rows_at_size) (h_row_of : FD P w K mg base W 1 "row_of" [] s_rows_row_of) : BodyJ P w K mg base W 1 N_plus_rows "plus" st_plus_rows b_rows_plus := by
  intro f cdv A outer s H E F0 hr
  have nd : N_plus_rows.Nodup := by decide +kernel
  have tk := takes_of (X := XOf P w K mg base N_plus_rows "plus" (defScope st_plus_rows) f cdv A outer s H E) rfl rfl rfl rfl
  have hp := passes_of (X := XOf P w K mg base N_plus_rows "plus" (defScope st_plus_rows) f cdv A outer s H E) rfl
  exact (jls_of (jss_cons (js_set 2 nd ((j_callB (ca_max rfl) m_max (by decide +kernel) (ja_cons ncl_w ((j_callB ca_len m_len (by decide +kernel) (ja_cons ncl_w ((j_var 0)).sw ja_nil))).fw (ja_cons ncl_w ((j_callB ca_len m_len (by decide +kernel) (ja_cons ncl_w ((j_var 1)).sw ja_nil))).fw ja_nil)))).sf)
    (jss_one (js_ret ((j_call h_row_of (hr.mono (by decide)) tk (by rfl) (ja_cons ncl_w ((j_lc rfl nd (own := [("left", 3), ("right", 4)]) (ws := [3, 4]) (JI.weak (ji_zip ((j_call h_at_size (hr.mono (by decide)) tk (by rfl) (ja_cons ncl_w ((j_var 0)).sw (ja_cons ncl_w ((j_var 2)).sw ja_nil)))).sf ((j_call h_at_size (hr.mono (by decide)) tk (by rfl) (ja_cons ncl_w ((j_var 1)).sw (ja_cons ncl_w ((j_var 2)).sw ja_nil)))).sf m_zip)) (blkOk_by (N := N_plus_rows) (sc := defScope st_plus_rows) (by decide +kernel)) (fun _ _ _ _ _ => (jg_tup rfl (jgs_cons (jg_name 3 nd) (jgs_cons (jg_name 4 nd) jgs_nil)))) (fun _ _ _ _ _ => jts_nil) (fun _ _ _ _ _ => ((j_bind okd_add ((j_var 3)).sd ((j_var 4)).sd)).sf) (by decide))).fw ja_nil))).fr))))

abbrev st_scaled : Stmt := topS 17
def N_scaled : List Str := ["row", "number", "one"]
theorem sc_scaled : FnScope N_scaled ["row", "number"] (defScope st_scaled) := ⟨rfl, rfl, rfl, by decide +kernel, rfl, by decide +kernel, by decide +kernel⟩
theorem w_scaled (h_row_of : FD P w K mg base W 1 "row_of" [] s_rows_row_of) : BodyJ P w K mg base W 1 N_scaled "scaled" st_scaled b_rows_scaled := by
  intro f cdv A outer s H E F0 hr
  have nd : N_scaled.Nodup := by decide +kernel
  have tk := takes_of (X := XOf P w K mg base N_scaled "scaled" (defScope st_scaled) f cdv A outer s H E) rfl rfl rfl rfl
  have hp := passes_of (X := XOf P w K mg base N_scaled "scaled" (defScope st_scaled) f cdv A outer s H E) rfl
  exact (jls_of (jss_one (js_ret ((j_call h_row_of (hr.mono (by decide)) tk (by rfl) (ja_cons ncl_w ((j_lc rfl nd (own := [("one", 2)]) (ws := [2]) (JI.weak (ji_seq (j_var 0))) (blkOk_by (N := N_scaled) (sc := defScope st_scaled) (by decide +kernel)) (fun _ _ _ _ _ => (jg_name 2 nd)) (fun _ _ _ _ _ => jts_nil) (fun _ _ _ _ _ => ((j_bind okd_mul ((j_var 1)).sd ((j_var 2)).sd)).sf) (by decide))).fw ja_nil))).fr)))

abbrev st_plus_polys : Stmt := topS 23
def N_plus_polys : List Str := ["one", "other"]
theorem sc_plus_polys : FnScope N_plus_polys ["one", "other"] (defScope st_plus_polys) := ⟨rfl, rfl, rfl, by decide +kernel, rfl, by decide +kernel, by decide +kernel⟩
theorem w_plus_polys (h_plus_rows : FD P w K mg base W 2 "plus_rows" [] s_rows_plus) (h_poly : FD P w K mg base W 3 "poly" [] s_polys_poly) (h_scaled : FD P w K mg base W 2 "scaled" [] s_rows_scaled) : BodyJ P w K mg base W 3 N_plus_polys "plus" st_plus_polys b_polys_plus := by
  intro f cdv A outer s H E F0 hr
  have nd : N_plus_polys.Nodup := by decide +kernel
  have tk := takes_of (X := XOf P w K mg base N_plus_polys "plus" (defScope st_plus_polys) f cdv A outer s H E) rfl rfl rfl rfl
  have hp := passes_of (X := XOf P w K mg base N_plus_polys "plus" (defScope st_plus_polys) f cdv A outer s H E) rfl
  exact (jls_of (jss_one (js_ret ((j_call h_poly (hr.mono (by decide)) tk (by rfl) (ja_cons ncl_w ((j_call h_plus_rows (hr.mono (by decide)) tk (by rfl) (ja_cons ncl_w ((j_call h_scaled (hr.mono (by decide)) tk (by rfl) (ja_cons ncl_w ((j_ix (j_var 0) (j_int).fw)).sw (ja_cons ncl_w ((j_ix (j_var 1) (j_int).fw)).sw ja_nil)))).fw (ja_cons ncl_w ((j_call h_scaled (hr.mono (by decide)) tk (by rfl) (ja_cons ncl_w ((j_ix (j_var 1) (j_int).fw)).sw (ja_cons ncl_w ((j_ix (j_var 0) (j_int).fw)).sw ja_nil)))).fw ja_nil)))).fw (ja_cons ncl_w ((j_bind okd_mul ((j_ix (j_var 0) (j_int).fw)).sd ((j_ix (j_var 1) (j_int).fw)).sd)).fw ja_nil)))).fr)))

abbrev st_Source_whole : Stmt := clsS 32 6
def N_Source_whole : List Str := ["self", "found", "side", "is_over", "row", "below"]
theorem sc_Source_whole : FnScope N_Source_whole ["self"] (defScope st_Source_whole) := ⟨rfl, rfl, rfl, by decide +kernel, rfl, by decide +kernel, by decide +kernel⟩
theorem w_Source_whole {Cl : Addr} (c_NOUGHT : Cst K mg "NOUGHT" (.tup [(.tup []), (.int 1)])) (x_BadText : ExcF K mg "BadText") (cl_Source : Cls K Cl) (hm_Source_here : FM P w K mg base (WdO K Cl W) 1 Cl "here" s_reading_Source_here) (hm_Source_takes : FM P w K mg base (WdO K Cl W) 2 Cl "takes" s_reading_Source_takes) (hm_Source_term : FM P w K mg base (WdO K Cl W) 4 Cl "term" s_reading_Source_term) (h_plus_polys : FD P w K mg base (WdO K Cl W) 4 "plus_polys" [] s_polys_plus) (h_poly : FD P w K mg base (WdO K Cl W) 3 "poly" [] s_polys_poly) : BodyJ P w K mg base (WdO K Cl W) 4 N_Source_whole "Source.whole" st_Source_whole b_reading_Source_whole := by
  intro f cdv A outer s H E F0 hr
  have nd : N_Source_whole.Nodup := by decide +kernel
  have tk := takes_of (X := XOf P w K mg base N_Source_whole "Source.whole" (defScope st_Source_whole) f cdv A outer s H E) rfl rfl rfl rfl
  have hp := passes_of (X := XOf P w K mg base N_Source_whole "Source.whole" (defScope st_Source_whole) f cdv A outer s H E) rfl
  exact (jls_of (jss_cons (js_set 1 nd ((j_glob (by rfl) c_NOUGHT)).sf)
    (jss_cons (js_set 2 nd ((j_if (jt_val ((j_meth 0 cl_Source hm_Source_takes (hr.mono (by decide)) tk (ja_cons ncl_w (j_str).fw ja_nil))).fw) (j_neg (j_int).fw) j_int)).sf)
    (jss_cons (js_if (jt_cmp (ok_eq hr.units) ((j_var 2)).sw (j_int).fw)
      (jss_one (js_expr ((j_meth 0 cl_Source hm_Source_takes (hr.mono (by decide)) tk (ja_cons ncl_w (j_str).fw ja_nil))).sf))
      jss_nil)
    (jss_cons (js_set 3 nd (j_bl).sf)
    (jss_cons (js_while hp (jt_not (jt_val ((j_var 3)).sw))
      (jss_cons (js_asg ((j_meth0 0 cl_Source hm_Source_term (hr.mono (by decide)) tk)).sf (jg_tup rfl (jgs_cons (jg_name 4 nd) (jgs_cons (jg_name 5 nd) jgs_nil))))
    (jss_cons (js_set 1 nd ((j_call h_plus_polys (hr.mono (by decide)) tk (by rfl) (ja_cons ncl_w ((j_var 1)).sw (ja_cons ncl_w ((j_call h_poly (hr.mono (by decide)) tk (by rfl) (ja_cons ncl_w ((j_var 4)).sw (ja_cons ncl_w ((j_bind okd_mul ((j_var 2)).sd ((j_var 5)).sd)).fw ja_nil)))).fw ja_nil)))).sf)
    (jss_cons (js_set 2 nd ((j_if (jt_cmp (ok_eq hr.units) ((j_meth0 0 cl_Source hm_Source_here (hr.mono (by decide)) tk)).fw (j_str).fw) (j_neg (j_int).fw) j_int)).sf)
    (jss_one (js_set 3 nd ((j_and (j_not (j_meth 0 cl_Source hm_Source_takes (hr.mono (by decide)) tk (ja_cons ncl_w (j_str).fw ja_nil))) (j_one (j_not (j_meth 0 cl_Source hm_Source_takes (hr.mono (by decide)) tk (ja_cons ncl_w (j_str).fw ja_nil)))))).sf))))))
    (jss_cons (js_if (jt_cmp (ok_ne hr.units) ((j_meth0 0 cl_Source hm_Source_here (hr.mono (by decide)) tk)).fw (j_str).fw)
      (jss_one (js_raise rfl tk x_BadText))
      jss_nil)
    (jss_one (js_ret ((j_var 1)).sr)))))))))

abbrev st_words_of : Stmt := topS 30
def N_words_of : List Str := ["text", "found", "is_joined", "sign"]
theorem sc_words_of : FnScope N_words_of ["text"] (defScope st_words_of) := ⟨rfl, rfl, rfl, by decide +kernel, rfl, by decide +kernel, by decide +kernel⟩
theorem w_words_of (c_FIGURES : Cst K mg "FIGURES" (.str "0123456789")) (c_SIGNS : Cst K mg "SIGNS" (.str "+-*/^x")) : BodyJ P w K mg base W 0 N_words_of "words_of" st_words_of b_reading_words_of := by
  intro f cdv A outer s H E F0 hr
  have nd : N_words_of.Nodup := by decide +kernel
  have tk := takes_of (X := XOf P w K mg base N_words_of "words_of" (defScope st_words_of) f cdv A outer s H E) rfl rfl rfl rfl
  have hp := passes_of (X := XOf P w K mg base N_words_of "words_of" (defScope st_words_of) f cdv A outer s H E) rfl
  exact (jls_of (jss_cons (js_setO 1 nd (j_lst ja_nil))
    (jss_cons (js_set 2 nd (j_bl).sf)
    (jss_cons (js_for hp rfl (ji_signs (st := true) (j_bor 0)) (jg_name 3 nd)
      (jss_cons (js_if (JW.t (jw_and (jt_cmp ok_inS ((j_var 3)).sw ((j_glob (by rfl) c_FIGURES)).fw (by rfl)) (jw_and1 (jt_val ((j_var 2)).sw))))
      (jss_one (js_seti 1 ((j_bind okd_add ((j_ixw (j_own 1) ((j_neg (j_int).fw)).fw)).sd ((j_var 3)).sd)).sf ((j_neg (j_int).fw)).fw))
      (jss_one (js_if (JW.t (jw_or (jt_cmp ok_inS ((j_var 3)).sw ((j_glob (by rfl) c_FIGURES)).fw (by rfl)) (jw_or1 (jt_cmp ok_inS ((j_var 3)).sw ((j_glob (by rfl) c_SIGNS)).fw (by rfl)))))
      (jss_one (js_append 1 (j_var 3)))
      (jss_one (js_if (jt_cmp (ok_ne hr.units) ((j_var 3)).sw (j_str).fw)
      (jss_one (js_ret (j_non).fr))
      jss_nil)))))
    (jss_one (js_set 2 nd ((j_cmp ok_inS ((j_var 3)).sw ((j_glob (by rfl) c_FIGURES)).fw (by rfl))).sf))))
    (jss_one (js_ret (j_ownr 1)))))))

abbrev st_read : Stmt := topS 33
def N_read : List Str := ["text", "words"]
theorem sc_read : FnScope N_read ["text"] (defScope st_read) := ⟨rfl, rfl, rfl, by decide +kernel, rfl, by decide +kernel, by decide +kernel⟩
theorem w_read {Cl : Addr} (m_isinstance : mg "isinstance" = none) (m_len : mg "len" = none) (m_str : mg "str" = none) (c_MOST_SIGNS : Cst K mg "MOST_SIGNS" (.int 2000)) (x_BadText : ExcF K mg "BadText") (cl_Source : Cls K Cl) (gm_Source : mg "Source" = some (.ref Cl)) (hm_Source___init__ : FM P w K mg base (WdO K Cl W) 1 Cl "__init__" s_reading_Source___init__) (hm_Source_whole : FM P w K mg base (WdO K Cl W) 5 Cl "whole" s_reading_Source_whole) (mk_Source : MkC K Cl) (h_words_of : FD P w K mg base W 1 "words_of" [] s_reading_words_of) : BodyJ P w K mg base W 5 N_read "read" st_read b_reading_read := by
  intro f cdv A outer s H E F0 hr
  have nd : N_read.Nodup := by decide +kernel
  have tk := takes_of (X := XOf P w K mg base N_read "read" (defScope st_read) f cdv A outer s H E) rfl rfl rfl rfl
  have hp := passes_of (X := XOf P w K mg base N_read "read" (defScope st_read) f cdv A outer s H E) rfl
  exact (jls_of (jss_cons (js_if (JW.t (jw_or (jt_not (jt_val ((j_isi isi_str (j_bor 0) m_isinstance m_str (by decide +kernel))).fw)) (jw_or1 (jt_cmp ok_gt ((j_callB ca_len m_len (by decide +kernel) (ja_cons ncl_w (j_bor 0) ja_nil))).fw ((j_glob (by rfl) c_MOST_SIGNS)).fw))))
      (jss_one (js_raise rfl tk x_BadText))
      jss_nil)
    (jss_cons (js_setM 1 nd (j_call h_words_of (hr.mono (by decide)) tk (by rfl) (ja_cons ncl_w (j_bor 0) ja_nil)))
    (jss_cons (js_if (jt_cmp ok_isN (j_any 1) (j_non).fw)
      (jss_one (js_raise rfl tk x_BadText))
      jss_nil)
    (jss_one (js_retX (jx_ask "words" 1 mk_Source gm_Source hm_Source___init__ hm_Source_whole cl_Source (hr.mono (by decide)) (hr.mono (by decide)) tk)))))))

abbrev st__law_refused : Stmt := topS 39
def N__law_refused : List Str := ["_law_text", "_law_refused_here", "error", "_law_others"]
theorem sc__law_refused : FnScope N__law_refused ["_law_text"] (defScope st__law_refused) := ⟨rfl, rfl, rfl, by decide +kernel, rfl, by decide +kernel, by decide +kernel⟩
theorem w__law_refused (m_isinstance : mg "isinstance" = none) (i_BadText_BadPrime : IsF K mg "BadText" "BadPrime" false) (i_BadText_BadRow : IsF K mg "BadText" "BadRow" false) (i_BadText_BadText : IsF K mg "BadText" "BadText" true) (i_BadText_ByNought : IsF K mg "BadText" "ByNought" false) (i_BadText_NoName : IsF K mg "BadText" "NoName" false) (i_BadText_NoRoot : IsF K mg "BadText" "NoRoot" false) (i_BadText_NotReal : IsF K mg "BadText" "NotReal" false) (i_BadText_TooGreat : IsF K mg "BadText" "TooGreat" false) (i_BadText_ValueError : IsF K mg "BadText" "ValueError" true) (r_BadText_RootError : ErrF K mg "BadText" "RootError") (h_read : FD P w K mg base W 6 "read" [] s_reading_read) : BodyJ P w K mg base W 6 N__law_refused "_law_refused" st__law_refused b__law_refused_k08 := by
  intro f cdv A outer s H E F0 hr
  have nd : N__law_refused.Nodup := by decide +kernel
  have tk := takes_of (X := XOf P w K mg base N__law_refused "_law_refused" (defScope st__law_refused) f cdv A outer s H E) rfl rfl rfl rfl
  have hp := passes_of (X := XOf P w K mg base N__law_refused "_law_refused" (defScope st__law_refused) f cdv A outer s H E) rfl
  exact (jls_of (jss_cons (js_set 1 nd (j_non).sf)
    (jss_cons (js_try 2 1 (xs := ["BadText"]) nd (err_cons r_BadText_RootError err_nil) (by decide) (fun W2 pn2 xe2 tk2 => (je_expr ((j_call h_read (hr.mono (by decide)) tk2 (by rfl) (ja_cons ncl_w (j_bor 0) ja_nil))).sf)))
    (jss_cons (js_if (jt_cmp ok_isN ((j_var 1)).sw (j_non).fw)
      (jss_one (js_ret (j_bl).fr))
      jss_nil)
    (jss_cons (js_setO 3 nd (j_lst (ja_cons ncl_s ((j_isE (bs := [("BadText", false)]) (isf_cons i_BadText_BadRow isf_nil) (by decide) ((j_var 1)).sw m_isinstance)).sf (ja_cons ncl_s ((j_isE (bs := [("BadText", false)]) (isf_cons i_BadText_ByNought isf_nil) (by decide) ((j_var 1)).sw m_isinstance)).sf (ja_cons ncl_s ((j_isE (bs := [("BadText", false)]) (isf_cons i_BadText_BadPrime isf_nil) (by decide) ((j_var 1)).sw m_isinstance)).sf ja_nil)))))
    (jss_cons (js_setO 3 nd (j_bind okd_add (jd_own 3) ((j_lst (ja_cons ncl_s ((j_isE (bs := [("BadText", false)]) (isf_cons i_BadText_TooGreat isf_nil) (by decide) ((j_var 1)).sw m_isinstance)).sf (ja_cons ncl_s ((j_isE (bs := [("BadText", false)]) (isf_cons i_BadText_NoName isf_nil) (by decide) ((j_var 1)).sw m_isinstance)).sf (ja_cons ncl_s ((j_isE (bs := [("BadText", false)]) (isf_cons i_BadText_NoRoot isf_nil) (by decide) ((j_var 1)).sw m_isinstance)).sf ja_nil))))).fd))
    (jss_cons (js_append 3 ((j_isE (bs := [("BadText", false)]) (isf_cons i_BadText_NotReal isf_nil) (by decide) ((j_var 1)).sw m_isinstance)).sf)
    (jss_one (js_ret ((j_and (j_isE (bs := [("BadText", true)]) (isf_cons i_BadText_BadText isf_nil) (by decide) ((j_var 1)).sw m_isinstance) (j_and (j_isE (bs := [("BadText", true)]) (isf_cons i_BadText_ValueError isf_nil) (by decide) ((j_var 1)).sw m_isinstance) (j_one (j_cmp (ok_nin hr.u65) (j_bl).fw (j_own 3) (by rfl)))))).fr)))))))))

abbrev st__law_mixed : Stmt := topS 35
def N__law_mixed : List Str := ["_law_cell", "_law_k", "_law_number"]
theorem sc__law_mixed : FnScope N__law_mixed ["_law_cell", "_law_k"] (defScope st__law_mixed) := ⟨rfl, rfl, rfl, by decide +kernel, rfl, by decide +kernel, by decide +kernel⟩
theorem w__law_mixed  : BodyJ P w K mg base W 0 N__law_mixed "_law_mixed" st__law_mixed b__law_mixed := by
  intro f cdv A outer s H E F0 hr
  have nd : N__law_mixed.Nodup := by decide +kernel
  have tk := takes_of (X := XOf P w K mg base N__law_mixed "_law_mixed" (defScope st__law_mixed) f cdv A outer s H E) rfl rfl rfl rfl
  have hp := passes_of (X := XOf P w K mg base N__law_mixed "_law_mixed" (defScope st__law_mixed) f cdv A outer s H E) rfl
  exact (jls_of (jss_cons (js_set 2 nd ((j_bind okd_add ((j_bind okd_add ((j_bin ok_mod ((j_bind okd_mul ((j_bind okd_mul ((j_var 0)).sd ((j_bind okd_add (j_int).fd ((j_bind okd_mul (j_int).fd ((j_var 1)).sd)).fd)).fd)).fd (j_int).fd)).fw (j_int).fw)).fd ((j_bind okd_mul ((j_bind okd_mul (j_int).fd ((j_var 1)).sd)).fd ((j_var 1)).sd)).fd)).fd ((j_bind okd_mul (j_int).fd ((j_var 1)).sd)).fd)).sf)
    (jss_one (js_ret ((j_bin ok_fdiv ((j_bin ok_mod ((j_bind okd_mul ((j_var 2)).sd (j_int).fd)).fw (j_int).fw)).fw (j_int).fw)).fr))))

abbrev st__law_odd : Stmt := topS 40
def N__law_odd : List Str := ["_law_m", "_law_some"]
theorem sc__law_odd : FnScope N__law_odd ["_law_m"] (defScope st__law_odd) := ⟨rfl, rfl, rfl, by decide +kernel, rfl, by decide +kernel, by decide +kernel⟩
theorem w__law_odd (h__law_draw : FD P w K mg base DrW 2 "_law_draw" [] s__law_draw) : BodyJ P w K mg base DrW 2 N__law_odd "_law_odd" st__law_odd b__law_odd_k08 := by
  intro f cdv A outer s H E F0 hr
  have nd : N__law_odd.Nodup := by decide +kernel
  have tk := takes_of (X := XOf P w K mg base N__law_odd "_law_odd" (defScope st__law_odd) f cdv A outer s H E) rfl rfl rfl rfl
  have hp := passes_of (X := XOf P w K mg base N__law_odd "_law_odd" (defScope st__law_odd) f cdv A outer s H E) rfl
  exact (jls_of (jss_cons (js_set 1 nd ((j_lst (ja_cons ncl_s (j_str).sf (ja_cons ncl_s (j_str).sf (ja_cons ncl_s (j_str).sf (ja_cons ncl_s (j_str).sf (ja_cons ncl_s (j_str).sf (ja_cons ncl_s (j_str).sf (ja_cons ncl_s (j_str).sf (ja_cons ncl_s (j_str).sf (ja_cons ncl_s (j_str).sf (ja_cons ncl_s (j_str).sf (ja_cons ncl_s (j_str).sf (ja_cons ncl_s (j_str).sf (ja_cons ncl_s (j_str).sf (ja_cons ncl_s (j_str).sf (ja_cons ncl_s (j_str).sf ja_nil))))))))))))))))).sf)
    (jss_cons (js_set 1 nd ((j_addS (j_var 1) ((j_lst (ja_cons ncl_s (j_str).sf (ja_cons ncl_s (j_str).sf (ja_cons ncl_s (j_str).sf (ja_cons ncl_s (j_str).sf (ja_cons ncl_s (j_str).sf (ja_cons ncl_s (j_str).sf (ja_cons ncl_s (j_str).sf (ja_cons ncl_s (j_str).sf (ja_cons ncl_s (j_str).sf (ja_cons ncl_s (j_str).sf (ja_cons ncl_s (j_str).sf (ja_cons ncl_s (j_str).sf (ja_cons ncl_s (j_str).sf (ja_cons ncl_s (j_str).sf (ja_cons ncl_s (j_str).sf ja_nil))))))))))))))))).sf)).sf)
    (jss_cons (js_set 1 nd ((j_addS (j_var 1) ((j_lst (ja_cons ncl_s (j_str).sf (ja_cons ncl_s (j_str).sf (ja_cons ncl_s (j_str).sf (ja_cons ncl_s (j_str).sf (ja_cons ncl_s (j_str).sf (ja_cons ncl_s (j_str).sf (ja_cons ncl_s (j_str).sf (ja_cons ncl_s (j_str).sf (ja_cons ncl_s (j_str).sf (ja_cons ncl_s (j_str).sf (ja_cons ncl_s (j_str).sf (ja_cons ncl_s (j_str).sf (ja_cons ncl_s (j_str).sf ja_nil))))))))))))))).sf)).sf)
    (jss_one (js_ret ((j_ix ((j_addS (j_var 1) ((j_lst (ja_cons ncl_s (j_str).sf (ja_cons ncl_s (j_str).sf (ja_cons ncl_s (j_str).sf (ja_cons ncl_s (j_str).sf (ja_cons ncl_s (j_str).sf (ja_cons ncl_s (j_str).sf (ja_cons ncl_s (j_str).sf ja_nil))))))))).sf)).sf ((j_call h__law_draw (hr.mono (by decide)) tk (by rfl) (ja_cons ncl_w ((j_var 0)).sw (ja_cons ncl_w (j_int).fw ja_nil)))).fw)).sr))))))

abbrev st__law_good : Stmt := topS 41
def N__law_good : List Str := ["_law_m", "_law_some"]
theorem sc__law_good : FnScope N__law_good ["_law_m"] (defScope st__law_good) := ⟨rfl, rfl, rfl, by decide +kernel, rfl, by decide +kernel, by decide +kernel⟩
theorem w__law_good (h__law_draw : FD P w K mg base DrW 2 "_law_draw" [] s__law_draw) : BodyJ P w K mg base DrW 2 N__law_good "_law_good" st__law_good b__law_good := by
  intro f cdv A outer s H E F0 hr
  have nd : N__law_good.Nodup := by decide +kernel
  have tk := takes_of (X := XOf P w K mg base N__law_good "_law_good" (defScope st__law_good) f cdv A outer s H E) rfl rfl rfl rfl
  have hp := passes_of (X := XOf P w K mg base N__law_good "_law_good" (defScope st__law_good) f cdv A outer s H E) rfl
  exact (jls_of (jss_cons (js_set 1 nd ((j_lst (ja_cons ncl_s (j_str).sf (ja_cons ncl_s (j_str).sf (ja_cons ncl_s (j_str).sf (ja_cons ncl_s (j_str).sf (ja_cons ncl_s (j_str).sf (ja_cons ncl_s (j_str).sf (ja_cons ncl_s (j_str).sf (ja_cons ncl_s (j_str).sf (ja_cons ncl_s (j_str).sf (ja_cons ncl_s (j_str).sf ja_nil)))))))))))).sf)
    (jss_one (js_ret ((j_ix (j_var 1) ((j_call h__law_draw (hr.mono (by decide)) tk (by rfl) (ja_cons ncl_w ((j_var 0)).sw (ja_cons ncl_w (j_int).fw ja_nil)))).fw)).sr))))

abbrev st_law : Stmt := topS 42
def N_law : List Str := ["_law_script", "_law_m", "_law_k", "_law_odd_here", "_law_good_here", "_law_texts", "_law_text"]
theorem sc_law : FnScope N_law ["_law_script"] (defScope st_law) := ⟨rfl, rfl, rfl, by decide +kernel, rfl, by decide +kernel, by decide +kernel⟩
theorem w_law (m_int : mg "int" = none) (m_isinstance : mg "isinstance" = none) (m_len : mg "len" = none) (m_min : mg "min" = none) (m_range : mg "range" = none) (m_tuple : mg "tuple" = none) (i_dig : PySem.W.nsIn K cStatics "sys.int_max_str_digits" = some none) (h__law_begun : FD P w K mg base DrW 2 "_law_begun" [] s__law_begun) (h__law_draw : FD P w K mg base DrW 2 "_law_draw" [] s__law_draw) (h__law_good : FD P w K mg base DrW 3 "_law_good" [] s__law_good) (h__law_odd : FD P w K mg base DrW 3 "_law_odd" [] s__law_odd_k08) (h__law_refused : FD P w K mg base DrW 7 "_law_refused" [] s__law_refused_k08) (h_read : FD P w K mg base DrW 6 "read" [] s_reading_read) : BodyJ P w K mg base DrW 7 N_law "law" st_law b_law := by
  intro f cdv A outer s H E F0 hr
  have nd : N_law.Nodup := by decide +kernel
  have tk := takes_of (X := XOf P w K mg base N_law "law" (defScope st_law) f cdv A outer s H E) rfl rfl rfl rfl
  have hp := passes_of (X := XOf P w K mg base N_law "law" (defScope st_law) f cdv A outer s H E) rfl
  exact (jls_of (jss_cons (js_set 1 nd ((j_call h__law_begun (hr.mono (by decide)) tk (by rfl) (ja_cons ncl_w (j_bor 0) ja_nil))).sf)
    (jss_cons (js_for hp rfl (ji_range1 (st := true) m_range (ja_cons ncl_w ((j_bind okd_add (j_int).fd ((j_callB (ca_min rfl) m_min (by decide +kernel) (ja_cons ncl_w (j_int).fw (ja_cons ncl_w ((j_callB ca_len m_len (by decide +kernel) (ja_cons ncl_w (j_bor 0) ja_nil))).fw ja_nil)))).fd)).fw ja_nil)) (jg_name 2 nd)
      (jss_cons (js_par 3 4 rfl nd (ja_cons ncl_s ((j_call h__law_odd (hr.mono (by decide)) tk (by rfl) (ja_cons ncl_w ((j_var 1)).sw ja_nil))).sf (ja_cons ncl_s ((j_call h__law_good (hr.mono (by decide)) tk (by rfl) (ja_cons ncl_w ((j_var 1)).sw ja_nil))).sf ja_nil)))
    (jss_cons (js_set 5 nd ((j_lst (ja_cons ncl_s (j_var 3) (ja_cons ncl_s ((j_bind okd_add ((j_bind okd_add ((j_var 4)).sd (j_str).fd)).fd ((j_var 3)).sd)).sf (ja_cons ncl_s ((j_bind okd_add ((j_bind okd_add ((j_var 4)).sd (j_str).fd)).fd ((j_var 3)).sd)).sf ja_nil))))).sf)
    (jss_cons (js_if (jt_cmp (ok_ne hr.units) ((j_stripC ((j_var 3)).sw (j_str).fw)).fw (j_str).fw)
      (jss_one (js_set 5 nd ((j_bind okd_add ((j_var 5)).sd ((j_lst (ja_cons ncl_s ((j_bind okd_add ((j_bind okd_add ((j_var 3)).sd (j_str).fd)).fd ((j_var 4)).sd)).sf (ja_cons ncl_s ((j_bind okd_add ((j_bind okd_add ((j_var 3)).sd (j_str).fd)).fd ((j_var 4)).sd)).sf ja_nil)))).fd)).sf))
      jss_nil)
    (jss_cons (js_set 6 nd (j_ix (j_var 5) ((j_call h__law_draw (hr.mono (by decide)) tk (by rfl) (ja_cons ncl_w ((j_var 1)).sw (ja_cons ncl_w ((j_callB ca_len m_len (by decide +kernel) (ja_cons ncl_w ((j_var 5)).sw ja_nil))).fw ja_nil)))).fw))
    (jss_cons (js_if (JW.t (jw_or (jt_not (jt_val ((j_call h__law_refused (hr.mono (by decide)) tk (by rfl) (ja_cons ncl_w ((j_var 6)).sw ja_nil))).fw)) (jw_or1 (jt_not (jt_val ((j_isi isi_tuple ((j_call h_read (hr.mono (by decide)) tk (by rfl) (ja_cons ncl_w ((j_var 4)).sw ja_nil))).fw m_isinstance m_tuple (by decide +kernel))).fw)))))
      (jss_one (js_ret (j_bl).fr))
      jss_nil)
    (jss_one (js_if (jt_not (jt_val ((j_call h__law_refused (hr.mono (by decide)) tk (by rfl) (ja_cons ncl_w ((j_ix ((j_lst (ja_cons ncl_s (j_non).sf (ja_cons ncl_s (j_int).sf (ja_cons ncl_s (j_bl).sf (ja_cons ncl_s ((j_lst (ja_cons ncl_s (j_str).sf ja_nil))).sf (ja_cons ncl_s (j_dic).sf (ja_cons ncl_s ((j_tup (ja_cons ncl_s (j_str).sf ja_nil))).sf ja_nil)))))))).sf ((j_call h__law_draw (hr.mono (by decide)) tk (by rfl) (ja_cons ncl_w ((j_var 1)).sw (ja_cons ncl_w (j_int).fw ja_nil)))).fw)).sw ja_nil))).fw))
      (jss_one (js_ret (j_bl).fr))
      jss_nil))))))))
    (jss_cons (js_if (JW.t (jw_or (jt_cmp (ok_ne hr.units) ((j_call h_read (hr.mono (by decide)) tk (by rfl) (ja_cons ncl_w ((j_bind okd_add ((j_bind okd_mulT (j_str).fd (j_int).fd)).fd (j_str).fd)).fw ja_nil))).fw ((j_tup (ja_cons ncl_s ((j_tup (ja_cons ncl_s (j_int).sf (ja_cons ncl_s (j_int).sf ja_nil)))).sf (ja_cons ncl_s (j_int).sf ja_nil)))).fw) (jw_or1 (jt_cmp (ok_ne hr.units) ((j_call h_read (hr.mono (by decide)) tk (by rfl) (ja_cons ncl_w ((j_bind okd_mulT (j_str).fd (j_int).fd)).fw ja_nil))).fw ((j_tup (ja_cons ncl_s ((j_tup (ja_cons ncl_s ((j_callTy (ca_intV i_dig) m_int (by decide +kernel) (ja_cons ncl_w ((j_bind okd_mulT (j_str).fd (j_int).fd)).fw ja_nil))).sf ja_nil))).sf (ja_cons ncl_s (j_int).sf ja_nil)))).fw))))
      (jss_one (js_ret (j_bl).fr))
      jss_nil)
    (jss_cons (js_if (JW.t (jw_or (jt_cmp (ok_ne hr.units) ((j_call h_read (hr.mono (by decide)) tk (by rfl) (ja_cons ncl_w ((j_bind okd_add (j_str).fd ((j_bind okd_mulT (j_str).fd (j_int).fd)).fd)).fw ja_nil))).fw ((j_tup (ja_cons ncl_s ((j_tup (ja_cons ncl_s (j_int).sf ja_nil))).sf (ja_cons ncl_s ((j_callTy (ca_intV i_dig) m_int (by decide +kernel) (ja_cons ncl_w ((j_bind okd_mulT (j_str).fd (j_int).fd)).fw ja_nil))).sf ja_nil)))).fw) (jw_or1 (jt_cmp (ok_ne hr.units) ((j_call h_read (hr.mono (by decide)) tk (by rfl) (ja_cons ncl_w ((j_bind okd_add ((j_bind okd_mulT (j_str).fd (j_int).fd)).fd (j_str).fd)).fw ja_nil))).fw ((j_tup (ja_cons ncl_s ((j_tup (ja_cons ncl_s (j_int).sf (ja_cons ncl_s ((j_neg (j_int).fw)).sf ja_nil)))).sf (ja_cons ncl_s (j_int).sf ja_nil)))).fw))))
      (jss_one (js_ret (j_bl).fr))
      jss_nil)
    (jss_one (js_ret ((j_and (j_cmp (ok_eq hr.units) ((j_call h_read (hr.mono (by decide)) tk (by rfl) (ja_cons ncl_w ((j_bind okd_add (j_str).fd ((j_bind okd_mulT (j_str).fd (j_int).fd)).fd)).fw ja_nil))).fw ((j_tup (ja_cons ncl_s ((j_tup (ja_cons ncl_s (j_int).sf (ja_cons ncl_s (j_int).sf ja_nil)))).sf (ja_cons ncl_s (j_int).sf ja_nil)))).fw) (j_and (j_call h__law_refused (hr.mono (by decide)) tk (by rfl) (ja_cons ncl_w ((j_bind okd_add (j_str).fd ((j_bind okd_mulT (j_str).fd (j_int).fd)).fd)).fw ja_nil)) (j_one (j_call h__law_refused (hr.mono (by decide)) tk (by rfl) (ja_cons ncl_w ((j_bind okd_add ((j_bind okd_mulT (j_str).fd (j_int).fd)).fd (j_str).fd)).fw ja_nil)))))).fr)))))))

abbrev st__law_draw : Stmt := topS 37
theorem sc__law_draw : FnScope N__law_draw ["_law_m", "_law_many"] (defScope st__law_draw) := ⟨rfl, rfl, rfl, by decide +kernel, rfl, by decide +kernel, by decide +kernel⟩
theorem x__law_draw (DF : Dfn K mg "_law_draw" "_law_draw" st__law_draw ["_law_m", "_law_many"]) (hm : FD P w K mg base W0 1 "_law_mixed" [] s__law_mixed) (ml : mg "len" = none) : FD P w K mg base DrW 2 "_law_draw" [] s0__law_draw := by
  obtain ⟨f, fd, F, gf, bf⟩ := DF.ex
  obtain ⟨fm, fdm, psm, dsm, dvs, G, gm, km, bm, hd, hdd⟩ := hm
  have e0 : dvs = [] := List.length_eq_zero_iff.mp (hdd [] (fun _ => none)).length
  subst e0
  have G := hMix_of G
  refine ⟨f, fd, _, [], [], ?_, gf, F.kp, bf, .nil, fun _ _ => .nil⟩
  have S := sc__law_draw
  refine okG F S (fun vs H Q E h => ?_) fun cdv A outer s H vs Q E hr h => ?_
  · obtain ⟨F, m, ds, Qd, Zd, rz, dv, ⟨N, many, rfl, _⟩, _⟩ := h
    exact dv.length
  have hu : (A.deeper (envOfC "_law_draw" (defScope st__law_draw) s.heap.objs.size f cdv)).units + 1 < cLine := by have := hr.units; omega
  have tk := takes_of (X := XOf P w K mg base N__law_draw "_law_draw" (defScope st__law_draw) f cdv A outer s H E) rfl rfl rfl rfl
  refine ⟨_, pss_cons (ps_set (i := 2) S.nd rfl (.inl rfl) (pe_dget hu (pv 0) pe_str (fun _ _ => rfl)))
    (pss_cons (ps_dput hu (pv 0) pe_str (pe_op op_add (pv 2) pe_int) rfl)
    (pss_cons (ps_if (pt_cmpR (op_neD hr.units) (pe_dget hu (pv 0) pe_str (fun _ _ => rfl)) (pe_lst pa_nil) (nomark _))
      (pss_cons (ps_set (i := 3) S.nd rfl (.inl rfl) (pe_op op_modN (pv 2) (pe_callB call_len_seq (by rfl) ml PySem.boot_len (pa_cons (pe_dget hu (pv 0) pe_str (fun _ _ => rfl)) pa_nil))))
      (pss_cons (ps_set (i := 4) S.nd rfl (.inl rfl) (pe_ix ix_list (pe_dget hu (pv 0) pe_str (fun _ _ => rfl)) (pv 3) (fun _ _ => rfl)))
      (pss_one (ps_if (pt_cmpR op_notIn_seq (pv 4) (pe_tup (pa_cons pe_int (pa_cons (pe_un un_neg pe_int) pa_nil))) rfl)
        (pss_cons (ps_asg (pe_op op_fdivA (pv 4) (pv 1)) (pg_sub (pe_dget hu (pv 0) pe_str (fun _ _ => rfl)) (pv 3) set_list (fun _ => rfl)))
        (pss_one (ps_ret (pe_op op_modN (pv 4) (pv 1)))))
        pss_nil))))
      pss_nil)
    (pss_one (ps_ret (pe_op op_modN (pe_callG (E := fun σ cls d H' => E cls d H') (dvs := []) G (hr.mono (by decide)) (by rfl) gm km bm hd (fun σ => passAt tk σ)
      (pa_cons (pe_callG (E := fun σ cls d H' => E cls d H') (dvs := []) G (hr.mono (by decide)) (by rfl) gm km bm hd (fun σ => passAt tk σ)
        (pa_cons (pe_op op_add (pe_ix ix_list (pe_dget hu (pv 0) pe_str (fun _ _ => rfl)) (pe_op op_modN (pv 2) pe_int) (fun _ _ => rfl)) (pe_op op_mulA pe_int (pe_op op_fdivA (pv 2) pe_int))) (pa_cons (pv 2) pa_nil)))
      (pa_cons (pe_op op_add (pv 2) pe_int) pa_nil))) (pv 1)))))), ?_⟩
  exact rd_draw (mg := mg) h
abbrev st__law_begun : Stmt := topS 38
theorem sc__law_begun : FnScope N__law_begun ["_law_script"] (defScope st__law_begun) := ⟨rfl, rfl, rfl, by decide +kernel, rfl, by decide +kernel, by decide +kernel⟩
theorem x__law_begun (DF : Dfn K mg "_law_begun" "_law_begun" st__law_begun ["_law_script"]) (hm : FD P w K mg base W0 1 "_law_folded" [] s__law_folded) : FD P w K mg base DrW 2 "_law_begun" [] s0__law_begun := by
  obtain ⟨f, fd, F, gf, bf⟩ := DF.ex
  obtain ⟨fm, fdm, psm, dsm, dvs, G, gm, km, bm, hd, hdd⟩ := hm
  have e0 : dvs = [] := List.length_eq_zero_iff.mp (hdd [] (fun _ => none)).length
  subst e0
  have G := hFold_of G
  refine ⟨f, fd, _, [], [], ?_, gf, F.kp, bf, .nil, fun _ _ => .nil⟩
  have S := sc__law_begun
  refine okG F S (fun vs H Q E h => ?_) fun cdv A outer s H vs Q E hr h => ?_
  · obtain ⟨F, m, ds, Qd, Zd, rz, dv, ⟨ns, rfl, _⟩, _⟩ := h
    exact dv.length
  have hu : (A.deeper (envOfC "_law_begun" (defScope st__law_begun) s.heap.objs.size f cdv)).units + 1 < cLine := by have := hr.units; omega
  have tk := takes_of (X := XOf P w K mg base N__law_begun "_law_begun" (defScope st__law_begun) f cdv A outer s H E) rfl rfl rfl rfl
  refine ⟨_, pss_cons (ps_set (i := 1) S.nd rfl (.inl rfl) (pe_disp (pps_cons pe_str (pe_callG (E := fun σ cls d H' => E cls d H') (dvs := []) G (hr.mono (by decide)) (by rfl) gm km bm hd (fun σ => passAt tk σ) (pa_cons (pv 0) pa_nil))
      (pps_cons pe_str (pe_lst pa_nil) (pps_cons pe_str pe_int pps_nil))) rfl rfl (by decide) (by decide)))
    (pss_cons (ps_if (PW.pt (pw_and (pt_cmpR (op_neD hr.units) (pv 0) (pe_lst pa_nil) (nomark _)) (pw_and1 (pt_cmpR op_eq (pe_op op_modN (pe_ix ix_list (pv 0) pe_int (fun _ _ => rfl)) pe_int) pe_int (nomark _)))))
      (pss_one (ps_dput hu (pv 1) pe_str (pe_op op_cat (pe_lst (pa_cons (pe_op op_fdivA (pe_ix ix_list (pv 0) pe_int (fun _ _ => rfl)) pe_int) pa_nil)) (pe_slice sl_list (pv 0) (po_some pe_int) po_none)) rfl))
      pss_nil)
    (pss_one (ps_ret (pv 1)))), ?_⟩
  exact rd_begun (mg := mg) h
theorem ok_law {f : Addr} {fd : FuncData} (F : Fun K "law" "law" st_law f fd) (D__law_folded : Dfn K mg "_law_folded" "_law_folded" st__law_folded ["_law_script"]) (D__law_begun : Dfn K mg "_law_begun" "_law_begun" st__law_begun ["_law_script"]) (D_is_number : Dfn K mg "is_number" "is_number" st_is_number ["word"]) (D_common : Dfn K mg "common" "common" st_common ["one", "other"]) (D_content : Dfn K mg "content" "content" st_content ["row"]) (D_poly : DfD K mg "poly" "poly" st_poly ["row", "d"] [1]) (D_row_of : Dfn K mg "row_of" "row_of" st_row_of ["numbers"]) (D_shifted : Dfn K mg "shifted" "shifted" st_shifted ["row", "k"]) (D_at_size : Dfn K mg "at_size" "at_size" st_at_size ["row", "size"]) (D_plus_rows : Dfn K mg "plus_rows" "plus" st_plus_rows ["one", "other"]) (D_scaled : Dfn K mg "scaled" "scaled" st_scaled ["row", "number"]) (D_plus_polys : Dfn K mg "plus_polys" "plus" st_plus_polys ["one", "other"]) (D_words_of : Dfn K mg "words_of" "words_of" st_words_of ["text"]) (D_read : Dfn K mg "read" "read" st_read ["text"]) (D__law_refused : Dfn K mg "_law_refused" "_law_refused" st__law_refused ["_law_text"]) (D__law_mixed : Dfn K mg "_law_mixed" "_law_mixed" st__law_mixed ["_law_cell", "_law_k"]) (D__law_draw : Dfn K mg "_law_draw" "_law_draw" st__law_draw ["_law_m", "_law_many"]) (D__law_odd : Dfn K mg "_law_odd" "_law_odd" st__law_odd ["_law_m"]) (D__law_good : Dfn K mg "_law_good" "_law_good" st__law_good ["_law_m"]) {Cl_Source : Addr} (cl_Source : Cls K Cl_Source) (mk_Source : MkC K Cl_Source) (gm_Source : mg "Source" = some (.ref Cl_Source)) (na_Source_at : NoAttr K Cl_Source "at") (na_Source_words : NoAttr K Cl_Source "words") (D_Source___init__ : DfnM K Cl_Source "__init__" "Source.__init__" st_Source___init__ ["self", "words"]) (D_Source_here : DfnM K Cl_Source "here" "Source.here" st_Source_here ["self"]) (D_Source_takes : DfnM K Cl_Source "takes" "Source.takes" st_Source_takes ["self", "word"]) (D_Source_number : DfnM K Cl_Source "number" "Source.number" st_Source_number ["self"]) (D_Source_letter_power : DfnM K Cl_Source "letter_power" "Source.letter_power" st_Source_letter_power ["self"]) (D_Source_term : DfnM K Cl_Source "term" "Source.term" st_Source_term ["self"]) (D_Source_whole : DfnM K Cl_Source "whole" "Source.whole" st_Source_whole ["self"]) (m_ValueError : mg "ValueError" = none) (m_abs : mg "abs" = none) (m_enumerate : mg "enumerate" = none) (m_int : mg "int" = none) (m_isinstance : mg "isinstance" = none) (m_len : mg "len" = none) (m_list : mg "list" = none) (m_max : mg "max" = none) (m_min : mg "min" = none) (m_range : mg "range" = none) (m_str : mg "str" = none) (m_tuple : mg "tuple" = none) (m_zip : mg "zip" = none) (x_BadText : ExcF K mg "BadText") (x_ByNought : ExcF K mg "ByNought") (c_FIGURES : Cst K mg "FIGURES" (.str "0123456789")) (c_MOST_POWER : Cst K mg "MOST_POWER" (.int 64)) (c_MOST_SIGNS : Cst K mg "MOST_SIGNS" (.int 2000)) (c_NOUGHT : Cst K mg "NOUGHT" (.tup [(.tup []), (.int 1)])) (c_SIGNS : Cst K mg "SIGNS" (.str "+-*/^x")) (i_BadText_BadPrime : IsF K mg "BadText" "BadPrime" false) (i_BadText_BadRow : IsF K mg "BadText" "BadRow" false) (i_BadText_BadText : IsF K mg "BadText" "BadText" true) (i_BadText_ByNought : IsF K mg "BadText" "ByNought" false) (i_BadText_NoName : IsF K mg "BadText" "NoName" false) (i_BadText_NoRoot : IsF K mg "BadText" "NoRoot" false) (i_BadText_NotReal : IsF K mg "BadText" "NotReal" false) (i_BadText_TooGreat : IsF K mg "BadText" "TooGreat" false) (i_BadText_ValueError : IsF K mg "BadText" "ValueError" true) (i_dig : PySem.W.nsIn K cStatics "sys.int_max_str_digits" = some none) (r_BadText_RootError : ErrF K mg "BadText" "RootError") : FnG P w K mg base (L2.CX P w) 8 f fd ["_law_script"] (spLaw K) := by
  have hm_Source___init__ : FM P w K mg base (WdO K Cl_Source DrW) 1 Cl_Source "__init__" s_reading_Source___init__ := D_Source___init__.go [false, false] sc_Source___init__ (w_Source___init__ cl_Source na_Source_at na_Source_words) vc_reading_Source___init__
  have hm_Source_here : FM P w K mg base (WdO K Cl_Source DrW) 1 Cl_Source "here" s_reading_Source_here := D_Source_here.go [false] sc_Source_here (w_Source_here m_len cl_Source na_Source_at na_Source_words) vc_reading_Source_here
  have hm_Source_takes : FM P w K mg base (WdO K Cl_Source DrW) 2 Cl_Source "takes" s_reading_Source_takes := D_Source_takes.go [false, false] sc_Source_takes (w_Source_takes cl_Source hm_Source_here na_Source_at) vc_reading_Source_takes
  have ho_is_number : FD P w K mg base (WdO K Cl_Source DrW) 1 "is_number" [] s_reading_is_number := D_is_number.go [false] sc_is_number (w_is_number c_FIGURES) vc_reading_is_number
  have hm_Source_number : FM P w K mg base (WdO K Cl_Source DrW) 2 Cl_Source "number" s_reading_Source_number := D_Source_number.go [false] sc_Source_number (w_Source_number m_int x_BadText cl_Source hm_Source_here i_dig na_Source_at ho_is_number) vc_reading_Source_number
  have hm_Source_letter_power : FM P w K mg base (WdO K Cl_Source DrW) 3 Cl_Source "letter_power" s_reading_Source_letter_power := D_Source_letter_power.go [false] sc_Source_letter_power (w_Source_letter_power c_MOST_POWER x_BadText cl_Source hm_Source_number hm_Source_takes) vc_reading_Source_letter_power
  have ho_common : FD P w K mg base (WdO K Cl_Source DrW) 1 "common" [] s_numbers_common := D_common.go [false, false] sc_common (w_common m_abs) vc_numbers_common
  have ho_content : FD P w K mg base (WdO K Cl_Source DrW) 2 "content" [] s_rows_content := D_content.go [false] sc_content (w_content ho_common) vc_rows_content
  have ho_poly : FD P w K mg base (WdO K Cl_Source DrW) 3 "poly" [] s_polys_poly := D_poly.go 1 [false, false] sc_poly (w_poly m_tuple x_ByNought ho_common ho_content) vc_polys_poly (fun ds m Q Z h => okK_len (vc_polys_poly ds m Q Z h).1)
  have ho_poly_1 : FD P w K mg base (WdO K Cl_Source DrW) 3 "poly" [.int 1] s_polys_poly := D_poly.go 0 [false, false] sc_poly (w_poly m_tuple x_ByNought ho_common ho_content) vc_polys_poly (fun ds m Q Z h => okK_len (vc_polys_poly ds m Q Z h).1)
  have ho_row_of : FD P w K mg base (WdO K Cl_Source DrW) 1 "row_of" [] s_rows_row_of := D_row_of.go [true] sc_row_of (w_row_of m_len m_tuple) vc_rows_row_of
  have ho_shifted : FD P w K mg base (WdO K Cl_Source DrW) 2 "shifted" [] s_rows_shifted := D_shifted.go [false, false] sc_shifted (w_shifted m_list ho_row_of) vc_rows_shifted
  have hm_Source_term : FM P w K mg base (WdO K Cl_Source DrW) 4 Cl_Source "term" s_reading_Source_term := D_Source_term.go [false] sc_Source_term (w_Source_term x_BadText cl_Source hm_Source_here hm_Source_letter_power hm_Source_number hm_Source_takes ho_poly ho_poly_1 ho_row_of ho_shifted) vc_reading_Source_term
  have ho_at_size : FD P w K mg base (WdO K Cl_Source DrW) 1 "at_size" [] s_rows_at_size := D_at_size.go [false, false] sc_at_size (w_at_size m_len m_list) vc_rows_at_size
  have ho_plus_rows : FD P w K mg base (WdO K Cl_Source DrW) 2 "plus_rows" [] s_rows_plus := D_plus_rows.go [false, false] sc_plus_rows (w_plus_rows m_len m_max m_zip ho_at_size ho_row_of) vc_rows_plus
  have ho_scaled : FD P w K mg base (WdO K Cl_Source DrW) 2 "scaled" [] s_rows_scaled := D_scaled.go [false, false] sc_scaled (w_scaled ho_row_of) vc_rows_scaled
  have ho_plus_polys : FD P w K mg base (WdO K Cl_Source DrW) 4 "plus_polys" [] s_polys_plus := D_plus_polys.go [false, false] sc_plus_polys (w_plus_polys ho_plus_rows ho_poly ho_scaled) vc_polys_plus
  have hm_Source_whole : FM P w K mg base (WdO K Cl_Source DrW) 5 Cl_Source "whole" s_reading_Source_whole := D_Source_whole.go [false] sc_Source_whole (w_Source_whole c_NOUGHT x_BadText cl_Source hm_Source_here hm_Source_takes hm_Source_term ho_plus_polys ho_poly) vc_reading_Source_whole
  have h__law_begun : FD P w K mg base DrW 2 "_law_begun" [] s__law_begun := x__law_begun D__law_begun (D__law_folded.go [true] sc__law_folded (w__law_folded m_enumerate m_range) vc__law_folded)
  have h_is_number : FD P w K mg base DrW 1 "is_number" [] s_reading_is_number := D_is_number.go [false] sc_is_number (w_is_number c_FIGURES) vc_reading_is_number
  have h_common : FD P w K mg base DrW 1 "common" [] s_numbers_common := D_common.go [false, false] sc_common (w_common m_abs) vc_numbers_common
  have h_content : FD P w K mg base DrW 2 "content" [] s_rows_content := D_content.go [false] sc_content (w_content h_common) vc_rows_content
  have h_poly : FD P w K mg base DrW 3 "poly" [] s_polys_poly := D_poly.go 1 [false, false] sc_poly (w_poly m_tuple x_ByNought h_common h_content) vc_polys_poly (fun ds m Q Z h => okK_len (vc_polys_poly ds m Q Z h).1)
  have h_poly_1 : FD P w K mg base DrW 3 "poly" [.int 1] s_polys_poly := D_poly.go 0 [false, false] sc_poly (w_poly m_tuple x_ByNought h_common h_content) vc_polys_poly (fun ds m Q Z h => okK_len (vc_polys_poly ds m Q Z h).1)
  have h_row_of : FD P w K mg base DrW 1 "row_of" [] s_rows_row_of := D_row_of.go [true] sc_row_of (w_row_of m_len m_tuple) vc_rows_row_of
  have h_shifted : FD P w K mg base DrW 2 "shifted" [] s_rows_shifted := D_shifted.go [false, false] sc_shifted (w_shifted m_list h_row_of) vc_rows_shifted
  have h_at_size : FD P w K mg base DrW 1 "at_size" [] s_rows_at_size := D_at_size.go [false, false] sc_at_size (w_at_size m_len m_list) vc_rows_at_size
  have h_plus_rows : FD P w K mg base DrW 2 "plus_rows" [] s_rows_plus := D_plus_rows.go [false, false] sc_plus_rows (w_plus_rows m_len m_max m_zip h_at_size h_row_of) vc_rows_plus
  have h_scaled : FD P w K mg base DrW 2 "scaled" [] s_rows_scaled := D_scaled.go [false, false] sc_scaled (w_scaled h_row_of) vc_rows_scaled
  have h_plus_polys : FD P w K mg base DrW 4 "plus_polys" [] s_polys_plus := D_plus_polys.go [false, false] sc_plus_polys (w_plus_polys h_plus_rows h_poly h_scaled) vc_polys_plus
  have h_words_of : FD P w K mg base DrW 1 "words_of" [] s_reading_words_of := D_words_of.go [true] sc_words_of (w_words_of c_FIGURES c_SIGNS) vc_reading_words_of
  have h_read : FD P w K mg base DrW 6 "read" [] s_reading_read := D_read.go [true] sc_read (w_read m_isinstance m_len m_str c_MOST_SIGNS x_BadText cl_Source gm_Source hm_Source___init__ hm_Source_whole mk_Source h_words_of) vc_reading_read
  have h__law_refused : FD P w K mg base DrW 7 "_law_refused" [] s__law_refused_k08 := D__law_refused.go [true] sc__law_refused (w__law_refused m_isinstance i_BadText_BadPrime i_BadText_BadRow i_BadText_BadText i_BadText_ByNought i_BadText_NoName i_BadText_NoRoot i_BadText_NotReal i_BadText_TooGreat i_BadText_ValueError r_BadText_RootError h_read) vc__law_refused_k08
  have h__law_draw : FD P w K mg base DrW 2 "_law_draw" [] s__law_draw := x__law_draw D__law_draw (D__law_mixed.go [false, false] sc__law_mixed w__law_mixed vc__law_mixed) m_len
  have h__law_odd : FD P w K mg base DrW 3 "_law_odd" [] s__law_odd_k08 := D__law_odd.go [false] sc__law_odd (w__law_odd h__law_draw) vc__law_odd_k08
  have h__law_good : FD P w K mg base DrW 3 "_law_good" [] s__law_good := D__law_good.go [false] sc__law_good (w__law_good h__law_draw) vc__law_good
  exact law_go F sc_law (w_law m_int m_isinstance m_len m_min m_range m_tuple i_dig h__law_begun h__law_draw h__law_good h__law_odd h__law_refused h_read) vc_law
end
theorem r_int (i : Int) (t : Tok) : RelV (.int i) (.int i t) := ⟨t, rfl⟩
theorem r_str (x : Str) (t : Tok) : RelV (.str x) (.str x t) := ⟨t, rfl⟩
theorem r_ref (a : Addr) : RelV (.ref a) (.ref a) := rfl
theorem all_mk {l : PySem.W.OpenLaw} {w : World} {K : PySem.W.Frag} {h : Heap} {mg : Str → Option Value} {fa f0 f1 f2 f3 f4 f5 f6 f7 f8 f9 f10 f11 f12 f13 f14 f15 f16 f17 f18 f19 : Addr} (X : K.In h) (G : h.Ns mainGlobals mg) (hfa : mg "law" = some (.ref fa))
    {od0 an0 od1 an1 od2 an2 od3 an3 od4 an4 od5 an5 od6 an6 od7 an7 od8 an8 od9 an9 od10 an10 od11 an11 od12 an12 od13 an13 od14 an14 od15 an15 od16 an16 od17 an17 od18 an18 od19 an19 : Option Addr} {sl0 sl1 sl2 sl3 sl4 sl5 sl6 sl7 sl8 sl9 sl10 sl11 sl12 sl13 sl14 sl15 sl16 sl17 sl18 sl19 : Array (Option Value)} {oc0 kV0 dc0 pm0 ct0 cd0 oc1 kV1 dc1 pm1 ct1 cd1 oc2 kV2 dc2 pm2 ct2 cd2 oc3 kV3 dc3 pm3 ct3 cd3 oc4 kV4 dc4 pm4 ct4 cd4 oc5 kV5 dc5 pm5 ct5 cd5 oc6 kV6 dc6 pm6 ct6 cd6 oc7 kV7 dc7 pm7 ct7 cd7 oc8 kV8 dc8 pm8 ct8 cd8 oc9 kV9 dc9 pm9 ct9 cd9 oc10 kV10 dc10 pm10 ct10 cd10 oc11 kV11 dc11 pm11 ct11 cd11 oc12 kV12 dc12 pm12 ct12 cd12 oc13 kV13 dc13 pm13 ct13 cd13 oc14 kV14 dc14 pm14 ct14 cd14 oc15 kV15 dc15 pm15 ct15 cd15 oc16 kV16 dc16 pm16 ct16 cd16 oc17 kV17 dc17 pm17 ct17 cd17 oc18 kV18 dc18 pm18 ct18 cd18 oc19 kV19 dc19 pm19 ct19 cd19 : Value}
    (a0_0 : PySem.W.nsIn K mainGlobals "_law_folded" = some (some (.ref f0)))
    (l0 : K.lookup f0 = some ⟨oc0, od0, .func (PySem.W.fnOf "_law_folded" "_law_folded" (defArgs st__law_folded) (defBody st__law_folded) (defScope st__law_folded) .none kV0 dc0 pm0 an0 cd0 ct0), sl0⟩) (c0 : PySem.W.codeIn K cd0 "_law_folded" = true) (k0 : PySem.W.keepIn K (.ref f0) = true)
    (a1_0 : PySem.W.nsIn K mainGlobals "_law_begun" = some (some (.ref f1)))
    (l1 : K.lookup f1 = some ⟨oc1, od1, .func (PySem.W.fnOf "_law_begun" "_law_begun" (defArgs st__law_begun) (defBody st__law_begun) (defScope st__law_begun) .none kV1 dc1 pm1 an1 cd1 ct1), sl1⟩) (c1 : PySem.W.codeIn K cd1 "_law_begun" = true) (k1 : PySem.W.keepIn K (.ref f1) = true)
    (a2_0 : PySem.W.nsIn K mainGlobals "is_number" = some (some (.ref f2)))
    (l2 : K.lookup f2 = some ⟨oc2, od2, .func (PySem.W.fnOf "is_number" "is_number" (defArgs st_is_number) (defBody st_is_number) (defScope st_is_number) .none kV2 dc2 pm2 an2 cd2 ct2), sl2⟩) (c2 : PySem.W.codeIn K cd2 "is_number" = true) (k2 : PySem.W.keepIn K (.ref f2) = true)
    (a3_0 : PySem.W.nsIn K mainGlobals "common" = some (some (.ref f3)))
    (l3 : K.lookup f3 = some ⟨oc3, od3, .func (PySem.W.fnOf "common" "common" (defArgs st_common) (defBody st_common) (defScope st_common) .none kV3 dc3 pm3 an3 cd3 ct3), sl3⟩) (c3 : PySem.W.codeIn K cd3 "common" = true) (k3 : PySem.W.keepIn K (.ref f3) = true)
    (a4_0 : PySem.W.nsIn K mainGlobals "content" = some (some (.ref f4)))
    (l4 : K.lookup f4 = some ⟨oc4, od4, .func (PySem.W.fnOf "content" "content" (defArgs st_content) (defBody st_content) (defScope st_content) .none kV4 dc4 pm4 an4 cd4 ct4), sl4⟩) (c4 : PySem.W.codeIn K cd4 "content" = true) (k4 : PySem.W.keepIn K (.ref f4) = true)
    (a5_0 : PySem.W.nsIn K mainGlobals "poly" = some (some (.ref f5)))
    {T5 : Addr} {tc5 : Value} {td5 : Option Addr} {ts5 : Array (Option Value)} {tn5 : Nat} {tk5_0 : Tok}
    (l5 : K.lookup f5 = some ⟨oc5, od5, .func (PySem.W.fnOf "poly" "poly" (defArgs st_poly) (defBody st_poly) (defScope st_poly) (.ref T5) kV5 dc5 pm5 an5 cd5 ct5), sl5⟩) (c5 : PySem.W.codeIn K cd5 "poly" = true) (k5 : PySem.W.keepIn K (.ref f5) = true)
    (d5 : K.lookup T5 = some ⟨tc5, td5, .seq #[.int 1 tk5_0] tn5, ts5⟩)
    (a6_0 : PySem.W.nsIn K mainGlobals "row_of" = some (some (.ref f6)))
    (l6 : K.lookup f6 = some ⟨oc6, od6, .func (PySem.W.fnOf "row_of" "row_of" (defArgs st_row_of) (defBody st_row_of) (defScope st_row_of) .none kV6 dc6 pm6 an6 cd6 ct6), sl6⟩) (c6 : PySem.W.codeIn K cd6 "row_of" = true) (k6 : PySem.W.keepIn K (.ref f6) = true)
    (a7_0 : PySem.W.nsIn K mainGlobals "shifted" = some (some (.ref f7)))
    (l7 : K.lookup f7 = some ⟨oc7, od7, .func (PySem.W.fnOf "shifted" "shifted" (defArgs st_shifted) (defBody st_shifted) (defScope st_shifted) .none kV7 dc7 pm7 an7 cd7 ct7), sl7⟩) (c7 : PySem.W.codeIn K cd7 "shifted" = true) (k7 : PySem.W.keepIn K (.ref f7) = true)
    (a8_0 : PySem.W.nsIn K mainGlobals "at_size" = some (some (.ref f8)))
    (l8 : K.lookup f8 = some ⟨oc8, od8, .func (PySem.W.fnOf "at_size" "at_size" (defArgs st_at_size) (defBody st_at_size) (defScope st_at_size) .none kV8 dc8 pm8 an8 cd8 ct8), sl8⟩) (c8 : PySem.W.codeIn K cd8 "at_size" = true) (k8 : PySem.W.keepIn K (.ref f8) = true)
    (a9_0 : PySem.W.nsIn K mainGlobals "plus_rows" = some (some (.ref f9)))
    (l9 : K.lookup f9 = some ⟨oc9, od9, .func (PySem.W.fnOf "plus" "plus" (defArgs st_plus_rows) (defBody st_plus_rows) (defScope st_plus_rows) .none kV9 dc9 pm9 an9 cd9 ct9), sl9⟩) (c9 : PySem.W.codeIn K cd9 "plus" = true) (k9 : PySem.W.keepIn K (.ref f9) = true)
    (a10_0 : PySem.W.nsIn K mainGlobals "scaled" = some (some (.ref f10)))
    (l10 : K.lookup f10 = some ⟨oc10, od10, .func (PySem.W.fnOf "scaled" "scaled" (defArgs st_scaled) (defBody st_scaled) (defScope st_scaled) .none kV10 dc10 pm10 an10 cd10 ct10), sl10⟩) (c10 : PySem.W.codeIn K cd10 "scaled" = true) (k10 : PySem.W.keepIn K (.ref f10) = true)
    (a11_0 : PySem.W.nsIn K mainGlobals "plus_polys" = some (some (.ref f11)))
    (l11 : K.lookup f11 = some ⟨oc11, od11, .func (PySem.W.fnOf "plus" "plus" (defArgs st_plus_polys) (defBody st_plus_polys) (defScope st_plus_polys) .none kV11 dc11 pm11 an11 cd11 ct11), sl11⟩) (c11 : PySem.W.codeIn K cd11 "plus" = true) (k11 : PySem.W.keepIn K (.ref f11) = true)
    (a12_0 : PySem.W.nsIn K mainGlobals "words_of" = some (some (.ref f12)))
    (l12 : K.lookup f12 = some ⟨oc12, od12, .func (PySem.W.fnOf "words_of" "words_of" (defArgs st_words_of) (defBody st_words_of) (defScope st_words_of) .none kV12 dc12 pm12 an12 cd12 ct12), sl12⟩) (c12 : PySem.W.codeIn K cd12 "words_of" = true) (k12 : PySem.W.keepIn K (.ref f12) = true)
    (a13_0 : PySem.W.nsIn K mainGlobals "read" = some (some (.ref f13)))
    (l13 : K.lookup f13 = some ⟨oc13, od13, .func (PySem.W.fnOf "read" "read" (defArgs st_read) (defBody st_read) (defScope st_read) .none kV13 dc13 pm13 an13 cd13 ct13), sl13⟩) (c13 : PySem.W.codeIn K cd13 "read" = true) (k13 : PySem.W.keepIn K (.ref f13) = true)
    (a14_0 : PySem.W.nsIn K mainGlobals "_law_refused" = some (some (.ref f14)))
    (l14 : K.lookup f14 = some ⟨oc14, od14, .func (PySem.W.fnOf "_law_refused" "_law_refused" (defArgs st__law_refused) (defBody st__law_refused) (defScope st__law_refused) .none kV14 dc14 pm14 an14 cd14 ct14), sl14⟩) (c14 : PySem.W.codeIn K cd14 "_law_refused" = true) (k14 : PySem.W.keepIn K (.ref f14) = true)
    (a15_0 : PySem.W.nsIn K mainGlobals "_law_mixed" = some (some (.ref f15)))
    (l15 : K.lookup f15 = some ⟨oc15, od15, .func (PySem.W.fnOf "_law_mixed" "_law_mixed" (defArgs st__law_mixed) (defBody st__law_mixed) (defScope st__law_mixed) .none kV15 dc15 pm15 an15 cd15 ct15), sl15⟩) (c15 : PySem.W.codeIn K cd15 "_law_mixed" = true) (k15 : PySem.W.keepIn K (.ref f15) = true)
    (a16_0 : PySem.W.nsIn K mainGlobals "_law_draw" = some (some (.ref f16)))
    (l16 : K.lookup f16 = some ⟨oc16, od16, .func (PySem.W.fnOf "_law_draw" "_law_draw" (defArgs st__law_draw) (defBody st__law_draw) (defScope st__law_draw) .none kV16 dc16 pm16 an16 cd16 ct16), sl16⟩) (c16 : PySem.W.codeIn K cd16 "_law_draw" = true) (k16 : PySem.W.keepIn K (.ref f16) = true)
    (a17_0 : PySem.W.nsIn K mainGlobals "_law_odd" = some (some (.ref f17)))
    (l17 : K.lookup f17 = some ⟨oc17, od17, .func (PySem.W.fnOf "_law_odd" "_law_odd" (defArgs st__law_odd) (defBody st__law_odd) (defScope st__law_odd) .none kV17 dc17 pm17 an17 cd17 ct17), sl17⟩) (c17 : PySem.W.codeIn K cd17 "_law_odd" = true) (k17 : PySem.W.keepIn K (.ref f17) = true)
    (a18_0 : PySem.W.nsIn K mainGlobals "_law_good" = some (some (.ref f18)))
    (l18 : K.lookup f18 = some ⟨oc18, od18, .func (PySem.W.fnOf "_law_good" "_law_good" (defArgs st__law_good) (defBody st__law_good) (defScope st__law_good) .none kV18 dc18 pm18 an18 cd18 ct18), sl18⟩) (c18 : PySem.W.codeIn K cd18 "_law_good" = true) (k18 : PySem.W.keepIn K (.ref f18) = true)
    (a19_0 : PySem.W.nsIn K mainGlobals "law" = some (some (.ref f19)))
    (l19 : K.lookup f19 = some ⟨oc19, od19, .func (PySem.W.fnOf "law" "law" (defArgs st_law) (defBody st_law) (defScope st_law) .none kV19 dc19 pm19 an19 cd19 ct19), sl19⟩) (c19 : PySem.W.codeIn K cd19 "law" = true) (k19 : PySem.W.keepIn K (.ref f19) = true)
    {cC_Source : Addr} (eC_Source : PySem.W.nsIn K mainGlobals "Source" = some (some (.ref cC_Source))) (pC_Source : PySem.W.plainGet K cC_Source Str.empty = true) (hC_Source : PySem.W.hasDictIn K cC_Source = true) (oC_Source : PySem.W.plainOver K cC_Source = true) (sC_Source : PySem.W.findIn K (.ref cC_Source) "__setattr__" = some (some (.builtin "object.__setattr__"))) (mC_Source : PySem.W.makesIn K cC_Source = true) (kC_Source : PySem.W.keepIn K (.ref cC_Source) = true)
    (nC_Source_at : PySem.W.findIn K (.ref cC_Source) "at" = some none)
    (nC_Source_words : PySem.W.findIn K (.ref cC_Source) "words" = some none)
    {fM_Source___init__ : Addr} {odM_Source___init__ anM_Source___init__ : Option Addr} {slM_Source___init__ : Array (Option Value)} {ocM_Source___init__ kVM_Source___init__ dcM_Source___init__ pmM_Source___init__ ctM_Source___init__ cdM_Source___init__ : Value} (mM_Source___init__ : PySem.W.findIn K (.ref cC_Source) "__init__" = some (some (.ref fM_Source___init__))) (lM_Source___init__ : K.lookup fM_Source___init__ = some ⟨ocM_Source___init__, odM_Source___init__, .func (PySem.W.fnOf "__init__" "Source.__init__" (defArgs st_Source___init__) (defBody st_Source___init__) (defScope st_Source___init__) .none kVM_Source___init__ dcM_Source___init__ pmM_Source___init__ anM_Source___init__ cdM_Source___init__ ctM_Source___init__), slM_Source___init__⟩) (cM_Source___init__ : PySem.W.codeIn K cdM_Source___init__ "Source.__init__" = true) (kM_Source___init__ : PySem.W.keepIn K (.ref fM_Source___init__) = true) (iM_Source___init__ : PySem.W.isFn K (.ref fM_Source___init__) = true)
    {fM_Source_here : Addr} {odM_Source_here anM_Source_here : Option Addr} {slM_Source_here : Array (Option Value)} {ocM_Source_here kVM_Source_here dcM_Source_here pmM_Source_here ctM_Source_here cdM_Source_here : Value} (mM_Source_here : PySem.W.findIn K (.ref cC_Source) "here" = some (some (.ref fM_Source_here))) (lM_Source_here : K.lookup fM_Source_here = some ⟨ocM_Source_here, odM_Source_here, .func (PySem.W.fnOf "here" "Source.here" (defArgs st_Source_here) (defBody st_Source_here) (defScope st_Source_here) .none kVM_Source_here dcM_Source_here pmM_Source_here anM_Source_here cdM_Source_here ctM_Source_here), slM_Source_here⟩) (cM_Source_here : PySem.W.codeIn K cdM_Source_here "Source.here" = true) (kM_Source_here : PySem.W.keepIn K (.ref fM_Source_here) = true) (iM_Source_here : PySem.W.isFn K (.ref fM_Source_here) = true)
    {fM_Source_takes : Addr} {odM_Source_takes anM_Source_takes : Option Addr} {slM_Source_takes : Array (Option Value)} {ocM_Source_takes kVM_Source_takes dcM_Source_takes pmM_Source_takes ctM_Source_takes cdM_Source_takes : Value} (mM_Source_takes : PySem.W.findIn K (.ref cC_Source) "takes" = some (some (.ref fM_Source_takes))) (lM_Source_takes : K.lookup fM_Source_takes = some ⟨ocM_Source_takes, odM_Source_takes, .func (PySem.W.fnOf "takes" "Source.takes" (defArgs st_Source_takes) (defBody st_Source_takes) (defScope st_Source_takes) .none kVM_Source_takes dcM_Source_takes pmM_Source_takes anM_Source_takes cdM_Source_takes ctM_Source_takes), slM_Source_takes⟩) (cM_Source_takes : PySem.W.codeIn K cdM_Source_takes "Source.takes" = true) (kM_Source_takes : PySem.W.keepIn K (.ref fM_Source_takes) = true) (iM_Source_takes : PySem.W.isFn K (.ref fM_Source_takes) = true)
    {fM_Source_number : Addr} {odM_Source_number anM_Source_number : Option Addr} {slM_Source_number : Array (Option Value)} {ocM_Source_number kVM_Source_number dcM_Source_number pmM_Source_number ctM_Source_number cdM_Source_number : Value} (mM_Source_number : PySem.W.findIn K (.ref cC_Source) "number" = some (some (.ref fM_Source_number))) (lM_Source_number : K.lookup fM_Source_number = some ⟨ocM_Source_number, odM_Source_number, .func (PySem.W.fnOf "number" "Source.number" (defArgs st_Source_number) (defBody st_Source_number) (defScope st_Source_number) .none kVM_Source_number dcM_Source_number pmM_Source_number anM_Source_number cdM_Source_number ctM_Source_number), slM_Source_number⟩) (cM_Source_number : PySem.W.codeIn K cdM_Source_number "Source.number" = true) (kM_Source_number : PySem.W.keepIn K (.ref fM_Source_number) = true) (iM_Source_number : PySem.W.isFn K (.ref fM_Source_number) = true)
    {fM_Source_letter_power : Addr} {odM_Source_letter_power anM_Source_letter_power : Option Addr} {slM_Source_letter_power : Array (Option Value)} {ocM_Source_letter_power kVM_Source_letter_power dcM_Source_letter_power pmM_Source_letter_power ctM_Source_letter_power cdM_Source_letter_power : Value} (mM_Source_letter_power : PySem.W.findIn K (.ref cC_Source) "letter_power" = some (some (.ref fM_Source_letter_power))) (lM_Source_letter_power : K.lookup fM_Source_letter_power = some ⟨ocM_Source_letter_power, odM_Source_letter_power, .func (PySem.W.fnOf "letter_power" "Source.letter_power" (defArgs st_Source_letter_power) (defBody st_Source_letter_power) (defScope st_Source_letter_power) .none kVM_Source_letter_power dcM_Source_letter_power pmM_Source_letter_power anM_Source_letter_power cdM_Source_letter_power ctM_Source_letter_power), slM_Source_letter_power⟩) (cM_Source_letter_power : PySem.W.codeIn K cdM_Source_letter_power "Source.letter_power" = true) (kM_Source_letter_power : PySem.W.keepIn K (.ref fM_Source_letter_power) = true) (iM_Source_letter_power : PySem.W.isFn K (.ref fM_Source_letter_power) = true)
    {fM_Source_term : Addr} {odM_Source_term anM_Source_term : Option Addr} {slM_Source_term : Array (Option Value)} {ocM_Source_term kVM_Source_term dcM_Source_term pmM_Source_term ctM_Source_term cdM_Source_term : Value} (mM_Source_term : PySem.W.findIn K (.ref cC_Source) "term" = some (some (.ref fM_Source_term))) (lM_Source_term : K.lookup fM_Source_term = some ⟨ocM_Source_term, odM_Source_term, .func (PySem.W.fnOf "term" "Source.term" (defArgs st_Source_term) (defBody st_Source_term) (defScope st_Source_term) .none kVM_Source_term dcM_Source_term pmM_Source_term anM_Source_term cdM_Source_term ctM_Source_term), slM_Source_term⟩) (cM_Source_term : PySem.W.codeIn K cdM_Source_term "Source.term" = true) (kM_Source_term : PySem.W.keepIn K (.ref fM_Source_term) = true) (iM_Source_term : PySem.W.isFn K (.ref fM_Source_term) = true)
    {fM_Source_whole : Addr} {odM_Source_whole anM_Source_whole : Option Addr} {slM_Source_whole : Array (Option Value)} {ocM_Source_whole kVM_Source_whole dcM_Source_whole pmM_Source_whole ctM_Source_whole cdM_Source_whole : Value} (mM_Source_whole : PySem.W.findIn K (.ref cC_Source) "whole" = some (some (.ref fM_Source_whole))) (lM_Source_whole : K.lookup fM_Source_whole = some ⟨ocM_Source_whole, odM_Source_whole, .func (PySem.W.fnOf "whole" "Source.whole" (defArgs st_Source_whole) (defBody st_Source_whole) (defScope st_Source_whole) .none kVM_Source_whole dcM_Source_whole pmM_Source_whole anM_Source_whole cdM_Source_whole ctM_Source_whole), slM_Source_whole⟩) (cM_Source_whole : PySem.W.codeIn K cdM_Source_whole "Source.whole" = true) (kM_Source_whole : PySem.W.keepIn K (.ref fM_Source_whole) = true) (iM_Source_whole : PySem.W.isFn K (.ref fM_Source_whole) = true)
    {cE_BadPrime : Addr} (eE_BadPrime : PySem.W.nsIn K mainGlobals "BadPrime" = some (some (.ref cE_BadPrime)))
    {cE_BadRow : Addr} (eE_BadRow : PySem.W.nsIn K mainGlobals "BadRow" = some (some (.ref cE_BadRow)))
    {cE_BadText : Addr} (eE_BadText : PySem.W.nsIn K mainGlobals "BadText" = some (some (.ref cE_BadText)))
    {cE_ByNought : Addr} (eE_ByNought : PySem.W.nsIn K mainGlobals "ByNought" = some (some (.ref cE_ByNought)))
    {cE_NoName : Addr} (eE_NoName : PySem.W.nsIn K mainGlobals "NoName" = some (some (.ref cE_NoName)))
    {cE_NoRoot : Addr} (eE_NoRoot : PySem.W.nsIn K mainGlobals "NoRoot" = some (some (.ref cE_NoRoot)))
    {cE_NotReal : Addr} (eE_NotReal : PySem.W.nsIn K mainGlobals "NotReal" = some (some (.ref cE_NotReal)))
    {cE_RootError : Addr} (eE_RootError : PySem.W.nsIn K mainGlobals "RootError" = some (some (.ref cE_RootError)))
    {cE_TooGreat : Addr} (eE_TooGreat : PySem.W.nsIn K mainGlobals "TooGreat" = some (some (.ref cE_TooGreat)))
    (xE_BadText : PySem.W.excIn K cE_BadText [.type "ValueError", .type "Exception", .type "BaseException", .type "object"] "ValueError.__new__" = true) (uE_BadText : PySem.W.keepIn K (.ref cE_BadText) = true) (bE_BadText : PySem.W.subIn K (.ref cE_BadText) (.type "BaseException") = some true) (tE_BadText : PySem.W.typeIn K (.ref cE_BadText) = some (.type "type"))
    (xE_ByNought : PySem.W.excIn K cE_ByNought [.type "ValueError", .type "Exception", .type "BaseException", .type "object"] "ValueError.__new__" = true) (uE_ByNought : PySem.W.keepIn K (.ref cE_ByNought) = true) (bE_ByNought : PySem.W.subIn K (.ref cE_ByNought) (.type "BaseException") = some true) (tE_ByNought : PySem.W.typeIn K (.ref cE_ByNought) = some (.type "type"))
    (wE0_BadText : PySem.W.findIn K (.ref cE_BadText) "__getattribute__" = some (some (.builtin "BaseException.__getattribute__")))
    (wE1_BadText : PySem.W.findIn K (.ref cE_BadText) "__getattr__" = some none)
    (wE2_BadText : PySem.W.subIn K (.ref cE_BadText) (.type "BaseException") = some true)
    (wE3_BadText : PySem.W.hasDictIn K cE_BadText = true)
    (wE4_BadText : PySem.W.findIn K (.ref cE_BadText) "__class__" = some (some (.builtin "object.__class__")))
    (wE5_BadText : PySem.W.specialIn K (.builtin "object.__class__") "__get__" = some (some (.builtin "getset_descriptor.__get__")))
    (wE6_BadText : PySem.W.takesIn K (.builtin "object.__class__") = some true)
    (wE7_BadText : PySem.W.mroIn K cE_BadText (.type "object") = some true)
    (kI_BadText_BadPrime : PySem.W.kitOne K (.ref cE_BadText) (.ref cE_BadPrime) = some false)
    (kI_BadText_BadRow : PySem.W.kitOne K (.ref cE_BadText) (.ref cE_BadRow) = some false)
    (kI_BadText_BadText : PySem.W.kitOne K (.ref cE_BadText) (.ref cE_BadText) = some true)
    (kI_BadText_ByNought : PySem.W.kitOne K (.ref cE_BadText) (.ref cE_ByNought) = some false)
    (kI_BadText_NoName : PySem.W.kitOne K (.ref cE_BadText) (.ref cE_NoName) = some false)
    (kI_BadText_NoRoot : PySem.W.kitOne K (.ref cE_BadText) (.ref cE_NoRoot) = some false)
    (kI_BadText_NotReal : PySem.W.kitOne K (.ref cE_BadText) (.ref cE_NotReal) = some false)
    (kI_BadText_TooGreat : PySem.W.kitOne K (.ref cE_BadText) (.ref cE_TooGreat) = some false)
    (kI_BadText_ValueError : PySem.W.kitOne K (.ref cE_BadText) (.type "ValueError") = some true)
    (kX_BadText_RootError : PySem.W.exmOne K (.ref cE_BadText) (.ref cE_RootError) = some true)
    {qt0_0 : Tok} (q0 : PySem.W.nsIn K mainGlobals "FIGURES" = some (some (.str "0123456789" qt0_0)))
    {qt1_0 : Tok} (q1 : PySem.W.nsIn K mainGlobals "MOST_POWER" = some (some (.int 64 qt1_0)))
    {qt2_0 : Tok} (q2 : PySem.W.nsIn K mainGlobals "MOST_SIGNS" = some (some (.int 2000 qt2_0)))
    {qT3_0 : Addr} {qd3_0 : Option Addr} {qs3_0 : Array (Option Value)} {qn3_0 : Nat} {qT3_1 : Addr} {qd3_1 : Option Addr} {qs3_1 : Array (Option Value)} {qn3_1 : Nat} {qt3_2 : Tok} (q3 : PySem.W.nsIn K mainGlobals "NOUGHT" = some (some (.ref qT3_0))) (r3_0 : K.lookup qT3_0 = some ⟨.type "tuple", qd3_0, .seq #[(.ref qT3_1), (.int 1 qt3_2)] qn3_0, qs3_0⟩) (r3_1 : K.lookup qT3_1 = some ⟨.type "tuple", qd3_1, .seq #[] qn3_1, qs3_1⟩)
    {qt4_0 : Tok} (q4 : PySem.W.nsIn K mainGlobals "SIGNS" = some (some (.str "+-*/^x" qt4_0)))
    (iD_i_dig : PySem.W.nsIn K cStatics "sys.int_max_str_digits" = some none)
    (z0 : PySem.W.nsIn K mainGlobals "ValueError" = some none) (z1 : PySem.W.nsIn K mainGlobals "abs" = some none) (z2 : PySem.W.nsIn K mainGlobals "enumerate" = some none) (z3 : PySem.W.nsIn K mainGlobals "int" = some none) (z4 : PySem.W.nsIn K mainGlobals "isinstance" = some none) (z5 : PySem.W.nsIn K mainGlobals "len" = some none) (z6 : PySem.W.nsIn K mainGlobals "list" = some none) (z7 : PySem.W.nsIn K mainGlobals "max" = some none) (z8 : PySem.W.nsIn K mainGlobals "min" = some none) (z9 : PySem.W.nsIn K mainGlobals "range" = some none) (z10 : PySem.W.nsIn K mainGlobals "str" = some none) (z11 : PySem.W.nsIn K mainGlobals "tuple" = some none) (z12 : PySem.W.nsIn K mainGlobals "zip" = some none) :
    ∃ fd : FuncData, (∀ (s : Shared) (v : Value), BindsTo s fd ⟨[v], []⟩ [("_law_script", v)]) ∧ ∀ base : Heap, K.In base → base.Ns mainGlobals mg → FnG l.prog w K mg base (L2.CX l.prog w) 8 fa fd ["_law_script"] (spLaw K) := by
  have e := hfa.symm.trans (PySem.W.mg_of X G a19_0)
  cases e
  have D0_0 : Dfn K mg "_law_folded" "_law_folded" st__law_folded ["_law_script"] := ⟨_, _, fun_mk (st := st__law_folded) l0 c0 k0, PySem.W.mg_of X G a0_0, (fun_mk (st := st__law_folded) l0 c0 k0).binds (ps := ["_law_script"]) fun _ _ _ _ _ _ us hl => match us, hl with | [_], _ => rfl⟩
  have D1_0 : Dfn K mg "_law_begun" "_law_begun" st__law_begun ["_law_script"] := ⟨_, _, fun_mk (st := st__law_begun) l1 c1 k1, PySem.W.mg_of X G a1_0, (fun_mk (st := st__law_begun) l1 c1 k1).binds (ps := ["_law_script"]) fun _ _ _ _ _ _ us hl => match us, hl with | [_], _ => rfl⟩
  have D2_0 : Dfn K mg "is_number" "is_number" st_is_number ["word"] := ⟨_, _, fun_mk (st := st_is_number) l2 c2 k2, PySem.W.mg_of X G a2_0, (fun_mk (st := st_is_number) l2 c2 k2).binds (ps := ["word"]) fun _ _ _ _ _ _ us hl => match us, hl with | [_], _ => rfl⟩
  have D3_0 : Dfn K mg "common" "common" st_common ["one", "other"] := ⟨_, _, fun_mk (st := st_common) l3 c3 k3, PySem.W.mg_of X G a3_0, (fun_mk (st := st_common) l3 c3 k3).binds (ps := ["one", "other"]) fun _ _ _ _ _ _ us hl => match us, hl with | [_, _], _ => rfl⟩
  have D4_0 : Dfn K mg "content" "content" st_content ["row"] := ⟨_, _, fun_mk (st := st_content) l4 c4 k4, PySem.W.mg_of X G a4_0, (fun_mk (st := st_content) l4 c4 k4).binds (ps := ["row"]) fun _ _ _ _ _ _ us hl => match us, hl with | [_], _ => rfl⟩
  have G5 : FunD K "poly" "poly" (defArgs st_poly) (defBody st_poly) (defScope st_poly) (([1] : List Int).map V.int) [] f5 (PySem.W.fnOf "poly" "poly" (defArgs st_poly) (defBody st_poly) (defScope st_poly) (.ref T5) kV5 dc5 pm5 an5 cd5 ct5) := ⟨⟨_, _, _, _, _, _, _, _, _, _, rfl, l5, c5, .inr ⟨fun z => (nomatch z), T5, _, [.int 1 tk5_0], tn5, rfl, d5, rfl, .cons ⟨_, rfl⟩ (.nil)⟩, .inl rfl⟩, k5⟩
  have D5_0 : DfD K mg "poly" "poly" st_poly ["row", "d"] [1] := ⟨_, _, G5, PySem.W.mg_of X G a5_0, fun j hj => match j, hj with | 0, _ => G5.binds1 (ps := ["row", "d"]) 1 0 (fun z => nomatch z) rfl (fun _ _ _ _ _ _ _ us its hu hi => (match us, hu, its, hi with | [_], _, [_], _ => ⟨_, rfl, rfl⟩)) | 1, _ => G5.binds1 (ps := ["row", "d"]) 2 1 (fun z => nomatch z) rfl (fun _ _ _ _ _ _ _ us its hu hi => (match us, hu, its, hi with | [_, _], _, [_], _ => ⟨_, rfl, rfl⟩))⟩
  have D6_0 : Dfn K mg "row_of" "row_of" st_row_of ["numbers"] := ⟨_, _, fun_mk (st := st_row_of) l6 c6 k6, PySem.W.mg_of X G a6_0, (fun_mk (st := st_row_of) l6 c6 k6).binds (ps := ["numbers"]) fun _ _ _ _ _ _ us hl => match us, hl with | [_], _ => rfl⟩
  have D7_0 : Dfn K mg "shifted" "shifted" st_shifted ["row", "k"] := ⟨_, _, fun_mk (st := st_shifted) l7 c7 k7, PySem.W.mg_of X G a7_0, (fun_mk (st := st_shifted) l7 c7 k7).binds (ps := ["row", "k"]) fun _ _ _ _ _ _ us hl => match us, hl with | [_, _], _ => rfl⟩
  have D8_0 : Dfn K mg "at_size" "at_size" st_at_size ["row", "size"] := ⟨_, _, fun_mk (st := st_at_size) l8 c8 k8, PySem.W.mg_of X G a8_0, (fun_mk (st := st_at_size) l8 c8 k8).binds (ps := ["row", "size"]) fun _ _ _ _ _ _ us hl => match us, hl with | [_, _], _ => rfl⟩
  have D9_0 : Dfn K mg "plus_rows" "plus" st_plus_rows ["one", "other"] := ⟨_, _, fun_mk (st := st_plus_rows) l9 c9 k9, PySem.W.mg_of X G a9_0, (fun_mk (st := st_plus_rows) l9 c9 k9).binds (ps := ["one", "other"]) fun _ _ _ _ _ _ us hl => match us, hl with | [_, _], _ => rfl⟩
  have D10_0 : Dfn K mg "scaled" "scaled" st_scaled ["row", "number"] := ⟨_, _, fun_mk (st := st_scaled) l10 c10 k10, PySem.W.mg_of X G a10_0, (fun_mk (st := st_scaled) l10 c10 k10).binds (ps := ["row", "number"]) fun _ _ _ _ _ _ us hl => match us, hl with | [_, _], _ => rfl⟩
  have D11_0 : Dfn K mg "plus_polys" "plus" st_plus_polys ["one", "other"] := ⟨_, _, fun_mk (st := st_plus_polys) l11 c11 k11, PySem.W.mg_of X G a11_0, (fun_mk (st := st_plus_polys) l11 c11 k11).binds (ps := ["one", "other"]) fun _ _ _ _ _ _ us hl => match us, hl with | [_, _], _ => rfl⟩
  have D12_0 : Dfn K mg "words_of" "words_of" st_words_of ["text"] := ⟨_, _, fun_mk (st := st_words_of) l12 c12 k12, PySem.W.mg_of X G a12_0, (fun_mk (st := st_words_of) l12 c12 k12).binds (ps := ["text"]) fun _ _ _ _ _ _ us hl => match us, hl with | [_], _ => rfl⟩
  have D13_0 : Dfn K mg "read" "read" st_read ["text"] := ⟨_, _, fun_mk (st := st_read) l13 c13 k13, PySem.W.mg_of X G a13_0, (fun_mk (st := st_read) l13 c13 k13).binds (ps := ["text"]) fun _ _ _ _ _ _ us hl => match us, hl with | [_], _ => rfl⟩
  have D14_0 : Dfn K mg "_law_refused" "_law_refused" st__law_refused ["_law_text"] := ⟨_, _, fun_mk (st := st__law_refused) l14 c14 k14, PySem.W.mg_of X G a14_0, (fun_mk (st := st__law_refused) l14 c14 k14).binds (ps := ["_law_text"]) fun _ _ _ _ _ _ us hl => match us, hl with | [_], _ => rfl⟩
  have D15_0 : Dfn K mg "_law_mixed" "_law_mixed" st__law_mixed ["_law_cell", "_law_k"] := ⟨_, _, fun_mk (st := st__law_mixed) l15 c15 k15, PySem.W.mg_of X G a15_0, (fun_mk (st := st__law_mixed) l15 c15 k15).binds (ps := ["_law_cell", "_law_k"]) fun _ _ _ _ _ _ us hl => match us, hl with | [_, _], _ => rfl⟩
  have D16_0 : Dfn K mg "_law_draw" "_law_draw" st__law_draw ["_law_m", "_law_many"] := ⟨_, _, fun_mk (st := st__law_draw) l16 c16 k16, PySem.W.mg_of X G a16_0, (fun_mk (st := st__law_draw) l16 c16 k16).binds (ps := ["_law_m", "_law_many"]) fun _ _ _ _ _ _ us hl => match us, hl with | [_, _], _ => rfl⟩
  have D17_0 : Dfn K mg "_law_odd" "_law_odd" st__law_odd ["_law_m"] := ⟨_, _, fun_mk (st := st__law_odd) l17 c17 k17, PySem.W.mg_of X G a17_0, (fun_mk (st := st__law_odd) l17 c17 k17).binds (ps := ["_law_m"]) fun _ _ _ _ _ _ us hl => match us, hl with | [_], _ => rfl⟩
  have D18_0 : Dfn K mg "_law_good" "_law_good" st__law_good ["_law_m"] := ⟨_, _, fun_mk (st := st__law_good) l18 c18 k18, PySem.W.mg_of X G a18_0, (fun_mk (st := st__law_good) l18 c18 k18).binds (ps := ["_law_m"]) fun _ _ _ _ _ _ us hl => match us, hl with | [_], _ => rfl⟩
  exact ⟨PySem.W.fnOf "law" "law" (defArgs st_law) (defBody st_law) (defScope st_law) .none kV19 dc19 pm19 an19 cd19 ct19, fun s v => .of_eq rfl, fun base _ _ => ok_law (fun_mk (st := st_law) l19 c19 k19) D0_0 D1_0 D2_0 D3_0 D4_0 D5_0 D6_0 D7_0 D8_0 D9_0 D10_0 D11_0 D12_0 D13_0 D14_0 D15_0 D16_0 D17_0 D18_0 ⟨pC_Source, hC_Source, oC_Source, sC_Source⟩ ⟨mC_Source, kC_Source⟩ (PySem.W.mg_of X G eC_Source) nC_Source_at nC_Source_words ⟨_, _, fun_mk (st := st_Source___init__) lM_Source___init__ cM_Source___init__ kM_Source___init__, ⟨mM_Source___init__, iM_Source___init__, kM_Source___init__⟩, (fun_mk (st := st_Source___init__) lM_Source___init__ cM_Source___init__ kM_Source___init__).binds (ps := ["self", "words"]) fun _ _ _ _ _ _ us hl => match us, hl with | [_, _], _ => rfl⟩ ⟨_, _, fun_mk (st := st_Source_here) lM_Source_here cM_Source_here kM_Source_here, ⟨mM_Source_here, iM_Source_here, kM_Source_here⟩, (fun_mk (st := st_Source_here) lM_Source_here cM_Source_here kM_Source_here).binds (ps := ["self"]) fun _ _ _ _ _ _ us hl => match us, hl with | [_], _ => rfl⟩ ⟨_, _, fun_mk (st := st_Source_takes) lM_Source_takes cM_Source_takes kM_Source_takes, ⟨mM_Source_takes, iM_Source_takes, kM_Source_takes⟩, (fun_mk (st := st_Source_takes) lM_Source_takes cM_Source_takes kM_Source_takes).binds (ps := ["self", "word"]) fun _ _ _ _ _ _ us hl => match us, hl with | [_, _], _ => rfl⟩ ⟨_, _, fun_mk (st := st_Source_number) lM_Source_number cM_Source_number kM_Source_number, ⟨mM_Source_number, iM_Source_number, kM_Source_number⟩, (fun_mk (st := st_Source_number) lM_Source_number cM_Source_number kM_Source_number).binds (ps := ["self"]) fun _ _ _ _ _ _ us hl => match us, hl with | [_], _ => rfl⟩ ⟨_, _, fun_mk (st := st_Source_letter_power) lM_Source_letter_power cM_Source_letter_power kM_Source_letter_power, ⟨mM_Source_letter_power, iM_Source_letter_power, kM_Source_letter_power⟩, (fun_mk (st := st_Source_letter_power) lM_Source_letter_power cM_Source_letter_power kM_Source_letter_power).binds (ps := ["self"]) fun _ _ _ _ _ _ us hl => match us, hl with | [_], _ => rfl⟩ ⟨_, _, fun_mk (st := st_Source_term) lM_Source_term cM_Source_term kM_Source_term, ⟨mM_Source_term, iM_Source_term, kM_Source_term⟩, (fun_mk (st := st_Source_term) lM_Source_term cM_Source_term kM_Source_term).binds (ps := ["self"]) fun _ _ _ _ _ _ us hl => match us, hl with | [_], _ => rfl⟩ ⟨_, _, fun_mk (st := st_Source_whole) lM_Source_whole cM_Source_whole kM_Source_whole, ⟨mM_Source_whole, iM_Source_whole, kM_Source_whole⟩, (fun_mk (st := st_Source_whole) lM_Source_whole cM_Source_whole kM_Source_whole).binds (ps := ["self"]) fun _ _ _ _ _ _ us hl => match us, hl with | [_], _ => rfl⟩ (PySem.W.mg_none_of X G z0) (PySem.W.mg_none_of X G z1) (PySem.W.mg_none_of X G z2) (PySem.W.mg_none_of X G z3) (PySem.W.mg_none_of X G z4) (PySem.W.mg_none_of X G z5) (PySem.W.mg_none_of X G z6) (PySem.W.mg_none_of X G z7) (PySem.W.mg_none_of X G z8) (PySem.W.mg_none_of X G z9) (PySem.W.mg_none_of X G z10) (PySem.W.mg_none_of X G z11) (PySem.W.mg_none_of X G z12) ⟨cE_BadText, _, _, _, PySem.F.excBase_ValueError, PySem.W.mg_of X G eE_BadText, xE_BadText, uE_BadText, bE_BadText, tE_BadText⟩ ⟨cE_ByNought, _, _, _, PySem.F.excBase_ValueError, PySem.W.mg_of X G eE_ByNought, xE_ByNought, uE_ByNought, bE_ByNought, tE_ByNought⟩ ⟨_, _, PySem.W.mg_of X G q0, (r_str _ _), (.str _)⟩ ⟨_, _, PySem.W.mg_of X G q1, (r_int _ _), (.int _)⟩ ⟨_, _, PySem.W.mg_of X G q2, (r_int _ _), (.int _)⟩ ⟨_, _, PySem.W.mg_of X G q3, (r_ref _), (.tup (.inr ⟨_, _, _, r3_0, rfl, rfl, small_line (Nat.le_of_ble_eq_true rfl), (.cons (r_ref _) (.cons (r_int _ _) .nil))⟩) (.cons (.tup (.inr ⟨_, _, _, r3_1, rfl, rfl, small_line (Nat.le_of_ble_eq_true rfl), .nil⟩) .nil) (.cons (.int _) .nil)))⟩ ⟨_, _, PySem.W.mg_of X G q4, (r_str _ _), (.str _)⟩ ⟨_, _, eE_BadText, ⟨wE0_BadText, wE1_BadText, wE2_BadText, wE3_BadText, wE4_BadText, wE5_BadText, wE6_BadText, wE7_BadText⟩, .inl ⟨_, PySem.W.mg_of X G eE_BadPrime, rfl⟩, kI_BadText_BadPrime⟩ ⟨_, _, eE_BadText, ⟨wE0_BadText, wE1_BadText, wE2_BadText, wE3_BadText, wE4_BadText, wE5_BadText, wE6_BadText, wE7_BadText⟩, .inl ⟨_, PySem.W.mg_of X G eE_BadRow, rfl⟩, kI_BadText_BadRow⟩ ⟨_, _, eE_BadText, ⟨wE0_BadText, wE1_BadText, wE2_BadText, wE3_BadText, wE4_BadText, wE5_BadText, wE6_BadText, wE7_BadText⟩, .inl ⟨_, PySem.W.mg_of X G eE_BadText, rfl⟩, kI_BadText_BadText⟩ ⟨_, _, eE_BadText, ⟨wE0_BadText, wE1_BadText, wE2_BadText, wE3_BadText, wE4_BadText, wE5_BadText, wE6_BadText, wE7_BadText⟩, .inl ⟨_, PySem.W.mg_of X G eE_ByNought, rfl⟩, kI_BadText_ByNought⟩ ⟨_, _, eE_BadText, ⟨wE0_BadText, wE1_BadText, wE2_BadText, wE3_BadText, wE4_BadText, wE5_BadText, wE6_BadText, wE7_BadText⟩, .inl ⟨_, PySem.W.mg_of X G eE_NoName, rfl⟩, kI_BadText_NoName⟩ ⟨_, _, eE_BadText, ⟨wE0_BadText, wE1_BadText, wE2_BadText, wE3_BadText, wE4_BadText, wE5_BadText, wE6_BadText, wE7_BadText⟩, .inl ⟨_, PySem.W.mg_of X G eE_NoRoot, rfl⟩, kI_BadText_NoRoot⟩ ⟨_, _, eE_BadText, ⟨wE0_BadText, wE1_BadText, wE2_BadText, wE3_BadText, wE4_BadText, wE5_BadText, wE6_BadText, wE7_BadText⟩, .inl ⟨_, PySem.W.mg_of X G eE_NotReal, rfl⟩, kI_BadText_NotReal⟩ ⟨_, _, eE_BadText, ⟨wE0_BadText, wE1_BadText, wE2_BadText, wE3_BadText, wE4_BadText, wE5_BadText, wE6_BadText, wE7_BadText⟩, .inl ⟨_, PySem.W.mg_of X G eE_TooGreat, rfl⟩, kI_BadText_TooGreat⟩ ⟨_, _, eE_BadText, ⟨wE0_BadText, wE1_BadText, wE2_BadText, wE3_BadText, wE4_BadText, wE5_BadText, wE6_BadText, wE7_BadText⟩, .inr ⟨_, PySem.W.mg_none_of X G z0, rfl, by decide, rfl⟩, kI_BadText_ValueError⟩ iD_i_dig ⟨_, _, PySem.W.mg_of X G eE_BadText, eE_BadText, PySem.W.mg_of X G eE_RootError, kX_BadText_RootError⟩⟩
end RR
open PySem PySem.W PyProof.Rows
set_option maxHeartbeats 0 in
theorem PySem.Challenge.cw_rootring_k08_texts_refused_holds : PySem.Challenge.rw_rootring_k08_texts_refused.Holds := by
  w_on; o_law; k_head; (case hw => w_witness2)
  k_fill
  refine RR.walk_ofG (l := PySem.Challenge.rw_rootring_k08_texts_refused) (n := 63) (k := 8) (x := "_law_script") (C := fun w => L2.CX PySem.Challenge.pw_rootring_k08_texts_refused w) (sp := fun w => RR.spLaw _) rfl (by decide) rfl ⟨rfl, by decide, by decide⟩ (fun w h Y => PySem.W.kIn_of Y) ?F (fun _ _ a ns hl hS => ⟨a, ns, rfl, hS, hl, fun _ => rfl⟩) (fun _ _ _ _ _ h => by obtain ⟨_, _, _, _, _, _, _, _, _, _, _, _, z⟩ := h; exact z)
  case F =>
    intro w mg fa h KX G hmg
    refine' RR.all_mk KX G hmg ?a0_0 ?l0 ?c0 ?k0 ?a1_0 ?l1 ?c1 ?k1 ?a2_0 ?l2 ?c2 ?k2 ?a3_0 ?l3 ?c3 ?k3 ?a4_0 ?l4 ?c4 ?k4 ?a5_0 ?l5 ?c5 ?k5 ?d5 ?a6_0 ?l6 ?c6 ?k6 ?a7_0 ?l7 ?c7 ?k7 ?a8_0 ?l8 ?c8 ?k8 ?a9_0 ?l9 ?c9 ?k9 ?a10_0 ?l10 ?c10 ?k10 ?a11_0 ?l11 ?c11 ?k11 ?a12_0 ?l12 ?c12 ?k12 ?a13_0 ?l13 ?c13 ?k13 ?a14_0 ?l14 ?c14 ?k14 ?a15_0 ?l15 ?c15 ?k15 ?a16_0 ?l16 ?c16 ?k16 ?a17_0 ?l17 ?c17 ?k17 ?a18_0 ?l18 ?c18 ?k18 ?a19_0 ?l19 ?c19 ?k19 ?eC_Source ?pC_Source ?hC_Source ?oC_Source ?sC_Source ?mC_Source ?kC_Source ?nC_Source_at ?nC_Source_words ?mM_Source___init__ ?lM_Source___init__ ?cM_Source___init__ ?kM_Source___init__ ?iM_Source___init__ ?mM_Source_here ?lM_Source_here ?cM_Source_here ?kM_Source_here ?iM_Source_here ?mM_Source_takes ?lM_Source_takes ?cM_Source_takes ?kM_Source_takes ?iM_Source_takes ?mM_Source_number ?lM_Source_number ?cM_Source_number ?kM_Source_number ?iM_Source_number ?mM_Source_letter_power ?lM_Source_letter_power ?cM_Source_letter_power ?kM_Source_letter_power ?iM_Source_letter_power ?mM_Source_term ?lM_Source_term ?cM_Source_term ?kM_Source_term ?iM_Source_term ?mM_Source_whole ?lM_Source_whole ?cM_Source_whole ?kM_Source_whole ?iM_Source_whole ?eE_BadPrime ?eE_BadRow ?eE_BadText ?eE_ByNought ?eE_NoName ?eE_NoRoot ?eE_NotReal ?eE_RootError ?eE_TooGreat ?xE_BadText ?uE_BadText ?bE_BadText ?tE_BadText ?xE_ByNought ?uE_ByNought ?bE_ByNought ?tE_ByNought ?wE0_BadText ?wE1_BadText ?wE2_BadText ?wE3_BadText ?wE4_BadText ?wE5_BadText ?wE6_BadText ?wE7_BadText ?kI_BadText_BadPrime ?kI_BadText_BadRow ?kI_BadText_BadText ?kI_BadText_ByNought ?kI_BadText_NoName ?kI_BadText_NoRoot ?kI_BadText_NotReal ?kI_BadText_TooGreat ?kI_BadText_ValueError ?kX_BadText_RootError ?q0 ?q1 ?q2 ?q3 ?r3_0 ?r3_1 ?q4 ?iD_i_dig ?z0 ?z1 ?z2 ?z3 ?z4 ?z5 ?z6 ?z7 ?z8 ?z9 ?z10 ?z11 ?z12
    (case a0_0 => k_is); (case l0 => k_is); (case c0 => k_is); (case k0 => k_is); (case a1_0 => k_is); (case l1 => k_is); (case c1 => k_is); (case k1 => k_is); (case a2_0 => k_is); (case l2 => k_is); (case c2 => k_is); (case k2 => k_is); (case a3_0 => k_is); (case l3 => k_is); (case c3 => k_is); (case k3 => k_is); (case a4_0 => k_is); (case l4 => k_is); (case c4 => k_is); (case k4 => k_is); (case a5_0 => k_is); (case l5 => k_is); (case c5 => k_is); (case k5 => k_is); (case d5 => k_is); (case a6_0 => k_is); (case l6 => k_is); (case c6 => k_is); (case k6 => k_is); (case a7_0 => k_is); (case l7 => k_is); (case c7 => k_is); (case k7 => k_is); (case a8_0 => k_is); (case l8 => k_is); (case c8 => k_is); (case k8 => k_is); (case a9_0 => k_is); (case l9 => k_is); (case c9 => k_is); (case k9 => k_is); (case a10_0 => k_is); (case l10 => k_is); (case c10 => k_is); (case k10 => k_is); (case a11_0 => k_is); (case l11 => k_is); (case c11 => k_is); (case k11 => k_is); (case a12_0 => k_is); (case l12 => k_is); (case c12 => k_is); (case k12 => k_is); (case a13_0 => k_is); (case l13 => k_is); (case c13 => k_is); (case k13 => k_is); (case a14_0 => k_is); (case l14 => k_is); (case c14 => k_is); (case k14 => k_is); (case a15_0 => k_is); (case l15 => k_is); (case c15 => k_is); (case k15 => k_is); (case a16_0 => k_is); (case l16 => k_is); (case c16 => k_is); (case k16 => k_is); (case a17_0 => k_is); (case l17 => k_is); (case c17 => k_is); (case k17 => k_is); (case a18_0 => k_is); (case l18 => k_is); (case c18 => k_is); (case k18 => k_is); (case a19_0 => k_is); (case l19 => k_is); (case c19 => k_is); (case k19 => k_is); (case eC_Source => k_is); (case pC_Source => k_is); (case hC_Source => k_is); (case oC_Source => k_is); (case sC_Source => k_is); (case mC_Source => k_is); (case kC_Source => k_is); (case nC_Source_at => k_is); (case nC_Source_words => k_is); (case mM_Source___init__ => k_is); (case lM_Source___init__ => k_is); (case cM_Source___init__ => k_is); (case kM_Source___init__ => k_is); (case iM_Source___init__ => k_is); (case mM_Source_here => k_is); (case lM_Source_here => k_is); (case cM_Source_here => k_is); (case kM_Source_here => k_is); (case iM_Source_here => k_is); (case mM_Source_takes => k_is); (case lM_Source_takes => k_is); (case cM_Source_takes => k_is); (case kM_Source_takes => k_is); (case iM_Source_takes => k_is); (case mM_Source_number => k_is); (case lM_Source_number => k_is); (case cM_Source_number => k_is); (case kM_Source_number => k_is); (case iM_Source_number => k_is); (case mM_Source_letter_power => k_is); (case lM_Source_letter_power => k_is); (case cM_Source_letter_power => k_is); (case kM_Source_letter_power => k_is); (case iM_Source_letter_power => k_is); (case mM_Source_term => k_is); (case lM_Source_term => k_is); (case cM_Source_term => k_is); (case kM_Source_term => k_is); (case iM_Source_term => k_is); (case mM_Source_whole => k_is); (case lM_Source_whole => k_is); (case cM_Source_whole => k_is); (case kM_Source_whole => k_is); (case iM_Source_whole => k_is); (case eE_BadPrime => k_is); (case eE_BadRow => k_is); (case eE_BadText => k_is); (case eE_ByNought => k_is); (case eE_NoName => k_is); (case eE_NoRoot => k_is); (case eE_NotReal => k_is); (case eE_RootError => k_is); (case eE_TooGreat => k_is); (case xE_BadText => k_exc); (case uE_BadText => k_is); (case bE_BadText => k_is); (case tE_BadText => k_is); (case xE_ByNought => k_exc); (case uE_ByNought => k_is); (case bE_ByNought => k_is); (case tE_ByNought => k_is); (case wE0_BadText => k_is); (case wE1_BadText => k_is); (case wE2_BadText => k_is); (case wE3_BadText => k_is); (case wE4_BadText => k_is); (case wE5_BadText => k_is); (case wE6_BadText => k_is); (case wE7_BadText => k_is); (case kI_BadText_BadPrime => kit_is); (case kI_BadText_BadRow => kit_is); (case kI_BadText_BadText => kit_is); (case kI_BadText_ByNought => kit_is); (case kI_BadText_NoName => kit_is); (case kI_BadText_NoRoot => kit_is); (case kI_BadText_NotReal => kit_is); (case kI_BadText_TooGreat => kit_is); (case kI_BadText_ValueError => kit_is); (case kX_BadText_RootError => kts_exm); (case q0 => k_is); (case q1 => k_is); (case q2 => k_is); (case q3 => k_is); (case r3_0 => k_is); (case r3_1 => k_is); (case q4 => k_is); (case iD_i_dig => k_is); (case z0 => k_is); (case z1 => k_is); (case z2 => k_is); (case z3 => k_is); (case z4 => k_is); (case z5 => k_is); (case z6 => k_is); (case z7 => k_is); (case z8 => k_is); (case z9 => k_is); (case z10 => k_is); (case z11 => k_is); (case z12 => k_is)
