import PyProof.Rows.All
import Wide.All
import OpenK.AllK
import Wide.FinOn
import HandS.CallRecv
import HandS.CallSlots
import HandS.Conv
import HandS.Deep
import HandS.Defaults
import HandS.EndTab
import HandS.Ends
import HandS.ExcIs
import HandS.ExcOwn
import HandS.FStrTup
import HandS.ForExc
import HandS.ForMost
import HandS.IntHex
import HandS.IsInst
import HandS.Lambda
import HandS.More
import HandS.RaiseMore
import HandS.ReplaceLit
import HandS.Rev
import HandS.RevRange
import HandS.StrMore
import HandS.Style
import HandS.Text
import HandS.TryOnly
import HandS.TupAny
import HandS.TupMul
import HandS.Walk
import HandS.Wide
import HandS.WordsExc
import HandS.Zip
import HandS.Zip0
import KE.KNestM
import KE.KRevSl
import KE.SortData
import KE.SortKeyHeap
import PyProof.Draws
import PyProof.EnumMake
import PyProof.ReprLen
import PyProof.ReprRoads
import PyProof.Rows.Digits
import PyProof.StrLawsRepr
import PyProof.Draws
import PyProof.EnumMake
import PyProof.ExcBaseAll.ValueError
import PySem.Challenge.RW_rootring_k06_whole_values_go_with_all
set_option Elab.async false
set_option linter.all false
set_option maxRecDepth 100000
set_option maxHeartbeats 4000000
set_option exponentiation.threshold 20000
/-! RA: data, what it stands for in the heap, the state of a def's body as data -/
namespace RR
open PySem PySem.Spec PyProof.Rows L2

/-- data -/
inductive D where
  | non | bl (b : Bool) | int (i : Int) | str (s : Str) | tup (xs : List D) | lst (xs : List D) | hnd (n : Nat) | dic | exc (x : Str) | fn (x : Str) | ptr (a : Addr)
  deriving Inhabited

mutual
/-- no list stands within -/
def D.nl : D → Bool
  | .lst _ => false
  | .dic => false
  | .tup xs => D.nls xs
  | _ => true
def D.nls : List D → Bool
  | [] => true
  | x :: r => x.nl && D.nls r
end

def IsT : HO → Prop
  | .tup _ => True
  | .ext _ => True
  | _ => False
def IsL : HO → Prop
  | .lst _ => True
  | .dK _ => True
  | _ => False
def KT (K : PySem.W.Frag) (a : Addr) (xs : List V) : Prop :=
  ∃ (o : Obj) (its : Array Value) (n : Nat), K.lookup a = some o ∧ o.cls = .type "tuple" ∧ o.data = .seq its n ∧ its.size ≤ sizeLine ∧ Vals xs its.toList
def Tp (K : PySem.W.Frag) (G : Hp) (a : Addr) (xs : List V) : Prop := G a = some (.tup xs) ∨ KT K a xs
def Ls : Bool → PySem.W.Frag → Hp → Addr → List V → Prop
  | true, _, G, a, xs => G a = some (.lst xs)
  | false, K, G, a, xs => SqL K G a xs
/-- an exception of the class at C stands at a, its own dict not yet made -/
def ExI (C a : Addr) : HO := .ext fun h => PySem.W.InstAt h a ((h.get? a).getD default) C none
/-- the module's name x is the class at C -/
def NsC (K : PySem.W.Frag) (x : Str) (C : Addr) : Prop := PySem.W.nsIn K mainGlobals x = some (some (.ref C))
mutual
/-- the value v is the data d; s: lists are tracked ones alone -/
inductive Dn (s : Bool) (K : PySem.W.Frag) (F : List Addr) (G : Hp) : V → D → Prop
  | non : Dn s K F G .non .non
  | bl (b : Bool) : Dn s K F G (.bl b) (.bl b)
  | int (i : Int) : Dn s K F G (.int i) (.int i)
  | str (x : Str) : Dn s K F G (.str x) (.str x)
  | tup {a : Addr} {xs : List V} {ds : List D} : Tp K G a xs → DnA s K F G xs ds → Dn s K F G (.ref a) (.tup ds)
  | lst {a : Addr} {xs : List V} {ds : List D} : Ls s K G a xs → DnA s K F G xs ds → Dn s K F G (.ref a) (.lst ds)
  | hnd {n : Nat} {a : Addr} : F[n]? = some a → Dn s K F G (.ref a) (.hnd n)
  | dic {a : Addr} : G a = some (.dK []) → Dn s K F G (.ref a) .dic
  | exc {x : Str} {a C : Addr} : G a = some (ExI C a) → NsC K x C → Dn s K F G (.ref a) (.exc x)
  | fn {x : Str} {a : Addr} : NsC K x a → Dn s K F G (.ref a) (.fn x)
  | ptr {a : Addr} : Dn s K F G (.ref a) (.ptr a)
inductive DnA (s : Bool) (K : PySem.W.Frag) (F : List Addr) (G : Hp) : List V → List D → Prop
  | nil : DnA s K F G [] []
  | cons {v : V} {vs : List V} {d : D} {ds : List D} : Dn s K F G v d → DnA s K F G vs ds → DnA s K F G (v :: vs) (d :: ds)
end
section
variable {s : Bool} {K : PySem.W.Frag} {F F' : List Addr} {G G' : Hp}
theorem Tp.sq {a : Addr} {xs : List V} (h : Tp K G a xs) : SqT K G a xs := h.elim (fun h => .inl (.inl h)) .inr
theorem Ls.sq {a : Addr} {xs : List V} (h : Ls s K G a xs) : SqL K G a xs := by
  cases s with
  | true => exact .inl (.inl h)
  | false => exact h
theorem Tp.mono (hG : ∀ a xs, G a = some (.tup xs) → G' a = some (.tup xs)) {a : Addr} {xs : List V} (h : Tp K G a xs) : Tp K G' a xs := h.imp (hG a xs) id
theorem Ls.mono (hG : ∀ a o, G a = some o → G' a = some o) {a : Addr} {xs : List V} (h : Ls s K G a xs) : Ls s K G' a xs := by
  cases s with
  | true => exact hG _ _ h
  | false => exact Same.seq (H := G) (H' := G') hG h
mutual
theorem Dn.mono (hF : ∃ F1, F' = F ++ F1) (hG : ∀ a o, G a = some o → G' a = some o) : ∀ {v : V} {d : D}, Dn s K F G v d → Dn s K F' G' v d
  | _, _, .non => .non
  | _, _, .bl b => .bl b
  | _, _, .int i => .int i
  | _, _, .str x => .str x
  | _, _, .tup h r => .tup (h.mono fun a xs => hG a _) (DnA.mono hF hG r)
  | _, _, .lst h r => .lst (h.mono hG) (DnA.mono hF hG r)
  | _, _, .hnd h => .hnd (by obtain ⟨F1, rfl⟩ := hF; rw [List.getElem?_append_left (List.getElem?_eq_some_iff.mp h).1]; exact h)
  | _, _, .dic h => .dic (hG _ _ h)
  | _, _, .exc h n => .exc (hG _ _ h) n
  | _, _, .fn h => .fn h
  | _, _, .ptr => .ptr
theorem DnA.mono (hF : ∃ F1, F' = F ++ F1) (hG : ∀ a o, G a = some o → G' a = some o) : ∀ {vs : List V} {ds : List D}, DnA s K F G vs ds → DnA s K F' G' vs ds
  | _, _, .nil => .nil
  | _, _, .cons h r => .cons (Dn.mono hF hG h) (DnA.mono hF hG r)
end
mutual
/-- of data without lists only the tuples matter -/
theorem Dn.flat {s' : Bool} (hF : ∃ F1, F' = F ++ F1) (hG : ∀ a o, IsT o → G a = some o → G' a = some o) : ∀ {v : V} {d : D}, Dn s K F G v d → d.nl = true → Dn s' K F' G' v d
  | _, _, .non, _ => .non
  | _, _, .bl b, _ => .bl b
  | _, _, .int i, _ => .int i
  | _, _, .str x, _ => .str x
  | _, _, .tup h r, n => .tup (h.mono fun a xs => hG a _ trivial) (DnA.flat hF hG r n)
  | _, _, .dic _, n => by cases n
  | _, _, .exc h c, _ => .exc (hG _ _ trivial h) c
  | _, _, .fn h, _ => .fn h
  | _, _, .ptr, _ => .ptr
  | _, _, .lst h r, n => by cases n
  | _, _, .hnd h, _ => .hnd (by obtain ⟨F1, rfl⟩ := hF; rw [List.getElem?_append_left (List.getElem?_eq_some_iff.mp h).1]; exact h)
theorem DnA.flat {s' : Bool} (hF : ∃ F1, F' = F ++ F1) (hG : ∀ a o, IsT o → G a = some o → G' a = some o) : ∀ {vs : List V} {ds : List D}, DnA s K F G vs ds → D.nls ds = true → DnA s' K F' G' vs ds
  | _, _, .nil, _ => .nil
  | _, _, .cons h r, n => by
    rw [D.nls, Bool.and_eq_true] at n
    exact .cons (Dn.flat hF hG h n.1) (DnA.flat hF hG r n.2)
end
mutual
theorem Dn.weak : ∀ {v : V} {d : D}, Dn true K F G v d → Dn false K F G v d
  | _, _, .non => .non
  | _, _, .bl b => .bl b
  | _, _, .int i => .int i
  | _, _, .str x => .str x
  | _, _, .tup h r => .tup h (DnA.weak r)
  | _, _, .lst h r => .lst (.inl (.inl h)) (DnA.weak r)
  | _, _, .hnd h => .hnd h
  | _, _, .dic h => .dic h
  | _, _, .exc h n => .exc h n
  | _, _, .fn h => .fn h
  | _, _, .ptr => .ptr
theorem DnA.weak : ∀ {vs : List V} {ds : List D}, DnA true K F G vs ds → DnA false K F G vs ds
  | _, _, .nil => .nil
  | _, _, .cons h r => .cons (Dn.weak h) (DnA.weak r)
end
theorem DnA.length : ∀ {vs : List V} {ds : List D}, DnA s K F G vs ds → vs.length = ds.length
  | _, _, .nil => rfl
  | _, _, .cons _ r => congrArg (· + 1) (DnA.length r)
theorem DnA.get : ∀ {vs : List V} {ds : List D} {i : Nat} {v : V}, DnA s K F G vs ds → vs[i]? = some v → ∃ d, ds[i]? = some d ∧ Dn s K F G v d
  | _, _, _, _, .nil, e => by simp at e
  | _, _, 0, _, .cons h _, e => by simp at e; subst e; exact ⟨_, rfl, h⟩
  | _, _, i + 1, _, .cons _ r, e => by
    obtain ⟨d, h1, h2⟩ := DnA.get (i := i) r (by simpa using e)
    exact ⟨d, by simpa using h1, h2⟩
theorem DnA.getD : ∀ {vs : List V} {ds : List D} {i : Nat} {d : D}, DnA s K F G vs ds → ds[i]? = some d → ∃ v, vs[i]? = some v ∧ Dn s K F G v d
  | _, _, _, _, .nil, e => by simp at e
  | _, _, 0, _, .cons h _, e => by simp at e; subst e; exact ⟨_, rfl, h⟩
  | _, _, i + 1, _, .cons _ r, e => by
    obtain ⟨d, h1, h2⟩ := DnA.getD (i := i) r (by simpa using e)
    exact ⟨d, by simpa using h1, h2⟩
theorem DnA.app : ∀ {vs ws : List V} {ds es : List D}, DnA s K F G vs ds → DnA s K F G ws es → DnA s K F G (vs ++ ws) (ds ++ es)
  | _, _, _, _, .nil, r => r
  | _, _, _, _, .cons h t, r => .cons h (DnA.app t r)
theorem DnA.take : ∀ {vs : List V} {ds : List D} (n : Nat), DnA s K F G vs ds → DnA s K F G (vs.take n) (ds.take n)
  | _, _, 0, _ => .nil
  | _, _, _ + 1, .nil => .nil
  | _, _, n + 1, .cons h t => .cons h (DnA.take n t)
theorem DnA.drop : ∀ {vs : List V} {ds : List D} (n : Nat), DnA s K F G vs ds → DnA s K F G (vs.drop n) (ds.drop n)
  | _, _, 0, r => r
  | _, _, _ + 1, .nil => .nil
  | _, _, n + 1, .cons _ t => DnA.drop n t
theorem DnA.set {x : V} {d : D} (r : Dn s K F G x d) : ∀ {xs : List V} {ds : List D} (i : Nat), DnA s K F G xs ds → DnA s K F G (xs.set i x) (ds.set i d)
  | _, _, _, .nil => .nil
  | _, _, 0, .cons _ t => .cons r t
  | _, _, i + 1, .cons q t => .cons q (DnA.set r i t)
theorem DnA.rep {vs : List V} {ds : List D} (h : DnA s K F G vs ds) : ∀ k : Nat, DnA s K F G (List.replicate k vs).flatten (List.replicate k ds).flatten
  | 0 => .nil
  | k + 1 => by
    rw [List.replicate_succ, List.replicate_succ, List.flatten_cons, List.flatten_cons]
    exact h.app (DnA.rep h k)
end

/-! ### views of a heap -/
noncomputable def vw (p : Addr → HO → Prop) (H : Hp) : Hp := fun a => (H a).bind fun o => open Classical in if p a o then some o else none
theorem vw_iff {p : Addr → HO → Prop} {H : Hp} {a : Addr} {o : HO} : vw p H a = some o ↔ H a = some o ∧ p a o := by
  unfold vw
  cases e : H a with
  | none => simp
  | some u =>
    simp only [Option.bind_some]
    by_cases q : p a u
    · rw [if_pos q]
      exact Iff.intro (fun z => by cases z; exact ⟨rfl, q⟩) (fun z => z.1)
    · rw [if_neg q]
      exact Iff.intro (fun z => by cases z) (fun z => by obtain ⟨z1, z2⟩ := z; cases z1; exact absurd z2 q)
theorem IsT.not_L {o : HO} (h : IsT o) (h' : IsL o) : False := by cases o <;> first | exact h | exact h'
/-- what a body may keep: tuples; lists that are new since H0 and not owned -/
noncomputable def sv (H0 : Hp) (Pr : Addr → Prop) (H : Hp) : Hp := vw (fun a o => IsT o ∨ (IsL o ∧ ¬ Pr a ∧ H0 a = none)) H
/-- all but the world's objects -/
noncomputable def wv (F : List Addr) (H : Hp) : Hp := vw (fun a _ => a ∉ F) H
theorem sv_le {H0 : Hp} {Pr : Addr → Prop} {H : Hp} {a : Addr} {o : HO} (h : sv H0 Pr H a = some o) : H a = some o := (vw_iff.mp h).1
theorem wv_le {F : List Addr} {H : Hp} {a : Addr} {o : HO} (h : wv F H a = some o) : H a = some o := (vw_iff.mp h).1

/-! ### the world: what stands beside the data (a law's drawing state) -/
structure Wd where
  M : Type
  Rz : M → List Addr → Hp → Prop
  keep : ∀ {m F H H'}, Rz m F H → (∀ a ∈ F, H' a = H a) → (∀ a o, IsT o → H a = some o → H' a = some o) → Rz m F H'
  there : ∀ {m F H}, Rz m F H → ∀ a ∈ F, ∃ o, H a = some o ∧ ¬ IsT o

/-- a name's state: not known; data; borrowed data (an argument with lists); a list of its own -/
inductive Sl where
  | un | val (d : D) | bor (d : D) | own (ds : List D)
abbrev En := List Sl

/-- the def's entry, the world, the wish about exceptions -/
structure Cn where
  W : Wd
  H0 : Hp
  F0 : List Addr
  wx : WX

structure Tr (Pr : Addr → Prop) (F : List Addr) (H : Hp) (Pr' : Addr → Prop) (F' : List Addr) (H' : Hp) : Prop where
  pre : ∃ F1, F' = F ++ F1
  prn : ∀ a, Pr' a → ¬ Pr a → H a = none
  fn : ∀ a ∈ F', a ∉ F → H a = none
  stay : ∀ a o, H a = some o → ∃ o', H' a = some o'
  keep : ∀ a o, ¬ Pr a → H a = some o → H' a = some o
/-- .. of an expression: the owned lists stay too -/
structure Te (Pr : Addr → Prop) (F : List Addr) (H : Hp) (Pr' : Addr → Prop) (F' : List Addr) (H' : Hp) : Prop extends Tr Pr F H Pr' F' H' where
  prm : ∀ a, Pr a → Pr' a
  all : ∀ a o, a ∉ F → H a = some o → H' a = some o

/-- how a name's state is held -/
def Sk (K : PySem.W.Frag) (C : Cn) (Pr : Addr → Prop) (F : List Addr) (H : Hp) (v? : Option (Option V)) : Sl → Prop
  | .un => True
  | .val d => ∃ v, v? = some (some v) ∧ Dn true K F (sv C.H0 Pr H) v d
  | .bor d => ∃ v, v? = some (some v) ∧ Dn false K C.F0 (wv C.F0 C.H0) v d
  | .own ds => ∃ p vs, v? = some (some (.ref p)) ∧ H p = some (.lst vs) ∧ Pr p ∧ p ∉ F ∧ DnA true K F (sv C.H0 Pr H) vs ds

structure SR (K : PySem.W.Frag) (C : Cn) (Pr : Addr → Prop) (F : List Addr) (σ : L2.St) (ρ : En) (m : C.W.M) (H : Hp) : Prop where
  keep : ∀ a o, a ∉ C.F0 → C.H0 a = some o → H a = some o
  pre : ∃ F1, F = C.F0 ++ F1
  new : ∀ a ∈ F, a ∉ C.F0 → C.H0 a = none
  prs : ∀ a, Pr a → ∃ o, H a = some o ∧ ¬ IsT o
  prn : ∀ a, Pr a → a ∉ F → C.H0 a = none
  prf : ∀ a ∈ F, Pr a
  rz : C.W.Rz m F H
  len : ρ.length = σ.length
  slot : ∀ (i : Nat) (s : Sl), ρ[i]? = some s → Sk K C Pr F H σ[i]? s
  dist : ∀ (i j : Nat) (ds es : List D) (p : Addr), i ≠ j → ρ[i]? = some (.own ds) → ρ[j]? = some (.own es) → σ[i]? = some (some (.ref p)) → σ[j]? = some (some (.ref p)) → False

section
variable {Pr Pr1 Pr2 : Addr → Prop} {F F1 F2 : List Addr} {H H1 H2 : Hp}
theorem pre_trans (a : ∃ G, F1 = F ++ G) (b : ∃ G, F2 = F1 ++ G) : ∃ G, F2 = F ++ G := by
  obtain ⟨x, rfl⟩ := a
  obtain ⟨y, rfl⟩ := b
  exact ⟨x ++ y, by rw [List.append_assoc]⟩
theorem pre_mem (a : ∃ G, F1 = F ++ G) {x : Addr} (h : x ∈ F) : x ∈ F1 := by
  obtain ⟨y, rfl⟩ := a
  exact List.mem_append_left _ h
theorem some_of {a : Addr} (h : ∀ o, H a = some o → ∃ o', H1 a = some o') (e : H1 a = none) : H a = none := by
  cases q : H a with
  | none => rfl
  | some o =>
    obtain ⟨o', z⟩ := h o q
    rw [e] at z; cases z
theorem Tr.refl : Tr Pr F H Pr F H := ⟨⟨[], by simp⟩, fun _ h n => absurd h n, fun _ h n => absurd h n, fun _ o h => ⟨o, h⟩, fun _ _ _ h => h⟩
theorem Te.refl : Te Pr F H Pr F H := ⟨Tr.refl, fun _ h => h, fun _ _ _ h => h⟩
theorem Tr.trans (a : Tr Pr F H Pr1 F1 H1) (b : Tr Pr1 F1 H1 Pr2 F2 H2) : Tr Pr F H Pr2 F2 H2 := by
  refine ⟨pre_trans a.pre b.pre, fun x h n => ?_, fun x h n => ?_, fun x o h => ?_, fun x o n h => ?_⟩
  · by_cases q : Pr1 x
    · exact a.prn x q n
    · exact some_of (a.stay x) (b.prn x h q)
  · by_cases q : x ∈ F1
    · exact a.fn x q n
    · exact some_of (a.stay x) (b.fn x h q)
  · obtain ⟨o', h'⟩ := a.stay x o h
    exact b.stay x o' h'
  · refine b.keep x o (fun q => ?_) (a.keep x o n h)
    have z := a.prn x q n
    rw [h] at z; cases z
theorem Te.trans (a : Te Pr F H Pr1 F1 H1) (b : Te Pr1 F1 H1 Pr2 F2 H2) : Te Pr F H Pr2 F2 H2 := by
  refine ⟨a.toTr.trans b.toTr, fun x h => b.prm x (a.prm x h), fun x o n h => b.all x o (fun q => ?_) (a.all x o n h)⟩
  have z := a.fn x q n
  rw [h] at z; cases z
/-- a strong value stays -/
theorem sv_tr {H0 : Hp} (t : Tr Pr F H Pr1 F1 H1) (hp : ∀ a, Pr a → ∃ o, H a = some o ∧ ¬ IsT o) : ∀ a o, sv H0 Pr H a = some o → sv H0 Pr1 H1 a = some o := fun a o h => by
  obtain ⟨e, q⟩ := vw_iff.mp h
  have np : ¬ Pr a := fun z => by
    rcases q with q | q
    · obtain ⟨o', e', n⟩ := hp a z
      rw [e] at e'; cases e'
      exact n q
    · exact q.2.1 z
  refine vw_iff.mpr ⟨t.keep a o np e, q.imp id fun q => ⟨q.1, fun z => ?_, q.2.2⟩⟩
  have z := t.prn a z np
  rw [e] at z; cases z
/-- a weak value stays behind an expression -/
theorem wv_te (t : Te Pr F H Pr1 F1 H1) : ∀ a o, wv F H a = some o → wv F1 H1 a = some o := fun a o h => by
  obtain ⟨e, q⟩ := vw_iff.mp h
  refine vw_iff.mpr ⟨t.all a o q e, fun z => ?_⟩
  have z := t.fn a z q
  rw [e] at z; cases z
theorem Dn.tr {K : PySem.W.Frag} {H0 : Hp} {v : V} {d : D} (t : Tr Pr F H Pr1 F1 H1) (hp : ∀ a, Pr a → ∃ o, H a = some o ∧ ¬ IsT o) (h : Dn true K F (sv H0 Pr H) v d) : Dn true K F1 (sv H0 Pr1 H1) v d :=
  h.mono t.pre (sv_tr t hp)
theorem Dn.te {K : PySem.W.Frag} {v : V} {d : D} (t : Te Pr F H Pr1 F1 H1) (h : Dn false K F (wv F H) v d) : Dn false K F1 (wv F1 H1) v d := h.mono t.pre (wv_te t)
end
end RR

/-! RB: steps of the state -/
namespace RR
open PySem PySem.Spec PyProof.Rows L2
variable {K : PySem.W.Frag} {C : Cn} {Pr Pr' : Addr → Prop} {F F' : List Addr} {σ : L2.St} {ρ : En} {m m' : C.W.M} {H H' : Hp}

theorem SR.h0 (S : SR K C Pr F σ ρ m H) {a : Addr} (e : H a = none) : a ∉ C.F0 → C.H0 a = none := fun n => by
  cases q : C.H0 a with
  | none => rfl
  | some o =>
    have z := S.keep a o n q
    rw [e] at z; cases z
theorem SR.pf0 (S : SR K C Pr F σ ρ m H) {a : Addr} (h : a ∈ C.F0) : a ∈ F := pre_mem S.pre h
theorem SR.nf {a : Addr} (S : SR K C Pr F σ ρ m H) (e : H a = none) : a ∉ F := fun z => by
  obtain ⟨o, q, _⟩ := S.prs a (S.prf a z)
  rw [e] at q; cases q
theorem SR.np {a : Addr} (S : SR K C Pr F σ ρ m H) (e : H a = none) : ¬ Pr a := fun z => by
  obtain ⟨o, q, _⟩ := S.prs a z
  rw [e] at q; cases q
theorem SR.h0n (S : SR K C Pr F σ ρ m H) {a : Addr} (e : H a = none) : C.H0 a = none := S.h0 e fun z => S.nf e (S.pf0 z)

/-- the heap has grown -/
theorem SR.te (S : SR K C Pr F σ ρ m H) (k : ∀ a o, H a = some o → H' a = some o) : Te Pr F H Pr F H' :=
  ⟨⟨⟨[], by simp⟩, fun _ h n => absurd h n, fun _ h n => absurd h n, fun a o h => ⟨o, k a o h⟩, fun a o _ h => k a o h⟩, fun _ h => h, fun a o _ h => k a o h⟩
theorem Sk.tr {v? : Option (Option V)} (hs : ∀ a, Pr a → ∃ o, H a = some o ∧ ¬ IsT o) (t : Tr Pr F H Pr' F' H') (ko : ∀ p, Pr p → p ∉ F → ∀ o, H p = some o → H' p = some o) (po : ∀ p, Pr p → p ∉ F → Pr' p) :
    ∀ {s : Sl}, Sk K C Pr F H v? s → Sk K C Pr' F' H' v? s
  | .un, _ => trivial
  | .val d, ⟨v, e, h⟩ => ⟨v, e, h.tr t hs⟩
  | .bor d, h => h
  | .own ds, ⟨p, vs, e, hp, pp, nf, h⟩ => ⟨p, vs, e, ko p pp nf _ hp, po p pp nf, (fun z => by
      have q := t.fn p z nf
      rw [hp] at q
      cases q), h.mono t.pre (sv_tr t hs)⟩
theorem SR.grow (S : SR K C Pr F σ ρ m H) (k : ∀ a o, H a = some o → H' a = some o) : SR K C Pr F σ ρ m H' where
  keep := fun a o n e => k a o (S.keep a o n e)
  pre := S.pre
  new := S.new
  prs := fun a p => let ⟨o, e, n⟩ := S.prs a p; ⟨o, k a o e, n⟩
  prn := S.prn
  prf := S.prf
  rz := C.W.keep S.rz (fun a h => by
    obtain ⟨o, e, _⟩ := S.prs a (S.prf a h)
    rw [e, k a o e]) fun a o _ e => k a o e
  len := S.len
  slot := fun i s e => Sk.tr S.prs (S.te k).toTr (fun p _ _ o h => k p o h) (fun p h _ => h) (S.slot i s e)
  dist := S.dist
theorem SR.new1 (S : SR K C Pr F σ ρ m H) {p : Addr} {o : HO} (h : H p = none) : SR K C Pr F σ ρ m (upd H p o) ∧ Te Pr F H Pr F (upd H p o) := by
  have k : ∀ a u, H a = some u → upd H p o a = some u := fun a u e => by rw [upd_ne (ne_of_none e h)]; exact e
  exact ⟨S.grow k, S.te k⟩

/-- behind a call: the world has turned -/
theorem SR.turned (S : SR K C Pr F σ ρ m H) (rz : C.W.Rz m' F' H') (pre : ∃ G, F' = F ++ G) (fr : ∀ a ∈ F', a ∉ F → H a = none) (k : ∀ a o, a ∉ F → H a = some o → H' a = some o) :
    SR K C (fun a => Pr a ∨ a ∈ F') F' σ ρ m' H' ∧ Te Pr F H (fun a => Pr a ∨ a ∈ F') F' H' := by
  have t : Te Pr F H (fun a => Pr a ∨ a ∈ F') F' H' := by
    refine ⟨⟨pre, fun a h n => ?_, fr, fun a o h => ?_, fun a o n h => ?_⟩, fun _ h => .inl h, k⟩
    · rcases h with h | h
      · exact absurd h n
      · exact fr a h fun z => n (S.prf a z)
    · by_cases q : a ∈ F
      · obtain ⟨o', e, _⟩ := C.W.there rz a (pre_mem pre q)
        exact ⟨o', e⟩
      · exact ⟨o, k a o q h⟩
    · exact k a o (fun z => n (S.prf a z)) h
  refine ⟨⟨fun a o n e => k a o (fun z => ?_) (S.keep a o n e), pre_trans S.pre pre, fun a h n => ?_, fun a h => ?_, fun a h n => ?_, fun a h => .inr h, rz, S.len, fun i s e => Sk.tr S.prs t.toTr (fun p _ nf o h => k p o nf h) (fun p h _ => .inl h) (S.slot i s e), S.dist⟩, t⟩
  · have z := S.new a z n
    rw [e] at z; cases z
  · by_cases q : a ∈ F
    · exact S.new a q n
    · exact S.h0 (fr a h q) n
  · by_cases q : a ∈ F'
    · exact C.W.there rz a q
    · rcases h with h | h
      · obtain ⟨o, e, n⟩ := S.prs a h
        exact ⟨o, k a o (fun z => q (pre_mem pre z)) e, n⟩
      · exact absurd h q
  · rcases h with h | h
    · exact S.prn a h fun z => n (pre_mem pre z)
    · exact absurd h n

theorem get_set {α : Type} {l : List α} {i j : Nat} {x y : α} (h : (l.set i x)[j]? = some y) : (j = i ∧ y = x) ∨ (j ≠ i ∧ l[j]? = some y) := by
  by_cases e : j = i
  · subst e
    refine .inl ⟨rfl, ?_⟩
    by_cases q : j < l.length
    · rw [List.getElem?_set_self q] at h
      exact (Option.some.inj h).symm
    · rw [List.getElem?_eq_none (by simpa using Nat.le_of_not_lt q)] at h; cases h
  · rw [List.getElem?_set_ne (Ne.symm e)] at h
    exact .inr ⟨e, h⟩
theorem lt_of_set {α : Type} {l : List α} {i : Nat} {x y : α} (h : (l.set i x)[i]? = some y) : i < l.length := by
  have z := (List.getElem?_eq_some_iff.mp h).1
  simpa using z
/-- name = data -/
theorem SR.set (S : SR K C Pr F σ ρ m H) {v : V} {d : D} (i : Nat) (h : Dn true K F (sv C.H0 Pr H) v d) : SR K C Pr F (σ.set i (some v)) (ρ.set i (.val d)) m H where
  keep := S.keep
  pre := S.pre
  new := S.new
  prs := S.prs
  prn := S.prn
  prf := S.prf
  rz := S.rz
  len := by simpa using S.len
  slot := fun j s e => by
    rcases get_set e with ⟨rfl, rfl⟩ | ⟨ne, e⟩
    · have hi : j < σ.length := by rw [← S.len]; exact lt_of_set e
      exact ⟨v, by rw [List.getElem?_set_self hi], h⟩
    · rw [List.getElem?_set_ne (Ne.symm ne)]
      exact S.slot j s e
  dist := fun a b ds es p ne ea eb sa sb => by
    rcases get_set ea with ⟨rfl, q⟩ | ⟨na, ea⟩
    · cases q
    · rcases get_set eb with ⟨rfl, q⟩ | ⟨nb, eb⟩
      · cases q
      · rw [List.getElem?_set_ne (Ne.symm na)] at sa
        rw [List.getElem?_set_ne (Ne.symm nb)] at sb
        exact S.dist a b ds es p ne ea eb sa sb
/-- a name is forgotten -/
theorem SR.drop (S : SR K C Pr F σ ρ m H) (i : Nat) (x : Option V) : SR K C Pr F (σ.set i x) (ρ.set i .un) m H where
  keep := S.keep
  pre := S.pre
  new := S.new
  prs := S.prs
  prn := S.prn
  prf := S.prf
  rz := S.rz
  len := by simpa using S.len
  slot := fun j s e => by
    rcases get_set e with ⟨rfl, rfl⟩ | ⟨ne, e⟩
    · trivial
    · rw [List.getElem?_set_ne (Ne.symm ne)]
      exact S.slot j s e
  dist := fun a b ds es p ne ea eb sa sb => by
    rcases get_set ea with ⟨rfl, q⟩ | ⟨na, ea⟩
    · cases q
    · rcases get_set eb with ⟨rfl, q⟩ | ⟨nb, eb⟩
      · cases q
      · rw [List.getElem?_set_ne (Ne.symm na)] at sa
        rw [List.getElem?_set_ne (Ne.symm nb)] at sb
        exact S.dist a b ds es p ne ea eb sa sb
/-- a new list is owned: S at the start of the expression, S' at its end -/
theorem SR.owned (S : SR K C Pr F σ ρ m H) (t : Te Pr F H Pr' F' H') (S' : SR K C Pr' F' σ ρ m' H') {p : Addr} {vs : List V} {ds : List D} (i : Nat) (hn : H p = none) (hp : H' p = some (.lst vs)) (np : ¬ Pr' p)
    (h : DnA true K F' (sv C.H0 Pr' H') vs ds) (n : D.nls ds = true) :
    SR K C (fun a => Pr' a ∨ a = p) F' (σ.set i (some (.ref p))) (ρ.set i (.own ds)) m' H' ∧ Te Pr F H (fun a => Pr' a ∨ a = p) F' H' := by
  have t2 : Te Pr F H (fun a => Pr' a ∨ a = p) F' H' := by
    refine ⟨⟨t.pre, fun a h n => ?_, t.fn, t.stay, t.keep⟩, fun a h => .inl (t.prm a h), t.all⟩
    rcases h with h | rfl
    · exact t.prn a h n
    · exact hn
  have nf : p ∉ F' := fun z => np (S'.prf p z)
  have h0p : C.H0 p = none := S.h0n hn
  refine ⟨⟨S'.keep, S'.pre, S'.new, fun a ha => ?_, fun a ha n => ?_, fun a ha => .inl (S'.prf a ha), S'.rz, by simpa using S'.len, fun j s e => ?_, fun a b ds es q ne ea eb sa sb => ?_⟩, t2⟩
  · rcases ha with ha | rfl
    · exact S'.prs a ha
    · exact ⟨_, hp, fun z => z⟩
  · rcases ha with ha | rfl
    · exact S'.prn a ha n
    · exact h0p
  · rcases get_set e with ⟨rfl, rfl⟩ | ⟨ne, e⟩
    · have hi : j < σ.length := by rw [← S.len]; exact lt_of_set e
      exact ⟨p, vs, by rw [List.getElem?_set_self hi], hp, .inr rfl, nf, h.flat ⟨[], by simp⟩ (fun a o i q => vw_iff.mpr ⟨sv_le q, .inl i⟩) n⟩
    · rw [List.getElem?_set_ne (Ne.symm ne)]
      cases s with
      | un => trivial
      | bor d => exact S.slot j _ e
      | val d =>
        obtain ⟨v, e1, q⟩ := S.slot j _ e
        exact ⟨v, e1, q.tr t2.toTr S.prs⟩
      | own ds' =>
        exact Sk.tr S.prs t2.toTr (fun q _ nq o hq => t.all q o nq hq) (fun q pq _ => .inl (t.prm q pq)) (S.slot j _ e)
  · have own : ∀ c es', c ≠ i → ρ[c]? = some (.own es') → σ[c]? = some (some (.ref p)) → False := fun c es' nc ec sc => by
      obtain ⟨q', ws, e1, h1, h2, _⟩ := S'.slot c _ ec
      rw [sc] at e1
      cases e1
      exact np h2
    by_cases ha : a = i
    · subst ha
      have hi : a < σ.length := by rw [← S.len]; exact lt_of_set ea
      rw [List.getElem?_set_self hi] at sa
      cases sa
      rw [List.getElem?_set_ne ne] at eb sb
      exact own b _ (Ne.symm ne) eb sb
    · rw [List.getElem?_set_ne (Ne.symm ha)] at ea sa
      by_cases hb : b = i
      · subst hb
        have hi : b < σ.length := by rw [← S.len]; exact lt_of_set eb
        rw [List.getElem?_set_self hi] at sb
        cases sb
        exact own a _ ha ea sa
      · rw [List.getElem?_set_ne (Ne.symm hb)] at eb sb
        exact S.dist a b _ _ q ne ea eb sa sb
/-- an owned list is changed -/
theorem SR.change (S : SR K C Pr F σ ρ m H) {i : Nat} {p : Addr} {ds es : List D} {ws : List V} (e : ρ[i]? = some (.own ds)) (e1 : σ[i]? = some (some (.ref p))) (h : DnA true K F (sv C.H0 Pr H) ws es) :
    SR K C Pr F σ (ρ.set i (.own es)) m (upd H p (.lst ws)) ∧ Tr Pr F H Pr F (upd H p (.lst ws)) := by
  obtain ⟨p', vs, e2, hp, pp, nf, h4⟩ := S.slot i _ e
  rw [e1] at e2
  cases e2
  have t : Tr Pr F H Pr F (upd H p (.lst ws)) := ⟨⟨[], by simp⟩, fun _ h n => absurd h n, fun _ h n => absurd h n, fun a o h => by
    by_cases q : a = p
    · exact ⟨_, by rw [q, upd_same]⟩
    · exact ⟨o, by rw [upd_ne q]; exact h⟩, fun a o n h => by rw [upd_ne (fun q => n (by rw [q]; exact pp))]; exact h⟩
  have h0p : C.H0 p = none := S.prn p pp nf
  refine ⟨⟨fun a o n e => ?_, S.pre, S.new, fun a ha => ?_, S.prn, S.prf, C.W.keep S.rz (fun a ha => upd_ne fun q => nf (q ▸ ha)) (fun a o it e => by rw [upd_ne (fun q => by rw [q, hp] at e; cases e; exact it)]; exact e), by simpa using S.len, fun j s e => ?_, fun a b ds' es' q ne ea eb sa sb => ?_⟩, t⟩
  · rw [upd_ne (fun q => by rw [q, h0p] at e; cases e)]
    exact S.keep a o n e
  · by_cases q : a = p
    · exact ⟨.lst ws, by rw [q, upd_same], fun z => z⟩
    · obtain ⟨o, e, n⟩ := S.prs a ha
      exact ⟨o, by rw [upd_ne q]; exact e, n⟩
  · rcases get_set e with ⟨rfl, rfl⟩ | ⟨ne, e⟩
    · exact ⟨p, ws, e1, upd_same, pp, nf, h.mono ⟨[], by simp⟩ (sv_tr t S.prs)⟩
    · cases s with
      | un => trivial
      | bor d => exact S.slot j _ e
      | val d =>
        obtain ⟨v, e1, q⟩ := S.slot j _ e
        exact ⟨v, e1, q.tr t S.prs⟩
      | own ds' =>
        obtain ⟨q, ws', e3, h1, h2, h3, h4⟩ := S.slot j _ e
        refine ⟨q, ws', e3, ?_, h2, h3, h4.mono ⟨[], by simp⟩ (sv_tr t S.prs)⟩
        rw [upd_ne (fun z => ?_)]
        · exact h1
        · subst z
          exact S.dist j i _ _ _ ne e ‹ρ[i]? = some (.own ds)› e3 e1
  · have old : ∀ (c : Nat) (x : List D), (ρ.set i (.own es))[c]? = some (Sl.own x) → ∃ y, ρ[c]? = some (Sl.own y) := fun c x h => by
      rcases get_set h with ⟨q', z⟩ | ⟨_, z⟩
      · exact ⟨ds, by rw [q']; exact e⟩
      · exact ⟨x, z⟩
    obtain ⟨y, ea⟩ := old a _ ea
    obtain ⟨z, eb⟩ := old b _ eb
    exact S.dist a b y z q ne ea eb sa sb
/-- an owned list becomes data -/
theorem SR.release (S : SR K C Pr F σ ρ m H) {i : Nat} {ds : List D} (e : ρ[i]? = some (.own ds)) :
    ∃ Pr', SR K C Pr' F σ (ρ.set i (.val (.lst ds))) m H ∧ Tr Pr F H Pr' F H := by
  obtain ⟨p, vs, e1, hp, pp, nf, h4⟩ := S.slot i _ e
  have h0p : C.H0 p = none := S.prn p pp nf
  have t : Tr Pr F H (fun a => Pr a ∧ a ≠ p) F H := ⟨⟨[], by simp⟩, fun _ h n => absurd h.1 n, fun _ h n => absurd h n, fun a o h => ⟨o, h⟩, fun _ _ _ h => h⟩
  refine ⟨_, ⟨S.keep, S.pre, S.new, fun a h => S.prs a h.1, fun a h n => S.prn a h.1 n, fun a h => ⟨S.prf a h, fun q => nf (q ▸ h)⟩, S.rz, by simpa using S.len, fun j s ej => ?_, fun a b ds' es' q ne ea eb sa sb => ?_⟩, t⟩
  · rcases get_set ej with ⟨rfl, rfl⟩ | ⟨ne, ej⟩
    · refine ⟨.ref p, e1, .lst (vw_iff.mpr ⟨hp, .inr ⟨trivial, fun z => z.2 rfl, h0p⟩⟩) (h4.mono ⟨[], by simp⟩ (sv_tr t S.prs))⟩
    · cases s with
      | un => trivial
      | bor d => exact S.slot j _ ej
      | val d =>
        obtain ⟨v, e1, q⟩ := S.slot j _ ej
        exact ⟨v, e1, q.tr t S.prs⟩
      | own ds' =>
        obtain ⟨q, ws', e3, h1, h2, h3, h4⟩ := S.slot j _ ej
        refine ⟨q, ws', e3, h1, ⟨h2, fun z => ?_⟩, h3, h4.mono ⟨[], by simp⟩ (sv_tr t S.prs)⟩
        subst z
        exact S.dist j i _ _ _ ne ej e e3 e1
  · rcases get_set ea with ⟨rfl, z⟩ | ⟨na, ea⟩
    · cases z
    · rcases get_set eb with ⟨rfl, z⟩ | ⟨nb, eb⟩
      · cases z
      · exact S.dist a b _ _ q ne ea eb sa sb

/-- names forgotten -/
def wipeD (ρ : En) : List Nat → En
  | [] => ρ
  | i :: r => (wipeD ρ r).set i .un
theorem SR.wipe : ∀ (vs : List Nat) {σ : L2.St} {ρ : En}, SR K C Pr F σ ρ m H → SR K C Pr F (L2.wipe σ vs) (wipeD ρ vs) m H
  | [], _, _, S => S
  | i :: r, σ, ρ, S => by
    unfold L2.wipe wipeD
    exact (SR.wipe r S).drop i none
/-- behind expressions over fewer names all of them are as they were -/
theorem SR.back {σ' : L2.St} {ρ' : En} (S : SR K C Pr F σ ρ m H) (t : Te Pr F H Pr' F' H') (S' : SR K C Pr' F' σ' ρ' m' H') : SR K C Pr' F' σ ρ m' H' where
  keep := S'.keep
  pre := S'.pre
  new := S'.new
  prs := S'.prs
  prn := S'.prn
  prf := S'.prf
  rz := S'.rz
  len := S.len
  slot := fun i s e => Sk.tr S.prs t.toTr (fun p _ nf o h => t.all p o nf h) (fun p h _ => t.prm p h) (S.slot i s e)
  dist := S.dist
end RR

/-! RC: judgements over data: expressions -/
namespace RR
open PySem PySem.Spec PyProof.Rows L2

/-- a reading over data: of the names' states and the world what is wanted of the answer and of a refusal -/
abbrev DT (M : Type) := En → M → (D → M → Prop) → (Str → M → Prop) → Prop
abbrev DTT (M : Type) := En → M → (Bool → M → Prop) → (Str → M → Prop) → Prop
abbrev DTA (M : Type) := En → M → (List D → M → Prop) → (Str → M → Prop) → Prop

/-- how an answer is held: w for a look; s to be kept; f to be kept, a list being new; r to be handed back -/
inductive Cl where
  | w | s | f | r

def Dv (K : PySem.W.Frag) (C : Cn) : Cl → (Addr → Prop) → List Addr → Hp → Hp → V → D → Prop
  | .w, _, F', _, H', v, d => Dn false K F' (wv F' H') v d
  | .s, Pr', F', _, H', v, d => Dn true K F' (sv C.H0 Pr' H') v d
  | .r, _, F', _, H', v, d => Dn true K F' (sv C.H0 (· ∈ F') H') v d
  | .f, Pr', F', H, H', v, d => Dn true K F' (sv C.H0 Pr' H') v d ∧ ∀ ds, d = .lst ds → ∃ p vs, v = .ref p ∧ H p = none ∧ ¬ Pr' p ∧ H' p = some (.lst vs) ∧ DnA true K F' (sv C.H0 Pr' H') vs ds
def DvA (K : PySem.W.Frag) (C : Cn) : Cl → (Addr → Prop) → List Addr → Hp → List V → List D → Prop
  | .w, _, F', H', v, d => DnA false K F' (wv F' H') v d
  | .r, _, F', H', v, d => DnA true K F' (sv C.H0 (· ∈ F') H') v d
  | _, Pr', F', H', v, d => DnA true K F' (sv C.H0 Pr' H') v d

def Post (K : PySem.W.Frag) (C : Cn) (c : Cl) (Pr : Addr → Prop) (F : List Addr) (H : Hp) (σ : L2.St) (ρ : En) (Q : D → C.W.M → Prop) : VK := fun v H' =>
  ∃ Pr' F' m' d, SR K C Pr' F' σ ρ m' H' ∧ Te Pr F H Pr' F' H' ∧ Dv K C c Pr' F' H H' v d ∧ Q d m'
def PostA (K : PySem.W.Frag) (C : Cn) (c : Cl) (Pr : Addr → Prop) (F : List Addr) (H : Hp) (σ : L2.St) (ρ : En) (Q : List D → C.W.M → Prop) : List V → Hp → Prop := fun vs H' =>
  ∃ Pr' F' m' ds, SR K C Pr' F' σ ρ m' H' ∧ Te Pr F H Pr' F' H' ∧ DvA K C c Pr' F' H' vs ds ∧ Q ds m'
def PostT (K : PySem.W.Frag) (C : Cn) (Pr : Addr → Prop) (F : List Addr) (H : Hp) (σ : L2.St) (ρ : En) (Q : Bool → C.W.M → Prop) : Bool → Hp → Prop := fun b H' =>
  ∃ Pr' F' m', SR K C Pr' F' σ ρ m' H' ∧ Te Pr F H Pr' F' H' ∧ Q b m'
/-- a refusal by the class of the name x is taken -/
def Ex (X : Cx) (C : Cn) (Pr : Addr → Prop) (F : List Addr) (H : Hp) (σ : L2.St) (ρ : En) (Z : Str → C.W.M → Prop) : Prop :=
  ∀ x cls Pr' F' m' H', X.mg x = some cls → SR X.K C Pr' F' σ ρ m' H' → Tr Pr F H Pr' F' H' → Z x m' → C.wx cls none σ H'

def J (c : Cl) (X : Cx) (C : Cn) (e : Expr) (t : DT C.W.M) : Prop := ∃ te, PE X e te ∧
  ∀ σ H Pr F ρ m Q Z (R : VK), SR X.K C Pr F σ ρ m H → Ex X C Pr F H σ ρ Z → t ρ m Q Z → (∀ v H', Post X.K C c Pr F H σ ρ Q v H' → R v H') → te σ H R
def JT (X : Cx) (C : Cn) (e : Expr) (t : DTT C.W.M) : Prop := ∃ te, PT X e te ∧
  ∀ σ H Pr F ρ m Q Z (R : Bool → Hp → Prop), SR X.K C Pr F σ ρ m H → Ex X C Pr F H σ ρ Z → t ρ m Q Z → (∀ v H', PostT X.K C Pr F H σ ρ Q v H' → R v H') → te σ H R
def JW (X : Cx) (C : Cn) (e : Expr) (t : DTT C.W.M) : Prop := ∃ te, PW X e te ∧
  ∀ σ H Pr F ρ m Q Z (R : Bool → Hp → Prop), SR X.K C Pr F σ ρ m H → Ex X C Pr F H σ ρ Z → t ρ m Q Z → (∀ v H', PostT X.K C Pr F H σ ρ Q v H' → R v H') → te σ H R
def JA (c : Cl) (X : Cx) (C : Cn) (es : List Expr) (t : DTA C.W.M) : Prop := ∃ te, PA X es te ∧
  ∀ σ H Pr F ρ m Q Z (R : List V → Hp → Prop), SR X.K C Pr F σ ρ m H → Ex X C Pr F H σ ρ Z → t ρ m Q Z → (∀ v H', PostA X.K C c Pr F H σ ρ Q v H' → R v H') → te σ H R

/-! ### moving answers -/
section
variable {K : PySem.W.Frag} {C : Cn} {Pr Pr' Pr2 : Addr → Prop} {F F' F2 : List Addr} {σ : L2.St} {ρ : En} {m m' : C.W.M} {H H' H2 : Hp} {v : V} {d : D} {vs : List V} {ds : List D}
theorem SR.sv_wv (S : SR K C Pr F σ ρ m H) : ∀ a o, sv C.H0 Pr H a = some o → wv F H a = some o := fun a o h => by
  obtain ⟨e, q⟩ := vw_iff.mp h
  refine vw_iff.mpr ⟨e, fun z => ?_⟩
  rcases q with q | q
  · obtain ⟨o', e', n⟩ := S.prs a (S.prf a z)
    rw [e] at e'; cases e'
    exact n q
  · exact q.2.1 (S.prf a z)
theorem SR.sv_rv (S : SR K C Pr F σ ρ m H) : ∀ a o, sv C.H0 Pr H a = some o → sv C.H0 (· ∈ F) H a = some o := fun a o h => by
  obtain ⟨e, q⟩ := vw_iff.mp h
  exact vw_iff.mpr ⟨e, q.imp id fun q => ⟨q.1, fun z => q.2.1 (S.prf a z), q.2.2⟩⟩
theorem rv_te {H0 : Hp} (t : Te Pr F H Pr' F' H') (ht : ∀ a ∈ F, ∃ o, H a = some o ∧ ¬ IsT o) : ∀ a o, sv H0 (· ∈ F) H a = some o → sv H0 (· ∈ F') H' a = some o := fun a o h => by
  obtain ⟨e, q⟩ := vw_iff.mp h
  have nf : a ∉ F := fun z => by
    rcases q with q | q
    · obtain ⟨o', e', n⟩ := ht a z
      rw [e] at e'; cases e'
      exact n q
    · exact q.2.1 z
  refine vw_iff.mpr ⟨t.all a o nf e, q.imp id fun q => ⟨q.1, fun z => ?_, q.2.2⟩⟩
  have z := t.fn a z nf
  rw [e] at z; cases z
theorem Dv.sw (S : SR K C Pr' F' σ ρ m H') (h : Dv K C .s Pr' F' H H' v d) : Dv K C .w Pr' F' H H' v d := Dn.weak (Dn.mono ⟨[], by simp⟩ S.sv_wv (show Dn true K F' (sv C.H0 Pr' H') v d from h))
theorem Dv.sr (S : SR K C Pr' F' σ ρ m H') (h : Dv K C .s Pr' F' H H' v d) : Dv K C .r Pr' F' H H' v d := Dn.mono ⟨[], by simp⟩ S.sv_rv (show Dn true K F' (sv C.H0 Pr' H') v d from h)
theorem Dv.fs (h : Dv K C .f Pr' F' H H' v d) : Dv K C .s Pr' F' H H' v d := h.1
theorem Post.imp {c c' : Cl} {Q : D → C.W.M → Prop} (h : Post K C c Pr F H σ ρ Q v H') (i : ∀ Pr' F' m' d, SR K C Pr' F' σ ρ m' H' → Dv K C c Pr' F' H H' v d → Dv K C c' Pr' F' H H' v d) : Post K C c' Pr F H σ ρ Q v H' := by
  obtain ⟨Pr', F', m', d, S, t, q, r⟩ := h
  exact ⟨Pr', F', m', d, S, t, i _ _ _ _ S q, r⟩
/-- an answer behind a further expression -/
theorem Dv.te {c : Cl} (hc : c ≠ .f) (S : SR K C Pr F σ ρ m H) (t : Te Pr F H Pr' F' H') {Ha Hb : Hp} (h : Dv K C c Pr F Ha H v d) : Dv K C c Pr' F' Hb H' v d := by
  cases c with
  | w => exact Dn.te t h
  | s => exact Dn.tr t.toTr S.prs h
  | r => exact Dn.mono t.pre (rv_te t fun a z => S.prs a (S.prf a z)) h
  | f => exact absurd rfl hc
theorem DvA.cons {c : Cl} (hc : c ≠ .f) {Ha : Hp} (h : Dv K C c Pr F Ha H v d) (r : DvA K C c Pr F H vs ds) : DvA K C c Pr F H (v :: vs) (d :: ds) := by
  cases c with
  | w => exact DnA.cons h r
  | s => exact DnA.cons h r
  | r => exact DnA.cons h r
  | f => exact absurd rfl hc
theorem Ex.te {X : Cx} {Z : Str → C.W.M → Prop} (h : Ex X C Pr F H σ ρ Z) (t : Tr Pr F H Pr' F' H') : Ex X C Pr' F' H' σ ρ Z := fun x cls P2 F2 m2 H2 e S t2 z => h x cls P2 F2 m2 H2 e S (t.trans t2) z
theorem Post.te {c : Cl} {Q : D → C.W.M → Prop} (t : Te Pr F H Pr' F' H') (h : Post K C c Pr' F' H' σ ρ Q v H2) : Post K C c Pr F H σ ρ Q v H2 := by
  obtain ⟨P2, F2, m2, d, S, t2, q, r⟩ := h
  refine ⟨P2, F2, m2, d, S, t.trans t2, ?_, r⟩
  cases c with
  | w => exact q
  | s => exact q
  | r => exact q
  | f =>
    refine ⟨q.1, fun ds e => ?_⟩
    obtain ⟨p, vs, e1, e2, e3⟩ := q.2 ds e
    exact ⟨p, vs, e1, some_of (t.stay p) e2, e3⟩
theorem PostA.te {c : Cl} {Q : List D → C.W.M → Prop} (t : Te Pr F H Pr' F' H') (h : PostA K C c Pr' F' H' σ ρ Q vs H2) : PostA K C c Pr F H σ ρ Q vs H2 := by
  obtain ⟨P2, F2, m2, d, S, t2, q, r⟩ := h
  exact ⟨P2, F2, m2, d, S, t.trans t2, q, r⟩
theorem PostT.te {Q : Bool → C.W.M → Prop} {b : Bool} (t : Te Pr F H Pr' F' H') (h : PostT K C Pr' F' H' σ ρ Q b H2) : PostT K C Pr F H σ ρ Q b H2 := by
  obtain ⟨P2, F2, m2, S, t2, r⟩ := h
  exact ⟨P2, F2, m2, S, t.trans t2, r⟩
/-- data without a list, as an answer of any kind -/
theorem dv_flat (S : SR K C Pr' F' σ ρ m H') (h : Dn true K F' (sv C.H0 Pr' H') v d) (n : ∀ ds, d ≠ .lst ds) : Dv K C .f Pr' F' H H' v d := ⟨h, fun ds e => absurd e (n ds)⟩
end

section
variable {X : Cx} {C : Cn} {e : Expr} {es : List Expr} {pos : Pos}
theorem J.up {c c' : Cl} {t : DT C.W.M} (h : J c X C e t) (i : ∀ Pr' F' m' d H H' v σ ρ, SR X.K C Pr' F' σ ρ m' H' → Dv X.K C c Pr' F' H H' v d → Dv X.K C c' Pr' F' H H' v d) : J c' X C e t := by
  obtain ⟨te, p, q⟩ := h
  exact ⟨te, p, fun σ H Pr F ρ m Q Z R S E h k => q σ H Pr F ρ m Q Z R S E h fun v H' z => k v H' (z.imp fun _ _ _ _ S => i _ _ _ _ _ _ _ _ _ S)⟩
theorem J.sf {t : DT C.W.M} (h : J .f X C e t) : J .s X C e t := h.up fun _ _ _ _ _ _ _ _ _ S q => q.fs
theorem J.sw {t : DT C.W.M} (h : J .s X C e t) : J .w X C e t := h.up fun _ _ _ _ _ _ _ _ _ S q => q.sw S
theorem J.sr {t : DT C.W.M} (h : J .s X C e t) : J .r X C e t := h.up fun _ _ _ _ _ _ _ _ _ S q => q.sr S
theorem J.fw {t : DT C.W.M} (h : J .f X C e t) : J .w X C e t := h.sf.sw
theorem J.fr {t : DT C.W.M} (h : J .f X C e t) : J .r X C e t := h.sf.sr

/-! ### names and constants -/
def dVar {M : Type} (i : Nat) : DT M := fun ρ m Q _ => match ρ[i]? with | some (.val d) => Q d m | _ => False
def dBor {M : Type} (i : Nat) : DT M := fun ρ m Q _ => match ρ[i]? with | some (.bor d) => Q d m | _ => False
def dOwn {M : Type} (i : Nat) : DT M := fun ρ m Q _ => match ρ[i]? with | some (.own ds) => Q (.lst ds) m | _ => False
def dC {M : Type} (d : D) : DT M := fun _ m Q _ => Q d m
theorem j_var (i : Nat) {x : Str} (hN : X.N[i]? = some x := by rfl) (hv : Vis X.env.scope x := by first | exact Or.inl rfl | exact Or.inr (Or.inl rfl) | exact Or.inr (Or.inr rfl)) (hd : (x == ("__debug__" : Str)) = false := by decide)
    (hcd : (x == ("__classdict__" : Str)) = false := by decide) : J .s X C (.Name x pos) (dVar i) := by
  refine ⟨_, pe_var hN hv hd hcd, fun σ H Pr F ρ m Q Z R S E h k => ?_⟩
  unfold dVar at h
  split at h
  · rename_i d e
    obtain ⟨v, e1, q⟩ := S.slot i _ e
    exact ⟨v, e1, k _ _ ⟨Pr, F, m, d, S, Te.refl, q, h⟩⟩
  · exact h.elim
theorem j_bor (i : Nat) {x : Str} (hN : X.N[i]? = some x := by rfl) (hv : Vis X.env.scope x := by first | exact Or.inl rfl | exact Or.inr (Or.inl rfl) | exact Or.inr (Or.inr rfl)) (hd : (x == ("__debug__" : Str)) = false := by decide)
    (hcd : (x == ("__classdict__" : Str)) = false := by decide) : J .w X C (.Name x pos) (dBor i) := by
  refine ⟨_, pe_var hN hv hd hcd, fun σ H Pr F ρ m Q Z R S E h k => ?_⟩
  unfold dBor at h
  split at h
  · rename_i d e
    obtain ⟨v, e1, q⟩ := S.slot i _ e
    refine ⟨v, e1, k _ _ ⟨Pr, F, m, d, S, Te.refl, q.mono S.pre fun a o z => ?_, h⟩⟩
    obtain ⟨e, n⟩ := vw_iff.mp z
    refine vw_iff.mpr ⟨S.keep a o n e, fun z => ?_⟩
    rw [S.new a z n] at e; cases e
  · exact h.elim
theorem j_own (i : Nat) {x : Str} (hN : X.N[i]? = some x := by rfl) (hv : Vis X.env.scope x := by first | exact Or.inl rfl | exact Or.inr (Or.inl rfl) | exact Or.inr (Or.inr rfl)) (hd : (x == ("__debug__" : Str)) = false := by decide)
    (hcd : (x == ("__classdict__" : Str)) = false := by decide) : J .w X C (.Name x pos) (dOwn i) := by
  refine ⟨_, pe_var hN hv hd hcd, fun σ H Pr F ρ m Q Z R S E h k => ?_⟩
  unfold dOwn at h
  split at h
  · rename_i d e
    obtain ⟨p, vs, e1, hp, pp, nf, q⟩ := S.slot i _ e
    exact ⟨.ref p, e1, k _ _ ⟨Pr, F, m, .lst d, S, Te.refl, .lst (.inl (.inl (vw_iff.mpr ⟨hp, nf⟩))) (q.mono ⟨[], by simp⟩ S.sv_wv).weak, h⟩⟩
  · exact h.elim
/-- .. handed back -/
theorem j_ownr (i : Nat) {x : Str} (hN : X.N[i]? = some x := by rfl) (hv : Vis X.env.scope x := by first | exact Or.inl rfl | exact Or.inr (Or.inl rfl) | exact Or.inr (Or.inr rfl)) (hd : (x == ("__debug__" : Str)) = false := by decide)
    (hcd : (x == ("__classdict__" : Str)) = false := by decide) : J .r X C (.Name x pos) (dOwn i) := by
  refine ⟨_, pe_var hN hv hd hcd, fun σ H Pr F ρ m Q Z R S E h k => ?_⟩
  unfold dOwn at h
  split at h
  · rename_i d e
    obtain ⟨p, vs, e1, hp, pp, nf, q⟩ := S.slot i _ e
    exact ⟨.ref p, e1, k _ _ ⟨Pr, F, m, .lst d, S, Te.refl, .lst (vw_iff.mpr ⟨hp, .inr ⟨trivial, nf, S.prn p pp nf⟩⟩) (q.mono ⟨[], by simp⟩ S.sv_rv), h⟩⟩
  · exact h.elim
theorem j_cst {te : V} {d : D} (p : PE X e (tC te)) (h : ∀ F G, Dn true X.K F G te d) (n : ∀ ds, d ≠ .lst ds) : J .f X C e (dC d) :=
  ⟨_, p, fun σ H Pr F ρ m Q Z R S E q k => k _ _ ⟨Pr, F, m, d, S, Te.refl, dv_flat S (h _ _) n, q⟩⟩
theorem j_int {i j} : J .f X C (.Constant (.int i) j pos) (dC (.int i)) := j_cst pe_int (fun _ _ => .int i) (fun _ h => nomatch h)
theorem j_bl {b j} : J .f X C (.Constant (.bool b) j pos) (dC (.bl b)) := j_cst pe_bl (fun _ _ => .bl b) (fun _ h => nomatch h)
/-- a constant of the module -/
def Cst (K : PySem.W.Frag) (mg : Str → Option Value) (x : Str) (d : D) : Prop := ∃ u v, mg x = some u ∧ RelV v u ∧ Dn true K [] (fun _ => none) v d
theorem j_glob {x : Str} {d : D} (hg : Gl X x) (h : Cst X.K X.mg x d) (hd : (x == ("__debug__" : Str)) = false := by decide) : J .f X C (.Name x pos) (dC d) := by
  obtain ⟨u, v, hm, r, q⟩ := h
  refine j_cst (pe_glob hg hm r hd) (fun F G => q.mono ⟨F, by simp⟩ fun a o z => by cases z) fun ds e => ?_
  subst e
  cases q with
  | lst h _ => cases h

/-! ### arguments, displays -/
def dNil {M : Type} : DTA M := fun _ m Q _ => Q [] m
def dCons {M : Type} (t : DT M) (u : DTA M) : DTA M := fun ρ m Q Z => t ρ m (fun d m1 => u ρ m1 (fun ds m2 => Q (d :: ds) m2) Z) Z
theorem ja_nil {c : Cl} : JA c X C [] dNil := ⟨_, pa_nil, fun σ H Pr F ρ m Q Z R S E h k => k _ _ ⟨Pr, F, m, [], S, Te.refl, by cases c <;> exact .nil, h⟩⟩
theorem ja_cons {c : Cl} {t : DT C.W.M} {u : DTA C.W.M} (hc : c ≠ .f) (h : J c X C e t) (r : JA c X C es u) (hs : starEach (e :: es) X.env = (false, eval e X.env) :: starEach es X.env := by rfl) : JA c X C (e :: es) (dCons t u) := by
  obtain ⟨te, p, q⟩ := h
  obtain ⟨tr, p', q'⟩ := r
  refine ⟨_, pa_cons p p' hs, fun σ H Pr F ρ m Q Z R S E h k => ?_⟩
  refine q σ H Pr F ρ m _ Z _ S E h fun v H1 z => ?_
  obtain ⟨P1, F1, m1, d, S1, t1, dv, z⟩ := z
  refine q' σ H1 P1 F1 ρ m1 _ Z _ S1 (E.te t1.toTr) z fun vs H2 z => k _ _ ?_
  obtain ⟨P2, F2, m2, ds, S2, t2, dvs, z⟩ := z
  exact ⟨P2, F2, m2, d :: ds, S2, t1.trans t2, DvA.cons hc (dv.te hc S1 t2 (Hb := H)) dvs, z⟩

def dTup {M : Type} (t : DTA M) : DT M := fun ρ m Q Z => t ρ m (fun ds m1 => ds.length ≤ sizeLine ∧ Q (.tup ds) m1) Z
def dLst {M : Type} (t : DTA M) : DT M := fun ρ m Q Z => t ρ m (fun ds m1 => ds.length ≤ sizeLine ∧ Q (.lst ds) m1) Z
theorem DvA.len {K : PySem.W.Frag} {c : Cl} {Pr : Addr → Prop} {F : List Addr} {H : Hp} {vs : List V} {ds : List D} (h : DvA K C c Pr F H vs ds) : vs.length = ds.length := by
  cases c <;> exact DnA.length h
theorem j_tup {t : DTA C.W.M} {k} (h : JA .s X C es t) : J .f X C (.Tuple es k pos) (dTup t) := by
  obtain ⟨te, p, q⟩ := h
  refine ⟨_, pe_tup p, fun σ H Pr F ρ m Q Z R S E h k => ?_⟩
  refine q σ H Pr F ρ m _ Z _ S E h fun vs H1 ⟨P1, F1, m1, ds, S1, t1, dv, z, r⟩ => ⟨by rw [dv.len]; exact z, fun p hp => k _ _ ?_⟩
  obtain ⟨S2, t2⟩ := S1.new1 (o := .tup vs) hp
  exact ⟨P1, F1, m1, .tup ds, S2, t1.trans t2, dv_flat S2 (.tup (.inl (vw_iff.mpr ⟨upd_same, .inl trivial⟩)) (DnA.mono t2.pre (sv_tr t2.toTr S1.prs) dv)) (fun _ h => nomatch h), r⟩
theorem j_lst {t : DTA C.W.M} (h : JA .s X C es t) : J .f X C (.List es pos) (dLst t) := by
  obtain ⟨te, p, q⟩ := h
  refine ⟨_, pe_lst p, fun σ H Pr F ρ m Q Z R S E h k => ?_⟩
  refine q σ H Pr F ρ m _ Z _ S E h fun vs H1 ⟨P1, F1, m1, ds, S1, t1, dv, z, r⟩ => ⟨by rw [dv.len]; exact z, fun p hp => k _ _ ?_⟩
  obtain ⟨S2, t2⟩ := S1.new1 (o := .lst vs) hp
  have np := S1.np hp
  have dv2 : DnA true X.K F1 (sv C.H0 P1 (upd H1 p (.lst vs))) vs ds := DnA.mono t2.pre (sv_tr t2.toTr S1.prs) dv
  exact ⟨P1, F1, m1, .lst ds, S2, t1.trans t2, ⟨.lst (vw_iff.mpr ⟨upd_same, .inr ⟨trivial, np, S1.h0n hp⟩⟩) dv2, fun ds' e => by cases e; exact ⟨p, vs, rfl, some_of (t1.stay p) hp, np, upd_same, dv2⟩⟩, r⟩

/-! ### operators -/
/-- an operator over data: of two answers that are looked at -/
abbrev G2 := D → D → (D → Prop) → Prop
def OpOk (X : Cx) (C : Cn) (f : Value → Value → Sem Value) (g : G2) : Prop := ∃ r, OpR X f r ∧
  ∀ σ H Pr F ρ m x y dx dy Q (R : VK), SR X.K C Pr F σ ρ m H → Dn false X.K F (wv F H) x dx → Dn false X.K F (wv F H) y dy → g dx dy (fun d => Q d m) → (∀ v H', Post X.K C .f Pr F H σ ρ Q v H' → R v H') → r x y H R
def dBin {M : Type} (g : G2) (t u : DT M) : DT M := fun ρ m Q Z => t ρ m (fun x m1 => u ρ m1 (fun y m2 => g x y fun d => Q d m2) Z) Z
variable {a b c : Expr} {ta tb tc : DT C.W.M}
theorem j_bin {op : Operator} {g : G2} (o : OpOk X C (binaryOp op) g) (ha : J .w X C a ta) (hb : J .w X C b tb) : J .f X C (.BinOp a op b pos) (dBin g ta tb) := by
  obtain ⟨r, ho, q⟩ := o
  obtain ⟨te, p, q1⟩ := ha
  obtain ⟨te', p', q2⟩ := hb
  refine ⟨_, pe_op ho p p', fun σ H Pr F ρ m Q Z R S E h k => ?_⟩
  refine q1 σ H Pr F ρ m _ Z _ S E h fun v H1 ⟨P1, F1, m1, d, S1, t1, dv, z⟩ => ?_
  refine q2 σ H1 P1 F1 ρ m1 _ Z _ S1 (E.te t1.toTr) z fun w H2 ⟨P2, F2, m2, d2, S2, t2, dv2, z2⟩ => ?_
  exact q σ H2 P2 F2 ρ m2 v w d d2 Q R S2 (Dn.te t2 dv) dv2 z2 fun v H' z => k v H' ((z.te t2).te t1)
/-- an answer that is no list, the state as it stands -/
theorem post_here {C : Cn} {K : PySem.W.Frag} {Pr : Addr → Prop} {F : List Addr} {H : Hp} {σ : L2.St} {ρ : En} {m : C.W.M} {Q : D → C.W.M → Prop} {v : V} {d : D} (S : SR K C Pr F σ ρ m H) (h : Dn true K F (sv C.H0 Pr H) v d) (n : ∀ ds, d ≠ .lst ds) (q : Q d m) :
    Post K C .f Pr F H σ ρ Q v H := ⟨Pr, F, m, d, S, Te.refl, dv_flat S h n, q⟩
def gII (P : Int → Int → Prop) (f : Int → Int → D) : G2 := fun x y Q => match x, y with | .int i, .int j => P i j ∧ Q (f i j) | _, _ => False
theorem Dn.toInt {s : Bool} {K : PySem.W.Frag} {F : List Addr} {G : Hp} {v : V} {i : Int} (h : Dn s K F G v (.int i)) : v = .int i := by cases h; rfl
theorem opok_int {f : Value → Value → Sem Value} {P : Int → Int → Prop} {g : Int → Int → Int} (h : OpR X f (rI P fun i j => .int (g i j))) : OpOk X C f (gII P fun i j => .int (g i j)) := by
  refine ⟨_, h, fun σ H Pr F ρ m x y dx dy Q R S hx hy q k => ?_⟩
  unfold gII at q
  split at q
  · rw [hx.toInt, hy.toInt]
    exact ⟨_, _, rfl, rfl, q.1, k _ _ (post_here S (.int _) (fun _ h => nomatch h) q.2)⟩
  · exact q.elim
def g0 (f : Int → Int → D) : G2 := fun x y Q => match x, y with | .int i, .int j => Q (f i j) | _, _ => False
theorem opok_int0 {f : Value → Value → Sem Value} {g : Int → Int → Int} (h : OpR X f (rI0 fun i j => .int (g i j))) : OpOk X C f (g0 fun i j => .int (g i j)) := by
  refine ⟨_, h, fun σ H Pr F ρ m x y dx dy Q R S hx hy q k => ?_⟩
  unfold g0 at q
  split at q
  · rw [hx.toInt, hy.toInt]
    exact ⟨_, _, rfl, rfl, k _ _ (post_here S (.int _) (fun _ h => nomatch h) q)⟩
  · exact q.elim
theorem opok_cmp0 {f : Value → Value → Sem Value} {g : Int → Int → Bool} (h : OpR X f (rI0 fun i j => .bl (g i j))) : OpOk X C f (g0 fun i j => .bl (g i j)) := by
  refine ⟨_, h, fun σ H Pr F ρ m x y dx dy Q R S hx hy q k => ?_⟩
  unfold g0 at q
  split at q
  · rw [hx.toInt, hy.toInt]
    exact ⟨_, _, rfl, rfl, k _ _ (post_here S (.bl _) (fun _ h => nomatch h) q)⟩
  · exact q.elim
theorem ok_sub : OpOk X C (binaryOp .Sub) (g0 fun i j => .int (i - j)) := opok_int0 op_sub
theorem ok_pow : OpOk X C (binaryOp .Pow) (gII CPow fun i j => .int (i ^ j.toNat)) := opok_int op_pow
theorem op_mulA : OpR X (binaryOp .Mult) (rI IntMulOk fun i j => .int (i * j)) := opI fun _ _ _ _ _ _ _ hc q => mul_int q hc
def Nz (_ j : Int) : Prop := j ≠ 0
theorem ok_mod : OpOk X C (binaryOp .Mod) (gII Nz fun i j => .int (i.fmod j)) := opok_int op_modN
def Nd (i j : Int) : Prop := j ≠ 0 ∧ Builtin.divisionGoesByPylong i j = false
theorem op_fdivA : OpR X (binaryOp .FloorDiv) (rI Nd fun i j => .int (i.fdiv j)) := opI fun _ _ _ _ _ _ _ hc q => floordiv_int hc.1 q (.inl hc.2)
theorem ok_fdiv : OpOk X C (binaryOp .FloorDiv) (gII Nd fun i j => .int (i.fdiv j)) := opok_int op_fdivA
end
end RR

/-! RQ: promises of defs where it is known that no repr is under way (the guards are known to be none) -/
namespace RR
open PySem PySem.Spec PyProof.Rows L2
structure RoomG (k : Nat) (A : Around) : Prop extends Room k A where
  gd : A.guards = some []
theorem RoomG.mono {i k : Nat} {A : Around} (r : RoomG k A) (h : i ≤ k) : RoomG i A := ⟨r.toRoom.mono h, r.gd⟩
theorem RoomG.next {k : Nat} {A : Around} (r : RoomG (k + 1) A) (env : Env) : RoomG k (A.deeper env) := ⟨r.toRoom.deeper env, r.gd⟩
structure FnG (P : Program) (w : World) (K : PySem.W.Frag) (mg : Str → Option Value) (B : Heap) (C : CXT) (k : Nat) (f : Addr) (fd : FuncData) (ps : List Str) (sp : Sp) : Prop where
  ln : ∀ {vs H Q E}, sp vs H Q E → vs.length = ps.length
  go : ∀ {A : Around} {out : List Env} {s : Shared} {H : Hp} {args : Args} {us : List Value} {vs : List V} {Q : VK} {E : XK}, RoomG k A → Env0 P w K mg B A out s H → BindsTo s fd args (ps.zip us) → Vals vs us → sp vs H Q E →
    codeAny (model P w) A (.call (.ref f) args) (CR C out P w H s Q E) s
section
variable {P : Program} {w : World} {K : PySem.W.Frag} {mg : Str → Option Value} {B : Heap} {C : CXT} {k : Nat} {f : Addr} {fd : FuncData} {ps : List Str} {sp sp' : Sp}
theorem FnG.mono {j : Nat} (F : FnG P w K mg B C j f fd ps sp) (h : j ≤ k) : FnG P w K mg B C k f fd ps sp := ⟨F.ln, fun r => F.go (r.mono h)⟩
theorem FnG.imp (F : FnG P w K mg B C k f fd ps sp) (h : ∀ vs H Q E, sp' vs H Q E → sp vs H Q E) : FnG P w K mg B C k f fd ps sp' := ⟨fun q => F.ln (h _ _ _ _ q), fun r e b v q => F.go r e b v (h _ _ _ _ q)⟩
/-- from the body -/
theorem fnG_mk {oc dV kV doc pm cdv ct : Value} {od an : Option Addr} {osl : Array (Option Value)} {nm ql : Str} {par : Arguments} {bd : List Stmt} {sc : Scope} {N : List Str}
    (lk : K.lookup f = some ⟨oc, od, .func (PySem.W.fnOf nm ql par bd sc dV kV doc pm an cdv ct), osl⟩) (cd : PySem.W.codeIn K cdv ql = true) (S : FnScope N ps sc) (ln : ∀ vs H Q E, sp vs H Q E → vs.length = ps.length)
    (body : ∀ {A : Around} {out : List Env} {s : Shared} {H : Hp} {vs : List V} {Q : VK} {E : XK}, RoomG k (A.deeper (envOfC ql sc s.heap.objs.size f cdv)) → sp vs H Q E →
      ∃ t, PSs (cxOf C P w K mg B N ql sc f cdv A out s H E) bd t ∧ t { nx := fun _ H1 => Q .non H1, rt := Q } (start N vs) H) : FnG P w K mg B C (k + 1) f (PySem.W.fnOf nm ql par bd sc dV kV doc pm an cdv ct) ps sp := by
  constructor
  · exact fun q => ln _ _ _ _ q
  intro A out s H args us vs Q E room env binds vals asked
  obtain ⟨t, walked, told⟩ := body (A := A) (out := out) (s := s) (H := H) (vs := vs) (Q := Q) (E := E) (room.next _) asked
  have there : ∀ b o, B.get? b = some o → s.heap.get? b = some o := fun b o q => (env.bs b o q).1
  have inS : K.In s.heap := env.mod.kin.keeps there
  have kinds : ∀ y ∈ ps.zip us, sc.names.lookup y.1 = some .local ∨ (sc.names.lookup y.1 = some .cell ∧ ((cellsFrom (s.heap.objs.size + 1) sc.names []).lookup y.1).isSome = true) := by
    rintro ⟨n, u⟩ hy
    exact (S.par n (List.of_mem_zip hy).1).imp id fun q => ⟨q, PySem.W.cellsFrom_some _ _ _ (.inl q)⟩
  refine codeAny_call_function room.toRoom.depth (inS _ _ lk) rfl S.co S.gen rfl (PySem.W.codeRec_of inS cd) (binds _ _ _ _ ?_)
  refine wpAny_newFunctionEnv_cells S.kind kinds fun ev he s1 x => ?_
  subst he
  refine ⟨(env.mod.nolimit.keeps there).keeps x.toInCall.keep, codeAny_func ?_⟩
  have inv := inv_start (CX := C) (E := E) S room.toRoom.hd env (ln _ _ _ _ asked) vals x
  refine wpAny_mono (walked.run [] s1 (start N vs) H _ inv told) (fun fl s2 z => ?_) fun _ _ z => z
  have close : ∀ {σ : L2.St} {H2 : Hp} {v : V} {u : Value}, Inv (cxOf C P w K mg B N ql sc f cdv A out s H E) [] σ H2 s2 → RelV v u → Q v H2 → CE out P w H s Q u s2 := fun J rv q => ⟨_, _, J.os, J.bare, J.base, J.hok, rv, q⟩
  match fl, z with
  | .ret _, ⟨_, _, _, J, rv, q⟩ => exact close J rv q
  | .next, ⟨_, _, J, q⟩ => exact close (v := .non) (u := Value.none) J rfl q
  | .brk, ⟨_, _, _, q⟩ => exact q.elim
  | .cont, ⟨_, _, _, q⟩ => exact q.elim
theorem okG {x ql : Str} {st : Stmt} {N : List Str} (F : Fun K x ql st f fd) (S : FnScope N ps (defScope st)) (ln : ∀ vs H Q E, sp vs H Q E → vs.length = ps.length)
    (body : ∀ (cdv : Value) (A : Around) (out : List Env) (s : Shared) (H : Hp) (vs : List V) (Q : VK) (E : XK), RoomG k (A.deeper (envOfC ql (defScope st) s.heap.objs.size f cdv)) → sp vs H Q E →
      ∃ t, PSs (cxOf (L2.CX P w) P w K mg B N ql (defScope st) f cdv A out s H E) (defBody st) t ∧ t { nx := fun _ H1 => Q .non H1, rt := Q } (start N vs) H) : FnG P w K mg B (L2.CX P w) (k + 1) f fd ps sp := by
  obtain ⟨_, _, _, _, _, _, cdv, _, _, rfl, lk, cd⟩ := F.ex
  exact fnG_mk lk cd S ln fun room asked => body cdv _ _ _ _ _ _ _ room asked
end
section
variable {X : Cx} {C : CXT} {k : Nat} {f : Addr} {fd : FuncData} {ps : List Str} {sp : Sp} {ds : List Value} {dvs : List V} {E : L2.St → XK} {x : Str} {p pos : Pos} {e : Expr} {es : List Expr} {t : TA}
/-- a call of such a def by its name -/
theorem pe_callG (F : FnG X.prog X.w X.K X.mg X.base C k f fd ps sp) (room : RoomG k X.A) (gl : Gl X x) (gm : X.mg x = some (.ref f)) (kp : PySem.W.keepIn X.K (.ref f) = true) (bn : Binds X.K fd ps ds) (dv : Vals dvs ds) (px : ∀ σ, PassesAt C X σ (E σ)) (ha : PA X (e :: es) t)
    (db : (x == ("__debug__" : Str)) = false := by decide) (he : starEach (e :: es) X.env = (false, eval e X.env) :: starEach es X.env := by rfl) (hpl : (backTo pos (starEach es X.env)).any (·.1) = false := by rfl) : PE X (.Call (.Name x p) (e :: es) [] pos) (tCallSD sp dvs E t) := by
  constructor
  intro pins s σ H Q I asked
  refine wpAny_Call_Name_kw (ld_glob I gl gm ?_ db)
  refine PySem.W.callWith_K (h₀ := X.base) I.ok.mod.kin kp (thn (ha.run pos pins s σ H _ I asked) ?_) he hpl
  rintro us s1 ⟨vs, H1, I1, r, z⟩
  have both : Vals (vs ++ dvs) (us ++ ds) := r.append dv
  have size : (us ++ ds).length = ps.length := both.length.symm.trans (F.ln z)
  refine ⟨I1.kIn, wpAny_call (codeAny_mono (F.go (args := ⟨us, []⟩) room I1.env0 (bn s1 us I1.kIn size) both z) fun r s2 z2 => ?_)⟩
  match r, z2 with
  | .error e, z2 => exact px σ pins H1 s1 e s2 I1 z2
  | .ok (.ret u), z2 => exact I1.after z2
  | .ok .next, z2 => exact z2.elim
  | .ok .brk, z2 => exact z2.elim
  | .ok .cont, z2 => exact z2.elim
end
end RR

/-! RQ2: the law's own call and the row's end, for such promises -/
namespace RR
open PySem PySem.Spec PyProof.Rows L2
section
variable {P : Program} {w : World} {K : PySem.W.Frag} {mg mb : Str → Option Value} {C : CXT} {k : Nat} {fa a : Addr} {fd : FuncData} {x : Str} {sp : Sp} {s : Shared} {us : List Value} {zs : List Int}
abbrev scrObj (us : List Value) : Obj := { cls := .type "list", data := .seq us.toArray }
/-- the call, out of a heap of which at most the script is told, frozen -/
theorem call_in (H : Hp) (inK : K.In s.heap) (ns : s.heap.Ns mainGlobals mg) (nb : s.heap.Ns builtinsNs mb) (bb : ∀ y : Str, y ≠ "__name__" → mb y = bootBuiltins y) (nl : s.heap.NoLimit) (ng : s.gens = #[]) (at_ : s.heap.get? a = some (scrObj us))
    (told : ∀ b u, H b = some u → b = a ∧ (∃ ys, u = .frz (scrObj us) (.lst ys)) ∧ K.lookup a = none) (ok : HOk P w H s.heap) (room : Room k callerA) (F : ∀ B : Heap, K.In B → B.Ns mainGlobals mg → FnG P w K mg B C k fa fd [x] sp) (bind : ∀ (s : Shared) (u : Value), BindsTo s fd ⟨[u], []⟩ [(x, u)])
    (asked : sp [.ref a] H (fun v _ => v = .bl true) fun _ _ _ => False) (noX : ∀ e s2, C [] H s (fun _ _ _ => False) e s2 → False) :
    codeAny (model P w) callerA (.call (.ref fa) ⟨[.ref a], []⟩) (fun r s2 => r = .ok (.ret (.bool true)) ∧ OldK s.heap s2.heap ∧ s2.os = s.os ∧ AllBare s2.gens) s := by
  -- what isn't the script stands in the hidden heap as it stood
  have stays : ∀ {b : Addr} {o : Obj}, s.heap.get? b = some o → b ≠ a → (hidT s.heap H).get? b = some o := fun {b o} e n =>
    hidT_get e (Option.eq_none_iff_forall_ne_some.mpr fun u z => n (told b u z).1)
  have table : ∀ {b : Addr} {m : Str → Option Value}, s.heap.Ns b m → (hidT s.heap H).Ns b m := by
    rintro b m ⟨o, es, ep, e, d, r⟩
    refine ⟨o, es, ep, stays e fun z => ?_, d, r⟩
    rw [z, at_] at e
    have e2 := Option.some.inj e
    rw [← e2] at d
    exact Data.noConfusion d
  have inH : K.In (hidT s.heap H) := fun b o e => by
    by_cases z : H b = none
    · exact hidT_get (inK b o e) z
    · obtain ⟨u, hu⟩ := Option.ne_none_iff_exists'.mp z
      obtain ⟨rfl, _, no⟩ := told b u hu
      rw [no] at e
      exact nomatch e
  obtain ⟨mc, nc1, nc2⟩ := nl
  have env : Env0 P w K mg (hidT s.heap H) callerA [] s H := { frames := rfl, mod := ⟨inH, table ns, ⟨mb, table nb, bb⟩, ⟨mc, table nc1, nc2⟩⟩, bs := fun b o => of_hidT, bsz := Nat.le_of_eq (hidT_size _ _), funs := trivial, frf := fun b hb => (nomatch hb), hok := ok, bare := .of_eq ng }
  refine codeAny_mono ((F _ inH (table ns)).go (args := ⟨[.ref a], []⟩) (us := [.ref a]) (vs := [.ref a]) ⟨room, rfl⟩ env (bind s (.ref a)) (.cons rfl .nil) asked) fun r s2 z => ?_
  match r, z with
  | .error e, z => exact (noX e s2 z).elim
  | .ok .next, z => exact z.elim
  | .ok .brk, z => exact z.elim
  | .ok .cont, z => exact z.elim
  | .ok (.ret u), ⟨v, H2, os, bare, un, ok2, rel, q⟩ =>
    have q : v = .bl true := q
    subst q
    obtain rfl : u = Value.bool true := rel
    refine ⟨rfl, .of_keep fun b o e => ?_, os, bare⟩
    cases hb : H b with
    | none => exact un.keep b o e hb (List.not_mem_nil) List.not_mem_nil
    | some u =>
      obtain ⟨_, ⟨ys, rfl⟩, _⟩ := told b u hb
      have f1 := (ok b _ hb).1
      have f2 := (ok2 b _ (un.frzs b _ _ hb)).1
      exact f2.trans (f1.symm.trans e)
theorem law_callG (inK : K.In s.heap) (ns : s.heap.Ns mainGlobals mg) (nb : s.heap.Ns builtinsNs mb) (bb : ∀ y : Str, y ≠ "__name__" → mb y = bootBuiltins y) (nl : s.heap.NoLimit) (ng : s.gens = #[]) (at_ : s.heap.get? a = some (scrObj us)) (isI : IntsAre us zs) (sz : zs.length ≤ sizeLine)
    (room : Room k callerA) (F : ∀ B : Heap, K.In B → B.Ns mainGlobals mg → FnG P w K mg B C k fa fd [x] sp) (bind : ∀ (s : Shared) (u : Value), BindsTo s fd ⟨[u], []⟩ [(x, u)])
    (asked : ∀ H : Hp, SqL K H a (zs.map V.int) → sp [.ref a] H (fun v _ => v = .bl true) fun _ _ _ => False) (noX : ∀ H e s2, C [] H s (fun _ _ _ => False) e s2 → False) :
    codeAny (model P w) callerA (.call (.ref fa) ⟨[.ref a], []⟩) (fun r s2 => r = .ok (.ret (.bool true)) ∧ OldK s.heap s2.heap ∧ s2.os = s.os ∧ AllBare s2.gens) s := by
  have rel := vals_ints isI
  have same := isI.length
  rcases hk : K.lookup a with _ | o
  · let H : Hp := fun b => if b = a then some (.frz (scrObj us) (.lst (zs.map V.int))) else none
    have told : ∀ b u, H b = some u → b = a ∧ u = .frz (scrObj us) (.lst (zs.map V.int)) := fun b u z => by
      by_cases hb : b = a
      · exact ⟨hb, (Option.some.inj ((if_pos hb).symm.trans z)).symm⟩
      · exact nomatch (if_neg hb).symm.trans z
    refine call_in H inK ns nb bb nl ng at_ (fun b u z => ⟨(told b u z).1, ⟨_, (told b u z).2⟩, hk⟩) (fun b u z => ?_) room F bind (asked H (.inl (.inr ⟨scrObj us, if_pos rfl⟩))) (noX H)
    obtain ⟨rfl, rfl⟩ := told b u z
    exact ⟨at_, by rw [List.length_map]; exact sz, us, _, rel, at_⟩
  · have e := Option.some.inj (at_.symm.trans (inK a o hk))
    subst e
    exact call_in (fun _ => none) inK ns nb bb nl ng at_ (fun b u z => nomatch z) (fun b u z => nomatch z) room F bind (asked _ (.inr ⟨_, us.toArray, _, hk, rfl, rfl, rfl, by rw [List.size_toArray, same]; exact sz, by simpa using rel⟩)) (noX _)
end
theorem walk_ofG {l : PySem.W.OpenLaw} {n k : Nat} {q : Program} {loose : List Str} {XP : (Str → Option Value) → Heap → Prop} {YP : World → Heap → Prop} {d : DefRec} {K : Params → PySem.W.Frag} {C : World → CXT} {sp : World → Sp} {x : Str}
    (most : l.most = some n) (n2 : n ≤ sizeLine) (nodef : d.params.defaults = []) (room : Room k callerA) (ground : ∀ (w : World) (h : Heap), YP w h → (K w.params).In h)
    (F : ∀ (w : World) (mg : Str → Option Value) (fa : Addr) (h : Heap), (K w.params).In h → h.Ns mainGlobals mg → mg d.name = some (.ref fa) →
      ∃ fd : FuncData, (∀ (s : Shared) (u : Value), BindsTo s fd ⟨[u], []⟩ [(x, u)]) ∧ ∀ B : Heap, (K w.params).In B → B.Ns mainGlobals mg → FnG l.prog w (K w.params) mg B (C w) k fa fd [x] (sp w))
    (asked : ∀ (w : World) (H : Hp) (a : Addr) (zs : List Int), zs.length ≤ n → SqL (K w.params) H a (zs.map V.int) → sp w [.ref a] H (fun v _ => v = .bl true) fun _ _ _ => False)
    (noX : ∀ (w : World) (H : Hp) (s : Shared) (e : Value) (s2 : Shared), C w [] H s (fun _ _ _ => False) e s2 → False) : PySem.W.WalkO q loose XP YP l.row.toRowW d [] (fun f vs => PySem.call f vs) :=
  Att.attach_call most nodef fun w s0 s1 mg mb fa o pm cd doc a us zs G Y _ _ _ hmg script isI len gens => by
    have inK := ground w _ Y
    obtain ⟨fd, bind, prom⟩ := F w mg fa _ inK G.T.g hmg
    exact law_callG inK G.T.g G.T.b G.T.builtins G.T.nolimit gens script isI (Nat.le_trans len n2) room prom bind (fun H hS => asked w H a zs len hS) fun H e s2 => noX w H s1 e s2
end RR

/-! RD: judgements over data: comparisons, tests, calls, places -/
namespace RR
open PySem PySem.Spec PyProof.Rows L2

/-! ### equality of data -/
mutual
def D.py : D → PyData
  | .non => .none | .bl b => .bool b | .int i => .int i | .str x => .str x | .tup xs => .tuple (D.pys xs) | .lst xs => .list (D.pys xs) | .hnd _ => .none | .dic => .none | .exc _ => .none | .fn _ => .none | .ptr _ => .none
def D.pys : List D → List PyData
  | [] => []
  | x :: r => x.py :: D.pys r
end
/-- data that == compares: no handles, at most n deep -/
def D.q : Nat → D → Bool
  | _, .non | _, .bl _ | _, .int _ => true
  | _, .str x => PyData.strOk x
  | _, .hnd _ => false
  | _, .dic => false
  | _, .exc _ => false
  | _, .fn _ => false
  | _, .ptr _ => false
  | n + 1, .tup xs => xs.all (D.q n)
  | n + 1, .lst xs => xs.all (D.q n)
  | 0, .tup _ | 0, .lst _ => false
mutual
def D.eqv : D → D → Bool
  | .non, .non => true
  | .bl a, .bl b => a == b
  | .bl a, .int j => (if a then 1 else 0) == j
  | .int i, .bl b => i == (if b then 1 else 0)
  | .int i, .int j => decide (i = j)
  | .str x, .str y => x == y
  | .lst xs, .lst ys => D.eqvs xs ys
  | .tup xs, .tup ys => D.eqvs xs ys
  | _, _ => false
def D.eqvs : List D → List D → Bool
  | [], [] => true
  | x :: xs, y :: ys => x.eqv y && D.eqvs xs ys
  | _, _ => false
end
mutual
theorem py_eqv : ∀ {n : Nat} {x y : D}, x.q n = true → y.q n = true → PyData.eqv x.py y.py = x.eqv y
  | n, .hnd _, _, h, _ => by cases n <;> cases h
  | n, .dic, _, h, _ => by cases n <;> cases h
  | n, .exc _, _, h, _ => by cases n <;> cases h
  | n, .fn _, _, h, _ => by cases n <;> cases h
  | n, .ptr _, _, h, _ => by cases n <;> cases h
  | n, _, .hnd _, _, h => by cases n <;> cases h
  | n, _, .dic, _, h => by cases n <;> cases h
  | n, _, .exc _, _, h => by cases n <;> cases h
  | n, _, .fn _, _, h => by cases n <;> cases h
  | n, _, .ptr _, _, h => by cases n <;> cases h
  | n + 1, .tup xs, .tup ys, h, h' => by
    simp only [D.py, D.eqv, PyData.eqv]
    exact pys_eqv (List.all_eq_true.mp h) (List.all_eq_true.mp h')
  | n + 1, .lst xs, .lst ys, h, h' => by
    simp only [D.py, D.eqv, PyData.eqv]
    exact pys_eqv (List.all_eq_true.mp h) (List.all_eq_true.mp h')
  | 0, .tup xs, _, h, _ => by cases h
  | 0, .lst xs, _, h, _ => by cases h
  | _, .non, .non, _, _ | _, .non, .bl _, _, _ | _, .non, .int _, _, _ | _, .non, .str _, _, _ | _, .non, .tup _, _, _ | _, .non, .lst _, _, _ => rfl
  | _, .bl _, .non, _, _ | _, .bl _, .bl _, _, _ | _, .bl _, .int _, _, _ | _, .bl _, .str _, _, _ | _, .bl _, .tup _, _, _ | _, .bl _, .lst _, _, _ => rfl
  | _, .int _, .non, _, _ | _, .int _, .bl _, _, _ | _, .int _, .str _, _, _ | _, .int _, .tup _, _, _ | _, .int _, .lst _, _, _ => rfl
  | _, .int i, .int j, _, _ => by simp only [D.py, D.eqv, PyData.eqv, Bool.beq_eq_decide_eq]
  | _, .str _, .non, _, _ | _, .str _, .bl _, _, _ | _, .str _, .int _, _, _ | _, .str _, .str _, _, _ | _, .str _, .tup _, _, _ | _, .str _, .lst _, _, _ => rfl
  | n + 1, .tup _, .non, _, _ | n + 1, .tup _, .bl _, _, _ | n + 1, .tup _, .int _, _, _ | n + 1, .tup _, .str _, _, _ | n + 1, .tup _, .lst _, _, _ => rfl
  | n + 1, .lst _, .non, _, _ | n + 1, .lst _, .bl _, _, _ | n + 1, .lst _, .int _, _, _ | n + 1, .lst _, .str _, _, _ | n + 1, .lst _, .tup _, _, _ => rfl
theorem pys_eqv : ∀ {n : Nat} {xs ys : List D}, (∀ x ∈ xs, x.q n = true) → (∀ x ∈ ys, x.q n = true) → PyData.eqvAll (D.pys xs) (D.pys ys) = D.eqvs xs ys
  | _, [], [], _, _ => rfl
  | _, [], _ :: _, _, _ => rfl
  | _, _ :: _, [], _, _ => rfl
  | n, x :: xs, y :: ys, h, h' => by
    simp only [D.pys, D.eqvs, PyData.eqvAll]
    rw [py_eqv (h x List.mem_cons_self) (h' y List.mem_cons_self), pys_eqv (fun z hz => h z (List.mem_cons_of_mem _ hz)) (fun z hz => h' z (List.mem_cons_of_mem _ hz))]
end
mutual
theorem py_lay : ∀ {n : Nat} {x : D}, x.q n = true → x.py.canLay0 = true ∧ x.py.depth ≤ n
  | n, .hnd _, h => by cases n <;> cases h
  | n, .dic, h => by cases n <;> cases h
  | n, .exc _, h => by cases n <;> cases h
  | n, .fn _, h => by cases n <;> cases h
  | n, .ptr _, h => by cases n <;> cases h
  | n, .non, _ => ⟨rfl, Nat.zero_le _⟩
  | n, .bl _, _ => ⟨rfl, Nat.zero_le _⟩
  | n, .int _, _ => ⟨rfl, Nat.zero_le _⟩
  | 0, .str _, h => ⟨h, Nat.zero_le _⟩
  | n + 1, .str _, h => ⟨h, Nat.zero_le _⟩
  | n + 1, .tup xs, h => let ⟨a, b⟩ := pys_lay (List.all_eq_true.mp h); ⟨a, Nat.succ_le_succ b⟩
  | n + 1, .lst xs, h => let ⟨a, b⟩ := pys_lay (List.all_eq_true.mp h); ⟨a, Nat.succ_le_succ b⟩
  | 0, .tup _, h => by cases h
  | 0, .lst _, h => by cases h
theorem pys_lay : ∀ {n : Nat} {xs : List D}, (∀ x ∈ xs, x.q n = true) → PyData.canLayAll0 (D.pys xs) = true ∧ PyData.depthAll (D.pys xs) ≤ n
  | n, [], _ => ⟨rfl, Nat.zero_le _⟩
  | n, x :: xs, h => by
    obtain ⟨a, b⟩ := py_lay (h x List.mem_cons_self)
    obtain ⟨c, d⟩ := pys_lay fun z hz => h z (List.mem_cons_of_mem _ hz)
    simp only [D.pys, PyData.canLayAll0, PyData.depthAll, a, c, Bool.and_self, true_and]
    omega
end
theorem shaped_q {x : D} (h : x.q 8 = true) : SeqAt.shaped x.py = true := by
  obtain ⟨a, b⟩ := py_lay h
  unfold SeqAt.shaped
  rw [a, decide_eq_true (by omega)] <;> rfl
mutual
theorem Dn.dp {s : Bool} {K : PySem.W.Frag} {F : List Addr} {G H : Hp} (hG : ∀ a o, G a = some o → H a = some o) : ∀ {n : Nat} {v : V} {d : D}, Dn s K F G v d → d.q n = true → Dp K H v d.py
  | _, _, _, .non, _ => .non
  | _, _, _, .bl b, _ => .bl b
  | _, _, _, .int i, _ => .int i
  | _, _, _, .str x, _ => .str x
  | n + 1, _, _, .tup h r, q => .tup ((h.mono fun a xs => hG a _).sq) (DnA.dp hG r (List.all_eq_true.mp q))
  | n + 1, _, _, .lst h r, q => .lst ((h.mono hG).sq) (DnA.dp hG r (List.all_eq_true.mp q))
  | 0, _, _, .tup _ _, q => by cases q
  | 0, _, _, .lst _ _, q => by cases q
  | n, _, _, .hnd h, q => by cases n <;> cases q
  | n, _, _, .dic h, q => by cases n <;> cases q
  | n, _, _, .exc h _, q => by cases n <;> cases q
  | n, _, _, .fn h, q => by cases n <;> cases q
  | n, _, _, .ptr, q => by cases n <;> cases q
theorem DnA.dp {s : Bool} {K : PySem.W.Frag} {F : List Addr} {G H : Hp} (hG : ∀ a o, G a = some o → H a = some o) : ∀ {n : Nat} {vs : List V} {ds : List D}, DnA s K F G vs ds → (∀ x ∈ ds, x.q n = true) → DpAll K H vs (D.pys ds)
  | _, _, _, .nil, _ => .nil
  | _, _, _, .cons h r, q => .cons (Dn.dp hG h (q _ List.mem_cons_self)) (DnA.dp hG r fun x hx => q x (List.mem_cons_of_mem _ hx))
end
def gEq : G2 := fun x y Q => (x.q 8 = true ∧ y.q 8 = true ∧ Q (.bl (x.eqv y))) ∨ ∃ a b, x = .str a ∧ y = .str b ∧ Q (.bl (decide (a = b)))
def gNe : G2 := fun x y Q => (x.q 8 = true ∧ y.q 8 = true ∧ Q (.bl (!x.eqv y))) ∨ ∃ a b, x = .str a ∧ y = .str b ∧ Q (.bl (!decide (a = b)))

section
variable {X : Cx} {C : Cn} {e a b c : Expr} {es : List Expr} {pos : Pos} {ta tb tc : DT C.W.M}
theorem ok_eq (hu : X.A.units + 64 < cLine) : OpOk X C (compareOp .Eq) gEq := by
  refine ⟨_, (op_eqD hu).or op_eq, fun σ H Pr F ρ m x y dx dy Q R S hx hy q k => ?_⟩
  rcases q with ⟨q1, q2, q⟩ | ⟨a, b, rfl, rfl, q⟩
  · refine .inl ⟨_, _, hx.dp (fun _ _ => wv_le) q1, hy.dp (fun _ _ => wv_le) q2, shaped_q q1, shaped_q q2, k _ _ (post_here S (.bl _) (fun _ h => nomatch h) ?_)⟩
    rw [py_eqv q1 q2]
    exact q
  · cases hx; cases hy
    refine .inr ⟨rfl, k _ _ (post_here S (.bl _) (fun _ h => nomatch h) ?_)⟩
    rw [show decide (V.str a = V.str b) = decide (a = b) from by rw [Bool.eq_iff_iff]; simp]
    exact q
theorem ok_ne (hu : X.A.units + 64 < cLine) : OpOk X C (compareOp .NotEq) gNe := by
  refine ⟨_, (op_neD hu).or op_ne, fun σ H Pr F ρ m x y dx dy Q R S hx hy q k => ?_⟩
  rcases q with ⟨q1, q2, q⟩ | ⟨a, b, rfl, rfl, q⟩
  · refine .inl ⟨_, _, hx.dp (fun _ _ => wv_le) q1, hy.dp (fun _ _ => wv_le) q2, shaped_q q1, shaped_q q2, k _ _ (post_here S (.bl _) (fun _ h => nomatch h) ?_)⟩
    rw [py_eqv q1 q2]
    exact q
  · cases hx; cases hy
    refine .inr ⟨rfl, k _ _ (post_here S (.bl _) (fun _ h => nomatch h) ?_)⟩
    rw [show decide (V.str a = V.str b) = decide (a = b) from by rw [Bool.eq_iff_iff]; simp]
    exact q
abbrev gGt : G2 := g0 fun i j => .bl (decide (j < i))
theorem ok_gt : OpOk X C (compareOp .Gt) gGt := opok_cmp0 op_gt
def D.isN : D → Bool
  | .non => true
  | _ => false
def gIsN : G2 := fun x y Q => y.isN = true ∧ Q (.bl x.isN)
def gNotN : G2 := fun x y Q => y.isN = true ∧ Q (.bl (!x.isN))
theorem j_cmp {op : CmpOp} {g : G2} (o : OpOk X C (compareOp op) g) (ha : J .w X C a ta) (hb : J .w X C b tb) (hm : behindInMarks op b = false := by exact nomark _) : J .f X C (.Compare a [op] [b] pos) (dBin g ta tb) := by
  obtain ⟨r, ho, q⟩ := o
  obtain ⟨te, p, q1⟩ := ha
  obtain ⟨te', p', q2⟩ := hb
  refine ⟨_, pe_cmpR ho p p' hm, fun σ H Pr F ρ m Q Z R S E h k => ?_⟩
  refine q1 σ H Pr F ρ m _ Z _ S E h fun v H1 ⟨P1, F1, m1, d, S1, t1, dv, z⟩ => ?_
  refine q2 σ H1 P1 F1 ρ m1 _ Z _ S1 (E.te t1.toTr) z fun w H2 ⟨P2, F2, m2, d2, S2, t2, dv2, z2⟩ => ?_
  exact q σ H2 P2 F2 ρ m2 v w d d2 Q R S2 (Dn.te t2 dv) dv2 z2 fun v H' z => k v H' ((z.te t2).te t1)
/-- an answer that is True or False, as a test -/
def dTst {M : Type} (t : DT M) : DTT M := fun ρ m Q Z => t ρ m (fun d m' => match d with | .bl b => Q b m' | _ => False) Z
theorem post_tst {K : PySem.W.Frag} {c : Cl} {Pr : Addr → Prop} {F : List Addr} {H H' : Hp} {σ : L2.St} {ρ : En} {Q : Bool → C.W.M → Prop} {v : V} (h : Post K C c Pr F H σ ρ (fun d m' => match d with | .bl b => Q b m' | _ => False) v H') : ∃ b, v = .bl b ∧ PostT K C Pr F H σ ρ Q b H' := by
  obtain ⟨P1, F1, m1, d, S1, t1, dv, z⟩ := h
  split at z
  · rename_i b
    refine ⟨b, ?_, P1, F1, m1, S1, t1, z⟩
    cases c with
    | f =>
      have dv := dv.1
      cases dv
      rfl
    | w =>
      have dv : Dn false K F1 (wv F1 H') v (.bl b) := dv
      cases dv
      rfl
    | s =>
      have dv : Dn true K F1 (sv C.H0 P1 H') v (.bl b) := dv
      cases dv
      rfl
    | r =>
      have dv : Dn true K F1 (sv C.H0 (· ∈ F1) H') v (.bl b) := dv
      cases dv
      rfl
  · exact z.elim
theorem jt_cmp {op : CmpOp} {g : G2} (o : OpOk X C (compareOp op) g) (ha : J .w X C a ta) (hb : J .w X C b tb) (hm : behindInMarks op b = false := by exact nomark _) : JT X C (.Compare a [op] [b] pos) (dTst (dBin g ta tb)) := by
  obtain ⟨r, ho, q⟩ := o
  obtain ⟨te, p, q1⟩ := ha
  obtain ⟨te', p', q2⟩ := hb
  refine ⟨_, pt_cmpR ho p p' hm, fun σ H Pr F ρ m Q Z R S E h k => ?_⟩
  refine q1 σ H Pr F ρ m _ Z _ S E h fun v H1 ⟨P1, F1, m1, d, S1, t1, dv, z⟩ => ?_
  refine q2 σ H1 P1 F1 ρ m1 _ Z _ S1 (E.te t1.toTr) z fun w H2 ⟨P2, F2, m2, d2, S2, t2, dv2, z2⟩ => ?_
  exact q σ H2 P2 F2 ρ m2 v w d d2 _ _ S2 (Dn.te t2 dv) dv2 z2 fun v H' z => by
    obtain ⟨b, e, z⟩ := post_tst ((z.te t2).te t1)
    exact ⟨b, e, k b H' z⟩
/-! ### tests -/
/-- a value's truth -/
def D.tr : D → Option Bool
  | .non => some false
  | .bl b => some b
  | .int i => some (i != 0)
  | .tup xs | .lst xs => some (!xs.isEmpty)
  | .str _ => none
  | .hnd _ => none
  | .dic => none
  | .exc _ => none
  | .fn _ => none
  | .ptr _ => none
def dVal {M : Type} (t : DT M) : DTT M := fun ρ m Q Z => t ρ m (fun d m' => match d.tr with | some b => Q b m' | none => False) Z
/-- any expression that is no and, or, not, if, comparison -/
theorem jt_val {t : DT C.W.M} (h : J .w X C e t) (he : ∀ whole, isTrue e X.env whole = (do let v ← whole; standAt e.pos; holding [v] (truthy v)) := by intro _; rfl) :
    JT X C e (dVal t) := by
  obtain ⟨te, p, q⟩ := h
  refine ⟨_, pt_truth p he, fun σ H Pr F ρ m Q Z R S E h k => ?_⟩
  refine q σ H Pr F ρ m _ Z _ S E h fun v H1 ⟨P1, F1, m1, d, S1, t1, dv, z⟩ => ?_
  have dv : Dn false X.K F1 (wv F1 H1) v d := dv
  try dsimp only at z
  split at z
  · rename_i b e
    refine ⟨b, ?_, k b H1 ⟨P1, F1, m1, S1, t1, z⟩⟩
    have el : ∀ {vs : List V} {ds : List D}, DnA false X.K F1 (wv F1 H1) vs ds → (!ds.isEmpty) = !vs.isEmpty := fun h => by cases h <;> rfl
    cases dv with
    | non => exact (Option.some.inj e).symm
    | bl b => exact (Option.some.inj e).symm
    | int i => exact (Option.some.inj e).symm
    | str x => cases e
    | hnd h => cases e
    | dic h => cases e
    | exc h _ => cases e
    | fn h => cases e
    | ptr => cases e
    | tup h r => exact .inr (.inl ⟨_, (h.mono fun a xs => wv_le).sq, (Option.some.inj e).symm.trans (el r)⟩)
    | lst h r => exact .inl ⟨_, (h.mono fun a xs => wv_le).sq, (Option.some.inj e).symm.trans (el r)⟩
  · exact z.elim
variable {rest : List Expr} {tt uu : DTT C.W.M}
def dAnd {M : Type} (t u : DTT M) : DTT M := fun ρ m Q Z => t ρ m (fun b m1 => if b = true then u ρ m1 Q Z else Q false m1) Z
def dOr {M : Type} (t u : DTT M) : DTT M := fun ρ m Q Z => t ρ m (fun b m1 => if b = true then Q true m1 else u ρ m1 Q Z) Z
def dNot {M : Type} (t : DTT M) : DTT M := fun ρ m Q Z => t ρ m (fun b m1 => Q (!b) m1) Z
theorem JW.t (h : JW X C e tt) : JT X C e tt := by
  obtain ⟨te, p, q⟩ := h
  exact ⟨te, p.pt, q⟩
theorem jw_and1 (h : JT X C a tt) : JW X C (.BoolOp .And [a] pos) tt := by
  obtain ⟨te, p, q⟩ := h
  exact ⟨te, pw_and1 p, q⟩
theorem jw_or1 (h : JT X C a tt) : JW X C (.BoolOp .Or [a] pos) tt := by
  obtain ⟨te, p, q⟩ := h
  exact ⟨te, pw_or1 p, q⟩
theorem jw_and (h : JT X C a tt) (r : JW X C (.BoolOp .And (b :: rest) pos) uu) : JW X C (.BoolOp .And (a :: b :: rest) pos) (dAnd tt uu) := by
  obtain ⟨te, p, q⟩ := h
  obtain ⟨te', p', q'⟩ := r
  refine ⟨_, pw_and p p', fun σ H Pr F ρ m Q Z R S E h k => ?_⟩
  refine q σ H Pr F ρ m _ Z _ S E h fun v H1 ⟨P1, F1, m1, S1, t1, z⟩ => ?_
  cases v with
  | true => exact iteT (q' σ H1 P1 F1 ρ m1 Q Z R S1 (E.te t1.toTr) z fun w H2 z => k w H2 (z.te t1))
  | false => exact iteF (k false H1 ⟨P1, F1, m1, S1, t1, z⟩)
theorem jw_or (h : JT X C a tt) (r : JW X C (.BoolOp .Or (b :: rest) pos) uu) : JW X C (.BoolOp .Or (a :: b :: rest) pos) (dOr tt uu) := by
  obtain ⟨te, p, q⟩ := h
  obtain ⟨te', p', q'⟩ := r
  refine ⟨_, pw_or p p', fun σ H Pr F ρ m Q Z R S E h k => ?_⟩
  refine q σ H Pr F ρ m _ Z _ S E h fun v H1 ⟨P1, F1, m1, S1, t1, z⟩ => ?_
  cases v with
  | false => exact iteF (q' σ H1 P1 F1 ρ m1 Q Z R S1 (E.te t1.toTr) z fun w H2 z => k w H2 (z.te t1))
  | true => exact iteT (k true H1 ⟨P1, F1, m1, S1, t1, z⟩)
theorem jt_not (h : JT X C a tt) : JT X C (.UnaryOp .Not a pos) (dNot tt) := by
  obtain ⟨te, p, q⟩ := h
  refine ⟨_, pt_not p, fun σ H Pr F ρ m Q Z R S E h k => ?_⟩
  exact q σ H Pr F ρ m _ Z _ S E h fun v H1 ⟨P1, F1, m1, S1, t1, z⟩ => k _ H1 ⟨P1, F1, m1, S1, t1, z⟩
/-! and, or, not as values (True or False) -/
def dAndV {M : Type} (t u : DT M) : DT M := fun ρ m Q Z => t ρ m (fun d m1 => match d with | .bl true => u ρ m1 Q Z | .bl false => Q (.bl false) m1 | _ => False) Z
def dOrV {M : Type} (t u : DT M) : DT M := fun ρ m Q Z => t ρ m (fun d m1 => match d with | .bl false => u ρ m1 Q Z | .bl true => Q (.bl true) m1 | _ => False) Z
def dNotV {M : Type} (t : DT M) : DT M := fun ρ m Q Z => t ρ m (fun d m1 => match d with | .bl b => Q (.bl (!b)) m1 | _ => False) Z
theorem j_one {op} {t : DT C.W.M} {c : Cl} (h : J c X C a t) : J c X C (.BoolOp op [a] pos) t := by
  obtain ⟨te, p, q⟩ := h
  exact ⟨te, pe_one p, q⟩
theorem post_bl {K : PySem.W.Frag} {Pr : Addr → Prop} {F : List Addr} {H H' : Hp} {v : V} {b : Bool} (h : Dv K C .f Pr F H H' v (.bl b)) : v = .bl b := by
  have h := h.1
  cases h
  rfl
theorem j_and (ha : J .f X C a ta) (r : J .f X C (.BoolOp .And (b :: rest) pos) tb) : J .f X C (.BoolOp .And (a :: b :: rest) pos) (dAndV ta tb) := by
  obtain ⟨te, p, q⟩ := ha
  obtain ⟨te', p', q'⟩ := r
  refine ⟨_, pe_and p p', fun σ H Pr F ρ m Q Z R S E h k => ?_⟩
  refine q σ H Pr F ρ m _ Z _ S E h fun v H1 ⟨P1, F1, m1, d, S1, t1, dv, z⟩ => ?_
  try dsimp only at z
  split at z
  · exact ⟨true, post_bl dv, iteT (q' σ H1 P1 F1 ρ m1 Q Z R S1 (E.te t1.toTr) z fun w H2 z => k w H2 (z.te t1))⟩
  · exact ⟨false, post_bl dv, iteF (k _ _ ((post_here (d := .bl false) S1 (.bl false) (fun _ h => nomatch h) z).te t1))⟩
  · exact z.elim
theorem j_or (ha : J .f X C a ta) (r : J .f X C (.BoolOp .Or (b :: rest) pos) tb) : J .f X C (.BoolOp .Or (a :: b :: rest) pos) (dOrV ta tb) := by
  obtain ⟨te, p, q⟩ := ha
  obtain ⟨te', p', q'⟩ := r
  refine ⟨_, pe_or p p', fun σ H Pr F ρ m Q Z R S E h k => ?_⟩
  refine q σ H Pr F ρ m _ Z _ S E h fun v H1 ⟨P1, F1, m1, d, S1, t1, dv, z⟩ => ?_
  try dsimp only at z
  split at z
  · exact ⟨false, post_bl dv, iteF (q' σ H1 P1 F1 ρ m1 Q Z R S1 (E.te t1.toTr) z fun w H2 z => k w H2 (z.te t1))⟩
  · exact ⟨true, post_bl dv, iteT (k _ _ ((post_here (d := .bl true) S1 (.bl true) (fun _ h => nomatch h) z).te t1))⟩
  · exact z.elim
theorem j_not (ha : J .f X C a ta) : J .f X C (.UnaryOp .Not a pos) (dNotV ta) := by
  obtain ⟨te, p, q⟩ := ha
  refine ⟨_, pe_not p, fun σ H Pr F ρ m Q Z R S E h k => ?_⟩
  refine q σ H Pr F ρ m _ Z _ S E h fun v H1 ⟨P1, F1, m1, d, S1, t1, dv, z⟩ => ?_
  try dsimp only at z
  split at z
  · rename_i b
    exact ⟨b, post_bl dv, k _ _ ((post_here (d := .bl (!b)) S1 (.bl _) (fun _ h => nomatch h) z).te t1)⟩
  · exact z.elim
def dNeg {M : Type} (t : DT M) : DT M := fun ρ m Q Z => t ρ m (fun d m1 => match d with | .int i => Q (.int (-i)) m1 | _ => False) Z
theorem j_neg (ha : J .w X C a ta) : J .f X C (.UnaryOp .USub a pos) (dNeg ta) := by
  obtain ⟨te, p, q⟩ := ha
  refine ⟨_, pe_un un_neg p, fun σ H Pr F ρ m Q Z R S E h k => ?_⟩
  refine q σ H Pr F ρ m _ Z _ S E h fun v H1 ⟨P1, F1, m1, d, S1, t1, dv, z⟩ => ?_
  have dv : Dn false X.K F1 (wv F1 H1) v d := dv
  try dsimp only at z
  split at z
  · exact ⟨_, dv.toInt, k _ _ ((post_here S1 (.int _) (fun _ h => nomatch h) z).te t1)⟩
  · exact z.elim
/-- a if t else b -/
def dIf {M : Type} (t : DTT M) (u w : DT M) : DT M := fun ρ m Q Z => t ρ m (fun b m1 => if b = true then u ρ m1 Q Z else w ρ m1 Q Z) Z
theorem j_if {cl : Cl} (hc : JT X C c tt) (ha : J cl X C a ta) (hb : J cl X C b tb) : J cl X C (.IfExp c a b pos) (dIf tt ta tb) := by
  obtain ⟨tc, p, q⟩ := hc
  obtain ⟨te, p1, q1⟩ := ha
  obtain ⟨te', p2, q2⟩ := hb
  refine ⟨_, pe_ifExp p p1 p2, fun σ H Pr F ρ m Q Z R S E h k => ?_⟩
  refine q σ H Pr F ρ m _ Z _ S E h fun v H1 ⟨P1, F1, m1, S1, t1, z⟩ => ?_
  cases v with
  | true => exact iteT (q1 σ H1 P1 F1 ρ m1 Q Z R S1 (E.te t1.toTr) z fun w H2 z => k w H2 (z.te t1))
  | false => exact iteF (q2 σ H1 P1 F1 ρ m1 Q Z R S1 (E.te t1.toTr) z fun w H2 z => k w H2 (z.te t1))

/-! ### calls -/
abbrev DSp (M : Type) := List D → M → (D → M → Prop) → (Str → M → Prop) → Prop
/-- a def's promise over data, as a promise of the hand layer -/
def spD (K : PySem.W.Frag) (mg : Str → Option Value) (W : Wd) (sp : DSp W.M) : Sp := fun vs H Q E => ∃ F m ds Qd Zd, W.Rz m F H ∧ DnA false K F (wv F H) vs ds ∧ sp ds m Qd Zd ∧
  (∀ v H' F' d m', W.Rz m' F' H' → (∃ G, F' = F ++ G) → (∀ a ∈ F', a ∉ F → H a = none) → (∀ a o, a ∉ F → H a = some o → H' a = some o) → Dn true K F' (sv H (· ∈ F') H') v d → Qd d m' → Q v H') ∧
  (∀ x cls H' F' m', mg x = some cls → W.Rz m' F' H' → (∃ G, F' = F ++ G) → (∀ a ∈ F', a ∉ F → H a = none) → (∀ a o, a ∉ F → H a = some o → H' a = some o) → Zd x m' → E cls none H')
/-- a def that may be called by its name x; dds: its defaults that fill up -/
def FD (P : Program) (w : World) (K : PySem.W.Frag) (mg : Str → Option Value) (base : Heap) (W : Wd) (k : Nat) (x : Str) (dds : List D) (sp : DSp W.M) : Prop :=
  ∃ f fd ps ds dvs, FnG P w K mg base (L2.CX P w) k f fd ps (spD K mg W sp) ∧ mg x = some (.ref f) ∧ PySem.W.keepIn K (.ref f) = true ∧ Binds K fd ps ds ∧ Vals dvs ds ∧ ∀ F G, DnA false K F G dvs dds
def dCall {M : Type} (sp : DSp M) (dds : List D) (t : DTA M) : DT M := fun ρ m Q Z => t ρ m (fun ds m1 => sp (ds ++ dds) m1 Q Z) Z
theorem j_call {x : Str} {k : Nat} {dds : List D} {sp : DSp C.W.M} {ta : DTA C.W.M} {p : Pos} (h : FD X.prog X.w X.K X.mg X.base C.W k x dds sp) (hr : RoomG k X.A) (tk : Takes X C.wx) (hg : Gl X x) (ha : JA .w X C (e :: es) ta)
    (hdb : (x == ("__debug__" : Str)) = false := by decide) (he : starEach (e :: es) X.env = (false, eval e X.env) :: starEach es X.env := by rfl) (hpl : (backTo pos (starEach es X.env)).any (·.1) = false := by rfl) :
    J .f X C (.Call (.Name x p) (e :: es) [] pos) (dCall sp dds ta) := by
  obtain ⟨f, fd, ps, ds, dvs, G, hm, hk, hb, hd, hdd⟩ := h
  obtain ⟨te, pa, q⟩ := ha
  refine ⟨_, pe_callG (E := fun σ cls d H' => C.wx cls d σ H') G hr hg hm hk hb hd (fun σ => passAt tk σ) pa hdb he hpl, fun σ H Pr F ρ m Q Z R S E h k => ?_⟩
  refine q σ H Pr F ρ m _ Z _ S E h fun vs H1 ⟨P1, F1, m1, ds1, S1, t1, dv, z⟩ => ?_
  have dv : DnA false X.K F1 (wv F1 H1) vs ds1 := dv
  refine ⟨F1, m1, ds1 ++ dds, Q, Z, S1.rz, dv.app (hdd _ _), z, fun v H' F' d m' rz pre fr kp dn q => ?_, fun x cls H' F' m' hx rz pre fr kp z => ?_⟩
  · obtain ⟨S2, t2⟩ := S1.turned rz pre fr kp
    have np : ∀ {a o}, sv H1 (· ∈ F') H' a = some o → IsL o → ¬ (P1 a ∨ a ∈ F') ∧ C.H0 a = none ∧ H1 a = none := fun {a o} h l => by
      obtain ⟨e, q⟩ := vw_iff.mp h
      rcases q with q | q
      · exact (IsT.not_L q l).elim
      · exact ⟨fun z => z.elim (S1.np q.2.2) q.2.1, S1.h0n q.2.2, q.2.2⟩
    have up : ∀ a o, sv H1 (· ∈ F') H' a = some o → sv C.H0 (fun a => P1 a ∨ a ∈ F') H' a = some o := fun a o h => by
      obtain ⟨e, q⟩ := vw_iff.mp h
      refine vw_iff.mpr ⟨e, q.imp id fun q => ⟨q.1, (np h q.1).1, (np h q.1).2.1⟩⟩
    refine k v H' ⟨_, F', m', d, S2, t1.trans t2, ⟨dn.mono ⟨[], by simp⟩ up, fun ds e => ?_⟩, q⟩
    subst e
    cases dn with
    | lst h r =>
      rename_i a xs
      have h : sv H1 (· ∈ F') H' a = some (.lst xs) := h
      obtain ⟨n1, n2, n3⟩ := np h trivial
      exact ⟨a, xs, rfl, some_of (t1.stay a) n3, n1, sv_le h, DnA.mono ⟨[], by simp⟩ up r⟩
  · obtain ⟨S2, t2⟩ := S1.turned rz pre fr kp
    exact E x cls _ F' m' H' hx S2 (t1.trans t2).toTr z
/-- a call of a built-in over data: c = w, the arguments are looked at; c = s, they may be kept in the answer -/
def CaOk (X : Cx) (C : Cn) (c : Cl) (f : Value) (g : List D → (D → Prop) → Prop) : Prop := ∃ r, CallR X f r ∧
  ∀ σ H Pr F ρ m vs ds Q (R : VK), SR X.K C Pr F σ ρ m H → DvA X.K C c Pr F H vs ds → g ds (fun d => Q d m) → (∀ v H', Post X.K C .f Pr F H σ ρ Q v H' → R v H') → r vs H R
def dB {M : Type} (g : List D → (D → Prop) → Prop) (t : DTA M) : DT M := fun ρ m Q Z => t ρ m (fun ds m1 => g ds fun d => Q d m1) Z
theorem j_callB {cl : Cl} {id : String} {x : Str} {g : List D → (D → Prop) → Prop} {ta : DTA C.W.M} {p : Pos} (h : CaOk X C cl (.builtin id) g) (hm : X.mg x = none) (hv : bootBuiltins x = some (.builtin id)) (ha : JA cl X C (e :: es) ta) (hg : Gl X x := by rfl) (hn : x ≠ "__name__" := by decide) (hdb : (x == ("__debug__" : Str)) = false := by decide)
    (he : starEach (e :: es) X.env = (false, eval e X.env) :: starEach es X.env := by rfl) (hpl : (backTo pos (starEach es X.env)).any (·.1) = false := by rfl) : J .f X C (.Call (.Name x p) (e :: es) [] pos) (dB g ta) := by
  obtain ⟨r, hc, q'⟩ := h
  obtain ⟨te, pa, q⟩ := ha
  refine ⟨_, pe_callB hc hg hm hv pa hn hdb he hpl, fun σ H Pr F ρ m Q Z R S E h k => ?_⟩
  refine q σ H Pr F ρ m _ Z _ S E h fun vs H1 ⟨P1, F1, m1, ds1, S1, t1, dv, z⟩ => ?_
  exact q' σ H1 P1 F1 ρ m1 vs ds1 Q R S1 dv z fun v H' z => k v H' (z.te t1)
theorem j_callTy {cl : Cl} {T : String} {x : Str} {g : List D → (D → Prop) → Prop} {ta : DTA C.W.M} {p : Pos} (h : CaOk X C cl (.type T) g) (hm : X.mg x = none) (hv : bootBuiltins x = some (.type T)) (ha : JA cl X C (e :: es) ta) (hg : Gl X x := by rfl) (hn : x ≠ "__name__" := by decide) (hdb : (x == ("__debug__" : Str)) = false := by decide)
    (he : starEach (e :: es) X.env = (false, eval e X.env) :: starEach es X.env := by rfl) (hpl : (backTo pos (starEach es X.env)).any (·.1) = false := by rfl) : J .f X C (.Call (.Name x p) (e :: es) [] pos) (dB g ta) := by
  obtain ⟨r, hc, q'⟩ := h
  obtain ⟨te, pa, q⟩ := ha
  refine ⟨_, pe_callTy hc hg hm hv pa hn hdb he hpl, fun σ H Pr F ρ m Q Z R S E h k => ?_⟩
  refine q σ H Pr F ρ m _ Z _ S E h fun vs H1 ⟨P1, F1, m1, ds1, S1, t1, dv, z⟩ => ?_
  exact q' σ H1 P1 F1 ρ m1 vs ds1 Q R S1 dv z fun v H' z => k v H' (z.te t1)
theorem Dn.sqT {s : Bool} {K : PySem.W.Frag} {F : List Addr} {G H : Hp} {v : V} {ds : List D} (hG : ∀ a o, G a = some o → H a = some o) (h : Dn s K F G v (.tup ds)) : ∃ a vs, v = .ref a ∧ SqT K H a vs ∧ vs.length = ds.length ∧ DnA s K F G vs ds := by
  cases h with
  | tup h r => exact ⟨_, _, rfl, (h.mono fun a xs => hG a _).sq, r.length, r⟩
theorem Dn.sqL {s : Bool} {K : PySem.W.Frag} {F : List Addr} {G H : Hp} {v : V} {ds : List D} (hG : ∀ a o, G a = some o → H a = some o) (h : Dn s K F G v (.lst ds)) : ∃ a vs, v = .ref a ∧ SqL K H a vs ∧ vs.length = ds.length ∧ DnA s K F G vs ds := by
  cases h with
  | lst h r => exact ⟨_, _, rfl, (h.mono hG).sq, r.length, r⟩
def gLen : List D → (D → Prop) → Prop
  | [.lst xs], Q | [.tup xs], Q => Q (.int xs.length)
  | [.str z], Q => z.length ≤ sizeLine ∧ Q (.int z.length)
  | _, _ => False
theorem ca_len : CaOk X C .w (.builtin "len") gLen := by
  refine ⟨_, call_len_seq.or call_len_str, fun σ H Pr F ρ m vs ds Q R S dv q k => ?_⟩
  have dv : DnA false X.K F (wv F H) vs ds := dv
  unfold gLen at q
  split at q
  · cases dv with
    | cons h r =>
      cases r
      obtain ⟨a, us, rfl, hs, hl, _⟩ := h.sqL (fun _ _ => wv_le)
      refine .inl ⟨a, us, rfl, .inl hs, ?_⟩
      rw [hl]
      exact k _ _ (post_here S (.int _) (fun _ h => nomatch h) q)
  · cases dv with
    | cons h r =>
      cases r
      obtain ⟨a, us, rfl, hs, hl, _⟩ := h.sqT (fun _ _ => wv_le)
      refine .inl ⟨a, us, rfl, .inr hs, ?_⟩
      rw [hl]
      exact k _ _ (post_here S (.int _) (fun _ h => nomatch h) q)
  · cases dv with
    | cons h r =>
      cases r
      cases h
      exact .inr ⟨_, rfl, q.1, k _ _ (post_here S (.int _) (fun _ h => nomatch h) q.2)⟩
  · exact q.elim
def gI1 (f : Int → Int) : List D → (D → Prop) → Prop
  | [.int i], Q => Q (.int (f i))
  | _, _ => False
def gI2 (f : Int → Int → Int) : List D → (D → Prop) → Prop
  | [.int i, .int j], Q => Q (.int (f i j))
  | _, _ => False
theorem ca_I1 {f : Value} {g : Int → Int} (h : CallR X f (fun xs H Q => ∃ i, xs = [.int i] ∧ Q (.int (g i)) H)) : CaOk X C .w f (gI1 g) := by
  refine ⟨_, h, fun σ H Pr F ρ m vs ds Q R S dv q k => ?_⟩
  have dv : DnA false X.K F (wv F H) vs ds := dv
  unfold gI1 at q
  split at q
  · cases dv with
    | cons h r =>
      cases r
      cases h
      exact ⟨_, rfl, k _ _ (post_here S (.int _) (fun _ h => nomatch h) q)⟩
  · exact q.elim
theorem ca_I2 {f : Value} {g : Int → Int → Int} (h : CallR X f (fun xs H Q => ∃ i j, xs = [.int i, .int j] ∧ Q (.int (g i j)) H)) : CaOk X C .w f (gI2 g) := by
  refine ⟨_, h, fun σ H Pr F ρ m vs ds Q R S dv q k => ?_⟩
  have dv : DnA false X.K F (wv F H) vs ds := dv
  unfold gI2 at q
  split at q
  · cases dv with
    | cons h r =>
      cases r with
      | cons h' r =>
        cases r
        cases h
        cases h'
        exact ⟨_, _, rfl, k _ _ (post_here S (.int _) (fun _ h => nomatch h) q)⟩
  · exact q.elim
def iabs (i : Int) : Int := if i < 0 then -i else i
def imax (i j : Int) : Int := if j > i then j else i
def imin (i j : Int) : Int := if j < i then j else i
theorem ca_abs : CaOk X C .w (.builtin "abs") (gI1 iabs) := ca_I1 call_abs
theorem ca_max (hc : X.calm = true) : CaOk X C .w (.builtin "max") (gI2 imax) := ca_I2 (call_max2 hc)
theorem ca_min (hc : X.calm = true) : CaOk X C .w (.builtin "min") (gI2 imin) := ca_I2 (call_min2 hc)
def gInt : List D → (D → Prop) → Prop
  | [.int i], Q => Q (.int i)
  | [.bl b], Q => Q (.int (if b then 1 else 0))
  | _, _ => False
/-- a new list of strong items -/
theorem post_new {K : PySem.W.Frag} {Pr : Addr → Prop} {F : List Addr} {H : Hp} {σ : L2.St} {ρ : En} {m : C.W.M} {Q : D → C.W.M → Prop} {p : Addr} {vs : List V} {ds : List D} (S : SR K C Pr F σ ρ m H) (hp : H p = none) (dv : DnA true K F (sv C.H0 Pr H) vs ds) (q : Q (.lst ds) m) :
    Post K C .f Pr F H σ ρ Q (.ref p) (upd H p (.lst vs)) := by
  obtain ⟨S2, t2⟩ := S.new1 (o := .lst vs) hp
  have np := S.np hp
  have dv2 : DnA true K F (sv C.H0 Pr (upd H p (.lst vs))) vs ds := DnA.mono t2.pre (sv_tr t2.toTr S.prs) dv
  exact ⟨Pr, F, m, .lst ds, S2, t2, ⟨.lst (vw_iff.mpr ⟨upd_same, .inr ⟨trivial, np, S.h0n hp⟩⟩) dv2, fun ds' e => by cases e; exact ⟨p, vs, rfl, hp, np, upd_same, dv2⟩⟩, q⟩
theorem post_newT {K : PySem.W.Frag} {Pr : Addr → Prop} {F : List Addr} {H : Hp} {σ : L2.St} {ρ : En} {m : C.W.M} {Q : D → C.W.M → Prop} {p : Addr} {vs : List V} {ds : List D} (S : SR K C Pr F σ ρ m H) (hp : H p = none) (dv : DnA true K F (sv C.H0 Pr H) vs ds) (q : Q (.tup ds) m) :
    Post K C .f Pr F H σ ρ Q (.ref p) (upd H p (.tup vs)) := by
  obtain ⟨S2, t2⟩ := S.new1 (o := .tup vs) hp
  exact ⟨Pr, F, m, .tup ds, S2, t2, dv_flat S2 (.tup (.inl (vw_iff.mpr ⟨upd_same, .inl trivial⟩)) (DnA.mono t2.pre (sv_tr t2.toTr S.prs) dv)) (fun _ h => nomatch h), q⟩
/-- weak items without lists are strong -/
theorem DnA.up {K : PySem.W.Frag} {Pr : Addr → Prop} {F : List Addr} {H : Hp} {vs : List V} {ds : List D} (h : DnA false K F (wv F H) vs ds) (n : D.nls ds = true) : DnA true K F (sv C.H0 Pr H) vs ds :=
  h.flat ⟨[], by simp⟩ (fun a o i q => vw_iff.mpr ⟨wv_le q, .inl i⟩) n
theorem Dn.up {K : PySem.W.Frag} {Pr : Addr → Prop} {F : List Addr} {H : Hp} {v : V} {d : D} (h : Dn false K F (wv F H) v d) (n : d.nl = true) : Dn true K F (sv C.H0 Pr H) v d :=
  h.flat ⟨[], by simp⟩ (fun a o i q => vw_iff.mpr ⟨wv_le q, .inl i⟩) n
/-- list(x), tuple(x) of what is looked at: without lists within -/
def gSeq (mk : List D → D) : List D → (D → Prop) → Prop
  | [.lst xs], Q | [.tup xs], Q => D.nls xs = true ∧ Q (mk xs)
  | _, _ => False
theorem ca_list : CaOk X C .w (.type "list") (gSeq .lst) := by
  refine ⟨_, call_list_of, fun σ H Pr F ρ m vs ds Q R S dv q k => ?_⟩
  have dv : DnA false X.K F (wv F H) vs ds := dv
  unfold gSeq at q
  split at q
  · cases dv with
    | cons h r =>
      cases r
      obtain ⟨a, us, rfl, hs, hl, hd⟩ := h.sqL (fun _ _ => wv_le)
      exact ⟨a, us, rfl, .inl hs, fun l hl => k _ _ (post_new S hl (hd.up q.1) q.2)⟩
  · cases dv with
    | cons h r =>
      cases r
      obtain ⟨a, us, rfl, hs, hl, hd⟩ := h.sqT (fun _ _ => wv_le)
      exact ⟨a, us, rfl, .inr hs, fun l hl => k _ _ (post_new S hl (hd.up q.1) q.2)⟩
  · exact q.elim
theorem ca_tuple : CaOk X C .w (.type "tuple") (gSeq .tup) := by
  refine ⟨_, call_tuple_of, fun σ H Pr F ρ m vs ds Q R S dv q k => ?_⟩
  have dv : DnA false X.K F (wv F H) vs ds := dv
  unfold gSeq at q
  split at q
  · cases dv with
    | cons h r =>
      cases r
      obtain ⟨a, us, rfl, hs, hl, hd⟩ := h.sqL (fun _ _ => wv_le)
      exact ⟨a, us, rfl, .inl ⟨hs, fun l hl => k _ _ (post_newT S hl (hd.up q.1) q.2)⟩⟩
  · cases dv with
    | cons h r =>
      cases r
      have hs := Dn.up (C := C) (Pr := Pr) h q.1
      obtain ⟨a, us, rfl, hs', hl, hd⟩ := h.sqT (fun _ _ => wv_le)
      exact ⟨a, us, rfl, .inr ⟨hs', k _ _ (post_here S hs (fun _ h => nomatch h) q.2)⟩⟩
  · exact q.elim
/-- isinstance of a built-in type -/
def D.ty : D → Option String
  | .non => some "NoneType" | .bl _ => some "bool" | .int _ => some "int" | .str _ => some "str" | .tup _ => some "tuple" | .lst _ => some "list" | .hnd _ => none | .dic => some "dict" | .exc _ => none | .fn _ => none | .ptr _ => none
def isiB (t T : String) : Bool := t == T || (t == "bool" && T == "int")
def IsiT (T : String) : Prop := ∀ t ∈ ["NoneType", "bool", "int", "str", "tuple", "list", "dict"], kitB t T = some (isiB t T)
theorem ty_of {K : PySem.W.Frag} {F : List Addr} {G H : Hp} {v : V} {d : D} (hG : ∀ a o, G a = some o → H a = some o) (h : Dn false K F G v d) {t : String} (e : d.ty = some t) : TyX K H v (.type t) := by
  cases h with
  | non => cases e; exact .base .non
  | bl b => cases e; exact .base (.bl b)
  | int i => cases e; exact .base (.int i)
  | str x => cases e; exact .base (.str x)
  | hnd h => cases e
  | exc h _ => cases e
  | fn h => cases e
  | ptr => cases e
  | dic h => cases e; exact .base (.dK (hG _ _ h))
  | tup h r =>
    cases e
    rcases h with h | ⟨o, its, n, h, c, _⟩
    · exact .base (.tup (hG _ _ h))
    · exact .kTuple h c
  | lst h r =>
    cases e
    rcases h with (h | ⟨o, h⟩) | ⟨o, its, n, h, c, _⟩
    · exact .base (.lst (hG _ _ h))
    · exact .base (.frz (hG _ _ h))
    · exact .kList h c
def dIsi {M : Type} (T : String) (t : DT M) : DT M := fun ρ m Q Z => t ρ m (fun d m1 => match d.ty with | some ty => Q (.bl (isiB ty T)) m1 | none => False) Z
theorem j_isi {T : String} {x : Str} {p p2 : Pos} {t : DT C.W.M} (hT : IsiT T) (ha : J .w X C a t) (mi : X.mg "isinstance" = none) (mx : X.mg x = none) (hv : bootBuiltins x = some (.type T)) (gi : Gl X "isinstance" := by rfl) (gx : Gl X x := by rfl) (hn : x ≠ "__name__" := by decide) (hdb : (x == ("__debug__" : Str)) = false := by decide)
    (he : starEach [a, .Name x p2] X.env = (false, eval a X.env) :: starEach [.Name x p2] X.env := by rfl) (hpl : (backTo pos (starEach [.Name x p2] X.env)).any (·.1) = false := by rfl) :
    J .f X C (.Call (.Name "isinstance" p) [a, .Name x p2] [] pos) (dIsi T t) := by
  obtain ⟨te, pa, q⟩ := ha
  refine ⟨_, pe_callB call_isi gi mi (by decide +kernel) (pa_cons pa (pa_cons (pe_bltn gx mx hv (v := .ty T) rfl hn hdb) pa_nil) he) (by decide) (by decide) he hpl, fun σ H Pr F ρ m Q Z R S E h k => ?_⟩
  refine q σ H Pr F ρ m _ Z _ S E h fun v H1 ⟨P1, F1, m1, d, S1, t1, dv, z⟩ => ?_
  try dsimp only at z
  split at z
  · rename_i ty e
    refine ⟨v, .ty T, .type ty, .type T, _, rfl, .ty T, ty_of (fun _ _ => wv_le) dv e, kit_ty (hT ty ?_), k _ _ ((post_here (d := .bl (isiB ty T)) S1 (.bl _) (fun _ h => nomatch h) z).te t1)⟩
    cases d <;> first | (cases e; simp) | cases e
  · exact z.elim
theorem isi_tuple : IsiT "tuple" := by unfold IsiT; decide +kernel
theorem isi_bool : IsiT "bool" := by unfold IsiT; decide +kernel
theorem isi_int : IsiT "int" := by unfold IsiT; decide +kernel
/-! ### places and slices -/
/-- x[i]; k: the items are without lists -/
def gIx (n : Bool) : G2 := fun x y Q => match x, y with
  | .lst ds, .int i | .tup ds, .int i => (match atI ds i with | some d => (n = true → d.nl = true) ∧ Q d | none => False)
  | .str z, .int i => z.length ≤ sizeLine ∧ (match atI z.cps.toList i with | some c => Q (.str ⟨#[c]⟩) | none => False)
  | _, _ => False
theorem atI_dn {s : Bool} {K : PySem.W.Frag} {F : List Addr} {G : Hp} {vs : List V} {ds : List D} {i : Int} {d : D} (h : DnA s K F G vs ds) (e : atI ds i = some d) : ∃ v, atI vs i = some v ∧ Dn s K F G v d := by
  unfold atI at e ⊢
  rw [h.length]
  cases q : ixN ds.length i with
  | none => rw [q] at e; cases e
  | some j =>
    rw [q] at e
    exact h.getD (by simpa using e)
theorem ix_core {n sb : Bool} {K : PySem.W.Frag} {F : List Addr} {G H : Hp} {v w : V} {d d2 : D} {R : VK} {Q : D → Prop} (hG : ∀ a o, G a = some o → H a = some o) (dv : Dn sb K F G v d) (dw : w = .int 0 ∨ ∀ i, d2 = .int i → w = .int i)
    (hw : ∀ i, d2 = .int i → w = .int i) (q : gIx n d d2 Q) (fin : ∀ v' d', Dn sb K F G v' d' → (n = true → d'.nl = true) → Q d' → R v' H) : rIx K v w H R := by
  unfold gIx at q
  split at q
  · split at q
    · rename_i e
      cases dv with
      | lst hl hr =>
        obtain ⟨v', e', r'⟩ := atI_dn hr e
        exact .inl ⟨_, _, _, v', rfl, hw _ rfl, (hl.mono hG).sq, e', fin _ _ r' q.1 q.2⟩
    · exact q.elim
  · split at q
    · rename_i e
      cases dv with
      | tup hl hr =>
        obtain ⟨v', e', r'⟩ := atI_dn hr e
        exact .inr (.inl ⟨_, _, _, v', rfl, hw _ rfl, (hl.mono fun a xs => hG a _).sq, e', fin _ _ r' q.1 q.2⟩)
    · exact q.elim
  · obtain ⟨hz, q⟩ := q
    split at q
    · rename_i c e
      cases dv
      exact .inr (.inr ⟨_, _, c, rfl, hw _ rfl, hz, e, fin _ (.str ⟨#[c]⟩) (.str _) (fun _ => rfl) q⟩)
    · exact q.elim
  · exact q.elim
theorem j_ix {ta tb : DT C.W.M} (ha : J .s X C a ta) (hb : J .w X C b tb) (hs : PlainIx b := by exact fun _ _ => rfl) : J .s X C (.Subscript a b pos) (dBin (gIx false) ta tb) := by
  obtain ⟨te, p, q1⟩ := ha
  obtain ⟨te', p', q2⟩ := hb
  refine ⟨_, pe_ix ix_seq p p' hs, fun σ H Pr F ρ m Q Z R S E h k => ?_⟩
  refine q1 σ H Pr F ρ m _ Z _ S E h fun v H1 ⟨P1, F1, m1, d, S1, t1, dv, z⟩ => ?_
  refine q2 σ H1 P1 F1 ρ m1 _ Z _ S1 (E.te t1.toTr) z fun w H2 ⟨P2, F2, m2, d2, S2, t2, dv2, z2⟩ => ?_
  have dv2 : Dn false X.K F2 (wv F2 H2) w d2 := dv2
  have hw : ∀ i, d2 = .int i → w = .int i := fun i e => by rw [e] at dv2; exact dv2.toInt
  exact ix_core (fun _ _ => sv_le) (Dn.tr (H0 := C.H0) t2.toTr S1.prs dv) (.inr hw) hw z2 fun v' d' h _ q => k _ _ ⟨P2, F2, m2, d', S2, t1.trans t2, h, q⟩
/-- .. of what is only looked at -/
theorem j_ixw {ta tb : DT C.W.M} (ha : J .w X C a ta) (hb : J .w X C b tb) (hs : PlainIx b := by exact fun _ _ => rfl) : J .s X C (.Subscript a b pos) (dBin (gIx true) ta tb) := by
  obtain ⟨te, p, q1⟩ := ha
  obtain ⟨te', p', q2⟩ := hb
  refine ⟨_, pe_ix ix_seq p p' hs, fun σ H Pr F ρ m Q Z R S E h k => ?_⟩
  refine q1 σ H Pr F ρ m _ Z _ S E h fun v H1 ⟨P1, F1, m1, d, S1, t1, dv, z⟩ => ?_
  refine q2 σ H1 P1 F1 ρ m1 _ Z _ S1 (E.te t1.toTr) z fun w H2 ⟨P2, F2, m2, d2, S2, t2, dv2, z2⟩ => ?_
  have dv2 : Dn false X.K F2 (wv F2 H2) w d2 := dv2
  have hw : ∀ i, d2 = .int i → w = .int i := fun i e => by rw [e] at dv2; exact dv2.toInt
  exact ix_core (fun _ _ => wv_le) (Dn.te t2 dv) (.inr hw) hw z2 fun v' d' h n q => k _ _ ⟨P2, F2, m2, d', S2, t1.trans t2, h.up (n rfl), q⟩
/-- a part of a slice -/
abbrev DTO (M : Type) := En → M → (Option Int → M → Prop) → (Str → M → Prop) → Prop
def JO (X : Cx) (C : Cn) (e : Option Expr) (t : DTO C.W.M) : Prop := ∃ te, PO X e te ∧
  ∀ σ H Pr F ρ m Q Z (R : Option Int → Hp → Prop), SR X.K C Pr F σ ρ m H → Ex X C Pr F H σ ρ Z → t ρ m Q Z → (∀ o H', (∃ Pr' F' m', SR X.K C Pr' F' σ ρ m' H' ∧ Te Pr F H Pr' F' H' ∧ Q o m') → R o H') → te σ H R
def dONone {M : Type} : DTO M := fun _ m Q _ => Q none m
def dOSome {M : Type} (t : DT M) : DTO M := fun ρ m Q Z => t ρ m (fun d m1 => match d with | .int i => Q (some i) m1 | _ => False) Z
theorem jo_none : JO X C none dONone := ⟨_, po_none, fun σ H Pr F ρ m Q Z R S E h k => k _ _ ⟨Pr, F, m, S, Te.refl, h⟩⟩
theorem jo_some {t : DT C.W.M} (h : J .w X C e t) : JO X C (some e) (dOSome t) := by
  obtain ⟨te, p, q⟩ := h
  refine ⟨_, po_some p, fun σ H Pr F ρ m Q Z R S E h k => ?_⟩
  refine q σ H Pr F ρ m _ Z _ S E h fun v H1 ⟨P1, F1, m1, d, S1, t1, dv, z⟩ => ?_
  have dv : Dn false X.K F1 (wv F1 H1) v d := dv
  try dsimp only at z
  split at z
  · exact ⟨_, dv.toInt, k _ _ ⟨P1, F1, m1, S1, t1, z⟩⟩
  · exact z.elim
def cutD (xs : List D) (lo hi : Option Int) : List D := (xs.drop (HT.sIx xs.length 0 lo)).take (HT.sIx xs.length xs.length hi - HT.sIx xs.length 0 lo)
theorem cut_dn {s : Bool} {K : PySem.W.Frag} {F : List Addr} {G : Hp} {vs : List V} {ds : List D} {lo hi : Option Int} (h : DnA s K F G vs ds) : DnA s K F G (cutV vs lo hi) (cutD ds lo hi) := by
  unfold cutV cutD
  rw [h.length]
  exact (h.drop _).take _
/-- x[lo:hi] of a list or a tuple whose items are without lists -/
def dSl {M : Type} (t : DT M) (lo hi : DTO M) : DT M := fun ρ m Q Z => t ρ m (fun x m1 => lo ρ m1 (fun l m2 => hi ρ m2 (fun u m3 => match x with
  | .lst ds => D.nls ds = true ∧ Q (.lst (cutD ds l u)) m3
  | .tup ds => D.nls ds = true ∧ Q (.tup (cutD ds l u)) m3
  | _ => False) Z) Z) Z
theorem nls_all : ∀ {ds : List D}, D.nls ds = true ↔ ∀ d ∈ ds, d.nl = true
  | [] => by simp [D.nls]
  | d :: ds => by rw [D.nls, Bool.and_eq_true, nls_all]; simp
theorem nls_sub {ds es : List D} (h : D.nls ds = true) (s : ∀ d ∈ es, d ∈ ds) : D.nls es = true := nls_all.mpr fun d hd => nls_all.mp h d (s d hd)
theorem nls_cut {ds : List D} {l u : Option Int} (h : D.nls ds = true) : D.nls (cutD ds l u) = true := nls_sub h fun d hd => List.mem_of_mem_drop (List.mem_of_mem_take hd)
theorem j_sl {lo hi : Option Expr} {t : DT C.W.M} {tl th : DTO C.W.M} {p2 : Pos} (ha : J .w X C e t) (hl : JO X C lo tl) (hh : JO X C hi th) : J .f X C (.Subscript e (.Slice lo hi none p2) pos) (dSl t tl th) := by
  obtain ⟨te, p, q1⟩ := ha
  obtain ⟨te', p', q2⟩ := hl
  obtain ⟨te'', p'', q3⟩ := hh
  refine ⟨_, pe_slice (sl_list.or sl_tupA) p p' p'', fun σ H Pr F ρ m Q Z R S E h k => ?_⟩
  refine q1 σ H Pr F ρ m _ Z _ S E h fun v H1 ⟨P1, F1, m1, d, S1, t1, dv, z⟩ => ?_
  refine q2 σ H1 P1 F1 ρ m1 _ Z _ S1 (E.te t1.toTr) z fun l H2 ⟨P2, F2, m2, S2, t2, z2⟩ => ?_
  refine q3 σ H2 P2 F2 ρ m2 _ Z _ S2 (E.te (t1.trans t2).toTr) z2 fun u H3 ⟨P3, F3, m3, S3, t3, z3⟩ => ?_
  have dv : Dn false X.K F3 (wv F3 H3) v d := Dn.te (t2.trans t3) dv
  have t4 := t1.trans (t2.trans t3)
  try dsimp only at z3
  split at z3
  · obtain ⟨a, us, rfl, hs, hl, hd⟩ := dv.sqL (fun _ _ => wv_le)
    exact .inl ⟨a, us, rfl, hs, fun p hp => k _ _ ((post_new S3 hp (cut_dn hd |>.up (nls_cut z3.1)) z3.2).te t4)⟩
  · have hst := Dn.up (C := C) (Pr := P3) dv z3.1
    generalize hds : (D.tup _) = dd at hst
    cases hds
    obtain ⟨a, us, rfl, hs, hl, hd⟩ := dv.sqT (fun _ _ => wv_le)
    refine .inr ⟨a, us, rfl, hs, fun w => ?_, fun _ p hp => k _ _ ((post_newT S3 hp (cut_dn hd |>.up (nls_cut z3.1)) z3.2).te t4)⟩
    have e : ∀ {ds : List D}, us.length = ds.length → cutD ds l u = ds := fun {ds} hl => by
      unfold cutD
      rw [← hl, w.1, w.2, List.drop_zero, Nat.sub_zero, hl, List.take_length]
    rw [e hl] at z3
    exact k _ _ ((post_here S3 hst (fun _ h => nomatch h) z3.2).te t4)
  · exact z3.elim
end
end RR

/-! RM: a tuple times 1, 0 or less -/
namespace RR
open PySem PySem.Spec PyProof.Rows L2
/-- few: an empty one -/
theorem tup_mul0 (l : Addr) (xs : Array Value) (n : Nat) (dd : Option Addr) (sl : Array (Option Value)) (x : Int) (u : Tok) (h0 : x ≤ 0) (hl : -(2 ^ 63) ≤ x) (ne : xs.isEmpty = false) :
    Meets (Builtin.«tuple.__mul__» ⟨[.ref l, .int x u], []⟩) (fun _ R s => s.heap.get? l = some ⟨.type "tuple", dd, .seq xs n, sl⟩ ∧ R (.ok (.ret (.ref s.heap.objs.size))) { s with heap := s.heap.push { cls := .type "tuple", data := .seq #[] }, toks := s.toks }) := by
  refine .of_wp fun prog w A R s h => ?_
  obtain ⟨hp, g, d, tk, os⟩ := s
  obtain ⟨at_, h⟩ := h
  have q0 : (decide (x < -(2 ^ 63)) || decide (x ≥ 2 ^ 63)) = false := by rw [decide_eq_false (by omega), decide_eq_false (by omega)]; rfl
  have q1 : (xs.isEmpty || x == 1) = false := by rw [ne, Bool.false_or]; exact beq_eq_false_iff_ne.mpr (by omega)
  have q2 : (decide (x ≤ 0) || xs.isEmpty) = true := by rw [decide_eq_true h0]; rfl
  have f1 := AutoSeq1.idx_int
  wp_walk using wpAny_loadPart' at_
  repeat (first
    | (refine wpAny_ite_false (decide_eq_false (fun z => Bool.false_ne_true (q0.symm.trans z))) ?_; wp_walk using wpAny_loadPart' at_)
    | (refine wpAny_ite_false (decide_eq_false (fun z => Bool.false_ne_true (q1.symm.trans z))) ?_; wp_walk using wpAny_loadPart' at_)
    | (refine wpAny_ite_true (decide_eq_true q2) ?_; wp_walk using wpAny_loadPart' at_)
    | exact ⟨_, rfl, h⟩)
/-- once: the same -/
theorem tup_mul1 (l : Addr) (xs : Array Value) (n : Nat) (dd : Option Addr) (sl : Array (Option Value)) (u : Tok) :
    Meets (Builtin.«tuple.__mul__» ⟨[.ref l, .int 1 u], []⟩) (fun _ R s => s.heap.get? l = some ⟨.type "tuple", dd, .seq xs n, sl⟩ ∧ R (.ok (.ret (.ref l))) s) := by
  refine .of_wp fun prog w A R s h => ?_
  obtain ⟨hp, g, d, tk, os⟩ := s
  obtain ⟨at_, h⟩ := h
  have q0 : (decide ((1 : Int) < -(2 ^ 63)) || decide ((1 : Int) ≥ 2 ^ 63)) = false := by decide
  have q1 : (xs.isEmpty || (1 : Int) == 1) = true := by simp
  have f1 := AutoSeq1.idx_int
  wp_walk using wpAny_loadPart' at_
  repeat (first
    | (refine wpAny_ite_false (decide_eq_false (fun z => Bool.false_ne_true (q0.symm.trans z))) ?_; wp_walk using wpAny_loadPart' at_)
    | (refine wpAny_ite_true (decide_eq_true q1) ?_; wp_walk using wpAny_loadPart' at_)
    | exact ⟨_, rfl, h⟩)
def rRepF (K : PySem.W.Frag) : R2 := fun x y H Q => ∃ l k xs, x = .ref l ∧ y = .int k ∧ SqT K H l xs ∧ xs ≠ [] ∧ -(2 ^ 63) ≤ k ∧ ((k ≤ 0 ∧ ∀ p, H p = none → Q (.ref p) (upd H p (.tup []))) ∨ (k = 1 ∧ Q (.ref l) H))
theorem op_repF {X : Cx} : OpR X (binaryOp .Mult) (rRepF X.K) := by
  intro pins s σ H x y v u Q I rx ry h
  obtain ⟨l, k, xs, rfl, rfl, sq, ne, kl, h⟩ := h
  cases rx
  obtain ⟨t, rfl⟩ := ry
  obtain ⟨its, r, ⟨⟨cls, dd, data, sl⟩, at_, hc, n, hd⟩, hs⟩ := I.tuple sq
  simp only at hc hd
  subst hc
  subst hd
  have full : its.toArray.isEmpty = false := by
    cases its with
    | nil => cases r; exact absurd rfl ne
    | cons a b => rfl
  rcases h with ⟨k0, q⟩ | ⟨rfl, q⟩
  · have mul := tup_mul0 l its.toArray n dd sl k t k0 kl full
    refine wpAny_binaryOp_repeat_ref (T := "tuple") (U := "int") (by decide) ⟨_, at_, rfl⟩ (fun s' => typeIs_int s' k t) noFill_tuple_mul F.fills_int_mul F.slot_int_rmul repeat_tuple F.slot_int_index.lookup ?_
    refine call_meets F.slot_int_rmul (typeIs_int s k t) F.entry_int_rmul (F.args_int_rmul_2 _ _) (int_rmul_tuple k t l its.toArray n dd sl) ⟨at_, rfl, ⟨_, at_, rfl⟩, ?_⟩
    refine call_meets F.slot_tuple_mul ⟨_, at_, rfl⟩ F.entry_tuple_mul (F.args_tuple_mul_2 _ _) mul ⟨at_, ?_⟩
    exact ⟨.ref s.heap.objs.size, _, I.laid (t' := s.toks) (o := .tup []) (fun b ob q => Heap.get?_push_of_some _ q) (Nat.le_refl _) ⟨Nat.zero_le _, [], .nil, IsTup.new _ _⟩, rfl, q _ (I.hok.fresh (Nat.le_refl _))⟩
  · have mul := tup_mul1 l its.toArray n dd sl t
    refine wpAny_binaryOp_repeat_ref (T := "tuple") (U := "int") (by decide) ⟨_, at_, rfl⟩ (fun s' => typeIs_int s' 1 t) noFill_tuple_mul F.fills_int_mul F.slot_int_rmul repeat_tuple F.slot_int_index.lookup ?_
    refine call_meets F.slot_int_rmul (typeIs_int s 1 t) F.entry_int_rmul (F.args_int_rmul_2 _ _) (int_rmul_tuple 1 t l its.toArray n dd sl) ⟨at_, rfl, ⟨_, at_, rfl⟩, ?_⟩
    refine call_meets F.slot_tuple_mul ⟨_, at_, rfl⟩ F.entry_tuple_mul (F.args_tuple_mul_2 _ _) mul ⟨at_, ?_⟩
    exact ⟨.ref l, H, I, rfl, q⟩
end RR

/-! REa: enumerate of a tuple -/
namespace RR
open PySem PyProof.Rows
open PySem.AutoSeq1 (wpAny_loadPart')
theorem draws_tuple {prog : Program} {w : World} {A : Around} (hh : A.handled = none) (it l : Addr) (hne : l ≠ it) (items : Array Value) :
    Draws prog w A it [it, l] items.size (fun i v => items[i]? = some v) (fun i h => h.IsTupleIter it l i ∧ h.IsTuple l items) where
  live := fun _ _ st => let ⟨o, ho, _⟩ := st.1; ⟨o, ho⟩
  frame := fun _ _ _ st hk => ⟨st.1.at fun o e => hk it (by simp) o e, by
    obtain ⟨o, e, r⟩ := st.2
    exact ⟨o, hk l (by simp) o e, r⟩⟩
  item := fun i s Q E hi st hQ => by
    refine RZ.nextOf_tuple_item st.1 st.2 (x := items[i]) (by simp [hi]) fun h' hit' hs' => ?_
    refine hQ _ h' s.toks (by simp [hi]) ⟨hit', ?_⟩ hs'
    obtain ⟨o, e, r⟩ := st.2
    exact ⟨o, (hs'.2 l hne).trans e, r⟩
  done := fun s Q E st hE => RZ.nextOf_tuple_end hh st.1 st.2 (by simp) hE
theorem meets_enumerate_newT (l : Addr) (items : Array Value) :
    Meets (Builtin.«enumerate.__new__» ⟨[.type "enumerate", .ref l], []⟩) (fun _ R s => s.heap.IsTuple l items ∧
      R (.ok (.ret (.ref (s.heap.push { cls := .type "tuple_iterator", data := .fields #[.ref l, .int 0 0] }).objs.size)))
        { s with heap := (s.heap.push { cls := .type "tuple_iterator", data := .fields #[.ref l, .int 0 0] }).push { cls := .type "enumerate", data := .fields #[.none, .bool false, .ref s.heap.objs.size, rawInt 0, .none, .none] } }) :=
  .of_wp fun prog w A R s h => by
    obtain ⟨hp, g, d, tk, os⟩ := s; obtain ⟨hl, h⟩ := h
    have hsub := sub_enumerate
    have hL : Heap.IsTuple (Shared.heap ⟨hp, g, d, tk, os⟩) l items := hl
    wp_walk using wpAny_pyIter_tuple hL
    refine wpAny_stack_any fun st => wpAny_pure ?_
    split
    · rename_i c _ _ _ _ _
      cases (c == Value.type "enumerate")
      · wp_walk using wpAny_pyIter_tuple hL
        exact ⟨_, rfl, h⟩
      · wp_walk using wpAny_pyIter_tuple hL
        exact ⟨_, rfl, h⟩
    · wp_walk using wpAny_pyIter_tuple hL
      exact ⟨_, rfl, h⟩
section
variable {prog : Program} {w : World} {A : Around} {E : Value → Shared → Prop} {s : Shared}
theorem call_enumerate_tuple {l : Addr} {items : Array Value} {Q : Value → Shared → Prop} (hL : s.heap.IsTuple l items)
    (h : ∀ h', IsEnum h' (s.heap.objs.size + 1) s.heap.objs.size 0 .none → h'.IsTupleIter s.heap.objs.size l 0 → h'.objs.size = s.heap.objs.size + 2 →
      (∀ b o, s.heap.get? b = some o → h'.get? b = some o) → Q (.ref (s.heap.objs.size + 1)) { s with heap := h' }) :
    wpAny (model prog w) A (call (.type "enumerate") [.ref l]) Q E s := by
  refine callType_new F.called_enumerate (by decide) (F.typeCall_enumerate_1 _) (F.newCall_enumerate_1 _) (fun obj => F.args_object_init_2 obj _) F.entry_enumerate_new
    (meets_enumerate_newT l items) ⟨hL, ?_⟩
  have hz : (s.heap.push { cls := .type "tuple_iterator", data := .fields #[.ref l, .int 0 0] }).objs.size = s.heap.objs.size + 1 := Heap.size_push ..
  show _ ∧ _
  rw [hz]
  have he : IsEnum ((s.heap.push { cls := .type "tuple_iterator", data := .fields #[.ref l, .int 0 0] }).push
      { cls := .type "enumerate", data := .fields #[.none, .bool false, .ref s.heap.objs.size, rawInt 0, .none, .none] }) (s.heap.objs.size + 1) s.heap.objs.size 0 .none := by
    have := Heap.get?_push_size (s.heap.push { cls := .type "tuple_iterator", data := .fields #[.ref l, .int 0 0] })
      (o := { cls := .type "enumerate", data := .fields #[.none, .bool false, .ref s.heap.objs.size, rawInt 0, .none, .none] }) rfl
    rw [hz] at this; exact this
  refine ⟨⟨_, he, rfl⟩, h _ he ⟨_, Heap.get?_push_of_some _ (Heap.get?_push_size _ rfl), rfl, rfl⟩ (by rw [Heap.size_push, hz]) fun b o x => Heap.get?_push_of_some _ (Heap.get?_push_of_some _ x)⟩
end
open PySem.Spec L2
/-- the tuple at a, each item in a new pair -/
def IteT (K : PySem.W.Frag) (a : Addr) : It :=
  ⟨fun i H => ∃ (xs : List V) (x : V), SqT K H a xs ∧ xs[i]? = some x, fun i H v H' => ∃ T x, v = .ref T ∧ H T = none ∧ H' = upd H T (.tup [.int (i : Nat), x]) ∧ ∀ xs, SqT K H a xs → xs[i]? = some x, fun i H => ∃ xs : List V, SqT K H a xs ∧ xs.length ≤ i⟩
theorem turn_enumT {P : Program} {w : World} {K : PySem.W.Frag} {elts : List Expr} {kk : Nat} {tpos : Pos} (a e it : Addr) :
    Turn P w K (.Tuple elts kk tpos) (IteT K a) [e, it] e (fun i h => (∃ old, IsEnum h e it ((i : Nat) : Int) old) ∧ h.IsTupleIter it a i ∧ e ≠ it) where
  mem := by simp
  obj := fun i h st b hb => by
    obtain ⟨⟨old, he⟩, ⟨o, ho, hc, hd⟩, _⟩ := st
    have e' : b = e ∨ b = it := by simpa using hb
    rcases e' with z | z
    · rw [z]; exact ⟨_, he, fun v q => nomatch q⟩
    · rw [z]; exact ⟨o, ho, fun v q => by rw [hd] at q; cases q⟩
  keep := fun i h h' st k => let ⟨⟨old, he⟩, hi, hne⟩ := st; ⟨⟨old, k e (by simp) _ he⟩, hi.at fun o q => k it (by simp) o q, hne⟩
  item := by
    intro X hP hw hK hc i pins s σ H E I hf st hg
    subst hP hw hK
    obtain ⟨⟨old, he⟩, hit, hne⟩ := st
    obtain ⟨xs, x, hq, hx⟩ := hg
    obtain ⟨its, rv, p, hz⟩ := I.tuple hq
    obtain ⟨u, hu, ru⟩ := rv.get hx
    have hel : e < s.heap.objs.size := Heap.lt_size he
    have hil : it < s.heap.objs.size := by obtain ⟨_, q, _⟩ := hit; exact Heap.lt_size q
    have hai : a ≠ it := fun z => by
      obtain ⟨o, q, c, _⟩ := p
      obtain ⟨o', q', c', _⟩ := hit
      rw [z, q'] at q; cases q
      rw [c'] at c; exact absurd c (by decide)
    have hae : a ≠ e := fun z => by
      obtain ⟨o, q, c, _⟩ := p
      rw [z, he] at q; cases q
      exact absurd (show Value.type "enumerate" = Value.type "tuple" from c) (by decide)
    refine wpAny_pyNext_enum_itemD (draws_tuple (A := X.A.in1) (I.ok.hd hc) it a hai its.toArray) he ⟨hit, p⟩ (by simpa using (List.getElem?_eq_some_iff.mp hu).1) hne (fun z => by
      have e' : e = it ∨ e = a := by simpa using z
      exact e'.elim hne fun z => hae z.symm) fun y h' tk hy ho hst hT hsz hk => ?_
    have ey : y = u := by
      have hy : its.toArray[i]? = some y := hy
      rw [List.getElem?_toArray, hu] at hy
      exact (Option.some.inj hy).symm
    subst ey
    refine ⟨_, rfl, wpAny_letOwnedTupleGo_enum (s := { s with heap := h', toks := tk + 1 }) ho fun h'' he' sb => ?_⟩
    have hT2 : h''.get? s.heap.objs.size = some { cls := .type "tuple", data := .seq #[.int i tk, y] } := (sb.2 _ (Nat.ne_of_gt hel)).trans hT
    have new : ObjOk X.prog X.w (upd H s.heap.objs.size (.tup [.int (i : Nat), x])) h'' s.heap.objs.size (.tup [.int (i : Nat), x]) :=
      ⟨by show 2 ≤ sizeLine; decide, [.int i tk, y], .cons ⟨_, rfl⟩ (.cons ru .nil), ⟨_, hT2, rfl, _, rfl⟩⟩
    have I1 : Inv X pins σ (upd H s.heap.objs.size (.tup [.int (i : Nat), x])) { s with heap := h'', toks := tk + 1 } :=
      I.turnedNew (t' := tk + 1) (ch := [e, it]) (fun b ob hb q => (sb.2 b (fun z => hb (by simp [z]))).trans (hk b ob (fun z => hb (by simp [z])) (fun z => hb (by simp [z])) q)) hf (Nat.le_refl _) new
    refine ⟨.ref s.heap.objs.size, _, I1, rfl, ⟨_, x, rfl, I.hok.fresh (Nat.le_refl _), rfl, fun ys hy => by rw [I.tuple_inj hy hq]; exact hx⟩, ⟨⟨y, ?_⟩, hst.1.at fun o q => (sb.2 it (Ne.symm hne)).trans q, hne⟩, fun b hb => ?_⟩
    · have e1 : ((i + 1 : Nat) : Int) = (i : Int) + 1 := by omega
      rw [e1]; exact he'
    · have hb' : b < s.heap.objs.size := by
        have e' : b = e ∨ b = it := by simpa using hb
        rcases e' with z | z
        · rw [z]; exact hel
        · rw [z]; exact hil
      rw [upd_ne (Nat.ne_of_lt hb')]
      exact (hf b hb).1
  done := by
    intro X hP hw hK hc i pins s σ H E I hf st hg
    subst hP hw hK
    obtain ⟨⟨old, he⟩, hit, hne⟩ := st
    obtain ⟨xs, hq, hx⟩ := hg
    obtain ⟨its, rv, p, hz⟩ := I.tuple hq
    obtain ⟨f0, f1, f2, f3, f4, f5⟩ := hf it (by simp)
    have hl := rv.length
    have hT : s.TypeIs (.ref e) "enumerate" := ⟨_, he, rfl⟩
    show wpAny _ X.A (pyNext (.ref e)) _ E s
    unfold pyNext
    refine wpAny_bind (wpAny_attempt (wpAny_callSpecial?_slot (name := Str.ofString "__next__") hT F.slot_enumerate_next
      (wpAny_call_entry F.slot_enumerate_next hT F.entry_enumerate_next ?_ (F.args_enumerate_next_1 _))))
    show wpAny _ _ (field (.ref e) 2 >>= _) _ _ _
    refine wpAny_bind (wpAny_field he rfl (x := .ref it) rfl ?_)
    refine wpAny_bind (RZ.nextOf_tuple_end (A := X.A.in1) (I.ok.hd hc) hit p (by simp; omega) fun h' x he' hx' => ?_)
    obtain ⟨o, ho, hcx⟩ := hx'
    refine wpAny_bind (wpAny_isInstance (T := "StopIteration") (b := true) ⟨o, ho, hcx⟩ isSubtype_stop ?_)
    exact wpAny_pure ⟨rfl, I.turned (t' := s.toks) (fun b o hb q => he' b o hb q) f0 f1 f3 f4 f5⟩
  self := fun A i s Q E st h => let ⟨⟨_, he⟩, _⟩ := st; wpAny_pyIter_enum he h
/-- enumerate(x), x a list or a tuple -/
def iEnumA (K : PySem.W.Frag) (ta : TA) : TI := fun σ H R => ta σ H fun vs H1 => ∃ a xs, vs = [.ref a] ∧ ((SqL K H1 a xs ∧ R (Ite K a) H1) ∨ (SqT K H1 a xs ∧ R (IteT K a) H1))
theorem pi_enumA {X : Cx} {e : Expr} {ta : TA} {p pos tpos : Pos} {elts : List Expr} {kk : Nat} (hg : Gl X "enumerate") (hm : X.mg "enumerate" = none) (ha : PA X [e] ta) (hs : starEach [e] X.env = [(false, eval e X.env)] := by rfl) :
    PI X (.Tuple elts kk tpos) (.Call (.Name "enumerate" p) [e] [] pos) (iEnumA X.K ta) := by
  refine ⟨fun pins s σ H R I h => ?_⟩
  refine Call_ (ld_blt I hg hm boot_enumerate (PyProof.Rows.callWith_type1 (thn (ha.run pos pins s σ H _ I h) fun us s1 ⟨vs, H1, I1, r1, q1⟩ => ?_) hs rfl))
  obtain ⟨a, xs, ex, q1⟩ := q1
  subst ex
  have fin : ∀ {b : Addr}, (b = s1.heap.objs.size + 1 ∨ b = s1.heap.objs.size) → FpOk X pins H1 b := fun {b} e' => by
    have hle : s1.heap.objs.size ≤ b := by
      rcases e' with z | z
      · rw [z]; exact Nat.le_add_right _ _
      · rw [z]; exact Nat.le_refl _
    exact I1.fpOk hle (I1.hok.fresh hle)
  cases r1 with
  | cons r rr =>
    cases rr
    cases r
    rcases q1 with ⟨hq, q⟩ | ⟨hq, q⟩
    · obtain ⟨its, rv, p', hz⟩ := I1.list hq
      refine call_enumerate_list p'.isList fun h' he hit hsz hk => wpAny_pyIter_enum he ?_
      have I2 : Inv X pins σ H1 { s1 with heap := h' } := I1.kept (t' := s1.toks) hk
      exact ⟨s1.heap.objs.size + 1, [s1.heap.objs.size + 1, s1.heap.objs.size], _, _, H1, rfl, I2, turn_enum a (s1.heap.objs.size + 1) s1.heap.objs.size, ⟨⟨.none, he⟩, hit, Nat.succ_ne_self _⟩, fun b hb => fin (by simpa using hb), q⟩
    · obtain ⟨its, rv, p', hz⟩ := I1.tuple hq
      refine call_enumerate_tuple p' fun h' he hit hsz hk => wpAny_pyIter_enum he ?_
      have I2 : Inv X pins σ H1 { s1 with heap := h' } := I1.kept (t' := s1.toks) hk
      exact ⟨s1.heap.objs.size + 1, [s1.heap.objs.size + 1, s1.heap.objs.size], _, _, H1, rfl, I2, turn_enumT a (s1.heap.objs.size + 1) s1.heap.objs.size, ⟨⟨.none, he⟩, hit, Nat.succ_ne_self _⟩, fun b hb => fin (by simpa using hb), q⟩
theorem walk_enumT {K : PySem.W.Frag} {a : Addr} {xs : List V} : Walk (IteT K a) xs.length (fun H => SqT K H a xs) (YPair (fun i => some (.int (i : Nat))) (fun i => xs[i]?)) := by
  refine ⟨fun i _ hi q => ⟨xs, xs[i], q, by simp [hi]⟩, fun _ q => ⟨xs, q, Nat.le_refl _⟩, fun i H v H' _ q y => ?_⟩
  obtain ⟨T, x, h1, h2, h3, h4⟩ := y
  exact ⟨T, .int (i : Nat), x, h1, h2, h3, rfl, h4 xs q⟩
/-- a list or a tuple, walked -/
def iSeq (K : PySem.W.Frag) (tl : TE) : TI := fun σ H R => tl σ H fun x H1 => ∃ a xs, x = .ref a ∧ ((SqL K H1 a xs ∧ R (Itl K a) H1) ∨ (SqT K H1 a xs ∧ R (Itt K a) H1))
theorem pi_seq {X : Cx} {tg l : Expr} {tl : TE} (hl : PE X l tl) : PI X tg l (iSeq X.K tl) := by
  refine ⟨fun pins s σ H R I h => ?_⟩
  refine thn (hl.run pins s σ H _ I h) fun v s1 ⟨x, H1, I1, r1, q1⟩ => ?_
  obtain ⟨a, xs, e, q⟩ := q1
  subst e
  cases r1
  rcases q with ⟨hq, q⟩ | ⟨hq, q⟩
  · obtain ⟨its, rv, p, hz⟩ := I1.list hq
    refine wpAny_pyIter_list p.isList ?_
    refine ⟨s1.heap.objs.size, [s1.heap.objs.size], _, _, H1, rfl, I1.kept (t' := s1.toks) fun b o e => Heap.get?_push_of_some _ e, turn_list a _, ⟨_, Heap.get?_push_size _ rfl, rfl, rfl⟩, fun b hb => ?_, q⟩
    have e : b = s1.heap.objs.size := by simpa using hb
    subst e
    exact I1.fpOk (Nat.le_refl _) (I1.hok.fresh (Nat.le_refl _))
  · obtain ⟨its, rv, p, hz⟩ := I1.tuple hq
    refine wpAny_pyIter_tuple (show s1.heap.IsTuple a its.toArray from p) ?_
    refine ⟨s1.heap.objs.size, [s1.heap.objs.size], _, _, H1, rfl, I1.kept (t' := s1.toks) fun b o e => Heap.get?_push_of_some _ e, turn_tuple a _, ⟨_, Heap.get?_push_size _ rfl, rfl, rfl⟩, fun b hb => ?_, q⟩
    have e : b = s1.heap.objs.size := by simpa using hb
    subst e
    exact I1.fpOk (Nat.le_refl _) (I1.hok.fresh (Nat.le_refl _))
end RR

/-! RE: sums of lists, tuples, texts; what is walked; comprehensions -/
namespace RR
open PySem PySem.Spec PyProof.Rows L2

/-! ### lists that are tracked, looked at: names that own one, too -/
def JD (X : Cx) (C : Cn) (e : Expr) (t : DT C.W.M) : Prop := ∃ te, PE X e te ∧
  ∀ σ H Pr F ρ m Q Z (R : VK), SR X.K C Pr F σ ρ m H → Ex X C Pr F H σ ρ Z → t ρ m Q Z →
    (∀ v H', (∃ Pr' F' m' d, SR X.K C Pr' F' σ ρ m' H' ∧ Te Pr F H Pr' F' H' ∧ Dn true X.K F' (wv F' H') v d ∧ Q d m') → R v H') → te σ H R
section
variable {X : Cx} {C : Cn} {e a b : Expr} {pos : Pos}
theorem J.sd {t : DT C.W.M} (h : J .s X C e t) : JD X C e t := by
  obtain ⟨te, p, q⟩ := h
  exact ⟨te, p, fun σ H Pr F ρ m Q Z R S E h k => q σ H Pr F ρ m Q Z R S E h fun v H' ⟨P1, F1, m1, d, S1, t1, dv, z⟩ => k v H' ⟨P1, F1, m1, d, S1, t1, Dn.mono ⟨[], by simp⟩ S1.sv_wv dv, z⟩⟩
theorem J.fd {t : DT C.W.M} (h : J .f X C e t) : JD X C e t := h.sf.sd
theorem Dn.ted {K : PySem.W.Frag} {Pr Pr1 : Addr → Prop} {F F1 : List Addr} {H H1 : Hp} {v : V} {d : D} (t : Te Pr F H Pr1 F1 H1) (h : Dn true K F (wv F H) v d) : Dn true K F1 (wv F1 H1) v d := h.mono t.pre (wv_te t)
def OpD (X : Cx) (C : Cn) (f : Value → Value → Sem Value) (g : G2) : Prop := ∃ r, OpR X f r ∧
  ∀ σ H Pr F ρ m x y dx dy Q (R : VK), SR X.K C Pr F σ ρ m H → Dn true X.K F (wv F H) x dx → Dn true X.K F (wv F H) y dy → g dx dy (fun d => Q d m) → (∀ v H', Post X.K C .f Pr F H σ ρ Q v H' → R v H') → r x y H R
theorem j_bind {op : Operator} {g : G2} {ta tb : DT C.W.M} (o : OpD X C (binaryOp op) g) (ha : JD X C a ta) (hb : JD X C b tb) : J .f X C (.BinOp a op b pos) (dBin g ta tb) := by
  obtain ⟨r, ho, q⟩ := o
  obtain ⟨te, p, q1⟩ := ha
  obtain ⟨te', p', q2⟩ := hb
  refine ⟨_, pe_op ho p p', fun σ H Pr F ρ m Q Z R S E h k => ?_⟩
  refine q1 σ H Pr F ρ m _ Z _ S E h fun v H1 ⟨P1, F1, m1, d, S1, t1, dv, z⟩ => ?_
  refine q2 σ H1 P1 F1 ρ m1 _ Z _ S1 (E.te t1.toTr) z fun w H2 ⟨P2, F2, m2, d2, S2, t2, dv2, z2⟩ => ?_
  exact q σ H2 P2 F2 ρ m2 v w d d2 Q R S2 (dv.ted t2) dv2 z2 fun v H' z => k v H' ((z.te t2).te t1)
def gAdd : G2 := fun x y Q => match x, y with
  | .int i, .int j => Q (.int (i + j))
  | .lst xs, .lst ys => xs.length + ys.length ≤ sizeLine ∧ D.nls xs = true ∧ D.nls ys = true ∧ Q (.lst (xs ++ ys))
  | .tup xs, .tup ys => xs.length + ys.length ≤ sizeLine ∧ D.nls xs = true ∧ D.nls ys = true ∧ Q (.tup (xs ++ ys))
  | .str s, .str t => s.length + t.length ≤ sizeLine ∧ Q (.str (s ++ t))
  | _, _ => False
theorem nls_app {xs ys : List D} (h : D.nls xs = true) (h' : D.nls ys = true) : D.nls (xs ++ ys) = true := nls_all.mpr fun d hd => (List.mem_append.mp hd).elim (nls_all.mp h d) (nls_all.mp h' d)
theorem okd_add : OpD X C (binaryOp .Add) gAdd := by
  refine ⟨_, op_add.or (op_cat.or (op_catA.or op_add_str)), fun σ H Pr F ρ m x y dx dy Q R S hx hy q k => ?_⟩
  unfold gAdd at q
  split at q
  · rw [hx.toInt, hy.toInt]
    exact .inl ⟨_, _, rfl, rfl, k _ _ (post_here S (.int _) (fun _ h => nomatch h) q)⟩
  · obtain ⟨q1, q2, q3, q⟩ := q
    cases hx with
    | lst h r =>
      cases hy with
      | lst h' r' =>
        refine .inr (.inl ⟨_, _, _, _, rfl, rfl, wv_le h, wv_le h', by rw [r.length, r'.length]; exact q1, fun p hp => k _ _ (post_new S hp ?_ q)⟩)
        exact ((r.weak).app r'.weak).up (nls_app q2 q3)
  · obtain ⟨q1, q2, q3, q⟩ := q
    cases hx with
    | tup h r =>
      cases hy with
      | tup h' r' =>
        have s1 := (Dn.tup h r).weak.up (C := C) (Pr := Pr) (show D.nl (.tup _) = true from q2)
        have s2 := (Dn.tup h' r').weak.up (C := C) (Pr := Pr) (show D.nl (.tup _) = true from q3)
        refine .inr (.inr (.inl ⟨_, _, _, _, rfl, rfl, (h.mono fun a xs => wv_le).sq, (h'.mono fun a xs => wv_le).sq, by rw [r.length, r'.length]; exact q1, fun e => k _ _ ?_, fun _ e => k _ _ ?_, fun _ _ p hp => k _ _ (post_newT S hp ?_ q)⟩))
        · subst e
          cases r
          exact post_here S s2 (fun _ h => nomatch h) q
        · subst e
          cases r'
          rw [List.append_nil] at q
          exact post_here S s1 (fun _ h => nomatch h) q
        · exact ((r.weak).app r'.weak).up (nls_app q2 q3)
  · cases hx
    cases hy
    exact .inr (.inr (.inr ⟨_, _, rfl, rfl, q.1, k _ _ (post_here S (.str _) (fun _ h => nomatch h) q.2)⟩))
  · exact q.elim
def rep (k : Int) (xs : List D) : List D := (List.replicate k.toNat xs).flatten
def gMul : G2 := fun x y Q => match x, y with
  | .int i, .int j => IntMulOk i j ∧ Q (.int (i * j))
  | .lst xs, .int k => -(2 ^ 63) ≤ k ∧ k < 2 ^ 63 ∧ xs.length * k.toNat ≤ sizeLine ∧ D.nls xs = true ∧ Q (.lst (rep k xs))
  | .tup xs, .int k => xs ≠ [] ∧ -(2 ^ 63) ≤ k ∧ k ≤ 1000 ∧ xs.length ≤ 1000 ∧ D.nls xs = true ∧ Q (.tup (rep k xs))
  | _, _ => False
theorem nls_rep {xs : List D} {k : Int} (h : D.nls xs = true) : D.nls (rep k xs) = true := nls_sub h fun d hd => by
  obtain ⟨l, hl, hd⟩ := List.mem_flatten.mp hd
  rw [List.eq_of_mem_replicate hl] at hd
  exact hd
theorem okd_mul : OpD X C (binaryOp .Mult) gMul := by
  refine ⟨_, op_mulA.or (op_rep.or (op_repT.or op_repF)), fun σ H Pr F ρ m x y dx dy Q R S hx hy q k => ?_⟩
  unfold gMul at q
  split at q
  · rw [hx.toInt, hy.toInt]
    exact .inl ⟨_, _, rfl, rfl, q.1, k _ _ (post_here S (.int _) (fun _ h => nomatch h) q.2)⟩
  · obtain ⟨q1, q2, q3, q4, q⟩ := q
    cases hx with
    | lst h r =>
      refine .inr (.inl ⟨_, _, _, rfl, hy.toInt, wv_le h, q1, q2, by rw [r.length]; exact q3, fun p hp => k _ _ (post_new S hp ?_ q)⟩)
      exact ((r.weak).rep _).up (nls_rep q4)
  · rename_i xs' k'
    obtain ⟨q1, q2, q3, q4, q5, q⟩ := q
    cases hx with
    | tup h r =>
      have nn : ∀ {vs : List V}, DnA true X.K F (wv F H) vs xs' → vs ≠ [] := fun z e => q1 (by subst e; cases z; rfl)
      by_cases k1 : k' ≤ 1
      · refine .inr (.inr (.inr ⟨_, _, _, rfl, hy.toInt, (h.mono fun a xs => wv_le).sq, nn r, q2, ?_⟩))
        by_cases k0 : k' ≤ 0
        · refine .inl ⟨k0, fun p hp => k _ _ (post_newT S hp .nil ?_)⟩
          unfold rep at q
          rw [show k'.toNat = 0 by omega] at q
          exact q
        · obtain rfl : k' = 1 := by omega
          have s1 := (Dn.tup h r).weak.up (C := C) (Pr := Pr) (show D.nl (.tup _) = true from q5)
          refine .inr ⟨rfl, k _ _ (post_here S s1 (fun _ h => nomatch h) ?_)⟩
          unfold rep at q
          rw [show (1 : Int).toNat = 1 from rfl, List.replicate_one, List.flatten_cons, List.flatten_nil, List.append_nil] at q
          exact q
      · refine .inr (.inr (.inl ⟨_, _, _, rfl, hy.toInt, (h.mono fun a xs => wv_le).sq, nn r, by omega, q3, by rw [r.length]; exact q4, fun p hp => k _ _ (post_newT S hp ?_ q)⟩))
        exact ((r.weak).rep _).up (nls_rep q5)
  · exact q.elim

/-! ### what is walked -/
/-- J walks the items, as long as nothing but what Ts lets happen happens -/
def Wk (K : PySem.W.Frag) (C : Cn) (st : Bool) (Pr : Addr → Prop) (F : List Addr) (H : Hp) (items : List D) (J : It) : Prop := ∃ (G : Hp → Prop) (Y : Nat → Hp → V → Hp → Prop), Walk J items.length G Y ∧
  ∀ Pr' F' H', (if st = true then Tr Pr F H Pr' F' H' else Te Pr F H Pr' F' H') → G H' ∧ ∀ i v H2, Y i H' v H2 → (∀ a o, H' a = some o → H2 a = some o) ∧ ∃ d, items[i]? = some d ∧ Dn true K F' (sv C.H0 Pr' H2) v d
def JI (st : Bool) (X : Cx) (C : Cn) (tg iter : Expr) (t : DTA C.W.M) : Prop := ∃ wi, PI X tg iter wi ∧
  ∀ σ H Pr F ρ m Q Z (R : It → Hp → Prop), SR X.K C Pr F σ ρ m H → Ex X C Pr F H σ ρ Z → t ρ m Q Z →
    (∀ J H', (∃ Pr' F' m' items, SR X.K C Pr' F' σ ρ m' H' ∧ Te Pr F H Pr' F' H' ∧ Wk X.K C st Pr' F' H' items J ∧ Q items m') → R J H') → wi σ H R
def dSeq {M : Type} (n : Bool) (t : DT M) : DTA M := fun ρ m Q Z => t ρ m (fun d m1 => match d with | .lst ds | .tup ds => (n = true → D.nls ds = true) ∧ Q ds m1 | _ => False) Z
theorem tr_of {Pr Pr' : Addr → Prop} {F F' : List Addr} {H H' : Hp} {st : Bool} (t : if st = true then Tr Pr F H Pr' F' H' else Te Pr F H Pr' F' H') : Tr Pr F H Pr' F' H' := by
  cases st with
  | true => exact t
  | false => exact Te.toTr (show Te Pr F H Pr' F' H' from t)
theorem Tp.at {K : PySem.W.Frag} {H0 : Hp} {Pr : Addr → Prop} {H : Hp} {a : Addr} {xs : List V} (h : Tp K (sv H0 Pr H) a xs) : SqT K H a xs := (h.mono fun a xs => sv_le).sq
theorem dn_get {K : PySem.W.Frag} {F : List Addr} {G : Hp} {s : Bool} {vs : List V} {ds : List D} {i : Nat} {v : V} (h : DnA s K F G vs ds) (e : vs[i]? = some v) : ∃ d, ds[i]? = some d ∧ Dn s K F G v d := h.get e
/-- over a list or a tuple that may be kept -/
theorem ji_seq {tg : Expr} {t : DT C.W.M} (h : J .s X C e t) : JI true X C tg e (dSeq false t) := by
  obtain ⟨te, p, q⟩ := h
  refine ⟨_, pi_seq p, fun σ H Pr F ρ m Q Z R S E h k => ?_⟩
  refine q σ H Pr F ρ m _ Z _ S E h fun v H1 ⟨P1, F1, m1, d, S1, t1, dv, z⟩ => ?_
  have dv : Dn true X.K F1 (sv C.H0 P1 H1) v d := dv
  cases dv with
  | lst h r =>
    have h : sv C.H0 P1 H1 _ = some (.lst _) := h
    refine ⟨_, _, rfl, .inl ⟨.inl (.inl (sv_le h)), k _ _ ⟨P1, F1, m1, _, S1, t1, ⟨_, _, by rw [← r.length]; exact walk_list, fun P2 F2 H2 t2 => ⟨SqL.of (K := X.K) (sv_le (sv_tr (tr_of t2) S1.prs _ _ h)), fun i v H3 y => ?_⟩⟩, z.2⟩⟩⟩
    obtain ⟨rfl, e⟩ := y
    exact ⟨fun _ _ h => h, dn_get (DnA.mono (tr_of t2).pre (sv_tr (tr_of t2) S1.prs) r) e⟩
  | tup h r =>
    refine ⟨_, _, rfl, .inr ⟨h.at, k _ _ ⟨P1, F1, m1, _, S1, t1, ⟨_, _, by rw [← r.length]; exact walk_tup, fun P2 F2 H2 t2 => ⟨(h.mono fun a xs => sv_tr (tr_of t2) S1.prs a _).at, fun i v H3 y => ?_⟩⟩, z.2⟩⟩⟩
    obtain ⟨rfl, e⟩ := y
    exact ⟨fun _ _ h => h, dn_get (DnA.mono (tr_of t2).pre (sv_tr (tr_of t2) S1.prs) r) e⟩
  | _ => exact z.elim
theorem Ls.wv {K : PySem.W.Frag} {F : List Addr} {H : Hp} {s : Bool} {a : Addr} {xs : List V} (h : Ls s K (wv F H) a xs) : SqL K H a xs := (h.mono fun _ _ => wv_le).sq
theorem Tp.wv {K : PySem.W.Frag} {F : List Addr} {H : Hp} {a : Addr} {xs : List V} (h : Tp K (wv F H) a xs) : SqT K H a xs := (h.mono fun a xs => wv_le).sq
/-- .. that is looked at (in a comprehension) -/
theorem ji_seqw {tg : Expr} {t : DT C.W.M} (h : J .w X C e t) : JI false X C tg e (dSeq true t) := by
  obtain ⟨te, p, q⟩ := h
  refine ⟨_, pi_seq p, fun σ H Pr F ρ m Q Z R S E h k => ?_⟩
  refine q σ H Pr F ρ m _ Z _ S E h fun v H1 ⟨P1, F1, m1, d, S1, t1, dv, z⟩ => ?_
  have dv : Dn false X.K F1 (wv F1 H1) v d := dv
  cases dv with
  | lst h r =>
    refine ⟨_, _, rfl, .inl ⟨h.wv, k _ _ ⟨P1, F1, m1, _, S1, t1, ⟨_, _, by rw [← r.length]; exact walk_list, fun P2 F2 H2 t2 => ⟨(h.mono (wv_te t2)).wv, fun i v H3 y => ?_⟩⟩, z.2⟩⟩⟩
    obtain ⟨rfl, e⟩ := y
    exact ⟨fun _ _ h => h, dn_get ((DnA.mono (Te.toTr t2).pre (wv_te t2) r).up (z.1 rfl)) e⟩
  | tup h r =>
    refine ⟨_, _, rfl, .inr ⟨h.wv, k _ _ ⟨P1, F1, m1, _, S1, t1, ⟨_, _, by rw [← r.length]; exact walk_tup, fun P2 F2 H2 t2 => ⟨(h.mono fun a xs => wv_te t2 a _).wv, fun i v H3 y => ?_⟩⟩, z.2⟩⟩⟩
    obtain ⟨rfl, e⟩ := y
    exact ⟨fun _ _ h => h, dn_get ((DnA.mono (Te.toTr t2).pre (wv_te t2) r).up (z.1 rfl)) e⟩
  | _ => exact z.elim
/-- a borrowed value stays whatever the body does -/
theorem bor_tr {K : PySem.W.Frag} {Pr Pr' : Addr → Prop} {F F' : List Addr} {σ : L2.St} {ρ : En} {m : C.W.M} {H H' : Hp} (S : SR K C Pr F σ ρ m H) (t : Tr Pr F H Pr' F' H') : ∀ a o, wv C.F0 C.H0 a = some o → wv F' H' a = some o := fun a o h => by
  obtain ⟨e, n⟩ := vw_iff.mp h
  have nf : a ∉ F := fun z => by rw [S.new a z n] at e; cases e
  have np : ¬ Pr a := fun z => by rw [S.prn a z nf] at e; cases e
  have e1 := S.keep a o n e
  refine vw_iff.mpr ⟨t.keep a o np e1, fun z => ?_⟩
  have z := t.fn a z nf
  rw [e1] at z; cases z
/-- over a borrowed list or tuple, in a for -/
theorem ji_bor {tg : Expr} (i : Nat) {x : Str} (hN : X.N[i]? = some x := by rfl) (hv : Vis X.env.scope x := by first | exact Or.inl rfl | exact Or.inr (Or.inl rfl) | exact Or.inr (Or.inr rfl)) (hd : (x == ("__debug__" : Str)) = false := by decide)
    (hcd : (x == ("__classdict__" : Str)) = false := by decide) : JI true X C tg (.Name x pos) (dSeq true (dBor i)) := by
  refine ⟨_, pi_seq (pe_var hN hv hd hcd), fun σ H Pr F ρ m Q Z R S E h k => ?_⟩
  unfold dSeq dBor at h
  split at h
  · rename_i d e
    obtain ⟨v, e1, dv⟩ := S.slot i _ e
    refine ⟨v, e1, ?_⟩
    have b1 := bor_tr S (Tr.refl (Pr := Pr))
    cases dv with
    | lst hl r =>
      refine ⟨_, _, rfl, .inl ⟨(hl.mono b1).wv, k _ _ ⟨Pr, F, m, _, S, Te.refl, ⟨_, _, by rw [← r.length]; exact walk_list, fun P2 F2 H2 t2 => ⟨(hl.mono (bor_tr S t2)).wv, fun i v H3 y => ?_⟩⟩, h.2⟩⟩⟩
      obtain ⟨rfl, e⟩ := y
      exact ⟨fun _ _ h => h, dn_get ((DnA.mono (pre_trans S.pre (tr_of t2).pre) (bor_tr S t2) r).up (h.1 rfl)) e⟩
    | tup hl r =>
      refine ⟨_, _, rfl, .inr ⟨(hl.mono fun a xs => b1 a _).wv, k _ _ ⟨Pr, F, m, _, S, Te.refl, ⟨_, _, by rw [← r.length]; exact walk_tup, fun P2 F2 H2 t2 => ⟨(hl.mono fun a xs => bor_tr S t2 a _).wv, fun i v H3 y => ?_⟩⟩, h.2⟩⟩⟩
      obtain ⟨rfl, e⟩ := y
      exact ⟨fun _ _ h => h, dn_get ((DnA.mono (pre_trans S.pre (tr_of t2).pre) (bor_tr S t2) r).up (h.1 rfl)) e⟩
    | _ => exact h.elim
  · exact h.elim
/-- range(b), range(a, b) -/
def iota (lo : Int) (n : Nat) : List D := (List.range n).map fun k => D.int (lo + (k : Nat))
theorem iota_get {lo : Int} {n i : Nat} (h : i < n) : (iota lo n)[i]? = some (.int (lo + i)) := by
  unfold iota
  rw [List.getElem?_map, List.getElem?_range h]
  rfl
theorem iota_len {lo : Int} {n : Nat} : (iota lo n).length = n := by unfold iota; simp
theorem wk_range {K : PySem.W.Frag} {st : Bool} {Pr : Addr → Prop} {F : List Addr} {H : Hp} {lo : Int} {n : Nat} : Wk K C st Pr F H (iota lo n) (Itr lo n) := by
  refine ⟨_, fun i H x H' => i < n ∧ H' = H ∧ x = .int (lo + i), by rw [iota_len]; exact ⟨walk_range.goes, walk_range.stops, fun i H x H' hi g y => ⟨hi, walk_range.yields i H x H' hi g y⟩⟩, fun P2 F2 H2 t2 => ⟨trivial, fun i v H3 y => ?_⟩⟩
  obtain ⟨hi, rfl, rfl⟩ := y
  exact ⟨fun _ _ h => h, _, iota_get hi, .int _⟩
def dRng1 {M : Type} (t : DTA M) : DTA M := fun ρ m Q Z => t ρ m (fun ds m1 => match ds with | [.int j] => -(2 ^ 62) ≤ j ∧ j < 2 ^ 62 ∧ Q (iota 0 j.toNat) m1 | _ => False) Z
def dRng2 {M : Type} (t : DTA M) : DTA M := fun ρ m Q Z => t ρ m (fun ds m1 => match ds with | [.int i, .int j] => (-(2 ^ 62) ≤ i ∧ i < 2 ^ 62 ∧ -(2 ^ 62) ≤ j ∧ j < 2 ^ 62) ∧ Q (iota i (j - i).toNat) m1 | _ => False) Z
theorem dnA1 {s : Bool} {K : PySem.W.Frag} {F : List Addr} {G : Hp} {vs : List V} {j : Int} (h : DnA s K F G vs [.int j]) : vs = [.int j] := by
  cases h with
  | cons h r =>
    cases r
    cases h
    rfl
theorem dnA2 {s : Bool} {K : PySem.W.Frag} {F : List Addr} {G : Hp} {vs : List V} {i j : Int} (h : DnA s K F G vs [.int i, .int j]) : vs = [.int i, .int j] := by
  cases h with
  | cons h r =>
    cases h
    rw [dnA1 r]
theorem ji_range1 {st : Bool} {tg : Expr} {t : DTA C.W.M} {p : Pos} (hm : X.mg "range" = none) (ha : JA .w X C [a] t) (hg : Gl X "range" := by rfl) (hs : starEach [a] X.env = [(false, eval a X.env)] := by rfl) : JI st X C tg (.Call (.Name "range" p) [a] [] pos) (dRng1 t) := by
  obtain ⟨te, pa, q⟩ := ha
  refine ⟨_, pi_range1 hg hm pa hs, fun σ H Pr F ρ m Q Z R S E h k => ?_⟩
  refine q σ H Pr F ρ m _ Z _ S E h fun vs H1 ⟨P1, F1, m1, ds, S1, t1, dv, z⟩ => ?_
  have dv : DnA false X.K F1 (wv F1 H1) vs ds := dv
  dsimp only at z
  split at z
  · exact ⟨_, dnA1 dv, z.1, z.2.1, k _ _ ⟨P1, F1, m1, _, S1, t1, wk_range, z.2.2⟩⟩
  · exact z.elim
theorem ji_range2 {st : Bool} {tg : Expr} {t : DTA C.W.M} {p : Pos} (hm : X.mg "range" = none) (ha : JA .w X C [a, b] t) (hg : Gl X "range" := by rfl) (hs : starEach [a, b] X.env = [(false, eval a X.env), (false, eval b X.env)] := by rfl) (hs2 : starEach [b] X.env = [(false, eval b X.env)] := by rfl) :
    JI st X C tg (.Call (.Name "range" p) [a, b] [] pos) (dRng2 t) := by
  obtain ⟨te, pa, q⟩ := ha
  refine ⟨_, pi_range2 hg hm pa hs hs2, fun σ H Pr F ρ m Q Z R S E h k => ?_⟩
  refine q σ H Pr F ρ m _ Z _ S E h fun vs H1 ⟨P1, F1, m1, ds, S1, t1, dv, z⟩ => ?_
  have dv : DnA false X.K F1 (wv F1 H1) vs ds := dv
  dsimp only at z
  split at z
  · exact ⟨_, _, dnA2 dv, z.1, k _ _ ⟨P1, F1, m1, _, S1, t1, wk_range, z.2⟩⟩
  · exact z.elim
/-- enumerate(x) -/
def enumD (n : Nat) : List D → List D
  | [] => []
  | d :: r => .tup [.int (n : Nat), d] :: enumD (n + 1) r
theorem enum_len : ∀ {n : Nat} {ds : List D}, (enumD n ds).length = ds.length
  | _, [] => rfl
  | n, _ :: r => congrArg (· + 1) (enum_len (n := n + 1) (ds := r))
theorem enum_get : ∀ {n : Nat} {ds : List D} {i : Nat} {d : D}, ds[i]? = some d → (enumD n ds)[i]? = some (.tup [.int ((n + i : Nat) : Int), d])
  | _, [], _, _, h => by simp at h
  | n, x :: r, 0, d, h => by simp at h; subst h; rfl
  | n, x :: r, i + 1, d, h => by
    have := enum_get (n := n + 1) (ds := r) (i := i) (d := d) (by simpa using h)
    rw [show n + 1 + i = n + (i + 1) by omega] at this
    exact this
def dEnum {M : Type} (n : Bool) (t : DT M) : DTA M := fun ρ m Q Z => dSeq n t ρ m (fun ds m1 => Q (enumD 0 ds) m1) Z
/-- a pair just made -/
theorem pair_dn {K : PySem.W.Frag} {Pr : Addr → Prop} {F : List Addr} {H : Hp} {T : Addr} {x y : V} {dx dy : D} (nT : H T = none) (hx : Dn true K F (sv C.H0 Pr H) x dx) (hy : Dn true K F (sv C.H0 Pr H) y dy) : (∀ a o, H a = some o → upd H T (.tup [x, y]) a = some o) ∧ Dn true K F (sv C.H0 Pr (upd H T (.tup [x, y]))) (.ref T) (.tup [dx, dy]) := by
  have k : ∀ a o, H a = some o → upd H T (.tup [x, y]) a = some o := fun a o e => by rw [upd_ne (ne_of_none e nT)]; exact e
  have up : ∀ a o, sv C.H0 Pr H a = some o → sv C.H0 Pr (upd H T (.tup [x, y])) a = some o := fun a o e => by
    obtain ⟨e, q⟩ := vw_iff.mp e
    exact vw_iff.mpr ⟨k a o e, q⟩
  exact ⟨k, .tup (.inl (vw_iff.mpr ⟨upd_same, .inl trivial⟩)) (.cons (hx.mono ⟨[], by simp⟩ up) (.cons (hy.mono ⟨[], by simp⟩ up) .nil))⟩
theorem wk_enumL {K : PySem.W.Frag} {st : Bool} {Pr : Addr → Prop} {F : List Addr} {H : Hp} {a : Addr} {xs : List V} {ds : List D} (hl : xs.length = ds.length)
    (g : ∀ Pr' F' H', (if st = true then Tr Pr F H Pr' F' H' else Te Pr F H Pr' F' H') → SqL K H' a xs ∧ DnA true K F' (sv C.H0 Pr' H') xs ds) : Wk K C st Pr F H (enumD 0 ds) (Ite K a) := by
  refine ⟨_, _, by rw [enum_len, ← hl]; exact walk_enum (xs := xs), fun P2 F2 H2 t2 => ⟨(g P2 F2 H2 t2).1, fun i v H3 y => ?_⟩⟩
  obtain ⟨T, x, z, rfl, nT, rfl, e1, e2⟩ := y
  cases e1
  obtain ⟨d, e, h⟩ := dn_get (g P2 F2 H2 t2).2 e2
  obtain ⟨k, h2⟩ := pair_dn nT (.int ((i : Nat) : Int)) h
  exact ⟨k, _, by rw [enum_get e, Nat.zero_add], h2⟩
theorem wk_enumT {K : PySem.W.Frag} {st : Bool} {Pr : Addr → Prop} {F : List Addr} {H : Hp} {a : Addr} {xs : List V} {ds : List D} (hl : xs.length = ds.length)
    (g : ∀ Pr' F' H', (if st = true then Tr Pr F H Pr' F' H' else Te Pr F H Pr' F' H') → SqT K H' a xs ∧ DnA true K F' (sv C.H0 Pr' H') xs ds) : Wk K C st Pr F H (enumD 0 ds) (IteT K a) := by
  refine ⟨_, _, by rw [enum_len, ← hl]; exact walk_enumT (xs := xs), fun P2 F2 H2 t2 => ⟨(g P2 F2 H2 t2).1, fun i v H3 y => ?_⟩⟩
  obtain ⟨T, x, z, rfl, nT, rfl, e1, e2⟩ := y
  cases e1
  obtain ⟨d, e, h⟩ := dn_get (g P2 F2 H2 t2).2 e2
  obtain ⟨k, h2⟩ := pair_dn nT (.int ((i : Nat) : Int)) h
  exact ⟨k, _, by rw [enum_get e, Nat.zero_add], h2⟩
theorem ji_enum {t : DT C.W.M} {p tpos : Pos} {elts : List Expr} {kk : Nat} (h : J .s X C e t) (hm : X.mg "enumerate" = none) (hg : Gl X "enumerate" := by rfl) (hs : starEach [e] X.env = [(false, eval e X.env)] := by rfl) :
    JI true X C (.Tuple elts kk tpos) (.Call (.Name "enumerate" p) [e] [] pos) (dEnum false t) := by
  obtain ⟨te, pe, q⟩ := h
  refine ⟨_, pi_enumA hg hm (pa_cons pe pa_nil hs) hs, fun σ H Pr F ρ m Q Z R S E h k => ?_⟩
  refine q σ H Pr F ρ m _ Z _ S E h fun v H1 ⟨P1, F1, m1, d, S1, t1, dv, z⟩ => ?_
  have dv : Dn true X.K F1 (sv C.H0 P1 H1) v d := dv
  cases dv with
  | lst h r =>
    have h : sv C.H0 P1 H1 _ = some (.lst _) := h
    exact ⟨_, _, rfl, .inl ⟨.inl (.inl (sv_le h)), k _ _ ⟨P1, F1, m1, _, S1, t1, wk_enumL r.length fun P2 F2 H2 t2 => ⟨.inl (.inl (sv_le (sv_tr (tr_of t2) S1.prs _ _ h))), DnA.mono (tr_of t2).pre (sv_tr (tr_of t2) S1.prs) r⟩, z.2⟩⟩⟩
  | tup h r =>
    exact ⟨_, _, rfl, .inr ⟨h.at, k _ _ ⟨P1, F1, m1, _, S1, t1, wk_enumT r.length fun P2 F2 H2 t2 => ⟨(h.mono fun a xs => sv_tr (tr_of t2) S1.prs a _).at, DnA.mono (tr_of t2).pre (sv_tr (tr_of t2) S1.prs) r⟩, z.2⟩⟩⟩
  | _ => exact z.elim
/-- .. of a borrowed one, in a for -/
theorem ji_enumb {p tpos pos' : Pos} {elts : List Expr} {kk : Nat} (i : Nat) {x : Str} (hm : X.mg "enumerate" = none) (hN : X.N[i]? = some x := by rfl) (hv : Vis X.env.scope x := by first | exact Or.inl rfl | exact Or.inr (Or.inl rfl) | exact Or.inr (Or.inr rfl)) (hg : Gl X "enumerate" := by rfl) (hd : (x == ("__debug__" : Str)) = false := by decide)
    (hcd : (x == ("__classdict__" : Str)) = false := by decide) : JI true X C (.Tuple elts kk tpos) (.Call (.Name "enumerate" p) [.Name x pos'] [] pos) (dEnum true (dBor i)) := by
  refine ⟨_, pi_enumA hg hm (pa_cons (pe_var hN hv hd hcd) pa_nil rfl) rfl, fun σ H Pr F ρ m Q Z R S E h k => ?_⟩
  unfold dEnum dSeq dBor at h
  split at h
  · rename_i d e
    obtain ⟨v, e1, dv⟩ := S.slot i _ e
    refine ⟨v, e1, ?_⟩
    have b1 := bor_tr S (Tr.refl (Pr := Pr))
    cases dv with
    | lst hl r =>
      exact ⟨_, _, rfl, .inl ⟨(hl.mono b1).wv, k _ _ ⟨Pr, F, m, _, S, Te.refl, wk_enumL r.length fun P2 F2 H2 t2 => ⟨(hl.mono (bor_tr S t2)).wv, (DnA.mono (pre_trans S.pre (tr_of t2).pre) (bor_tr S t2) r).up (h.1 rfl)⟩, h.2⟩⟩⟩
    | tup hl r =>
      exact ⟨_, _, rfl, .inr ⟨(hl.mono fun a xs => b1 a _).wv, k _ _ ⟨Pr, F, m, _, S, Te.refl, wk_enumT r.length fun P2 F2 H2 t2 => ⟨(hl.mono fun a xs => bor_tr S t2 a _).wv, (DnA.mono (pre_trans S.pre (tr_of t2).pre) (bor_tr S t2) r).up (h.1 rfl)⟩, h.2⟩⟩⟩
    | _ => exact h.elim
  · exact h.elim
end
end RR

/-! RF: zip, reversed, targets, comprehensions -/
namespace RR
open PySem PySem.Spec PyProof.Rows L2 RZ RT
section
variable {X : Cx} {C : Cn} {e a b : Expr} {pos : Pos}
/-! ### zip -/
def zipD : List D → List D → List D
  | x :: xs, y :: ys => .tup [x, y] :: zipD xs ys
  | _, _ => []
theorem zip_len : ∀ {xs ys : List D}, (zipD xs ys).length = min xs.length ys.length
  | [], _ => by simp [zipD]
  | _ :: _, [] => by simp [zipD]
  | _ :: xs, _ :: ys => by rw [zipD, List.length_cons, zip_len]; simp <;> omega
theorem zip_get : ∀ {xs ys : List D} {i : Nat} {x y : D}, xs[i]? = some x → ys[i]? = some y → (zipD xs ys)[i]? = some (.tup [x, y])
  | [], _, _, _, _, h, _ => by simp at h
  | _ :: _, [], _, _, _, _, h => by simp at h
  | a :: xs, b :: ys, 0, x, y, h, h' => by simp at h h'; subst h h'; rfl
  | a :: xs, b :: ys, i + 1, x, y, h, h' => zip_get (xs := xs) (ys := ys) (i := i) (by simpa using h) (by simpa using h')
theorem walk_zipT {K : PySem.W.Frag} {a b : Addr} {xs ys : List V} {n : Nat} (hn : n = min xs.length ys.length) : Walk (ItzT K a b) n (fun H => SqT K H a xs ∧ SqT K H b ys) (YPair (fun i => xs[i]?) (fun i => ys[i]?)) := by
  subst hn
  refine ⟨fun i _ hi q => ?_, fun _ q => ⟨xs, ys, q.1, q.2, by omega⟩, fun i H v H' _ q y => ?_⟩
  · have h1 : i < xs.length := by omega
    have h2 : i < ys.length := by omega
    exact ⟨xs, ys, xs[i], ys[i], q.1, q.2, by simp [h1], by simp [h2]⟩
  · obtain ⟨T, x, z, h1, h2, h3, h4, h5⟩ := y
    exact ⟨T, x, z, h1, h2, h3, h4 xs q.1, h5 ys q.2⟩
def dZip {M : Type} (n : Bool) (t u : DT M) : DTA M := fun ρ m Q Z => t ρ m (fun x m1 => u ρ m1 (fun y m2 => match x, y with
  | .lst xs, .lst ys | .tup xs, .tup ys => (n = true → D.nls xs = true ∧ D.nls ys = true) ∧ Q (zipD xs ys) m2
  | _, _ => False) Z) Z
theorem wk_zip {K : PySem.W.Frag} {st : Bool} {Pr : Addr → Prop} {F : List Addr} {H : Hp} {J : It} {xs ys : List V} {ds es : List D} {G : Hp → Prop} (hl : xs.length = ds.length) (hl' : ys.length = es.length)
    (w : ∀ n, n = min xs.length ys.length → Walk J n G (YPair (fun i => xs[i]?) (fun i => ys[i]?)))
    (g : ∀ Pr' F' H', (if st = true then Tr Pr F H Pr' F' H' else Te Pr F H Pr' F' H') → G H' ∧ DnA true K F' (sv C.H0 Pr' H') xs ds ∧ DnA true K F' (sv C.H0 Pr' H') ys es) : Wk K C st Pr F H (zipD ds es) J := by
  refine ⟨G, _, w _ (by rw [zip_len, hl, hl']), fun P2 F2 H2 t2 => ⟨(g P2 F2 H2 t2).1, fun i v H3 y => ?_⟩⟩
  obtain ⟨T, x, z, rfl, nT, rfl, e1, e2⟩ := y
  obtain ⟨d, ed, hd⟩ := dn_get (g P2 F2 H2 t2).2.1 e1
  obtain ⟨d', ed', hd'⟩ := dn_get (g P2 F2 H2 t2).2.2 e2
  obtain ⟨k, h2⟩ := pair_dn nT hd hd'
  exact ⟨k, _, zip_get ed ed', h2⟩
theorem ji_zip {t u : DT C.W.M} {p tpos : Pos} {elts : List Expr} {kk : Nat} (ha : J .s X C a t) (hb : J .s X C b u) (hm : X.mg "zip" = none) (hg : Gl X "zip" := by rfl)
    (hs : starEach [a, b] X.env = (false, eval a X.env) :: starEach [b] X.env := by rfl) (hs2 : starEach [b] X.env = (false, eval b X.env) :: starEach [] X.env := by rfl) (hpl : (backTo pos (starEach [b] X.env)).any (·.1) = false := by rfl) :
    JI true X C (.Tuple elts kk tpos) (.Call (.Name "zip" p) [a, b] [] pos) (dZip false t u) := by
  obtain ⟨te, pe, q⟩ := ha
  obtain ⟨te', pe', q'⟩ := hb
  refine ⟨_, pi_zipA hg hm (pa_cons pe (pa_cons pe' pa_nil hs2) hs) hs hpl, fun σ H Pr F ρ m Q Z R S E h k => ?_⟩
  refine q σ H Pr F ρ m _ Z _ S E h fun v H1 ⟨P1, F1, m1, d, S1, t1, dv, z⟩ => ?_
  refine q' σ H1 P1 F1 ρ m1 _ Z _ S1 (E.te t1.toTr) z fun w H2 ⟨P2, F2, m2, d2, S2, t2, dv2, z2⟩ => ?_
  have dv : Dn true X.K F2 (sv C.H0 P2 H2) v d := Dn.tr (H0 := C.H0) t2.toTr S1.prs dv
  have dv2 : Dn true X.K F2 (sv C.H0 P2 H2) w d2 := dv2
  dsimp only at z2
  split at z2
  · cases dv with
    | lst h r =>
      cases dv2 with
      | lst h' r' =>
        have h : sv C.H0 P2 H2 _ = some (.lst _) := h
        have h' : sv C.H0 P2 H2 _ = some (.lst _) := h'
        exact ⟨_, _, _, _, rfl, .inl ⟨SqL.of (sv_le h), SqL.of (sv_le h'), k _ _ ⟨P2, F2, m2, _, S2, t1.trans t2, wk_zip r.length r'.length (fun n hn => walk_zip hn) fun P3 F3 H3 t3 =>
          ⟨⟨SqL.of (sv_le (sv_tr (tr_of t3) S2.prs _ _ h)), SqL.of (sv_le (sv_tr (tr_of t3) S2.prs _ _ h'))⟩, DnA.mono (tr_of t3).pre (sv_tr (tr_of t3) S2.prs) r, DnA.mono (tr_of t3).pre (sv_tr (tr_of t3) S2.prs) r'⟩, z2.2⟩⟩⟩
  · cases dv with
    | tup h r =>
      cases dv2 with
      | tup h' r' =>
        exact ⟨_, _, _, _, rfl, .inr ⟨h.at, h'.at, k _ _ ⟨P2, F2, m2, _, S2, t1.trans t2, wk_zip r.length r'.length (fun n hn => walk_zipT hn) fun P3 F3 H3 t3 =>
          ⟨⟨(h.mono fun a xs => sv_tr (tr_of t3) S2.prs a _).at, (h'.mono fun a xs => sv_tr (tr_of t3) S2.prs a _).at⟩, DnA.mono (tr_of t3).pre (sv_tr (tr_of t3) S2.prs) r, DnA.mono (tr_of t3).pre (sv_tr (tr_of t3) S2.prs) r'⟩, z2.2⟩⟩⟩
  · exact z2.elim
/-! ### reversed -/
theorem walk_revT {K : PySem.W.Frag} {a : Addr} {xs : List V} : Walk (ItvT K a xs.length) xs.length (fun H => SqT K H a xs) (fun i H x H' => H' = H ∧ xs[xs.length - 1 - i]? = some x) :=
  ⟨fun i _ hi q => ⟨hi, xs, xs[xs.length - 1 - i]'(by omega), q, by simp [show xs.length - 1 - i < xs.length by omega]⟩, fun _ _ => Nat.le_refl _, fun _ _ _ _ _ q y => ⟨y.1, y.2 xs q⟩⟩
theorem rev_get {ds : List D} {i : Nat} (hi : i < ds.length) : ds.reverse[i]? = ds[ds.length - 1 - i]? := by
  rw [List.getElem?_reverse hi]
theorem wk_rev {K : PySem.W.Frag} {st : Bool} {Pr : Addr → Prop} {F : List Addr} {H : Hp} {J : It} {xs : List V} {ds : List D} {G : Hp → Prop} (hl : xs.length = ds.length) (w : Walk J xs.length G (fun i H x H' => H' = H ∧ xs[xs.length - 1 - i]? = some x))
    (g : ∀ Pr' F' H', (if st = true then Tr Pr F H Pr' F' H' else Te Pr F H Pr' F' H') → G H' ∧ DnA true K F' (sv C.H0 Pr' H') xs ds) : Wk K C st Pr F H ds.reverse J := by
  refine ⟨G, fun i H x H' => i < xs.length ∧ H' = H ∧ xs[xs.length - 1 - i]? = some x, by rw [List.length_reverse, ← hl]; exact ⟨w.goes, w.stops, fun i H x H' hi q y => ⟨hi, w.yields i H x H' hi q y⟩⟩, fun P2 F2 H2 t2 => ⟨(g P2 F2 H2 t2).1, fun i v H3 y => ?_⟩⟩
  obtain ⟨hi, rfl, e⟩ := y
  obtain ⟨d, ed, hd⟩ := dn_get (g P2 F2 H3 t2).2 e
  refine ⟨fun _ _ h => h, d, ?_, hd⟩
  rw [rev_get (by omega), ← hl]
  exact ed
def dRev {M : Type} (n : Bool) (t : DT M) : DTA M := fun ρ m Q Z => dSeq n t ρ m (fun ds m1 => Q ds.reverse m1) Z
theorem ji_rev {tg : Expr} {t : DT C.W.M} {p : Pos} (h : J .s X C e t) (hm : X.mg "reversed" = none) (hg : Gl X "reversed" := by rfl) (hs : starEach [e] X.env = (false, eval e X.env) :: starEach [] X.env := by rfl) :
    JI true X C tg (.Call (.Name "reversed" p) [e] [] pos) (dRev false t) := by
  obtain ⟨te, pe, q⟩ := h
  refine ⟨_, pi_revA hg hm pe hs, fun σ H Pr F ρ m Q Z R S E h k => ?_⟩
  refine q σ H Pr F ρ m _ Z _ S E h fun v H1 ⟨P1, F1, m1, d, S1, t1, dv, z⟩ => ?_
  have dv : Dn true X.K F1 (sv C.H0 P1 H1) v d := dv
  cases dv with
  | lst h r =>
    have h : sv C.H0 P1 H1 _ = some (.lst _) := h
    exact ⟨_, _, rfl, .inl ⟨SqL.of (sv_le h), k _ _ ⟨P1, F1, m1, _, S1, t1, wk_rev r.length walk_rev fun P2 F2 H2 t2 => ⟨SqL.of (sv_le (sv_tr (tr_of t2) S1.prs _ _ h)), DnA.mono (tr_of t2).pre (sv_tr (tr_of t2) S1.prs) r⟩, z.2⟩⟩⟩
  | tup h r =>
    exact ⟨_, _, rfl, .inr ⟨h.at, k _ _ ⟨P1, F1, m1, _, S1, t1, wk_rev r.length walk_revT fun P2 F2 H2 t2 => ⟨(h.mono fun a xs => sv_tr (tr_of t2) S1.prs a _).at, DnA.mono (tr_of t2).pre (sv_tr (tr_of t2) S1.prs) r⟩, z.2⟩⟩⟩
  | _ => exact z.elim
def dRevR {M : Type} (t : DT M) : DTA M := fun ρ m Q Z => t ρ m (fun d m1 => match d with | .int j => -(2 ^ 62) ≤ j ∧ j < 2 ^ 62 ∧ Q (iota 0 j.toNat).reverse m1 | _ => False) Z
/-- a text, sign by sign -/
def signs (z : Str) : List D := z.cps.toList.map fun c => D.str ⟨#[c]⟩
/-! ### targets -/
abbrev DG := D → En → (En → Prop) → Prop
abbrev DGs := List D → En → (En → Prop) → Prop
def JG (X : Cx) (C : Cn) (tg : Expr) (ws : List Nat) (g : DG) : Prop := ∃ tgt, PG X tg tgt ∧
  ∀ σ H Pr F ρ (m : C.W.M) v d Q (R : L2.St → Hp → Prop), SR X.K C Pr F σ ρ m H → Dn true X.K F (sv C.H0 Pr H) v d → g d ρ Q →
    (∀ σ' ρ', SR X.K C Pr F σ' ρ' m H → (∀ vs, (∀ i ∈ ws, i ∈ vs) → L2.wipe σ' vs = L2.wipe σ vs) → Q ρ' → R σ' H) → tgt v σ H R
def JGs (X : Cx) (C : Cn) (tgs : List Expr) (ws : List Nat) (g : DGs) : Prop := ∃ tgt, PGs X tgs tgt ∧
  ∀ σ H Pr F ρ (m : C.W.M) vs ds Q (R : L2.St → Hp → Prop), SR X.K C Pr F σ ρ m H → DnA true X.K F (sv C.H0 Pr H) vs ds → g ds ρ Q →
    (∀ σ' ρ', SR X.K C Pr F σ' ρ' m H → (∀ vs, (∀ i ∈ ws, i ∈ vs) → L2.wipe σ' vs = L2.wipe σ vs) → Q ρ' → R σ' H) → tgt vs σ H R
def dgN (i : Nat) : DG := fun d ρ Q => Q (ρ.set i (.val d))
def dgT (n : Nat) (g : DGs) : DG := fun d ρ Q => match d with | .tup ds => ds.length = n ∧ g ds ρ Q | _ => False
def dgNil : DGs := fun ds ρ Q => match ds with | [] => Q ρ | _ => False
def dgCons (g : DG) (r : DGs) : DGs := fun ds ρ Q => match ds with | d :: ds => g d ρ fun ρ' => r ds ρ' Q | _ => False
theorem wipe_set {σ : L2.St} {i : Nat} {x : Option V} : ∀ {vs : List Nat}, i ∈ vs → L2.wipe (σ.set i x) vs = L2.wipe σ vs
  | v :: vs, h => by
    unfold L2.wipe
    by_cases e : i ∈ vs
    · rw [wipe_set e]
    · have ev : i = v := (List.mem_cons.mp h).resolve_right e
      subst ev
      have out : ∀ {vs : List Nat}, i ∉ vs → L2.wipe (σ.set i x) vs = (L2.wipe σ vs).set i x := fun {vs} => by
        induction vs with
        | nil => intro _; rfl
        | cons w r ih =>
          intro h
          unfold L2.wipe
          rw [ih fun z => h (List.mem_cons_of_mem _ z), List.set_comm _ _ (fun z => h (by rw [z]; exact List.mem_cons_self))]
      rw [out e, List.set_set]
theorem jg_name (i : Nat) {x : Str} (hN : X.N.Nodup) (hi : X.N[i]? = some x := by rfl) (hx : Loc X.env.scope x := by first | exact .inl rfl | exact .inr rfl) (hf : X.fn x = true ∨ X.env.scope.names.lookup x = some .local := by first | exact .inl rfl | exact .inr rfl) : JG X C (.Name x pos) [i] (dgN i) := by
  refine ⟨_, pg_name hN hi hx hf, fun σ H Pr F ρ m v d Q R S dv q k => ?_⟩
  exact k _ _ (S.set i dv) (fun vs h => wipe_set (h i (by simp))) q
theorem jgs_nil : JGs X C [] [] dgNil := by
  refine ⟨_, pgs_nil, fun σ H Pr F ρ m vs ds Q R S dv q k => ?_⟩
  unfold dgNil at q
  split at q
  · cases dv
    exact ⟨rfl, k σ ρ S (fun _ _ => rfl) q⟩
  · exact q.elim
theorem jgs_cons {es : List Expr} {w1 w2 : List Nat} {g : DG} {r : DGs} (h : JG X C e w1 g) (h' : JGs X C es w2 r) (hs : (assignEach (e :: es) X.env).map (·.2) = assign e X.env :: (assignEach es X.env).map (·.2) := by rfl) : JGs X C (e :: es) (w1 ++ w2) (dgCons g r) := by
  obtain ⟨t1, p1, q1⟩ := h
  obtain ⟨t2, p2, q2⟩ := h'
  refine ⟨_, pgs_cons p1 p2 hs, fun σ H Pr F ρ m vs ds Q R S dv q k => ?_⟩
  unfold dgCons at q
  split at q
  · cases dv with
    | cons dh dt =>
      refine ⟨_, _, rfl, q1 σ H Pr F ρ m _ _ _ _ S dh q fun σ1 ρ1 S1 w1' z => ?_⟩
      refine q2 σ1 H Pr F ρ1 m _ _ Q R S1 dt z fun σ2 ρ2 S2 w2' z => k σ2 ρ2 S2 (fun vs h => ?_) z
      rw [w2' vs fun i hi => h i (List.mem_append_right _ hi), w1' vs fun i hi => h i (List.mem_append_left _ hi)]
  · exact q.elim
theorem jg_tup {es : List Expr} {ws : List Nat} {g : DGs} {k n : Nat} (hc : X.calm = true) (h : JGs X C es ws g) (hn : (assignEach es X.env).length = n := by rfl) (hst : (assignEach es X.env).findIdx? (·.1) = none := by rfl) : JG X C (.Tuple es k pos) ws (dgT n g) := by
  obtain ⟨t1, p1, q1⟩ := h
  refine ⟨_, pg_tup hc p1 hn hst, fun σ H Pr F ρ m v d Q R S dv q kk => ?_⟩
  unfold dgT at q
  split at q
  · cases dv with
    | tup h r =>
      exact ⟨_, _, rfl, h.at, by rw [r.length]; exact q.1, q1 σ H Pr F ρ m _ _ Q R S r q.2 kk⟩
  · exact q.elim

/-! ### comprehensions -/
def lcGo {M : Type} (g : DG) (tt : DTT M) (te : DT M) (ρ : En) : List D → List D → M → (List D → M → Prop) → Prop
  | [], acc, m, Q => Q acc m
  | x :: r, acc, m, Q => g x ρ fun ρ2 => tt ρ2 m (fun b m1 => if b = true then te ρ2 m1 (fun y m2 => acc.length < sizeLine ∧ lcGo g tt te ρ r (acc ++ [y]) m2 Q) (fun _ _ => False) else lcGo g tt te ρ r acc m1 Q) (fun _ _ => False)
def dLc {M : Type} (ti : DTA M) (g : DG) (tt : DTT M) (te : DT M) (vs : List Nat) : DT M := fun ρ m Q Z => ti ρ m (fun items m1 => lcGo g tt te (wipeD ρ vs) items [] m1 (fun ds m2 => Q (.lst ds) m2)) Z
/-- a clause's tests -/
def JTs (X : Cx) (C : Cn) (ifs : List Expr) (t : DTT C.W.M) : Prop := ∃ te, PTs X ifs te ∧
  ∀ σ H Pr F ρ m Q Z (R : Bool → Hp → Prop), SR X.K C Pr F σ ρ m H → Ex X C Pr F H σ ρ Z → t ρ m Q Z → (∀ v H', PostT X.K C Pr F H σ ρ Q v H' → R v H') → te σ H R
def dYes {M : Type} : DTT M := fun _ m Q _ => Q true m
theorem jts_nil : JTs X C [] dYes := ⟨_, pts_nil, fun σ H Pr F ρ m Q Z R S E h k => k _ _ ⟨Pr, F, m, S, Te.refl, h⟩⟩
/-- within a block nothing is raised -/
abbrev Cn.nox (C : Cn) : Cn := { C with wx := fun _ _ _ _ => False }
theorem SR.nox {K : PySem.W.Frag} {Pr : Addr → Prop} {F : List Addr} {σ : L2.St} {ρ : En} {m : C.W.M} {H : Hp} (S : SR K C Pr F σ ρ m H) : SR K C.nox Pr F σ ρ m H := ⟨S.keep, S.pre, S.new, S.prs, S.prn, S.prf, S.rz, S.len, S.slot, S.dist⟩
theorem SR.unnox {K : PySem.W.Frag} {Pr : Addr → Prop} {F : List Addr} {σ : L2.St} {ρ : En} {m : C.W.M} {H : Hp} (S : SR K C.nox Pr F σ ρ m H) : SR K C Pr F σ ρ m H := ⟨S.keep, S.pre, S.new, S.prs, S.prn, S.prf, S.rz, S.len, S.slot, S.dist⟩
abbrev Blk (X : Cx) (scope : Scope) (s : Shared) (H : Hp) (c : Addr) (cl : List (Str × Addr)) (fp : List Addr) : Cx := X.blk s H scope (compEnvC scope cl c X.env) fp
theorem wipe_comm {σ : L2.St} {i : Nat} : ∀ {vs : List Nat}, (L2.wipe σ vs).set i none = L2.wipe (σ.set i none) vs
  | [] => rfl
  | v :: vs => by
    unfold L2.wipe
    by_cases e : v = i
    · subst e
      rw [List.set_set, ← wipe_comm (vs := vs), List.set_set]
    · rw [List.set_comm _ _ e, wipe_comm (vs := vs)]
theorem wipe_wipe {σ : L2.St} {us : List Nat} : ∀ {vs : List Nat}, (∀ i ∈ vs, i ∈ us) → L2.wipe (L2.wipe σ us) vs = L2.wipe σ us
  | [], _ => rfl
  | v :: vs, h => by
    show (L2.wipe (L2.wipe σ us) vs).set v none = L2.wipe σ us
    rw [wipe_wipe fun i hi => h i (List.mem_cons_of_mem _ hi), wipe_comm, wipe_set (h v List.mem_cons_self)]
/-- a new list, guarded -/
theorem SR.guard {K : PySem.W.Frag} {Pr : Addr → Prop} {F : List Addr} {σ : L2.St} {ρ : En} {m : C.W.M} {H : Hp} (S : SR K C Pr F σ ρ m H) {p : Addr} {vs : List V} (hp : H p = none) :
    SR K C (fun a => Pr a ∨ a = p) F σ ρ m (upd H p (.lst vs)) ∧ Te Pr F H (fun a => Pr a ∨ a = p) F (upd H p (.lst vs)) := by
  have k : ∀ a u, H a = some u → upd H p (.lst vs) a = some u := fun a u e => by rw [upd_ne (ne_of_none e hp)]; exact e
  have t : Te Pr F H (fun a => Pr a ∨ a = p) F (upd H p (.lst vs)) := ⟨⟨⟨[], by simp⟩, fun a h n => by
    rcases h with h | h
    · exact absurd h n
    · rw [h]; exact hp, fun _ h n => absurd h n, fun a o h => ⟨o, k a o h⟩, fun a o _ h => k a o h⟩, fun _ h => .inl h, fun a o _ h => k a o h⟩
  refine ⟨⟨fun a o n e => k a o (S.keep a o n e), S.pre, S.new, fun a h => ?_, fun a h n => ?_, fun a h => .inl (S.prf a h), C.W.keep S.rz (fun a h => upd_ne fun z => S.nf hp (z ▸ h)) (fun a o _ e => k a o e), S.len, fun i s e => Sk.tr S.prs t.toTr (fun p _ _ o h => k p o h) (fun p h _ => .inl h) (S.slot i s e), S.dist⟩, t⟩
  · rcases h with h | h
    · obtain ⟨o, e, n⟩ := S.prs a h
      exact ⟨o, k a o e, n⟩
    · exact ⟨.lst vs, by rw [h]; exact upd_same, fun z => z⟩
  · rcases h with h | h
    · exact S.prn a h n
    · rw [h]; exact S.h0n hp
/-- a guarded list is changed -/
theorem SR.poke {K : PySem.W.Frag} {Pr : Addr → Prop} {F : List Addr} {σ : L2.St} {ρ : En} {m : C.W.M} {H : Hp} (S : SR K C Pr F σ ρ m H) {p : Addr} {vs ws : List V} (pp : Pr p) (nF : p ∉ F) (hp : H p = some (.lst vs)) (h0 : C.H0 p = none)
    (nown : ∀ (i : Nat) (ds : List D) (q : Addr), ρ[i]? = some (.own ds) → σ[i]? = some (some (.ref q)) → q ≠ p) :
    SR K C Pr F σ ρ m (upd H p (.lst ws)) ∧ ∀ a o, sv C.H0 Pr H a = some o → sv C.H0 Pr (upd H p (.lst ws)) a = some o := by
  have up : ∀ a o, sv C.H0 Pr H a = some o → sv C.H0 Pr (upd H p (.lst ws)) a = some o := fun a o e => by
    obtain ⟨e, q⟩ := vw_iff.mp e
    refine vw_iff.mpr ⟨?_, q⟩
    rw [upd_ne fun z => ?_]
    · exact e
    · rcases q with q | q
      · rw [z, hp] at e; cases e; exact q
      · exact q.2.1 (z ▸ pp)
  refine ⟨⟨fun a o n e => ?_, S.pre, S.new, fun a h => ?_, S.prn, S.prf, C.W.keep S.rz (fun a h => upd_ne fun z => nF (z ▸ h)) (fun a o it e => by rw [upd_ne (fun q => by rw [q, hp] at e; cases e; exact it)]; exact e), S.len, fun i s e => ?_, S.dist⟩, up⟩
  · rw [upd_ne fun z => by rw [z, h0] at e; cases e]
    exact S.keep a o n e
  · by_cases z : a = p
    · exact ⟨.lst ws, by rw [z]; exact upd_same, fun z => z⟩
    · obtain ⟨o, e, n⟩ := S.prs a h
      exact ⟨o, by rw [upd_ne z]; exact e, n⟩
  · cases s with
    | un => trivial
    | bor d => exact S.slot i _ e
    | val d =>
      obtain ⟨v, e1, q⟩ := S.slot i _ e
      exact ⟨v, e1, q.mono ⟨[], by simp⟩ up⟩
    | own ds =>
      obtain ⟨q, us, e1, h1, h2, h3, h4⟩ := S.slot i _ e
      exact ⟨q, us, e1, by rw [upd_ne (nown i ds q e e1)]; exact h1, h2, h3, h4.mono ⟨[], by simp⟩ up⟩
theorem SR.unguard {K : PySem.W.Frag} {Pr : Addr → Prop} {F : List Addr} {σ : L2.St} {ρ : En} {m : C.W.M} {H : Hp} (S : SR K C Pr F σ ρ m H) {p : Addr} (nF : p ∉ F) (h0 : C.H0 p = none)
    (nown : ∀ (i : Nat) (ds : List D) (q : Addr), ρ[i]? = some (.own ds) → σ[i]? = some (some (.ref q)) → q ≠ p) :
    SR K C (fun a => Pr a ∧ a ≠ p) F σ ρ m H ∧ ∀ a o, sv C.H0 Pr H a = some o → sv C.H0 (fun a => Pr a ∧ a ≠ p) H a = some o := by
  have up : ∀ a o, sv C.H0 Pr H a = some o → sv C.H0 (fun a => Pr a ∧ a ≠ p) H a = some o := fun a o e => by
    obtain ⟨e, q⟩ := vw_iff.mp e
    exact vw_iff.mpr ⟨e, q.imp id fun q => ⟨q.1, fun z => q.2.1 z.1, q.2.2⟩⟩
  refine ⟨⟨S.keep, S.pre, S.new, fun a h => S.prs a h.1, fun a h n => S.prn a h.1 n, fun a h => ⟨S.prf a h, fun z => nF (z ▸ h)⟩, S.rz, S.len, fun i s e => ?_, S.dist⟩, up⟩
  cases s with
  | un => trivial
  | bor d => exact S.slot i _ e
  | val d =>
    obtain ⟨v, e1, q⟩ := S.slot i _ e
    exact ⟨v, e1, q.mono ⟨[], by simp⟩ up⟩
  | own ds =>
    obtain ⟨q, us, e1, h1, h2, h3, h4⟩ := S.slot i _ e
    exact ⟨q, us, e1, h1, ⟨h2, nown i ds q e e1⟩, h3, h4.mono ⟨[], by simp⟩ up⟩
theorem lc_read {wi : TI} {tg : TG} {tt : TT} {te : TE} {ti : DTA C.W.M} {g : DG} {dt : DTT C.W.M} {de : DT C.W.M} {vs ws : List Nat} {σ : L2.St} {H : Hp} {Pr : Addr → Prop} {F : List Addr} {ρ : En} {m : C.W.M} {Q : D → C.W.M → Prop} {Z : Str → C.W.M → Prop} {R : VK}
    (hw : ∀ i ∈ ws, i ∈ vs)
    (qi : ∀ (R : It → Hp → Prop), (∀ J H', (∃ Pr' F' m' items, SR X.K C Pr' F' σ ρ m' H' ∧ Te Pr F H Pr' F' H' ∧ Wk X.K C false Pr' F' H' items J ∧ lcGo g dt de (wipeD ρ vs) items [] m' (fun ds m2 => Q (.lst ds) m2)) → R J H') → wi σ H R)
    (qg : ∀ σ H Pr F ρ (m : C.W.M) v d Q (R : L2.St → Hp → Prop), SR X.K C.nox Pr F σ ρ m H → Dn true X.K F (sv C.H0 Pr H) v d → g d ρ Q → (∀ σ' ρ', SR X.K C.nox Pr F σ' ρ' m H → (∀ vs, (∀ i ∈ ws, i ∈ vs) → L2.wipe σ' vs = L2.wipe σ vs) → Q ρ' → R σ' H) → tg v σ H R)
    (qt : ∀ σ H Pr F ρ m Q (R : Bool → Hp → Prop), SR X.K C.nox Pr F σ ρ m H → dt ρ m Q (fun _ _ => False) → (∀ v H', PostT X.K C.nox Pr F H σ ρ Q v H' → R v H') → tt σ H R)
    (qe : ∀ σ H Pr F ρ m Q (R : VK), SR X.K C.nox Pr F σ ρ m H → de ρ m Q (fun _ _ => False) → (∀ v H', Post X.K C.nox .s Pr F H σ ρ Q v H' → R v H') → te σ H R)
    (S : SR X.K C Pr F σ ρ m H) (k : ∀ v H', Post X.K C .f Pr F H σ ρ Q v H' → R v H') : tLc wi tg tt te vs σ H R := by
  refine qi _ fun J H1 ⟨P1, F1, m1, items, S1, t1, wk, z⟩ L0 hD => ?_
  obtain ⟨G, Y, w, hG⟩ := wk
  obtain ⟨SD, tD⟩ := S1.new1 (o := .lst []) hD
  obtain ⟨SD, tD⟩ := S1.guard (vs := []) hD
  generalize hP1 : (fun a => P1 a ∨ a = L0) = P1' at SD tD
  let Pv : Nat → Hp → Prop := fun i H' => ∃ P' F' m' acc ds, SR X.K C P' F' σ ρ m' H' ∧ Te P1 F1 H1 P' F' H' ∧ P' L0 ∧ L0 ∉ F' ∧ H' L0 = some (.lst acc) ∧ DnA true X.K F' (sv C.H0 P' H') acc ds ∧ lcGo g dt de (wipeD ρ vs) (items.drop i) ds m' (fun ds m2 => Q (.lst ds) m2)
  have hn0 : C.H0 L0 = none := S1.h0n hD
  have nown : ∀ (i : Nat) (ds : List D) (p : Addr), ρ[i]? = some (.own ds) → σ[i]? = some (some (.ref p)) → p ≠ L0 := fun i ds p e e1 z => by
    obtain ⟨p', us, e2, hp, _⟩ := S1.slot i _ e
    rw [e1] at e2; cases e2
    rw [z, hD] at hp; cases hp
  refine lc_it w Pv ⟨P1', F1, m1, [], [], SD, tD, (by rw [← hP1]; exact .inr rfl), S1.nf hD, upd_same, .nil, z⟩ (fun i H' _ p => ?_) (fun i x H' H2 hi p y => ?_) (fun H' p => ?_)
  · obtain ⟨P', F', m', acc, ds, S', t', _⟩ := p
    exact (hG P' F' H' t').1
  · obtain ⟨P', F', m', acc, ds, S', t', pD, nF, eD, da, z⟩ := p
    obtain ⟨k2, d, ed, hd⟩ := (hG P' F' H' t').2 i x H2 y
    have S2 := S'.grow k2
    have t2 := S'.te k2
    have ei : items.drop i = d :: items.drop (i + 1) := by
      obtain ⟨hlt, e⟩ := List.getElem?_eq_some_iff.mp ed
      rw [List.drop_eq_getElem_cons hlt, e]
    rw [ei] at z
    unfold lcGo at z
    refine qg (L2.wipe σ vs) H2 P' F' (wipeD ρ vs) m' x d _ _ (S2.wipe vs).nox hd z fun σ2 ρ2 S3 hw2 z => ?_
    refine ⟨by rw [hw2 vs hw, wipe_wipe fun _ h => h], ?_⟩
    refine qt σ2 H2 P' F' ρ2 m' _ _ S3 z fun b H3 ⟨P3, F3, m3, S4, t3, z⟩ => ?_
    have t3 := t2.trans t3
    have stepD : ∀ {P4 F4 H4}, Te P' F' H' P4 F4 H4 → P4 L0 ∧ L0 ∉ F4 ∧ H4 L0 = some (.lst acc) := fun {P4 F4 H4} t => ⟨t.prm L0 pD, (fun z => by
      have q := t.fn L0 z nF
      rw [eD] at q
      cases q), t.all L0 _ nF eD⟩
    cases b with
    | false =>
      refine iteF ?_
      have z : lcGo g dt de (wipeD ρ vs) (items.drop (i + 1)) ds m3 (fun ds m2 => Q (.lst ds) m2) := z
      obtain ⟨d1, d2, d3⟩ := stepD t3
      exact ⟨P3, F3, m3, acc, ds, S'.back t3 S4.unnox, t'.trans t3, d1, d2, d3, DnA.mono t3.pre (sv_tr t3.toTr S'.prs) da, z⟩
    | true =>
      refine iteT ?_
      refine qe σ2 H3 P3 F3 ρ2 m3 _ _ S4 z fun v H4 ⟨P4, F4, m4, y4, S5, t4, dv, z⟩ => ?_
      have t4 := t3.trans t4
      obtain ⟨d1, d2, d3⟩ := stepD t4
      have dv : Dn true X.K F4 (sv C.H0 P4 H4) v y4 := dv
      have S6 := S'.back t4 S5.unnox
      obtain ⟨S7, up⟩ := S6.poke (ws := acc ++ [v]) d1 d2 d3 hn0 nown
      have la : acc.length = ds.length := da.length
      refine ⟨acc, d3, by rw [la]; exact z.1, P4, F4, m4, acc ++ [v], ds ++ [y4], S7, ⟨⟨(t'.trans t4).pre, (t'.trans t4).prn, (t'.trans t4).fn, fun a o h => ?_, fun a o n h => ?_⟩, (t'.trans t4).prm, fun a o n h => ?_⟩, d1, d2, upd_same,
        DnA.mono ⟨[], by simp⟩ up (DnA.app (DnA.mono t4.pre (sv_tr t4.toTr S'.prs) da) (.cons dv .nil)), z.2⟩
      · obtain ⟨o', e⟩ := (t'.trans t4).stay a o h
        exact ⟨o', by rw [upd_ne (ne_of_none h hD)]; exact e⟩
      · rw [upd_ne (ne_of_none h hD)]
        exact (t'.trans t4).keep a o n h
      · rw [upd_ne (ne_of_none h hD)]
        exact (t'.trans t4).all a o n h
  · obtain ⟨P', F', m', acc, ds, S', t', pD, nF, eD, da, z⟩ := p
    rw [List.drop_length] at z
    unfold lcGo at z
    obtain ⟨S2, up⟩ := S'.unguard nF hn0 nown
    refine k _ _ ⟨fun a => P' a ∧ a ≠ L0, F', m', .lst ds, S2, t1.trans ⟨⟨t'.pre, fun a h n => t'.prn a h.1 n, t'.fn, t'.stay, t'.keep⟩, fun a h => ⟨t'.prm a h, fun z => S1.np hD (z ▸ h)⟩, t'.all⟩, ?_, z⟩
    have da2 : DnA true X.K F' (sv C.H0 (fun a => P' a ∧ a ≠ L0) H') acc ds := DnA.mono ⟨[], by simp⟩ up da
    exact ⟨.lst (vw_iff.mpr ⟨eD, .inr ⟨trivial, fun z => z.2 rfl, hn0⟩⟩) da2, fun ds' e => by cases e; exact ⟨L0, acc, rfl, some_of (t1.stay L0) hD, fun z => z.2 rfl, eD, da2⟩⟩
variable {elt tg iter : Expr} {ifs : List Expr} {scope : Scope} {own : List (Str × Nat)} {ti : DTA C.W.M} {g : DG} {dt : DTT C.W.M} {de : DT C.W.M} {ws : List Nat} {st : Bool}
theorem JI.weak (h : JI st X C tg iter ti) : JI false X C tg iter ti := by
  obtain ⟨wi, p, q⟩ := h
  refine ⟨wi, p, fun σ H Pr F ρ m Q Z R S E h k => q σ H Pr F ρ m Q Z R S E h fun J H' ⟨P1, F1, m1, items, S1, t1, ⟨G, Y, w, hG⟩, z⟩ => k J H' ⟨P1, F1, m1, items, S1, t1, ⟨G, Y, w, fun P2 F2 H2 t2 => hG P2 F2 H2 ?_⟩, z⟩⟩
  cases st with
  | true => exact Te.toTr (show Te P1 F1 H' P2 F2 H2 from t2)
  | false => exact t2
/-- the readings of a block, whatever block it is -/
def cnE (c : Cl) (K : PySem.W.Frag) (C : Cn) (t : DT C.W.M) : TE := fun σ H R => ∃ Pr F ρ m Q, SR K C Pr F σ ρ m H ∧ t ρ m Q (fun _ _ => False) ∧ ∀ v H', Post K C c Pr F H σ ρ Q v H' → R v H'
def cnT (K : PySem.W.Frag) (C : Cn) (t : DTT C.W.M) : TT := fun σ H R => ∃ Pr F ρ m Q, SR K C Pr F σ ρ m H ∧ t ρ m Q (fun _ _ => False) ∧ ∀ v H', PostT K C Pr F H σ ρ Q v H' → R v H'
def cnG (K : PySem.W.Frag) (C : Cn) (ws : List Nat) (g : DG) : TG := fun v σ H R => ∃ Pr F ρ, ∃ m : C.W.M, ∃ d Q, SR K C Pr F σ ρ m H ∧ Dn true K F (sv C.H0 Pr H) v d ∧ g d ρ Q ∧
    (∀ σ' ρ', SR K C Pr F σ' ρ' m H → (∀ vs, (∀ i ∈ ws, i ∈ vs) → L2.wipe σ' vs = L2.wipe σ vs) → Q ρ' → R σ' H)
theorem exF {X : Cx} {C : Cn} {Pr : Addr → Prop} {F : List Addr} {H : Hp} {σ : L2.St} {ρ : En} : Ex X C Pr F H σ ρ (fun _ _ => False) := fun _ _ _ _ _ _ _ _ _ z => z.elim
theorem J.cn {X : Cx} {C : Cn} {c : Cl} {e : Expr} {t : DT C.W.M} (h : J c X C e t) : PE X e (cnE c X.K C t) := by
  obtain ⟨te, p, q⟩ := h
  exact ⟨fun pins s σ H R I ⟨Pr, F, ρ, m, Q, S, z, k⟩ => p.run pins s σ H R I (q σ H Pr F ρ m Q _ R S exF z k)⟩
theorem JTs.cn {X : Cx} {C : Cn} {es : List Expr} {t : DTT C.W.M} (h : JTs X C es t) : PTs X es (cnT X.K C t) := by
  obtain ⟨te, p, q⟩ := h
  exact ⟨fun pins s σ H R I ⟨Pr, F, ρ, m, Q, S, z, k⟩ => p.run pins s σ H R I (q σ H Pr F ρ m Q _ R S exF z k)⟩
theorem JG.cn {X : Cx} {C : Cn} {ws : List Nat} {e : Expr} {g : DG} (h : JG X C e ws g) : PG X e (cnG X.K C ws g) := by
  obtain ⟨te, p, q⟩ := h
  exact ⟨fun pins s σ H v u R I r ⟨Pr, F, ρ, m, d, Q, S, dv, z, k⟩ => p.run pins s σ H v u R I r (q σ H Pr F ρ m v d Q R S dv z k)⟩
theorem lc_all {wi : TI} (qi : ∀ σ H Pr F ρ m Q Z (R : It → Hp → Prop), SR X.K C Pr F σ ρ m H → Ex X C Pr F H σ ρ Z → ti ρ m Q Z →
    (∀ J H', (∃ Pr' F' m' items, SR X.K C Pr' F' σ ρ m' H' ∧ Te Pr F H Pr' F' H' ∧ Wk X.K C false Pr' F' H' items J ∧ Q items m') → R J H') → wi σ H R) (hw : ∀ i ∈ ws, i ∈ own.map (·.2))
    {σ : L2.St} {H : Hp} {Pr : Addr → Prop} {F : List Addr} {ρ : En} {m : C.W.M} {Q : D → C.W.M → Prop} {Z : Str → C.W.M → Prop} {R : VK} (S : SR X.K C Pr F σ ρ m H) (E : Ex X C Pr F H σ ρ Z) (h : dLc ti g dt de (own.map (·.2)) ρ m Q Z)
    (k : ∀ v H', Post X.K C .f Pr F H σ ρ Q v H' → R v H') : tLc wi (cnG X.K C.nox ws g) (cnT X.K C.nox dt) (cnE .s X.K C.nox de) (own.map (·.2)) σ H R :=
  lc_read (ti := ti) (Z := Z) (g := g) (dt := dt) (de := de) hw (fun R' k' => qi σ H Pr F ρ m _ Z R' S E h k') (fun σ H Pr F ρ m v d Q R S dv z k => ⟨Pr, F, ρ, m, d, Q, S, dv, z, k⟩) (fun σ H Pr F ρ m Q R S z k => ⟨Pr, F, ρ, m, Q, S, z, k⟩) (fun σ H Pr F ρ m Q R S z k => ⟨Pr, F, ρ, m, Q, S, z, k⟩) S k
/-- [elt for tg in iter if ..], as a value -/
theorem j_lc (hc : X.calm = true) (hN : X.N.Nodup) (hi : JI false X C tg iter ti) (ok : BlkOk X.N X.env.scope scope own) (hg : ∀ s H c cl fp, JG (Blk X scope s H c cl fp) C.nox tg ws g) (ht : ∀ s H c cl fp, JTs (Blk X scope s H c cl fp) C.nox ifs dt) (he : ∀ s H c cl fp, J .s (Blk X scope s H c cl fp) C.nox elt de)
    (hw : ∀ i ∈ ws, i ∈ own.map (·.2)) (hs : ∀ x, foldedSetIterable iter X.env x = pure x := by intro _; rfl) : J .f X C (.ListComp elt [⟨tg, iter, ifs, 0⟩] scope pos) (dLc ti g dt de (own.map (·.2))) := by
  obtain ⟨wi, pi, qi⟩ := hi
  refine ⟨_, pe_lc (g := cnG X.K C.nox ws g) (tt := cnT X.K C.nox dt) (te := cnE .s X.K C.nox de) hc hN pi ok (fun s H c cl fp => (hg s H c cl fp).cn) (fun s H c cl fp => (ht s H c cl fp).cn) (fun s H c cl fp => (he s H c cl fp).cn) hs, fun σ H Pr F ρ m Q Z R S E h k => ?_⟩
  exact lc_all qi hw S E h k
end
end RR

/-! RG: statements over data; a def by its body -/
namespace RR
open PySem PySem.Spec PyProof.Rows L2
structure DE (M : Type) where
  nx : En → M → Prop
  rt : D → M → Prop
  bk : En → M → Prop := fun _ _ => False
  ct : En → M → Prop := fun _ _ => False
  ex : Str → M → Prop := fun _ _ => False
abbrev DS (M : Type) := DE M → En → M → Prop
structure Lk (X : Cx) (C : Cn) (Pr : Addr → Prop) (F : List Addr) (H : Hp) (E : DE C.W.M) (D' : Ends) : Prop where
  nx : ∀ σ' H' ρ' m' Pr' F', SR X.K C Pr' F' σ' ρ' m' H' → Tr Pr F H Pr' F' H' → E.nx ρ' m' → D'.nx σ' H'
  rt : ∀ v H' d m' Pr' F' σ' ρ' H1, SR X.K C Pr' F' σ' ρ' m' H' → Tr Pr F H Pr' F' H' → Dv X.K C .r Pr' F' H1 H' v d → E.rt d m' → D'.rt v H'
  bk : ∀ σ' H' ρ' m' Pr' F', SR X.K C Pr' F' σ' ρ' m' H' → Tr Pr F H Pr' F' H' → E.bk ρ' m' → D'.bk σ' H'
  ct : ∀ σ' H' ρ' m' Pr' F', SR X.K C Pr' F' σ' ρ' m' H' → Tr Pr F H Pr' F' H' → E.ct ρ' m' → D'.ct σ' H'
  ex : ∀ σ' ρ', Ex X C Pr F H σ' ρ' E.ex
theorem Lk.tr {X : Cx} {C : Cn} {Pr Pr1 : Addr → Prop} {F F1 : List Addr} {H H1 : Hp} {E : DE C.W.M} {D' : Ends} (l : Lk X C Pr F H E D') (t : Tr Pr F H Pr1 F1 H1) : Lk X C Pr1 F1 H1 E D' :=
  ⟨fun σ' H' ρ' m' P2 F2 S t2 q => l.nx σ' H' ρ' m' P2 F2 S (t.trans t2) q, fun v H' d m' P2 F2 σ' ρ' H3 S t2 dv q => l.rt v H' d m' P2 F2 σ' ρ' H3 S (t.trans t2) dv q, fun σ' H' ρ' m' P2 F2 S t2 q => l.bk σ' H' ρ' m' P2 F2 S (t.trans t2) q,
    fun σ' H' ρ' m' P2 F2 S t2 q => l.ct σ' H' ρ' m' P2 F2 S (t.trans t2) q, fun σ' ρ' => (l.ex σ' ρ').te t⟩
def JS (X : Cx) (C : Cn) (st : Stmt) (t : DS C.W.M) : Prop := ∃ ts, PS X st ts ∧ ∀ σ H Pr F ρ m E D', SR X.K C Pr F σ ρ m H → Lk X C Pr F H E D' → t E ρ m → ts D' σ H
def JSs (X : Cx) (C : Cn) (st : List Stmt) (t : DS C.W.M) : Prop := ∃ ts, PSs X st ts ∧ ∀ σ H Pr F ρ m E D', SR X.K C Pr F σ ρ m H → Lk X C Pr F H E D' → t E ρ m → ts D' σ H
section
variable {X : Cx} {C : Cn} {e : Expr} {st : Stmt} {rest body els : List Stmt} {pos pos' : Pos} {t u : DS C.W.M}
def dNext {M : Type} : DS M := fun E ρ m => E.nx ρ m
def dThen {M : Type} (t u : DS M) : DS M := fun E ρ m => t { E with nx := u E } ρ m
theorem jss_nil : JSs X C [] dNext := ⟨_, pss_nil, fun σ H Pr F ρ m E D' S l h => l.nx _ _ _ _ _ _ S Tr.refl h⟩
theorem jss_cons (h : JS X C st t) (r : JSs X C rest u) : JSs X C (st :: rest) (dThen t u) := by
  obtain ⟨t1, p1, q1⟩ := h
  obtain ⟨t2, p2, q2⟩ := r
  refine ⟨_, pss_cons p1 p2, fun σ H Pr F ρ m E D' S l h => ?_⟩
  exact q1 σ H Pr F ρ m { E with nx := u E } { D' with nx := t2 D' } S ⟨fun σ' H' ρ' m' P1 F1 S1 t1 q => q2 σ' H' P1 F1 ρ' m' E D' S1 (l.tr t1) q, l.rt, l.bk, l.ct, l.ex⟩ h
theorem jss_one (h : JS X C st t) : JSs X C [st] t := by
  obtain ⟨t1, p1, q1⟩ := h
  exact ⟨_, pss_one p1, q1⟩
def dDrop {M : Type} (t : DT M) : DS M := fun E ρ m => t ρ m (fun _ m' => E.nx ρ m') E.ex
def dRet {M : Type} (t : DT M) : DS M := fun E ρ m => t ρ m E.rt E.ex
theorem js_ret {te : DT C.W.M} (h : J .r X C e te) : JS X C (.Return (some e) pos) (dRet te) := by
  obtain ⟨t1, p, q⟩ := h
  exact ⟨_, ps_ret p, fun σ H Pr F ρ m E D' S l h => q σ H Pr F ρ m _ _ _ S (l.ex σ ρ) h fun v H1 ⟨P1, F1, m1, d, S1, t1, dv, z⟩ => l.rt _ _ d m1 P1 F1 σ ρ H S1 t1.toTr dv z⟩
def dIte {M : Type} (c : DTT M) (t u : DS M) : DS M := fun E ρ m => c ρ m (fun b m1 => if b = true then t E ρ m1 else u E ρ m1) E.ex
theorem js_if {c : Expr} {tc : DTT C.W.M} (hc : JT X C c tc) (h1 : JSs X C body t) (h2 : JSs X C els u) : JS X C (.If c body els pos) (dIte tc t u) := by
  obtain ⟨tt, p, q⟩ := hc
  obtain ⟨t1, p1, q1⟩ := h1
  obtain ⟨t2, p2, q2⟩ := h2
  refine ⟨_, ps_if p p1 p2, fun σ H Pr F ρ m E D' S l h => ?_⟩
  refine q σ H Pr F ρ m _ _ _ S (l.ex σ ρ) h fun b H1 ⟨P1, F1, m1, S1, t1, z⟩ => ?_
  cases b with
  | true => exact iteT (q1 σ H1 P1 F1 ρ m1 E D' S1 (l.tr t1.toTr) z)
  | false => exact iteF (q2 σ H1 P1 F1 ρ m1 E D' S1 (l.tr t1.toTr) z)
def dSet {M : Type} (i : Nat) (t : DT M) : DS M := fun E ρ m => t ρ m (fun d m' => E.nx (ρ.set i (.val d)) m') E.ex
def dSetO {M : Type} (i : Nat) (t : DT M) : DS M := fun E ρ m => t ρ m (fun d m' => match d with | .lst ds => D.nls ds = true ∧ E.nx (ρ.set i (.own ds)) m' | _ => False) E.ex
abbrev LocF (X : Cx) (x : Str) : Prop := X.fn x = true ∨ X.env.scope.names.lookup x = some .local
theorem own_read {σ : L2.St} {H : Hp} {Pr : Addr → Prop} {F : List Addr} {ρ : En} {m : C.W.M} {E : DE C.W.M} {D' : Ends} (i : Nat) (S : SR X.K C Pr F σ ρ m H) (l : Lk X C Pr F H E D') {v : V} {H1 : Hp}
    (h : Post X.K C .f Pr F H σ ρ (fun d m' => match d with | .lst ds => D.nls ds = true ∧ E.nx (ρ.set i (.own ds)) m' | _ => False) v H1) : D'.nx (σ.set i (some v)) H1 := by
  obtain ⟨P1, F1, m1, d, S1, t1, dv, z⟩ := h
  try dsimp only at z
  split at z
  · obtain ⟨p, vs, rfl, hn, np, hp, hd⟩ := dv.2 _ rfl
    obtain ⟨S2, t2⟩ := S.owned t1 S1 i hn hp np hd z.1
    exact l.nx _ _ _ _ _ _ S2 t2.toTr z.2
  · exact z.elim
theorem js_set (i : Nat) {x : Str} {te : DT C.W.M} (hN : X.N.Nodup) (h : J .s X C e te) (hi : X.N[i]? = some x := by rfl) (hx : Loc X.env.scope x := by first | exact .inl rfl | exact .inr rfl) (hf : LocF X x := by first | exact .inl rfl | exact .inr rfl) (hs : swapsWith e (some (.Name x pos')) pos.line X.env = pure false := by rfl) :
    JS X C (.Assign [.Name x pos'] e pos) (dSet i te) := by
  obtain ⟨t1, p, q⟩ := h
  exact ⟨_, ps_set hN hi hx p hs hf, fun σ H Pr F ρ m E D' S l h => q σ H Pr F ρ m _ _ _ S (l.ex σ ρ) h fun v H1 ⟨P1, F1, m1, d, S1, t1, dv, z⟩ => l.nx _ _ _ _ _ _ (S1.set i dv) t1.toTr z⟩
theorem js_setO (i : Nat) {x : Str} {te : DT C.W.M} (hN : X.N.Nodup) (h : J .f X C e te) (hi : X.N[i]? = some x := by rfl) (hx : Loc X.env.scope x := by first | exact .inl rfl | exact .inr rfl) (hf : LocF X x := by first | exact .inl rfl | exact .inr rfl) (hs : swapsWith e (some (.Name x pos')) pos.line X.env = pure false := by rfl) :
    JS X C (.Assign [.Name x pos'] e pos) (dSetO i te) := by
  obtain ⟨t1, p, q⟩ := h
  exact ⟨_, ps_set hN hi hx p hs hf, fun σ H Pr F ρ m E D' S l h => q σ H Pr F ρ m _ _ _ S (l.ex σ ρ) h fun v H1 z => own_read i S l z⟩
/-- name = [..], on one line -/
theorem js_setLc (i : Nat) {x : Str} {py : Pos} {elt tg iter : Expr} {ifs : List Expr} {scope : Scope} {own : List (Str × Nat)} {ti : DTA C.W.M} {g : DG} {dt : DTT C.W.M} {de : DT C.W.M} {ws : List Nat} {lp : Pos} (hc : X.calm = true) (hN : X.N.Nodup) (hi : JI false X C tg iter ti) (ok : BlkOk X.N X.env.scope scope own)
    (hg : ∀ s H c cl fp, JG (Blk X scope s H c cl fp) C.nox tg ws g) (ht : ∀ s H c cl fp, JTs (Blk X scope s H c cl fp) C.nox ifs dt) (he : ∀ s H c cl fp, J .s (Blk X scope s H c cl fp) C.nox elt de)
    (hw : ∀ i ∈ ws, i ∈ own.map (·.2)) (hy : X.N[i]? = some x := by rfl) (hyl : X.env.scope.names.lookup x = some .local := by rfl) (hsw : swapsWith (.ListComp elt [⟨tg, iter, ifs, 0⟩] scope lp) (some (.Name x py)) pos.line X.env = pure true := by exact sw_true rfl rfl rfl (by decide +kernel)) (hs : ∀ z, foldedSetIterable iter X.env z = pure z := by intro _; rfl) :
    JS X C (.Assign [.Name x py] (.ListComp elt [⟨tg, iter, ifs, 0⟩] scope lp) pos) (dSet i (dLc ti g dt de (own.map (·.2)))) := by
  obtain ⟨wi, pi, qi⟩ := hi
  refine ⟨_, ps_setLc (g := cnG X.K C.nox ws g) (tt := cnT X.K C.nox dt) (te := cnE .s X.K C.nox de) hc hN hy hyl hsw pi ok (fun s H c cl fp => (hg s H c cl fp).cn) (fun s H c cl fp => (ht s H c cl fp).cn) (fun s H c cl fp => (he s H c cl fp).cn) hs, fun σ H Pr F ρ m E D' S l h => ?_⟩
  exact lc_all qi hw S (l.ex σ ρ) h fun v H1 ⟨P1, F1, m1, d, S1, t1, dv, z⟩ => l.nx _ _ _ _ _ _ (S1.set i dv.1) t1.toTr z
theorem js_setLcO (i : Nat) {x : Str} {py : Pos} {elt tg iter : Expr} {ifs : List Expr} {scope : Scope} {own : List (Str × Nat)} {ti : DTA C.W.M} {g : DG} {dt : DTT C.W.M} {de : DT C.W.M} {ws : List Nat} {lp : Pos} (hc : X.calm = true) (hN : X.N.Nodup) (hi : JI false X C tg iter ti) (ok : BlkOk X.N X.env.scope scope own)
    (hg : ∀ s H c cl fp, JG (Blk X scope s H c cl fp) C.nox tg ws g) (ht : ∀ s H c cl fp, JTs (Blk X scope s H c cl fp) C.nox ifs dt) (he : ∀ s H c cl fp, J .s (Blk X scope s H c cl fp) C.nox elt de)
    (hw : ∀ i ∈ ws, i ∈ own.map (·.2)) (hy : X.N[i]? = some x := by rfl) (hyl : X.env.scope.names.lookup x = some .local := by rfl) (hsw : swapsWith (.ListComp elt [⟨tg, iter, ifs, 0⟩] scope lp) (some (.Name x py)) pos.line X.env = pure true := by exact sw_true rfl rfl rfl (by decide +kernel)) (hs : ∀ z, foldedSetIterable iter X.env z = pure z := by intro _; rfl) :
    JS X C (.Assign [.Name x py] (.ListComp elt [⟨tg, iter, ifs, 0⟩] scope lp) pos) (dSetO i (dLc ti g dt de (own.map (·.2)))) := by
  obtain ⟨wi, pi, qi⟩ := hi
  refine ⟨_, ps_setLc (g := cnG X.K C.nox ws g) (tt := cnT X.K C.nox dt) (te := cnE .s X.K C.nox de) hc hN hy hyl hsw pi ok (fun s H c cl fp => (hg s H c cl fp).cn) (fun s H c cl fp => (ht s H c cl fp).cn) (fun s H c cl fp => (he s H c cl fp).cn) hs, fun σ H Pr F ρ m E D' S l h => ?_⟩
  exact lc_all qi hw S (l.ex σ ρ) h fun v H1 z => own_read i S l z
/-- (a, b) = e -/
def dAsg {M : Type} (t : DT M) (g : DG) : DS M := fun E ρ m => t ρ m (fun d m' => g d ρ fun ρ' => E.nx ρ' m') E.ex
theorem js_asg {tg : Expr} {ws : List Nat} {g : DG} {te : DT C.W.M} (h : J .s X C e te) (hg : JG X C tg ws g) (hs : swapsWithSole [tg] e pos.line X.env = pure false := by rfl) (hw : swappedStores [tg] e X.env = pure none := by rfl) (h1 : (assignEach [tg] X.env).map (·.2) = [assign tg X.env] := by rfl) : JS X C (.Assign [tg] e pos) (dAsg te g) := by
  obtain ⟨t1, p, q⟩ := h
  obtain ⟨t2, p2, q2⟩ := hg
  exact ⟨_, ps_asg p p2 hs hw h1, fun σ H Pr F ρ m E D' S l h => q σ H Pr F ρ m _ _ _ S (l.ex σ ρ) h fun v H1 ⟨P1, F1, m1, d, S1, t1, dv, z⟩ => q2 σ H1 P1 F1 ρ m1 v d _ _ S1 dv z fun σ' ρ' S2 _ z => l.nx _ _ _ _ _ _ S2 t1.toTr z⟩
/-- a, b = x, y, the names plain locals -/
def dPar {M : Type} (i j : Nat) (t : DTA M) : DS M := fun E ρ m => t ρ m (fun ds m' => match ds with | [x, y] => E.nx ((ρ.set i (.val x)).set j (.val y)) m' | _ => False) E.ex
theorem js_par (i j : Nat) {x y : Str} {a b : Expr} {ta : DTA C.W.M} {px py pt : Pos} {kt k2 pt2} (hc : X.calm = true) (hN : X.N.Nodup) (ha : JA .s X C [a, b] ta) (hw : swappedStores [.Tuple [.Name x px, .Name y py] kt pt] (.Tuple [a, b] k2 pt2) X.env = pure (some [x, y]) := by rfl)
    (hi : X.N[i]? = some x := by rfl) (hj : X.N[j]? = some y := by rfl) (hij : i ≠ j := by decide) (hx : X.env.scope.names.lookup x = some .local := by rfl) (hy : X.env.scope.names.lookup y = some .local := by rfl)
    (hs : swapsWithSole [.Tuple [.Name x px, .Name y py] kt pt] (.Tuple [a, b] k2 pt2) pos.line X.env = pure false := by rfl) : JS X C (.Assign [.Tuple [.Name x px, .Name y py] kt pt] (.Tuple [a, b] k2 pt2) pos) (dPar i j ta) := by
  obtain ⟨t1, p, q⟩ := ha
  refine ⟨_, ps_par hc hN hi hj hij hx hy p hw hs, fun σ H Pr F ρ m E D' S l h => q σ H Pr F ρ m _ _ _ S (l.ex σ ρ) h fun vs H1 ⟨P1, F1, m1, ds, S1, t1, dv, z⟩ => ?_⟩
  have dv : DnA true X.K F1 (sv C.H0 P1 H1) vs ds := dv
  try dsimp only at z
  split at z
  · cases dv with
    | cons h1 r =>
      cases r with
      | cons h2 r =>
        cases r
        exact ⟨_, _, rfl, l.nx _ _ _ _ _ _ ((S1.set i h1).set j h2) t1.toTr z⟩
  · exact z.elim
/-- name op= e, of whole numbers -/
def dAug {M : Type} (i : Nat) (f : Int → Int → Int) (t : DT M) : DS M := fun E ρ m => match ρ[i]? with
  | some (.val (.int x)) => t ρ m (fun y m' => match y with | .int y => E.nx (ρ.set i (.val (.int (f x y)))) m' | _ => False) E.ex
  | _ => False
theorem js_aug (i : Nat) {x : Str} {op : Operator} {f : Int → Int → Int} {te : DT C.W.M} (ho : PIp X op (ipI f)) (hN : X.N.Nodup) (h : J .w X C e te) (hi : X.N[i]? = some x := by rfl) (hx : Loc X.env.scope x := by first | exact .inl rfl | exact .inr rfl) (hf : LocF X x := by first | exact .inl rfl | exact .inr rfl) :
    JS X C (.AugAssign (.Name x pos') op e pos) (dAug i f te) := by
  obtain ⟨t1, p, q⟩ := h
  refine ⟨_, ps_aug hN hi hx p ho hf, fun σ H Pr F ρ m E D' S l h => ?_⟩
  unfold dAug at h
  split at h
  · rename_i z e0
    obtain ⟨v, ev, dz⟩ := S.slot i _ e0
    refine ⟨v, ev, q σ H Pr F ρ m _ _ _ S (l.ex σ ρ) h fun w H1 ⟨P1, F1, m1, d, S1, t1, dv, z⟩ => ?_⟩
    have dv : Dn false X.K F1 (wv F1 H1) w d := dv
    dsimp only at z
    split at z
    · exact ⟨_, _, dz.toInt, dv.toInt, l.nx _ _ _ _ _ _ (S1.set i (.int _)) t1.toTr z⟩
    · exact z.elim
  · exact h.elim
/-- x.append(e), x's own list -/
def dApp {M : Type} (i : Nat) (t : DT M) : DS M := fun E ρ m => match ρ[i]? with
  | some (.own ds) => t ρ m (fun d m' => d.nl = true ∧ ds.length < sizeLine ∧ E.nx (ρ.set i (.own (ds ++ [d]))) m') E.ex
  | _ => False
theorem js_append (i : Nat) {x : Str} {np apos cpos : Pos} {te : DT C.W.M} (h : J .s X C e te) (hN : X.N[i]? = some x := by rfl) (hv : Vis X.env.scope x := by first | exact Or.inl rfl | exact Or.inr (Or.inl rfl) | exact Or.inr (Or.inr rfl)) (hd : (x == ("__debug__" : Str)) = false := by decide) (hcd : (x == ("__classdict__" : Str)) = false := by decide)
    (hfew : ((backTo cpos (starEach [e] X.env)).all (fun x => !x.1) && (backToKw cpos (keywordEach [] X.env)).all (fun x => x.1.isSome) && decide ([e].length + ([] : List Keyword).length + (if ([] : List Keyword).isEmpty then 0 else 1) < 30)) = true := by rfl)
    (hline : (apos.endLine == cpos.line) = true := by rfl) (hs : starEach [e] X.env = (false, eval e X.env) :: starEach [] X.env := by rfl) :
    JS X C (.Expr (.Call (.Attribute (.Name x np) "append" apos) [e] [] cpos) pos) (dApp i te) := by
  obtain ⟨t1, p, q⟩ := h
  refine ⟨_, ps_expr (pe_bm PySem.F.plainAttrs_list PySem.F.slot_list_append PySem.F.type_list_append mt_append (pe_var hN hv hd hcd) (pa_cons p pa_nil hs) rfl hfew hline hs rfl) rfl, fun σ H Pr F ρ m E D' S l h => ?_⟩
  unfold dApp at h
  split at h
  · rename_i ds e0
    obtain ⟨p0, vs, e1, hp, pp, nf, hds⟩ := S.slot i _ e0
    refine ⟨.ref p0, e1, .inl ⟨rfl, vs, SqL.of hp⟩, q σ H Pr F ρ m _ _ _ S (l.ex σ ρ) h fun w H1 ⟨P1, F1, m1, d, S1, t1, dv, z⟩ => ?_⟩
    have dv : Dn true X.K F1 (sv C.H0 P1 H1) w d := dv
    obtain ⟨p1, us, e2, hp1, pp1, nf1, hds1⟩ := S1.slot i _ e0
    rw [e1] at e2; cases e2
    obtain ⟨S2, t2⟩ := S1.change e0 e1 (hds1.app (.cons dv .nil))
    exact ⟨p0, us, w, rfl, rfl, hp1, by rw [hds1.length]; exact z.2.1, l.nx _ _ _ _ _ _ S2 (t1.toTr.trans t2) z.2.2⟩
  · exact h.elim
/-- x[k] = e, x's own list -/
def dSetI {M : Type} (i : Nat) (te tk : DT M) : DS M := fun E ρ m => match ρ[i]? with
  | some (.own ds) => te ρ m (fun d m1 => tk ρ m1 (fun k m2 => match k with
    | .int k => (match ixN ds.length k with | some j => d.nl = true ∧ E.nx (ρ.set i (.own (ds.set j d))) m2 | none => False) | _ => False) E.ex) E.ex
  | _ => False
theorem js_seti (i : Nat) {x : Str} {np sp : Pos} {k : Expr} {te tk : DT C.W.M} (h : J .s X C e te) (hk : J .w X C k tk) (hN : X.N[i]? = some x := by rfl) (hv : Vis X.env.scope x := by first | exact Or.inl rfl | exact Or.inr (Or.inl rfl) | exact Or.inr (Or.inr rfl)) (hd : (x == ("__debug__" : Str)) = false := by decide) (hcd : (x == ("__classdict__" : Str)) = false := by decide)
    (ha : ∀ v, assign (.Subscript (.Name x np) k sp) X.env v = (do
      let ov ← holding [v] (eval (.Name x np) X.env)
      let iv ← holding [v, ov] (eval k X.env)
      standAt sp
      holding [v, ov, iv] (setItem ov iv v)
      release [v, ov, iv] []) := by intro _; rfl)
    (hs : swapsWithSole [.Subscript (.Name x np) k sp] e pos.line X.env = pure false := by rfl) (hw : swappedStores [.Subscript (.Name x np) k sp] e X.env = pure none := by rfl) (h1 : (assignEach [.Subscript (.Name x np) k sp] X.env).map (·.2) = [assign (.Subscript (.Name x np) k sp) X.env] := by rfl) :
    JS X C (.Assign [.Subscript (.Name x np) k sp] e pos) (dSetI i te tk) := by
  obtain ⟨t1, p, q⟩ := h
  obtain ⟨t2, p2, q2⟩ := hk
  refine ⟨_, ps_asg p (pg_sub (pe_var hN hv hd hcd) p2 set_list ha) hs hw h1, fun σ H Pr F ρ m E D' S l h => ?_⟩
  unfold dSetI at h
  split at h
  · rename_i ds e0
    obtain ⟨p0, vs, e1, hp, pp, nf, hds⟩ := S.slot i _ e0
    refine q σ H Pr F ρ m _ _ _ S (l.ex σ ρ) h fun w H1 ⟨P1, F1, m1, d, S1, t1, dv, z⟩ => ?_
    have dv : Dn true X.K F1 (sv C.H0 P1 H1) w d := dv
    refine ⟨.ref p0, e1, q2 σ H1 P1 F1 ρ m1 _ _ _ S1 ((l.ex σ ρ).te t1.toTr) z fun kv H2 ⟨P2, F2, m2, kd, S2, t2, dk, z2⟩ => ?_⟩
    have dk : Dn false X.K F2 (wv F2 H2) kv kd := dk
    dsimp only at z2
    split at z2
    · split at z2
      · rename_i j ej
        obtain ⟨p1, us, e2, hp1, pp1, nf1, hds1⟩ := S2.slot i _ e0
        rw [e1] at e2; cases e2
        obtain ⟨S3, t3⟩ := S2.change e0 e1 (hds1.set (dv.tr t2.toTr S1.prs) j)
        exact ⟨p0, us, _, j, rfl, dk.toInt, hp1, by rw [hds1.length]; exact ej, l.nx _ _ _ _ _ _ S3 ((t1.trans t2).toTr.trans t3) z2.2⟩
      · exact z2.elim
    · exact z2.elim
  · exact h.elim
/-- x[k] += e (or another operator), x's own list of whole numbers -/
def dAugI {M : Type} (i : Nat) (f : Int → Int → Int) (tk te : DT M) : DS M := fun E ρ m => match ρ[i]? with
  | some (.own ds) => tk ρ m (fun k m1 => match k with
    | .int k => (match ixN ds.length k with
      | some j => (match ds[j]? with
        | some (.int x) => te ρ m1 (fun d m2 => match d with | .int y => E.nx (ρ.set i (.own (ds.set j (.int (f x y))))) m2 | _ => False) E.ex
        | _ => False)
      | none => False)
    | _ => False) E.ex
  | _ => False
theorem get_list : PGet X (rIxL X.K) := by
  intro pins s σ H x y v u Q I rx ry h
  obtain ⟨p, xs, i, z, rfl, rfl, hq, he, q⟩ := h
  cases rx
  obtain ⟨t, rfl⟩ := ry
  obtain ⟨its, r, pl, hz⟩ := I.list hq
  obtain ⟨j, h1, h2, h3, h4, h5⟩ := atI_get he
  obtain ⟨w, ew, rw'⟩ := r.get h2
  have hl := r.length
  have hn := line63
  have fin : EP X pins σ Q w s := ⟨z, H, I, rw', q⟩
  by_cases h0 : 0 ≤ i
  · have hj : i.toNat = j := by
      rw [seqIndex_of h0 h5] at h1
      exact Option.some.inj h1
    exact wpAny_getItem_list pl.isList h0 (by omega) (by rw [hj]; simpa using ew) fin
  · have hj : (i + (its.toArray.size : Int)).toNat = j := by
      rw [seqIndex_neg (by omega) h4] at h1
      rw [List.size_toArray, ← hl]
      exact Option.some.inj h1
    exact wpAny_getItem_list_neg pl.isList (by omega) (by rw [List.size_toArray] <;> omega) (by omega) (by rw [hj]; simpa using ew) fin
theorem js_augi (i : Nat) {x : Str} {np sp : Pos} {k : Expr} {op : Operator} {f : Int → Int → Int} {te tk : DT C.W.M} (ho : PIp X op (ipI f)) (hk : J .w X C k tk) (h : J .w X C e te) (hN : X.N[i]? = some x := by rfl) (hv : Vis X.env.scope x := by first | exact Or.inl rfl | exact Or.inr (Or.inl rfl) | exact Or.inr (Or.inr rfl)) (hd : (x == ("__debug__" : Str)) = false := by decide) (hcd : (x == ("__classdict__" : Str)) = false := by decide)
    (ha : ∀ ov iv new, augStore k ov iv new = (do holding [new, ov, iv] (setItem ov iv new); release [new, ov, iv] []; pure .next) := by intros; rfl) :
    JS X C (.AugAssign (.Subscript (.Name x np) k sp) op e pos) (dAugI i f tk te) := by
  obtain ⟨t1, p, q⟩ := h
  obtain ⟨t2, p2, q2⟩ := hk
  refine ⟨_, ps_augS (pe_var hN hv hd hcd) p2 get_list p ho set_list ha, fun σ H Pr F ρ m E D' S l h => ?_⟩
  unfold dAugI at h
  split at h
  · rename_i ds e0
    obtain ⟨p0, vs, e1, hp, pp, nf, hds⟩ := S.slot i _ e0
    refine ⟨.ref p0, e1, q2 σ H Pr F ρ m _ _ _ S (l.ex σ ρ) h fun kv H1 ⟨P1, F1, m1, kd, S1, t1, dk, z⟩ => ?_⟩
    have dk : Dn false X.K F1 (wv F1 H1) kv kd := dk
    dsimp only at z
    split at z
    · split at z
      · rename_i j ej
        split at z
        · rename_i xi exi
          obtain ⟨p1, us, e2, hp1, pp1, nf1, hds1⟩ := S1.slot i _ e0
          rw [e1] at e2; cases e2
          obtain ⟨u0, eu, du⟩ := hds1.getD exi
          refine ⟨p0, us, _, u0, rfl, dk.toInt, SqL.of hp1, ?_, q σ H1 P1 F1 ρ m1 _ _ _ S1 ((l.ex σ ρ).te t1.toTr) z fun w H2 ⟨P2, F2, m2, d, S2, t2, dv, z2⟩ => ?_⟩
          · unfold atI
            rw [hds1.length, ej]
            exact eu
          · have dv : Dn false X.K F2 (wv F2 H2) w d := dv
            dsimp only at z2
            split at z2
            · obtain ⟨p2', us2, e3, hp2, pp2, nf2, hds2⟩ := S2.slot i _ e0
              rw [e1] at e3; cases e3
              obtain ⟨S3, t3⟩ := S2.change e0 e1 (hds2.set (.int _) j)
              exact ⟨_, _, du.toInt, dv.toInt, p0, us2, _, j, rfl, dk.toInt, hp2, by rw [hds2.length]; exact ej, l.nx _ _ _ _ _ _ S3 ((t1.trans t2).toTr.trans t3) z2⟩
            · exact z2.elim
        · exact z.elim
      · exact z.elim
    · exact z.elim
  · exact h.elim
/-! ### loops -/
/-- W: a word of the turns left, the names, the world -/
def dWhile {M : Type} (c : DTT M) (t : DS M) : DS M := fun E ρ m => ∃ W : Nat → En → M → Prop, (∃ n, W n ρ m) ∧ ∀ n ρ m, W n ρ m →
  c ρ m (fun b m1 => if b = true then t { E with nx := fun ρ' m' => ∃ n', n' < n ∧ W n' ρ' m', ct := fun ρ' m' => ∃ n', n' < n ∧ W n' ρ' m', bk := E.nx } ρ m1 else E.nx ρ m1) E.ex
theorem js_while {c : Expr} {tc : DTT C.W.M} (hp : PassesOwn (model X.prog X.w) X.A X.env X.xe) (hc : JT X C c tc) (hb : JSs X C body t) : JS X C (.While c body [] pos) (dWhile tc t) := by
  obtain ⟨tt, p, q⟩ := hc
  obtain ⟨t1, p1, q1⟩ := hb
  refine ⟨_, ps_while hp p p1, fun σ H Pr F ρ m E D' S l h => ?_⟩
  obtain ⟨W, ⟨n0, w0⟩, turn⟩ := h
  refine ⟨fun n σ' H' => ∃ ρ' m' Pr' F', SR X.K C Pr' F' σ' ρ' m' H' ∧ Tr Pr F H Pr' F' H' ∧ W n ρ' m', ⟨n0, ρ, m, Pr, F, S, Tr.refl, w0⟩, ?_⟩
  rintro n σ1 H1 ⟨ρ1, m1, P1, F1, S1, t1, w1⟩
  refine q σ1 H1 P1 F1 ρ1 m1 _ _ _ S1 ((l.ex σ1 ρ1).te t1) (turn n ρ1 m1 w1) fun b H2 ⟨P2, F2, m2, S2, t2, z⟩ => ?_
  have t2 := t1.trans t2.toTr
  cases b with
  | false => exact iteF (l.nx _ _ _ _ _ _ S2 t2 z)
  | true =>
    refine iteT ⟨fun σ' H' => ∃ n', n' < n ∧ ∃ ρ' m' Pr' F', SR X.K C Pr' F' σ' ρ' m' H' ∧ Tr Pr F H Pr' F' H' ∧ W n' ρ' m', fun σ' H' h => h, ?_⟩
    refine q1 σ1 H2 P2 F2 ρ1 m2 { E with nx := fun ρ' m' => ∃ n', n' < n ∧ W n' ρ' m', ct := fun ρ' m' => ∃ n', n' < n ∧ W n' ρ' m', bk := E.nx } _ S2 ⟨fun σ' H' ρ' m' P3 F3 S3 t3 ⟨n', hn, w'⟩ => ⟨n', hn, ρ', m', P3, F3, S3, t2.trans t3, w'⟩, (l.tr t2).rt, (l.tr t2).nx, fun σ' H' ρ' m' P3 F3 S3 t3 ⟨n', hn, w'⟩ => ⟨n', hn, ρ', m', P3, F3, S3, t2.trans t3, w'⟩, (l.tr t2).ex⟩ z
/-- W: a word of the items left, the names, the world -/
def dFor {M : Type} (ti : DTA M) (g : DG) (t : DS M) : DS M := fun E ρ m => ti ρ m (fun items m1 => ∃ W : List D → En → M → Prop, W items ρ m1 ∧ (∀ ρ m, W [] ρ m → E.nx ρ m) ∧
  ∀ x r ρ m, W (x :: r) ρ m → g x ρ fun ρ2 => t { E with nx := W r, ct := W r, bk := E.nx } ρ2 m) E.ex
theorem js_for {tg iter : Expr} {ti : DTA C.W.M} {ws : List Nat} {g : DG} (hp : PassesOwn (model X.prog X.w) X.A X.env X.xe) (hc : X.calm = true) (hi : JI true X C tg iter ti) (hg : JG X C tg ws g) (hb : JSs X C body t) (hs : ∀ x, foldedSetIterable iter X.env x = pure x := by intro _; rfl) :
    JS X C (.For tg iter body [] pos) (dFor ti g t) := by
  obtain ⟨wi, pi, qi⟩ := hi
  obtain ⟨tgt, pg, qg⟩ := hg
  obtain ⟨t1, p1, q1⟩ := hb
  refine ⟨_, ps_for hp hc pi pg p1 hs, fun σ H Pr F ρ m E D' S l h => ?_⟩
  refine qi σ H Pr F ρ m _ _ _ S (l.ex σ ρ) h fun J H1 ⟨P1, F1, m1, items, S1, t1, ⟨G, Y, w, hG⟩, z⟩ => ?_
  obtain ⟨W, w0, wd, turn⟩ := z
  refine for_it w (fun i σ' H' => ∃ ρ' m' Pr' F', SR X.K C Pr' F' σ' ρ' m' H' ∧ Tr P1 F1 H1 Pr' F' H' ∧ W (items.drop i) ρ' m') ⟨ρ, m1, P1, F1, S1, Tr.refl, w0⟩ (fun i σ' H' _ ⟨ρ', m', P2, F2, S2, t2, _⟩ => (hG P2 F2 H' t2).1) (fun i x σ' H' H2 hi ⟨ρ', m', P2, F2, S2, t2, w2⟩ y => ?_) (fun σ' H' ⟨ρ', m', P2, F2, S2, t2, w2⟩ => ?_)
  · obtain ⟨k2, d, ed, hd⟩ := (hG P2 F2 H' t2).2 i x H2 y
    have S3 := S2.grow k2
    have t3 := t2.trans (S2.te k2).toTr
    have ei : items.drop i = d :: items.drop (i + 1) := by
      obtain ⟨hlt, e⟩ := List.getElem?_eq_some_iff.mp ed
      rw [List.drop_eq_getElem_cons hlt, e]
    rw [ei] at w2
    refine qg σ' H2 P2 F2 ρ' m' x d _ _ S3 hd (turn d _ ρ' m' w2) fun σ2 ρ2 S4 _ z => ?_
    have t4 := t1.toTr.trans t3
    exact q1 σ2 H2 P2 F2 ρ2 m' { E with nx := W (items.drop (i + 1)), ct := W (items.drop (i + 1)), bk := E.nx } _ S4 ⟨fun σ5 H5 ρ5 m5 P5 F5 S5 t5 w5 => ⟨ρ5, m5, P5, F5, S5, t3.trans t5, w5⟩, (l.tr t4).rt, (l.tr t4).nx, fun σ5 H5 ρ5 m5 P5 F5 S5 t5 w5 => ⟨ρ5, m5, P5, F5, S5, t3.trans t5, w5⟩, (l.tr t4).ex⟩ z
  · rw [List.drop_length] at w2
    exact l.nx _ _ _ _ _ _ S2 (t1.toTr.trans t2) (wd _ _ w2)
/-- from here on a list of its own is data -/
def dRel {M : Type} (i : Nat) (t : DS M) : DS M := fun E ρ m => match ρ[i]? with | some (.own ds) => t E (ρ.set i (.val (.lst ds))) m | _ => False
/-- raise X("..") -/
def dRaise {M : Type} (x : Str) : DS M := fun E _ m => E.ex x m
/-- an exception class of the program's own over ValueError -/
def ExcF (K : PySem.W.Frag) (mg : Str → Option Value) (x : Str) : Prop := ∃ Cc bmB newId initId, ExcBaseFacts "ValueError" newId initId bmB ∧ mg x = some (.ref Cc) ∧ PySem.W.excIn K Cc bmB newId = true ∧ PySem.W.keepIn K (.ref Cc) = true ∧ PySem.W.subIn K (.ref Cc) (.type "BaseException") = some true ∧ PySem.W.typeIn K (.ref Cc) = some (.type "type")
theorem js_raise {x msg : Str} {j : Nat} {p p2 cp : Pos} (hc : X.calm = true) (tk : Takes X C.wx) (h : ExcF X.K X.mg x) (hg : Gl X x := by rfl) (hdb : (x == ("__debug__" : Str)) = false := by decide) :
    JS X C (.Raise (some (.Call (.Name x p) [.Constant (.str msg) j p2] [] cp)) none pos) (dRaise x) := by
  obtain ⟨Cc, bmB, newId, initId, Fx, gC, qx, kC, r1, r2⟩ := h
  refine ⟨_, ps_raise hc tk (pmk_own Fx qx gC kC (raises_own r1 r2) hg hdb), fun σ H Pr F ρ m E D' S l h => ?_⟩
  exact l.ex σ ρ x (.ref Cc) Pr F m H gC S Tr.refl h
end
end RR

/-! RLo: statements that may change a list within a told tuple (of which nothing else holds a part) -/
namespace RR
open PySem PySem.Spec PyProof.Rows L2
structure LkL (X : Cx) (C : Cn) (E : DE C.W.M) (D' : Ends) : Prop where
  nx : ∀ σ' H' ρ' m' Pr' F', SR X.K C Pr' F' σ' ρ' m' H' → E.nx ρ' m' → D'.nx σ' H'
  rt : ∀ v H' d m' Pr' F' σ' ρ' H1, SR X.K C Pr' F' σ' ρ' m' H' → Dv X.K C .r Pr' F' H1 H' v d → E.rt d m' → D'.rt v H'
  bk : ∀ σ' H' ρ' m' Pr' F', SR X.K C Pr' F' σ' ρ' m' H' → E.bk ρ' m' → D'.bk σ' H'
  ct : ∀ σ' H' ρ' m' Pr' F', SR X.K C Pr' F' σ' ρ' m' H' → E.ct ρ' m' → D'.ct σ' H'
  ex : ∀ σ ρ x cls Pr' F' m' H', X.mg x = some cls → SR X.K C Pr' F' σ ρ m' H' → E.ex x m' → C.wx cls none σ H'
section
variable {X : Cx} {C : Cn} {e : Expr} {st : Stmt} {rest body els : List Stmt} {pos pos' : Pos} {t u : DS C.W.M}
theorem LkL.lk {E : DE C.W.M} {D' : Ends} {Pr : Addr → Prop} {F : List Addr} {H : Hp} (l : LkL X C E D') : Lk X C Pr F H E D' :=
  ⟨fun σ' H' ρ' m' P F S _ q => l.nx σ' H' ρ' m' P F S q, fun v H' d m' P F σ' ρ' H1 S _ dv q => l.rt v H' d m' P F σ' ρ' H1 S dv q, fun σ' H' ρ' m' P F S _ q => l.bk σ' H' ρ' m' P F S q, fun σ' H' ρ' m' P F S _ q => l.ct σ' H' ρ' m' P F S q, fun σ' ρ' x cls P F m' H' hm S _ z => l.ex σ' ρ' x cls P F m' H' hm S z⟩
def JSLs (X : Cx) (C : Cn) (st : List Stmt) (t : DS C.W.M) : Prop := ∃ ts, PSs X st ts ∧ ∀ σ H Pr F ρ m E D', SR X.K C Pr F σ ρ m H → LkL X C E D' → t E ρ m → ts D' σ H
theorem jls_of (h : JSs X C rest t) : JSLs X C rest t := by
  obtain ⟨t1, p, q⟩ := h
  exact ⟨t1, p, fun σ H Pr F ρ m E D' S l h => q σ H Pr F ρ m E D' S l.lk h⟩
/-! ### a told tuple's list that stands alone -/
/-- what stood there already -/
noncomputable def bef (Hs G : Hp) : Hp := fun a => if (Hs a).isSome then G a else none
theorem bef_iff {Hs G : Hp} {a : Addr} {o : HO} : bef Hs G a = some o ↔ (Hs a).isSome = true ∧ G a = some o := by
  unfold bef
  by_cases h : (Hs a).isSome = true
  · rw [if_pos h]; simp [h]
  · rw [if_neg h]; simp [h]
/-- the name i holds what is new since Hs; all else is from before -/
structure Sole (K : PySem.W.Frag) (C : Cn) (i : Nat) (Hs : Hp) (Pr : Addr → Prop) (F : List Addr) (H : Hp) (σ : L2.St) (ρ : En) : Prop where
  h0 : ∀ a, Hs a = none → C.H0 a = none
  me : ∀ d, ρ[i]? = some (.val d) → ∃ v, σ[i]? = some (some v) ∧ Dn true K F (sv Hs Pr H) v d
  others : ∀ k d, k ≠ i → ρ[k]? = some (.val d) → ∃ v, σ[k]? = some (some v) ∧ Dn true K F (bef Hs (sv C.H0 Pr H)) v d
  owns : ∀ (k : Nat) (ds : List D), ρ[k]? = some (Sl.own ds) → ∃ p vs, σ[k]? = some (some (.ref p)) ∧ H p = some (.lst vs) ∧ Pr p ∧ p ∉ F ∧ DnA true K F (bef Hs (sv C.H0 Pr H)) vs ds
theorem Sole.tr {K : PySem.W.Frag} {i : Nat} {Hs : Hp} {Pr Pr1 : Addr → Prop} {F F1 : List Addr} {H H1 : Hp} {σ : L2.St} {ρ : En} (s : Sole K C i Hs Pr F H σ ρ) (t : Te Pr F H Pr1 F1 H1) (hp : ∀ a, Pr a → ∃ o, H a = some o ∧ ¬ IsT o) : Sole K C i Hs Pr1 F1 H1 σ ρ :=
  ⟨s.h0, fun d e => let ⟨v, a, c⟩ := s.me d e; ⟨v, a, c.tr t.toTr hp⟩, fun k d n e => let ⟨v, a, b⟩ := s.others k d n e; ⟨v, a, b.mono t.pre fun a o h => bef_iff.mpr ⟨(bef_iff.mp h).1, sv_tr t.toTr hp a o (bef_iff.mp h).2⟩⟩, fun k ds e => let ⟨p, vs, a, hq, pq, nf, b⟩ := s.owns k ds e; ⟨p, vs, a, t.all p _ nf hq, t.prm p pq, (fun z => by
    have y := t.fn p z nf
    rw [hq] at y; cases y), b.mono t.pre fun a o h => bef_iff.mpr ⟨(bef_iff.mp h).1, sv_tr t.toTr hp a o (bef_iff.mp h).2⟩⟩⟩
end
end RR

/-! RH: a def's promise by its body; the law's own promise -/
namespace RR
open PySem PySem.Spec PyProof.Rows L2
theorem ncl_w : Cl.w ≠ Cl.f := fun h => nomatch h
theorem ncl_s : Cl.s ≠ Cl.f := fun h => nomatch h
/-- the names' states at a def's entry; true: borrowed (an argument with lists) -/
def st0 : List Bool → List D → Nat → En
  | b :: ks, d :: ds, n + 1 => (if b = true then .bor d else .val d) :: st0 ks ds n
  | _, _, n => List.replicate n .un
def okK : List Bool → List D → Prop
  | b :: ks, d :: ds => (b = false → d.nl = true) ∧ okK ks ds
  | [], [] => True
  | _, _ => False
theorem st0_len : ∀ {ks : List Bool} {ds : List D} {n : Nat}, (st0 ks ds n).length = n
  | _ :: ks, _ :: ds, n + 1 => congrArg (· + 1) (st0_len (ks := ks) (ds := ds) (n := n))
  | [], _, n => by simp [st0]
  | _ :: _, [], n => by simp [st0]
  | _ :: _, _ :: _, 0 => by simp [st0]
theorem st0_slot {K : PySem.W.Frag} {C : Cn} {F : List Addr} {H : Hp} (hF : C.F0 = F) (hH : C.H0 = H) : ∀ {ks : List Bool} {ds : List D} {vs : List V} {n : Nat}, DnA false K F (wv F H) vs ds → okK ks ds →
    ∀ (i : Nat) (s : Sl), (st0 ks ds n)[i]? = some s → Sk K C (· ∈ F) F H (vs.map some ++ List.replicate (n - vs.length) none)[i]? s
  | [], _, _, n, _, _, i, s, e => by
    have z : s = .un := by
      simp only [st0] at e
      exact (List.mem_replicate.mp (List.mem_of_getElem? e)).2
    subst z; trivial
  | _ :: _, [], _, n, _, _, i, s, e => by
    have z : s = .un := by
      simp only [st0] at e
      exact (List.mem_replicate.mp (List.mem_of_getElem? e)).2
    subst z; trivial
  | _ :: _, _ :: _, _, 0, _, _, i, s, e => by simp [st0] at e
  | b :: ks, d :: ds, _, n + 1, .cons (v := v) (vs := vs) h r, ok, 0, s, e => by
    have e : (if b = true then Sl.bor d else Sl.val d) = s := by simpa [st0] using e
    subst e
    cases b with
    | true =>
      rw [if_pos rfl]
      exact ⟨v, by simp, by rw [hF, hH]; exact h⟩
    | false =>
      rw [if_neg Bool.false_ne_true]
      exact ⟨v, by simp, h.up (ok.1 rfl)⟩
  | b :: ks, d :: ds, _, n + 1, .cons (v := v) (vs := vs) h r, ok, i + 1, s, e => by
    have e : (st0 ks ds n)[i]? = some s := by simpa [st0] using e
    have := st0_slot (n := n) hF hH r ok.2 i s e
    simpa [Nat.add_sub_add_right] using this
theorem st0_own {ks : List Bool} {ds : List D} {n : Nat} : ∀ (i : Nat) (es : List D), (st0 ks ds n)[i]? ≠ some (.own es) := by
  intro i es e
  induction ks generalizing ds n i with
  | nil =>
    simp only [st0] at e
    exact nomatch (List.mem_replicate.mp (List.mem_of_getElem? e)).2
  | cons b ks ih =>
    cases ds with
    | nil =>
      simp only [st0] at e
      exact nomatch (List.mem_replicate.mp (List.mem_of_getElem? e)).2
    | cons d ds =>
      cases n with
      | zero => simp [st0] at e
      | succ n =>
        cases i with
        | zero =>
          simp only [st0, List.getElem?_cons_zero, Option.some.injEq] at e
          split at e <;> cases e
        | succ i => exact ih i (by simpa [st0] using e)
section
variable {P : Program} {w : World} {K : PySem.W.Frag} {mg : Str → Option Value} {base : Heap} {W : Wd}
/-- the state of a def at its entry -/
theorem sr_entry {C : Cn} {F : List Addr} {H : Hp} {m : C.W.M} {ks : List Bool} {ds : List D} {vs : List V} {N : List Str} (hF : C.F0 = F) (hH : C.H0 = H) (rz : C.W.Rz m F H) (dv : DnA false K F (wv F H) vs ds) (ok : okK ks ds) (hl : vs.length ≤ N.length) :
    SR K C (· ∈ F) F (L2.start N vs) (st0 ks ds N.length) m H where
  keep := fun a o _ e => by rw [hH] at e; exact e
  pre := ⟨[], by rw [hF]; simp⟩
  new := fun a h n => absurd h (by rw [hF] at n; exact n)
  prs := fun a h => C.W.there rz a h
  prn := fun a h n => absurd h n
  prf := fun a h => h
  rz := rz
  len := by
    rw [st0_len]
    unfold L2.start
    rw [List.length_append, List.length_map, List.length_replicate]
    omega
  slot := st0_slot hF hH dv ok
  dist := fun i j ds' es p _ e => absurd e (st0_own i ds')
abbrev XOf (P : Program) (w : World) (K : PySem.W.Frag) (mg : Str → Option Value) (base : Heap) (N : List Str) (x : Str) (sc : Scope) (f : Addr) (cdv : Value) (A : Around) (outer : List Env) (s : Shared) (H : Hp) (E : XK) : Cx := cxOf (L2.CX P w) P w K mg base N x sc f cdv A outer s H E
theorem fn_dataR {x : Str} {st : Stmt} {f : Addr} {fd : FuncData} {N ps : List Str} {k : Nat} {sp : DSp W.M} {t : DS W.M} (ks : List Bool)
    (rule : ∀ {sq : Sp}, (∀ vs H Q E, sq vs H Q E → vs.length = ps.length) → (∀ (cdv : Value) (A : Around) (out : List Env) (s : Shared) (H : Hp) (vs : List V) (Q : VK) (E : XK), RoomG k (A.deeper (envOfC x (defScope st) s.heap.objs.size f cdv)) → sq vs H Q E →
      ∃ t, PSs (cxOf (L2.CX P w) P w K mg base N x (defScope st) f cdv A out s H E) (defBody st) t ∧ t { nx := fun _ H1 => Q .non H1, rt := Q } (start N vs) H) → FnG P w K mg base (L2.CX P w) (k + 1) f fd ps sq)
    (len : ∀ ds m Q Z, sp ds m Q Z → ds.length = ps.length) (hn : ps.length ≤ N.length)
    (body : ∀ (cdv : Value) (A : Around) (outer : List Env) (s : Shared) (H : Hp) (E : XK) (F0 : List Addr), RoomG k (A.deeper (envOfC x (defScope st) s.heap.objs.size f cdv)) →
      JSLs (XOf P w K mg base N x (defScope st) f cdv A outer s H E) ⟨W, H, F0, fun cls d _ H' => E cls d H'⟩ (defBody st) t)
    (vc : ∀ ds m Q Z, sp ds m Q Z → okK ks ds ∧ t { nx := fun _ m' => Q .non m', rt := Q, ex := Z } (st0 ks ds N.length) m) :
    FnG P w K mg base (L2.CX P w) (k + 1) f fd ps (spD K mg W sp) := by
  have ln : ∀ vs H Q E, spD K mg W sp vs H Q E → vs.length = ps.length := fun vs H Q E h => by
    obtain ⟨F, m, ds, Qd, Zd, rz, dv, q, _⟩ := h
    rw [dv.length]
    exact len _ _ _ _ q
  refine rule ln fun cdv A outer s H vs Q E hr h => ?_
  have lv := ln _ _ _ _ h
  obtain ⟨F0, m, ds, Qd, Zd, rz, dv, q, hq, hz⟩ := h
  obtain ⟨ts, p, r⟩ := body cdv A outer s H E F0 hr
  obtain ⟨ok, v⟩ := vc _ _ _ _ q
  refine ⟨ts, p, r (L2.start N vs) H (· ∈ F0) F0 _ m { nx := fun _ m' => Qd .non m', rt := Qd, ex := Zd } _ (sr_entry (C := ⟨W, H, F0, fun cls d _ H' => E cls d H'⟩) rfl rfl rz dv ok (by omega)) ⟨fun σ' H' ρ' m' P1 F1 S1 q => ?_, fun v H' d m' P1 F1 σ' ρ' H1 S1 dv q => ?_, fun _ _ _ _ _ _ _ q => q.elim, fun _ _ _ _ _ _ _ q => q.elim, fun σ' ρ' y cls P1 F1 m' H' hm S1 q => ?_⟩ v⟩
  · exact hq .non H' F1 .non m' S1.rz S1.pre (fun a h n => S1.new a h n) (fun a o n e => S1.keep a o n e) .non q
  · exact hq v H' F1 d m' S1.rz S1.pre (fun a h n => S1.new a h n) (fun a o n e => S1.keep a o n e) dv q
  · exact hz y cls H' F1 m' hm S1.rz S1.pre (fun a h n => S1.new a h n) (fun a o n e => S1.keep a o n e) q
theorem fn_data {x : Str} {st : Stmt} {f : Addr} {fd : FuncData} {N ps : List Str} {k : Nat} {sp : DSp W.M} {t : DS W.M} (ks : List Bool) (F : Fun K x x st f fd) (S : FnScope N ps (defScope st))
    (len : ∀ ds m Q Z, sp ds m Q Z → ds.length = ps.length) (hn : ps.length ≤ N.length)
    (body : ∀ (cdv : Value) (A : Around) (outer : List Env) (s : Shared) (H : Hp) (E : XK) (F0 : List Addr), RoomG k (A.deeper (envOfC x (defScope st) s.heap.objs.size f cdv)) →
      JSLs (XOf P w K mg base N x (defScope st) f cdv A outer s H E) ⟨W, H, F0, fun cls d _ H' => E cls d H'⟩ (defBody st) t)
    (vc : ∀ ds m Q Z, sp ds m Q Z → okK ks ds ∧ t { nx := fun _ m' => Q .non m', rt := Q, ex := Z } (st0 ks ds N.length) m) :
    FnG P w K mg base (L2.CX P w) (k + 1) f fd ps (spD K mg W sp) := fn_dataR ks (fun ln bd => okG F S ln bd) len hn body vc
/-- a def without defaults -/
theorem fd_of {g x : Str} {st : Stmt} {f : Addr} {fd : FuncData} {N ps : List Str} {k : Nat} {sp : DSp W.M} {t : DS W.M} (ks : List Bool) (F : Fun K x x st f fd) (gf : mg g = some (.ref f)) (b : Binds K fd ps []) (S : FnScope N ps (defScope st))
    (len : ∀ ds m Q Z, sp ds m Q Z → ds.length = ps.length) (hn : ps.length ≤ N.length)
    (body : ∀ (cdv : Value) (A : Around) (outer : List Env) (s : Shared) (H : Hp) (E : XK) (F0 : List Addr), RoomG k (A.deeper (envOfC x (defScope st) s.heap.objs.size f cdv)) →
      JSLs (XOf P w K mg base N x (defScope st) f cdv A outer s H E) ⟨W, H, F0, fun cls d _ H' => E cls d H'⟩ (defBody st) t)
    (vc : ∀ ds m Q Z, sp ds m Q Z → okK ks ds ∧ t { nx := fun _ m' => Q .non m', rt := Q, ex := Z } (st0 ks ds N.length) m) : FD P w K mg base W (k + 1) g [] sp :=
  ⟨f, fd, ps, [], [], fn_data ks F S len hn body vc, gf, F.kp, b, .nil, fun _ _ => .nil⟩
/-- a def of the text, as found behind the top -/
structure Dfn (K : PySem.W.Frag) (mg : Str → Option Value) (g x : Str) (st : Stmt) (ps : List Str) : Prop where
  ex : ∃ f fd, Fun K x x st f fd ∧ mg g = some (.ref f) ∧ Binds K fd ps []
/-- what fd_of asks of the body, in short: X and C as they stand -/
abbrev BodyJ (P : Program) (w : World) (K : PySem.W.Frag) (mg : Str → Option Value) (base : Heap) (W : Wd) (k : Nat) (N : List Str) (x : Str) (st : Stmt) (t : DS W.M) : Prop :=
  ∀ (f : Addr) (cdv : Value) (A : Around) (outer : List Env) (s : Shared) (H : Hp) (E : XK) (F0 : List Addr), RoomG k (A.deeper (envOfC x (defScope st) s.heap.objs.size f cdv)) →
      JSLs (XOf P w K mg base N x (defScope st) f cdv A outer s H E) ⟨W, H, F0, fun cls d _ H' => E cls d H'⟩ (defBody st) t
theorem Dfn.fd {g x : Str} {st : Stmt} {N ps : List Str} {k : Nat} {sp : DSp W.M} {t : DS W.M} (F : Dfn K mg g x st ps) (ks : List Bool) (S : FnScope N ps (defScope st)) (body : BodyJ P w K mg base W k N x st t)
    (len : ∀ ds m Q Z, sp ds m Q Z → ds.length = ps.length) (vc : ∀ ds m Q Z, sp ds m Q Z → okK ks ds ∧ t { nx := fun _ m' => Q .non m', rt := Q, ex := Z } (st0 ks ds N.length) m) (hn : ps.length ≤ N.length := by decide) : FD P w K mg base W (k + 1) g [] sp := by
  obtain ⟨f, fd, Fn, gf, b⟩ := F.ex
  exact fd_of ks Fn gf b S len hn (body f) vc
theorem FD.mono {j k : Nat} {x : Str} {dds : List D} {sp : DSp W.M} (h : FD P w K mg base W j x dds sp) (l : j ≤ k) : FD P w K mg base W k x dds sp := by
  obtain ⟨f, fd, ps, ds, dvs, F, r⟩ := h
  exact ⟨f, fd, ps, ds, dvs, F.mono l, r⟩
end
/-- the world of nothing -/
def W0 : Wd where
  M := Unit
  Rz := fun _ F _ => F = []
  keep := fun h _ _ => h
  there := fun h a ha => by rw [h] at ha; cases ha
/-- a law's own promise -/
def spLaw (K : PySem.W.Frag) : Sp := fun vs H Q _ => ∃ (a : Addr) (ns : List Int), vs = [.ref a] ∧ SqL K H a (ns.map V.int) ∧ ns.length ≤ 63 ∧ ∀ H', Q (.bl true) H'
theorem ints_dn {s : Bool} {K : PySem.W.Frag} {F : List Addr} {G : Hp} : ∀ ns : List Int, DnA s K F G (ns.map V.int) (ns.map D.int)
  | [] => .nil
  | n :: ns => .cons (.int n) (ints_dn ns)
theorem law_of {P : Program} {w : World} {K : PySem.W.Frag} {mg : Str → Option Value} {base : Heap} {W : Wd} {k : Nat} {f : Addr} {fd : FuncData} {ps : List Str} {sp : DSp W.M} {m0 : W.M} (F : FnG P w K mg base (L2.CX P w) k f fd ps (spD K mg W sp)) (r0 : ∀ H, W.Rz m0 [] H)
    (h : ∀ ns : List Int, ns.length ≤ 63 → sp [.lst (ns.map D.int)] m0 (fun d _ => d = .bl true) (fun _ _ => False)) : FnG P w K mg base (L2.CX P w) k f fd ps (spLaw K) := by
  refine F.imp fun vs H Q E h' => ?_
  obtain ⟨a, ns, rfl, hs, hl, q⟩ := h'
  refine ⟨[], m0, [.lst (ns.map D.int)], _, _, r0 H, .cons (.lst (Ls.mono (s := false) (fun a o e => vw_iff.mpr ⟨e, by simp⟩) (show Ls false K H a _ from hs)) (ints_dn ns)) .nil, h ns hl, fun v H' F' d m' _ _ _ _ dn e => ?_, fun _ _ _ _ _ _ _ _ _ _ z => z.elim⟩
  subst e
  cases dn
  exact q H'
end RR

/-! RH2: defs with whole numbers as defaults -/
namespace RR
open PySem PySem.Spec PyProof.Rows L2
/-- a def of the text with the defaults zs (whole numbers) -/
structure DfD (K : PySem.W.Frag) (mg : Str → Option Value) (g x : Str) (st : Stmt) (ps : List Str) (zs : List Int) : Prop where
  ex : ∃ f fd, FunD K x x (defArgs st) (defBody st) (defScope st) (zs.map V.int) [] f fd ∧ mg g = some (.ref f) ∧ ∀ j, j ≤ zs.length → ∃ ds, Vals ((zs.map V.int).drop j) ds ∧ Binds K fd ps ds
section
variable {P : Program} {w : World} {K : PySem.W.Frag} {mg : Str → Option Value} {base : Heap} {W : Wd}
/-- called with all but the defaults behind the first j -/
theorem DfD.go {g x : Str} {st : Stmt} {N ps : List Str} {zs : List Int} {k : Nat} {sp : DSp W.M} {t : DS W.M} (F : DfD K mg g x st ps zs) (j : Nat) (ks : List Bool) (S : FnScope N ps (defScope st)) (body : BodyJ P w K mg base W k N x st t)
    (vc : ∀ ds m Q Z, sp ds m Q Z → okK ks ds ∧ t { nx := fun _ m' => Q .non m', rt := Q, ex := Z } (st0 ks ds N.length) m) (len : ∀ ds m Q Z, sp ds m Q Z → ds.length = ps.length) (hj : j ≤ zs.length := by decide) (hn : ps.length ≤ N.length := by decide) :
    FD P w K mg base W (k + 1) g ((zs.drop j).map D.int) sp := by
  obtain ⟨f, fd, G, gf, bn⟩ := F.ex
  obtain ⟨ds, vds, bd⟩ := bn j hj
  have kp := G.kp
  obtain ⟨_, _, _, _, _, _, _, cdv, _, _, rfl, lk, cd, _, _⟩ := G.ex
  have ln : ∀ vs H Q E, spD K mg W sp vs H Q E → vs.length = ps.length := fun vs H Q E h => by
    obtain ⟨F0, m, ds, Qd, Zd, rz, dv, q, _⟩ := h
    rw [dv.length]
    exact len _ _ _ _ q
  refine ⟨f, _, ps, ds, (zs.map V.int).drop j, ?_, gf, kp, bd, vds, fun F0 G0 => by rw [← List.map_drop]; exact ints_dn _⟩
  exact fn_dataR (x := x) (st := st) ks (fun ln bd => fnG_mk lk cd S ln fun room asked => bd cdv _ _ _ _ _ _ _ room asked) len hn (body f) vc
end
end RR

/-! RV: what the readings come to: bounds, lists of numbers, comprehensions -/
namespace RR
open PySem PySem.Spec PyProof.Rows L2
/-! ### sizes -/
def bd (n : Nat) (x : Int) : Prop := x.natAbs < 2 ^ n
theorem mulok {i j : Int} {a b : Nat} (ha : bd a i) (hb : bd b j) (h : a + b ≤ 100000000 := by decide) : IntMulOk i j := by
  have l : ∀ {x : Int} {n : Nat}, x.natAbs < 2 ^ n → Builtin.Int.intBits x ≤ n := fun {x n} h => by
    unfold Builtin.Int.intBits
    split
    · exact Nat.zero_le _
    · rename_i h0
      have h0 : x.natAbs ≠ 0 := by simpa using h0
      exact (Nat.log2_lt h0).mpr h
  have h1 := l ha
  have h2 := l hb
  have e : bitsLine = 134217728 := by decide
  intro z
  rw [Bool.and_eq_true] at z
  have z2 := z.2
  unfold Builtin.Int.intTooBig at z2
  have z3 := of_decide_eq_true z2
  rw [e] at z3
  omega
theorem bd_mul {a b : Nat} {x y : Int} (h : bd a x) (h' : bd b y) : bd (a + b) (x * y) := by
  unfold bd at *
  rw [Int.natAbs_mul, Nat.pow_add]
  exact Nat.mul_lt_mul'' h h'
theorem bd_mono {a b : Nat} {x : Int} (h : bd a x) (l : a ≤ b) : bd b x := Nat.lt_of_lt_of_le h (Nat.pow_le_pow_right (by decide) l)
theorem bd_add {a b : Nat} {x y : Int} (h : bd a x) (h' : bd b y) : bd (max a b + 1) (x + y) := by
  have h1 : bd (max a b) x := bd_mono h (by omega)
  have h2 : bd (max a b) y := bd_mono h' (by omega)
  unfold bd at *
  rw [Nat.pow_succ]
  omega
theorem bd_neg {a : Nat} {x : Int} (h : bd a x) : bd a (-x) := by unfold bd at *; omega
theorem bd_sub {a b : Nat} {x y : Int} (h : bd a x) (h' : bd b y) : bd (max a b + 1) (x - y) := by
  have := bd_add h (bd_neg h')
  rwa [← Int.sub_eq_add_neg] at this
theorem bd_lit {n : Nat} {x : Int} (h : x.natAbs < 2 ^ n) : bd n x := h
theorem bd_fmod {b : Nat} {x y : Int} (h : bd b y) (h0 : 0 < y) : bd b (x.fmod y) := by
  have h1 := Int.fmod_nonneg_of_pos x h0
  have h2 := Int.fmod_lt_of_pos x h0
  unfold bd at *
  omega
theorem iabs_eq (x : Int) : iabs x = (x.natAbs : Int) := by unfold iabs; split <;> omega
theorem imax_eq (x y : Int) : imax x y = max x y := by unfold imax; omega
theorem imin_eq (x y : Int) : imin x y = min x y := by unfold imin; omega
theorem nd_small {i j : Int} {b : Nat} (h : j ≠ 0) (hb : bd b j) (l : b ≤ 9000 := by decide) : Nd i j := by
  refine ⟨h, PyProof.noPylong_of_log2 ?_⟩
  have h0 : j.natAbs ≠ 0 := by omega
  have := (Nat.log2_lt h0).mpr hb
  omega
theorem fdiv_pos {i j : Int} (h : 0 ≤ j) : i.fdiv j = i / j := Int.fdiv_eq_ediv_of_nonneg i h
theorem small_line {n : Nat} (h : n ≤ 16777216) : n ≤ sizeLine := by rw [sizeLine_eq]; exact h
theorem lt_line {n : Nat} (h : n < 16777216) : n < sizeLine := by rw [sizeLine_eq]; exact h
/-! ### lists of numbers -/
abbrev zz (xs : List Int) : List D := xs.map D.int
theorem nls_ints : ∀ xs : List Int, D.nls (zz xs) = true
  | [] => rfl
  | _ :: xs => nls_ints xs
theorem nl_row (xs : List Int) : D.nl (.tup (zz xs)) = true := nls_ints xs
theorem q_int {n : Nat} {i : Int} : (D.int i).q n = true := by cases n <;> rfl
theorem q_row {n : Nat} (xs : List Int) : (D.tup (zz xs)).q (n + 1) = true := List.all_eq_true.mpr fun d hd => by
  obtain ⟨i, _, rfl⟩ := List.mem_map.mp hd
  exact q_int
theorem q_lst {n : Nat} (xs : List Int) : (D.lst (zz xs)).q (n + 1) = true := List.all_eq_true.mpr fun d hd => by
  obtain ⟨i, _, rfl⟩ := List.mem_map.mp hd
  exact q_int
theorem eqvs_ints : ∀ xs ys : List Int, D.eqvs (zz xs) (zz ys) = decide (xs = ys)
  | [], [] => rfl
  | [], _ :: _ => rfl
  | _ :: _, [] => rfl
  | x :: xs, y :: ys => by
    show ((D.int x).eqv (.int y) && D.eqvs (zz xs) (zz ys)) = _
    rw [eqvs_ints xs ys]
    show (decide (x = y) && decide (xs = ys)) = _
    rw [Bool.eq_iff_iff]
    simp
theorem eqv_row (xs ys : List Int) : (D.tup (zz xs)).eqv (.tup (zz ys)) = decide (xs = ys) := eqvs_ints xs ys
theorem eqv_lst (xs ys : List Int) : (D.lst (zz xs)).eqv (.lst (zz ys)) = decide (xs = ys) := eqvs_ints xs ys
theorem eqv_int (x y : Int) : (D.int x).eqv (.int y) = decide (x = y) := rfl
theorem atI_ints {xs : List Int} {i : Int} : atI (zz xs) i = (atI xs i).map D.int := by
  unfold atI
  rw [List.length_map]
  cases ixN xs.length i with
  | none => rfl
  | some j => simp
theorem atI_at {α : Type} {xs : List α} {i : Int} (h0 : 0 ≤ i) (h1 : i < xs.length) : atI xs i = some (xs[i.toNat]'(by omega)) := by
  unfold atI ixN
  rw [if_pos h0, if_pos h1]
  simp
theorem ixN_at {n : Nat} {i : Int} (h0 : 0 ≤ i) (h1 : i < n) : ixN n i = some i.toNat := by
  unfold ixN
  rw [if_pos h0, if_pos h1]
theorem iota_map (n : Nat) : iota 0 n = (List.range n).map fun k => D.int (k : Nat) := by
  unfold iota
  refine List.map_congr_left fun k _ => ?_
  rw [Int.zero_add]
/-! ### slices of plain bounds -/
theorem cut_upto {ds : List D} {k : Int} (h0 : 0 ≤ k) : cutD ds none (some k) = ds.take k.toNat := by
  unfold cutD
  obtain ⟨n, rfl⟩ := Int.eq_ofNat_of_zero_le h0
  rw [HT.sIx_none, HT.sIx_nat, List.drop_zero, Nat.sub_zero]
  simp only [Int.toNat_natCast]
  rcases Nat.le_total n ds.length with h | h
  · rw [Nat.min_eq_left h]
  · rw [Nat.min_eq_right h, List.take_length, List.take_of_length_le h]
theorem cut_from {ds : List D} {k : Int} (h0 : 0 ≤ k) : cutD ds (some k) none = ds.drop k.toNat := by
  unfold cutD
  obtain ⟨n, rfl⟩ := Int.eq_ofNat_of_zero_le h0
  rw [HT.sIx_none, HT.sIx_nat]
  simp only [Int.toNat_natCast]
  rcases Nat.le_total n ds.length with h | h
  · rw [Nat.min_eq_left h, List.take_of_length_le (by rw [List.length_drop]; omega)]
  · rw [Nat.min_eq_right h, List.drop_length, List.drop_of_length_le h, List.take_nil]
/-! ### comprehensions -/
section
variable {M : Type} {α : Type} {g : DG} {tt : DTT M} {te : DT M} {ρ : En}
/-- items that are kept or not by a known test, the element known -/
theorem lcGo_filter {inj h : α → D} {keep : α → Bool} : ∀ (xs : List α) {acc : List D} {m : M} {Q : List D → M → Prop},
    (∀ a ∈ xs, ∀ m (k : D → M → Prop) (l : M → Prop), (keep a = true → k (h a) m) → (keep a = false → l m) → g (inj a) ρ fun ρ2 => tt ρ2 m (fun b m1 => if b = true then te ρ2 m1 k (fun _ _ => False) else l m1) (fun _ _ => False)) →
    acc.length + xs.length ≤ sizeLine → Q (acc ++ (xs.filter keep).map h) m → lcGo g tt te ρ (xs.map inj) acc m Q
  | [], acc, m, Q, _, _, q => by
    show Q acc m
    simpa using q
  | a :: xs, acc, m, Q, st, hl, q => by
    rw [List.length_cons] at hl
    refine st a List.mem_cons_self m _ _ (fun hk => ⟨by omega, ?_⟩) fun hk => ?_
    · refine lcGo_filter xs (fun b hb => st b (List.mem_cons_of_mem _ hb)) (by rw [List.length_append, List.length_cons, List.length_nil]; omega) ?_
      rw [List.filter_cons_of_pos hk, List.map_cons] at q
      simpa using q
    · refine lcGo_filter xs (fun b hb => st b (List.mem_cons_of_mem _ hb)) (by omega) ?_
      rw [List.filter_cons_of_neg (by simp [hk])] at q
      exact q
theorem lcGo_map {inj h : α → D} (xs : List α) {m : M} {Q : List D → M → Prop}
    (st : ∀ a ∈ xs, ∀ m (k : D → M → Prop) (l : M → Prop), k (h a) m → g (inj a) ρ fun ρ2 => tt ρ2 m (fun b m1 => if b = true then te ρ2 m1 k (fun _ _ => False) else l m1) (fun _ _ => False))
    (hl : xs.length ≤ sizeLine) (q : Q (xs.map h) m) : lcGo g tt te ρ (xs.map inj) [] m Q := by
  refine lcGo_filter (keep := fun _ => true) xs (fun a ha m k l h1 _ => st a ha m k l (h1 rfl)) (by simpa using hl) ?_
  rw [List.filter_eq_self.mpr fun _ _ => rfl]
  simpa using q
/-- elements that turn the world, of which P is known; the world's word S by the number of items left -/
theorem lcGo_any {P : D → Prop} {S : Nat → M → Prop} : ∀ (items : List D) {acc : List D} {m : M} {Q : List D → M → Prop},
    (∀ x ∈ items, ∀ n m (k : D → M → Prop) (l : M → Prop), S (n + 1) m → (∀ y m1, P y → S n m1 → k y m1) → g x ρ fun ρ2 => tt ρ2 m (fun b m1 => if b = true then te ρ2 m1 k (fun _ _ => False) else l m1) (fun _ _ => False)) →
    acc.length + items.length ≤ sizeLine → S items.length m → (∀ ds m1, ds.length = items.length → (∀ d ∈ ds, P d) → S 0 m1 → Q (acc ++ ds) m1) → lcGo g tt te ρ items acc m Q
  | [], acc, m, Q, _, _, s, q => by
    have := q [] m rfl (fun _ h => nomatch h) s
    rw [List.append_nil] at this
    exact this
  | x :: xs, acc, m, Q, st, hl, s, q => by
    rw [List.length_cons] at hl
    refine st x List.mem_cons_self xs.length m _ _ s fun y m1 py s1 => ⟨by omega, ?_⟩
    refine lcGo_any xs (fun b hb => st b (List.mem_cons_of_mem _ hb)) (by rw [List.length_append, List.length_cons, List.length_nil]; omega) s1 fun ds m2 l p s2 => ?_
    have := q (y :: ds) m2 (by rw [List.length_cons, List.length_cons, l]) (fun d hd => (List.mem_cons.mp hd).elim (fun e => e ▸ py) (p d)) s2
    simpa using this
end
/-- whole numbers out of data of which each is one -/
theorem ints_of {P : Int → Prop} : ∀ {ds : List D}, (∀ d ∈ ds, ∃ x, d = .int x ∧ P x) → ∃ xs : List Int, ds = zz xs ∧ ∀ x ∈ xs, P x
  | [], _ => ⟨[], rfl, fun _ h => nomatch h⟩
  | d :: ds, h => by
    obtain ⟨x, rfl, px⟩ := h d List.mem_cons_self
    obtain ⟨xs, rfl, p⟩ := ints_of fun e he => h e (List.mem_cons_of_mem _ he)
    exact ⟨x :: xs, rfl, fun y hy => (List.mem_cons.mp hy).elim (fun e => e ▸ px) (p y)⟩
end RR

/-! RR1: repr of data -/
namespace RR
open PySem PySem.Spec PyProof.Rows L2
section
variable {X : Cx}
end
mutual
theorem py_nodict : ∀ d : D, d.py.hasDict = false
  | .non => by simp only [D.py, PyData.hasDict]
  | .bl b => by simp only [D.py, PyData.hasDict]
  | .int i => by simp only [D.py, PyData.hasDict]
  | .str x => by simp only [D.py, PyData.hasDict]
  | .hnd n => by simp only [D.py, PyData.hasDict]
  | .dic => by simp only [D.py, PyData.hasDict]
  | .exc n => by simp only [D.py, PyData.hasDict]
  | .fn n => by simp only [D.py, PyData.hasDict]
  | .ptr n => by simp only [D.py, PyData.hasDict]
  | .tup xs => by simp only [D.py, PyData.hasDict]; exact pys_nodict xs
  | .lst xs => by simp only [D.py, PyData.hasDict]; exact pys_nodict xs
theorem pys_nodict : ∀ ds : List D, PyData.hasDictAll (D.pys ds) = false
  | [] => by simp only [D.pys, PyData.hasDictAll]
  | d :: ds => by simp only [D.pys, PyData.hasDictAll, py_nodict d, pys_nodict ds, Bool.or_self]
end
theorem pys_depth {n : Nat} : ∀ {ds : List D}, (∀ d ∈ ds, d.py.depth ≤ n) → PyData.depthAll (D.pys ds) ≤ n
  | [], _ => by simp only [D.pys, PyData.depthAll]; exact Nat.zero_le _
  | d :: ds, h => by
    simp only [D.pys, PyData.depthAll]
    exact Nat.max_le.mpr ⟨h d List.mem_cons_self, pys_depth fun e he => h e (List.mem_cons_of_mem _ he)⟩
theorem py_depth : ∀ {n : Nat} {d : D}, d.q n = true → d.py.depth ≤ n
  | n, .non, _ => by simp only [D.py, PyData.depth]; exact Nat.zero_le _
  | n, .bl b, _ => by simp only [D.py, PyData.depth]; exact Nat.zero_le _
  | n, .int i, _ => by simp only [D.py, PyData.depth]; exact Nat.zero_le _
  | n, .str x, _ => by simp only [D.py, PyData.depth]; exact Nat.zero_le _
  | n, .hnd x, _ => by simp only [D.py, PyData.depth]; exact Nat.zero_le _
  | n, .dic, _ => by simp only [D.py, PyData.depth]; exact Nat.zero_le _
  | n, .exc x, _ => by simp only [D.py, PyData.depth]; exact Nat.zero_le _
  | n, .fn x, _ => by simp only [D.py, PyData.depth]; exact Nat.zero_le _
  | n, .ptr x, _ => by simp only [D.py, PyData.depth]; exact Nat.zero_le _
  | 0, .tup xs, h => by cases h
  | 0, .lst xs, h => by cases h
  | n + 1, .tup xs, h => by
    simp only [D.py, PyData.depth]
    exact Nat.succ_le_succ (pys_depth fun d hd => py_depth (List.all_eq_true.mp h d hd))
  | n + 1, .lst xs, h => by
    simp only [D.py, PyData.depth]
    exact Nat.succ_le_succ (pys_depth fun d hd => py_depth (List.all_eq_true.mp h d hd))
/-- repr's word -/
def D.rep (d : D) : Str := d.py.shown
/-- repr tells it -/
def D.sho (d : D) : Prop := d.q 8 = true ∧ d.py.showable = true ∧ d.py.shown.length ≤ sizeLine
section
variable {X : Cx} {C : Cn}
end
end RR

/-! RR2: when repr tells data -/
namespace RR
open PySem PySem.Spec PyProof.Rows L2
theorem q_up : ∀ {n : Nat} {d : D}, d.q n = true → d.q (n + 1) = true
  | n, .non, _ => by cases n <;> rfl
  | n, .bl b, _ => by cases n <;> rfl
  | n, .int i, _ => by cases n <;> rfl
  | n, .str x, h => by cases n <;> exact h
  | n, .hnd x, h => by cases n <;> cases h
  | n, .dic, h => by cases n <;> cases h
  | n, .exc x, h => by cases n <;> cases h
  | n, .fn x, h => by cases n <;> cases h
  | n, .ptr x, h => by cases n <;> cases h
  | 0, .tup xs, h => by cases h
  | 0, .lst xs, h => by cases h
  | n + 1, .tup xs, h => List.all_eq_true.mpr fun d hd => q_up (List.all_eq_true.mp h d hd)
  | n + 1, .lst xs, h => List.all_eq_true.mpr fun d hd => q_up (List.all_eq_true.mp h d hd)
theorem q_le {n k : Nat} {d : D} (h : d.q n = true) (l : n ≤ k) : d.q k = true := by
  induction l with
  | refl => exact h
  | step _ ih => exact q_up ih
/-- at most k deep, shown by at most c signs -/
structure Sh (k c : Nat) (d : D) : Prop where
  q : d.q k = true
  s : d.py.showable = true
  l : d.py.shown.length ≤ c
theorem Sh.le {k k' c c' : Nat} {d : D} (h : Sh k c d) (hk : k ≤ k') (hc : c ≤ c') : Sh k' c' d := ⟨q_le h.q hk, h.s, Nat.le_trans h.l hc⟩
theorem Sh.sho {k c : Nat} {d : D} (h : Sh k c d) (hk : k ≤ 8 := by decide) (hc : c ≤ 16777216 := by decide) : d.sho := ⟨q_le h.q hk, h.s, small_line (Nat.le_trans h.l hc)⟩
theorem log_of_bd {n : Nat} {i : Int} (h : bd n i) (hn : 0 < n) : i.natAbs.log2 < n := by
  by_cases z : i.natAbs = 0
  · rw [z]
    exact Nat.lt_of_le_of_lt (Nat.le_of_eq (by decide : Nat.log2 0 = 0)) hn
  · exact (Nat.log2_lt z).mpr h
theorem pys_piled {c : Nat} {ds : List D} (h : ∀ d ∈ ds, d.py.shown.length ≤ c) : piled (PyData.shownAll (D.pys ds)) ≤ ds.length * (c + 2) := by
  induction ds with
  | nil => simp only [D.pys, PyData.shownAll]; exact Nat.zero_le _
  | cons d ds ih =>
    simp only [D.pys, PyData.shownAll]
    rw [piled_cons, List.length_cons, Nat.succ_mul]
    have h1 := h d List.mem_cons_self
    have h2 := ih fun e he => h e (List.mem_cons_of_mem _ he)
    omega
end RR

/-! RT: try: .. except X as n: y = n, the error held as data -/
namespace RR
open PySem PySem.Spec PyProof.Rows L2
section
variable {X : Cx} {pins : List (Addr × Obj)} {σ : L2.St} {H : Hp} {s : Shared}
/-- an object that is newer than the def's entry is told from now on -/
theorem Inv.told {a : Addr} {o : HO} (I : Inv X pins σ H s) (h0 : X.s_0.heap.get? a = none) (hn : H a = none) (nL : a ≠ X.env.locals) (nC : ∀ x c, X.env.cells.lookup x = some c → c ≠ a) (nP : ∀ p ∈ X.pn ++ pins, p.1 ≠ a)
    (new : ObjOk X.prog X.w (upd H a o) s.heap a o) : Inv X pins σ (upd H a o) s := by
  have ne0 : ∀ {b u}, X.s_0.heap.get? b = some u → b ≠ a := fun e z => by rw [z, h0] at e; cases e
  have neH : ∀ {b u}, H b = some u → b ≠ a := fun e => ne_of_none e hn
  refine ⟨I.ok, I.os, I.bare, ⟨I.base.keep, I.base.slot, fun b u e n hx => ?_, I.base.there, fun b xs e => ?_, fun b u v e => ?_, fun b ps e => ?_⟩, I.loc, I.cell, ?_, fun x c e => ?_, fun p hp => ?_, fun b u e => ?_, I.len⟩
  · rw [upd_ne (ne0 e)]; exact I.base.free b u e n hx
  · have q := I.base.tups b xs e
    rw [upd_ne (neH q)]; exact q
  · have q := I.base.frzs b u v e
    rw [upd_ne (neH q)]; exact q
  · obtain ⟨m, q⟩ := I.base.tbls b ps e
    exact ⟨m, by rw [upd_ne (neH q)]; exact q⟩
  · rw [upd_ne nL.symm]; exact I.free
  · rw [upd_ne (nC x c e)]; exact I.freeC x c e
  · obtain ⟨e1, e2, e3⟩ := I.pin p hp
    exact ⟨e1, by rw [upd_ne (nP p hp)]; exact e2, e3⟩
  · by_cases hb : b = a
    · subst hb
      rw [upd_same] at e; cases e
      exact new
    · rw [upd_ne hb] at e
      exact (I.hok b u e).stay (fun c v _ q => q) (fun c q => by rw [upd_ne (neH q)]; exact q) fun c xs q => by rw [upd_ne (neH q)]; exact q
end
section
variable {X : Cx} {x n y : Str} {c : Value} {i j : Nat} {body : List Stmt} {np n2 yp ap pos pos' : Pos} {tb : WX → TS} {Wout : WX}
end
end RR

/-! R3: further rules over data: calls of none, {}, is of truths, all, any, in, join, items looked at, lists of lists summed, try, isinstance of errors -/
namespace RR
open PySem PySem.Spec PyProof.Rows L2
section
variable {X : Cx} {C : Cn} {e a b : Expr} {es : List Expr} {pos : Pos} {ta tb : DT C.W.M}
/-! ### a call without arguments -/
/-! ### {} -/
/-! ### is, is not of truths -/
def gIsB : G2 := fun x y Q => match x, y with | .bl i, .bl j => Q (.bl (decide (i = j))) | _, _ => False
def gNotB : G2 := fun x y Q => match x, y with | .bl i, .bl j => Q (.bl (!decide (i = j))) | _, _ => False
/-! ### all, any of a list of truths -/
theorem DnA.bls {s : Bool} {K : PySem.W.Frag} {F : List Addr} {G : Hp} : ∀ {vs : List V} {bs : List Bool}, DnA s K F G vs (bs.map D.bl) → vs = bs.map V.bl
  | _, [], h => by cases h; rfl
  | _, b :: bs, h => by
    have h : DnA s K F G _ (.bl b :: bs.map D.bl) := h
    cases h with
    | cons x y => cases x; rw [DnA.bls y, List.map_cons]
def gAll : List D → (D → Prop) → Prop
  | [.lst ds], Q => ∃ bs : List Bool, ds = bs.map D.bl ∧ Q (.bl (bs.all id))
  | _, _ => False
theorem ca_all (hc : X.calm = true) : CaOk X C .w (.builtin "all") gAll := by
  refine ⟨_, cr_all hc, fun σ H Pr F ρ m vs ds Q R S dv q k => ?_⟩
  have dv : DnA false X.K F (wv F H) vs ds := dv
  unfold gAll at q
  split at q
  · obtain ⟨bs, rfl, q⟩ := q
    cases dv with
    | cons h r =>
      cases r
      obtain ⟨a, us, rfl, hs, hl, hr⟩ := h.sqL (fun _ _ => wv_le)
      rw [hr.bls] at hs
      exact ⟨a, bs, rfl, hs, k _ _ (post_here S (.bl _) (fun _ h => nomatch h) q)⟩
  · exact q.elim
/-! ### x in a list -/
def gNin : G2 := fun x y Q => match y with
  | .lst ds => x.q 8 = true ∧ (D.lst ds).q 8 = true ∧ Q (.bl (!ds.any fun z => z.eqv x))
  | _ => False
theorem any_py {x : D} (hx : x.q 8 = true) : ∀ {ds : List D}, (∀ d ∈ ds, d.q 8 = true) → ((D.pys ds).any fun z => PyData.eqv z x.py) = ds.any fun z => z.eqv x
  | [], _ => by simp only [D.pys, List.any_nil]
  | d :: ds, h => by
    simp only [D.pys, List.any_cons]
    rw [py_eqv (h d List.mem_cons_self) hx, any_py hx fun y hy => h y (List.mem_cons_of_mem _ hy)]
theorem ok_nin (hu : X.A.units + 65 < cLine) : OpOk X C (compareOp .NotIn) gNin := by
  refine ⟨_, op_notInD hu, fun σ H Pr F ρ m x y dx dy Q R S hx hy q k => ?_⟩
  unfold gNin at q
  split at q
  · rename_i ds
    obtain ⟨q1, q2, q⟩ := q
    have h2 : ∀ d ∈ ds, d.q 8 = true := fun d hd => q_up (List.all_eq_true.mp q2 d hd)
    refine ⟨_, _, hx.dp (fun _ _ => wv_le) q1, hy.dp (fun _ _ => wv_le) q2, shaped_q q1, shaped_q q2, k _ _ (post_here S (.bl _) (fun _ h => nomatch h) ?_)⟩
    rw [any_py q1 h2]
    exact q
  · exact q.elim
/-! ### methods of texts -/
/-! ### items only looked at -/
theorem j_ixww (ha : J .w X C a ta) (hb : J .w X C b tb) (hs : PlainIx b := by exact fun _ _ => rfl) : J .w X C (.Subscript a b pos) (dBin (gIx false) ta tb) := by
  obtain ⟨te, p, q1⟩ := ha
  obtain ⟨te', p', q2⟩ := hb
  refine ⟨_, pe_ix ix_seq p p' hs, fun σ H Pr F ρ m Q Z R S E h k => ?_⟩
  refine q1 σ H Pr F ρ m _ Z _ S E h fun v H1 ⟨P1, F1, m1, d, S1, t1, dv, z⟩ => ?_
  refine q2 σ H1 P1 F1 ρ m1 _ Z _ S1 (E.te t1.toTr) z fun w H2 ⟨P2, F2, m2, d2, S2, t2, dv2, z2⟩ => ?_
  have dv2 : Dn false X.K F2 (wv F2 H2) w d2 := dv2
  have hw : ∀ i, d2 = .int i → w = .int i := fun i e => by rw [e] at dv2; exact dv2.toInt
  exact ix_core (fun _ _ => wv_le) (Dn.te t2 dv) (.inr hw) hw z2 fun v' d' h n q => k _ _ ⟨P2, F2, m2, d', S2, t1.trans t2, h, q⟩
/-! ### lists with lists within, summed -/
/-! ### isinstance of an error that is held -/
def dIsE {M : Type} (bs : List (Str × Bool)) (t : DT M) : DT M := fun ρ m Q Z => t ρ m (fun d m1 => match d with | .exc x => (match bs.lookup x with | some b => Q (.bl b) m1 | none => False) | _ => False) Z
/-! ### try: .. except T as n: y = n -/
variable {t u : DS C.W.M} {body els : List Stmt}
def dTry {M : Type} (xs : List Str) (i j : Nat) (t : DS M) : DS M := fun E ρ m => t ⟨E.nx, fun _ _ => False, fun _ _ => False, fun _ _ => False, fun x m' => x ∈ xs ∧ E.nx (((ρ.set i .un).set j (.val (.exc x))).set i .un) m'⟩ ρ m
end
end RR
namespace RR
open PySem PySem.Spec PyProof.Rows L2
section
variable {K : PySem.W.Frag} {mg : Str → Option Value} {T x : Str}
end
theorem RoomG.u65 {k : Nat} {A : Around} (r : RoomG k A) : A.units + 65 < cLine := by have := r.un; omega
end RR
namespace RR
open PySem PySem.Spec PyProof.Rows L2
section
variable {X : Cx} {C : Cn} {pos : Pos}
/-- a, b, c = x, y, z, the names plain locals -/
def dPar3 {M : Type} (i j l : Nat) (t : DTA M) : DS M := fun E ρ m => t ρ m (fun ds m' => match ds with | [x, y, z] => E.nx (((ρ.set i (.val x)).set j (.val y)).set l (.val z)) m' | _ => False) E.ex
end
end RR

/-! RN: defs held as data, called by a local name -/
namespace RR
open PySem PySem.Spec PyProof.Rows L2
section
variable {X : Cx} {C : Cn} {e : Expr} {es : List Expr} {pos : Pos} {k : Nat}
end
end RR

/-! RU: x[::-1] of lists and tuples -/
namespace RR
open PySem PySem.Spec PyProof.Rows L2 HT
section
variable {prog : Program} {w : World} {A : Around} {E : Value → Shared → Prop} {s : Shared}
theorem adjust_rev (n : Nat) : Builtin.Slice.sliceAdjust none none (-1) (n : Int) = ((n : Int) - 1, -1) := by
  unfold Builtin.Slice.sliceAdjust
  have h1 : ((-1 : Int) < 0) := by decide
  simp only [h1, if_true]
theorem places_rev (n : Nat) : Builtin.Slice.slicePlaces ((n : Int) - 1) (-1) (-1) = n := by
  unfold Builtin.Slice.slicePlaces
  have h1 : ¬ ((-1 : Int) > 0) := by decide
  have h2 : (- (-1) : Int) = 1 := by decide
  simp only [h1, if_false, h2, Int.ediv_one]
  split <;> omega
theorem pick_rev (xs : Array Value) : ((List.range xs.size).filterMap fun (m : Nat) => xs[(((xs.size : Int) - 1) + (m : Int) * (-1)).toNat]?).toArray = xs.toList.reverse.toArray := by
  have e : (List.range xs.size).map (fun (m : Nat) => (((xs.size : Int) - 1) + (m : Int) * (-1)).toNat) = (List.range xs.size).map fun k => xs.size - 1 - k := by
    refine List.map_congr_left fun k hk => ?_
    have := List.mem_range.mp hk
    omega
  have : (List.range xs.size).filterMap (fun (m : Nat) => xs[(((xs.size : Int) - 1) + (m : Int) * (-1)).toNat]?) = ((List.range xs.size).map (fun (m : Nat) => (((xs.size : Int) - 1) + (m : Int) * (-1)).toNat)).filterMap (xs[·]?) := by
    rw [List.filterMap_map]; rfl
  rw [this, e, PySem.W.krv_range, List.filterMap_reverse, PySem.W.krv_all]
theorem sliceApplied_rev {sl : Addr} {vl vu vs : Value} {n : Nat} {Q : Int × Int × Nat → Shared → Prop} (hs : s.heap.IsSliceOf sl vl vu vs) (pl : IsPart vl none) (pu : IsPart vu none) (ps : IsPart vs (some (-1)))
    (h : Q ((n : Int) - 1, -1, n) s) : wpAny (model prog w) A (Builtin.Slice.sliceApplied (.ref sl) (pure (n : Int))) Q E s := by
  obtain ⟨os, hos, hcs, hds⟩ := id hs
  unfold Builtin.Slice.sliceApplied Builtin.Slice.sliceFields
  refine wpAny_bind (wpAny_bind (wpAny_field hos hds (x := vl) rfl (wpAny_bind (wpAny_field hos hds (x := vu) rfl (wpAny_bind (wpAny_field hos hds (x := vs) rfl (wpAny_pure ?_)))))))
  refine wpAny_bind (slicePart_ ps ?_)
  show wpAny _ _ (if ((-1 : Int) == 0) = true then _ else _) _ _ s
  rw [if_neg (by decide)]
  refine wpAny_bind (slicePart_ pl (wpAny_bind (slicePart_ pu (wpAny_bind (wpAny_pure ?_)))))
  show wpAny _ _ (match Builtin.Slice.sliceAdjust none none (-1) (n : Int) with | (lo, hi) => pure (lo, (-1 : Int), Builtin.Slice.slicePlaces lo hi (-1))) _ _ s
  rw [adjust_rev n]
  show wpAny _ _ (pure ((n : Int) - 1, (-1 : Int), Builtin.Slice.slicePlaces ((n : Int) - 1) (-1) (-1))) _ _ s
  rw [places_rev]
  exact wpAny_pure h
theorem getItem_tuple_rev {t sl : Addr} {items : Array Value} {vl vu vs : Value} {Q : Value → Shared → Prop} (ht : IsTup s.heap t items) (hs : s.heap.IsSliceOf sl vl vu vs) (pl : IsPart vl none) (pu : IsPart vu none) (ps : IsPart vs (some (-1)))
    (h : Q (.ref s.heap.objs.size) { s with heap := s.heap.push { cls := .type "tuple", data := .seq items.toList.reverse.toArray } })
    (hsz : items.size ≤ sizeLine) : wpAny (model prog w) A (getItem (.ref t) (.ref sl)) Q E s := by
  have htake : sizeOk (.seq items.toList.reverse.toArray) := by
    show items.toList.reverse.toArray.size ≤ sizeLine
    rw [List.size_toArray, List.length_reverse, Array.length_toList]
    omega
  obtain ⟨os, hos, hcs, hds⟩ := id hs
  have hTs : s.TypeIs (.ref sl) "slice" := ⟨os, hos, hcs⟩
  unfold getItem
  try with_reducible refine wpAny_holding ?_
  first | refine wpAny_bind (wpAny_pure ?_) | skip
  refine wpAny_bind (wpAny_sequenceKey ht.typeIs (by decide) ?_)
  refine wpAny_bind (wpAny_callSpecial?_slot (name := Str.ofString "__getitem__") ht.typeIs PyProof.Rows.slot_tuple_getitem
    (wpAny_call_entry PyProof.Rows.slot_tuple_getitem ht.typeIs entry_tuple_getitem ?_ (args_tuple_getitem _ _)))
  show wpAny _ _ (Builtin.Tuple.tupleItemsOf (.ref t) >>= _) _ _ s
  refine wpAny_bind (tupleItemsOf_ ht ?_)
  refine wpAny_bind (wpAny_typeOf hTs ?_)
  rw [if_pos (by decide)]
  refine wpAny_bind (sliceApplied_rev hs pl pu ps ?_)
  have hno : ¬ (((items.size : Int) - 1 == 0 && (-1 : Int) == 1 && items.size == items.size) = true) := by
    rw [show ((-1 : Int) == 1) = false by decide, Bool.and_false, Bool.false_and]
    exact Bool.false_ne_true
  show wpAny _ _ (if ((items.size : Int) - 1 == 0 && (-1 : Int) == 1 && items.size == items.size) = true then _ else _) _ _ s
  rw [if_neg hno, pick_rev]
  first
    | exact wpAny_bind (m := Builtin.Tuple.tupleExact _) (wpAny_newObj_type (wpAny_pure ⟨_, rfl, wpAny_pure h⟩) htake)
    | exact wpAny_bind (m := Builtin.Tuple.tupleExact _) (wpAny_newObj_type (wpAny_bind (wpAny_pure (wpAny_pure ⟨_, rfl, wpAny_pure h⟩))) htake)
    | exact wpAny_bind (wpAny_bind (m := Builtin.Tuple.tupleExact _) (wpAny_newObj_type (wpAny_pure (wpAny_pure ⟨_, rfl, wpAny_pure h⟩)) htake))
    | exact wpAny_bind (wpAny_bind (m := Builtin.Tuple.tupleExact _) (wpAny_newObj_type (wpAny_pure ⟨_, rfl, wpAny_pure h⟩) htake))
end
section
variable {X : Cx}
/-- x[::-1] -/
def tRevA (K : PySem.W.Frag) (te : TE) : TE := fun σ H Q => te σ H fun x H1 => (∃ a xs, x = .ref a ∧ SqL K H1 a xs ∧ ∀ p, H1 p = none → Q (.ref p) (upd H1 p (.lst xs.reverse))) ∨ (∃ a xs, x = .ref a ∧ SqT K H1 a xs ∧ ∀ p, H1 p = none → Q (.ref p) (upd H1 p (.tup xs.reverse)))
theorem pe_revA {e : Expr} {te : TE} {k : Nat} {p1 p2 p3 pos : Pos} (he : PE X e te) : PE X (.Subscript e (.Slice none none (some (.UnaryOp .USub (.Constant (.int 1) k p1) p2)) p3) pos) (tRevA X.K te) := by
  refine ⟨fun pins s σ H Q I h => ?_⟩
  refine Subscript_ (thn (he.run pins s σ H _ I h) fun v s1 ⟨x, H1, I1, r1, q1⟩ => ?_)
  have hst : PO X (some (.UnaryOp .USub (.Constant (.int 1) k p1) p2)) (tPart (tUn (rU fun i => .int (-i)) (tC (.int 1)))) := po_some (pe_un un_neg pe_int)
  refine wpAny_Slice (thn (po_none.run pins s1 σ H1 (fun o H2 => o = none ∧ H2 = H1) I1 ⟨rfl, rfl⟩) fun vl s2 ⟨l, H2, I2, pl, el, e2⟩ => ?_)
  subst el e2
  refine thn (po_none.run pins s2 σ H2 (fun o H3 => o = none ∧ H3 = H2) I2 ⟨rfl, rfl⟩) fun vu s3 ⟨u, H3, I3, pu, eu, e3⟩ => ?_
  subst eu e3
  refine thn (hst.run pins s3 σ H3 (fun o H4 => o = some (-1) ∧ H4 = H3) I3 ⟨1, rfl, -1, rfl, rfl, rfl⟩) fun vs s4 ⟨o, H4, I4, ps, eo, e4⟩ => ?_
  subst eo e4
  have I5 : Inv X pins σ H4 { s4 with heap := s4.heap.push { cls := .type "slice", data := .fields #[vl, vu, vs] } } := I4.kept (t' := s4.toks) fun b ob q => Heap.get?_push_of_some _ q
  rcases q1 with ⟨a, xs, ex, hx, q⟩ | ⟨a, xs, ex, hx, q⟩
  · subst ex
    cases r1
    obtain ⟨its, r, ht, hz⟩ := I5.list hx
    have hlen := r.length
    show wpAny (model X.prog X.w) X.A (subscriptTail e (.Slice none none (some (.UnaryOp .USub (.Constant (.int 1) k p1) p2)) p3) (.ref a) (.ref s4.heap.objs.size)) (EP X pins σ Q) X.xe { s4 with heap := s4.heap.push { cls := .type "slice", data := .fields #[vl, vu, vs] } }
    refine tail_any (ops := [.ref a, .ref s4.heap.objs.size]) ht.isList.typeIs (PySem.slot_list_getitem.lookup) ?_ (by with_unfolding_all rfl)
    refine wpAny_getItem_list_slice ht.isList (Heap.IsSliceOf.new _ vl vu vs) pl pu ps (by decide) ?_ (by rw [List.size_toArray]; omega)
    rw [PySem.W.krv_pick]
    refine ⟨.ref _, _, I5.laid (t' := s4.toks) (o := .lst xs.reverse) (fun b ob q => Heap.get?_push_of_some _ q) (Nat.le_refl _) ?_, rfl, q _ (I5.hok.fresh (Nat.le_refl _))⟩
    exact ⟨by rw [List.length_reverse]; exact hz, _, 0, r.reverse, Heap.get?_push_size _ rfl⟩
  · subst ex
    cases r1
    obtain ⟨its, r, ht, hz⟩ := I5.tuple hx
    have hlen := r.length
    show wpAny (model X.prog X.w) X.A (subscriptTail e (.Slice none none (some (.UnaryOp .USub (.Constant (.int 1) k p1) p2)) p3) (.ref a) (.ref s4.heap.objs.size)) (EP X pins σ Q) X.xe { s4 with heap := s4.heap.push { cls := .type "slice", data := .fields #[vl, vu, vs] } }
    refine tail_any (ops := [.ref a, .ref s4.heap.objs.size]) ht.typeIs (PyProof.Rows.slot_tuple_getitem.lookup) ?_ (by with_unfolding_all rfl)
    refine getItem_tuple_rev ht (Heap.IsSliceOf.new _ vl vu vs) pl pu ps ?_ (by rw [List.size_toArray]; omega)
    refine ⟨.ref _, _, I5.laid (t' := s4.toks) (o := .tup xs.reverse) (fun b ob q => Heap.get?_push_of_some _ q) (Nat.le_refl _) ?_, rfl, q _ (I5.hok.fresh (Nat.le_refl _))⟩
    exact ⟨by rw [List.length_reverse]; exact hz, _, r.reverse, IsTup.new _ _⟩
end
theorem dna_rev {s : Bool} {K : PySem.W.Frag} {F : List Addr} {G : Hp} : ∀ {vs : List V} {ds : List D} {vs' : List V} {ds' : List D}, DnA s K F G vs ds → DnA s K F G vs' ds' → DnA s K F G (vs.reverse ++ vs') (ds.reverse ++ ds')
  | _, _, _, _, .nil, h => h
  | _, _, _, _, .cons h r, h' => by
    rw [List.reverse_cons, List.reverse_cons, List.append_assoc, List.append_assoc]
    exact dna_rev r (.cons h h')
theorem nls_rev {ds : List D} (h : D.nls ds = true) : D.nls ds.reverse = true := nls_sub h fun d hd => List.mem_reverse.mp hd
section
variable {X : Cx} {C : Cn} {e : Expr}
def dRvs {M : Type} (t : DT M) : DT M := fun ρ m Q Z => t ρ m (fun x m1 => match x with
  | .lst ds => D.nls ds = true ∧ Q (.lst ds.reverse) m1
  | .tup ds => D.nls ds = true ∧ Q (.tup ds.reverse) m1
  | _ => False) Z
theorem j_rvs {t : DT C.W.M} {k : Nat} {p1 p2 p3 pos : Pos} (ha : J .w X C e t) : J .f X C (.Subscript e (.Slice none none (some (.UnaryOp .USub (.Constant (.int 1) k p1) p2)) p3) pos) (dRvs t) := by
  obtain ⟨te, p, q1⟩ := ha
  refine ⟨_, pe_revA p, fun σ H Pr F ρ m Q Z R S E h k => ?_⟩
  refine q1 σ H Pr F ρ m _ Z _ S E h fun v H1 ⟨P1, F1, m1, d, S1, t1, dv, z⟩ => ?_
  try dsimp only at z
  split at z
  · obtain ⟨a, us, rfl, hs, hl, hd⟩ := dv.sqL (fun _ _ => wv_le)
    have hr := dna_rev hd .nil
    rw [List.append_nil, List.append_nil] at hr
    exact .inl ⟨a, us, rfl, hs, fun p hp => k _ _ ((post_new S1 hp (hr |>.up (nls_rev z.1)) z.2).te t1)⟩
  · obtain ⟨a, us, rfl, hs, hl, hd⟩ := dv.sqT (fun _ _ => wv_le)
    have hr := dna_rev hd .nil
    rw [List.append_nil, List.append_nil] at hr
    exact .inr ⟨a, us, rfl, hs, fun p hp => k _ _ ((post_newT S1 hp (hr |>.up (nls_rev z.1)) z.2).te t1)⟩
  · exact z.elim
end
end RR

/-! RDi: {number: number, ..}.get(x, y); x.extend(list) -/
namespace RR
open PySem PySem.Spec PyProof.Rows L2
section
variable {X : Cx} {C : Cn} {e f : Expr} {pos : Pos}
end
section
variable {M : Type} {ρ : En} {m : M} {Q : D → M → Prop} {Z : Str → M → Prop} {nx : En → M → Prop} {rt : D → M → Prop} {bk ct : En → M → Prop} {ex : Str → M → Prop} {ds es : List D}
end
end RR

/-! RZm: zip of a list and a tuple -/
namespace RR.ZM
open PySem PySem.Spec PyProof.Rows L2 RZ
section
variable {prog : Program} {w : World} {A : Around} {E : Value → Shared → Prop} {s : Shared} {z TI TO i1 i2 l1 l2 : Addr} {k1 k2 : Nat} {xs ys : Array Value} {x y a b : Value}
/-- what stands of the walk -/
structure Wk2 (h : Heap) (z TI TO i1 i2 l1 l2 : Addr) (k1 k2 : Nat) (xs ys : Array Value) (a b : Value) : Prop where
  z0 : IsZip h z TI TO .none
  ti : IsPair h TI (.ref i1) (.ref i2)
  tg : IsPair h TO a b
  j1 : h.IsListIter i1 l1 k1
  j2 : h.IsTupleIter i2 l2 k2
  s1 : h.IsList l1 xs
  s2 : h.IsTuple l2 ys
/-- all but the four stay -/
def Stay (h h' : Heap) (z TO i1 i2 : Addr) : Prop := ∀ c o, c ≠ z → c ≠ TO → c ≠ i1 → c ≠ i2 → h.get? c = some o → h'.get? c = some o
theorem one_item {Q : Value → Shared → Prop} (D : ZipApart z TI TO i1 i2 l1 l2) (S : Wk2 s.heap z TI TO i1 i2 l1 l2 k1 k2 xs ys a b) (hx : xs[k1]? = some x) (hy : ys[k2]? = some y)
    (q : ∀ h', IsZip h' z TI TO (rawInt s.heap.objs.size) → IsPair h' TO x y → h'.IsListIter i1 l1 (k1 + 1) → h'.IsTupleIter i2 l2 (k2 + 1) → IsPair h' s.heap.objs.size x y → h'.objs.size = s.heap.objs.size + 1 → Stay s.heap h' z TO i1 i2 → Q (.ref s.heap.objs.size) { s with heap := h' }) :
    wpAny (model prog w) A (Builtin.«zip.__next__» ⟨[.ref z], []⟩) (fun r s' => ∃ v, r = .done (.ret v) ∧ Q v s') E s := by
  obtain ⟨z0, ti, tg, j1, j2, t1, t2⟩ := S
  (show wpAny _ _ (field (.ref _) 2 >>= _) _ _ _; refine wpAny_bind (wpAny_field z0 rfl (x := (.bool false)) rfl ?_))
  (show wpAny _ _ (field (.ref _) 3 >>= _) _ _ _; refine wpAny_bind (wpAny_field z0 rfl (x := (.ref TI)) rfl ?_))
  refine wpAny_bind (wpAny_seqItems ti rfl ?_)
  (show wpAny _ _ (Builtin.SmallTypes.ownedTupleIsFree (.ref z) >>= _) _ _ _); refine wpAny_bind ?_; unfold Builtin.SmallTypes.ownedTupleIsFree
  refine wpAny_bind (wpAny_field z0 rfl (x := .none) rfl (wpAny_pure ?_)); simp only [if_true]; refine wpAny_bind (wpAny_rule ?_); refine wpAny_bind (wpAny_field z0 rfl (x := .ref TO) rfl ?_)
  refine wpAny_bind (wpAny_setField_rec z0 (by simp) fun ha za ea => ?_); replace za : IsZip ha z TI TO .ellipsis := za
  refine wpAny_bind ?_; simp only [List.zipIdx_cons, List.zipIdx_nil, List.forIn_cons, List.forIn_nil]
  refine wpAny_bind (wpAny_bind (wpAny_onRaise ?_)); show wpAny _ _ (Builtin.SmallTypes.nextOf (.ref i1) >>= _) _ _ _
  refine wpAny_bind (wpAny_nextOf_list_item (j1.extBut ea.extBut D.i1z) (t1.extBut ea.extBut D.l1z) hx fun hb jb eb => wpAny_pure ?_)
  have pb : IsPair hb TO a b := eb.extBut _ _ D.TOi1 (ea.extBut _ _ D.TOz tg)
  refine wpAny_bind (wpAny_seqItems pb rfl ?_); refine wpAny_bind (wpAny_updateSeq_pair pb fun hc pc ec => ?_); replace pc : IsPair hc TO x b := pc
  refine wpAny_bind (wpAny_letGo (wpAny_pure ?_)); refine wpAny_bind (wpAny_bind (wpAny_onRaise ?_)); show wpAny _ _ (Builtin.SmallTypes.nextOf (.ref i2) >>= _) _ _ _
  have j2c : hc.IsTupleIter i2 l2 k2 := ((j2.extBut ea.extBut D.i2z).extBut eb.extBut D.i12.symm).extBut ec.extBut D.TOi2.symm
  have t2c : hc.IsTuple l2 ys := ((t2.extBut ea.extBut D.l2z).extBut eb.extBut D.l2i1).extBut ec.extBut D.l2TO
  refine wpAny_bind (nextOf_tuple_item j2c t2c hy fun hd jd ed => wpAny_pure ?_)
  have pd : IsPair hd TO x b := ed.extBut _ _ D.TOi2 pc
  refine wpAny_bind (wpAny_seqItems pd rfl ?_); refine wpAny_bind (wpAny_updateSeq_pair pd fun he pe ee => ?_); replace pe : IsPair he TO x y := pe
  refine wpAny_bind (wpAny_letGo (wpAny_pure (wpAny_pure ?_))); refine wpAny_bind (wpAny_seqItems pe rfl ?_); refine wpAny_bind (wpAny_newTuple ?_)
  have sz : he.objs.size = s.heap.objs.size := by rw [ee.1, ed.1, ec.1, eb.1, ea.1]
  have ze : IsZip he z TI TO .ellipsis := ee.extBut _ _ D.TOz.symm (ed.extBut _ _ D.i2z.symm (ec.extBut _ _ D.TOz.symm (eb.extBut _ _ D.i1z.symm za)))
  have st : Stay s.heap he z TO i1 i2 := fun c o c1 c2 c3 c4 e => ee.extBut _ _ c2 (ed.extBut _ _ c4 (ec.extBut _ _ c2 (eb.extBut _ _ c3 (ea.extBut _ _ c1 e))))
  have f1 : he.IsListIter i1 l1 (k1 + 1) := ((jb.extBut ec.extBut D.TOi1.symm).extBut ed.extBut D.i12).extBut ee.extBut D.TOi1.symm
  have f2 : he.IsTupleIter i2 l2 (k2 + 1) := jd.extBut ee.extBut D.TOi2.symm
  have zl : z < he.objs.size := Heap.lt_size ze
  (show wpAny _ _ (Builtin.SmallTypes.ownedTupleHandOut (.ref z) (.ref he.objs.size) >>= _) _ _ _); refine wpAny_bind ?_; unfold Builtin.SmallTypes.ownedTupleHandOut
  have zf : IsZip (he.push { cls := .type "tuple", data := .seq #[x, y] }) z TI TO .ellipsis := Heap.get?_push_of_some _ ze
  refine wpAny_bind (wpAny_setField_rec zf (by simp) fun hg zg eg => ?_); replace zg : IsZip hg z TI TO (rawInt he.objs.size) := zg
  refine wpAny_setField_rec zg (by simp) fun hi zi ei => ?_; replace zi : IsZip hi z TI TO (rawInt he.objs.size) := zi
  have go : ∀ c o, c ≠ z → he.get? c = some o → hi.get? c = some o := fun c o c1 e => ei.extBut _ _ c1 (eg.extBut _ _ c1 (Heap.get?_push_of_some _ e))
  have np : IsPair hi he.objs.size x y := ei.extBut _ _ (Nat.ne_of_gt zl) (eg.extBut _ _ (Nat.ne_of_gt zl) (Heap.get?_push_size _ rfl))
  have ns : hi.objs.size = he.objs.size + 1 := by rw [ei.1, eg.1, Heap.size_push]
  rw [sz] at zi np ns
  refine wpAny_pure ⟨_, rfl, ?_⟩
  show Q (.ref he.objs.size) _
  rw [sz]
  exact q hi zi (go _ _ D.TOz pe) (f1.at fun o e => go _ o D.i1z e) (f2.at fun o e => go _ o D.i2z e) np ns fun c o c1 c2 c3 c4 e => go c o c1 (st c o c1 c2 c3 c4 e)
theorem one_end {Q : Fin → Shared → Prop} (hh : A.handled = none) (D : ZipApart z TI TO i1 i2 l1 l2) (S : Wk2 s.heap z TI TO i1 i2 l1 l2 k1 k2 xs ys a b) (en : xs[k1]? = none ∨ ys[k2]? = none)
    (q : ∀ h' e, Stay s.heap h' z TO i1 i2 → (∃ o, h'.get? e = some o ∧ o.cls = .type "StopIteration") → E (.ref e) { s with heap := h' }) :
    wpAny (model prog w) A (Builtin.«zip.__next__» ⟨[.ref z], []⟩) Q E s := by
  obtain ⟨z0, ti, tg, j1, j2, t1, t2⟩ := S
  (show wpAny _ _ (field (.ref _) 2 >>= _) _ _ _; refine wpAny_bind (wpAny_field z0 rfl (x := (.bool false)) rfl ?_))
  (show wpAny _ _ (field (.ref _) 3 >>= _) _ _ _; refine wpAny_bind (wpAny_field z0 rfl (x := (.ref TI)) rfl ?_))
  refine wpAny_bind (wpAny_seqItems ti rfl ?_)
  (show wpAny _ _ (Builtin.SmallTypes.ownedTupleIsFree (.ref z) >>= _) _ _ _); refine wpAny_bind ?_; unfold Builtin.SmallTypes.ownedTupleIsFree
  refine wpAny_bind (wpAny_field z0 rfl (x := .none) rfl (wpAny_pure ?_)); simp only [if_true]; refine wpAny_bind (wpAny_rule ?_); refine wpAny_bind (wpAny_field z0 rfl (x := .ref TO) rfl ?_)
  refine wpAny_bind (wpAny_setField_rec z0 (by simp) fun ha za ea => ?_); replace za : IsZip ha z TI TO .ellipsis := za
  refine wpAny_bind ?_; simp only [List.zipIdx_cons, List.zipIdx_nil, List.forIn_cons, List.forIn_nil]
  refine wpAny_bind (wpAny_bind (wpAny_onRaise ?_)); show wpAny _ _ (Builtin.SmallTypes.nextOf (.ref i1) >>= _) _ _ _
  cases hx : xs[k1]? with
  | none =>
    refine wpAny_bind (wpAny_nextOf_list_end hh (j1.extBut ea.extBut D.i1z) (t1.extBut ea.extBut D.l1z) hx fun hb e eb he => ?_)
    obtain ⟨oe, oh, oc⟩ := he
    have zb : IsZip hb z TI TO .ellipsis := eb _ _ D.i1z.symm za
    have ne : e ≠ z := fun t => by subst t; rw [zb] at oh; cases oh; simp at oc
    exact wpAny_setField_rec zb (by simp) fun hc _ ec => q hc e (fun c o c1 _ c3 _ t => ec.extBut _ _ c1 (eb _ _ c3 (ea.extBut _ _ c1 t))) ⟨oe, ec.extBut _ _ ne oh, oc⟩
  | some x =>
    have hy : ys[k2]? = none := en.resolve_left fun t => by rw [hx] at t; cases t
    refine wpAny_bind (wpAny_nextOf_list_item (j1.extBut ea.extBut D.i1z) (t1.extBut ea.extBut D.l1z) hx fun hb jb eb => wpAny_pure ?_)
    have pb : IsPair hb TO a b := eb.extBut _ _ D.TOi1 (ea.extBut _ _ D.TOz tg)
    refine wpAny_bind (wpAny_seqItems pb rfl ?_); refine wpAny_bind (wpAny_updateSeq_pair pb fun hc pc ec => ?_)
    refine wpAny_bind (wpAny_letGo (wpAny_pure ?_)); refine wpAny_bind (wpAny_bind (wpAny_onRaise ?_)); show wpAny _ _ (Builtin.SmallTypes.nextOf (.ref i2) >>= _) _ _ _
    have j2c : hc.IsTupleIter i2 l2 k2 := ((j2.extBut ea.extBut D.i2z).extBut eb.extBut D.i12.symm).extBut ec.extBut D.TOi2.symm
    have t2c : hc.IsTuple l2 ys := ((t2.extBut ea.extBut D.l2z).extBut eb.extBut D.l2i1).extBut ec.extBut D.l2TO
    refine wpAny_bind (nextOf_tuple_end hh j2c t2c hy fun hd e ed he => ?_)
    obtain ⟨oe, oh, oc⟩ := he
    have zd : IsZip hd z TI TO .ellipsis := ed _ _ D.i2z.symm (ec.extBut _ _ D.TOz.symm (eb.extBut _ _ D.i1z.symm za))
    have ne : e ≠ z := fun t => by subst t; rw [zd] at oh; cases oh; simp at oc
    exact wpAny_setField_rec zd (by simp) fun hg _ eg => q hg e (fun c o c1 c2 c3 c4 t => eg.extBut _ _ c1 (ed _ _ c4 (ec.extBut _ _ c2 (eb.extBut _ _ c3 (ea.extBut _ _ c1 t))))) ⟨oe, eg.extBut _ _ ne oh, oc⟩
theorem next_item {Q : Option Value → Shared → Prop} (D : ZipApart z TI TO i1 i2 l1 l2) (S : Wk2 s.heap z TI TO i1 i2 l1 l2 k1 k2 xs ys a b) (hx : xs[k1]? = some x) (hy : ys[k2]? = some y)
    (q : ∀ h', IsZip h' z TI TO (rawInt s.heap.objs.size) → IsPair h' TO x y → h'.IsListIter i1 l1 (k1 + 1) → h'.IsTupleIter i2 l2 (k2 + 1) → IsPair h' s.heap.objs.size x y → h'.objs.size = s.heap.objs.size + 1 → Stay s.heap h' z TO i1 i2 → Q (some (.ref s.heap.objs.size)) { s with heap := h' }) :
    wpAny (model prog w) A (pyNext (.ref z)) Q E s := by
  have ty : s.TypeIs (.ref z) "zip" := ⟨_, S.z0, rfl⟩
  unfold pyNext
  refine wpAny_bind (wpAny_attempt (wpAny_callSpecial?_slot (name := Str.ofString "__next__") ty F.slot_zip_next (wpAny_call_entry F.slot_zip_next ty F.entry_zip_next ?_ (F.args_zip_next_1 _))))
  exact one_item D S hx hy fun h' p1 p2 p3 p4 p5 p6 p7 => wpAny_pure (q h' p1 p2 p3 p4 p5 p6 p7)
theorem next_end {Q : Option Value → Shared → Prop} (hh : A.handled = none) (D : ZipApart z TI TO i1 i2 l1 l2) (S : Wk2 s.heap z TI TO i1 i2 l1 l2 k1 k2 xs ys a b) (en : xs[k1]? = none ∨ ys[k2]? = none)
    (q : ∀ h', Stay s.heap h' z TO i1 i2 → Q none { s with heap := h' }) : wpAny (model prog w) A (pyNext (.ref z)) Q E s := by
  have ty : s.TypeIs (.ref z) "zip" := ⟨_, S.z0, rfl⟩
  unfold pyNext
  refine wpAny_bind (wpAny_attempt (wpAny_callSpecial?_slot (name := Str.ofString "__next__") ty F.slot_zip_next (wpAny_call_entry F.slot_zip_next ty F.entry_zip_next ?_ (F.args_zip_next_1 _))))
  refine one_end hh D S en fun h' e st oe => ?_
  obtain ⟨o, oh, oc⟩ := oe
  refine wpAny_bind (wpAny_isInstance (T := "StopIteration") (b := true) ⟨o, oh, oc⟩ isSubtype_stop ?_)
  exact wpAny_pure (q _ st)
end
abbrev y1 (h : Heap) (l1 : Addr) : Heap := h.push { cls := .type "list_iterator", data := .fields #[.ref l1, .int 0 0] }
abbrev y2 (h : Heap) (l1 l2 : Addr) : Heap := (y1 h l1).push { cls := .type "tuple_iterator", data := .fields #[.ref l2, .int 0 0] }
abbrev y3 (h : Heap) (l1 l2 : Addr) : Heap := (y2 h l1 l2).push { cls := .type "tuple", data := .seq #[.ref h.objs.size, .ref (y1 h l1).objs.size] }
abbrev y4 (h : Heap) (l1 l2 : Addr) : Heap := (y3 h l1 l2).push { cls := .type "tuple", data := .seq #[.none, .none] }
section
variable {prog : Program} {w : World} {A : Around} {E : Value → Shared → Prop} {s : Shared}
end
/-- the items in new pairs -/
def ItM (K : PySem.W.Frag) (a b : Addr) : It :=
  ⟨fun i H => ∃ (us vs : List V) (u v : V), (SqL K H a us ∧ SqT K H b vs) ∧ us[i]? = some u ∧ vs[i]? = some v,
    fun i H p H' => ∃ T u v, p = .ref T ∧ H T = none ∧ H' = upd H T (.tup [u, v]) ∧ (∀ us, SqL K H a us → us[i]? = some u) ∧ ∀ vs, SqT K H b vs → vs[i]? = some v,
    fun i H => ∃ us vs : List V, (SqL K H a us ∧ SqT K H b vs) ∧ (us.length ≤ i ∨ vs.length ≤ i)⟩
abbrev five (z TI TO i1 i2 : Addr) : List Addr := [z, TI, TO, i1, i2]
theorem five_mem {z TI TO i1 i2 c : Addr} (h : c ∈ five z TI TO i1 i2) : c = z ∨ c = TI ∨ c = TO ∨ c = i1 ∨ c = i2 := by simpa using h
/-- how the walk stands, whatever the pair holds -/
def Now (a b z TI TO i1 i2 : Addr) (i : Nat) (h : Heap) : Prop := IsZip h z TI TO .none ∧ IsPair h TI (.ref i1) (.ref i2) ∧ (∃ x y, IsPair h TO x y) ∧ h.IsListIter i1 a i ∧ h.IsTupleIter i2 b i
theorem Now.lt {a b z TI TO i1 i2 : Addr} {i : Nat} {h : Heap} (n : Now a b z TI TO i1 i2 i h) {c : Addr} (hc : c ∈ five z TI TO i1 i2) : c < h.objs.size := by
  obtain ⟨p1, p2, ⟨_, _, p3⟩, ⟨_, p4, _⟩, ⟨_, p5, _⟩⟩ := n
  rcases five_mem hc with rfl | rfl | rfl | rfl | rfl
  · exact Heap.lt_size p1
  · exact Heap.lt_size p2
  · exact Heap.lt_size p3
  · exact Heap.lt_size p4
  · exact Heap.lt_size p5
theorem turn {P : Program} {w : World} {K : PySem.W.Frag} {elts : List Expr} {kk : Nat} {tpos : Pos} {a b z TI TO i1 i2 : Addr} (D : ZipApart z TI TO i1 i2 a b) : Turn P w K (.Tuple elts kk tpos) (ItM K a b) (five z TI TO i1 i2) z (Now a b z TI TO i1 i2) where
  mem := by simp
  obj := fun i h n c hc => by
    obtain ⟨p1, p2, ⟨_, _, p3⟩, ⟨o1, p4, _, d1⟩, ⟨o2, p5, _, d2⟩⟩ := n
    rcases five_mem hc with rfl | rfl | rfl | rfl | rfl
    · exact ⟨_, p1, fun v t => nomatch t⟩
    · exact ⟨_, p2, fun v t => nomatch t⟩
    · exact ⟨_, p3, fun v t => nomatch t⟩
    · exact ⟨o1, p4, fun v t => by rw [d1] at t; cases t⟩
    · exact ⟨o2, p5, fun v t => by rw [d2] at t; cases t⟩
  keep := fun i h h' n k => by
    obtain ⟨p1, p2, ⟨u, v, p3⟩, p4, p5⟩ := n
    exact ⟨k z (by simp) _ p1, k TI (by simp) _ p2, ⟨u, v, k TO (by simp) _ p3⟩, p4.at fun o t => k i1 (by simp) o t, p5.at fun o t => k i2 (by simp) o t⟩
  item := by
    intro X hP hw hK hc i pins s σ H E I hf n hg
    subst hP hw hK
    have lt := @Now.lt _ _ _ _ _ _ _ _ _ n
    obtain ⟨p1, p2, ⟨u0, v0, p3⟩, p4, p5⟩ := n
    obtain ⟨us, vs, u, v, ⟨hu, hv⟩, eu, ev⟩ := hg
    obtain ⟨its, ru, lu, _⟩ := I.list hu
    obtain ⟨jts, rv, lv, _⟩ := I.tuple hv
    obtain ⟨m, mu, ru'⟩ := ru.get eu
    obtain ⟨m2, mv, rv'⟩ := rv.get ev
    have zl := lt (c := z) (by simp)
    refine next_item D ⟨p1, p2, p3, p4, p5, lu.isList, lv⟩ (x := m) (y := m2) (by simpa using mu) (by simpa using mv) fun h' g1 g2 g3 g4 g5 _ st => ?_
    refine ⟨_, rfl, wpAny_letOwnedTupleGo_zip (s := { s with heap := h' }) g1 fun h2 g6 sb => ?_⟩
    have nt : h2.get? s.heap.objs.size = some { cls := .type "tuple", data := .seq #[m, m2] } := (sb.2 _ (Nat.ne_of_gt zl)).trans g5
    have ok : ObjOk X.prog X.w (upd H s.heap.objs.size (.tup [u, v])) h2 s.heap.objs.size (.tup [u, v]) := ⟨by show 2 ≤ sizeLine; decide, [m, m2], .cons ru' (.cons rv' .nil), ⟨_, nt, rfl, _, rfl⟩⟩
    have I1 : Inv X pins σ (upd H s.heap.objs.size (.tup [u, v])) { s with heap := h2 } := I.turnedNew (t' := s.toks) (ch := five z TI TO i1 i2) (fun c o hb t => by
      have nz : c ≠ z := fun e => hb (by simp [e])
      exact (sb.2 c nz).trans (st c o nz (fun e => hb (by simp [e])) (fun e => hb (by simp [e])) (fun e => hb (by simp [e])) t)) hf (Nat.le_refl _) ok
    refine ⟨.ref s.heap.objs.size, _, I1, rfl, ⟨_, u, v, rfl, I.hok.fresh (Nat.le_refl _), rfl, fun l hl => by rw [I.list_inj hl hu]; exact eu, fun l hl => by rw [I.tuple_inj hl hv]; exact ev⟩, ⟨g6, (sb.2 _ D.TIz).trans (st _ _ D.TIz D.TITO D.TIi1 D.TIi2 p2), ⟨m, m2, (sb.2 _ D.TOz).trans g2⟩, g3.at fun o t => (sb.2 _ D.i1z).trans t, g4.at fun o t => (sb.2 _ D.i2z).trans t⟩, fun c hcm => ?_⟩
    rw [upd_ne (Nat.ne_of_lt (lt hcm))]
    exact (hf c hcm).1
  done := by
    intro X hP hw hK hc i pins s σ H E I hf n hg
    subst hP hw hK
    obtain ⟨p1, p2, ⟨u0, v0, p3⟩, p4, p5⟩ := n
    obtain ⟨us, vs, ⟨hu, hv⟩, en⟩ := hg
    obtain ⟨its, ru, lu, _⟩ := I.list hu
    obtain ⟨jts, rv, lv, _⟩ := I.tuple hv
    have n1 := ru.length
    have n2 := rv.length
    refine next_end (I.ok.hd hc) D ⟨p1, p2, p3, p4, p5, lu.isList, lv⟩ (en.imp (fun t => by simp; omega) fun t => by simp; omega) fun h' st => ⟨rfl, ?_⟩
    exact I.turnedL (t' := s.toks) (ch := five z TI TO i1 i2) (fun c o hb t => st c o (fun e => hb (by simp [e])) (fun e => hb (by simp [e])) (fun e => hb (by simp [e])) (fun e => hb (by simp [e])) t) hf
  self := fun A i s Q E n h => wpAny_pyIter_zip n.1 h
end RR.ZM
namespace RR
open PySem PySem.Spec PyProof.Rows L2
section
variable {X : Cx} {C : Cn} {a b : Expr} {pos : Pos}
end
section
variable {M : Type} {ρ : En} {m : M} {Z : Str → M → Prop} {QL : List D → M → Prop} {ds es : List D} {t u : DT M}
end
end RR

/-! RZn: zip of a tuple and a list (printed from RZm) -/
namespace RR.ZN
open PySem PySem.Spec PyProof.Rows L2 RZ
section
variable {prog : Program} {w : World} {A : Around} {E : Value → Shared → Prop} {s : Shared} {z TI TO i1 i2 l1 l2 : Addr} {k1 k2 : Nat} {xs ys : Array Value} {x y a b : Value}
/-- what stands of the walk -/
structure Wk2 (h : Heap) (z TI TO i1 i2 l1 l2 : Addr) (k1 k2 : Nat) (xs ys : Array Value) (a b : Value) : Prop where
  z0 : IsZip h z TI TO .none
  ti : IsPair h TI (.ref i1) (.ref i2)
  tg : IsPair h TO a b
  j1 : h.IsTupleIter i1 l1 k1
  j2 : h.IsListIter i2 l2 k2
  s1 : h.IsTuple l1 xs
  s2 : h.IsList l2 ys
/-- all but the four stay -/
def Stay (h h' : Heap) (z TO i1 i2 : Addr) : Prop := ∀ c o, c ≠ z → c ≠ TO → c ≠ i1 → c ≠ i2 → h.get? c = some o → h'.get? c = some o
theorem one_item {Q : Value → Shared → Prop} (D : ZipApart z TI TO i1 i2 l1 l2) (S : Wk2 s.heap z TI TO i1 i2 l1 l2 k1 k2 xs ys a b) (hx : xs[k1]? = some x) (hy : ys[k2]? = some y)
    (q : ∀ h', IsZip h' z TI TO (rawInt s.heap.objs.size) → IsPair h' TO x y → h'.IsTupleIter i1 l1 (k1 + 1) → h'.IsListIter i2 l2 (k2 + 1) → IsPair h' s.heap.objs.size x y → h'.objs.size = s.heap.objs.size + 1 → Stay s.heap h' z TO i1 i2 → Q (.ref s.heap.objs.size) { s with heap := h' }) :
    wpAny (model prog w) A (Builtin.«zip.__next__» ⟨[.ref z], []⟩) (fun r s' => ∃ v, r = .done (.ret v) ∧ Q v s') E s := by
  obtain ⟨z0, ti, tg, j1, j2, t1, t2⟩ := S
  (show wpAny _ _ (field (.ref _) 2 >>= _) _ _ _; refine wpAny_bind (wpAny_field z0 rfl (x := (.bool false)) rfl ?_))
  (show wpAny _ _ (field (.ref _) 3 >>= _) _ _ _; refine wpAny_bind (wpAny_field z0 rfl (x := (.ref TI)) rfl ?_))
  refine wpAny_bind (wpAny_seqItems ti rfl ?_)
  (show wpAny _ _ (Builtin.SmallTypes.ownedTupleIsFree (.ref z) >>= _) _ _ _); refine wpAny_bind ?_; unfold Builtin.SmallTypes.ownedTupleIsFree
  refine wpAny_bind (wpAny_field z0 rfl (x := .none) rfl (wpAny_pure ?_)); simp only [if_true]; refine wpAny_bind (wpAny_rule ?_); refine wpAny_bind (wpAny_field z0 rfl (x := .ref TO) rfl ?_)
  refine wpAny_bind (wpAny_setField_rec z0 (by simp) fun ha za ea => ?_); replace za : IsZip ha z TI TO .ellipsis := za
  refine wpAny_bind ?_; simp only [List.zipIdx_cons, List.zipIdx_nil, List.forIn_cons, List.forIn_nil]
  refine wpAny_bind (wpAny_bind (wpAny_onRaise ?_)); show wpAny _ _ (Builtin.SmallTypes.nextOf (.ref i1) >>= _) _ _ _
  refine wpAny_bind (nextOf_tuple_item (j1.extBut ea.extBut D.i1z) (t1.extBut ea.extBut D.l1z) hx fun hb jb eb => wpAny_pure ?_)
  have pb : IsPair hb TO a b := eb.extBut _ _ D.TOi1 (ea.extBut _ _ D.TOz tg)
  refine wpAny_bind (wpAny_seqItems pb rfl ?_); refine wpAny_bind (wpAny_updateSeq_pair pb fun hc pc ec => ?_); replace pc : IsPair hc TO x b := pc
  refine wpAny_bind (wpAny_letGo (wpAny_pure ?_)); refine wpAny_bind (wpAny_bind (wpAny_onRaise ?_)); show wpAny _ _ (Builtin.SmallTypes.nextOf (.ref i2) >>= _) _ _ _
  have j2c : hc.IsListIter i2 l2 k2 := ((j2.extBut ea.extBut D.i2z).extBut eb.extBut D.i12.symm).extBut ec.extBut D.TOi2.symm
  have t2c : hc.IsList l2 ys := ((t2.extBut ea.extBut D.l2z).extBut eb.extBut D.l2i1).extBut ec.extBut D.l2TO
  refine wpAny_bind (wpAny_nextOf_list_item j2c t2c hy fun hd jd ed => wpAny_pure ?_)
  have pd : IsPair hd TO x b := ed.extBut _ _ D.TOi2 pc
  refine wpAny_bind (wpAny_seqItems pd rfl ?_); refine wpAny_bind (wpAny_updateSeq_pair pd fun he pe ee => ?_); replace pe : IsPair he TO x y := pe
  refine wpAny_bind (wpAny_letGo (wpAny_pure (wpAny_pure ?_))); refine wpAny_bind (wpAny_seqItems pe rfl ?_); refine wpAny_bind (wpAny_newTuple ?_)
  have sz : he.objs.size = s.heap.objs.size := by rw [ee.1, ed.1, ec.1, eb.1, ea.1]
  have ze : IsZip he z TI TO .ellipsis := ee.extBut _ _ D.TOz.symm (ed.extBut _ _ D.i2z.symm (ec.extBut _ _ D.TOz.symm (eb.extBut _ _ D.i1z.symm za)))
  have st : Stay s.heap he z TO i1 i2 := fun c o c1 c2 c3 c4 e => ee.extBut _ _ c2 (ed.extBut _ _ c4 (ec.extBut _ _ c2 (eb.extBut _ _ c3 (ea.extBut _ _ c1 e))))
  have f1 : he.IsTupleIter i1 l1 (k1 + 1) := ((jb.extBut ec.extBut D.TOi1.symm).extBut ed.extBut D.i12).extBut ee.extBut D.TOi1.symm
  have f2 : he.IsListIter i2 l2 (k2 + 1) := jd.extBut ee.extBut D.TOi2.symm
  have zl : z < he.objs.size := Heap.lt_size ze
  (show wpAny _ _ (Builtin.SmallTypes.ownedTupleHandOut (.ref z) (.ref he.objs.size) >>= _) _ _ _); refine wpAny_bind ?_; unfold Builtin.SmallTypes.ownedTupleHandOut
  have zf : IsZip (he.push { cls := .type "tuple", data := .seq #[x, y] }) z TI TO .ellipsis := Heap.get?_push_of_some _ ze
  refine wpAny_bind (wpAny_setField_rec zf (by simp) fun hg zg eg => ?_); replace zg : IsZip hg z TI TO (rawInt he.objs.size) := zg
  refine wpAny_setField_rec zg (by simp) fun hi zi ei => ?_; replace zi : IsZip hi z TI TO (rawInt he.objs.size) := zi
  have go : ∀ c o, c ≠ z → he.get? c = some o → hi.get? c = some o := fun c o c1 e => ei.extBut _ _ c1 (eg.extBut _ _ c1 (Heap.get?_push_of_some _ e))
  have np : IsPair hi he.objs.size x y := ei.extBut _ _ (Nat.ne_of_gt zl) (eg.extBut _ _ (Nat.ne_of_gt zl) (Heap.get?_push_size _ rfl))
  have ns : hi.objs.size = he.objs.size + 1 := by rw [ei.1, eg.1, Heap.size_push]
  rw [sz] at zi np ns
  refine wpAny_pure ⟨_, rfl, ?_⟩
  show Q (.ref he.objs.size) _
  rw [sz]
  exact q hi zi (go _ _ D.TOz pe) (f1.at fun o e => go _ o D.i1z e) (f2.at fun o e => go _ o D.i2z e) np ns fun c o c1 c2 c3 c4 e => go c o c1 (st c o c1 c2 c3 c4 e)
theorem one_end {Q : Fin → Shared → Prop} (hh : A.handled = none) (D : ZipApart z TI TO i1 i2 l1 l2) (S : Wk2 s.heap z TI TO i1 i2 l1 l2 k1 k2 xs ys a b) (en : xs[k1]? = none ∨ ys[k2]? = none)
    (q : ∀ h' e, Stay s.heap h' z TO i1 i2 → (∃ o, h'.get? e = some o ∧ o.cls = .type "StopIteration") → E (.ref e) { s with heap := h' }) :
    wpAny (model prog w) A (Builtin.«zip.__next__» ⟨[.ref z], []⟩) Q E s := by
  obtain ⟨z0, ti, tg, j1, j2, t1, t2⟩ := S
  (show wpAny _ _ (field (.ref _) 2 >>= _) _ _ _; refine wpAny_bind (wpAny_field z0 rfl (x := (.bool false)) rfl ?_))
  (show wpAny _ _ (field (.ref _) 3 >>= _) _ _ _; refine wpAny_bind (wpAny_field z0 rfl (x := (.ref TI)) rfl ?_))
  refine wpAny_bind (wpAny_seqItems ti rfl ?_)
  (show wpAny _ _ (Builtin.SmallTypes.ownedTupleIsFree (.ref z) >>= _) _ _ _); refine wpAny_bind ?_; unfold Builtin.SmallTypes.ownedTupleIsFree
  refine wpAny_bind (wpAny_field z0 rfl (x := .none) rfl (wpAny_pure ?_)); simp only [if_true]; refine wpAny_bind (wpAny_rule ?_); refine wpAny_bind (wpAny_field z0 rfl (x := .ref TO) rfl ?_)
  refine wpAny_bind (wpAny_setField_rec z0 (by simp) fun ha za ea => ?_); replace za : IsZip ha z TI TO .ellipsis := za
  refine wpAny_bind ?_; simp only [List.zipIdx_cons, List.zipIdx_nil, List.forIn_cons, List.forIn_nil]
  refine wpAny_bind (wpAny_bind (wpAny_onRaise ?_)); show wpAny _ _ (Builtin.SmallTypes.nextOf (.ref i1) >>= _) _ _ _
  cases hx : xs[k1]? with
  | none =>
    refine wpAny_bind (nextOf_tuple_end hh (j1.extBut ea.extBut D.i1z) (t1.extBut ea.extBut D.l1z) hx fun hb e eb he => ?_)
    obtain ⟨oe, oh, oc⟩ := he
    have zb : IsZip hb z TI TO .ellipsis := eb _ _ D.i1z.symm za
    have ne : e ≠ z := fun t => by subst t; rw [zb] at oh; cases oh; simp at oc
    exact wpAny_setField_rec zb (by simp) fun hc _ ec => q hc e (fun c o c1 _ c3 _ t => ec.extBut _ _ c1 (eb _ _ c3 (ea.extBut _ _ c1 t))) ⟨oe, ec.extBut _ _ ne oh, oc⟩
  | some x =>
    have hy : ys[k2]? = none := en.resolve_left fun t => by rw [hx] at t; cases t
    refine wpAny_bind (nextOf_tuple_item (j1.extBut ea.extBut D.i1z) (t1.extBut ea.extBut D.l1z) hx fun hb jb eb => wpAny_pure ?_)
    have pb : IsPair hb TO a b := eb.extBut _ _ D.TOi1 (ea.extBut _ _ D.TOz tg)
    refine wpAny_bind (wpAny_seqItems pb rfl ?_); refine wpAny_bind (wpAny_updateSeq_pair pb fun hc pc ec => ?_)
    refine wpAny_bind (wpAny_letGo (wpAny_pure ?_)); refine wpAny_bind (wpAny_bind (wpAny_onRaise ?_)); show wpAny _ _ (Builtin.SmallTypes.nextOf (.ref i2) >>= _) _ _ _
    have j2c : hc.IsListIter i2 l2 k2 := ((j2.extBut ea.extBut D.i2z).extBut eb.extBut D.i12.symm).extBut ec.extBut D.TOi2.symm
    have t2c : hc.IsList l2 ys := ((t2.extBut ea.extBut D.l2z).extBut eb.extBut D.l2i1).extBut ec.extBut D.l2TO
    refine wpAny_bind (wpAny_nextOf_list_end hh j2c t2c hy fun hd e ed he => ?_)
    obtain ⟨oe, oh, oc⟩ := he
    have zd : IsZip hd z TI TO .ellipsis := ed _ _ D.i2z.symm (ec.extBut _ _ D.TOz.symm (eb.extBut _ _ D.i1z.symm za))
    have ne : e ≠ z := fun t => by subst t; rw [zd] at oh; cases oh; simp at oc
    exact wpAny_setField_rec zd (by simp) fun hg _ eg => q hg e (fun c o c1 c2 c3 c4 t => eg.extBut _ _ c1 (ed _ _ c4 (ec.extBut _ _ c2 (eb.extBut _ _ c3 (ea.extBut _ _ c1 t))))) ⟨oe, eg.extBut _ _ ne oh, oc⟩
theorem next_item {Q : Option Value → Shared → Prop} (D : ZipApart z TI TO i1 i2 l1 l2) (S : Wk2 s.heap z TI TO i1 i2 l1 l2 k1 k2 xs ys a b) (hx : xs[k1]? = some x) (hy : ys[k2]? = some y)
    (q : ∀ h', IsZip h' z TI TO (rawInt s.heap.objs.size) → IsPair h' TO x y → h'.IsTupleIter i1 l1 (k1 + 1) → h'.IsListIter i2 l2 (k2 + 1) → IsPair h' s.heap.objs.size x y → h'.objs.size = s.heap.objs.size + 1 → Stay s.heap h' z TO i1 i2 → Q (some (.ref s.heap.objs.size)) { s with heap := h' }) :
    wpAny (model prog w) A (pyNext (.ref z)) Q E s := by
  have ty : s.TypeIs (.ref z) "zip" := ⟨_, S.z0, rfl⟩
  unfold pyNext
  refine wpAny_bind (wpAny_attempt (wpAny_callSpecial?_slot (name := Str.ofString "__next__") ty F.slot_zip_next (wpAny_call_entry F.slot_zip_next ty F.entry_zip_next ?_ (F.args_zip_next_1 _))))
  exact one_item D S hx hy fun h' p1 p2 p3 p4 p5 p6 p7 => wpAny_pure (q h' p1 p2 p3 p4 p5 p6 p7)
theorem next_end {Q : Option Value → Shared → Prop} (hh : A.handled = none) (D : ZipApart z TI TO i1 i2 l1 l2) (S : Wk2 s.heap z TI TO i1 i2 l1 l2 k1 k2 xs ys a b) (en : xs[k1]? = none ∨ ys[k2]? = none)
    (q : ∀ h', Stay s.heap h' z TO i1 i2 → Q none { s with heap := h' }) : wpAny (model prog w) A (pyNext (.ref z)) Q E s := by
  have ty : s.TypeIs (.ref z) "zip" := ⟨_, S.z0, rfl⟩
  unfold pyNext
  refine wpAny_bind (wpAny_attempt (wpAny_callSpecial?_slot (name := Str.ofString "__next__") ty F.slot_zip_next (wpAny_call_entry F.slot_zip_next ty F.entry_zip_next ?_ (F.args_zip_next_1 _))))
  refine one_end hh D S en fun h' e st oe => ?_
  obtain ⟨o, oh, oc⟩ := oe
  refine wpAny_bind (wpAny_isInstance (T := "StopIteration") (b := true) ⟨o, oh, oc⟩ isSubtype_stop ?_)
  exact wpAny_pure (q _ st)
end
abbrev y1 (h : Heap) (l1 : Addr) : Heap := h.push { cls := .type "tuple_iterator", data := .fields #[.ref l1, .int 0 0] }
abbrev y2 (h : Heap) (l1 l2 : Addr) : Heap := (y1 h l1).push { cls := .type "list_iterator", data := .fields #[.ref l2, .int 0 0] }
abbrev y3 (h : Heap) (l1 l2 : Addr) : Heap := (y2 h l1 l2).push { cls := .type "tuple", data := .seq #[.ref h.objs.size, .ref (y1 h l1).objs.size] }
abbrev y4 (h : Heap) (l1 l2 : Addr) : Heap := (y3 h l1 l2).push { cls := .type "tuple", data := .seq #[.none, .none] }
section
variable {prog : Program} {w : World} {A : Around} {E : Value → Shared → Prop} {s : Shared}
end
/-- the items in new pairs -/
def ItM (K : PySem.W.Frag) (a b : Addr) : It :=
  ⟨fun i H => ∃ (us vs : List V) (u v : V), (SqT K H a us ∧ SqL K H b vs) ∧ us[i]? = some u ∧ vs[i]? = some v,
    fun i H p H' => ∃ T u v, p = .ref T ∧ H T = none ∧ H' = upd H T (.tup [u, v]) ∧ (∀ us, SqT K H a us → us[i]? = some u) ∧ ∀ vs, SqL K H b vs → vs[i]? = some v,
    fun i H => ∃ us vs : List V, (SqT K H a us ∧ SqL K H b vs) ∧ (us.length ≤ i ∨ vs.length ≤ i)⟩
abbrev five (z TI TO i1 i2 : Addr) : List Addr := [z, TI, TO, i1, i2]
theorem five_mem {z TI TO i1 i2 c : Addr} (h : c ∈ five z TI TO i1 i2) : c = z ∨ c = TI ∨ c = TO ∨ c = i1 ∨ c = i2 := by simpa using h
/-- how the walk stands, whatever the pair holds -/
def Now (a b z TI TO i1 i2 : Addr) (i : Nat) (h : Heap) : Prop := IsZip h z TI TO .none ∧ IsPair h TI (.ref i1) (.ref i2) ∧ (∃ x y, IsPair h TO x y) ∧ h.IsTupleIter i1 a i ∧ h.IsListIter i2 b i
theorem Now.lt {a b z TI TO i1 i2 : Addr} {i : Nat} {h : Heap} (n : Now a b z TI TO i1 i2 i h) {c : Addr} (hc : c ∈ five z TI TO i1 i2) : c < h.objs.size := by
  obtain ⟨p1, p2, ⟨_, _, p3⟩, ⟨_, p4, _⟩, ⟨_, p5, _⟩⟩ := n
  rcases five_mem hc with rfl | rfl | rfl | rfl | rfl
  · exact Heap.lt_size p1
  · exact Heap.lt_size p2
  · exact Heap.lt_size p3
  · exact Heap.lt_size p4
  · exact Heap.lt_size p5
theorem turn {P : Program} {w : World} {K : PySem.W.Frag} {elts : List Expr} {kk : Nat} {tpos : Pos} {a b z TI TO i1 i2 : Addr} (D : ZipApart z TI TO i1 i2 a b) : Turn P w K (.Tuple elts kk tpos) (ItM K a b) (five z TI TO i1 i2) z (Now a b z TI TO i1 i2) where
  mem := by simp
  obj := fun i h n c hc => by
    obtain ⟨p1, p2, ⟨_, _, p3⟩, ⟨o1, p4, _, d1⟩, ⟨o2, p5, _, d2⟩⟩ := n
    rcases five_mem hc with rfl | rfl | rfl | rfl | rfl
    · exact ⟨_, p1, fun v t => nomatch t⟩
    · exact ⟨_, p2, fun v t => nomatch t⟩
    · exact ⟨_, p3, fun v t => nomatch t⟩
    · exact ⟨o1, p4, fun v t => by rw [d1] at t; cases t⟩
    · exact ⟨o2, p5, fun v t => by rw [d2] at t; cases t⟩
  keep := fun i h h' n k => by
    obtain ⟨p1, p2, ⟨u, v, p3⟩, p4, p5⟩ := n
    exact ⟨k z (by simp) _ p1, k TI (by simp) _ p2, ⟨u, v, k TO (by simp) _ p3⟩, p4.at fun o t => k i1 (by simp) o t, p5.at fun o t => k i2 (by simp) o t⟩
  item := by
    intro X hP hw hK hc i pins s σ H E I hf n hg
    subst hP hw hK
    have lt := @Now.lt _ _ _ _ _ _ _ _ _ n
    obtain ⟨p1, p2, ⟨u0, v0, p3⟩, p4, p5⟩ := n
    obtain ⟨us, vs, u, v, ⟨hu, hv⟩, eu, ev⟩ := hg
    obtain ⟨its, ru, lu, _⟩ := I.tuple hu
    obtain ⟨jts, rv, lv, _⟩ := I.list hv
    obtain ⟨m, mu, ru'⟩ := ru.get eu
    obtain ⟨m2, mv, rv'⟩ := rv.get ev
    have zl := lt (c := z) (by simp)
    refine next_item D ⟨p1, p2, p3, p4, p5, lu, lv.isList⟩ (x := m) (y := m2) (by simpa using mu) (by simpa using mv) fun h' g1 g2 g3 g4 g5 _ st => ?_
    refine ⟨_, rfl, wpAny_letOwnedTupleGo_zip (s := { s with heap := h' }) g1 fun h2 g6 sb => ?_⟩
    have nt : h2.get? s.heap.objs.size = some { cls := .type "tuple", data := .seq #[m, m2] } := (sb.2 _ (Nat.ne_of_gt zl)).trans g5
    have ok : ObjOk X.prog X.w (upd H s.heap.objs.size (.tup [u, v])) h2 s.heap.objs.size (.tup [u, v]) := ⟨by show 2 ≤ sizeLine; decide, [m, m2], .cons ru' (.cons rv' .nil), ⟨_, nt, rfl, _, rfl⟩⟩
    have I1 : Inv X pins σ (upd H s.heap.objs.size (.tup [u, v])) { s with heap := h2 } := I.turnedNew (t' := s.toks) (ch := five z TI TO i1 i2) (fun c o hb t => by
      have nz : c ≠ z := fun e => hb (by simp [e])
      exact (sb.2 c nz).trans (st c o nz (fun e => hb (by simp [e])) (fun e => hb (by simp [e])) (fun e => hb (by simp [e])) t)) hf (Nat.le_refl _) ok
    refine ⟨.ref s.heap.objs.size, _, I1, rfl, ⟨_, u, v, rfl, I.hok.fresh (Nat.le_refl _), rfl, fun l hl => by rw [I.tuple_inj hl hu]; exact eu, fun l hl => by rw [I.list_inj hl hv]; exact ev⟩, ⟨g6, (sb.2 _ D.TIz).trans (st _ _ D.TIz D.TITO D.TIi1 D.TIi2 p2), ⟨m, m2, (sb.2 _ D.TOz).trans g2⟩, g3.at fun o t => (sb.2 _ D.i1z).trans t, g4.at fun o t => (sb.2 _ D.i2z).trans t⟩, fun c hcm => ?_⟩
    rw [upd_ne (Nat.ne_of_lt (lt hcm))]
    exact (hf c hcm).1
  done := by
    intro X hP hw hK hc i pins s σ H E I hf n hg
    subst hP hw hK
    obtain ⟨p1, p2, ⟨u0, v0, p3⟩, p4, p5⟩ := n
    obtain ⟨us, vs, ⟨hu, hv⟩, en⟩ := hg
    obtain ⟨its, ru, lu, _⟩ := I.tuple hu
    obtain ⟨jts, rv, lv, _⟩ := I.list hv
    have n1 := ru.length
    have n2 := rv.length
    refine next_end (I.ok.hd hc) D ⟨p1, p2, p3, p4, p5, lu, lv.isList⟩ (en.imp (fun t => by simp; omega) fun t => by simp; omega) fun h' st => ⟨rfl, ?_⟩
    exact I.turnedL (t' := s.toks) (ch := five z TI TO i1 i2) (fun c o hb t => st c o (fun e => hb (by simp [e])) (fun e => hb (by simp [e])) (fun e => hb (by simp [e])) (fun e => hb (by simp [e])) t) hf
  self := fun A i s Q E n h => wpAny_pyIter_zip n.1 h
end RR.ZN
namespace RR
open PySem PySem.Spec PyProof.Rows L2
section
variable {X : Cx} {C : Cn} {a b : Expr} {pos : Pos}
end
section
variable {M : Type} {ρ : En} {m : M} {Z : Str → M → Prop} {QL : List D → M → Prop} {ds es : List D} {t u : DT M}
end
end RR

/-! RAt: tuples with lists within, summed -/
namespace RR
open PySem PySem.Spec PyProof.Rows L2
section
variable {X : Cx} {C : Cn} {a b : Expr} {pos : Pos} {ta tb : DT C.W.M}
end
end RR

/-! RPp: a, b = x.pop() of an own list -/
namespace RR
open PySem PySem.Spec PyProof.Rows L2
section
variable {X : Cx} {C : Cn} {pos : Pos}
end
section
variable {M : Type} {ρ : En} {m : M} {nx bk ct : En → M → Prop} {rt : D → M → Prop} {ex : Str → M → Prop} {ds : List D} {d : D} {g : DG}
end
end RR

/-! RBp: a borrowed name whose data holds no list may be kept -/
namespace RR
open PySem PySem.Spec PyProof.Rows L2
mutual
def D.pln : D → Bool
  | .non | .bl _ | .int _ | .str _ => true
  | .tup xs => D.plns xs
  | _ => false
def D.plns : List D → Bool
  | [] => true
  | x :: r => x.pln && D.plns r
end
section
variable {K : PySem.W.Frag} {F F' : List Addr} {G G' : Hp}
mutual
theorem Dn.kept (hG : ∀ a xs, G a = some (.tup xs) → G' a = some (.tup xs)) : ∀ {v : V} {d : D}, d.pln = true → Dn false K F G v d → Dn true K F' G' v d
  | _, _, _, .non => .non
  | _, _, _, .bl b => .bl b
  | _, _, _, .int i => .int i
  | _, _, _, .str x => .str x
  | _, _, p, .tup h r => .tup (h.mono hG) (DnA.kept hG p r)
  | _, _, p, .lst _ _ => by cases p
  | _, _, p, .hnd _ => by cases p
  | _, _, p, .dic _ => by cases p
  | _, _, p, .exc _ _ => by cases p
  | _, _, p, .fn _ => by cases p
  | _, _, p, .ptr => by cases p
theorem DnA.kept (hG : ∀ a xs, G a = some (.tup xs) → G' a = some (.tup xs)) : ∀ {v : List V} {d : List D}, D.plns d = true → DnA false K F G v d → DnA true K F' G' v d
  | _, _, _, .nil => .nil
  | _, _, p, .cons h r => by
    rw [D.plns, Bool.and_eq_true] at p
    exact .cons (Dn.kept hG p.1 h) (DnA.kept hG p.2 r)
end
end
section
variable {X : Cx} {C : Cn} {pos : Pos}
end
section
variable {M : Type} {ρ : En} {m : M} {Q : D → M → Prop} {Z : Str → M → Prop} {d : D}
end
end RR

/-! RSm: sum of a list of numbers -/
namespace RR
open PySem PySem.Spec PyProof.Rows L2
section
variable {X : Cx} {C : Cn}
end
end RR
namespace RR
open PySem PySem.Spec PyProof.Rows L2 RZ RT
section
variable {X : Cx} {C : Cn}
end
end RR
namespace RR
open PySem PySem.Spec PyProof.Rows L2
section
variable {X : Cx} {C : Cn}
end
end RR

/-! RSt: x[::k] of a tuple, k from 2 on -/
namespace RR
open PySem PySem.Spec PyProof.Rows L2 HT
section
variable {prog : Program} {w : World} {A : Around} {E : Value → Shared → Prop} {s : Shared}
end
section
variable {X : Cx} {C : Cn} {e f : Expr}
end
section
variable {M : Type} {ρ : En} {m : M} {Q : D → M → Prop} {Z : Str → M → Prop} {t u : DT M}
end
end RR

/-! RPo: a, b = x, y, both new lists of one's own -/
namespace RR
open PySem PySem.Spec PyProof.Rows L2
section
variable {K : PySem.W.Frag} {C : Cn} {Pr : Addr → Prop} {F : List Addr} {σ : L2.St} {ρ : En} {m : C.W.M} {H : Hp}
end
section
variable {X : Cx} {C : Cn} {pos : Pos}
end
end RR

/-! RNi: not in a tuple -/
namespace RR
open PySem PySem.Spec PyProof.Rows L2
section
variable {X : Cx} {C : Cn}
end
end RR

/-! RBo: the items of what is borrowed, borrowed themselves (they may hold lists): taken apart, and walked by a comprehension -/
namespace RR
open PySem PySem.Spec PyProof.Rows L2
section
variable {K : PySem.W.Frag} {C : Cn} {Pr : Addr → Prop} {F : List Addr} {σ : L2.St} {ρ : En} {m : C.W.M} {H : Hp}
end
section
variable {X : Cx} {C : Cn} {e a b : Expr} {pos : Pos}
def JGB (X : Cx) (C : Cn) (tg : Expr) (ws : List Nat) (g : DG) : Prop := ∃ tgt, PG X tg tgt ∧
  ∀ σ H Pr F ρ (m : C.W.M) v d Q (R : L2.St → Hp → Prop), SR X.K C Pr F σ ρ m H → Dn false X.K C.F0 (wv C.F0 C.H0) v d → g d ρ Q →
    (∀ σ' ρ', SR X.K C Pr F σ' ρ' m H → (∀ vs, (∀ i ∈ ws, i ∈ vs) → L2.wipe σ' vs = L2.wipe σ vs) → Q ρ' → R σ' H) → tgt v σ H R
/-! ### a comprehension over what is borrowed -/
variable {elt tg iter : Expr} {ifs : List Expr} {scope : Scope} {own : List (Str × Nat)} {ti : DTA C.W.M} {g : DG} {dt : DTT C.W.M} {de : DT C.W.M} {ws : List Nat}
def cnGB (K : PySem.W.Frag) (C : Cn) (ws : List Nat) (g : DG) : TG := fun v σ H R => ∃ Pr F ρ, ∃ m : C.W.M, ∃ d Q, SR K C Pr F σ ρ m H ∧ Dn false K C.F0 (wv C.F0 C.H0) v d ∧ g d ρ Q ∧
    (∀ σ' ρ', SR K C Pr F σ' ρ' m H → (∀ vs, (∀ i ∈ ws, i ∈ vs) → L2.wipe σ' vs = L2.wipe σ vs) → Q ρ' → R σ' H)
theorem JGB.cn {X : Cx} {C : Cn} {ws : List Nat} {e : Expr} {g : DG} (h : JGB X C e ws g) : PG X e (cnGB X.K C ws g) := by
  obtain ⟨te, p, q⟩ := h
  exact ⟨fun pins s σ H v u R I r ⟨Pr, F, ρ, m, d, Q, S, dv, z, k⟩ => p.run pins s σ H v u R I r (q σ H Pr F ρ m v d Q R S dv z k)⟩
end
section
variable {M : Type} {ρ : En} {m : M} {nx : En → M → Prop} {rt : D → M → Prop} {bk ct : En → M → Prop} {ex : Str → M → Prop} {Q : List D → M → Prop} {Z : Str → M → Prop} {ds : List D} {d : D}
end
end RR

/-! RX: the law's drawing state as a world -/
namespace RR
open PySem PySem.Spec PyProof.Rows L2
theorem DnA.ints_inv {s : Bool} {K : PySem.W.Frag} {F : List Addr} {G : Hp} : ∀ {vs : List V} {ns : List Int}, DnA s K F G vs (zz ns) → vs = ns.map V.int
  | _, [], h => by cases h; rfl
  | _, n :: ns, h => by
    have h : DnA s K F G _ (.int n :: zz ns) := h
    cases h with
    | cons a b =>
      cases a
      rw [DnA.ints_inv b, List.map_cons]
/-- the drawing state behind the handle 0: a dict of cells, digits and the place -/
def DrSt (N : Nat) (F : List Addr) (H : Hp) : Prop := ∃ (am ac ad : Addr) (cs ds : List Int) (n : Int), F = [am, ac, ad] ∧ am ≠ ac ∧ am ≠ ad ∧ ac ≠ ad ∧
  H am = some (.dK [(Sum.inr "cells", .ref ac), (Sum.inr "digits", .ref ad), (Sum.inr "at", .int n)]) ∧ H ac = some (.lst (cs.map V.int)) ∧ H ad = some (.lst (ds.map V.int)) ∧
  0 ≤ n ∧ n + (N : Int) ≤ 2 ^ 60 ∧ cs.length = 64 ∧ (∀ c ∈ cs, 0 ≤ c ∧ c < 2147483647) ∧ ds.length < sizeLine
def DrW : Wd where
  M := Option Nat
  Rz := fun m F H => match m with | none => F = [] | some N => DrSt N F H
  keep := fun {m F H H'} h k _ => by
    cases m with
    | none => exact h
    | some N =>
      obtain ⟨am, ac, ad, cs, ds, n, rfl, x1, x2, x3, e1, e2, e3, r⟩ := h
      exact ⟨am, ac, ad, cs, ds, n, rfl, x1, x2, x3, (k _ (by simp)).trans e1, (k _ (by simp)).trans e2, (k _ (by simp)).trans e3, r⟩
  there := fun {m F H} h a ha => by
    cases m with
    | none =>
      have h : F = [] := h
      rw [h] at ha; cases ha
    | some N =>
      obtain ⟨am, ac, ad, cs, ds, n, rfl, x1, x2, x3, e1, e2, e3, r⟩ := h
      simp only [List.mem_cons, List.not_mem_nil, or_false] at ha
      rcases ha with rfl | rfl | rfl
      · exact ⟨_, e1, fun h => h⟩
      · exact ⟨_, e2, fun h => h⟩
      · exact ⟨_, e3, fun h => h⟩
/-! ### what the state's functions promise -/
def s__law_mixed {M : Type} : DSp M := fun ds m Q Z => ∃ c k, ds = [.int c, .int k] ∧ c.natAbs < 2 ^ 70 ∧ 0 ≤ k ∧ k < 2 ^ 62 ∧ ∀ x, 0 ≤ x → x < 2 ^ 30 → Q (.int x) m
def s__law_folded {M : Type} : DSp M := fun ds m Q Z => ∃ ns, ds = [.lst (zz ns)] ∧ ns.length ≤ 63 ∧ ∀ cs : List Int, cs.length = 64 → (∀ c ∈ cs, 0 ≤ c ∧ c < 2147483647) → Q (.lst (zz cs)) m
/-- the place of the drawing state among the world's objects -/
abbrev hdl : Nat := 0
def s__law_draw : DSp (Option Nat) := fun ds m Q Z => ∃ N many, ds = [.hnd hdl, .int many] ∧ m = some (N + 1) ∧ 0 < many ∧ many.natAbs < 2 ^ 8000 ∧ ∀ x, 0 ≤ x → x < many → Q (.int x) (some N)
def s__law_begun : DSp (Option Nat) := fun ds m Q Z => ∃ ns, ds = [.lst (zz ns)] ∧ ns.length ≤ 63 ∧ m = none ∧ Q (.hnd hdl) (some (2 ^ 50))
def s0__law_draw : DSp (Option Nat) := fun ds m Q Z => ∃ N many, ds = [.hnd 0, .int many] ∧ m = some (N + 1) ∧ 0 < many ∧ many.natAbs < 2 ^ 8000 ∧ ∀ x, 0 ≤ x → x < many → Q (.int x) (some N)
def s0__law_begun : DSp (Option Nat) := fun ds m Q Z => ∃ ns, ds = [.lst (zz ns)] ∧ ns.length ≤ 63 ∧ m = none ∧ Q (.hnd 0) (some (2 ^ 50))
/-- the same, for a call by hand -/
def hMix : Sp := fun vs H Q _ => ∃ c k, vs = [.int c, .int k] ∧ c.natAbs < 2 ^ 70 ∧ 0 ≤ k ∧ k < 2 ^ 62 ∧ ∀ x H', 0 ≤ x → x < 2 ^ 30 → Same H H' → Q (.int x) H'
def hFold (K : PySem.W.Frag) : Sp := fun vs H Q _ => ∃ (a : Addr) (ns : List Int), vs = [.ref a] ∧ SqL K H a (ns.map V.int) ∧ ns.length ≤ 63 ∧ ∀ (cs : List Int) p H', Same H H' → H p = none → H' p = some (.lst (cs.map V.int)) → cs.length = 64 → (∀ c ∈ cs, 0 ≤ c ∧ c < 2147483647) → Q (.ref p) H'
section
variable {P : Program} {w : World} {K : PySem.W.Frag} {mg : Str → Option Value} {base : Heap} {k : Nat} {f : Addr} {fd : FuncData} {ps : List Str}
theorem hMix_of (F : FnG P w K mg base (L2.CX P w) k f fd ps (spD K mg W0 s__law_mixed)) : FnG P w K mg base (L2.CX P w) k f fd ps hMix := by
  refine F.imp fun vs H Q E h => ?_
  obtain ⟨c, n, rfl, h1, h2, h3, q⟩ := h
  refine ⟨[], (), [.int c, .int n], fun d _ => ∃ x, d = .int x ∧ 0 ≤ x ∧ x < 2 ^ 30, fun _ _ => False, rfl, .cons (.int c) (.cons (.int n) .nil), ⟨c, n, rfl, h1, h2, h3, fun x a b => ⟨x, rfl, a, b⟩⟩, fun v H' F' d m' _ _ _ kp dn e => ?_, fun _ _ _ _ _ _ _ _ _ _ z => z.elim⟩
  obtain ⟨x, rfl, a, b⟩ := e
  cases dn
  exact q x H' a b fun a o e => kp a o (by simp) e
theorem hFold_of (F : FnG P w K mg base (L2.CX P w) k f fd ps (spD K mg W0 s__law_folded)) : FnG P w K mg base (L2.CX P w) k f fd ps (hFold K) := by
  refine F.imp fun vs H Q E h => ?_
  obtain ⟨a, ns, rfl, hs, hl, q⟩ := h
  refine ⟨[], (), [.lst (zz ns)], fun d _ => ∃ cs : List Int, d = .lst (zz cs) ∧ cs.length = 64 ∧ ∀ c ∈ cs, 0 ≤ c ∧ c < 2147483647, fun _ _ => False, rfl, .cons (.lst (Ls.mono (s := false) (fun a o e => vw_iff.mpr ⟨e, by simp⟩) (show Ls false K H a _ from hs)) (ints_dn ns)) .nil, ⟨ns, rfl, hl, fun cs a b => ⟨cs, rfl, a, b⟩⟩, fun v H' F' d m' _ _ _ kp dn e => ?_, fun _ _ _ _ _ _ _ _ _ _ z => z.elim⟩
  obtain ⟨cs, rfl, c1, c2⟩ := e
  cases dn with
  | lst g r =>
    rename_i p xs
    have g : sv H (· ∈ F') H' p = some (.lst xs) := g
    obtain ⟨e1, e2⟩ := vw_iff.mp g
    rcases e2 with e2 | e2
    · exact e2.elim
    · rw [r.ints_inv] at e1
      exact q cs p H' (fun a o e => kp a o (by simp) e) e2.2.2 e1 c1 c2
end
abbrev drV (ac ad : Addr) (n : Int) : List (L2.Key × V) := [(Sum.inr "cells", .ref ac), (Sum.inr "digits", .ref ad), (Sum.inr "at", .int n)]
abbrev N__law_draw : List Str := ["_law_m", "_law_many", "_law_k", "_law_at", "_law_cell"]
abbrev N__law_begun : List Str := ["_law_script", "_law_m"]
end RR

/-! RY: the readings of the drawing state's two functions -/
namespace RR
open PySem PySem.Spec PyProof.Rows L2
section
variable {K : PySem.W.Frag} {E : L2.St → XK}
abbrev tLen (K : PySem.W.Frag) (t : TA) : TE := tCB (fun xs H Q => ∃ p ys, xs = [V.ref p] ∧ (SqL K H p ys ∨ SqT K H p ys) ∧ Q (V.int ys.length) H) t
abbrev tFld (i : Nat) (x : Str) : TE := tDGet (tVar i) (tC (V.str x))
abbrev tMod (a b : TE) : TE := tOp (rI (fun _ j => j ≠ 0) fun i j => V.int (i.fmod j)) a b
abbrev tDiv (a b : TE) : TE := tOp (rI Nd fun i j => V.int (i.fdiv j)) a b
abbrev tAdd (a b : TE) : TE := tOp (rI0 fun i j => V.int (i + j)) a b
abbrev t_last (K : PySem.W.Frag) (E : L2.St → XK) : TE :=
  tMod (tCallSD hMix [] E (tCons (tCallSD hMix [] E (tCons (tAdd (tOp (rIxL K) (tFld 0 "cells") (tMod (tVar 2) (tC (V.int 64)))) (tOp (rI IntMulOk fun i j => V.int (i * j)) (tC (V.int 31)) (tDiv (tVar 2) (tC (V.int 64))))) (tCons (tVar 2) tNil)))
    (tCons (tAdd (tVar 2) (tC (V.int 7))) tNil))) (tVar 1)
abbrev t_draw (K : PySem.W.Frag) (E : L2.St → XK) : TS :=
  tSeq (tAsg (tFld 0 "at") (gName 2))
    (tSeq (sDPut (tVar 0) (tC (V.str "at")) (tAdd (tVar 2) (tC (V.int 1))))
    (tSeq (tIfS (tTest (tOp (rNeD K) (tFld 0 "digits") (tLst tNil)))
      (tSeq (tAsg (tMod (tVar 2) (tLen K (tCons (tFld 0 "digits") tNil))) (gName 3))
      (tSeq (tAsg (tOp (rIxL K) (tFld 0 "digits") (tVar 3)) (gName 4))
        (tIfS (tTest (tOp (rIn K true) (tVar 4) (tTup (tCons (tC (V.int 0)) (tCons (tUn (rU fun i => V.int (-i)) (tC (V.int 1))) tNil)))))
          (tSeq (tAsg (tDiv (tVar 4) (tVar 1)) (gSub (tFld 0 "digits") (tVar 3) rSetL)) (tRet (tMod (tVar 4) (tVar 1))))
          tNext)))
      tNext)
    (tRet (t_last K E))))
theorem rd_last {am ac ad : Addr} {cs : List Int} {n many : Int} {y3 y4 : Option V} {Q : VK} {H : Hp} (e1 : H am = some (.dK (drV ac ad (n + 1)))) (e2 : H ac = some (.lst (cs.map V.int))) (n0 : 0 ≤ n) (n1 : n < 2 ^ 60)
    (lc : cs.length = 64) (bc : ∀ c ∈ cs, 0 ≤ c ∧ c < 2147483647) (hp : 0 < many) (fin : ∀ H' x, Same H H' → 0 ≤ x → x < many → Q (.int x) H') :
    t_last K E [some (.ref am), some (.int many), some (.int n), y3, y4] H Q := by
  have k0 : 0 ≤ n.fmod 64 := Int.fmod_nonneg_of_pos _ (by decide)
  have k1 : n.fmod 64 < 64 := Int.fmod_lt_of_pos _ (by decide)
  have ci : (n.fmod 64).toNat < cs.length := by omega
  obtain ⟨b0, b1⟩ := bc _ (List.getElem_mem ci)
  have g : atI (cs.map V.int) (n.fmod 64) = some (.int cs[(n.fmod 64).toNat]) := by
    rw [atI_at k0 (by rw [List.length_map, lc]; exact k1), List.getElem_map]
  have d0 : n.fdiv 64 = n / 64 := fdiv_pos (by decide)
  refine ⟨.ref am, rfl, am, .ref ac, rfl, DGet.k (k := Sum.inr "cells") e1,   .int n, rfl, n, 64, rfl, rfl, (by decide : (64 : Int) ≠ 0), ac, _, _, _, rfl, rfl, .inl (.inl e2), g,
    .int n, rfl, n, 64, rfl, rfl, nd_small (b := 8) (by decide) (bd_lit (by decide)), 31, n.fdiv 64, rfl, rfl, mulok (a := 5) (b := 62) (bd_lit (by decide)) ?_, _, _, rfl, rfl, .int n, rfl, _, n, rfl, ?_, n0, by omega, fun x H1 h0 h1 s1 =>
    ⟨.int n, rfl, n, 7, rfl, rfl, x, n + 7, rfl, ?_, by omega, by omega, fun y H2 h2 h3 s2 => ⟨.int many, rfl, y, many, rfl, rfl, by omega, fin H2 _ (s1.trans s2) (Int.fmod_nonneg_of_pos _ hp) (Int.fmod_lt_of_pos _ hp)⟩⟩⟩
  · rw [d0]; unfold bd; omega
  · rw [d0]; omega
  · omega
theorem rd_draw {mg : Str → Option Value} {vs : List V} {H : Hp} {Q : VK} {X : XK} (h : spD K mg DrW s0__law_draw vs H Q X) : t_draw K E { nx := fun _ H' => Q .non H', rt := Q } (L2.start N__law_draw vs) H := by
  obtain ⟨F0, m, ds, Qd, Zd, rz, dv, ⟨N, many, rfl, rfl, hp, hb, q⟩, hq, _⟩ := h
  obtain ⟨am, ac, ad, cs, dg, n, rfl, x1, x2, x3, e1, e2, e3, n0, nN, lc, bc, ld⟩ := rz
  cases dv with
  | cons d1 dv =>
  cases dv with
  | cons d2 dv =>
  cases dv
  cases d1 with
  | hnd e =>
  cases d2
  cases (Option.some.inj e)
  have e1 : H am = some (.dK (drV ac ad n)) := e1
  have nN' : n + N + 1 ≤ 2 ^ 60 := by omega
  have fin : ∀ (H' : Hp) (dg' : List Int) x, H' am = some (.dK (drV ac ad (n + 1))) → H' ac = some (.lst (cs.map V.int)) → H' ad = some (.lst (dg'.map V.int)) → dg'.length = dg.length → (∀ a o, a ∉ [am, ac, ad] → H a = some o → H' a = some o) → 0 ≤ x → x < many → Q (.int x) H' :=
    fun H' dg' x f1 f2 f3 l kp h0 h1 => hq (.int x) H' [am, ac, ad] (.int x) (some N) ⟨am, ac, ad, cs, dg', n + 1, rfl, x1, x2, x3, f1, f2, f3, by omega, by omega, lc, bc, by omega⟩ ⟨[], by simp⟩ (fun a h z => absurd h z) kp (.int x) (q x h0 h1)
  refine ⟨.ref am, rfl, am, .int n, rfl, DGet.k (k := Sum.inr "at") e1, .int n, rfl, n, 1, rfl, rfl, .ref am, rfl, am, upd H am (.dK (drV ac ad (n + 1))), rfl, DPut.k (k := Sum.inr "at") e1 (lt_line (show 3 < 16777216 by decide)), ?_⟩
  have f1 : upd H am (.dK (drV ac ad (n + 1))) am = some (.dK (drV ac ad (n + 1))) := upd_same
  have f2 : upd H am (.dK (drV ac ad (n + 1))) ac = some (.lst (cs.map V.int)) := by rw [upd_ne x1.symm]; exact e2
  have f3 : upd H am (.dK (drV ac ad (n + 1))) ad = some (.lst (dg.map V.int)) := by rw [upd_ne x2.symm]; exact e3
  have kp : ∀ a o, a ∉ [am, ac, ad] → H a = some o → upd H am (.dK (drV ac ad (n + 1))) a = some o := fun a o z e => by
    rw [upd_ne (fun q => z (by rw [q]; simp))]; exact e
  generalize upd H am (.dK (drV ac ad (n + 1))) = H1 at f1 f2 f3 kp ⊢
  have last : ∀ (H' : Hp) (y3 y4 : Option V), Same H1 H' → t_last K E [some (.ref am), some (.int many), some (.int n), y3, y4] H' Q := fun H' y3 y4 s =>
    rd_last (s _ _ f1) (s _ _ f2) n0 (by omega) lc bc hp fun H2 x s2 h0 h1 => fin H2 dg x (s2 _ _ (s _ _ f1)) (s2 _ _ (s _ _ f2)) (s2 _ _ (s _ _ f3)) rfl (fun a o z e => s2 _ _ (s _ _ (kp a o z e))) h0 h1
  refine ⟨.ref am, rfl, am, .ref ad, rfl, DGet.k (k := Sum.inr "digits") f1, Nat.zero_le _, fun p np => ?_⟩
  have s1 : Same H1 (upd H1 p (.lst [])) := fun b o z => by rw [upd_ne (fun q => by rw [q, np] at z; cases z)]; exact z
  have fp : upd H1 p (.lst []) p = some (.lst []) := upd_same
  generalize upd H1 p (.lst []) = H2 at s1 fp ⊢
  have g1 := s1 _ _ f1
  have g2 := s1 _ _ f2
  have g3 := s1 _ _ f3
  have dn : Dn true K [] H2 (.ref ad) (.lst (zz dg)) := .lst (show Ls true K H2 ad _ from g3) (ints_dn dg)
  have dn0 : Dn true K [] H2 (.ref p) (.lst (zz [])) := .lst (show Ls true K H2 p _ from fp) .nil
  refine ⟨_, _, dn.dp (n := 8) (fun _ _ h => h) (q_lst dg), dn0.dp (n := 8) (fun _ _ h => h) (q_lst []), shaped_q (q_lst dg), shaped_q (q_lst []), _, rfl, ?_⟩
  rw [py_eqv (q_lst (n := 7) dg) (q_lst []), eqv_lst]
  by_cases hd : dg = []
  · rw [decide_eq_true hd]
    exact iteF (last H2 none none s1)
  · rw [decide_eq_false hd]
    refine iteT ?_
    have l0 : 0 < dg.length := List.length_pos_iff.mpr hd
    have k0 : 0 ≤ n.fmod dg.length := Int.fmod_nonneg_of_pos _ (by omega)
    have k1 : n.fmod dg.length < dg.length := Int.fmod_lt_of_pos _ (by omega)
    have em : n.fmod ((dg.map V.int).length : Int) = n.fmod dg.length := by rw [List.length_map]
    refine ⟨.int n, rfl, .ref am, rfl, am, .ref ad, rfl, DGet.k (k := Sum.inr "digits") g1, ad, _, rfl, .inl (.inl (.inl g3)), n, _, rfl, rfl, by rw [List.length_map]; omega, ?_⟩
    show gName 3 (.int (n.fmod ((dg.map V.int).length : Int))) _ _ _
    rw [em]
    generalize n.fmod dg.length = j at k0 k1 ⊢
    obtain ⟨c, gj⟩ : ∃ c, atI (dg.map V.int) j = some (.int c) := ⟨dg[j.toNat]'(by omega), by rw [atI_at k0 (by rw [List.length_map]; exact k1), List.getElem_map]⟩
    refine ⟨.ref am, rfl, am, .ref ad, rfl, DGet.k (k := Sum.inr "digits") g1, .int j, rfl, ad, _, _, _, rfl, rfl, .inl (.inl g3), gj, .int c, rfl, 1, rfl, show 2 ≤ sizeLine from small_line (by decide), fun t nt => ?_⟩
    have s2 : Same H2 (upd H2 t (.tup [.int 0, .int (-1)])) := fun b o z => by rw [upd_ne (fun q => by rw [q, nt] at z; cases z)]; exact z
    have ft : upd H2 t (.tup [.int 0, .int (-1)]) t = some (.tup [.int 0, .int (-1)]) := upd_same
    generalize upd H2 t (.tup [.int 0, .int (-1)]) = H3 at s2 ft ⊢
    refine ⟨t, _, rfl, .inr (.inl (.inl ft)), rfl, rfl, _, rfl, ite2 (fun z => ?_) fun z => ?_⟩
    · have nj : ixN (dg.map V.int).length j = some j.toNat := ixN_at k0 (by rw [List.length_map]; exact k1)
      refine ⟨.int c, rfl, .int many, rfl, c, many, rfl, rfl, nd_small (b := 8000) (by omega) hb, .ref am, rfl, am, .ref ad, rfl, DGet.k (k := Sum.inr "digits") (s2 _ _ g1), .int j, rfl, ad, _, j, j.toNat, rfl, rfl, s2 _ _ g3, nj,
        .int c, rfl, .int many, rfl, c, many, rfl, rfl, by omega, ?_⟩
      refine fin _ (dg.set j.toNat (c.fdiv many)) _ ?_ ?_ ?_ (List.length_set ..) (fun a o z e => ?_) (Int.fmod_nonneg_of_pos _ hp) (Int.fmod_lt_of_pos _ hp)
      · rw [upd_ne x2]; exact s2 _ _ g1
      · rw [upd_ne x3]; exact s2 _ _ g2
      · rw [upd_same, List.map_set]
      · rw [upd_ne (fun q => z (by rw [q]; simp))]; exact s2 _ _ (s1 _ _ (kp a o z e))
    · exact last H3 _ _ (s1.trans s2)
abbrev t_begun (K : PySem.W.Frag) (E : L2.St → XK) : TS :=
  tSeq (tAsg (tDisp [(tC (V.str "cells"), tCallSD (hFold K) [] E (tCons (tVar 0) tNil)), (tC (V.str "digits"), tLst tNil), (tC (V.str "at"), tC (V.int 0))]) (gName 1))
    (tSeq (tIfS (tAnd (tTest (tOp (rNeD K) (tVar 0) (tLst tNil))) (tTest (tOp rEq (tMod (tOp (rIxL K) (tVar 0) (tC (V.int 0))) (tC (V.int 2))) (tC (V.int 1)))))
      (sDPut (tVar 1) (tC (V.str "digits")) (tOp rCat (tLst (tCons (tDiv (tOp (rIxL K) (tVar 0) (tC (V.int 0))) (tC (V.int 2))) tNil)) (tSl (rSlL K) (tVar 0) (tPart (tC (V.int 1))) tNoPart)))
      tNext)
    (tRet (tVar 1)))
theorem same_new {H : Hp} {p : Addr} {o : HO} (n : H p = none) : Same H (upd H p o) := fun b x z => by rw [upd_ne (fun q => by rw [q, n] at z; cases z)]; exact z
theorem ne_none {H : Hp} {p q : Addr} {o : HO} (e : H p = some o) (n : H q = none) : p ≠ q := fun z => by rw [z, n] at e; cases e
theorem none_back {H H' : Hp} {a : Addr} (s : Same H H') (n : H' a = none) : H a = none := by
  cases e : H a with
  | none => rfl
  | some o => rw [s _ _ e] at n; cases n
theorem rd_begun {mg : Str → Option Value} {vs : List V} {H : Hp} {Q : VK} {X : XK} (h : spD K mg DrW s0__law_begun vs H Q X) : t_begun K E { nx := fun _ H' => Q .non H', rt := Q } (L2.start N__law_begun vs) H := by
  obtain ⟨F0, m, ds, Qd, Zd, rz, dv, ⟨ns, rfl, hl, rfl, q⟩, hq, _⟩ := h
  have rz : F0 = [] := rz
  subst rz
  cases dv with
  | cons d1 dv =>
  cases dv
  cases d1 with
  | lst hs hr =>
  rename_i a xs
  have hx := hr.ints_inv
  subst hx
  have hs : SqL K H a (ns.map V.int) := Ls.mono (s := false) (fun _ _ => wv_le) hs
  refine fun p np => ⟨.ref a, rfl, a, ns, rfl, (same_new np).seq hs, hl, fun cs c H1 s1 nc ec lc bc => ⟨Nat.zero_le _, fun g ng => ⟨?_, [(Sum.inr "cells", .ref c), (Sum.inr "digits", .ref g), (Sum.inr "at", .int 0)], rfl, (show 3 ≤ 15 by decide), ?_⟩⟩⟩
  · exact same_new ng _ _ (s1 _ _ upd_same)
  show tSeq _ _ _ [some (.ref a), some (.ref p)] (upd (upd H1 g (.lst [])) p (.dK (drV c g 0)))
  have npc : p ≠ c := fun z => by rw [← z, upd_same] at nc; cases nc
  have ncH : H c = none := by rw [upd_ne npc.symm] at nc; exact nc
  have ep1 : H1 p = some (.dK []) := s1 _ _ upd_same
  have npg : p ≠ g := ne_none ep1 ng
  have ncg : c ≠ g := ne_none ec ng
  have sH : ∀ b o, H b = some o → H1 b = some o := fun b o e => s1 _ _ (same_new np _ _ e)
  have ngH : H g = none := none_back sH ng
  have f1 : upd (upd H1 g (.lst [])) p (.dK (drV c g 0)) p = some (.dK (drV c g 0)) := upd_same
  have f2 : upd (upd H1 g (.lst [])) p (.dK (drV c g 0)) c = some (.lst (cs.map V.int)) := by rw [upd_ne npc.symm, upd_ne ncg]; exact ec
  have f3 : upd (upd H1 g (.lst [])) p (.dK (drV c g 0)) g = some (.lst []) := by rw [upd_ne npg.symm, upd_same]
  have s2 : Same H (upd (upd H1 g (.lst [])) p (.dK (drV c g 0))) := fun b o e => by
    rw [upd_ne (fun z => by rw [z, np] at e; cases e), upd_ne (fun z => by rw [z, ngH] at e; cases e)]
    exact sH b o e
  generalize upd (upd H1 g (.lst [])) p (.dK (drV c g 0)) = H2 at f1 f2 f3 s2 ⊢
  have fin : ∀ (H' : Hp) (d : Addr) (dg : List Int), H d = none → d ≠ p → d ≠ c → H' p = some (.dK (drV c d 0)) → H' c = some (.lst (cs.map V.int)) → H' d = some (.lst (dg.map V.int)) → dg.length < sizeLine → Same H H' → Q (.ref p) H' :=
    fun H' d dg nd n1 n2 e1 e2 e3 ld s => hq (.ref p) H' [p, c, d] (.hnd 0) (some (2 ^ 50)) ⟨p, c, d, cs, dg, 0, rfl, npc, n1.symm, n2.symm, e1, e2, e3, by decide, by decide, lc, bc, ld⟩ ⟨[p, c, d], rfl⟩
      (fun x hx _ => by simp only [List.mem_cons, List.not_mem_nil, or_false] at hx; rcases hx with rfl | rfl | rfl <;> assumption) (fun x o _ e => s x o e) (.hnd rfl) q
  have hs2 : SqL K H2 a (ns.map V.int) := s2.seq hs
  refine ⟨.ref a, rfl, Nat.zero_le _, fun t nt => ?_⟩
  have s3 := same_new (o := .lst []) nt
  have et : upd H2 t (.lst []) t = some (.lst []) := upd_same
  generalize upd H2 t (.lst []) = H3 at s3 et ⊢
  have dn : Dn false K [] H3 (.ref a) (.lst (zz ns)) := .lst (show Ls false K H3 a _ from s3.seq hs2) (ints_dn ns)
  have dn0 : Dn true K [] H3 (.ref t) (.lst (zz [])) := .lst (show Ls true K H3 t _ from et) .nil
  refine ⟨_, _, dn.dp (n := 8) (fun _ _ h => h) (q_lst ns), dn0.dp (n := 8) (fun _ _ h => h) (q_lst []), shaped_q (q_lst ns), shaped_q (q_lst []), _, rfl, ?_⟩
  rw [py_eqv (q_lst (n := 7) ns) (q_lst []), eqv_lst]
  have skip : ∀ H', Same H2 H' → Q (.ref p) H' := fun H' s => fin H' g [] ngH npg.symm ncg.symm (s _ _ f1) (s _ _ f2) (s _ _ f3) (lt_line (show 0 < 16777216 by decide)) (s2.trans s)
  by_cases hn : ns = []
  · rw [decide_eq_true hn]
    exact iteF ⟨.ref p, rfl, skip _ s3⟩
  · rw [decide_eq_false hn]
    refine iteT ?_
    obtain ⟨x, r, rfl⟩ := List.exists_cons_of_ne_nil hn
    have hs3 := s3.seq hs2
    have g0 : atI ((x :: r).map V.int) 0 = some (.int x) := atI_nat (j := 0) rfl
    refine ⟨.ref a, rfl, a, _, 0, _, rfl, rfl, hs3, g0, x, 2, rfl, rfl, (by decide : (2 : Int) ≠ 0), rfl, _, rfl, ite2 (fun _ => ?_) fun _ => ⟨.ref p, rfl, skip _ s3⟩⟩
    refine ⟨.ref a, rfl, a, _, 0, _, rfl, rfl, hs3, g0, x, 2, rfl, rfl, nd_small (b := 8) (by decide) (bd_lit (by decide)), show 1 ≤ sizeLine from small_line (by decide), fun u nu => ?_⟩
    have s4 := same_new (o := .lst [.int (x.fdiv 2)]) nu
    have eu : upd H3 u (.lst [.int (x.fdiv 2)]) u = some (.lst [.int (x.fdiv 2)]) := upd_same
    generalize upd H3 u (.lst [.int (x.fdiv 2)]) = H4 at s4 eu ⊢
    refine ⟨.ref a, rfl, 1, rfl, a, _, rfl, s4.seq hs3, fun v nv => ?_⟩
    have s5 := same_new (o := .lst (cutV ((x :: r).map V.int) (some 1) none)) nv
    have ev : upd H4 v (.lst (cutV ((x :: r).map V.int) (some 1) none)) v = some (.lst (cutV ((x :: r).map V.int) (some 1) none)) := upd_same
    generalize upd H4 v (.lst (cutV ((x :: r).map V.int) (some 1) none)) = H5 at s5 ev ⊢
    have lcut := cutV_length ((x :: r).map V.int) (some 1) none
    rw [List.length_map] at lcut
    refine ⟨u, v, _, _, rfl, rfl, s5 _ _ eu, ev, small_line (by rw [List.length_singleton]; omega), fun y ny => ?_⟩
    obtain ⟨more, em, lm⟩ : ∃ more : List Int, cutV ((x :: r).map V.int) (some 1) none = more.map V.int ∧ more.length ≤ 63 := by
      refine ⟨_, show List.take _ (List.drop _ (List.map V.int (x :: r))) = _ by rw [← List.map_drop, ← List.map_take], ?_⟩
      rw [List.length_take, List.length_drop]; omega
    rw [em]
    have s6 := same_new (o := .lst ([V.int (x.fdiv 2)] ++ more.map V.int)) ny
    have ey : upd H5 y (.lst ([V.int (x.fdiv 2)] ++ more.map V.int)) y = some (.lst ([V.int (x.fdiv 2)] ++ more.map V.int)) := upd_same
    have sA := ((s3.trans s4).trans s5)
    have nyH : H2 y = none := none_back sA ny
    generalize upd H5 y (.lst ([V.int (x.fdiv 2)] ++ more.map V.int)) = H6 at s6 ey ⊢
    have sB := sA.trans s6
    have nyp : y ≠ p := (ne_none f1 nyH).symm
    have nyc : y ≠ c := (ne_none f2 nyH).symm
    refine ⟨.ref p, rfl, p, upd H6 p (.dK (drV c y 0)), rfl, DPut.k (k := Sum.inr "digits") (sB _ _ f1) (lt_line (show 3 < 16777216 by decide)), .ref p, rfl, ?_⟩
    refine fin _ y (x.fdiv 2 :: more) (none_back s2 nyH) nyp nyc upd_same ?_ ?_ (lt_line (by rw [List.length_cons]; omega)) fun b o e => ?_
    · rw [upd_ne npc.symm]; exact sB _ _ f2
    · rw [upd_ne nyp]; exact ey
    · rw [upd_ne (fun z => by rw [z, np] at e; cases e)]; exact sB _ _ (s2 _ _ e)
end
/-! ### the parts put together -/
theorem okK_len : ∀ {ks : List Bool} {ds : List D}, okK ks ds → ds.length = ks.length
  | [], [], _ => rfl
  | [], _ :: _, h => h.elim
  | _ :: _, [], h => h.elim
  | _ :: _, _ :: _, h => congrArg (· + 1) (okK_len h.2)
section
variable {P : Program} {w : World} {K : PySem.W.Frag} {mg : Str → Option Value} {base : Heap} {W : Wd}
theorem Dfn.go {g x : Str} {st : Stmt} {N ps : List Str} {k : Nat} {sp : DSp W.M} {t : DS W.M} (F : Dfn K mg g x st ps) (ks : List Bool) (S : FnScope N ps (defScope st)) (body : BodyJ P w K mg base W k N x st t)
    (vc : ∀ ds m Q Z, sp ds m Q Z → okK ks ds ∧ t { nx := fun _ m' => Q .non m', rt := Q, ex := Z } (st0 ks ds N.length) m) (hk : ks.length = ps.length := by rfl) (hn : ps.length ≤ N.length := by decide) : FD P w K mg base W (k + 1) g [] sp :=
  F.fd ks S body (fun ds m Q Z h => by rw [okK_len (vc ds m Q Z h).1, hk]) vc hn
/-- what a law asks of itself -/
def s_law : DSp (Option Nat) := fun ds m Q Z => ∃ ns : List Int, ds = [.lst (zz ns)] ∧ ns.length ≤ 63 ∧ m = none ∧ ∀ m', Q (.bl true) m'
theorem law_go {st : Stmt} {f : Addr} {fd : FuncData} {N ps : List Str} {k : Nat} {t : DS (Option Nat)} (F : Fun K "law" "law" st f fd) (S : FnScope N ps (defScope st)) (body : BodyJ P w K mg base DrW k N "law" st t)
    (vc : ∀ ds m Q Z, s_law ds m Q Z → okK [true] ds ∧ t { nx := fun _ m' => Q .non m', rt := Q, ex := Z } (st0 [true] ds N.length) m) (hk : ps.length = 1 := by rfl) (hn : ps.length ≤ N.length := by decide) : FnG P w K mg base (L2.CX P w) (k + 1) f fd ps (spLaw K) :=
  law_of (W := DrW) (m0 := none) (sp := s_law) (fn_data (W := DrW) [true] F S (fun ds m Q Z h => (okK_len (vc ds m Q Z h).1).trans hk.symm) hn (body f) vc) (fun _ => (rfl : ([] : List Addr) = [])) fun ns hl => ⟨ns, rfl, hl, rfl, fun _ => rfl⟩
end
end RR

/-! RRec: a def that calls itself: the promise of depth nought is kept by every def -/
namespace RR
open PySem PySem.Spec PyProof.Rows L2
section
variable {P : Program} {w : World} {K : PySem.W.Frag} {mg : Str → Option Value} {base : Heap} {W : Wd}
end
end RR

/-! RMx: a world that holds a matrix beside another world -/
namespace RR
open PySem PySem.Spec PyProof.Rows L2
abbrev Mx := Nat × List (List Int)
section
variable {X : Cx} {W : Wd} {n0 : Nat} {H0 : Hp} {F0 : List Addr} {wx : WX}
/-- what the names hold as data -/
def SV (K : PySem.W.Frag) (C : Cn) (Pr : Addr → Prop) (F : List Addr) (σ : L2.St) (ρ : En) (H : Hp) : Prop := ∀ (i : Nat) (d : D), ρ[i]? = some (.val d) → ∃ v, σ[i]? = some (some v) ∧ Dn true K F (sv C.H0 Pr H) v d
theorem SV.poke {K : PySem.W.Frag} {C : Cn} {Pr : Addr → Prop} {F : List Addr} {σ : L2.St} {ρ : En} {H : Hp} {p : Addr} {us vs : List V} (S : SV K C Pr F σ ρ H) (pp : Pr p) (hp : H p = some (.lst us)) : SV K C Pr F σ ρ (upd H p (.lst vs)) := fun i d e => by
  obtain ⟨v, a, h⟩ := S i d e
  refine ⟨v, a, h.mono ⟨[], by simp⟩ fun a o e => ?_⟩
  obtain ⟨x, y⟩ := vw_iff.mp e
  refine vw_iff.mpr ⟨?_, y⟩
  rw [upd_ne]
  · exact x
  · intro z
    rcases y with y | y
    · rw [z, hp] at x; cases x; exact y
    · exact y.2.1 (z ▸ pp)
end
end RR

/-! RMx2: a matrix is made of new rows; a def over a matrix -/
namespace RR
open PySem PySem.Spec PyProof.Rows L2
section
variable {X : Cx} {W : Wd} {n0 : Nat} {H0 : Hp} {F0 : List Addr} {wx : WX}
variable {elt tg iter : Expr} {scope : Scope} {own : List (Str × Nat)} {ti : DTA (W.M × Option Mx)} {g : DG} {de : DT (W.M × Option Mx)} {ws : List Nat}
end
section
variable {P : Program} {w : World} {K : PySem.W.Frag} {mg : Str → Option Value} {base : Heap} {W : Wd}
end
end RR

/-! RTx: texts sign by sign, parts of texts, dicts of the module with text keys -/
namespace RR
open PySem PySem.Spec PyProof.Rows L2
section
variable {X : Cx} {C : Cn} {e f a b : Expr} {ta tb : DT C.W.M} {pos : Pos}
end
/-! ### texts told several times -/
section
variable {X : Cx} {C : Cn}
end
/-! ### dicts of the module -/
def ValT (d : D) (v : Value) : Prop := (∃ i t, d = .int i ∧ v = .int i t) ∨ ∃ z t, d = .str z ∧ v = .str z t
theorem ValT.rel {d : D} {u : Value} (h : ValT d u) : ∃ v, RelV v u ∧ (∀ (s : Bool) (K : PySem.W.Frag) (F : List Addr) (G : Hp), Dn s K F G v d) ∧ ∀ ds, d ≠ .lst ds := by
  rcases h with ⟨i, t, rfl, rfl⟩ | ⟨i, t, rfl, rfl⟩
  · exact ⟨.int i, ⟨t, rfl⟩, fun _ _ _ _ => .int i, fun _ h => nomatch h⟩
  · exact ⟨.str i, ⟨t, rfl⟩, fun _ _ _ _ => .str i, fun _ h => nomatch h⟩
section
variable {X : Cx} {C : Cn} {e f a b : Expr} {ta tb : DT C.W.M} {pos : Pos} {nm : Str} {tab : List (Str × D)}
end
end RR

/-! RPx: expressions that take items out of lists of the own -/
namespace RR
open PySem PySem.Spec PyProof.Rows L2
section
variable {X : Cx} {C : Cn} {e : Expr} {es : List Expr} {pos : Pos}
end
section
variable {M : Type} {ρ : En} {m : M} {nx bk ct : En → M → Prop} {rt : D → M → Prop} {ex : Str → M → Prop} {ds : List D} {d : D} {Z : Str → M → Prop}
end
end RR

/-! RO: a world that holds an instance of an own class beside another world -/
namespace RR
open PySem PySem.Spec PyProof.Rows L2
section
variable {X : Cx} {CT : CXT} {k : Nat} {f C : Addr} {fd : FuncData} {ps : List Str} {sp : Sp} {ds : List Value} {dvs : List V} {E : L2.St → XK} {x m : Str} {p pos apos : Pos} {e o : Expr} {es : List Expr} {ta : TE} {t : TA}
end
end RR

/-! RO2: the world with an instance; its fields read and stored, its methods called -/
namespace RR
open PySem PySem.Spec PyProof.Rows L2
mutual
/-- none, truths, numbers, texts, tuples of such -/
def D.pl : D → Bool
  | .non => true
  | .bl _ => true
  | .int _ => true
  | .str _ => true
  | .tup xs => D.pls xs
  | _ => false
def D.pls : List D → Bool
  | [] => true
  | x :: r => x.pl && D.pls r
end
mutual
theorem pl_nl : ∀ {d : D}, d.pl = true → d.nl = true
  | .non, _ => rfl
  | .bl _, _ => rfl
  | .int _, _ => rfl
  | .str _, _ => rfl
  | .tup xs, h => pls_nls (show D.pls xs = true from h)
  | .lst _, h => by cases h
  | .hnd _, h => by cases h
  | .dic, h => by cases h
  | .exc _, h => by cases h
  | .fn _, h => by cases h
  | .ptr _, h => by cases h
theorem pls_nls : ∀ {ds : List D}, D.pls ds = true → D.nls ds = true
  | [], _ => rfl
  | x :: r, h => by
    rw [D.pls, Bool.and_eq_true] at h
    rw [D.nls, pl_nl h.1, pls_nls h.2]; rfl
end
mutual
theorem Dn.plain {s s' : Bool} {K : PySem.W.Frag} {F F' : List Addr} {G G' : Hp} (hG : ∀ a xs, G a = some (.tup xs) → G' a = some (.tup xs)) : ∀ {v : V} {d : D}, Dn s K F G v d → d.pl = true → Dn s' K F' G' v d
  | _, _, .non, _ => .non
  | _, _, .bl b, _ => .bl b
  | _, _, .int i, _ => .int i
  | _, _, .str x, _ => .str x
  | _, _, .tup h r, n => .tup (h.mono hG) (DnA.plain hG r n)
  | _, _, .lst h r, n => by cases n
  | _, _, .hnd h, n => by cases n
  | _, _, .dic h, n => by cases n
  | _, _, .exc h c, n => by cases n
  | _, _, .fn h, n => by cases n
  | _, _, .ptr, n => by cases n
theorem DnA.plain {s s' : Bool} {K : PySem.W.Frag} {F F' : List Addr} {G G' : Hp} (hG : ∀ a xs, G a = some (.tup xs) → G' a = some (.tup xs)) : ∀ {vs : List V} {ds : List D}, DnA s K F G vs ds → D.pls ds = true → DnA s' K F' G' vs ds
  | _, _, .nil, _ => .nil
  | _, _, .cons h r, n => by
    rw [D.pls, Bool.and_eq_true] at n
    exact .cons (Dn.plain hG h n.1) (DnA.plain hG r n.2)
end
/-- what a field holds: data without lists, or a list of its own of such -/
inductive FV where
  | val (d : D) | lst (ds : List D) | free (ds : List D)
/-- the tuples of a heap -/
noncomputable def tv (H : Hp) : Hp := vw (fun _ o => IsT o) H
theorem tv_mono {H H' : Hp} (t : ∀ a o, IsT o → H a = some o → H' a = some o) : ∀ a o, tv H a = some o → tv H' a = some o := fun a o h => by
  obtain ⟨e, i⟩ := vw_iff.mp h
  exact vw_iff.mpr ⟨t a o i e, i⟩
inductive FvAt (K : PySem.W.Frag) (H : Hp) : List Addr → List (Str × FV) → List (Str × V) → Prop
  | nil : FvAt K H [] [] []
  | val {ls : List Addr} {fs : List (Str × FV)} {fv : List (Str × V)} {n : Str} {d : D} {v : V} : Dn true K [] (tv H) v d → d.pl = true → FvAt K H ls fs fv → FvAt K H ls ((n, .val d) :: fs) ((n, v) :: fv)
  | lst {ls : List Addr} {fs : List (Str × FV)} {fv : List (Str × V)} {n : Str} {ds : List D} {vs : List V} {l : Addr} : H l = some (.lst vs) → DnA true K [] (tv H) vs ds → D.pls ds = true → FvAt K H ls fs fv → FvAt K H (l :: ls) ((n, .lst ds) :: fs) ((n, .ref l) :: fv)
  | free {ls : List Addr} {fs : List (Str × FV)} {fv : List (Str × V)} {n : Str} {ds : List D} {vs : List V} {l : Addr} : H l = some (.lst vs) → DnA true K [] (tv H) vs ds → D.pls ds = true → FvAt K H ls fs fv → FvAt K H (l :: ls) ((n, .free ds) :: fs) fv
theorem FvAt.mono {K : PySem.W.Frag} {H H' : Hp} {ls : List Addr} {fs : List (Str × FV)} {fv : List (Str × V)} (h : FvAt K H ls fs fv) (k : ∀ a ∈ ls, H' a = H a) (t : ∀ a o, IsT o → H a = some o → H' a = some o) : FvAt K H' ls fs fv := by
  induction h with
  | nil => exact .nil
  | val a b _ ih => exact .val (a.mono ⟨[], rfl⟩ (tv_mono t)) b (ih k)
  | @lst ls fs fv n ds vs l a b c _ ih => exact .lst (by rw [k l (List.mem_cons_self ..)]; exact a) (b.mono ⟨[], rfl⟩ (tv_mono t)) c (ih fun x hx => k x (List.mem_cons_of_mem _ hx))
  | @free ls fs fv n ds vs l a b c _ ih => exact .free (by rw [k l (List.mem_cons_self ..)]; exact a) (b.mono ⟨[], rfl⟩ (tv_mono t)) c (ih fun x hx => k x (List.mem_cons_of_mem _ hx))
theorem FvAt.there {K : PySem.W.Frag} {H : Hp} {ls : List Addr} {fs : List (Str × FV)} {fv : List (Str × V)} (h : FvAt K H ls fs fv) : ∀ a ∈ ls, ∃ vs, H a = some (.lst vs) := by
  induction h with
  | nil => intro a ha; exact absurd ha List.not_mem_nil
  | val _ _ _ ih => exact ih
  | lst a _ _ _ ih =>
    intro x hx
    rcases List.mem_cons.mp hx with rfl | hx
    · exact ⟨_, a⟩
    · exact ih x hx
  | free a _ _ _ ih =>
    intro x hx
    rcases List.mem_cons.mp hx with rfl | hx
    · exact ⟨_, a⟩
    · exact ih x hx
/-- an own field of the name f -/
def fget (f : Str) (fs : List (Str × FV)) : Option FV := fs.lookup f
theorem FvAt.get {K : PySem.W.Frag} {H : Hp} {ls : List Addr} {fs : List (Str × FV)} {fv : List (Str × V)} (h : FvAt K H ls fs fv) (f : Str) : (fget f fs = none → fv.lookup f = none) ∧ (∀ d, fget f fs = some (.val d) → ∃ v, fv.lookup f = some v ∧ Dn true K [] (tv H) v d ∧ d.pl = true) ∧
    ∀ ds, fget f fs = some (.lst ds) → ∃ l vs, fv.lookup f = some (.ref l) ∧ l ∈ ls ∧ H l = some (.lst vs) ∧ DnA true K [] (tv H) vs ds ∧ D.pls ds = true := by
  unfold fget
  induction h with
  | nil => exact ⟨fun _ => rfl, fun d e => (nomatch e), fun ds e => (nomatch e)⟩
  | @val ls fs fv n d v a b _ ih =>
    by_cases q : f = n
    · subst q
      have hb : (f == f) = true := beq_self_eq_true f
      simp only [List.lookup, hb]
      exact ⟨fun e => (nomatch e), fun d' e => by cases e; exact ⟨v, rfl, a, b⟩, fun ds e => (nomatch e)⟩
    · have hb : (f == n) = false := beq_eq_false_iff_ne.mpr q
      simp only [List.lookup, hb]
      exact ih
  | @lst ls fs fv n ds vs l a b c _ ih =>
    by_cases q : f = n
    · subst q
      have hb : (f == f) = true := beq_self_eq_true f
      simp only [List.lookup, hb]
      exact ⟨fun e => (nomatch e), fun d e => (nomatch e), fun ds' e => by cases e; exact ⟨l, vs, rfl, List.mem_cons_self .., a, b, c⟩⟩
    · have hb : (f == n) = false := beq_eq_false_iff_ne.mpr q
      simp only [List.lookup, hb]
      exact ⟨ih.1, ih.2.1, fun ds' e => by
        obtain ⟨l', vs', x1, x2, x3⟩ := ih.2.2 ds' e
        exact ⟨l', vs', x1, List.mem_cons_of_mem _ x2, x3⟩⟩
  | @free ls fs fv n ds vs l a b c _ ih =>
    by_cases q : f = n
    · subst q
      have hb : (f == f) = true := beq_self_eq_true f
      simp only [List.lookup, hb]
      exact ⟨fun e => (nomatch e), fun d e => (nomatch e), fun ds' e => (nomatch e)⟩
    · have hb : (f == n) = false := beq_eq_false_iff_ne.mpr q
      simp only [List.lookup, hb]
      exact ⟨ih.1, ih.2.1, fun ds' e => by
        obtain ⟨l', vs', x1, x2, x3⟩ := ih.2.2 ds' e
        exact ⟨l', vs', x1, List.mem_cons_of_mem _ x2, x3⟩⟩
section
variable {X : Cx} {Cl : Addr} {W : Wd} {H0 : Hp} {F0 : List Addr} {wx : WX}
/-- a reading that leaves the heap alone -/
def JH (X : Cx) (C : Cn) (e : Expr) (t : En → C.W.M → (D → Prop) → Prop) : Prop := ∃ te, PE X e te ∧
  ∀ σ H Pr F ρ m Q (R : VK), SR X.K C Pr F σ ρ m H → t ρ m Q → (∀ v d, Dn true X.K F (sv C.H0 Pr H) v d → (∀ ds, d ≠ .lst ds) → Q d → R v H) → te σ H R
def dH {M : Type} (t : En → M → (D → Prop) → Prop) : DT M := fun ρ m Q _ => t ρ m fun d => Q d m
theorem JH.j {C : Cn} {e : Expr} {t : En → C.W.M → (D → Prop) → Prop} (h : JH X C e t) : J .f X C e (dH t) := by
  obtain ⟨te, p, q⟩ := h
  exact ⟨te, p, fun σ H Pr F ρ m Q Z R S E h k => q σ H Pr F ρ m _ R S h fun v d dv n z => k v H (post_here S dv n z)⟩
end
end RR

/-! RO3: fields stored, lists of an instance changed, methods called -/
namespace RR
open PySem PySem.Spec PyProof.Rows L2
theorem FvAt.other {K : PySem.W.Frag} {H : Hp} {l : Addr} {us vs : List V} {ls : List Addr} {fs : List (Str × FV)} {fv : List (Str × V)} (h : FvAt K H ls fs fv) (n : l ∉ ls) (hl : H l = some (.lst us)) : FvAt K (upd H l (.lst vs)) ls fs fv :=
  h.mono (fun a ha => upd_ne fun z => n (z ▸ ha)) fun a o it e => by rw [upd_ne (fun z => by rw [z, hl] at e; cases e; exact it)]; exact e
section
variable {X : Cx} {Cl : Addr} {W : Wd} {H0 : Hp} {F0 : List Addr} {wx : WX}
end
end RR

/-! RO4: methods: called, by their bodies; an instance made and asked at once -/
namespace RR
open PySem PySem.Spec PyProof.Rows L2
/-- a method m of the class at Cl -/
def FM (P : Program) (w : World) (K : PySem.W.Frag) (mg : Str → Option Value) (base : Heap) (W : Wd) (k : Nat) (Cl : Addr) (m : Str) (sp : DSp W.M) : Prop :=
  ∃ f fd ps, FnG P w K mg base (L2.CX P w) k f fd ps (spD K mg W sp) ∧ Meth K Cl m f ∧ Binds K fd ps []
theorem FM.mono {P : Program} {w : World} {K : PySem.W.Frag} {mg : Str → Option Value} {base : Heap} {W : Wd} {Cl : Addr} {m : Str} {sp : DSp W.M} {j k : Nat} (h : FM P w K mg base W j Cl m sp) (l : j ≤ k) : FM P w K mg base W k Cl m sp := by
  obtain ⟨f, fd, ps, F, r⟩ := h
  exact ⟨f, fd, ps, F.mono l, r⟩
section
variable {X : Cx} {Cl : Addr} {W : Wd} {H0 : Hp} {F0 : List Addr} {wx : WX}
end
/-- a method of the text -/
structure DfnM (K : PySem.W.Frag) (Cl : Addr) (m ql : Str) (st : Stmt) (ps : List Str) : Prop where
  ex : ∃ f fd, Fun K m ql st f fd ∧ Meth K Cl m f ∧ Binds K fd ps []
section
variable {P : Program} {w : World} {K : PySem.W.Frag} {mg : Str → Option Value} {base : Heap} {W : Wd} {Cl : Addr}
theorem DfnM.go {m ql : Str} {st : Stmt} {N ps : List Str} {k : Nat} {sp : DSp W.M} {t : DS W.M} (F : DfnM K Cl m ql st ps) (ks : List Bool) (S : FnScope N ps (defScope st)) (body : BodyJ P w K mg base W k N ql st t)
    (vc : ∀ ds m Q Z, sp ds m Q Z → okK ks ds ∧ t { nx := fun _ m' => Q .non m', rt := Q, ex := Z } (st0 ks ds N.length) m) (hk : ks.length = ps.length := by rfl) (hn : ps.length ≤ N.length := by decide) : FM P w K mg base W (k + 1) Cl m sp := by
  obtain ⟨f, fd, Fn, hm, b⟩ := F.ex
  exact ⟨f, fd, ps, fn_dataR ks (fun ln bd => okG Fn S ln bd) (fun ds m Q Z h => by rw [okK_len (vc ds m Q Z h).1, hk]) hn (body f) vc, hm, b⟩
end
end RR

/-! RO5: an instance is made and asked at once; its first fields; its lists empty or not -/
namespace RR
open PySem PySem.Spec PyProof.Rows L2
/-- the list that stands at a place among the lists of an instance -/
def lnth : Nat → List (Str × FV) → Option (List D)
  | _, [] => none
  | n, (_, .val _) :: r => lnth n r
  | 0, (_, .lst ds) :: _ => some ds
  | n + 1, (_, .lst _) :: r => lnth n r
  | 0, (_, .free _) :: _ => none
  | n + 1, (_, .free _) :: r => lnth n r
theorem FvAt.nth {K : PySem.W.Frag} {H : Hp} {ls : List Addr} {fs : List (Str × FV)} {fv : List (Str × V)} (h : FvAt K H ls fs fv) : ∀ {n : Nat} {ds : List D} {l : Addr}, lnth n fs = some ds → ls[n]? = some l → ∃ vs, H l = some (.lst vs) ∧ DnA true K [] (tv H) vs ds ∧ D.pls ds = true := by
  induction h with
  | nil => intro n ds l e; cases n <;> cases e
  | val _ _ _ ih =>
    intro n ds l e el
    cases n <;> exact ih e el
  | lst a b c _ ih =>
    intro n ds l e el
    cases n with
    | zero => cases e; cases el; exact ⟨_, a, b, c⟩
    | succ n => exact ih e el
  | free a b c _ ih =>
    intro n ds l e el
    cases n with
    | zero => cases e
    | succ n => exact ih e el
section
variable {X : Cx} {Cl : Addr} {W : Wd} {H0 : Hp} {F0 : List Addr} {wx : WX}
theorem FvAt.few {K : PySem.W.Frag} {H : Hp} {ls : List Addr} {fs : List (Str × FV)} {fv : List (Str × V)} (h : FvAt K H ls fs fv) : fv.length ≤ fs.length := by
  induction h with
  | nil => exact Nat.le_refl _
  | val _ _ _ ih => simp only [List.length_cons]; omega
  | lst _ _ _ _ ih => simp only [List.length_cons]; omega
  | free _ _ _ _ ih => simp only [List.length_cons]; omega
end
end RR

/-! RO6: an instance made and asked at once; its lists empty or not -/
namespace RR
open PySem PySem.Spec PyProof.Rows L2
section
variable {X : Cx} {Cl : Addr} {W : Wd} {H0 : Hp} {F0 : List Addr} {wx : WX}
/-! ### self.f == [], self.f != [] -/
end
end RR

/-! RO7: C(x).m() of a list of the own; x = e, a list or not; x.pop(k); range(i, j, -1) -/
namespace RR
open PySem PySem.Spec PyProof.Rows L2
/-- a heap without one place -/
def hdel (H : Hp) (p : Addr) : Hp := fun a => if a = p then none else H a
theorem hdel_ne {H : Hp} {p a : Addr} (h : a ≠ p) : hdel H p a = H a := if_neg h
section
variable {K : PySem.W.Frag} {C : Cn} {Pr : Addr → Prop} {F : List Addr} {σ : L2.St} {ρ : En} {m : C.W.M} {H : Hp}
theorem SR.without (S : SR K C Pr F σ ρ m H) {i : Nat} {ds : List D} {p : Addr} (e : ρ[i]? = some (.own ds)) (e1 : σ[i]? = some (some (.ref p))) : SR K C (fun a => Pr a ∧ a ≠ p) F σ (ρ.set i .un) m (hdel H p) := by
  obtain ⟨p', vs, e2, hp, pp, nf, h4⟩ := S.slot i _ e
  rw [e1] at e2; cases e2
  have h0p : C.H0 p = none := S.prn p pp nf
  have up : ∀ a o, sv C.H0 Pr H a = some o → sv C.H0 (fun a => Pr a ∧ a ≠ p) (hdel H p) a = some o := fun a o h => by
    obtain ⟨h1, h2⟩ := vw_iff.mp h
    have na : a ≠ p := fun q => by
      subst q
      rcases h2 with h2 | h2
      · rw [hp] at h1; cases h1; exact h2
      · exact h2.2.1 pp
    exact vw_iff.mpr ⟨by rw [hdel_ne na]; exact h1, h2.imp id fun q => ⟨q.1, fun z => q.2.1 z.1, q.2.2⟩⟩
  refine ⟨fun a o n h => ?_, S.pre, S.new, fun a h => ?_, fun a h n => S.prn a h.1 n, fun a h => ⟨S.prf a h, fun q => nf (q ▸ h)⟩, C.W.keep S.rz (fun a h => hdel_ne fun q => nf (q ▸ h)) (fun a o it h => by rw [hdel_ne (fun q => by rw [q, hp] at h; cases h; exact it)]; exact h), by simpa using S.len, fun j s ej => ?_, fun a b ds' es' q ne ea eb sa sb => ?_⟩
  · rw [hdel_ne (fun q => by rw [q, h0p] at h; cases h)]
    exact S.keep a o n h
  · obtain ⟨o, h1, h2⟩ := S.prs a h.1
    exact ⟨o, by rw [hdel_ne h.2]; exact h1, h2⟩
  · rcases get_set ej with ⟨rfl, rfl⟩ | ⟨ne, ej⟩
    · trivial
    · cases s with
      | un => trivial
      | bor d => exact S.slot j _ ej
      | val d =>
        obtain ⟨v, e1, q⟩ := S.slot j _ ej
        exact ⟨v, e1, q.mono ⟨[], by simp⟩ up⟩
      | own ds' =>
        obtain ⟨q, ws', e3, h1, h2, h3, h4⟩ := S.slot j _ ej
        have nq : q ≠ p := fun z => by
          subst z
          exact S.dist j i _ _ _ ne ej e e3 e1
        exact ⟨q, ws', e3, by rw [hdel_ne nq]; exact h1, ⟨h2, nq⟩, h3, h4.mono ⟨[], by simp⟩ up⟩
  · rcases get_set ea with ⟨rfl, z⟩ | ⟨na, ea⟩
    · cases z
    · rcases get_set eb with ⟨rfl, z⟩ | ⟨nb, eb⟩
      · cases z
      · exact S.dist a b _ _ q ne ea eb sa sb
end
section
variable {X : Cx} {Cl : Addr} {W : Wd} {H0 : Hp} {F0 : List Addr} {wx : WX}
end
section
variable {X : Cx} {C : Cn} {e : Expr} {pos pos' : Pos}
end
section
variable {M : Type} {ρ : En} {m : M} {nx bk ct : En → M → Prop} {rt : D → M → Prop} {ex : Str → M → Prop} {ds : List D} {d : D} {g : DG} {t : DT M} {Z : Str → M → Prop}
variable {ta : DTA M} {QL : List D → M → Prop} {i j : Int}
end
end RR

/-! VK: plain lists: trailing noughts off, nearest rests -/
namespace RR
open PySem PySem.Spec PyProof.Rows L2
/-- without the noughts at the end -/
def strip (xs : List Int) : List Int := (xs.reverse.dropWhile (· == 0)).reverse
theorem strip_snoc (xs : List Int) (a : Int) : strip (xs ++ [a]) = if a = 0 then strip xs else xs ++ [a] := by
  unfold strip
  rw [List.reverse_append, List.reverse_singleton, List.singleton_append, List.dropWhile_cons]
  by_cases h : a = 0
  · rw [if_pos h, if_pos (by simp [h])]
  · rw [if_neg h, if_neg (by simp [h]), List.reverse_cons, List.reverse_reverse]
theorem strip_ind {P : List Int → Prop} (h0 : P []) (h1 : ∀ xs a, P xs → P (xs ++ [a])) : ∀ xs, P xs := fun xs => by
  have : ∀ ys : List Int, P ys.reverse := fun ys => by
    induction ys with
    | nil => exact h0
    | cons y ys ih => rw [List.reverse_cons]; exact h1 _ _ ih
  have := this xs.reverse
  rwa [List.reverse_reverse] at this
theorem strip_len (xs : List Int) : (strip xs).length ≤ xs.length := by
  induction xs using strip_ind with
  | h0 => exact Nat.le_refl _
  | h1 xs a ih =>
    rw [strip_snoc]
    split
    · rw [List.length_append]; omega
    · exact Nat.le_refl _
theorem strip_mem {xs : List Int} {x : Int} : x ∈ strip xs → x ∈ xs := by
  induction xs using strip_ind with
  | h0 => exact id
  | h1 xs a ih =>
    rw [strip_snoc]
    split
    · exact fun h => List.mem_append_left _ (ih h)
    · exact id
/-- done: no nought at the end -/
def done (xs : List Int) : Prop := strip xs = xs
theorem strip_done (xs : List Int) : strip (strip xs) = strip xs := by
  induction xs using strip_ind with
  | h0 => rfl
  | h1 xs a ih =>
    by_cases h : a = 0
    · rw [strip_snoc, if_pos h]; exact ih
    · rw [strip_snoc, if_neg h, strip_snoc, if_neg h]
theorem take_snoc {xs : List Int} {n : Nat} (h : n < xs.length) : xs.take (n + 1) = xs.take n ++ [xs[n]] := by
  rw [List.take_add_one, List.getElem?_eq_getElem h]; rfl
/-- the loop's step: the last one of the first n is nought -/
theorem strip_step {xs : List Int} {n : Nat} (h : n < xs.length) (z : xs[n] = 0) : strip (xs.take (n + 1)) = strip (xs.take n) := by
  rw [take_snoc h, strip_snoc, if_pos z]
theorem strip_stop {xs : List Int} {n : Nat} (h : n < xs.length) (z : xs[n] ≠ 0) : strip (xs.take (n + 1)) = xs.take (n + 1) := by
  rw [take_snoc h, strip_snoc, if_neg z]
end RR

/-! RS: stepping through a data reading by rules -/
namespace RR
open PySem PySem.Spec PyProof.Rows L2
section
variable {M : Type} {ρ : En} {m : M} {Q : D → M → Prop} {QL : List D → M → Prop} {QB : Bool → M → Prop} {QO : Option Int → M → Prop} {Z ex : Str → M → Prop} {nx bk ct : En → M → Prop} {rt : D → M → Prop} {t u w : DT M} {ta : DTA M} {tt tu : DTT M} {s1 s2 : DS M} {q : D → Prop} {i j : Int} {d x y : D} {xs ys : List Int} {ds es : List D}
theorem v_then (h : s1 ⟨s2 ⟨nx, rt, bk, ct, ex⟩, rt, bk, ct, ex⟩ ρ m) : dThen s1 s2 ⟨nx, rt, bk, ct, ex⟩ ρ m := h
theorem v_next (h : nx ρ m) : dNext ⟨nx, rt, bk, ct, ex⟩ ρ m := h
theorem v_set {i : Nat} (h : t ρ m (fun d m' => nx (ρ.set i (.val d)) m') ex) : dSet i t ⟨nx, rt, bk, ct, ex⟩ ρ m := h
def kO (ρ : En) (i : Nat) (nx : En → M → Prop) : D → M → Prop := fun d m' => match d with | .lst ds => D.nls ds = true ∧ nx (ρ.set i (.own ds)) m' | _ => False
theorem v_setO {i : Nat} (h : t ρ m (kO ρ i nx) ex) : dSetO i t ⟨nx, rt, bk, ct, ex⟩ ρ m := h
theorem v_kO {i : Nat} (n : D.nls ds = true) (h : nx (ρ.set i (.own ds)) m) : kO ρ i nx (.lst ds) m := ⟨n, h⟩
theorem v_ret (h : t ρ m rt ex) : dRet t ⟨nx, rt, bk, ct, ex⟩ ρ m := h
theorem v_drop (h : t ρ m (fun _ m' => nx ρ m') ex) : dDrop t ⟨nx, rt, bk, ct, ex⟩ ρ m := h
theorem v_ite (h : tt ρ m (fun b m1 => if b = true then s1 ⟨nx, rt, bk, ct, ex⟩ ρ m1 else s2 ⟨nx, rt, bk, ct, ex⟩ ρ m1) ex) : dIte tt s1 s2 ⟨nx, rt, bk, ct, ex⟩ ρ m := h
theorem v_ifT {A B : Prop} (h : A) : if true = true then A else B := by rw [if_pos rfl]; exact h
theorem v_ifF {A B : Prop} (h : B) : if false = true then A else B := by rw [if_neg Bool.false_ne_true]; exact h
theorem v_ifd {p : Prop} [Decidable p] {A B : Prop} (h : p → A) (h' : ¬ p → B) : if decide p = true then A else B := by
  by_cases e : p
  · rw [if_pos (decide_eq_true e)]; exact h e
  · rw [if_neg (by simpa using e)]; exact h' e
theorem v_ifn {p : Prop} [Decidable p] {A B : Prop} (h : ¬ p → A) (h' : p → B) : if (!decide p) = true then A else B := by
  by_cases e : p
  · rw [if_neg (by simpa using e)]; exact h' e
  · rw [if_pos (by simpa using e)]; exact h e
theorem v_var {i : Nat} (e : ρ[i]? = some (.val d)) (h : Q d m) : dVar i ρ m Q Z := by unfold dVar; rw [e]; exact h
theorem v_bor {i : Nat} (e : ρ[i]? = some (.bor d)) (h : Q d m) : dBor i ρ m Q Z := by unfold dBor; rw [e]; exact h
theorem v_own {i : Nat} (e : ρ[i]? = some (.own ds)) (h : Q (.lst ds) m) : dOwn i ρ m Q Z := by unfold dOwn; rw [e]; exact h
theorem v_c (h : Q d m) : dC d ρ m Q Z := h
theorem v_nil (h : QL [] m) : dNil ρ m QL Z := h
theorem v_cons (h : t ρ m (fun d m1 => ta ρ m1 (fun ds m2 => QL (d :: ds) m2) Z) Z) : dCons t ta ρ m QL Z := h
theorem v_tup (h : ta ρ m (fun ds m1 => ds.length ≤ sizeLine ∧ Q (.tup ds) m1) Z) : dTup ta ρ m Q Z := h
theorem v_lst (h : ta ρ m (fun ds m1 => ds.length ≤ sizeLine ∧ Q (.lst ds) m1) Z) : dLst ta ρ m Q Z := h
theorem v_sz {n : Nat} {A : Prop} (e : n ≤ 16777216) (h : A) : n ≤ sizeLine ∧ A := ⟨small_line e, h⟩
theorem v_bin {g : G2} (h : t ρ m (fun x m1 => u ρ m1 (fun y m2 => g x y fun d => Q d m2) Z) Z) : dBin g t u ρ m Q Z := h
theorem v_g0 {f : Int → Int → D} (h : q (f i j)) : g0 f (.int i) (.int j) q := h
theorem v_gII {P : Int → Int → Prop} {f : Int → Int → D} (p : P i j) (h : q (f i j)) : gII P f (.int i) (.int j) q := ⟨p, h⟩
theorem v_gIIz {f : Int → Int → D} (p : j ≠ 0) (h : q (f i j)) : gII Nz f (.int i) (.int j) q := ⟨p, h⟩
theorem v_add (h : q (.int (i + j))) : gAdd (.int i) (.int j) q := h
theorem v_addl (a : ds.length + es.length ≤ 16777216) (b : D.nls ds = true) (c : D.nls es = true) (h : q (.lst (ds ++ es))) : gAdd (.lst ds) (.lst es) q := ⟨small_line a, b, c, h⟩
theorem v_mul (p : IntMulOk i j) (h : q (.int (i * j))) : gMul (.int i) (.int j) q := ⟨p, h⟩
theorem v_repl {k : Int} (a : 0 ≤ k) (b : ds.length * k.toNat ≤ 16777216) (hk : k < 2 ^ 63) (n : D.nls ds = true) (h : q (.lst (rep k ds))) : gMul (.lst ds) (.int k) q := ⟨by omega, hk, small_line b, n, h⟩
theorem v_eqi (h : q (.bl (decide (i = j)))) : gEq (.int i) (.int j) q := .inl ⟨q_int, q_int, h⟩
theorem v_nei (h : q (.bl (!decide (i = j)))) : gNe (.int i) (.int j) q := .inl ⟨q_int, q_int, h⟩
theorem v_eqr (h : q (.bl (decide (xs = ys)))) : gEq (.tup (zz xs)) (.tup (zz ys)) q := .inl ⟨q_row xs, q_row ys, by rw [eqv_row]; exact h⟩
theorem v_ner (h : q (.bl (!decide (xs = ys)))) : gNe (.tup (zz xs)) (.tup (zz ys)) q := .inl ⟨q_row xs, q_row ys, by rw [eqv_row]; exact h⟩
theorem v_eqr0 (h : q (.bl (decide (xs = [])))) : gEq (.tup (zz xs)) (.tup []) q := v_eqr (ys := []) h
theorem v_ner0 (h : q (.bl (!decide (xs = [])))) : gNe (.tup (zz xs)) (.tup []) q := v_ner (ys := []) h
theorem v_eql (h : q (.bl (decide (xs = ys)))) : gEq (.lst (zz xs)) (.lst (zz ys)) q := .inl ⟨q_lst xs, q_lst ys, by rw [eqv_lst]; exact h⟩
theorem v_nel (h : q (.bl (!decide (xs = ys)))) : gNe (.lst (zz xs)) (.lst (zz ys)) q := .inl ⟨q_lst xs, q_lst ys, by rw [eqv_lst]; exact h⟩
theorem v_eql0 (h : q (.bl (decide (xs = [])))) : gEq (.lst (zz xs)) (.lst []) q := v_eql (ys := []) h
theorem v_nel0 (h : q (.bl (!decide (xs = [])))) : gNe (.lst (zz xs)) (.lst []) q := v_nel (ys := []) h
theorem v_eqd (a : x.q 8 = true) (b : y.q 8 = true) (h : q (.bl (x.eqv y))) : gEq x y q := .inl ⟨a, b, h⟩
theorem v_ned (a : x.q 8 = true) (b : y.q 8 = true) (h : q (.bl (!x.eqv y))) : gNe x y q := .inl ⟨a, b, h⟩
theorem v_isN (h : q (.bl x.isN)) : gIsN x .non q := ⟨rfl, h⟩
theorem v_notN (h : q (.bl (!x.isN))) : gNotN x .non q := ⟨rfl, h⟩
/-- the place i from the front, nought behind the end -/
def nth (xs : List Int) (i : Int) : Int := xs.getD i.toNat 0
theorem nth_get {n : Nat} (h : n < xs.length) : nth xs (n : Int) = xs[n] := by unfold nth; simp [List.getD, List.getElem?_eq_getElem h]
theorem nth_mem (h0 : 0 ≤ i) (h1 : i < xs.length) : nth xs i ∈ xs := by
  obtain ⟨n, rfl⟩ := Int.eq_ofNat_of_zero_le h0
  rw [nth_get (by omega)]
  exact List.getElem_mem _
theorem atI_nth (h0 : 0 ≤ i) (h1 : i < xs.length) : atI (zz xs) i = some (.int (nth xs i)) := by
  rw [atI_ints, atI_at h0 h1]
  obtain ⟨n, rfl⟩ := Int.eq_ofNat_of_zero_le h0
  rw [nth_get (by omega)]
  rfl
theorem v_ixl {n : Bool} (h0 : 0 ≤ i) (h1 : i < xs.length) (h : q (.int (nth xs i))) : gIx n (.lst (zz xs)) (.int i) q := by
  unfold gIx; dsimp only; rw [atI_nth h0 h1]; exact ⟨fun _ => rfl, h⟩
theorem v_ixt {n : Bool} (h0 : 0 ≤ i) (h1 : i < xs.length) (h : q (.int (nth xs i))) : gIx n (.tup (zz xs)) (.int i) q := by
  unfold gIx; dsimp only; rw [atI_nth h0 h1]; exact ⟨fun _ => rfl, h⟩
theorem v_dB {g : List D → (D → Prop) → Prop} (h : ta ρ m (fun ds m1 => g ds fun d => Q d m1) Z) : dB g ta ρ m Q Z := h
theorem v_lent (h : q (.int ds.length)) : gLen [.tup ds] q := h
theorem v_lenl (h : q (.int ds.length)) : gLen [.lst ds] q := h
theorem v_lentz (h : q (.int xs.length)) : gLen [.tup (zz xs)] q := by show q (.int (zz xs).length); rw [show (zz xs).length = xs.length from List.length_map _]; exact h
theorem v_lenlz (h : q (.int xs.length)) : gLen [.lst (zz xs)] q := by show q (.int (zz xs).length); rw [show (zz xs).length = xs.length from List.length_map _]; exact h
theorem v_I1 {f : Int → Int} (h : q (.int (f i))) : gI1 f [.int i] q := h
theorem v_I2 {f : Int → Int → Int} (h : q (.int (f i j))) : gI2 f [.int i, .int j] q := h
theorem v_int (h : q (.int i)) : gInt [.int i] q := h
theorem v_seql {mk : List D → D} (n : D.nls ds = true) (h : q (mk ds)) : gSeq mk [.lst ds] q := ⟨n, h⟩
theorem v_seqlz {mk : List D → D} (h : q (mk (zz xs))) : gSeq mk [.lst (zz xs)] q := ⟨nls_ints xs, h⟩
theorem v_seqtz {mk : List D → D} (h : q (mk (zz xs))) : gSeq mk [.tup (zz xs)] q := ⟨nls_ints xs, h⟩
/-! slices -/
def kSl (x : D) (l u : Option Int) (Q : D → M → Prop) (m3 : M) : Prop := match x with
  | .lst ds => D.nls ds = true ∧ Q (.lst (cutD ds l u)) m3
  | .tup ds => D.nls ds = true ∧ Q (.tup (cutD ds l u)) m3
  | _ => False
theorem v_sl {lo hi : DTO M} (h : t ρ m (fun x m1 => lo ρ m1 (fun l m2 => hi ρ m2 (fun u m3 => kSl x l u Q m3) Z) Z) Z) : dSl t lo hi ρ m Q Z := h
theorem v_kSll {l u : Option Int} (h : Q (.lst (cutD (zz xs) l u)) m) : kSl (.lst (zz xs)) l u Q m := ⟨nls_ints xs, h⟩
theorem v_kSlt {l u : Option Int} (h : Q (.tup (cutD (zz xs) l u)) m) : kSl (.tup (zz xs)) l u Q m := ⟨nls_ints xs, h⟩
theorem v_ono (h : QO none m) : dONone ρ m QO Z := h
def kOS (Q : Option Int → M → Prop) (d : D) (m1 : M) : Prop := match d with | .int i => Q (some i) m1 | _ => False
theorem v_oso (h : t ρ m (fun d m1 => kOS QO d m1) Z) : dOSome t ρ m QO Z := h
theorem v_kOS (h : QO (some i) m) : kOS QO (.int i) m := h
/-! tests -/
def kT (Q : Bool → M → Prop) (d : D) (m' : M) : Prop := match d with | .bl b => Q b m' | _ => False
theorem v_tst (h : t ρ m (fun d m' => kT QB d m') Z) : dTst t ρ m QB Z := h
theorem v_kT {b : Bool} (h : QB b m) : kT QB (.bl b) m := h
def kV (Q : Bool → M → Prop) (d : D) (m' : M) : Prop := match d.tr with | some b => Q b m' | none => False
theorem v_val (h : t ρ m (fun d m' => RR.kV QB d m') Z) : dVal t ρ m QB Z := h
theorem v_kVb {b : Bool} (h : QB b m) : RR.kV QB (.bl b) m := h
theorem v_kVi (h : QB (i != 0) m) : RR.kV QB (.int i) m := h
theorem v_kVt (h : QB (!ds.isEmpty) m) : RR.kV QB (.tup ds) m := h
theorem v_kVl (h : QB (!ds.isEmpty) m) : RR.kV QB (.lst ds) m := h
theorem v_and (h : tt ρ m (fun b m1 => if b = true then tu ρ m1 QB Z else QB false m1) Z) : dAnd tt tu ρ m QB Z := h
theorem v_or (h : tt ρ m (fun b m1 => if b = true then QB true m1 else tu ρ m1 QB Z) Z) : dOr tt tu ρ m QB Z := h
theorem v_not (h : tt ρ m (fun b m1 => QB (!b) m1) Z) : dNot tt ρ m QB Z := h
theorem v_yes (h : QB true m) : dYes ρ m QB Z := h
theorem v_if' (h : tt ρ m (fun b m1 => if b = true then t ρ m1 Q Z else u ρ m1 Q Z) Z) : dIf tt t u ρ m Q Z := h
def kI (T : String) (Q : D → M → Prop) (d : D) (m1 : M) : Prop := match d.ty with | some ty => Q (.bl (isiB ty T)) m1 | none => False
theorem v_isi {T : String} (h : t ρ m (fun d m1 => kI T Q d m1) Z) : dIsi T t ρ m Q Z := h
theorem v_kIii (h : Q (.bl true) m) : kI "int" Q (.int i) m := h
theorem v_kIib (h : Q (.bl false) m) : kI "bool" Q (.int i) m := h
theorem v_kItt (h : Q (.bl true) m) : kI "tuple" Q (.tup ds) m := h
theorem v_kI {T ty : String} {b : Bool} (e : d.ty = some ty) (e2 : isiB ty T = b) (h : Q (.bl b) m) : kI T Q d m := by unfold kI; rw [e]; dsimp only; rw [e2]; exact h
def kAV (A : Prop) (Q : D → M → Prop) (d : D) (m1 : M) : Prop := match d with | .bl true => A | .bl false => Q (.bl false) m1 | _ => False
theorem v_andV (h : t ρ m (fun d m1 => kAV (u ρ m1 Q Z) Q d m1) Z) : dAndV t u ρ m Q Z := by
  unfold dAndV
  refine (?_ : t ρ m _ Z)
  exact h
def kOV (A : Prop) (Q : D → M → Prop) (d : D) (m1 : M) : Prop := match d with | .bl false => A | .bl true => Q (.bl true) m1 | _ => False
theorem v_orV (h : t ρ m (fun d m1 => kOV (u ρ m1 Q Z) Q d m1) Z) : dOrV t u ρ m Q Z := h
theorem v_kAV {b : Bool} {A : Prop} (h : b = true → A) (h' : b = false → Q (.bl false) m) : kAV A Q (.bl b) m := by
  cases b with
  | true => exact h rfl
  | false => exact h' rfl
theorem v_kOV {b : Bool} {A : Prop} (h : b = false → A) (h' : b = true → Q (.bl true) m) : kOV A Q (.bl b) m := by
  cases b with
  | false => exact h rfl
  | true => exact h' rfl
def kNV (Q : D → M → Prop) (d : D) (m1 : M) : Prop := match d with | .bl b => Q (.bl (!b)) m1 | _ => False
theorem v_notV (h : t ρ m (fun d m1 => kNV Q d m1) Z) : dNotV t ρ m Q Z := h
theorem v_kNV {b : Bool} (h : Q (.bl (!b)) m) : kNV Q (.bl b) m := h
def kNeg (Q : D → M → Prop) (d : D) (m1 : M) : Prop := match d with | .int i => Q (.int (-i)) m1 | _ => False
theorem v_neg (h : t ρ m (fun d m1 => kNeg Q d m1) Z) : dNeg t ρ m Q Z := h
theorem v_kNeg (h : Q (.int (-i)) m) : kNeg Q (.int i) m := h
/-! calls, sources, comprehensions, loops -/
theorem v_call {sp : DSp M} {dds : List D} (h : ta ρ m (fun ds m1 => sp (ds ++ dds) m1 Q Z) Z) : dCall sp dds ta ρ m Q Z := h
theorem v_call0 {sp : DSp M} (h : sp ds m Q Z) : sp (ds ++ []) m Q Z := by rw [List.append_nil]; exact h
def kSeq (n : Bool) (Q : List D → M → Prop) (d : D) (m1 : M) : Prop := match d with | .lst ds | .tup ds => (n = true → D.nls ds = true) ∧ Q ds m1 | _ => False
theorem v_seq {n : Bool} (h : t ρ m (fun d m1 => kSeq n QL d m1) Z) : dSeq n t ρ m QL Z := by
  refine (?_ : t ρ m _ Z); exact h
theorem v_kSeql {n : Bool} (h : QL (zz xs) m) : kSeq n QL (.lst (zz xs)) m := ⟨fun _ => nls_ints xs, h⟩
theorem v_kSeqt {n : Bool} (h : QL (zz xs) m) : kSeq n QL (.tup (zz xs)) m := ⟨fun _ => nls_ints xs, h⟩
theorem v_kSeqLn {n : Bool} (e : D.nls ds = true) (h : QL ds m) : kSeq n QL (.lst ds) m := ⟨fun _ => e, h⟩
theorem v_kSeqTn {n : Bool} (e : D.nls ds = true) (h : QL ds m) : kSeq n QL (.tup ds) m := ⟨fun _ => e, h⟩
def kR1 (Q : List D → M → Prop) (ds : List D) (m1 : M) : Prop := match ds with | [.int j] => -(2 ^ 62) ≤ j ∧ j < 2 ^ 62 ∧ Q (iota 0 j.toNat) m1 | _ => False
theorem v_rng1 (h : ta ρ m (fun ds m1 => kR1 QL ds m1) Z) : dRng1 ta ρ m QL Z := by
  refine (?_ : ta ρ m _ Z); exact h
theorem v_kR1 (a : -(2 ^ 62) ≤ j) (b : j < 2 ^ 62) (h : QL (iota 0 j.toNat) m) : kR1 QL [.int j] m := ⟨a, b, h⟩
def kR2 (Q : List D → M → Prop) (ds : List D) (m1 : M) : Prop := match ds with | [.int i, .int j] => (-(2 ^ 62) ≤ i ∧ i < 2 ^ 62 ∧ -(2 ^ 62) ≤ j ∧ j < 2 ^ 62) ∧ Q (iota i (j - i).toNat) m1 | _ => False
theorem v_rng2 (h : ta ρ m (fun ds m1 => kR2 QL ds m1) Z) : dRng2 ta ρ m QL Z := by
  refine (?_ : ta ρ m _ Z); exact h
theorem v_kR2 (a : -(2 ^ 62) ≤ i) (b : i < 2 ^ 62) (c : -(2 ^ 62) ≤ j) (e : j < 2 ^ 62) (h : QL (iota i (j - i).toNat) m) : kR2 QL [.int i, .int j] m := ⟨⟨a, b, c, e⟩, h⟩
theorem v_enum {n : Bool} (h : dSeq n t ρ m (fun ds m1 => QL (enumD 0 ds) m1) Z) : dEnum n t ρ m QL Z := h
def kRR (Q : List D → M → Prop) (d : D) (m1 : M) : Prop := match d with | .int j => -(2 ^ 62) ≤ j ∧ j < 2 ^ 62 ∧ Q (iota 0 j.toNat).reverse m1 | _ => False
theorem v_revr (h : t ρ m (fun d m1 => kRR QL d m1) Z) : dRevR t ρ m QL Z := h
theorem v_rev {n : Bool} (h : dSeq n t ρ m (fun ds m1 => QL ds.reverse m1) Z) : dRev n t ρ m QL Z := h
theorem v_gn {i : Nat} {P : En → Prop} (h : P (ρ.set i (.val d))) : dgN i d ρ P := h
theorem v_gt2 {i j : Nat} {P : En → Prop} (h : P ((ρ.set i (.val x)).set j (.val y))) : dgT 2 (dgCons (dgN i) (dgCons (dgN j) dgNil)) (.tup [x, y]) ρ P := ⟨rfl, h⟩
theorem v_gt3 {i j k : Nat} {P : En → Prop} (h : P (((ρ.set i (.val x)).set j (.val y)).set k (.val d))) : dgT 3 (dgCons (dgN i) (dgCons (dgN j) (dgCons (dgN k) dgNil))) (.tup [x, y, d]) ρ P := ⟨rfl, h⟩
theorem v_lc {g : DG} {vs : List Nat} (h : ta ρ m (fun items m1 => lcGo g tt t (wipeD ρ vs) items [] m1 (fun ds m2 => Q (.lst ds) m2)) Z) : dLc ta g tt t vs ρ m Q Z := h
theorem v_while {c : DTT M} (W : Nat → En → M → Prop) (n : Nat) (h : W n ρ m) (st : ∀ n ρ m, W n ρ m → c ρ m (fun b m1 => if b = true then s1 ⟨fun ρ' m' => ∃ n', n' < n ∧ W n' ρ' m', rt, nx, fun ρ' m' => ∃ n', n' < n ∧ W n' ρ' m', ex⟩ ρ m1 else nx ρ m1) ex) : dWhile c s1 ⟨nx, rt, bk, ct, ex⟩ ρ m := ⟨W, ⟨n, h⟩, st⟩
def kFor (g : DG) (s1 : DS M) (E : DE M) (ρ : En) (items : List D) (m1 : M) : Prop := ∃ W : List D → En → M → Prop, W items ρ m1 ∧ (∀ ρ m, W [] ρ m → E.nx ρ m) ∧
  ∀ x r ρ m, W (x :: r) ρ m → g x ρ fun ρ2 => s1 { E with nx := W r, ct := W r, bk := E.nx } ρ2 m
theorem v_for {g : DG} (h : ta ρ m (fun items m1 => kFor g s1 ⟨nx, rt, bk, ct, ex⟩ ρ items m1) ex) : dFor ta g s1 ⟨nx, rt, bk, ct, ex⟩ ρ m := h
theorem v_kfor {g : DG} (W : List D → En → M → Prop) (h : W ds ρ m) (e : ∀ ρ m, W [] ρ m → nx ρ m) (st : ∀ x r ρ m, W (x :: r) ρ m → g x ρ fun ρ2 => s1 ⟨W r, rt, nx, W r, ex⟩ ρ2 m) : kFor g s1 ⟨nx, rt, bk, ct, ex⟩ ρ ds m := ⟨W, h, e, st⟩
/-! statements about lists of one's own -/
theorem v_app {i : Nat} (e : ρ[i]? = some (.own ds)) (h : t ρ m (fun d m' => d.nl = true ∧ ds.length < sizeLine ∧ nx (ρ.set i (.own (ds ++ [d]))) m') ex) : dApp i t ⟨nx, rt, bk, ct, ex⟩ ρ m := by
  unfold dApp; rw [e]; exact h
def kSI (ρ : En) (i : Nat) (ds : List D) (nx : En → M → Prop) (d k : D) (m2 : M) : Prop := match k with
    | .int k => (match ixN ds.length k with | some j => d.nl = true ∧ nx (ρ.set i (.own (ds.set j d))) m2 | none => False) | _ => False
theorem v_setI {i : Nat} (e : ρ[i]? = some (.own ds)) (h : t ρ m (fun d m1 => u ρ m1 (fun k m2 => kSI ρ i ds nx d k m2) ex) ex) : dSetI i t u ⟨nx, rt, bk, ct, ex⟩ ρ m := by
  unfold dSetI; rw [e]; exact h
theorem v_kSI {i : Nat} {k : Int} (h0 : 0 ≤ k) (h1 : k < ds.length) (n : d.nl = true) (h : nx (ρ.set i (.own (ds.set k.toNat d))) m) : kSI ρ i ds nx d (.int k) m := by
  unfold kSI; dsimp only; rw [ixN_at h0 h1]; exact ⟨n, h⟩
theorem v_rel {i : Nat} (e : ρ[i]? = some (.own ds)) (h : s1 ⟨nx, rt, bk, ct, ex⟩ (ρ.set i (.val (.lst ds))) m) : dRel i s1 ⟨nx, rt, bk, ct, ex⟩ ρ m := by
  unfold dRel; rw [e]; exact h
theorem v_raise {x : Str} (h : ex x m) : dRaise x ⟨nx, rt, bk, ct, ex⟩ ρ m := h
def kP (ρ : En) (i j : Nat) (nx : En → M → Prop) (ds : List D) (m' : M) : Prop := match ds with | [x, y] => nx ((ρ.set i (.val x)).set j (.val y)) m' | _ => False
theorem v_par {i j : Nat} (h : ta ρ m (fun ds m' => kP ρ i j nx ds m') ex) : dPar i j ta ⟨nx, rt, bk, ct, ex⟩ ρ m := h
theorem v_kP {i j : Nat} (h : nx ((ρ.set i (.val x)).set j (.val y)) m) : kP ρ i j nx [x, y] m := h
theorem v_asg {g : DG} (h : t ρ m (fun d m' => g d ρ fun ρ' => nx ρ' m') ex) : dAsg t g ⟨nx, rt, bk, ct, ex⟩ ρ m := h
theorem v_aug {i : Nat} {f : Int → Int → Int} {a : Int} (e : ρ[i]? = some (.val (.int a))) (h : t ρ m (fun y m' => kOS (fun o m' => match o with | some y => nx (ρ.set i (.val (.int (f a y)))) m' | none => False) y m') ex) : dAug i f t ⟨nx, rt, bk, ct, ex⟩ ρ m := by
  unfold dAug; rw [e]
  exact h
/-! rows given as a list or a tuple -/
def isRow (d : D) (xs : List Int) : Prop := d = .tup (zz xs) ∨ d = .lst (zz xs)
theorem isRow_t : isRow (.tup (zz xs)) xs := .inl rfl
theorem isRow_l : isRow (.lst (zz xs)) xs := .inr rfl
theorem v_lenr (hd : isRow d xs) (h : q (.int xs.length)) : gLen [d] q := by
  rcases hd with rfl | rfl
  · exact v_lentz h
  · exact v_lenlz h
theorem v_ixr {n : Bool} (hd : isRow d xs) (h0 : 0 ≤ i) (h1 : i < xs.length) (h : q (.int (nth xs i))) : gIx n d (.int i) q := by
  rcases hd with rfl | rfl
  · exact v_ixt h0 h1 h
  · exact v_ixl h0 h1 h
def cutZ (xs : List Int) (lo hi : Option Int) : List Int := (xs.drop (HT.sIx xs.length 0 lo)).take (HT.sIx xs.length xs.length hi - HT.sIx xs.length 0 lo)
theorem cutD_zz {l u : Option Int} : cutD (zz xs) l u = zz (cutZ xs l u) := by
  unfold cutD cutZ zz
  rw [List.length_map, List.map_take, List.map_drop]
theorem zz_inj {xs ys : List Int} (h : zz xs = zz ys) : xs = ys := by
  induction xs generalizing ys with
  | nil => cases ys with
    | nil => rfl
    | cons y ys => cases h
  | cons x xs ih => cases ys with
    | nil => cases h
    | cons y ys =>
      obtain ⟨h1, h2⟩ := List.cons.inj h
      cases h1
      rw [ih h2]
theorem cutZ_to {k : Int} (h0 : 0 ≤ k) : cutZ xs none (some k) = xs.take k.toNat := zz_inj (by rw [← cutD_zz, cut_upto h0]; exact (List.map_take ..).symm)
theorem cutZ_from {k : Int} (h0 : 0 ≤ k) : cutZ xs (some k) none = xs.drop k.toNat := zz_inj (by rw [← cutD_zz, cut_from h0]; exact (List.map_drop ..).symm)
theorem v_kSlr {l u : Option Int} (hd : isRow d xs) (h : ∀ d', isRow d' (cutZ xs l u) → Q d' m) : kSl d l u Q m := by
  rcases hd with rfl | rfl
  · exact ⟨nls_ints xs, h _ (by rw [cutD_zz]; exact isRow_t)⟩
  · exact ⟨nls_ints xs, h _ (by rw [cutD_zz]; exact isRow_l)⟩
theorem v_seqr {mk : List D → D} (hd : isRow d xs) (h : q (mk (zz xs))) : gSeq mk [d] q := by
  rcases hd with rfl | rfl
  · exact v_seqtz h
  · exact v_seqlz h
theorem v_kSeqr {n : Bool} (hd : isRow d xs) (h : QL (zz xs) m) : kSeq n QL d m := by
  rcases hd with rfl | rfl
  · exact v_kSeqt h
  · exact v_kSeql h
/-! comprehensions over whole numbers -/
theorem lc_zz {g : DG} {f : Int → Int} (xs : List Int) (st : ∀ a ∈ xs, ∀ m (k : D → M → Prop) (l : M → Prop), k (.int (f a)) m → g (.int a) ρ fun ρ2 => tt ρ2 m (fun b m1 => if b = true then t ρ2 m1 k (fun _ _ => False) else l m1) (fun _ _ => False))
    (hl : xs.length ≤ 16777216) (h : QL (zz (xs.map f)) m) : lcGo g tt t ρ (zz xs) [] m QL := by
  refine lcGo_map (h := fun a => .int (f a)) xs st (small_line hl) ?_
  rw [show xs.map (fun a => D.int (f a)) = zz (xs.map f) from (List.map_map ..).symm]
  exact h
theorem lc_zd {g : DG} {f : Int → D} (xs : List Int) (st : ∀ a ∈ xs, ∀ m (k : D → M → Prop) (l : M → Prop), k (f a) m → g (.int a) ρ fun ρ2 => tt ρ2 m (fun b m1 => if b = true then t ρ2 m1 k (fun _ _ => False) else l m1) (fun _ _ => False))
    (hl : xs.length ≤ 16777216) (h : QL (xs.map f) m) : lcGo g tt t ρ (zz xs) [] m QL := lcGo_map (h := f) xs st (small_line hl) h
/-- over range(n) -/
theorem lc_rz {g : DG} {f : Nat → Int} (n : Nat) (st : ∀ a, a < n → ∀ m (k : D → M → Prop) (l : M → Prop), k (.int (f a)) m → g (.int a) ρ fun ρ2 => tt ρ2 m (fun b m1 => if b = true then t ρ2 m1 k (fun _ _ => False) else l m1) (fun _ _ => False))
    (hl : n ≤ 16777216) (h : QL (zz ((List.range n).map f)) m) : lcGo g tt t ρ (iota 0 n) [] m QL := by
  rw [iota_map]
  refine lcGo_map (h := fun a => .int (f a)) (List.range n) (fun a ha => st a (List.mem_range.mp ha)) (small_line (by rw [List.length_range]; exact hl)) ?_
  rw [show (List.range n).map (fun a => D.int (f a)) = zz ((List.range n).map f) from (List.map_map ..).symm]
  exact h
/-- over range(n), elements that turn the world and are whole numbers with P -/
theorem lc_rany {g : DG} {P : Int → Prop} {S : Nat → M → Prop} (n : Nat) (st : ∀ j ds m (k : D → M → Prop) (l : M → Prop), S (j + 1) m → (∀ y m1, P y → S j m1 → k (.int y) m1) → g ds ρ fun ρ2 => tt ρ2 m (fun b m1 => if b = true then t ρ2 m1 k (fun _ _ => False) else l m1) (fun _ _ => False))
    (hl : n ≤ 16777216) (s : S n m) (h : ∀ xs m1, xs.length = n → (∀ x ∈ xs, P x) → S 0 m1 → QL (zz xs) m1) : lcGo g tt t ρ (iota 0 n) [] m QL := by
  have ln : (iota 0 n).length = n := by rw [iota_map, List.length_map, List.length_range]
  refine lcGo_any (P := fun d => ∃ x, d = .int x ∧ P x) (S := S) (iota 0 n) (fun x _ j m k l s h => st j x m k l s fun y m1 p s => h _ _ ⟨y, rfl, p⟩ s) (by rw [ln]; exact small_line (by simpa using hl)) (by rw [ln]; exact s) fun ds m1 l p s => ?_
  obtain ⟨xs, rfl, hp⟩ := ints_of p
  rw [List.nil_append]
  exact h xs m1 (by rw [ln] at l; simpa using l) hp s
theorem v_kforZ {g : DG} (W : List Int → En → M → Prop) (l : List Int) (h : W l ρ m) (e : ∀ ρ m, W [] ρ m → nx ρ m) (st : ∀ x r ρ m, W (x :: r) ρ m → g (.int x) ρ fun ρ2 => s1 ⟨fun ρ m => W r ρ m, rt, nx, fun ρ m => W r ρ m, ex⟩ ρ2 m) :
    kFor g s1 ⟨nx, rt, bk, ct, ex⟩ ρ (zz l) m := by
  refine ⟨fun it ρ m => ∃ r', it = zz r' ∧ W r' ρ m, ⟨l, rfl, h⟩, fun ρ m h => ?_, fun x r ρ m h => ?_⟩
  · obtain ⟨r', e1, h⟩ := h
    cases r' with
    | nil => exact e ρ m h
    | cons a r' => cases e1
  · obtain ⟨r', e1, h⟩ := h
    cases r' with
    | nil => cases e1
    | cons a r' =>
      cases e1
      have z := st a r' ρ m h
      have f1 : (fun ρ m => ∃ r'', zz r' = zz r'' ∧ W r'' ρ m) = fun ρ m => W r' ρ m := by
        funext ρ m
        refine propext ⟨fun ⟨r'', e, h⟩ => ?_, fun h => ⟨r', rfl, h⟩⟩
        rw [zz_inj e]; exact h
      show g (.int a) ρ fun ρ2 => s1 ⟨fun ρ m => ∃ r'', zz r' = zz r'' ∧ W r'' ρ m, rt, nx, fun ρ m => ∃ r'', zz r' = zz r'' ∧ W r'' ρ m, ex⟩ ρ2 m
      rw [f1]
      exact z
/-- over range(i, i + n), by the number gone -/
theorem v_kforR {g : DG} {i : Int} (n : Nat) (W : Nat → En → M → Prop) (h : W 0 ρ m) (e : ∀ ρ m, W n ρ m → nx ρ m) (st : ∀ k ρ m, k < n → W k ρ m → g (.int (i + k)) ρ fun ρ2 => s1 ⟨fun ρ m => W (k + 1) ρ m, rt, nx, fun ρ m => W (k + 1) ρ m, ex⟩ ρ2 m) :
    kFor g s1 ⟨nx, rt, bk, ct, ex⟩ ρ (iota i n) m := by
  have key : ∀ j, j ≤ n → ∀ it, it = (List.range' j (n - j)).map (fun k : Nat => D.int (i + k)) → True := fun _ _ _ _ => trivial
  refine ⟨fun it ρ m => ∃ j, j ≤ n ∧ it = (List.range' j (n - j)).map (fun k : Nat => D.int (i + k)) ∧ W j ρ m, ⟨0, Nat.zero_le _, ?_, h⟩, fun ρ m h => ?_, fun x r ρ m h => ?_⟩
  · unfold iota; rw [Nat.sub_zero, List.range_eq_range']
  · obtain ⟨j, hj, e1, h⟩ := h
    have : n - j = 0 := by
      have := congrArg List.length e1
      rw [List.length_map, List.length_range'] at this
      exact this.symm
    have : j = n := by omega
    subst this
    exact e ρ m h
  · obtain ⟨j, hj, e1, h⟩ := h
    have hlt : j < n := by
      have := congrArg List.length e1
      rw [List.length_map, List.length_range', List.length_cons] at this
      omega
    obtain ⟨p, hp⟩ : ∃ p, n - j = p + 1 := ⟨n - j - 1, by omega⟩
    rw [hp, List.range'_succ, List.map_cons] at e1
    obtain ⟨e2, e3⟩ := List.cons.inj e1
    subst e2
    have z := st j ρ m hlt h
    have f1 : (fun ρ m => ∃ j', j' ≤ n ∧ r = (List.range' j' (n - j')).map (fun k : Nat => D.int (i + k)) ∧ W j' ρ m) = fun ρ m => W (j + 1) ρ m := by
      funext ρ m
      refine propext ⟨fun ⟨j', h1, h2, h⟩ => ?_, fun h => ⟨j + 1, hlt, by rw [e3, show n - (j + 1) = p by omega], h⟩⟩
      have := congrArg List.length (e3.symm.trans h2)
      rw [List.length_map, List.length_range', List.length_map, List.length_range'] at this
      have : j' = j + 1 := by omega
      subst this
      exact h
    show g _ ρ fun ρ2 => s1 ⟨fun ρ m => ∃ j', j' ≤ n ∧ r = (List.range' j' (n - j')).map (fun k : Nat => D.int (i + k)) ∧ W j' ρ m, rt, nx, fun ρ m => ∃ j', j' ≤ n ∧ r = (List.range' j' (n - j')).map (fun k : Nat => D.int (i + k)) ∧ W j' ρ m, ex⟩ ρ2 m
    rw [f1]
    exact z
theorem v_kforE {g : DG} {i : Nat} (W : Nat → List Int → En → M → Prop) (l : List Int) (h : W i l ρ m) (e : ∀ j ρ m, W j [] ρ m → nx ρ m) (st : ∀ (j : Nat) x r ρ m (N : En → M → Prop), W j (x :: r) ρ m → (∀ ρ m, W (j + 1) r ρ m → N ρ m) → g (.tup [.int j, .int x]) ρ fun ρ2 => s1 ⟨N, rt, nx, N, ex⟩ ρ2 m) :
    kFor g s1 ⟨nx, rt, bk, ct, ex⟩ ρ (enumD i (zz l)) m := by
  refine ⟨fun it ρ m => ∃ j r', it = enumD j (zz r') ∧ W j r' ρ m, ⟨i, l, rfl, h⟩, fun ρ m h => ?_, fun x r ρ m h => ?_⟩
  · obtain ⟨j, r', e1, h⟩ := h
    cases r' with
    | nil => exact e j ρ m h
    | cons a r' => cases e1
  · obtain ⟨j, r', e1, h⟩ := h
    cases r' with
    | nil => cases e1
    | cons a r' =>
      cases e1
      exact st j a r' ρ m _ h fun ρ m h => ⟨_, _, rfl, h⟩
theorem v_kSIz {i : Nat} {k v : Int} (h0 : 0 ≤ k) (h1 : k < xs.length) (h : nx (ρ.set i (.own (zz (xs.set k.toNat v)))) m) : kSI ρ i (zz xs) nx (.int v) (.int k) m := by
  refine v_kSI h0 (by rw [List.length_map]; exact h1) rfl ?_
  rw [show zz (xs.set k.toNat v) = (zz xs).set k.toNat (.int v) from List.map_set ..] at h
  exact h
theorem v_pow (a : 0 ≤ j) (b : j ≤ 1000000) (c : i.natAbs < 2 ^ 64) (h : q (.int (i ^ j.toNat))) : gII CPow (fun i j => .int (i ^ j.toNat)) (.int i) (.int j) q := ⟨⟨a, b, c⟩, h⟩
theorem v_draw {N : Nat} {many : Int} {Q : D → Option Nat → Prop} {Z : Str → Option Nat → Prop} (h0 : 0 < many) (hb : many.natAbs < 2 ^ 250) (h : ∀ x, 0 ≤ x → x < many → Q (.int x) (some N)) : s__law_draw [.hnd hdl, .int many] (some (N + 1)) Q Z := ⟨N, many, rfl, rfl, h0, Nat.lt_of_lt_of_le hb (Nat.pow_le_pow_right (by decide) (by decide)), h⟩
end
end RR

/-! PS: formal series over a commutative ring, a commutative ring -/
namespace RR
structure Ser (K : Type) where
  co : Nat → K
namespace Ser
variable {K : Type}
theorem ext {f g : Ser K} (h : ∀ k, f.co k = g.co k) : f = g := by
  cases f; cases g; congr; funext k; exact h k
def tl (f : Ser K) : Ser K := ⟨fun k => f.co (k + 1)⟩
variable [Lean.Grind.CommRing K]
def mulc : Nat → Ser K → Ser K → K
  | 0, f, g => f.co 0 * g.co 0
  | k + 1, f, g => f.co 0 * g.co (k + 1) + mulc k f.tl g
def add (f g : Ser K) : Ser K := ⟨fun k => f.co k + g.co k⟩
def neg (f : Ser K) : Ser K := ⟨fun k => - f.co k⟩
def mul (f g : Ser K) : Ser K := ⟨fun k => mulc k f g⟩
/-- a number -/
def C (c : K) : Ser K := ⟨fun k => if k = 0 then c else 0⟩
instance : Add (Ser K) := ⟨add⟩
instance : Mul (Ser K) := ⟨mul⟩
instance : Neg (Ser K) := ⟨neg⟩
instance : Sub (Ser K) := ⟨fun f g => add f (neg g)⟩
local instance : NatCast K := Lean.Grind.Semiring.natCast
local instance : IntCast K := Lean.Grind.Ring.intCast
instance (n : Nat) : OfNat (Ser K) n := ⟨C (OfNat.ofNat n)⟩
instance : NatCast (Ser K) := ⟨fun n => C (NatCast.natCast n)⟩
instance : IntCast (Ser K) := ⟨fun n => C (IntCast.intCast n)⟩
def pow (f : Ser K) : Nat → Ser K
  | 0 => C 1
  | n + 1 => mul (pow f n) f
instance : HPow (Ser K) Nat (Ser K) := ⟨pow⟩
instance : SMul Nat (Ser K) := ⟨fun n f => ⟨fun k => n • f.co k⟩⟩
instance : SMul Int (Ser K) := ⟨fun n f => ⟨fun k => n • f.co k⟩⟩
theorem add_co (f g : Ser K) (k : Nat) : (f + g).co k = f.co k + g.co k := rfl
theorem neg_co (f : Ser K) (k : Nat) : (-f).co k = - f.co k := rfl
theorem mul_co (f g : Ser K) (k : Nat) : (f * g).co k = mulc k f g := rfl
theorem C_co (c : K) (k : Nat) : (C c).co k = if k = 0 then c else 0 := rfl
theorem mulc_right : ∀ (k : Nat) (f g : Ser K), mulc (k + 1) f g = f.co (k + 1) * g.co 0 + mulc k f g.tl
  | 0, f, g => by show f.co 0 * g.co 1 + f.co 1 * g.co 0 = f.co 1 * g.co 0 + f.co 0 * g.co 1; grind
  | k + 1, f, g => by
    have := mulc_right k f.tl g
    show f.co 0 * g.co (k + 2) + mulc (k + 1) f.tl g = f.co (k + 2) * g.co 0 + (f.co 0 * g.co (k + 2) + mulc k f.tl g.tl)
    rw [this]
    show _ + (f.co (k + 2) * g.co 0 + _) = _
    grind
theorem mulc_comm : ∀ (k : Nat) (f g : Ser K), mulc k f g = mulc k g f
  | 0, f, g => by show f.co 0 * g.co 0 = g.co 0 * f.co 0; grind
  | k + 1, f, g => by
    rw [mulc_right k g f]
    show f.co 0 * g.co (k + 1) + mulc k f.tl g = _
    rw [mulc_comm k f.tl g]; grind
theorem mulc_add : ∀ (k : Nat) (f g h : Ser K), mulc k (f + g) h = mulc k f h + mulc k g h
  | 0, f, g, h => by show (f.co 0 + g.co 0) * h.co 0 = f.co 0 * h.co 0 + g.co 0 * h.co 0; grind
  | k + 1, f, g, h => by
    show (f.co 0 + g.co 0) * h.co (k + 1) + mulc k (f.tl + g.tl) h = f.co 0 * h.co (k + 1) + mulc k f.tl h + (g.co 0 * h.co (k + 1) + mulc k g.tl h)
    rw [mulc_add k f.tl g.tl h]; grind
theorem mulc_scale : ∀ (k : Nat) (c : K) (f h : Ser K), mulc k ⟨fun j => c * f.co j⟩ h = c * mulc k f h
  | 0, c, f, h => by show c * f.co 0 * h.co 0 = c * (f.co 0 * h.co 0); grind
  | k + 1, c, f, h => by
    show (c * f.co 0) * h.co (k + 1) + mulc k ⟨fun j => c * f.tl.co j⟩ h = c * (f.co 0 * h.co (k + 1) + mulc k f.tl h)
    rw [mulc_scale k c f.tl h]; grind
theorem tl_mul (f g : Ser K) : (f * g).tl = (⟨fun j => f.co 0 * g.tl.co j⟩ : Ser K) + f.tl * g := ext fun k => rfl
theorem mulc_assoc : ∀ (k : Nat) (f g h : Ser K), mulc k (f * g) h = mulc k f (g * h)
  | 0, f, g, h => by show f.co 0 * g.co 0 * h.co 0 = f.co 0 * (g.co 0 * h.co 0); grind
  | k + 1, f, g, h => by
    show (f.co 0 * g.co 0) * h.co (k + 1) + mulc k (f * g).tl h = f.co 0 * mulc (k + 1) g h + mulc k f.tl (g * h)
    rw [tl_mul, mulc_add, mulc_assoc k f.tl g h, mulc_scale k (f.co 0) g.tl h]
    show _ = f.co 0 * (g.co 0 * h.co (k + 1) + mulc k g.tl h) + _
    grind
theorem tl_C (c : K) : (C c).tl = C 0 := ext fun j => by
  show (if j + 1 = 0 then c else 0) = if j = 0 then 0 else 0
  rw [if_neg (by omega)]; split <;> rfl
theorem mulc_zero : ∀ (k : Nat) (g : Ser K), mulc k (C 0) g = 0
  | 0, g => by show (if 0 = 0 then (0 : K) else 0) * g.co 0 = 0; rw [if_pos rfl]; grind
  | k + 1, g => by
    show (if 0 = 0 then (0 : K) else 0) * g.co (k + 1) + mulc k (C 0).tl g = 0
    rw [tl_C, mulc_zero k g, if_pos rfl]; grind
theorem mulc_C (k : Nat) (c : K) (g : Ser K) : mulc k (C c) g = c * g.co k := by
  cases k with
  | zero => rfl
  | succ k =>
    show (if 0 = 0 then c else 0) * g.co (k + 1) + mulc k (C c).tl g = c * g.co (k + 1)
    rw [tl_C, mulc_zero, if_pos rfl]; grind
theorem C_mul_co (c : K) (g : Ser K) (k : Nat) : (C c * g).co k = c * g.co k := mulc_C k c g
instance : Lean.Grind.CommRing (Ser K) where
  add_zero f := ext fun k => by show f.co k + (if k = 0 then (0 : K) else 0) = f.co k; split <;> grind
  add_comm f g := ext fun k => by show f.co k + g.co k = g.co k + f.co k; grind
  add_assoc f g h := ext fun k => by show f.co k + g.co k + h.co k = f.co k + (g.co k + h.co k); grind
  mul_assoc f g h := ext fun k => mulc_assoc k f g h
  mul_one f := ext fun k => by show mulc k f (C 1) = _; rw [mulc_comm, mulc_C]; grind
  one_mul f := ext fun k => by show mulc k (C 1) f = _; rw [mulc_C]; grind
  left_distrib f g h := ext fun k => by show mulc k f (g + h) = mulc k f g + mulc k f h; rw [mulc_comm, mulc_add, mulc_comm k g, mulc_comm k h]
  right_distrib f g h := ext fun k => mulc_add k f g h
  zero_mul f := ext fun k => by show mulc k (C 0) f = _; rw [mulc_C]; show (0 : K) * f.co k = if k = 0 then 0 else 0; split <;> grind
  mul_zero f := ext fun k => by show mulc k f (C 0) = _; rw [mulc_comm, mulc_C]; show (0 : K) * f.co k = if k = 0 then 0 else 0; split <;> grind
  pow_zero f := rfl
  pow_succ f n := rfl
  neg_add_cancel f := ext fun k => by show - f.co k + f.co k = if k = 0 then 0 else 0; split <;> grind
  sub_eq_add_neg f g := rfl
  mul_comm f g := ext fun k => mulc_comm k f g
  nsmul_eq_natCast_mul n f := ext fun k => by show n • f.co k = mulc k (C (NatCast.natCast n)) f; rw [mulc_C]; exact Lean.Grind.Semiring.nsmul_eq_natCast_mul n (f.co k)
  zsmul_natCast_eq_nsmul n f := ext fun k => Lean.Grind.Ring.zsmul_natCast_eq_nsmul n (f.co k)
  ofNat_succ n := ext fun k => by
    show (if k = 0 then (OfNat.ofNat (n + 1) : K) else 0) = (if k = 0 then (OfNat.ofNat n : K) else 0) + (if k = 0 then (1 : K) else 0)
    split
    · exact Lean.Grind.Semiring.ofNat_succ n
    · grind
  ofNat_eq_natCast n := ext fun k => by
    show (if k = 0 then (OfNat.ofNat n : K) else 0) = (if k = 0 then (NatCast.natCast n : K) else 0)
    split
    · exact Lean.Grind.Semiring.ofNat_eq_natCast n
    · rfl
  intCast_ofNat n := ext fun k => by
    show (if k = 0 then (IntCast.intCast (OfNat.ofNat n : Int) : K) else 0) = (if k = 0 then (OfNat.ofNat n : K) else 0)
    split
    · exact Lean.Grind.Ring.intCast_ofNat n
    · rfl
  intCast_neg i := ext fun k => by
    show (if k = 0 then (IntCast.intCast (-i) : K) else 0) = - (if k = 0 then (IntCast.intCast i : K) else 0)
    split
    · exact Lean.Grind.Ring.intCast_neg i
    · grind
  neg_zsmul i f := ext fun k => Lean.Grind.Ring.neg_zsmul i (f.co k)
end Ser
end RR

/-! PG: series: single powers, places, the highest place, quotients and rests -/
namespace RR
section
variable {K : Type} [Lean.Grind.CommRing K]
theorem zero_co (k : Nat) : (0 : Ser K).co k = 0 := by
  show (if k = 0 then (0 : K) else 0) = 0
  split <;> rfl
theorem one_co (k : Nat) : (1 : Ser K).co k = if k = 0 then 1 else 0 := rfl
/-- x to the k -/
def xp (k : Nat) : Ser K := ⟨fun j => if j = k then 1 else 0⟩
theorem xp_co (k j : Nat) : (xp k : Ser K).co j = if j = k then 1 else 0 := rfl
theorem xp0 : (xp 0 : Ser K) = 1 := Ser.ext fun j => rfl
theorem tl_xp (k : Nat) : (xp (k + 1) : Ser K).tl = xp k := Ser.ext fun j => by
  show (if j + 1 = k + 1 then (1 : K) else 0) = if j = k then 1 else 0
  by_cases h : j = k
  · rw [if_pos h, if_pos (by omega)]
  · rw [if_neg h, if_neg (by omega)]
theorem xp_mul_co (k : Nat) (f : Ser K) (j : Nat) : (xp k * f).co j = if k ≤ j then f.co (j - k) else 0 := by
  induction k generalizing j with
  | zero => rw [xp0, Lean.Grind.Semiring.one_mul, if_pos (Nat.zero_le _), Nat.sub_zero]
  | succ k ih =>
    cases j with
    | zero =>
      rw [if_neg (by omega)]
      show (if 0 = k + 1 then (1 : K) else 0) * f.co 0 = 0
      rw [if_neg (by omega)]; grind
    | succ j =>
      show (if 0 = k + 1 then (1 : K) else 0) * f.co (j + 1) + Ser.mulc j (xp (k + 1)).tl f = _
      rw [if_neg (by omega), tl_xp]
      rw [show Ser.mulc j (xp k) f = (xp k * f).co j from rfl, ih]
      by_cases h : k ≤ j
      · rw [if_pos h, if_pos (by omega), show j + 1 - (k + 1) = j - k by omega]; grind
      · rw [if_neg h, if_neg (by omega)]; grind
theorem xp_add (i j : Nat) : (xp (i + j) : Ser K) = xp i * xp j := Ser.ext fun k => by
  rw [xp_mul_co, xp_co, xp_co]
  by_cases h : i ≤ k
  · rw [if_pos h]
    by_cases e : k = i + j
    · rw [if_pos e, if_pos (by omega)]
    · rw [if_neg e, if_neg (by omega)]
  · rw [if_neg h, if_neg (by omega)]
theorem C_add (a b : K) : Ser.C (a + b) = Ser.C a + Ser.C b := Ser.ext fun k => by
  rw [Ser.add_co]; simp only [Ser.C_co]; split <;> grind
theorem C_mul (a b : K) : Ser.C (a * b) = Ser.C a * Ser.C b := Ser.ext fun k => by
  rw [Ser.C_mul_co]; simp only [Ser.C_co]; split <;> grind
theorem C_neg (a : K) : Ser.C (-a) = - Ser.C a := Ser.ext fun k => by rw [Ser.neg_co]; simp only [Ser.C_co]; split <;> grind
theorem C_one : Ser.C (1 : K) = 1 := rfl
theorem C_zero : Ser.C (0 : K) = 0 := rfl
/-- nought from place n on -/
def far (n : Nat) (f : Ser K) : Prop := ∀ k, n ≤ k → f.co k = 0
theorem far_mono {n m : Nat} {f : Ser K} (h : far n f) (l : n ≤ m) : far m f := fun k hk => h k (Nat.le_trans l hk)
theorem far_zero {n : Nat} : far n (0 : Ser K) := fun k _ => zero_co k
theorem far_add {n : Nat} {f g : Ser K} (h : far n f) (h' : far n g) : far n (f + g) := fun k hk => by rw [Ser.add_co, h k hk, h' k hk]; grind
theorem far_C {c : K} : far 1 (Ser.C c) := fun k hk => by rw [Ser.C_co, if_neg (by omega)]
theorem far0 {f : Ser K} (h : far 0 f) : f = 0 := Ser.ext fun j => by rw [h j (Nat.zero_le _), zero_co]
theorem mul_far {n k : Nat} {f g : Ser K} (hf : far n f) (hg : far k g) : ∀ j, n + k ≤ j + 1 → (f * g).co j = 0 := by
  induction n generalizing f with
  | zero =>
    intro j _
    rw [far0 hf, Lean.Grind.Semiring.zero_mul, zero_co]
  | succ n ih =>
    intro j hj
    cases j with
    | zero =>
      show f.co 0 * g.co 0 = 0
      rw [hg 0 (by omega)]; grind
    | succ j =>
      show f.co 0 * g.co (j + 1) + (f.tl * g).co j = 0
      rw [ih (f := f.tl) (fun i hi => hf (i + 1) (by omega)) j (by omega), hg _ (by omega)]
      grind
theorem far_mul {n k : Nat} {f g : Ser K} (hf : far n f) (hg : far k g) : far (n + k - 1) (f * g) := fun j hj => mul_far hf hg j (by omega)
/-- f is of degree n -/
def top (n : Nat) (f : Ser K) : Prop := far (n + 1) f ∧ f.co n ≠ 0
end
end RR

/-! MA: rows as series; lowest terms -/
namespace RR
open PySem PySem.Spec PyProof.Rows L2
/-! ### rows as series -/
def ser (xs : List Int) : Ser Int := ⟨fun k => xs.getD k 0⟩
theorem ser_co (xs : List Int) (k : Nat) : (ser xs).co k = xs.getD k 0 := rfl
theorem ser_nil : ser [] = 0 := Ser.ext fun k => by
  show (0 : Int) = if k = 0 then ((0 : Nat) : Int) else 0
  split <;> rfl
theorem getD_snoc (xs : List Int) (a : Int) (k : Nat) : (xs ++ [a]).getD k 0 = if k = xs.length then a else xs.getD k 0 := by
  simp only [List.getD_eq_getElem?_getD, List.getElem?_append]
  by_cases h : k < xs.length
  · rw [if_pos h, if_neg (by omega)]
  · rw [if_neg h]
    by_cases e : k = xs.length
    · subst e; simp
    · rw [if_neg e, List.getElem?_eq_none (l := xs) (by omega), List.getElem?_eq_none (by simp; omega)]
theorem getD_far {xs : List Int} {k : Nat} (h : xs.length ≤ k) : xs.getD k 0 = 0 := by
  rw [List.getD_eq_getElem?_getD, List.getElem?_eq_none h]; rfl
theorem ser_strip (xs : List Int) : ser (strip xs) = ser xs := by
  refine Ser.ext fun k => ?_
  show (strip xs).getD k 0 = xs.getD k 0
  induction xs using strip_ind with
  | h0 => rfl
  | h1 xs a ih =>
    rw [strip_snoc]
    by_cases h : a = 0
    · rw [if_pos h, ih, getD_snoc, h]
      split
      · rename_i e; exact getD_far (Nat.le_of_eq e.symm)
      · rfl
    · rw [if_neg h]
theorem done_last {xs : List Int} (h : done xs) (n : xs ≠ []) : xs.getD (xs.length - 1) 0 ≠ 0 := by
  induction xs using strip_ind with
  | h0 => exact absurd rfl n
  | h1 xs a _ =>
    intro z
    rw [List.length_append, List.length_singleton, Nat.add_sub_cancel, getD_snoc, if_pos rfl] at z
    unfold done at h
    rw [strip_snoc, if_pos z] at h
    have := congrArg List.length h
    have := strip_len xs
    rw [List.length_append, List.length_singleton] at *
    omega
theorem done_uniq {xs ys : List Int} (hx : done xs) (hy : done ys) (h : ser xs = ser ys) : xs = ys := by
  have co : ∀ k, xs.getD k 0 = ys.getD k 0 := fun k => congrArg (fun f => Ser.co f k) h
  have le : ∀ {xs ys : List Int}, done xs → (∀ k, xs.getD k 0 = ys.getD k 0) → xs.length ≤ ys.length := fun {xs ys} hx co => by
    refine Nat.le_of_not_lt fun lt => ?_
    have n : xs ≠ [] := fun z => by rw [z] at lt; simp at lt
    exact done_last hx n (by rw [co, getD_far (by omega)])
  have el : xs.length = ys.length := Nat.le_antisymm (le hx co) (le hy fun k => (co k).symm)
  refine List.ext_getElem el fun i h1 h2 => ?_
  have := co i
  rwa [List.getD_eq_getElem?_getD, List.getD_eq_getElem?_getD, List.getElem?_eq_getElem h1, List.getElem?_eq_getElem h2] at this
theorem bd0 {n : Nat} : bd n 0 := by unfold bd; exact Nat.pow_pos (by decide)
/-! the operations, list by list -/
def padTo (n : Nat) (xs : List Int) : List Int := xs ++ List.replicate (n - xs.length) 0
theorem pad_len {n : Nat} {xs : List Int} (h : xs.length ≤ n) : (padTo n xs).length = n := by unfold padTo; rw [List.length_append, List.length_replicate]; omega
theorem pad_co {n : Nat} {xs : List Int} (k : Nat) : (padTo n xs).getD k 0 = xs.getD k 0 := by
  unfold padTo
  simp only [List.getD_eq_getElem?_getD, List.getElem?_append]
  by_cases h : k < xs.length
  · rw [if_pos h]
  · rw [if_neg h, List.getElem?_eq_none (l := xs) (by omega), List.getElem?_replicate]
    split <;> rfl
theorem zip_co {g : Int → Int → Int} (h0 : g 0 0 = 0) {xs ys : List Int} (hl : xs.length = ys.length) (k : Nat) : (List.zipWith g xs ys).getD k 0 = g (xs.getD k 0) (ys.getD k 0) := by
  simp only [List.getD_eq_getElem?_getD]
  rw [List.getElem?_zipWith]
  by_cases h : k < xs.length
  · rw [List.getElem?_eq_getElem h, List.getElem?_eq_getElem (hl ▸ h)]; rfl
  · rw [List.getElem?_eq_none (Nat.le_of_not_lt h), List.getElem?_eq_none (by omega)]
    exact h0.symm
theorem map_co {g : Int → Int} (h0 : g 0 = 0) (xs : List Int) (k : Nat) : (xs.map g).getD k 0 = g (xs.getD k 0) := by
  simp only [List.getD_eq_getElem?_getD, List.getElem?_map]
  cases xs[k]? with
  | none => exact h0.symm
  | some x => rfl
theorem ser_scale (c : Int) (xs : List Int) : ser (xs.map fun x => c * x) = Ser.C c * ser xs := Ser.ext fun k => by rw [ser_co, map_co (by simp), Ser.C_mul_co]; rfl
theorem ser_cons (a : Int) (xs : List Int) : ser (a :: xs) = Ser.C a + xp 1 * ser xs := Ser.ext fun k => by
  rw [Ser.add_co, xp_mul_co]
  cases k with
  | zero => simp [ser, Ser.C]
  | succ k => simp [ser, Ser.C]
theorem ser_set {xs : List Int} {i : Nat} {v : Int} (h : i < xs.length) : ser (xs.set i v) = ser xs + Ser.C (v - xs.getD i 0) * xp i := Ser.ext fun k => by
  rw [ser_co, Ser.add_co, Ser.C_mul_co, xp_co, ser_co]
  simp only [List.getD_eq_getElem?_getD]
  by_cases e : k = i
  · subst e
    rw [List.getElem?_set_self h, List.getElem?_eq_getElem h]; simp; omega
  · rw [List.getElem?_set_ne (Ne.symm e), if_neg e]; simp
theorem ser_zeros (n : Nat) : ser (List.replicate n 0) = 0 := Ser.ext fun k => by
  rw [zero_co, ser_co, List.getD_eq_getElem?_getD, List.getElem?_replicate]
  split <;> rfl
/-! ### rows by their series, their sizes apart -/
structure R (f : Ser Int) (r : List Int) : Prop where
  dn : done r
  sr : ser r = f
/-- below n places, of at most a bits -/
structure B (n a : Nat) (f : Ser Int) : Prop where
  far : ∀ k, n ≤ k → f.co k = 0
  bd : ∀ k, RR.bd a (f.co k)
theorem R.uniq {f : Ser Int} {r r' : List Int} (h : R f r) (h' : R f r') : r = r' := done_uniq h.dn h'.dn (h.sr.trans h'.sr.symm)
theorem R.of {f : Ser Int} {xs : List Int} (e : ser xs = f) : R f (strip xs) := ⟨strip_done xs, (ser_strip xs).trans e⟩
theorem R.cong {f g : Ser Int} {r : List Int} (h : R f r) (e : f = g) : R g r := e ▸ h
theorem R.nil : R 0 [] := ⟨rfl, ser_nil⟩
theorem R.get {f : Ser Int} {r : List Int} (h : R f r) (k : Nat) : r.getD k 0 = f.co k := by rw [← h.sr]; rfl
theorem R.zero {f : Ser Int} {r : List Int} (h : R f r) : r = [] ↔ f = 0 := ⟨fun e => by rw [← h.sr, e, ser_nil], fun e => done_uniq h.dn rfl (by rw [h.sr, e, ser_nil])⟩
theorem R.len {n a : Nat} {f : Ser Int} {r : List Int} (h : R f r) (b : B n a f) : r.length ≤ n := by
  refine Nat.le_of_not_lt fun lt => ?_
  have n0 : r ≠ [] := fun z => by rw [z] at lt; simp at lt
  exact done_last h.dn n0 (by rw [h.get, b.far _ (by omega)])
theorem R.bds {n a : Nat} {f : Ser Int} {r : List Int} (h : R f r) (b : B n a f) : ∀ x ∈ r, RR.bd a x := fun x hx => by
  obtain ⟨i, hi, rfl⟩ := List.mem_iff_getElem.mp hx
  have := b.bd i
  rw [← h.get, List.getD_eq_getElem?_getD, List.getElem?_eq_getElem hi] at this
  exact this
theorem R.far {f : Ser Int} {r : List Int} (h : R f r) {k : Nat} (hk : r.length ≤ k) : f.co k = 0 := by rw [← h.get, getD_far hk]
theorem R.last {f : Ser Int} {r : List Int} (h : R f r) (n : r ≠ []) : f.co (r.length - 1) ≠ 0 := by rw [← h.get]; exact done_last h.dn n
theorem B.of {n a : Nat} {xs : List Int} (hl : xs.length ≤ n) (hb : ∀ x ∈ xs, RR.bd a x) : B n a (ser xs) := ⟨fun k hk => by rw [ser_co, getD_far (by omega)], fun k => by
  rw [ser_co]
  by_cases hk : k < xs.length
  · rw [List.getD_eq_getElem?_getD, List.getElem?_eq_getElem hk]; exact hb _ (List.getElem_mem hk)
  · rw [getD_far (by omega)]; exact bd0⟩
theorem B.mono {n a n' a' : Nat} {f : Ser Int} (h : B n a f) (hn : n ≤ n') (ha : a ≤ a') : B n' a' f := ⟨fun k hk => h.far k (by omega), fun k => bd_mono (h.bd k) ha⟩
theorem B.cong {n a : Nat} {f g : Ser Int} (h : B n a f) (e : f = g) : B n a g := e ▸ h
theorem B.zero {n a : Nat} : B n a 0 := ⟨fun k _ => zero_co k, fun k => by rw [zero_co]; exact bd0⟩
theorem B.add {n a k b : Nat} {f g : Ser Int} (h : B n a f) (h' : B k b g) : B (max n k) (max a b + 1) (f + g) := ⟨fun j hj => by rw [Ser.add_co, h.far j (by omega), h'.far j (by omega)]; rfl, fun j => by rw [Ser.add_co]; exact bd_add (h.bd j) (h'.bd j)⟩
theorem B.add' {n a : Nat} {f g : Ser Int} (h : B n a f) (h' : B n a g) : B n (a + 1) (f + g) := by
  have := h.add h'
  rwa [Nat.max_self, Nat.max_self] at this
theorem B.neg {n a : Nat} {f : Ser Int} (h : B n a f) : B n a (-f) := ⟨fun j hj => by rw [Ser.neg_co, h.far j hj]; rfl, fun j => by rw [Ser.neg_co]; exact bd_neg (h.bd j)⟩
theorem B.scale {n a c : Nat} {q : Int} {f : Ser Int} (hq : RR.bd c q) (h : B n a f) : B n (c + a) (Ser.C q * f) := ⟨fun j hj => by rw [Ser.C_mul_co, h.far j hj, Int.mul_zero], fun j => by rw [Ser.C_mul_co]; exact bd_mul hq (h.bd j)⟩
theorem B.xp {k : Nat} : B (k + 1) 1 (RR.xp k : Ser Int) := ⟨fun j hj => by rw [xp_co, if_neg (by omega)], fun j => by rw [xp_co]; split <;> (unfold RR.bd; decide)⟩
theorem B.C {a : Nat} {c : Int} (h : RR.bd a c) : B 1 a (Ser.C c) := ⟨fun j hj => by rw [Ser.C_co, if_neg (by omega)], fun j => by
  rw [Ser.C_co]; split
  · exact h
  · exact bd0⟩
theorem mulc_le {a b : Nat} : ∀ (k n : Nat) (f g : Ser Int), (∀ j, n ≤ j → f.co j = 0) → (∀ j, (f.co j).natAbs ≤ 2 ^ a) → (∀ j, (g.co j).natAbs ≤ 2 ^ b) → (Ser.mulc k f g).natAbs ≤ n * 2 ^ (a + b)
  | k, 0, f, g, hf, ha, hb => by
    have e : f = 0 := Ser.ext fun j => by rw [hf j (Nat.zero_le _), zero_co]
    rw [e, show Ser.mulc k 0 g = 0 from Ser.mulc_zero k g]
    simp
  | 0, n + 1, f, g, hf, ha, hb => by
    show (f.co 0 * g.co 0).natAbs ≤ _
    rw [Int.natAbs_mul, Nat.pow_add]
    have := Nat.mul_le_mul (ha 0) (hb 0)
    rw [Nat.succ_mul]; omega
  | k + 1, n + 1, f, g, hf, ha, hb => by
    show (f.co 0 * g.co (k + 1) + Ser.mulc k f.tl g).natAbs ≤ _
    have h1 := mulc_le k n f.tl g (fun j hj => hf (j + 1) (by omega)) (fun j => ha (j + 1)) hb
    have h2 : (f.co 0 * g.co (k + 1)).natAbs ≤ 2 ^ (a + b) := by
      rw [Int.natAbs_mul, Nat.pow_add]; exact Nat.mul_le_mul (ha 0) (hb (k + 1))
    rw [Nat.succ_mul]; omega
theorem B.mul {n a k b : Nat} {f g : Ser Int} (h : B n a f) (h' : B k b g) : B (n + k) (a + b + n) (f * g) := ⟨fun j hj => mul_far h.far h'.far j (by omega), fun j => by
  have ha : ∀ j, (f.co j).natAbs ≤ 2 ^ a := fun j => Nat.le_of_lt (h.bd j)
  have hb : ∀ j, (g.co j).natAbs ≤ 2 ^ b := fun j => Nat.le_of_lt (h'.bd j)
  cases n with
  | zero =>
    have e : f = 0 := Ser.ext fun j => by rw [h.far j (Nat.zero_le _), zero_co]
    rw [e, Lean.Grind.Semiring.zero_mul, zero_co]; exact bd0
  | succ n =>
    have := mulc_le j (n + 1) f g h.far ha hb
    rw [Ser.mul_co]
    unfold RR.bd
    refine Nat.lt_of_le_of_lt this ?_
    rw [Nat.pow_add 2 (a + b), Nat.mul_comm]
    exact Nat.mul_lt_mul_of_pos_left (Nat.lt_two_pow_self) (Nat.pow_pos (by decide))⟩
theorem bd_pow {a : Nat} {d : Int} (h : bd a d) : ∀ k : Nat, bd (k * a + 1) (d ^ k)
  | 0 => by unfold bd; simp
  | k + 1 => by
    rw [Int.pow_succ]
    refine bd_mono (bd_mul (bd_pow h k) h) ?_
    rw [Nat.succ_mul]; omega
end RR

/-! RS2: more rules for stepping -/
namespace RR
open PySem PySem.Spec PyProof.Rows L2
section
variable {M : Type} {ρ : En} {m : M} {Q : D → M → Prop} {QL : List D → M → Prop} {QB : Bool → M → Prop} {Z ex : Str → M → Prop} {nx bk ct : En → M → Prop} {rt : D → M → Prop} {t u w : DT M} {ta : DTA M} {tt tu : DTT M} {s1 s2 : DS M} {q : D → Prop} {i j : Int} {d x y : D} {xs ys : List Int} {ds es : List D}
/-! places of written tuples -/
theorem v_ix0 (h : q x) : gIx false (.tup (x :: ds)) (.int 0) q := by
  unfold gIx; dsimp only
  rw [show atI (x :: ds) 0 = some x from by unfold atI ixN; rw [if_pos (by decide), if_pos (by rw [List.length_cons]; omega)]; rfl]
  exact ⟨(fun z => nomatch z), h⟩
theorem v_ix1 (h : q y) : gIx false (.tup (x :: y :: ds)) (.int 1) q := by
  unfold gIx; dsimp only
  rw [show atI (x :: y :: ds) 1 = some y from by unfold atI ixN; rw [if_pos (by decide), if_pos (by rw [List.length_cons, List.length_cons]; omega)]; rfl]
  exact ⟨(fun z => nomatch z), h⟩
theorem v_ix2 {z : D} (h : q z) : gIx false (.tup (x :: y :: z :: ds)) (.int 2) q := by
  unfold gIx; dsimp only
  rw [show atI (x :: y :: z :: ds) 2 = some z from by unfold atI ixN; rw [if_pos (by decide), if_pos (by simp only [List.length_cons]; omega)]; rfl]
  exact ⟨(fun z => nomatch z), h⟩
/-- the last one -/
theorem v_ixm {n : Bool} (h0 : xs ≠ []) (h : q (.int (xs.getD (xs.length - 1) 0))) : gIx n (.tup (zz xs)) (.int (-1)) q := by
  have l0 := List.length_pos_iff.mpr h0
  unfold gIx; dsimp only
  have e : atI (zz xs) (-1) = some (.int (xs.getD (xs.length - 1) 0)) := by
    unfold atI ixN
    rw [List.length_map, if_neg (by decide), if_pos (by omega)]
    have e2 : (-1 + (xs.length : Int)).toNat = xs.length - 1 := by omega
    first
      | (rw [Option.bind_some, e2, List.getElem?_map, List.getElem?_eq_getElem (by omega), List.getD_eq_getElem?_getD, List.getElem?_eq_getElem (by omega)]; rfl)
      | (simp only [e2, List.getElem?_map, List.getD_eq_getElem?_getD]; rw [List.getElem?_eq_getElem (by omega)]; rfl)
  rw [e]
  exact ⟨fun _ => rfl, h⟩
/-! products, quotients of what is known to be small -/
theorem v_mulb {a b : Nat} (ha : bd a i) (hb : bd b j) (l : a + b ≤ 100000000) (h : q (.int (i * j))) : gMul (.int i) (.int j) q := v_mul (mulok ha hb l) h
theorem v_fdivb {b : Nat} (h0 : j ≠ 0) (hb : bd b j) (l : b ≤ 9000) (h : q (.int (i.fdiv j))) : gII Nd (fun i j => .int (i.fdiv j)) (.int i) (.int j) q := v_gII (nd_small h0 hb l) h
/-- no number of more than 13400 bits comes by another way of dividing -/
theorem nd_big {i j : Int} (h : j ≠ 0) (hi : bd 13400 i) : Nd i j := by
  refine ⟨h, ?_⟩
  have e : Builtin.divisionGoesByPylong i j = (decide ((if j == 0 then 0 else j.natAbs.log2 / 30 + 1) > 300) && decide ((if i == 0 then 0 else i.natAbs.log2 / 30 + 1) > (if j == 0 then 0 else j.natAbs.log2 / 30 + 1) + 150)) := rfl
  rw [e]
  by_cases i0 : i = 0
  · subst i0
    rw [if_pos (by rfl : ((0 : Int) == 0) = true)]
    rw [Bool.and_eq_false_iff]
    exact .inr (decide_eq_false (by omega))
  · have hl := (Nat.log2_lt (show i.natAbs ≠ 0 by omega)).mpr hi
    have h2 : (if i == 0 then 0 else i.natAbs.log2 / 30 + 1) ≤ 447 := by split <;> omega
    rw [Bool.and_eq_false_iff]
    by_cases q : (if j == 0 then 0 else j.natAbs.log2 / 30 + 1) > 300
    · exact .inr (decide_eq_false (by omega))
    · exact .inl (decide_eq_false q)
theorem v_fdivs (h0 : j ≠ 0) (hb : bd 9000 j ∨ bd 13400 i) (h : q (.int (i.fdiv j))) : gII Nd (fun i j => .int (i.fdiv j)) (.int i) (.int j) q := v_gII (hb.elim (fun hb => nd_small h0 hb (Nat.le_refl _)) fun hb => nd_big h0 hb) h
/-- rows and what they are divided by, little enough -/
def Sm (xs : List Int) (d : Int) : Prop := bd 9000 d ∨ (bd 13400 d ∧ ∀ x ∈ xs, bd 13400 x)
theorem Sm.of {xs : List Int} {d : Int} {k j : Nat} (h : bd k d) (hx : ∀ x ∈ xs, bd j x) (l : k ≤ 9000 ∨ (k ≤ 13400 ∧ j ≤ 13400)) : Sm xs d := by
  rcases l with l | ⟨l, l'⟩
  · exact .inl (bd_mono h l)
  · exact .inr ⟨bd_mono h l, fun x m => bd_mono (hx x m) l'⟩
theorem Sm.le {xs : List Int} {d e : Int} (h : Sm xs d) (l : ∀ k, bd k d → bd k e) : (∀ x ∈ d :: xs, bd 9000 e ∨ bd 13400 x) := fun x hx => by
  rcases h with h | ⟨h, h'⟩
  · exact .inl (l _ h)
  · rcases List.mem_cons.mp hx with rfl | hx
    · exact .inr h
    · exact .inr (h' x hx)
/-- [v] * k -/
theorem v_repl1 {v : Int} {k : Int} (h1 : k ≤ 16777216) (hm : -16777216 ≤ k) (h : q (.lst (zz (List.replicate k.toNat v)))) : gMul (.lst [.int v]) (.int k) q := by
  by_cases h0 : 0 ≤ k
  · refine v_repl h0 (by simp; omega) (by omega) rfl ?_
    unfold rep
    rw [show (List.replicate k.toNat [D.int v]).flatten = zz (List.replicate k.toNat v) from by
      simp only [zz, List.map_replicate]
      induction k.toNat with
      | zero => rfl
      | succ n ih => rw [List.replicate_succ, List.replicate_succ, List.flatten_cons, ih]; rfl]
    exact h
  · refine ⟨by omega, by omega, small_line (by rw [show k.toNat = 0 by omega]; simp), rfl, ?_⟩
    unfold rep
    rw [show k.toNat = 0 by omega] at h ⊢
    exact h
theorem zz_app : zz xs ++ zz ys = zz (xs ++ ys) := (List.map_append ..).symm
theorem v_addlz (a : xs.length + ys.length ≤ 16777216) (h : q (.lst (zz (xs ++ ys)))) : gAdd (.lst (zz xs)) (.lst (zz ys)) q := by
  refine v_addl (by simpa using a) (nls_ints _) (nls_ints _) ?_
  rw [zz_app]; exact h
/-- x[k] += v of a list of whole numbers -/
def kAI (ρ : En) (i : Nat) (f : Int → Int → Int) (ds : List D) (nx : En → M → Prop) (te : DT M) (ex : Str → M → Prop) (k : D) (m1 : M) : Prop := match k with
    | .int k => (match ixN ds.length k with
      | some j => (match ds[j]? with
        | some (.int x) => te ρ m1 (fun d m2 => match d with | .int y => nx (ρ.set i (.own (ds.set j (.int (f x y))))) m2 | _ => False) ex
        | _ => False)
      | none => False)
    | _ => False
theorem v_augI {i : Nat} {f : Int → Int → Int} (e : ρ[i]? = some (.own ds)) (h : t ρ m (fun k m1 => kAI ρ i f ds nx u ex k m1) ex) : dAugI i f t u ⟨nx, rt, bk, ct, ex⟩ ρ m := by
  unfold dAugI; rw [e]; exact h
theorem v_kAI {i : Nat} {f : Int → Int → Int} {k : Int} (h0 : 0 ≤ k) (h1 : k < xs.length) (h : u ρ m (fun d m2 => kOS (fun o m2 => match o with | some y => nx (ρ.set i (.own (zz (xs.set k.toNat (f (xs.getD k.toNat 0) y))))) m2 | none => False) d m2) ex) : kAI ρ i f (zz xs) nx u ex (.int k) m := by
  unfold kAI; dsimp only
  rw [ixN_at h0 (by rw [List.length_map]; exact h1)]
  dsimp only
  have lt : k.toNat < xs.length := by omega
  rw [List.getElem?_map, List.getElem?_eq_getElem lt]
  dsimp only [Option.map_some]
  have e : (fun (d : D) (m2 : M) => kOS (fun o m2 => match o with | some y => nx (ρ.set i (.own (zz (xs.set k.toNat (f (xs.getD k.toNat 0) y))))) m2 | none => False) d m2) = (fun d m2 => match d with | .int y => nx (ρ.set i (.own ((zz xs).set k.toNat (.int (f xs[k.toNat] y))))) m2 | _ => False) := by
    funext d m2
    cases d <;> try rfl
    show nx _ m2 = nx _ m2
    simp only [zz, List.map_set, List.getD_eq_getElem?_getD, List.getElem?_eq_getElem lt]
    rfl
  rw [← e]
  exact h
/-! sources -/
def kZip (n : Bool) (Q : List D → M → Prop) (x y : D) (m2 : M) : Prop := match x, y with
  | .lst xs, .lst ys | .tup xs, .tup ys => (n = true → D.nls xs = true ∧ D.nls ys = true) ∧ Q (zipD xs ys) m2
  | _, _ => False
theorem v_zip {n : Bool} (h : t ρ m (fun x m1 => u ρ m1 (fun y m2 => kZip n QL x y m2) Z) Z) : dZip n t u ρ m QL Z := by
  refine (?_ : t ρ m _ Z); exact h
abbrev pr2 (p : Int × Int) : D := .tup [.int p.1, .int p.2]
theorem zipD_zz : ∀ {xs ys : List Int}, zipD (zz xs) (zz ys) = (List.zip xs ys).map pr2
  | [], _ => by simp [zipD]
  | _ :: _, [] => by simp [zipD]
  | x :: xs, y :: ys => by
    show D.tup [.int x, .int y] :: zipD (zz xs) (zz ys) = _
    rw [zipD_zz, List.zip_cons_cons, List.map_cons]
theorem v_kZl {n : Bool} (h : QL ((List.zip xs ys).map pr2) m) : kZip n QL (.lst (zz xs)) (.lst (zz ys)) m := ⟨fun _ => ⟨nls_ints _, nls_ints _⟩, by rw [zipD_zz]; exact h⟩
theorem v_kZt {n : Bool} (h : QL ((List.zip xs ys).map pr2) m) : kZip n QL (.tup (zz xs)) (.tup (zz ys)) m := ⟨fun _ => ⟨nls_ints _, nls_ints _⟩, by rw [zipD_zz]; exact h⟩
/-- numbers out of pairs of numbers -/
theorem lc_zip {g : DG} {f : Int → Int → Int} (st : ∀ a ∈ xs, ∀ b ∈ ys, ∀ m (k : D → M → Prop) (l : M → Prop), k (.int (f a b)) m → g (.tup [.int a, .int b]) ρ fun ρ2 => tt ρ2 m (fun b m1 => if b = true then t ρ2 m1 k (fun _ _ => False) else l m1) (fun _ _ => False))
    (hl : xs.length ≤ 16777216) (q : QL (zz (List.zipWith f xs ys)) m) : lcGo g tt t ρ ((List.zip xs ys).map pr2) [] m QL := by
  refine lcGo_map (h := fun p => .int (f p.1 p.2)) (List.zip xs ys) (fun p hp m k l hk => ?_) (small_line (by rw [List.length_zip]; omega)) ?_
  · obtain ⟨h1, h2⟩ := List.of_mem_zip (show (p.1, p.2) ∈ _ from hp)
    exact st _ h1 _ h2 m k l hk
  · rw [show (List.zip xs ys).map (fun p => D.int (f p.1 p.2)) = zz (List.zipWith f xs ys) from by
      rw [List.zip, List.map_zipWith]
      exact (List.map_zipWith ..).symm]
    exact q
theorem zz_rev : (zz xs).reverse = zz xs.reverse := (List.map_reverse ..).symm
theorem v_kforZr {g : DG} (W : List Int → En → M → Prop) (h : W xs.reverse ρ m) (e : ∀ ρ m, W [] ρ m → nx ρ m) (st : ∀ x r ρ m, W (x :: r) ρ m → g (.int x) ρ fun ρ2 => s1 ⟨fun ρ m => W r ρ m, rt, nx, fun ρ m => W r ρ m, ex⟩ ρ2 m) :
    kFor g s1 ⟨nx, rt, bk, ct, ex⟩ ρ (zz xs).reverse m := by
  rw [zz_rev]; exact v_kforZ W xs.reverse h e st
/-! try, texts, truths -/
theorem v_try {es : List Str} {i j : Nat} (h : s1 ⟨nx, fun _ _ => False, fun _ _ => False, fun _ _ => False, fun x m' => x ∈ es ∧ nx (((ρ.set i .un).set j (.val (.exc x))).set i .un) m'⟩ ρ m) : dTry es i j s1 ⟨nx, rt, bk, ct, ex⟩ ρ m := h
def kIE (bs : List (Str × Bool)) (Q : D → M → Prop) (d : D) (m1 : M) : Prop := match d with | .exc x => (match bs.lookup x with | some b => Q (.bl b) m1 | none => False) | _ => False
theorem v_isE {bs : List (Str × Bool)} (h : t ρ m (fun d m1 => kIE bs Q d m1) Z) : dIsE bs t ρ m Q Z := h
theorem v_kIE {bs : List (Str × Bool)} {x : Str} {b : Bool} (e : bs.lookup x = some b) (h : Q (.bl b) m) : kIE bs Q (.exc x) m := by unfold kIE; dsimp only; rw [e]; exact h
theorem v_isB {a b : Bool} (h : q (.bl (decide (a = b)))) : gIsB (.bl a) (.bl b) q := h
theorem v_notB {a b : Bool} (h : q (.bl (!decide (a = b)))) : gNotB (.bl a) (.bl b) q := h
theorem v_all {bs : List Bool} (h : q (.bl (bs.all id))) : gAll [.lst (bs.map D.bl)] q := ⟨bs, rfl, h⟩
/-- x[::-1] -/
def kRv (Q : D → M → Prop) (x : D) (m1 : M) : Prop := match x with
  | .lst ds => D.nls ds = true ∧ Q (.lst ds.reverse) m1
  | .tup ds => D.nls ds = true ∧ Q (.tup ds.reverse) m1
  | _ => False
theorem v_rvs (h : t ρ m (fun x m1 => kRv Q x m1) Z) : dRvs t ρ m Q Z := h
theorem v_kRvl (h : Q (.lst (zz xs.reverse)) m) : kRv Q (.lst (zz xs)) m := ⟨nls_ints xs, by rw [zz_rev]; exact h⟩
theorem v_kRvt (h : Q (.tup (zz xs.reverse)) m) : kRv Q (.tup (zz xs)) m := ⟨nls_ints xs, by rw [zz_rev]; exact h⟩
theorem v_kRvL (n : D.nls ds = true) (h : Q (.lst ds.reverse) m) : kRv Q (.lst ds) m := ⟨n, h⟩
theorem v_par3 {i j l : Nat} (h : ta ρ m (fun ds m' => match ds with | [x, y, z] => nx (((ρ.set i (.val x)).set j (.val y)).set l (.val z)) m' | _ => False) ex) : dPar3 i j l ta ⟨nx, rt, bk, ct, ex⟩ ρ m := h
theorem v_nes {x y : Str} (h : q (.bl (!decide (x = y)))) : gNe (.str x) (.str y) q := .inr ⟨_, _, rfl, rfl, h⟩
theorem v_eqs {x y : Str} (h : q (.bl (decide (x = y)))) : gEq (.str x) (.str y) q := .inr ⟨_, _, rfl, rfl, h⟩
theorem v_ifnT {A E : Prop} (h : E) : if (!true) = true then A else E := h
theorem v_ifnF {A E : Prop} (h : A) : if (!false) = true then A else E := h
end
end RR

/-! VD: what the drawing state's two plain functions compute -/
namespace RR
open PySem PySem.Spec PyProof.Rows L2
local macro_rules | `(tactic| walk_at "bd") => `(tactic| first | assumption | exact bd_lit (by decide) | (with_reducible refine bd_mul ?_ ?_ <;> walk_at "bd") | (with_reducible refine bd_add ?_ ?_ <;> walk_at "bd") | (with_reducible refine bd_sub ?_ ?_ <;> walk_at "bd") | (with_reducible refine bd_neg ?_ <;> walk_at "bd"))
local macro_rules | `(tactic| walk_at "s") => `(tactic| with_reducible first
  | refine v_then ?_ | refine v_set ?_ | (apply v_var; · with_unfolding_all exact rfl) | refine v_bin ?_ | refine v_c ?_ | refine v_g0 ?_ | refine v_add ?_ | refine v_cons ?_ | refine v_nil ?_ | refine v_call ?_ | refine v_dB ?_ | refine v_next ?_ | refine v_ret ?_
  | refine v_ite ?_ | refine v_tst ?_ | refine v_kT ?_ | refine v_eqi ?_ | refine v_nei ?_ | refine v_eqr ?_ | refine v_ner ?_ | refine v_eqr0 ?_ | refine v_ner0 ?_ | refine v_eql ?_ | refine v_nel ?_ | refine v_eql0 ?_ | refine v_nel0 ?_ | refine v_isN ?_ | refine v_notN ?_
  | (apply v_bor; · with_unfolding_all exact rfl) | (apply v_own; · with_unfolding_all exact rfl) | refine v_tup ?_ | refine v_lst ?_ | (refine v_sz ?_ ?_; (· with_unfolding_all exact Nat.le_of_ble_eq_true rfl)) | (refine v_gIIz ?_ ?_; (· first | decide | omega))
  | refine v_lentz ?_ | refine v_lenlz ?_ | refine v_lent ?_ | refine v_lenl ?_ | refine v_I1 ?_ | refine v_I2 ?_ | refine v_int ?_ | refine v_seqlz ?_ | refine v_seqtz ?_ | refine v_sl ?_ | refine v_kSll ?_ | refine v_kSlt ?_ | refine v_ono ?_ | refine v_oso ?_ | refine v_kOS ?_
  | refine v_val ?_ | refine v_kVb ?_ | refine v_kVi ?_ | refine v_kVt ?_ | refine v_kVl ?_ | refine v_and ?_ | refine v_or ?_ | refine v_not ?_ | refine v_yes ?_ | refine v_if' ?_ | refine v_isi ?_ | refine v_kIii ?_ | refine v_kIib ?_ | refine v_kItt ?_
  | refine v_andV ?_ | refine v_orV ?_ | refine v_notV ?_ | refine v_kNV ?_ | refine v_neg ?_ | refine v_kNeg ?_ | refine v_seq ?_ | refine v_kSeql ?_ | refine v_kSeqt ?_ | refine v_rng1 ?_ | refine v_rng2 ?_ | refine v_enum ?_ | refine v_revr ?_ | refine v_rev ?_
  | (refine v_kR1 ?_ ?_ ?_; (· decide); (· decide))
  | (refine v_kR2 ?_ ?_ ?_ ?_ ?_; (· decide); (· decide); (· decide); (· decide))
  | refine v_gn ?_ | refine v_gt2 ?_ | refine v_gt3 ?_ | refine v_lc ?_ | refine v_for ?_ | refine v_setO ?_ | refine v_drop ?_ | (apply v_app; · with_unfolding_all exact rfl) | (apply v_setI; · with_unfolding_all exact rfl) | (apply v_rel; · with_unfolding_all exact rfl) | refine v_raise ?_ | refine v_par ?_ | refine v_kP ?_ | refine v_asg ?_
  | (apply v_aug; · with_unfolding_all exact rfl) | refine v_ifT ?_ | refine v_ifF ?_ | (refine v_pow ?_ ?_ ?_ ?_; (· decide); (· decide); (· decide)) | refine v_call0 ?_ | (apply v_lenr; · assumption) | (apply v_seqr; · assumption) | (apply v_kSeqr; · assumption) | (apply v_kSlr; · assumption))
def b__law_mixed {M : Type} : DS M :=
    (dThen (dSet 2 (dBin gAdd (dBin gAdd (dBin (gII Nz fun i j => .int (i.fmod j)) (dBin gMul (dBin gMul (dVar 0) (dBin gAdd (dC (.int 1)) (dBin gMul (dC (.int 2)) (dVar 1)))) (dC (.int 48271))) (dC (.int 2147483647))) (dBin gMul (dBin gMul (dC (.int 7919)) (dVar 1)) (dVar 1))) (dBin gMul (dC (.int 104729)) (dVar 1))))
    (dRet (dBin (gII Nd fun i j => .int (i.fdiv j)) (dBin (gII Nz fun i j => .int (i.fmod j)) (dBin gMul (dVar 2) (dC (.int 69621))) (dC (.int 2147483629))) (dC (.int 7)))))

theorem vc__law_mixed {M : Type} : ∀ ds (m : M) Q Z, s__law_mixed ds m Q Z → okK [false, false] ds ∧ b__law_mixed { nx := fun _ m' => Q .non m', rt := Q, ex := Z } (st0 [false, false] ds 3) m := by
  rintro ds m Q Z ⟨c, k, rfl, hc, k0, k1, q⟩
  refine ⟨⟨fun _ => rfl, fun _ => rfl, trivial⟩, ?_⟩
  have bc : bd 70 c := hc
  have bk : bd 62 k := by unfold bd; omega
  unfold b__law_mixed
  repeat walk_at "s"
  refine v_mul (mulok (bd_lit (n := 2) (by decide)) bk) ?_
  repeat walk_at "s"
  have b1 : bd 64 (1 + 2 * k) := by unfold bd; omega
  refine v_mul (mulok bc b1) ?_
  repeat walk_at "s"
  refine v_mul (mulok (bd_mul bc b1) (bd_lit (n := 16) (by decide))) ?_
  repeat walk_at "s"
  refine v_mul (mulok (bd_lit (n := 13) (by decide)) bk) ?_
  repeat walk_at "s"
  refine v_mul (mulok (bd_mul (bd_lit (n := 13) (by decide)) bk) bk) ?_
  repeat walk_at "s"
  refine v_mul (mulok (bd_lit (n := 17) (by decide)) bk) ?_
  repeat walk_at "s"
  have b2 : bd 31 ((c * (1 + 2 * k) * 48271).fmod 2147483647) := bd_fmod (bd_lit (by decide)) (by decide)
  have b3 := bd_add (bd_add b2 (bd_mul (bd_mul (bd_lit (n := 13) (x := 7919) (by decide)) bk) bk)) (bd_mul (bd_lit (n := 17) (x := 104729) (by decide)) bk)
  refine v_mul (mulok b3 (bd_lit (n := 17) (by decide))) ?_
  repeat walk_at "s"
  refine v_gII (nd_small (b := 8) (by decide) (bd_lit (by decide))) ?_
  have h0 := Int.fmod_nonneg_of_pos (((c * (1 + 2 * k) * 48271).fmod 2147483647 + 7919 * k * k + 104729 * k) * 69621) (show (0 : Int) < 2147483629 by decide)
  have h1 := Int.fmod_lt_of_pos (((c * (1 + 2 * k) * 48271).fmod 2147483647 + 7919 * k * k + 104729 * k) * 69621) (show (0 : Int) < 2147483629 by decide)
  refine q _ ?_ ?_
  · rw [fdiv_pos (by decide)]; omega
  · rw [fdiv_pos (by decide)]; omega
def b__law_folded {M : Type} : DS M :=
    (dThen (dSetO 1 (dLc (dRng1 (dCons (dC (.int 64)) dNil)) (dgN 2) dYes (dBin gAdd (dC (.int 17)) (dVar 2)) [2]))
    (dThen (dFor (dEnum true (dBor 0)) (dgT 2 (dgCons (dgN 2) (dgCons (dgN 3) dgNil)))
      (dSetI 1 (dBin (gII Nz fun i j => .int (i.fmod j)) (dBin gAdd (dBin gMul (dBin (gIx true) (dOwn 1) (dBin (gII Nz fun i j => .int (i.fmod j)) (dVar 2) (dC (.int 64)))) (dC (.int 48271))) (dVar 3)) (dC (.int 2147483647))) (dBin (gII Nz fun i j => .int (i.fmod j)) (dVar 2) (dC (.int 64)))))
    (dThen (dFor (dRng2 (dCons (dC (.int 1)) (dCons (dC (.int 64)) dNil))) (dgN 2)
      (dSetI 1 (dBin (gII Nz fun i j => .int (i.fmod j)) (dBin gAdd (dBin (gIx true) (dOwn 1) (dVar 2)) (dBin gMul (dBin (gIx true) (dOwn 1) (dBin (g0 fun i j => .int (i - j)) (dVar 2) (dC (.int 1)))) (dC (.int 16807)))) (dC (.int 2147483647))) (dVar 2)))
    (dRet (dOwn 1)))))

theorem fold_set {cs : List Int} {j : Nat} {v : Int} (l : cs.length = 64) (h : ∀ c ∈ cs, 0 ≤ c ∧ c < 2147483647) (h0 : 0 ≤ v) (h1 : v < 2147483647) : (cs.set j v).length = 64 ∧ ∀ c ∈ cs.set j v, 0 ≤ c ∧ c < 2147483647 :=
  ⟨by rw [List.length_set]; exact l, fun c hc => (List.mem_or_eq_of_mem_set hc).elim (h c) fun e => by rw [e]; exact ⟨h0, h1⟩⟩
theorem vc__law_folded {M : Type} : ∀ ds (m : M) Q Z, s__law_folded ds m Q Z → okK [true] ds ∧ b__law_folded { nx := fun _ m' => Q .non m', rt := Q, ex := Z } (st0 [true] ds 4) m := by
  rintro ds m Q Z ⟨ns, rfl, hl, q⟩
  refine ⟨⟨fun h => (nomatch h), trivial⟩, ?_⟩
  unfold b__law_folded
  repeat walk_at "s"
  refine lc_rz (f := fun j => 17 + (j : Int)) 64 (fun a _ m1 k l hk => ?_) (by decide) ?_
  · repeat walk_at "s"
    exact hk
  have c0 : ∀ c ∈ (List.range 64).map (fun j : Nat => 17 + (j : Int)), 0 ≤ c ∧ c < 2147483647 := fun c hc => by
    obtain ⟨j, hj, rfl⟩ := List.mem_map.mp hc
    have := List.mem_range.mp hj
    omega
  have l0 : ((List.range 64).map (fun j : Nat => 17 + (j : Int))).length = 64 := by rw [List.length_map, List.length_range]
  generalize (List.range 64).map (fun j : Nat => 17 + (j : Int)) = cs at c0 l0 ⊢
  refine v_kO (nls_ints cs) ?_
  repeat walk_at "s"
  refine v_kforE (fun j r ρ m' => ∃ a2 a3 cs, ρ = [.bor (.lst (zz ns)), .own (zz cs), a2, a3] ∧ m' = m ∧ cs.length = 64 ∧ ∀ c ∈ cs, 0 ≤ c ∧ c < 2147483647) ns ⟨_, _, _, rfl, rfl, l0, c0⟩ (fun j ρ m' h => ?_) fun j x r ρ m' N h hN => ?_
  · obtain ⟨a2, a3, cs, rfl, rfl, lc, hc⟩ := h
    repeat walk_at "s"
    refine v_kforR 63 (fun k ρ m1 => ∃ a2 a3 cs, ρ = [.bor (.lst (zz ns)), .own (zz cs), a2, a3] ∧ m1 = m' ∧ cs.length = 64 ∧ ∀ c ∈ cs, 0 ≤ c ∧ c < 2147483647) ⟨_, _, _, rfl, rfl, lc, hc⟩ (fun ρ m' h => ?_) fun k ρ m' hk h => ?_
    · obtain ⟨a2, a3, cs, rfl, rfl, lc, hc⟩ := h
      repeat walk_at "s"
      exact q cs lc hc
    obtain ⟨a2, a3, cs, rfl, rfl, lc, hc⟩ := h
    repeat walk_at "s"
    refine v_ixl (by omega) (by omega) ?_
    obtain ⟨y0, y1⟩ := hc _ (nth_mem (xs := cs) (i := 1 + (k : Int)) (by omega) (by omega))
    generalize nth cs (1 + (k : Int)) = y at y0 y1 ⊢
    repeat walk_at "s"
    refine v_ixl (by omega) (by omega) ?_
    obtain ⟨z0, z1⟩ := hc _ (nth_mem (xs := cs) (i := 1 + (k : Int) - 1) (by omega) (by omega))
    generalize nth cs (1 + (k : Int) - 1) = z at z0 z1 ⊢
    have bz : bd 31 z := by unfold bd; omega
    repeat walk_at "s"
    refine v_mul (mulok bz (bd_lit (n := 15) (by decide))) ?_
    repeat walk_at "s"
    have v0 := Int.fmod_nonneg_of_pos (y + z * 16807) (show (0 : Int) < 2147483647 by decide)
    have v1 := Int.fmod_lt_of_pos (y + z * 16807) (show (0 : Int) < 2147483647 by decide)
    refine v_kSIz (by omega) (by omega) ?_
    obtain ⟨p1, p2⟩ := fold_set (j := (1 + (k : Int)).toNat) lc hc v0 v1
    exact ⟨_, _, _, rfl, rfl, p1, p2⟩
  · obtain ⟨a2, a3, cs, rfl, rfl, lc, hc⟩ := h
    have k0 := Int.fmod_nonneg_of_pos (j : Int) (show (0 : Int) < 64 by decide)
    have k1 := Int.fmod_lt_of_pos (j : Int) (show (0 : Int) < 64 by decide)
    repeat walk_at "s"
    refine v_ixl k0 (by omega) ?_
    obtain ⟨z0, z1⟩ := hc _ (nth_mem (xs := cs) k0 (by omega))
    generalize nth cs ((j : Int).fmod 64) = z at z0 z1 ⊢
    have bz : bd 31 z := by unfold bd; omega
    repeat walk_at "s"
    refine v_mul (mulok bz (bd_lit (n := 16) (by decide))) ?_
    repeat walk_at "s"
    have v0 := Int.fmod_nonneg_of_pos (z * 48271 + x) (show (0 : Int) < 2147483647 by decide)
    have v1 := Int.fmod_lt_of_pos (z * 48271 + x) (show (0 : Int) < 2147483647 by decide)
    refine v_kSIz k0 (by omega) ?_
    obtain ⟨p1, p2⟩ := fold_set (j := ((j : Int).fmod 64).toNat) lc hc v0 v1
    exact hN _ _ ⟨_, _, _, rfl, rfl, p1, p2⟩
end RR

namespace RR
open PySem PySem.Spec PyProof.Rows L2
def topS (i : Nat) : Stmt := PySem.Challenge.pw_rootring_k06_whole_values_go_with_all.main.body.getD i (.Pass ⟨0, 0, 0, 0⟩)
end RR
/-! VN: whole numbers and fractions -/
namespace RR
open PySem PySem.Spec PyProof.Rows L2
local macro_rules | `(tactic| walk_at "bd") => `(tactic| first | assumption | exact bd_lit (by decide) | (with_reducible refine bd_mul ?_ ?_ <;> walk_at "bd") | (with_reducible refine bd_add ?_ ?_ <;> walk_at "bd") | (with_reducible refine bd_sub ?_ ?_ <;> walk_at "bd") | (with_reducible refine bd_neg ?_ <;> walk_at "bd"))
local macro_rules | `(tactic| walk_at "s") => `(tactic| with_reducible first
  | refine v_then ?_ | refine v_set ?_ | (apply v_var; · with_unfolding_all exact rfl) | refine v_bin ?_ | refine v_c ?_ | refine v_g0 ?_ | refine v_add ?_ | refine v_cons ?_ | refine v_nil ?_ | refine v_call ?_ | refine v_dB ?_ | refine v_next ?_ | refine v_ret ?_
  | refine v_ite ?_ | refine v_tst ?_ | refine v_kT ?_ | refine v_eqi ?_ | refine v_nei ?_ | refine v_eqr ?_ | refine v_ner ?_ | refine v_eqr0 ?_ | refine v_ner0 ?_ | refine v_eql ?_ | refine v_nel ?_ | refine v_eql0 ?_ | refine v_nel0 ?_ | refine v_isN ?_ | refine v_notN ?_
  | (apply v_bor; · with_unfolding_all exact rfl) | (apply v_own; · with_unfolding_all exact rfl) | refine v_tup ?_ | refine v_lst ?_ | (refine v_sz ?_ ?_; (· with_unfolding_all exact Nat.le_of_ble_eq_true rfl)) | (refine v_gIIz ?_ ?_; (· first | decide | omega))
  | refine v_lentz ?_ | refine v_lenlz ?_ | refine v_lent ?_ | refine v_lenl ?_ | refine v_I1 ?_ | refine v_I2 ?_ | refine v_int ?_ | refine v_seqlz ?_ | refine v_seqtz ?_ | refine v_sl ?_ | refine v_kSll ?_ | refine v_kSlt ?_ | refine v_ono ?_ | refine v_oso ?_ | refine v_kOS ?_
  | refine v_val ?_ | refine v_kVb ?_ | refine v_kVi ?_ | refine v_kVt ?_ | refine v_kVl ?_ | refine v_and ?_ | refine v_or ?_ | refine v_not ?_ | refine v_yes ?_ | refine v_if' ?_ | refine v_isi ?_ | refine v_kIii ?_ | refine v_kIib ?_ | refine v_kItt ?_
  | refine v_andV ?_ | refine v_orV ?_ | refine v_notV ?_ | refine v_kNV ?_ | refine v_neg ?_ | refine v_kNeg ?_ | refine v_seq ?_ | refine v_kSeql ?_ | refine v_kSeqt ?_ | refine v_rng1 ?_ | refine v_rng2 ?_ | refine v_enum ?_ | refine v_revr ?_ | refine v_rev ?_
  | (refine v_kR1 ?_ ?_ ?_; (· decide); (· decide))
  | (refine v_kR2 ?_ ?_ ?_ ?_ ?_; (· decide); (· decide); (· decide); (· decide))
  | refine v_gn ?_ | refine v_gt2 ?_ | refine v_gt3 ?_ | refine v_lc ?_ | refine v_for ?_ | refine v_setO ?_ | refine v_drop ?_ | (apply v_app; · with_unfolding_all exact rfl) | (apply v_setI; · with_unfolding_all exact rfl) | (apply v_rel; · with_unfolding_all exact rfl) | refine v_raise ?_ | refine v_par ?_ | refine v_kP ?_ | refine v_asg ?_
  | (apply v_aug; · with_unfolding_all exact rfl) | refine v_ifT ?_ | refine v_ifF ?_ | (refine v_pow ?_ ?_ ?_ ?_; (· decide); (· decide); (· decide)) | refine v_call0 ?_ | (apply v_lenr; · assumption) | (apply v_seqr; · assumption) | (apply v_kSeqr; · assumption) | (apply v_kSlr; · assumption)
  | refine v_ix0 ?_ | refine v_ix1 ?_ | refine v_ix2 ?_ | refine v_zip ?_ | refine v_kZl ?_ | refine v_kZt ?_ | (apply v_augI; · with_unfolding_all exact rfl) | refine v_try ?_ | refine v_isE ?_ | (refine v_kIE ?_ ?_; (· with_unfolding_all exact rfl)) | refine v_isB ?_ | refine v_notB ?_ | refine v_all ?_ | refine v_par3 ?_ | refine v_ifnT ?_ | refine v_ifnF ?_ | refine v_eqs ?_ | refine v_nes ?_ | refine v_rvs ?_ | refine v_kRvl ?_ | refine v_kRvt ?_
  | (refine v_mulb (a := ?a) (b := ?b) ?ha ?hb ?l ?h; (case ha => assumption); (case hb => assumption); (case l => omega)) | (refine v_fdivb (b := ?b) ?h0 ?hb ?l ?h; (case h0 => assumption); (case hb => assumption); (case l => omega)))
theorem gcd_step {x y : Int} (h0 : 0 ≤ x) (h1 : 0 < y) : Int.gcd y (x.fmod y) = Int.gcd x y := by
  rw [Int.fmod_eq_emod_of_nonneg x (Int.le_of_lt h1)]
  obtain ⟨a, rfl⟩ := Int.eq_ofNat_of_zero_le h0
  obtain ⟨b, rfl⟩ := Int.eq_ofNat_of_zero_le (Int.le_of_lt h1)
  rw [← Int.natCast_emod]
  show Nat.gcd _ _ = Nat.gcd _ _
  simp only [Int.natAbs_natCast]
  rw [Nat.gcd_comm, ← Nat.gcd_rec, Nat.gcd_comm]
theorem gcd_abs (x y : Int) : Int.gcd (iabs x) (iabs y) = Int.gcd x y := by
  rw [iabs_eq, iabs_eq]; unfold Int.gcd; simp
theorem gcd_zero {x : Int} (h : 0 ≤ x) : (Int.gcd x 0 : Int) = x := by rw [Int.gcd_zero]; omega
def b_numbers_common {M : Type} : DS M :=
    (dThen (dPar 0 1 (dCons (dB (gI1 iabs) (dCons (dVar 0) dNil)) (dCons (dB (gI1 iabs) (dCons (dVar 1) dNil)) dNil)))
    (dThen (dWhile (dTst (dBin gGt (dVar 1) (dC (.int 0))))
      (dPar 0 1 (dCons (dVar 1) (dCons (dBin (gII Nz fun i j => .int (i.fmod j)) (dVar 0) (dVar 1)) dNil))))
    (dRet (dVar 0))))

def s_numbers_common {M : Type} : DSp M := fun ds m Q Z => ∃ x y, ds = [.int x, .int y] ∧ Q (.int (Int.gcd x y)) m
theorem vc_numbers_common {M : Type} : ∀ ds (m : M) Q Z, s_numbers_common ds m Q Z → okK [false, false] ds ∧ b_numbers_common { nx := fun _ m' => Q .non m', rt := Q, ex := Z } (st0 [false, false] ds 2) m := by
  rintro ds m Q Z ⟨x, y, rfl, q⟩
  refine ⟨⟨fun _ => rfl, fun _ => rfl, trivial⟩, ?_⟩
  unfold b_numbers_common
  repeat walk_at "s"
  refine v_while (fun n ρ m' => m' = m ∧ ∃ a b : Int, ρ = [.val (.int a), .val (.int b)] ∧ 0 ≤ a ∧ 0 ≤ b ∧ n = b.toNat ∧ Int.gcd a b = Int.gcd x y) _ ⟨rfl, _, _, rfl, by rw [iabs_eq]; omega, by rw [iabs_eq]; omega, rfl, gcd_abs x y⟩ fun n ρ m' h => ?_
  obtain ⟨rfl, a, b, rfl, ha, hb, rfl, e⟩ := h
  repeat walk_at "s"
  refine v_ifd (fun h => ?_) fun h => ?_
  · have h1 := Int.fmod_nonneg_of_pos a h
    have h2 := Int.fmod_lt_of_pos a h
    repeat walk_at "s"
    exact ⟨_, by omega, rfl, _, _, rfl, hb, h1, rfl, by rw [gcd_step ha h]; exact e⟩
  · repeat walk_at "s"
    obtain rfl : b = 0 := by omega
    rw [← e, gcd_zero ha] at q
    exact q
/-- the greatest that divides all -/
def gcdL (xs : List Int) : Nat := xs.foldl (fun g x => Int.gcd g x) 0
def b__law_common {M : Type} : DS M :=
    (dThen (dSet 1 (dC (.int 0)))
    (dThen (dFor (dSeq true (dBor 0)) (dgN 2)
      (dThen (dPar 3 4 (dCons (dVar 1) (dCons (dB (gI1 iabs) (dCons (dVar 2) dNil)) dNil)))
    (dThen (dWhile (dTst (dBin gGt (dVar 4) (dC (.int 0))))
      (dPar 3 4 (dCons (dVar 4) (dCons (dBin (gII Nz fun i j => .int (i.fmod j)) (dVar 3) (dVar 4)) dNil))))
    (dSet 1 (dVar 3)))))
    (dRet (dVar 1))))

def s__law_common {M : Type} : DSp M := fun ds m Q Z => ∃ xs, ds = [.lst (zz xs)] ∧ Q (.int (gcdL xs)) m
theorem vc__law_common {M : Type} : ∀ ds (m : M) Q Z, s__law_common ds m Q Z → okK [true] ds ∧ b__law_common { nx := fun _ m' => Q .non m', rt := Q, ex := Z } (st0 [true] ds 5) m := by
  rintro ds m Q Z ⟨xs, rfl, q⟩
  refine ⟨⟨fun z => (nomatch z), trivial⟩, ?_⟩
  unfold b__law_common
  repeat walk_at "s"
  refine v_kforZ (fun r ρ m' => m' = m ∧ ∃ (g : Nat) (a2 a3 a4 : Sl), ρ = [.bor (.lst (zz xs)), .val (.int g), a2, a3, a4] ∧ r.foldl (fun g x => Int.gcd g x) g = gcdL xs) xs ⟨rfl, 0, _, _, _, rfl, rfl⟩ (fun ρ m' h => ?_) fun x r ρ m' h => ?_
  · obtain ⟨rfl, g, _, _, _, rfl, e⟩ := h
    repeat walk_at "s"
    rw [← e] at q
    exact q
  · obtain ⟨rfl, g, _, _, _, rfl, e⟩ := h
    repeat walk_at "s"
    refine v_while (fun n ρ m1 => m1 = m' ∧ ∃ a b : Int, ρ = [.bor (.lst (zz xs)), .val (.int g), .val (.int x), .val (.int a), .val (.int b)] ∧ 0 ≤ a ∧ 0 ≤ b ∧ n = b.toNat ∧ Int.gcd a b = Int.gcd g x) _ ⟨rfl, _, _, rfl, by omega, by rw [iabs_eq]; omega, rfl, by rw [iabs_eq]; unfold Int.gcd; simp⟩ fun n ρ m' h => ?_
    obtain ⟨rfl, a, b, rfl, ha, hb, rfl, e2⟩ := h
    repeat walk_at "s"
    refine v_ifd (fun h => ?_) fun h => ?_
    · have h1 := Int.fmod_nonneg_of_pos a h
      have h2 := Int.fmod_lt_of_pos a h
      repeat walk_at "s"
      exact ⟨_, by omega, rfl, _, _, rfl, hb, h1, rfl, by rw [gcd_step ha h]; exact e2⟩
    · repeat walk_at "s"
      obtain rfl : b = 0 := by omega
      rw [gcd_zero ha |>.symm, e2]
      exact ⟨rfl, Int.gcd g x, _, _, _, rfl, e⟩
/-! ### fractions -/
/-- a fraction -/
abbrev pq (r : Rat) : D := .tup [.int r.num, .int r.den]
def part (n d : Int) : Int := if 0 < d then (Int.gcd n d : Int) else 0 - (Int.gcd n d : Int)
theorem part_ne {n d : Int} (hd : d ≠ 0) : part n d ≠ 0 := by
  have : Int.gcd n d ≠ 0 := fun e => hd (Int.gcd_eq_zero_iff.mp e).2
  unfold part; split <;> omega
theorem part_bd {n d : Int} {b : Nat} (hd : d ≠ 0) (h : bd b d) : bd b (part n d) := by
  have h1 : Int.gcd n d ≤ d.natAbs := Nat.le_of_dvd (by omega) (Nat.gcd_dvd_right _ _)
  unfold bd at *
  unfold part; split <;> omega
theorem low_num {n d : Int} (hd : d ≠ 0) : n.fdiv (part n d) = ((n : Rat) / (d : Rat)).num := by
  rw [← Rat.divInt_eq_div, Rat.num_divInt]
  have g0 : Int.gcd n d ≠ 0 := fun e => hd (Int.gcd_eq_zero_iff.mp e).2
  obtain ⟨k, hk⟩ : ((Int.gcd n d : Nat) : Int) ∣ n := Int.gcd_dvd_left ..
  rw [Int.gcd_comm d n]
  unfold part
  generalize hg : Int.gcd n d = g at *
  have gp : (0 : Int) < g := by omega
  by_cases h : 0 < d
  · rw [if_pos h, Int.sign_eq_one_of_pos h, Int.one_mul, fdiv_pos (by omega)]
  · rw [if_neg h, Int.sign_eq_neg_one_of_neg (by omega), hk]
    rw [show -1 * ((g : Int) * k) = g * (-k) by rw [Int.mul_neg]; omega, Int.mul_ediv_cancel_left _ (by omega), show (0 : Int) - g = -g by omega]
    rw [show (g : Int) * k = (-g) * (-k) by rw [Int.neg_mul_neg], Int.mul_fdiv_cancel_left _ (by omega)]
theorem low_den {n d : Int} (hd : d ≠ 0) : d.fdiv (part n d) = (((n : Rat) / (d : Rat)).den : Int) := by
  rw [← Rat.divInt_eq_div, Rat.den_divInt, if_neg hd]
  have g0 : Int.gcd n d ≠ 0 := fun e => hd (Int.gcd_eq_zero_iff.mp e).2
  obtain ⟨k, hk⟩ : ((Int.gcd n d : Nat) : Int) ∣ d := Int.gcd_dvd_right ..
  rw [Int.gcd_comm d n, Int.natCast_ediv]
  unfold part
  generalize hg : Int.gcd n d = g at *
  have gp : (0 : Int) < g := by omega
  by_cases h : 0 < d
  · rw [if_pos h, fdiv_pos (by omega), Int.natAbs_of_nonneg (by omega)]
  · rw [if_neg h, Int.ofNat_natAbs_of_nonpos (by omega)]
    rw [hk, show (0 : Int) - g = -g by omega, show -((g : Int) * k) = g * (-k) by rw [Int.mul_neg], Int.mul_ediv_cancel_left _ (by omega)]
    rw [show (g : Int) * k = (-g) * (-k) by rw [Int.neg_mul_neg], Int.mul_fdiv_cancel_left _ (by omega)]
def b_fractions_fraction {M : Type} : DS M :=
    (dThen (dIte (dTst (dBin gEq (dVar 1) (dC (.int 0))))
      (dRaise "ByNought")
      dNext)
    (dThen (dSet 2 (dCall s_numbers_common [] (dCons (dVar 0) (dCons (dVar 1) dNil))))
    (dThen (dSet 2 (dIf (dTst (dBin gGt (dVar 1) (dC (.int 0)))) (dVar 2) (dBin (g0 fun i j => .int (i - j)) (dC (.int 0)) (dVar 2))))
    (dRet (dTup (dCons (dBin (gII Nd fun i j => .int (i.fdiv j)) (dVar 0) (dVar 2)) (dCons (dBin (gII Nd fun i j => .int (i.fdiv j)) (dVar 1) (dVar 2)) dNil)))))))

/-- by nought, else the fraction -/
def s_fractions_fraction {M : Type} : DSp M := fun ds m Q Z => ∃ n d, ds = [.int n, .int d] ∧ (d = 0 → Z "ByNought" m) ∧ (d ≠ 0 → Sm [n] d ∧ Q (pq ((n : Rat) / (d : Rat))) m)
theorem vc_fractions_fraction {M : Type} : ∀ ds (m : M) Q Z, s_fractions_fraction ds m Q Z → okK [false, false] ds ∧ b_fractions_fraction { nx := fun _ m' => Q .non m', rt := Q, ex := Z } (st0 [false, false] ds 3) m := by
  rintro ds m Q Z ⟨n, d, rfl, z, q⟩
  refine ⟨⟨fun _ => rfl, fun _ => rfl, trivial⟩, ?_⟩
  unfold b_fractions_fraction
  repeat walk_at "s"
  refine v_ifd (fun h => ?_) fun h => ?_
  · repeat walk_at "s"
    exact z h
  obtain ⟨hb, q⟩ := q h
  repeat walk_at "s"
  refine ⟨n, d, rfl, ?_⟩
  have pn := part_ne (n := n) h
  have pb := Sm.le hb fun _ z => part_bd (n := n) h z
  repeat walk_at "s"
  have fin : ∀ p, p = part n d → (dRet (dTup (dCons (dBin (gII Nd fun i j => .int (i.fdiv j)) (dVar 0) (dVar 2)) (dCons (dBin (gII Nd fun i j => .int (i.fdiv j)) (dVar 1) (dVar 2)) dNil))) : DS M)
      { nx := fun _ m' => Q .non m', rt := Q, ex := Z } [.val (.int n), .val (.int d), .val (.int p)] m := fun p e => by
    subst e
    repeat walk_at "s"
    refine v_fdivs pn (pb n (by simp)) ?_
    repeat walk_at "s"
    refine v_fdivs pn (pb d (by simp)) ?_
    repeat walk_at "s"
    rw [low_num h, low_den h]
    exact q
  refine v_ifd (fun h => ?_) fun h => ?_
  · repeat walk_at "s"
    exact fin _ (by unfold part; rw [if_pos h])
  · repeat walk_at "s"
    exact fin _ (by unfold part; rw [if_neg h])
def b__law_lowest {M : Type} : DS M :=
    (dThen (dSet 2 (dCall s__law_common [] (dCons (dLst (dCons (dVar 0) (dCons (dVar 1) dNil))) dNil)))
    (dThen (dSet 2 (dIf (dTst (dBin gGt (dVar 1) (dC (.int 0)))) (dVar 2) (dBin (g0 fun i j => .int (i - j)) (dC (.int 0)) (dVar 2))))
    (dRet (dTup (dCons (dBin (gII Nd fun i j => .int (i.fdiv j)) (dVar 0) (dVar 2)) (dCons (dBin (gII Nd fun i j => .int (i.fdiv j)) (dVar 1) (dVar 2)) dNil))))))

def s__law_lowest {M : Type} : DSp M := fun ds m Q Z => ∃ n d, ds = [.int n, .int d] ∧ d ≠ 0 ∧ bd 9000 d ∧ Q (pq ((n : Rat) / (d : Rat))) m
theorem gcdL_two (n d : Int) : gcdL [n, d] = Int.gcd n d := by
  unfold gcdL
  simp [Int.gcd]
theorem vc__law_lowest {M : Type} : ∀ ds (m : M) Q Z, s__law_lowest ds m Q Z → okK [false, false] ds ∧ b__law_lowest { nx := fun _ m' => Q .non m', rt := Q, ex := Z } (st0 [false, false] ds 3) m := by
  rintro ds m Q Z ⟨n, d, rfl, h, hb, q⟩
  refine ⟨⟨fun _ => rfl, fun _ => rfl, trivial⟩, ?_⟩
  unfold b__law_lowest
  repeat walk_at "s"
  refine ⟨[n, d], rfl, ?_⟩
  rw [gcdL_two]
  have pn := part_ne (n := n) h
  have pb := part_bd (n := n) h hb
  repeat walk_at "s"
  have fin : ∀ p, p = part n d → (dRet (dTup (dCons (dBin (gII Nd fun i j => .int (i.fdiv j)) (dVar 0) (dVar 2)) (dCons (dBin (gII Nd fun i j => .int (i.fdiv j)) (dVar 1) (dVar 2)) dNil))) : DS M)
      { nx := fun _ m' => Q .non m', rt := Q, ex := Z } [.val (.int n), .val (.int d), .val (.int p)] m := fun p e => by
    subst e
    repeat walk_at "s"
    rw [low_num h, low_den h]
    exact q
  refine v_ifd (fun h => ?_) fun h => ?_
  · repeat walk_at "s"
    exact fin _ (by unfold part; rw [if_pos h])
  · repeat walk_at "s"
    exact fin _ (by unfold part; rw [if_neg h])
end RR

/-! VR: rows -/
namespace RR
open PySem PySem.Spec PyProof.Rows L2
local macro_rules | `(tactic| walk_at "bd") => `(tactic| first | assumption | exact bd_lit (by decide) | (with_reducible refine bd_mul ?_ ?_ <;> walk_at "bd") | (with_reducible refine bd_add ?_ ?_ <;> walk_at "bd") | (with_reducible refine bd_sub ?_ ?_ <;> walk_at "bd") | (with_reducible refine bd_neg ?_ <;> walk_at "bd"))
local macro_rules | `(tactic| walk_at "s") => `(tactic| with_reducible first
  | refine v_then ?_ | refine v_set ?_ | (apply v_var; · with_unfolding_all exact rfl) | refine v_bin ?_ | refine v_c ?_ | refine v_g0 ?_ | refine v_add ?_ | refine v_cons ?_ | refine v_nil ?_ | refine v_call ?_ | refine v_dB ?_ | refine v_next ?_ | refine v_ret ?_
  | refine v_ite ?_ | refine v_tst ?_ | refine v_kT ?_ | refine v_eqi ?_ | refine v_nei ?_ | refine v_eqr ?_ | refine v_ner ?_ | refine v_eqr0 ?_ | refine v_ner0 ?_ | refine v_eql ?_ | refine v_nel ?_ | refine v_eql0 ?_ | refine v_nel0 ?_ | refine v_isN ?_ | refine v_notN ?_
  | (apply v_bor; · with_unfolding_all exact rfl) | (apply v_own; · with_unfolding_all exact rfl) | refine v_tup ?_ | refine v_lst ?_ | (refine v_sz ?_ ?_; (· with_unfolding_all exact Nat.le_of_ble_eq_true rfl)) | (refine v_gIIz ?_ ?_; (· first | decide | omega))
  | refine v_lentz ?_ | refine v_lenlz ?_ | refine v_lent ?_ | refine v_lenl ?_ | refine v_I1 ?_ | refine v_I2 ?_ | refine v_int ?_ | refine v_seqlz ?_ | refine v_seqtz ?_ | refine v_sl ?_ | refine v_kSll ?_ | refine v_kSlt ?_ | refine v_ono ?_ | refine v_oso ?_ | refine v_kOS ?_
  | refine v_val ?_ | refine v_kVb ?_ | refine v_kVi ?_ | refine v_kVt ?_ | refine v_kVl ?_ | refine v_and ?_ | refine v_or ?_ | refine v_not ?_ | refine v_yes ?_ | refine v_if' ?_ | refine v_isi ?_ | refine v_kIii ?_ | refine v_kIib ?_ | refine v_kItt ?_
  | refine v_andV ?_ | refine v_orV ?_ | refine v_notV ?_ | refine v_kNV ?_ | refine v_neg ?_ | refine v_kNeg ?_ | refine v_seq ?_ | refine v_kSeql ?_ | refine v_kSeqt ?_ | refine v_rng1 ?_ | refine v_rng2 ?_ | refine v_enum ?_ | refine v_revr ?_ | refine v_rev ?_
  | (refine v_kR1 ?_ ?_ ?_; (· decide); (· decide))
  | (refine v_kR2 ?_ ?_ ?_ ?_ ?_; (· decide); (· decide); (· decide); (· decide))
  | refine v_gn ?_ | refine v_gt2 ?_ | refine v_gt3 ?_ | refine v_lc ?_ | refine v_for ?_ | refine v_setO ?_ | refine v_drop ?_ | (apply v_app; · with_unfolding_all exact rfl) | (apply v_setI; · with_unfolding_all exact rfl) | (apply v_rel; · with_unfolding_all exact rfl) | refine v_raise ?_ | refine v_par ?_ | refine v_kP ?_ | refine v_asg ?_
  | (apply v_aug; · with_unfolding_all exact rfl) | refine v_ifT ?_ | refine v_ifF ?_ | (refine v_pow ?_ ?_ ?_ ?_; (· decide); (· decide); (· decide)) | refine v_call0 ?_ | (apply v_lenr; · assumption) | (apply v_seqr; · assumption) | (apply v_kSeqr; · assumption) | (apply v_kSlr; · assumption)
  | refine v_ix0 ?_ | refine v_ix1 ?_ | refine v_ix2 ?_ | refine v_zip ?_ | refine v_kZl ?_ | refine v_kZt ?_ | (apply v_augI; · with_unfolding_all exact rfl) | refine v_try ?_ | refine v_isE ?_ | (refine v_kIE ?_ ?_; (· with_unfolding_all exact rfl)) | refine v_isB ?_ | refine v_notB ?_ | refine v_all ?_ | refine v_par3 ?_ | refine v_ifnT ?_ | refine v_ifnF ?_ | refine v_eqs ?_ | refine v_nes ?_ | refine v_rvs ?_ | refine v_kRvl ?_ | refine v_kRvt ?_
  | (refine v_mulb (a := ?a) (b := ?b) ?ha ?hb ?l ?h; (case ha => assumption); (case hb => assumption); (case l => omega)) | (refine v_fdivb (b := ?b) ?h0 ?hb ?l ?h; (case h0 => assumption); (case hb => assumption); (case l => omega)))
/-! ### noughts at the end -/
def b_rows_row_of {M : Type} : DS M :=
    (dThen (dSet 1 (dB gLen (dCons (dBor 0) dNil)))
    (dThen (dWhile (dAnd (dTst (dBin gGt (dVar 1) (dC (.int 0)))) (dTst (dBin gEq (dBin (gIx true) (dBor 0) (dBin (g0 fun i j => .int (i - j)) (dVar 1) (dC (.int 1)))) (dC (.int 0)))))
      (dAug 1 (fun i j => i - j) (dC (.int 1))))
    (dRet (dB (gSeq .tup) (dCons (dSl (dBor 0) dONone (dOSome (dVar 1))) dNil)))))

def s_rows_row_of {M : Type} : DSp M := fun ds m Q Z => ∃ d xs, ds = [d] ∧ isRow d xs ∧ xs.length ≤ 16000000 ∧ ∀ r, R (ser xs) r → Q (.tup (zz r)) m
theorem vc_rows_row_of {M : Type} : ∀ ds (m : M) Q Z, s_rows_row_of ds m Q Z → okK [true] ds ∧ b_rows_row_of { nx := fun _ m' => Q .non m', rt := Q, ex := Z } (st0 [true] ds 2) m := by
  rintro ds m Q Z ⟨d, xs, rfl, hd, hl, q⟩
  have q := q (strip xs) (R.of rfl)
  refine ⟨⟨fun h => (nomatch h), trivial⟩, ?_⟩
  unfold b_rows_row_of
  repeat walk_at "s"
  refine v_while (fun n ρ m' => m' = m ∧ ρ = [.bor d, .val (.int n)] ∧ n ≤ xs.length ∧ strip (xs.take n) = strip xs) xs.length ⟨rfl, rfl, Nat.le_refl _, by rw [List.take_length]⟩ fun n ρ m' h => ?_
  obtain ⟨rfl, rfl, hn, hs⟩ := h
  repeat walk_at "s"
  refine v_ifd (fun h => ?_) fun h => ?_
  · repeat walk_at "s"
    refine v_ixr hd (by omega) (by omega) ?_
    repeat walk_at "s"
    obtain ⟨k, rfl⟩ : ∃ k, n = k + 1 := ⟨n - 1, by omega⟩
    have e : ((k + 1 : Nat) : Int) - 1 = k := by omega
    rw [e, nth_get (by omega)]
    refine v_ifd (fun z => ?_) fun z => ?_
    · repeat walk_at "s"
      exact ⟨k, by omega, rfl, by rw [e]; rfl, by omega, by rw [← strip_step (by omega) z]; exact hs⟩
    · repeat walk_at "s"
      intro d' hd'
      rw [cutZ_to (by omega)] at hd'
      repeat walk_at "s"
      rw [Int.toNat_natCast, ← strip_stop (by omega) z, hs]
      exact q
  · repeat walk_at "s"
    intro d' hd'
    rw [cutZ_to (by omega)] at hd'
    repeat walk_at "s"
    have e : n = 0 := by omega
    subst e
    rw [← hs] at q
    exact q
def b__law_cut {M : Type} : DS M :=
    (dThen (dSet 1 (dB gLen (dCons (dBor 0) dNil)))
    (dThen (dWhile (dAnd (dTst (dBin gGt (dVar 1) (dC (.int 0)))) (dTst (dBin gEq (dBin (gIx true) (dBor 0) (dBin (g0 fun i j => .int (i - j)) (dVar 1) (dC (.int 1)))) (dC (.int 0)))))
      (dSet 1 (dBin (g0 fun i j => .int (i - j)) (dVar 1) (dC (.int 1)))))
    (dRet (dB (gSeq .tup) (dCons (dSl (dBor 0) dONone (dOSome (dVar 1))) dNil)))))

def s__law_cut {M : Type} : DSp M := s_rows_row_of
theorem vc__law_cut {M : Type} : ∀ ds (m : M) Q Z, s__law_cut ds m Q Z → okK [true] ds ∧ b__law_cut { nx := fun _ m' => Q .non m', rt := Q, ex := Z } (st0 [true] ds 2) m := by
  rintro ds m Q Z ⟨d, xs, rfl, hd, hl, q⟩
  have q := q (strip xs) (R.of rfl)
  refine ⟨⟨fun h => (nomatch h), trivial⟩, ?_⟩
  unfold b__law_cut
  repeat walk_at "s"
  refine v_while (fun n ρ m' => m' = m ∧ ρ = [.bor d, .val (.int n)] ∧ n ≤ xs.length ∧ strip (xs.take n) = strip xs) xs.length ⟨rfl, rfl, Nat.le_refl _, by rw [List.take_length]⟩ fun n ρ m' h => ?_
  obtain ⟨rfl, rfl, hn, hs⟩ := h
  repeat walk_at "s"
  refine v_ifd (fun h => ?_) fun h => ?_
  · repeat walk_at "s"
    refine v_ixr hd (by omega) (by omega) ?_
    repeat walk_at "s"
    obtain ⟨k, rfl⟩ : ∃ k, n = k + 1 := ⟨n - 1, by omega⟩
    have e : ((k + 1 : Nat) : Int) - 1 = k := by omega
    rw [e, nth_get (by omega)]
    refine v_ifd (fun z => ?_) fun z => ?_
    · repeat walk_at "s"
      exact ⟨k, by omega, rfl, by rw [e]; rfl, by omega, by rw [← strip_step (by omega) z]; exact hs⟩
    · repeat walk_at "s"
      intro d' hd'
      rw [cutZ_to (by omega)] at hd'
      repeat walk_at "s"
      rw [Int.toNat_natCast, ← strip_stop (by omega) z, hs]
      exact q
  · repeat walk_at "s"
    intro d' hd'
    rw [cutZ_to (by omega)] at hd'
    repeat walk_at "s"
    have e : n = 0 := by omega
    subst e
    rw [← hs] at q
    exact q
/-! ### sums -/
def b_rows_at_size {M : Type} : DS M :=
    (dRet (dBin gAdd (dB (gSeq .lst) (dCons (dVar 0) dNil)) (dBin gMul (dLst (dCons (dC (.int 0)) dNil)) (dBin (g0 fun i j => .int (i - j)) (dVar 1) (dB gLen (dCons (dVar 0) dNil))))))

def s_rows_at_size {M : Type} : DSp M := fun ds m Q Z => ∃ xs n, ds = [.tup (zz xs), .int n] ∧ xs.length ≤ n ∧ n ≤ 8000000 ∧ Q (.lst (zz (padTo n.toNat xs))) m
theorem pad_toNat {xs : List Int} {n : Int} : xs ++ List.replicate (n - (xs.length : Int)).toNat 0 = padTo n.toNat xs := by
  unfold padTo
  rw [show (n - (xs.length : Int)).toNat = n.toNat - xs.length by omega]
theorem vc_rows_at_size {M : Type} : ∀ ds (m : M) Q Z, s_rows_at_size ds m Q Z → okK [false, false] ds ∧ b_rows_at_size { nx := fun _ m' => Q .non m', rt := Q, ex := Z } (st0 [false, false] ds 2) m := by
  rintro ds m Q Z ⟨xs, n, rfl, h1, h2, q⟩
  refine ⟨⟨fun _ => nl_row xs, fun _ => rfl, trivial⟩, ?_⟩
  unfold b_rows_at_size
  repeat walk_at "s"
  refine v_repl1 (by omega) (by omega) ?_
  refine v_addlz (by rw [List.length_replicate]; omega) ?_
  rw [pad_toNat]
  exact q
def b_rows_plus {M : Type} : DS M :=
    (dThen (dSet 2 (dB (gI2 imax) (dCons (dB gLen (dCons (dVar 0) dNil)) (dCons (dB gLen (dCons (dVar 1) dNil)) dNil))))
    (dRet (dCall s_rows_row_of [] (dCons (dLc (dZip false (dCall s_rows_at_size [] (dCons (dVar 0) (dCons (dVar 2) dNil))) (dCall s_rows_at_size [] (dCons (dVar 1) (dCons (dVar 2) dNil)))) (dgT 2 (dgCons (dgN 3) (dgCons (dgN 4) dgNil))) dYes (dBin gAdd (dVar 3) (dVar 4)) [3, 4]) dNil))))

def s_rows_plus {M : Type} : DSp M := fun ds m Q Z => ∃ xs ys, ds = [.tup (zz xs), .tup (zz ys)] ∧ xs.length ≤ 1000000 ∧ ys.length ≤ 1000000 ∧ ∀ r, R (ser xs + ser ys) r → Q (.tup (zz r)) m
theorem ser_zip1 {k : Nat} {xs ys : List Int} (h1 : xs.length ≤ k) (h2 : ys.length ≤ k) : ser (List.zipWith (fun x y => x + y) (padTo k xs) (padTo k ys)) = ser xs + ser ys := Ser.ext fun j => by
  rw [ser_co, zip_co rfl (by rw [pad_len h1, pad_len h2]), pad_co, pad_co, Ser.add_co]; rfl
theorem vc_rows_plus {M : Type} : ∀ ds (m : M) Q Z, s_rows_plus ds m Q Z → okK [false, false] ds ∧ b_rows_plus { nx := fun _ m' => Q .non m', rt := Q, ex := Z } (st0 [false, false] ds 5) m := by
  rintro ds m Q Z ⟨xs, ys, rfl, h1, h2, q⟩
  refine ⟨⟨fun _ => nl_row xs, fun _ => nl_row ys, trivial⟩, ?_⟩
  unfold b_rows_plus
  repeat walk_at "s"
  rw [imax_eq]
  refine ⟨xs, _, rfl, by omega, by omega, ?_⟩
  repeat walk_at "s"
  refine ⟨ys, _, rfl, by omega, by omega, ?_⟩
  have e : (max (xs.length : Int) (ys.length : Int)).toNat = max xs.length ys.length := by omega
  rw [e]
  have p1 : (padTo (max xs.length ys.length) xs).length = max xs.length ys.length := pad_len (by omega)
  have p2 : (padTo (max xs.length ys.length) ys).length = max xs.length ys.length := pad_len (by omega)
  repeat walk_at "s"
  refine lc_zip (f := fun x y => x + y) (fun a _ b _ m k l hk => ?_) (by omega) ?_
  · repeat walk_at "s"
    exact hk
  repeat walk_at "s"
  refine ⟨_, _, rfl, isRow_l, by rw [List.length_zipWith]; omega, fun r hr => q r ?_⟩
  rw [ser_zip1 (by omega) (by omega)] at hr
  exact hr
/-! ### products -/
def Lx (xs ys : List Int) : Int := imax 0 ((xs.length : Int) + ys.length - 1)
theorem prod_step {xs ys cs r r2 : List Int} {i j : Nat} {x y : Int} (hi : i + r.length + 1 = xs.length) (hj : j + (r2.length + 1) = ys.length) (hc : (cs.length : Int) = Lx xs ys) :
    0 ≤ (i : Int) + j ∧ (i : Int) + j < cs.length := by
  unfold Lx at hc; rw [imax_eq] at hc
  omega
theorem prod_ser {xs ys cs r r2 : List Int} {i j : Nat} {x y v : Int} (h : i + j < cs.length) (hv : v = cs.getD (i + j) 0 + x * y)
    (e : ser cs + xp (i + j) * Ser.C x * ser (y :: r2) + xp (i + 1) * ser r * ser ys = ser xs * ser ys) :
    ser (cs.set (i + j) v) + xp (i + (j + 1)) * Ser.C x * ser r2 + xp (i + 1) * ser r * ser ys = ser xs * ser ys := by
  rw [ser_set h, ← e, ser_cons, hv, show cs.getD (i + j) 0 + x * y - cs.getD (i + j) 0 = x * y by omega, C_mul, ← Nat.add_assoc, xp_add (i + j) 1]
  grind
def b_rows_times {M : Type} : DS M :=
    (dThen (dSetO 2 (dBin gMul (dLst (dCons (dC (.int 0)) dNil)) (dB (gI2 imax) (dCons (dC (.int 0)) (dCons (dBin (g0 fun i j => .int (i - j)) (dBin gAdd (dB gLen (dCons (dVar 0) dNil)) (dB gLen (dCons (dVar 1) dNil))) (dC (.int 1))) dNil)))))
    (dThen (dFor (dEnum false (dVar 0)) (dgT 2 (dgCons (dgN 3) (dgCons (dgN 4) dgNil)))
      (dFor (dEnum false (dVar 1)) (dgT 2 (dgCons (dgN 5) (dgCons (dgN 6) dgNil)))
      (dAugI 2 (fun i j => i + j) (dBin gAdd (dVar 3) (dVar 5)) (dBin gMul (dVar 4) (dVar 6)))))
    (dRet (dCall s_rows_row_of [] (dCons (dOwn 2) dNil)))))

def s_rows_times {M : Type} : DSp M := fun ds m Q Z => ∃ xs ys a b, ds = [.tup (zz xs), .tup (zz ys)] ∧ xs.length ≤ 100000 ∧ ys.length ≤ 100000 ∧ (∀ x ∈ xs, bd a x) ∧ (∀ y ∈ ys, bd b y) ∧ a + b ≤ 100000000 ∧ ∀ r, R (ser xs * ser ys) r → Q (.tup (zz r)) m
theorem vc_rows_times {M : Type} : ∀ ds (m : M) Q Z, s_rows_times ds m Q Z → okK [false, false] ds ∧ b_rows_times { nx := fun _ m' => Q .non m', rt := Q, ex := Z } (st0 [false, false] ds 7) m := by
  rintro ds m Q Z ⟨xs, ys, a, b, rfl, h1, h2, ha, hb, hab, q⟩
  refine ⟨⟨fun _ => nl_row xs, fun _ => nl_row ys, trivial⟩, ?_⟩
  unfold b_rows_times
  repeat walk_at "s"
  refine v_repl1 (by rw [imax_eq]; omega) (by rw [imax_eq]; omega) ?_
  refine v_kO (nls_ints _) ?_
  repeat walk_at "s"
  refine v_kforE (fun i r ρ m' => m' = m ∧ ∃ cs a3 a4 a5 a6, ρ = [.val (.tup (zz xs)), .val (.tup (zz ys)), .own (zz cs), a3, a4, a5, a6] ∧ (cs.length : Int) = Lx xs ys ∧ i + r.length = xs.length ∧ (∀ x ∈ r, bd a x) ∧ ser cs + xp i * ser r * ser ys = ser xs * ser ys) xs
    ⟨rfl, _, _, _, _, _, rfl, by rw [List.length_replicate]; unfold Lx; rw [imax_eq]; omega, by omega, ha, by rw [ser_zeros, xp0]; grind⟩ (fun i ρ m' h => ?_) fun i x r ρ m' N h hN => ?_
  · obtain ⟨rfl, cs, _, _, _, _, rfl, hc, hi, _, e⟩ := h
    repeat walk_at "s"
    refine ⟨_, cs, rfl, isRow_l, by unfold Lx at hc; rw [imax_eq] at hc; omega, fun s hs => q s ?_⟩
    rw [ser_nil] at e
    refine hs.cong ?_
    rw [← e]; grind
  · obtain ⟨rfl, cs, _, _, _, _, rfl, hc, hi, hx, e⟩ := h
    rw [List.length_cons] at hi
    have bx : bd a x := hx x List.mem_cons_self
    repeat walk_at "s"
    refine v_kforE (fun j r2 ρ m1 => m1 = m' ∧ ∃ cs a5 a6, ρ = [.val (.tup (zz xs)), .val (.tup (zz ys)), .own (zz cs), .val (.int i), .val (.int x), a5, a6] ∧ (cs.length : Int) = Lx xs ys ∧ j + r2.length = ys.length ∧ (∀ y ∈ r2, bd b y) ∧
      ser cs + xp (i + j) * Ser.C x * ser r2 + xp (i + 1) * ser r * ser ys = ser xs * ser ys) ys ⟨rfl, _, _, _, rfl, hc, by omega, hb, by rw [← e, ser_cons, xp_add]; rw [xp_add, xp0]; grind⟩ (fun j ρ m1 h => ?_) fun j y r2 ρ m1 N2 h hN2 => ?_
    · obtain ⟨rfl, cs, _, _, rfl, hc, hj, _, e⟩ := h
      repeat walk_at "s"
      refine hN _ _ ⟨rfl, cs, _, _, _, _, rfl, hc, by omega, fun z hz => hx z (List.mem_cons_of_mem _ hz), ?_⟩
      rw [ser_nil] at e
      rw [← e]; grind
    · obtain ⟨rfl, cs, _, _, rfl, hc, hj, hy, e⟩ := h
      rw [List.length_cons] at hj
      have by_ : bd b y := hy y List.mem_cons_self
      have hp := prod_step (x := x) (y := y) (by omega) hj hc
      repeat walk_at "s"
      refine v_kAI hp.1 hp.2 ?_
      repeat walk_at "s"
      have et : ((i : Int) + j).toNat = i + j := by omega
      rw [et]
      exact hN2 _ _ ⟨rfl, _, _, _, rfl, by rw [List.length_set]; exact hc, by omega, fun z hz => hy z (List.mem_cons_of_mem _ hz), prod_ser (by omega) rfl e⟩
end RR

/-! VL: what laws draw -/
namespace RR
open PySem PySem.Spec PyProof.Rows L2
local macro_rules | `(tactic| walk_at "bd") => `(tactic| first | assumption | exact bd_lit (by decide) | (with_reducible refine bd_mul ?_ ?_ <;> walk_at "bd") | (with_reducible refine bd_add ?_ ?_ <;> walk_at "bd") | (with_reducible refine bd_sub ?_ ?_ <;> walk_at "bd") | (with_reducible refine bd_neg ?_ <;> walk_at "bd"))
local macro_rules | `(tactic| walk_at "s") => `(tactic| with_reducible first
  | refine v_then ?_ | refine v_set ?_ | (apply v_var; · with_unfolding_all exact rfl) | refine v_bin ?_ | refine v_c ?_ | refine v_g0 ?_ | refine v_add ?_ | refine v_cons ?_ | refine v_nil ?_ | refine v_call ?_ | refine v_dB ?_ | refine v_next ?_ | refine v_ret ?_
  | refine v_ite ?_ | refine v_tst ?_ | refine v_kT ?_ | refine v_eqi ?_ | refine v_nei ?_ | refine v_eqr ?_ | refine v_ner ?_ | refine v_eqr0 ?_ | refine v_ner0 ?_ | refine v_eql ?_ | refine v_nel ?_ | refine v_eql0 ?_ | refine v_nel0 ?_ | refine v_isN ?_ | refine v_notN ?_
  | (apply v_bor; · with_unfolding_all exact rfl) | (apply v_own; · with_unfolding_all exact rfl) | refine v_tup ?_ | refine v_lst ?_ | (refine v_sz ?_ ?_; (· with_unfolding_all exact Nat.le_of_ble_eq_true rfl)) | (refine v_gIIz ?_ ?_; (· first | decide | omega))
  | refine v_lentz ?_ | refine v_lenlz ?_ | refine v_lent ?_ | refine v_lenl ?_ | refine v_I1 ?_ | refine v_I2 ?_ | refine v_int ?_ | refine v_seqlz ?_ | refine v_seqtz ?_ | refine v_sl ?_ | refine v_kSll ?_ | refine v_kSlt ?_ | refine v_ono ?_ | refine v_oso ?_ | refine v_kOS ?_
  | refine v_val ?_ | refine v_kVb ?_ | refine v_kVi ?_ | refine v_kVt ?_ | refine v_kVl ?_ | refine v_and ?_ | refine v_or ?_ | refine v_not ?_ | refine v_yes ?_ | refine v_if' ?_ | refine v_isi ?_ | refine v_kIii ?_ | refine v_kIib ?_ | refine v_kItt ?_
  | refine v_andV ?_ | refine v_orV ?_ | refine v_notV ?_ | refine v_kNV ?_ | refine v_neg ?_ | refine v_kNeg ?_ | refine v_seq ?_ | refine v_kSeql ?_ | refine v_kSeqt ?_ | refine v_rng1 ?_ | refine v_rng2 ?_ | refine v_enum ?_ | refine v_revr ?_ | refine v_rev ?_
  | (refine v_kR1 ?_ ?_ ?_; (· decide); (· decide))
  | (refine v_kR2 ?_ ?_ ?_ ?_ ?_; (· decide); (· decide); (· decide); (· decide))
  | refine v_gn ?_ | refine v_gt2 ?_ | refine v_gt3 ?_ | refine v_lc ?_ | refine v_for ?_ | refine v_setO ?_ | refine v_drop ?_ | (apply v_app; · with_unfolding_all exact rfl) | (apply v_setI; · with_unfolding_all exact rfl) | (apply v_rel; · with_unfolding_all exact rfl) | refine v_raise ?_ | refine v_par ?_ | refine v_kP ?_ | refine v_asg ?_
  | (apply v_aug; · with_unfolding_all exact rfl) | refine v_ifT ?_ | refine v_ifF ?_ | (refine v_pow ?_ ?_ ?_ ?_; (· decide); (· decide); (· decide)) | refine v_call0 ?_ | (apply v_lenr; · assumption) | (apply v_seqr; · assumption) | (apply v_kSeqr; · assumption) | (apply v_kSlr; · assumption)
  | refine v_ix0 ?_ | refine v_ix1 ?_ | refine v_ix2 ?_ | refine v_zip ?_ | refine v_kZl ?_ | refine v_kZt ?_ | (apply v_augI; · with_unfolding_all exact rfl) | refine v_try ?_ | refine v_isE ?_ | (refine v_kIE ?_ ?_; (· with_unfolding_all exact rfl)) | refine v_isB ?_ | refine v_notB ?_ | refine v_all ?_ | refine v_par3 ?_ | refine v_ifnT ?_ | refine v_ifnF ?_ | refine v_eqs ?_ | refine v_nes ?_ | refine v_rvs ?_ | refine v_kRvl ?_ | refine v_kRvt ?_
  | (refine v_mulb (a := ?a) (b := ?b) ?ha ?hb ?l ?h; (case ha => assumption); (case hb => assumption); (case l => omega)) | (refine v_fdivb (b := ?b) ?h0 ?hb ?l ?h; (case h0 => assumption); (case hb => assumption); (case l => omega)))
theorem v_drawN {N : Nat} {many : Int} {Q : D → Option Nat → Prop} {Z : Str → Option Nat → Prop} (hN : 1 ≤ N) (h0 : 0 < many) (hb : many.natAbs < 2 ^ 250) (h : ∀ x, 0 ≤ x → x < many → Q (.int x) (some (N - 1))) : s__law_draw [.hnd hdl, .int many] (some N) Q Z := by
  obtain ⟨k, rfl⟩ : ∃ k, N = k + 1 := ⟨N - 1, by omega⟩
  exact v_draw h0 hb h
/-- a list drawn item by item, each with at most c draws -/
theorem lc_drawn {g : DG} {tt : DTT (Option Nat)} {t : DT (Option Nat)} {ρ : En} {QL : List D → Option Nat → Prop} {P : Int → Prop} (n c N : Nat) (hN : n * c ≤ N)
    (st : ∀ ds N' (k : D → Option Nat → Prop) (l : Option Nat → Prop), c ≤ N' → (∀ y N'', P y → N' - c ≤ N'' → k (.int y) (some N'')) → g ds ρ fun ρ2 => tt ρ2 (some N') (fun b m1 => if b = true then t ρ2 m1 k (fun _ _ => False) else l m1) (fun _ _ => False))
    (hl : n ≤ 16777216) (q : ∀ xs N', xs.length = n → (∀ x ∈ xs, P x) → N - n * c ≤ N' → QL (zz xs) (some N')) : lcGo g tt t ρ (iota 0 n) [] (some N) QL := by
  refine lc_rany (P := P) (S := fun j m => ∃ N', m = some N' ∧ j * c + (N - n * c) ≤ N') n (fun j d m k l s hk => ?_) hl ⟨N, rfl, by omega⟩ fun xs m1 lx px s1 => ?_
  · obtain ⟨N', rfl, h⟩ := s
    rw [Nat.succ_mul] at h
    exact st d N' k l (by omega) fun y N'' hy hn => hk y _ hy ⟨N'', rfl, by omega⟩
  · obtain ⟨N', rfl, h⟩ := s1
    exact q xs N' lx px (by omega)
def b__law_whole : DS (Option Nat) :=
    (dThen (dSet 1 (dBin (gIx false) (dLst (dCons (dC (.int 1)) (dCons (dC (.int 7)) (dCons (dC (.int 7)) (dCons (dC (.int 30)) (dCons (dC (.int 5000)) (dCons (dBin (gII CPow fun i j => .int (i ^ j.toNat)) (dC (.int 10)) (dC (.int 12))) (dCons (dBin (gII CPow fun i j => .int (i ^ j.toNat)) (dC (.int 10)) (dC (.int 60))) dNil)))))))) (dCall s__law_draw [] (dCons (dVar 0) (dCons (dC (.int 7)) dNil)))))
    (dRet (dBin (g0 fun i j => .int (i - j)) (dCall s__law_draw [] (dCons (dVar 0) (dCons (dBin gAdd (dBin gMul (dC (.int 2)) (dVar 1)) (dC (.int 1))) dNil))) (dVar 1))))

def s__law_whole : DSp (Option Nat) := fun ds m Q Z => ∃ N, ds = [.hnd hdl] ∧ m = some N ∧ 2 ≤ N ∧ ∀ x N', bd 201 x → N - 2 ≤ N' → Q (.int x) (some N')
theorem vc__law_whole : ∀ ds (m : Option Nat) Q Z, s__law_whole ds m Q Z → okK [false] ds ∧ b__law_whole { nx := fun _ m' => Q .non m', rt := Q, ex := Z } (st0 [false] ds 2) m := by
  rintro ds m Q Z ⟨N, rfl, rfl, hN, q⟩
  refine ⟨⟨fun _ => rfl, trivial⟩, ?_⟩
  unfold b__law_whole
  repeat walk_at "s"
  refine v_drawN (by omega) (by decide) (by decide) fun x h0 h1 => ?_
  refine v_ixl (xs := [1, 7, 7, 30, 5000, 10 ^ (12 : Int).toNat, 10 ^ (60 : Int).toNat]) h0 h1 ?_
  have hm : ∀ s ∈ [1, 7, 7, 30, 5000, 10 ^ (12 : Int).toNat, 10 ^ (60 : Int).toNat], (1 : Int) ≤ s ∧ s ≤ 10 ^ 60 := by decide
  obtain ⟨s1, s2⟩ := hm _ (nth_mem h0 h1)
  have sb : bd 200 (nth [1, 7, 7, 30, 5000, 10 ^ (12 : Int).toNat, 10 ^ (60 : Int).toNat] x) := by
    have : (10 : Int) ^ 60 < 2 ^ 200 := by decide
    unfold bd; omega
  generalize nth [1, 7, 7, 30, 5000, 10 ^ (12 : Int).toNat, 10 ^ (60 : Int).toNat] x = s at s1 s2 sb ⊢
  repeat walk_at "s"
  refine v_mul (mulok (bd_lit (n := 2) (by decide)) sb) ?_
  repeat walk_at "s"
  refine v_drawN (by omega) (by omega) (by unfold bd at sb; omega) fun y h2 h3 => ?_
  repeat walk_at "s"
  refine q _ _ ?_ (by omega)
  unfold bd at sb ⊢; omega
def b__law_row : DS (Option Nat) :=
    (dRet (dCall s__law_cut [] (dCons (dLc (dRng1 (dCons (dCall s__law_draw [] (dCons (dVar 0) (dCons (dBin gAdd (dVar 1) (dC (.int 1))) dNil))) dNil)) (dgN 2) dYes (dCall s__law_whole [] (dCons (dVar 0) dNil)) [2]) dNil)))

def s__law_row : DSp (Option Nat) := fun ds m Q Z => ∃ (N : Nat) (most : Int), ds = [.hnd hdl, .int most] ∧ m = some N ∧ 0 ≤ most ∧ most ≤ 1000 ∧ 2 * most + 1 ≤ N ∧ ∀ (xs : List Int) (N' : Nat), done xs → xs.length ≤ most → (∀ x ∈ xs, bd 201 x) → N - (2 * most + 1) ≤ N' → Q (.tup (zz xs)) (some N')
theorem vc__law_row : ∀ ds (m : Option Nat) Q Z, s__law_row ds m Q Z → okK [false, false] ds ∧ b__law_row { nx := fun _ m' => Q .non m', rt := Q, ex := Z } (st0 [false, false] ds 3) m := by
  rintro ds m Q Z ⟨N, most, rfl, rfl, h0, h1, hN, q⟩
  refine ⟨⟨fun _ => rfl, fun _ => rfl, trivial⟩, ?_⟩
  unfold b__law_row
  repeat walk_at "s"
  refine v_drawN (by omega) (by omega) (by omega) fun x x0 x1 => ?_
  repeat walk_at "s"
  refine v_kR1 (by omega) (by omega) ?_
  refine lc_drawn (P := bd 201) x.toNat 2 (N - 1) (by omega) (fun d N' k l hc hk => ?_) (by omega) fun xs N' lx px hN' => ?_
  · repeat walk_at "s"
    exact ⟨_, rfl, rfl, hc, hk⟩
  repeat walk_at "s"
  refine ⟨_, xs, rfl, isRow_l, by omega, fun r hr => ?_⟩
  have e : r = strip xs := hr.uniq (R.of rfl)
  subst e
  have := strip_len xs
  exact q _ N' hr.dn (by omega) (fun z hz => px z (strip_mem hz)) (by omega)
end RR

/-! V04: values, rows put in -/
namespace RR
open PySem PySem.Spec PyProof.Rows L2
local macro_rules | `(tactic| walk_at "bd") => `(tactic| first | assumption | exact bd_lit (by decide) | (with_reducible refine bd_mul ?_ ?_ <;> walk_at "bd") | (with_reducible refine bd_add ?_ ?_ <;> walk_at "bd") | (with_reducible refine bd_sub ?_ ?_ <;> walk_at "bd") | (with_reducible refine bd_neg ?_ <;> walk_at "bd"))
local macro_rules | `(tactic| walk_at "s") => `(tactic| with_reducible first
  | refine v_then ?_ | refine v_set ?_ | (apply v_var; · with_unfolding_all exact rfl) | refine v_bin ?_ | refine v_c ?_ | refine v_g0 ?_ | refine v_add ?_ | refine v_cons ?_ | refine v_nil ?_ | refine v_call ?_ | refine v_dB ?_ | refine v_next ?_ | refine v_ret ?_
  | refine v_ite ?_ | refine v_tst ?_ | refine v_kT ?_ | refine v_eqi ?_ | refine v_nei ?_ | refine v_eqr ?_ | refine v_ner ?_ | refine v_eqr0 ?_ | refine v_ner0 ?_ | refine v_eql ?_ | refine v_nel ?_ | refine v_eql0 ?_ | refine v_nel0 ?_ | refine v_isN ?_ | refine v_notN ?_
  | (apply v_bor; · with_unfolding_all exact rfl) | (apply v_own; · with_unfolding_all exact rfl) | refine v_tup ?_ | refine v_lst ?_ | (refine v_sz ?_ ?_; (· with_unfolding_all exact Nat.le_of_ble_eq_true rfl)) | (refine v_gIIz ?_ ?_; (· first | decide | omega))
  | refine v_lentz ?_ | refine v_lenlz ?_ | refine v_lent ?_ | refine v_lenl ?_ | refine v_I1 ?_ | refine v_I2 ?_ | refine v_int ?_ | refine v_seqlz ?_ | refine v_seqtz ?_ | refine v_sl ?_ | refine v_kSll ?_ | refine v_kSlt ?_ | refine v_ono ?_ | refine v_oso ?_ | refine v_kOS ?_
  | refine v_val ?_ | refine v_kVb ?_ | refine v_kVi ?_ | refine v_kVt ?_ | refine v_kVl ?_ | refine v_and ?_ | refine v_or ?_ | refine v_not ?_ | refine v_yes ?_ | refine v_if' ?_ | refine v_isi ?_ | refine v_kIii ?_ | refine v_kIib ?_ | refine v_kItt ?_
  | refine v_andV ?_ | refine v_orV ?_ | refine v_notV ?_ | refine v_kNV ?_ | refine v_neg ?_ | refine v_kNeg ?_ | refine v_seq ?_ | refine v_kSeql ?_ | refine v_kSeqt ?_ | refine v_rng1 ?_ | refine v_rng2 ?_ | refine v_enum ?_ | refine v_revr ?_ | refine v_rev ?_
  | (refine v_kR1 ?_ ?_ ?_; (· decide); (· decide))
  | (refine v_kR2 ?_ ?_ ?_ ?_ ?_; (· decide); (· decide); (· decide); (· decide))
  | refine v_gn ?_ | refine v_gt2 ?_ | refine v_gt3 ?_ | refine v_lc ?_ | refine v_for ?_ | refine v_setO ?_ | refine v_drop ?_ | (apply v_app; · with_unfolding_all exact rfl) | (apply v_setI; · with_unfolding_all exact rfl) | (apply v_rel; · with_unfolding_all exact rfl) | refine v_raise ?_ | refine v_par ?_ | refine v_kP ?_ | refine v_asg ?_
  | (apply v_aug; · with_unfolding_all exact rfl) | refine v_ifT ?_ | refine v_ifF ?_ | (refine v_pow ?_ ?_ ?_ ?_; (· decide); (· decide); (· decide)) | refine v_call0 ?_ | (apply v_lenr; · assumption) | (apply v_seqr; · assumption) | (apply v_kSeqr; · assumption) | (apply v_kSlr; · assumption)
  | refine v_ix0 ?_ | refine v_ix1 ?_ | refine v_ix2 ?_ | refine v_zip ?_ | refine v_kZl ?_ | refine v_kZt ?_ | (apply v_augI; · with_unfolding_all exact rfl) | refine v_try ?_ | refine v_isE ?_ | (refine v_kIE ?_ ?_; (· with_unfolding_all exact rfl)) | refine v_isB ?_ | refine v_notB ?_ | refine v_all ?_ | refine v_par3 ?_ | refine v_ifnT ?_ | refine v_ifnF ?_ | refine v_eqs ?_ | refine v_nes ?_ | refine v_rvs ?_ | refine v_kRvl ?_ | refine v_kRvt ?_
  | (refine v_mulb (a := ?a) (b := ?b) ?ha ?hb ?l ?h; (case ha => assumption); (case hb => assumption); (case l => omega)) | (refine v_fdivb (b := ?b) ?h0 ?hb ?l ?h; (case h0 => assumption); (case hb => assumption); (case l => omega)))
/-! ### values -/
def hom (n d : Int) : List Int → Int
  | [] => 0
  | c :: r => c * d ^ r.length + n * hom n d r
def ev (x : Rat) : List Int → Rat
  | [] => 0
  | c :: r => c + x * ev x r
theorem hom_snoc (n d : Int) (x : Int) : ∀ p : List Int, hom n d (p ++ [x]) = hom n d p * d + x * n ^ p.length
  | [] => by simp [hom]
  | c :: r => by
    rw [List.cons_append]
    show c * d ^ (r ++ [x]).length + n * hom n d (r ++ [x]) = (c * d ^ r.length + n * hom n d r) * d + x * n ^ (r.length + 1)
    rw [hom_snoc n d x r, List.length_append, List.length_singleton, Int.pow_succ, Int.pow_succ]
    grind
theorem hom_ev {n d : Int} (hd : d ≠ 0) : ∀ xs : List Int, ((hom n d xs * d : Int) : Rat) = ev ((n : Rat) / d) xs * ((d ^ xs.length : Int) : Rat)
  | [] => by simp [hom, ev]
  | c :: r => by
    have ih := hom_ev (n := n) hd r
    have hd' : (d : Rat) ≠ 0 := fun e => hd (Rat.intCast_inj.mp (by simpa using e))
    have hx : (n : Rat) / d * d = n := by rw [Rat.div_mul_cancel hd']
    show ((((c * d ^ r.length + n * hom n d r) * d : Int)) : Rat) = (c + (n : Rat) / d * ev ((n : Rat) / d) r) * ((d ^ (r.length + 1) : Int) : Rat)
    rw [Int.pow_succ]
    simp only [Rat.intCast_mul, Rat.intCast_add] at ih ⊢
    grind
theorem hom_val {n d : Int} (hd : d ≠ 0) (xs : List Int) : ((hom n d xs * d : Int) : Rat) / ((d ^ xs.length : Int) : Rat) = ev ((n : Rat) / d) xs := by
  have hd' : ((d ^ xs.length : Int) : Rat) ≠ 0 := fun e => (Int.pow_ne_zero hd) (Rat.intCast_inj.mp (by simpa using e))
  rw [hom_ev hd, Rat.mul_div_cancel hd']
theorem bd_num {n d : Int} {a : Nat} (hd : d ≠ 0) (h : bd a n) : bd a ((n : Rat) / d).num := by
  rw [← low_num hd]
  have p0 := part_ne (n := n) hd
  have : (n.fdiv (part n d)).natAbs ≤ n.natAbs := by
    have hdv : part n d ∣ n := by
      have : ((Int.gcd n d : Nat) : Int) ∣ n := Int.gcd_dvd_left ..
      unfold part; split
      · exact this
      · rw [show (0 : Int) - (Int.gcd n d : Int) = -(Int.gcd n d : Int) by omega]; exact Int.neg_dvd.mpr this
    obtain ⟨k, hk⟩ := hdv
    generalize part n d = p at *
    rw [hk, Int.mul_fdiv_cancel_left _ p0, Int.natAbs_mul]
    exact Nat.le_mul_of_pos_left _ (by omega)
  unfold bd at *; omega
theorem bd_den {n d : Int} {a : Nat} (hd : d ≠ 0) (h : bd a d) : bd a (((n : Rat) / d).den : Int) := by
  rw [← low_den hd]
  have p0 := part_ne (n := n) hd
  have : (d.fdiv (part n d)).natAbs ≤ d.natAbs := by
    have hdv : part n d ∣ d := by
      have : ((Int.gcd n d : Nat) : Int) ∣ d := Int.gcd_dvd_right ..
      unfold part; split
      · exact this
      · rw [show (0 : Int) - (Int.gcd n d : Int) = -(Int.gcd n d : Int) by omega]; exact Int.neg_dvd.mpr this
    obtain ⟨k, hk⟩ := hdv
    generalize part n d = p at *
    rw [hk, Int.mul_fdiv_cancel_left _ p0, Int.natAbs_mul]
    exact Nat.le_mul_of_pos_left _ (by omega)
  unfold bd at *; omega
/-- bits of a value -/
def vbits (c a l : Nat) : Nat := c + (l + 1) * (a + 2)
theorem vb_le {c a i l : Nat} (h : i ≤ l) : c + i * (a + 2) ≤ c + l * (a + 2) := Nat.add_le_add_left (Nat.mul_le_mul_right _ h) _
theorem val_end {xs : List Int} {p q : Int} {c a : Nat} {M : Type} {m : M} {Q : D → M → Prop} (hq : q ≠ 0) (hp2 : bd a q) (hb : bd (c + xs.length * (a + 2)) (hom p q xs))
    (k : ∀ v : Rat, v = ev ((p : Rat) / q) xs → bd (vbits c a xs.length) v.num → bd (vbits c a xs.length) v.den → Q (pq v) m) : Q (pq (((hom p q xs * q : Int) : Rat) / ((q ^ xs.length : Int) : Rat))) m := by
  have h0 : q ^ xs.length ≠ 0 := Int.pow_ne_zero hq
  refine k _ (hom_val hq xs) ?_ ?_
  · refine bd_num h0 (bd_mono (bd_mul hb hp2) ?_)
    unfold vbits; rw [Nat.succ_mul]; omega
  · refine bd_den h0 (bd_mono (bd_pow hp2 _) ?_)
    unfold vbits; rw [Nat.succ_mul, Nat.mul_add]; omega
theorem hom_bd {c a : Nat} {p q : Int} (hp : bd a p) (hq : bd a q) : ∀ s : List Int, (∀ x ∈ s, bd c x) → bd (c + s.length * (a + 2)) (hom p q s)
  | [], _ => bd0
  | x :: s, h => by
    show bd _ (x * q ^ s.length + p * hom p q s)
    refine bd_mono (bd_add (bd_mul (h x List.mem_cons_self) (bd_pow hq _)) (bd_mul hp (hom_bd hp hq s fun y hy => h y (List.mem_cons_of_mem _ hy)))) ?_
    rw [List.length_cons, Nat.succ_mul, Nat.mul_add]
    omega
/-! ### rows put in -/
/-! ### the value of a composed row -/
/-! ### the law -/
theorem num_den (v : Rat) : (v.num : Rat) / ((v.den : Int) : Rat) = v := by
  rw [← Rat.divInt_eq_div]; exact Rat.num_divInt_den v
theorem den_ne (v : Rat) : (v.den : Int) ≠ 0 := by have := v.den_nz; omega
end RR

/-! MP: polynomials with fractions, in lowest terms -/
namespace RR
open PySem PySem.Spec PyProof.Rows L2
/-- whole numbers as fractions -/
def qs (f : Ser Int) : Ser Rat := ⟨fun k => (f.co k : Rat)⟩
theorem qs_co (f : Ser Int) (k : Nat) : (qs f).co k = (f.co k : Rat) := rfl
theorem qs_add (f g : Ser Int) : qs (f + g) = qs f + qs g := Ser.ext fun k => by rw [qs_co, Ser.add_co, Ser.add_co, Rat.intCast_add]; rfl
theorem qs_C (c : Int) : qs (Ser.C c) = Ser.C (c : Rat) := Ser.ext fun k => by
  rw [qs_co, Ser.C_co, Ser.C_co]; split <;> rfl
theorem qs_mulc : ∀ (k : Nat) (f g : Ser Int), ((Ser.mulc k f g : Int) : Rat) = Ser.mulc k (qs f) (qs g)
  | 0, f, g => by show ((f.co 0 * g.co 0 : Int) : Rat) = _; rw [Rat.intCast_mul]; rfl
  | k + 1, f, g => by
    show ((f.co 0 * g.co (k + 1) + Ser.mulc k f.tl g : Int) : Rat) = (f.co 0 : Rat) * (g.co (k + 1) : Rat) + Ser.mulc k (qs f).tl (qs g)
    rw [Rat.intCast_add, Rat.intCast_mul, qs_mulc k f.tl g]; rfl
theorem qs_mul (f g : Ser Int) : qs (f * g) = qs f * qs g := Ser.ext fun k => qs_mulc k f g
theorem qs_xp (k : Nat) : qs (xp k) = xp k := Ser.ext fun j => by rw [qs_co, xp_co, xp_co]; split <;> rfl
theorem qs_zero : qs 0 = 0 := Ser.ext fun k => by rw [qs_co, zero_co, zero_co]; rfl
theorem qs_one : qs 1 = 1 := Ser.ext fun k => by rw [qs_co, one_co, one_co]; split <;> rfl
theorem cne {d : Int} (h : d ≠ 0) : (d : Rat) ≠ 0 := fun e => h (Rat.intCast_inj.mp e)
theorem Cq_cancel {c : Rat} {f g : Ser Rat} (hc : c ≠ 0) (h : Ser.C c * f = Ser.C c * g) : f = g := Ser.ext fun k => by
  have := congrArg (fun f => Ser.co f k) h
  simp only [Ser.C_mul_co] at this
  have e : c⁻¹ * (c * f.co k) = c⁻¹ * (c * g.co k) := by rw [this]
  rw [← Lean.Grind.Semiring.mul_assoc, ← Lean.Grind.Semiring.mul_assoc, Rat.inv_mul_cancel c hc] at e
  grind
theorem C_inv {c : Rat} (hc : c ≠ 0) : Ser.C c * Ser.C c⁻¹ = 1 := by
  rw [← C_mul, Rat.mul_inv_cancel c hc]; rfl
/-! ### the common part of a row's numbers -/
theorem gcd_fold_dvd : ∀ (xs : List Int) (g : Nat), (xs.foldl (fun g x => Int.gcd g x) g) ∣ g ∧ ∀ x ∈ xs, ((xs.foldl (fun g x => Int.gcd g x) g : Nat) : Int) ∣ x
  | [], g => ⟨Nat.dvd_refl _, fun _ h => nomatch h⟩
  | x :: xs, g => by
    obtain ⟨h1, h2⟩ := gcd_fold_dvd xs (Int.gcd g x)
    have a : Int.gcd g x ∣ g := by have := Int.gcd_dvd_natAbs_left (g : Int) x; simpa using this
    have b : ((Int.gcd g x : Nat) : Int) ∣ x := Int.gcd_dvd_right ..
    refine ⟨Nat.dvd_trans h1 a, fun y hy => ?_⟩
    rcases List.mem_cons.mp hy with rfl | hy
    · exact Int.dvd_trans (Int.natCast_dvd_natCast.mpr h1) b
    · exact h2 y hy
theorem gcdL_dvd {xs : List Int} {x : Int} (h : x ∈ xs) : ((gcdL xs : Nat) : Int) ∣ x := (gcd_fold_dvd xs 0).2 x h
theorem gcd_fold_great : ∀ (xs : List Int) (g k : Nat), k ∣ g → (∀ x ∈ xs, (k : Int) ∣ x) → k ∣ xs.foldl (fun g x => Int.gcd g x) g
  | [], g, k, h, _ => h
  | x :: xs, g, k, h, hx => gcd_fold_great xs _ k (Int.natCast_dvd_natCast.mp (Int.dvd_coe_gcd (Int.natCast_dvd_natCast.mpr h) (hx x List.mem_cons_self))) fun y hy => hx y (List.mem_cons_of_mem _ hy)
theorem gcdL_great {xs : List Int} {k : Nat} (h : ∀ x ∈ xs, (k : Int) ∣ x) : k ∣ gcdL xs := gcd_fold_great xs 0 k (Nat.dvd_zero k) h
/-! ### lowest terms -/
/-- f is the row r by d, in lowest terms -/
structure P (f : Ser Rat) (r : List Int) (d : Int) : Prop where
  pos : 0 < d
  dn : done r
  low : Int.gcd (gcdL r) d = 1
  eq : Ser.C (d : Rat) * f = qs (ser r)
theorem dvd_of_all {r : List Int} {d e : Int} (h : Int.gcd (gcdL r) d = 1) (a : ∀ x ∈ r, d ∣ x * e) : d ∣ e := by
  have fold : ∀ (xs : List Int) (g : Nat), (d ∣ (g : Int) * e) → (∀ x ∈ xs, d ∣ x * e) → d ∣ ((xs.foldl (fun g x => Int.gcd g x) g : Nat) : Int) * e := by
    intro xs
    induction xs with
    | nil => exact fun g h _ => h
    | cons x xs ih =>
      intro g hg hx
      refine ih _ ?_ fun y hy => hx y (List.mem_cons_of_mem _ hy)
      have := Int.dvd_coe_gcd hg (hx x List.mem_cons_self)
      rw [Int.gcd_mul_right] at this
      have e2 : ((Int.gcd g x : Int) * e).natAbs = Int.gcd g x * e.natAbs := by rw [Int.natAbs_mul]; simp
      exact Int.dvd_natAbs.mp (by rw [e2]; exact this)
  have h1 := fold r 0 (by simp) a
  have h1 : d ∣ (gcdL r : Int) * e := h1
  have h2 : d ∣ d * e := Int.dvd_mul_right ..
  have h3 := Int.dvd_coe_gcd h1 h2
  rw [Int.gcd_mul_right, h, Nat.one_mul] at h3
  exact Int.dvd_natAbs.mp h3
theorem P.get {f : Ser Rat} {r : List Int} {d : Int} (h : P f r d) (k : Nat) : (d : Rat) * f.co k = (r.getD k 0 : Int) := by
  have := congrArg (fun f => Ser.co f k) h.eq
  simp only [Ser.C_mul_co, qs_co, ser_co] at this
  exact this
theorem P.dq {f : Ser Rat} {r : List Int} {d : Int} (h : P f r d) : (d : Rat) ≠ 0 := cne (by have := h.pos; omega)
theorem P.uniq {f : Ser Rat} {r r' : List Int} {d d' : Int} (h : P f r d) (h' : P f r' d') : r = r' ∧ d = d' := by
  have cross : ∀ k, r.getD k 0 * d' = r'.getD k 0 * d := fun k => by
    have e1 := h.get k
    have e2 := h'.get k
    refine Rat.intCast_inj.mp ?_
    rw [Rat.intCast_mul, Rat.intCast_mul, ← e1, ← e2]; grind
  have dv : ∀ {r r' : List Int} {d d' : Int}, Int.gcd (gcdL r) d = 1 → (∀ k, r.getD k 0 * d' = r'.getD k 0 * d) → d ∣ d' := fun {r r' d d'} g c => dvd_of_all g fun x hx => by
    obtain ⟨i, hi, rfl⟩ := List.mem_iff_getElem.mp hx
    have := c i
    rw [List.getD_eq_getElem?_getD, List.getElem?_eq_getElem hi] at this
    exact ⟨r'.getD i 0, by rw [Int.mul_comm d]; exact this⟩
  have e : d = d' := Int.dvd_antisymm (Int.le_of_lt h.pos) (Int.le_of_lt h'.pos) (dv h.low cross) (dv h'.low fun k => (cross k).symm)
  subst e
  refine ⟨done_uniq h.dn h'.dn (Ser.ext fun k => ?_), rfl⟩
  have := cross k
  have d0 := h.pos
  exact Int.eq_of_mul_eq_mul_right (by omega) this
theorem P.inj {f g : Ser Rat} {r : List Int} {d : Int} (h : P f r d) (h' : P g r d) : f = g := Cq_cancel h.dq (h.eq.trans h'.eq.symm)
theorem P.cong {f g : Ser Rat} {r : List Int} {d : Int} (h : P f r d) (e : f = g) : P g r d := e ▸ h
theorem P.far {f : Ser Rat} {r : List Int} {d : Int} (h : P f r d) : RR.far r.length f := fun k hk => by
  have := h.get k
  rw [getD_far hk, Rat.intCast_zero] at this
  have e : (d : Rat)⁻¹ * ((d : Rat) * f.co k) = (d : Rat)⁻¹ * 0 := by rw [this]
  rw [← Lean.Grind.Semiring.mul_assoc, Rat.inv_mul_cancel _ h.dq] at e
  grind
theorem P.top {f : Ser Rat} {r : List Int} {d : Int} (h : P f r d) (n : r ≠ []) : RR.top (r.length - 1) f := by
  have l0 := List.length_pos_iff.mpr n
  refine ⟨fun k hk => h.far k (by omega), fun e => done_last h.dn n ?_⟩
  have := h.get (r.length - 1)
  rw [e, Lean.Grind.Semiring.mul_zero] at this
  exact Rat.intCast_inj.mp this.symm
theorem P.nil : P 0 [] 1 := ⟨by decide, rfl, by decide, by rw [ser_nil, qs_zero]; grind⟩
theorem P.zero {f : Ser Rat} {r : List Int} {d : Int} (h : P f r d) : f = 0 ↔ (r = [] ∧ d = 1) := by
  refine ⟨fun e => ?_, fun ⟨e, e'⟩ => ?_⟩
  · subst e; exact h.uniq P.nil
  · subst e e'; exact h.inj P.nil
theorem P.nil_iff {f : Ser Rat} {r : List Int} {d : Int} (h : P f r d) : f = 0 ↔ r = [] := by
  refine ⟨fun e => (h.zero.mp e).1, fun e => ?_⟩
  subst e
  have := h.far
  exact far0 this
/-- the row and the number by which a row by a number is told -/
def lowR (xs : List Int) (d : Int) : List Int := xs.map fun x => x.fdiv (part (gcdL xs) d)
def lowD (xs : List Int) (d : Int) : Int := d.fdiv (part (gcdL xs) d)
theorem part_dvd {n d : Int} : part n d ∣ n ∧ part n d ∣ d := by
  have h1 : ((Int.gcd n d : Nat) : Int) ∣ n := Int.gcd_dvd_left ..
  have h2 : ((Int.gcd n d : Nat) : Int) ∣ d := Int.gcd_dvd_right ..
  unfold part; split
  · exact ⟨h1, h2⟩
  · rw [show (0 : Int) - (Int.gcd n d : Int) = -(Int.gcd n d : Int) by omega]
    exact ⟨Int.neg_dvd.mpr h1, Int.neg_dvd.mpr h2⟩
theorem lowR_mul {xs : List Int} {d : Int} (hd : d ≠ 0) : xs = (lowR xs d).map fun x => part (gcdL xs) d * x := by
  unfold lowR
  rw [List.map_map]
  refine (List.map_id xs).symm.trans (List.map_congr_left fun x hx => ?_)
  have p0 := part_ne (n := (gcdL xs : Int)) hd
  obtain ⟨k, hk⟩ := Int.dvd_trans (part_dvd (n := (gcdL xs : Int)) (d := d)).1 (gcdL_dvd hx)
  show x = part (gcdL xs) d * x.fdiv (part (gcdL xs) d)
  generalize part (gcdL xs) d = p at *
  rw [hk, Int.mul_fdiv_cancel_left _ p0]
theorem lowD_mul {xs : List Int} {d : Int} (hd : d ≠ 0) : d = part (gcdL xs) d * lowD xs d := by
  unfold lowD
  have p0 := part_ne (n := (gcdL xs : Int)) hd
  obtain ⟨k, hk⟩ := (part_dvd (n := (gcdL xs : Int)) (d := d)).2
  generalize hp : part (gcdL xs) d = p at *
  rw [hk, Int.mul_fdiv_cancel_left _ p0]
theorem lowD_pos {xs : List Int} {d : Int} (hd : d ≠ 0) : 0 < lowD xs d := by
  have e := lowD_mul (xs := xs) hd
  have g0 : Int.gcd (gcdL xs) d ≠ 0 := fun e => hd (Int.gcd_eq_zero_iff.mp e).2
  have p : (0 < d → 0 < part (gcdL xs) d) ∧ (¬ 0 < d → part (gcdL xs) d < 0) := by
    unfold part; refine ⟨fun h => ?_, fun h => ?_⟩
    · rw [if_pos h]; omega
    · rw [if_neg h]; omega
  generalize part (gcdL xs) d = q at *
  generalize lowD xs d = l at *
  refine Classical.byContradiction fun nl => ?_
  by_cases h : 0 < d
  · have := Int.mul_nonneg (Int.le_of_lt (p.1 h)) (show 0 ≤ -l by omega)
    rw [Int.mul_neg] at this; omega
  · have := Int.mul_nonneg (show 0 ≤ -q by have := p.2 h; omega) (show 0 ≤ -l by omega)
    rw [Int.neg_mul_neg] at this; omega
theorem low_gcd {xs : List Int} {d : Int} (hd : d ≠ 0) : Int.gcd (gcdL (lowR xs d)) (lowD xs d) = 1 := by
  have g0 : Int.gcd (gcdL xs) d ≠ 0 := fun e => hd (Int.gcd_eq_zero_iff.mp e).2
  generalize hk : Int.gcd (gcdL (lowR xs d)) (lowD xs d) = k
  have k1 : ((k : Nat) : Int) ∣ (gcdL (lowR xs d) : Int) := hk ▸ Int.gcd_dvd_left ..
  have k2 : ((k : Nat) : Int) ∣ lowD xs d := hk ▸ Int.gcd_dvd_right ..
  have pn : (part (gcdL xs) d).natAbs = Int.gcd (gcdL xs) d := by unfold part; split <;> omega
  -- k times the part divides all of xs and d
  have h1 : (part (gcdL xs) d).natAbs * k ∣ gcdL xs := gcdL_great fun x hx => by
    rw [lowR_mul (xs := xs) hd] at hx
    obtain ⟨y, hy, rfl⟩ := List.mem_map.mp hx
    have := Int.dvd_trans k1 (gcdL_dvd hy)
    rw [Int.natCast_mul]
    refine Int.mul_dvd_mul ?_ this
    exact Int.natAbs_dvd.mpr (Int.dvd_refl _)
  have h2 : (((part (gcdL xs) d).natAbs * k : Nat) : Int) ∣ d := by
    have e := lowD_mul (xs := xs) hd
    generalize hpp : part (gcdL xs) d = p at *
    rw [e, Int.natCast_mul]
    exact Int.mul_dvd_mul (Int.natAbs_dvd.mpr (Int.dvd_refl _)) k2
  have h3 : (part (gcdL xs) d).natAbs * k ∣ Int.gcd (gcdL xs) d := Int.natCast_dvd_natCast.mp (Int.dvd_coe_gcd (Int.natCast_dvd_natCast.mpr h1) h2)
  rw [pn] at h3
  have h4 := Nat.le_of_dvd (by omega) h3
  have h5 : k ≠ 0 := fun e => by rw [e, Nat.mul_zero] at h3; exact g0 (Nat.eq_zero_of_zero_dvd h3)
  refine Classical.byContradiction fun n => ?_
  have : Int.gcd (gcdL xs) d * 2 ≤ Int.gcd (gcdL xs) d * k := Nat.mul_le_mul_left _ (by omega)
  omega
theorem strip_map_ne {g : Int → Int} {xs : List Int} (h : done xs) (hg : ∀ x ∈ xs, x ≠ 0 → g x ≠ 0) : done (xs.map g) := by
  unfold done at *
  induction xs using strip_ind with
  | h0 => rfl
  | h1 xs a _ =>
    rw [strip_snoc] at h
    by_cases e : a = 0
    · rw [if_pos e] at h
      have := congrArg List.length h
      have := strip_len xs
      rw [List.length_append, List.length_singleton] at *
      omega
    · rw [List.map_append, List.map_singleton, strip_snoc, if_neg (hg a (by simp) e)]
theorem lowR_done {xs : List Int} {d : Int} (hd : d ≠ 0) (h : done xs) : done (lowR xs d) := by
  refine strip_map_ne h fun x hx x0 e => x0 ?_
  have p0 := part_ne (n := (gcdL xs : Int)) hd
  obtain ⟨k, hk⟩ := Int.dvd_trans (part_dvd (n := (gcdL xs : Int)) (d := d)).1 (gcdL_dvd hx)
  generalize part (gcdL xs) d = p at *
  rw [hk, Int.mul_fdiv_cancel_left _ p0] at e
  rw [hk, e, Int.mul_zero]
theorem low_P {f : Ser Rat} {xs : List Int} {d : Int} (hd : d ≠ 0) (h : done xs) (e : Ser.C (d : Rat) * f = qs (ser xs)) : P f (lowR xs d) (lowD xs d) := by
  refine ⟨lowD_pos hd, lowR_done hd h, low_gcd hd, ?_⟩
  have p0 := cne (part_ne (n := (gcdL xs : Int)) hd)
  refine Cq_cancel p0 ?_
  have e1 : Ser.C (d : Rat) = Ser.C ((part (gcdL xs) d : Int) : Rat) * Ser.C ((lowD xs d : Int) : Rat) := by
    rw [← C_mul, ← Rat.intCast_mul, ← lowD_mul hd]
  have e2 : qs (ser xs) = Ser.C ((part (gcdL xs) d : Int) : Rat) * qs (ser (lowR xs d)) := by
    conv => lhs; rw [lowR_mul (xs := xs) hd]
    rw [ser_scale, qs_mul, qs_C]
  rw [← Lean.Grind.Semiring.mul_assoc, ← e1, e, e2]
theorem abs_part {n x : Int} {d : Int} (hd : d ≠ 0) (h : part n d ∣ x) : (x.fdiv (part n d)).natAbs ≤ x.natAbs := by
  have p0 := part_ne (n := n) hd
  obtain ⟨k, hk⟩ := h
  generalize part n d = p at *
  rw [hk, Int.mul_fdiv_cancel_left _ p0, Int.natAbs_mul]
  exact Nat.le_mul_of_pos_left _ (by omega)
theorem lowR_bd {xs : List Int} {d : Int} {a : Nat} (hd : d ≠ 0) (h : ∀ x ∈ xs, bd a x) : ∀ x ∈ lowR xs d, bd a x := fun y hy => by
  obtain ⟨x, hx, rfl⟩ := List.mem_map.mp hy
  have := abs_part hd (Int.dvd_trans (part_dvd (n := (gcdL xs : Int)) (d := d)).1 (gcdL_dvd hx))
  have := h x hx
  unfold bd at *; omega
theorem lowD_bd {xs : List Int} {d : Int} {a : Nat} (hd : d ≠ 0) (h : bd a d) : bd a (lowD xs d) := by
  have := abs_part hd (part_dvd (n := (gcdL xs : Int)) (d := d)).2
  unfold lowD bd at *; omega
theorem lowR_len {xs : List Int} {d : Int} : (lowR xs d).length = xs.length := by unfold lowR; rw [List.length_map]
/-- sizes of a told polynomial -/
structure PB (n a : Nat) (r : List Int) (d : Int) : Prop where
  ln : r.length ≤ n
  bd : ∀ x ∈ r, RR.bd a x
  dd : RR.bd a d
/-- .. by any way it can be put -/
theorem P.PB {f : Ser Rat} {r xs : List Int} {d e : Int} {n a : Nat} (h : P f r d) (e0 : e ≠ 0) (eq : Ser.C (e : Rat) * f = qs (ser xs)) (ln : xs.length ≤ n) (b1 : ∀ x ∈ xs, RR.bd a x) (b2 : RR.bd a e) : RR.PB n a r d := by
  have dn := strip_done xs
  have h' := low_P e0 dn (by rw [ser_strip]; exact eq)
  obtain ⟨rfl, rfl⟩ := h.uniq h'
  exact ⟨by rw [lowR_len]; exact Nat.le_trans (strip_len xs) ln, lowR_bd e0 fun x hx => b1 x (strip_mem hx), lowD_bd e0 b2⟩
theorem PB.mono {n a n' a' : Nat} {r : List Int} {d : Int} (h : PB n a r d) (hn : n ≤ n') (ha : a ≤ a') : PB n' a' r d := ⟨Nat.le_trans h.ln hn, fun x hx => bd_mono (h.bd x hx) ha, bd_mono h.dd ha⟩
abbrev pd (r : List Int) (d : Int) : D := .tup [.tup (zz r), .int d]
end RR

/-! VP: polynomials told, drawn, summed, multiplied -/
namespace RR
open PySem PySem.Spec PyProof.Rows L2
local macro_rules | `(tactic| walk_at "bd") => `(tactic| first | assumption | exact bd_lit (by decide) | (with_reducible refine bd_mul ?_ ?_ <;> walk_at "bd") | (with_reducible refine bd_add ?_ ?_ <;> walk_at "bd") | (with_reducible refine bd_sub ?_ ?_ <;> walk_at "bd") | (with_reducible refine bd_neg ?_ <;> walk_at "bd"))
local macro_rules | `(tactic| walk_at "s") => `(tactic| with_reducible first
  | refine v_then ?_ | refine v_set ?_ | (apply v_var; · with_unfolding_all exact rfl) | refine v_bin ?_ | refine v_c ?_ | refine v_g0 ?_ | refine v_add ?_ | refine v_cons ?_ | refine v_nil ?_ | refine v_call ?_ | refine v_dB ?_ | refine v_next ?_ | refine v_ret ?_
  | refine v_ite ?_ | refine v_tst ?_ | refine v_kT ?_ | refine v_eqi ?_ | refine v_nei ?_ | refine v_eqr ?_ | refine v_ner ?_ | refine v_eqr0 ?_ | refine v_ner0 ?_ | refine v_eql ?_ | refine v_nel ?_ | refine v_eql0 ?_ | refine v_nel0 ?_ | refine v_isN ?_ | refine v_notN ?_
  | (apply v_bor; · with_unfolding_all exact rfl) | (apply v_own; · with_unfolding_all exact rfl) | refine v_tup ?_ | refine v_lst ?_ | (refine v_sz ?_ ?_; (· with_unfolding_all exact Nat.le_of_ble_eq_true rfl)) | (refine v_gIIz ?_ ?_; (· first | decide | omega))
  | refine v_lentz ?_ | refine v_lenlz ?_ | refine v_lent ?_ | refine v_lenl ?_ | refine v_I1 ?_ | refine v_I2 ?_ | refine v_int ?_ | refine v_seqlz ?_ | refine v_seqtz ?_ | refine v_sl ?_ | refine v_kSll ?_ | refine v_kSlt ?_ | refine v_ono ?_ | refine v_oso ?_ | refine v_kOS ?_
  | refine v_val ?_ | refine v_kVb ?_ | refine v_kVi ?_ | refine v_kVt ?_ | refine v_kVl ?_ | refine v_and ?_ | refine v_or ?_ | refine v_not ?_ | refine v_yes ?_ | refine v_if' ?_ | refine v_isi ?_ | refine v_kIii ?_ | refine v_kIib ?_ | refine v_kItt ?_
  | refine v_andV ?_ | refine v_orV ?_ | refine v_notV ?_ | refine v_kNV ?_ | refine v_neg ?_ | refine v_kNeg ?_ | refine v_seq ?_ | refine v_kSeql ?_ | refine v_kSeqt ?_ | refine v_rng1 ?_ | refine v_rng2 ?_ | refine v_enum ?_ | refine v_revr ?_ | refine v_rev ?_
  | (refine v_kR1 ?_ ?_ ?_; (· decide); (· decide))
  | (refine v_kR2 ?_ ?_ ?_ ?_ ?_; (· decide); (· decide); (· decide); (· decide))
  | refine v_gn ?_ | refine v_gt2 ?_ | refine v_gt3 ?_ | refine v_lc ?_ | refine v_for ?_ | refine v_setO ?_ | refine v_drop ?_ | (apply v_app; · with_unfolding_all exact rfl) | (apply v_setI; · with_unfolding_all exact rfl) | (apply v_rel; · with_unfolding_all exact rfl) | refine v_raise ?_ | refine v_par ?_ | refine v_kP ?_ | refine v_asg ?_
  | (apply v_aug; · with_unfolding_all exact rfl) | refine v_ifT ?_ | refine v_ifF ?_ | (refine v_pow ?_ ?_ ?_ ?_; (· decide); (· decide); (· decide)) | refine v_call0 ?_ | (apply v_lenr; · assumption) | (apply v_seqr; · assumption) | (apply v_kSeqr; · assumption) | (apply v_kSlr; · assumption)
  | refine v_ix0 ?_ | refine v_ix1 ?_ | refine v_ix2 ?_ | refine v_zip ?_ | refine v_kZl ?_ | refine v_kZt ?_ | (apply v_augI; · with_unfolding_all exact rfl) | refine v_try ?_ | refine v_isE ?_ | (refine v_kIE ?_ ?_; (· with_unfolding_all exact rfl)) | refine v_isB ?_ | refine v_notB ?_ | refine v_all ?_ | refine v_par3 ?_ | refine v_ifnT ?_ | refine v_ifnF ?_ | refine v_eqs ?_ | refine v_nes ?_ | refine v_rvs ?_ | refine v_kRvl ?_ | refine v_kRvt ?_
  | (refine v_mulb (a := ?a) (b := ?b) ?ha ?hb ?l ?h; (case ha => assumption); (case hb => assumption); (case l => omega)) | (refine v_fdivb (b := ?b) ?h0 ?hb ?l ?h; (case h0 => assumption); (case hb => assumption); (case l => omega)))
/-! ### told polynomials compared -/
theorem eqv_pd {r r' : List Int} {d d' : Int} : (pd r d).eqv (pd r' d') = decide (r = r' ∧ d = d') := by
  show ((D.tup (zz r)).eqv (.tup (zz r')) && ((D.int d).eqv (.int d') && true)) = _
  rw [eqv_row, eqv_int, Bool.and_true, Bool.eq_iff_iff]
  simp
theorem q_pd {n : Nat} {r : List Int} {d : Int} : (pd r d).q (n + 2) = true := by
  simp only [D.q, List.all_cons, List.all_nil, Bool.and_true]
  exact List.all_eq_true.mpr fun x hx => by obtain ⟨i, _, rfl⟩ := List.mem_map.mp hx; exact q_int
section
variable {q : D → Prop} {r r' : List Int} {d d' : Int}
theorem v_eqpd (h : q (.bl (decide (r = r' ∧ d = d')))) : gEq (pd r d) (pd r' d') q := .inl ⟨q_pd, q_pd, by rw [eqv_pd]; exact h⟩
theorem v_nepd (h : q (.bl (!decide (r = r' ∧ d = d')))) : gNe (pd r d) (pd r' d') q := .inl ⟨q_pd, q_pd, by rw [eqv_pd]; exact h⟩
theorem nl_pd : (pd r d).nl = true := by
  show (D.nls (zz r) && true) = true
  rw [nls_ints]; rfl
end
/-! ### content, poly -/
def b_rows_content {M : Type} : DS M :=
    (dThen (dSet 1 (dC (.int 0)))
    (dThen (dFor (dSeq false (dVar 0)) (dgN 2)
      (dSet 1 (dCall s_numbers_common [] (dCons (dVar 1) (dCons (dVar 2) dNil)))))
    (dRet (dVar 1))))

def s_rows_content {M : Type} : DSp M := fun ds m Q Z => ∃ xs, ds = [.tup (zz xs)] ∧ Q (.int (gcdL xs)) m
theorem vc_rows_content {M : Type} : ∀ ds (m : M) Q Z, s_rows_content ds m Q Z → okK [false] ds ∧ b_rows_content { nx := fun _ m' => Q .non m', rt := Q, ex := Z } (st0 [false] ds 3) m := by
  rintro ds m Q Z ⟨xs, rfl, q⟩
  refine ⟨⟨fun _ => nl_row xs, trivial⟩, ?_⟩
  unfold b_rows_content
  repeat walk_at "s"
  refine v_kforZ (fun r ρ m' => m' = m ∧ ∃ (g : Nat) (a2 : Sl), ρ = [.val (.tup (zz xs)), .val (.int g), a2] ∧ r.foldl (fun g x => Int.gcd g x) g = gcdL xs) xs ⟨rfl, 0, _, rfl, rfl⟩ (fun ρ m' h => ?_) fun x r ρ m' h => ?_
  · obtain ⟨rfl, g, _, rfl, e⟩ := h
    repeat walk_at "s"
    rw [← e] at q
    exact q
  · obtain ⟨rfl, g, _, rfl, e⟩ := h
    repeat walk_at "s"
    refine ⟨_, _, rfl, ?_⟩
    repeat walk_at "s"
    exact ⟨rfl, Int.gcd g x, _, rfl, e⟩
def b_polys_poly {M : Type} : DS M :=
    (dThen (dIte (dTst (dBin gEq (dVar 1) (dC (.int 0))))
      (dRaise "ByNought")
      dNext)
    (dThen (dSet 2 (dCall s_numbers_common [] (dCons (dCall s_rows_content [] (dCons (dVar 0) dNil)) (dCons (dVar 1) dNil))))
    (dThen (dSet 2 (dIf (dTst (dBin gGt (dVar 1) (dC (.int 0)))) (dVar 2) (dBin (g0 fun i j => .int (i - j)) (dC (.int 0)) (dVar 2))))
    (dRet (dTup (dCons (dB (gSeq .tup) (dCons (dLc (dSeq false (dVar 0)) (dgN 3) dYes (dBin (gII Nd fun i j => .int (i.fdiv j)) (dVar 3) (dVar 2)) [3]) dNil)) (dCons (dBin (gII Nd fun i j => .int (i.fdiv j)) (dVar 1) (dVar 2)) dNil)))))))

def s_polys_poly {M : Type} : DSp M := fun ds m Q Z => ∃ xs d, ds = [.tup (zz xs), .int d] ∧ xs.length ≤ 1000000 ∧ (d = 0 → Z "ByNought" m) ∧ (d ≠ 0 → Sm xs d ∧ Q (pd (lowR xs d) (lowD xs d)) m)
theorem vc_polys_poly {M : Type} : ∀ ds (m : M) Q Z, s_polys_poly ds m Q Z → okK [false, false] ds ∧ b_polys_poly { nx := fun _ m' => Q .non m', rt := Q, ex := Z } (st0 [false, false] ds 4) m := by
  rintro ds m Q Z ⟨xs, d, rfl, hl, z, q⟩
  refine ⟨⟨fun _ => nl_row xs, fun _ => rfl, trivial⟩, ?_⟩
  unfold b_polys_poly
  repeat walk_at "s"
  refine v_ifd (fun h => ?_) fun h => ?_
  · repeat walk_at "s"
    exact z h
  obtain ⟨hb, q⟩ := q h
  have pn := part_ne (n := (gcdL xs : Int)) h
  have pb := Sm.le hb fun _ z => part_bd (n := (gcdL xs : Int)) h z
  have e1 : 0 < d → (Int.gcd (gcdL xs) d : Int) = part (gcdL xs) d := fun h0 => by unfold part; rw [if_pos h0]
  have e2 : ¬ 0 < d → 0 - (Int.gcd (gcdL xs) d : Int) = part (gcdL xs) d := fun h0 => by unfold part; rw [if_neg h0]
  repeat walk_at "s"
  refine ⟨xs, rfl, ?_⟩
  repeat walk_at "s"
  refine ⟨_, d, rfl, ?_⟩
  repeat walk_at "s"
  refine v_ifd (fun h0 => ?_) fun h0 => ?_
  · repeat walk_at "s"
    rw [e1 h0]
    refine lc_zz (f := fun x => x.fdiv (part (gcdL xs) d)) xs (fun a ha m1 k l hk => ?_) (by omega) ?_
    · repeat walk_at "s"
      refine v_fdivs pn (pb a (List.mem_cons_of_mem _ ha)) ?_
      repeat walk_at "s"
      exact hk
    repeat walk_at "s"
    refine v_fdivs pn (pb d List.mem_cons_self) ?_
    repeat walk_at "s"
    exact q
  · repeat walk_at "s"
    rw [e2 h0]
    refine lc_zz (f := fun x => x.fdiv (part (gcdL xs) d)) xs (fun a ha m1 k l hk => ?_) (by omega) ?_
    · repeat walk_at "s"
      refine v_fdivs pn (pb a (List.mem_cons_of_mem _ ha)) ?_
      repeat walk_at "s"
      exact hk
    repeat walk_at "s"
    refine v_fdivs pn (pb d List.mem_cons_self) ?_
    repeat walk_at "s"
    exact q
def b__law_poly {M : Type} : DS M :=
    (dThen (dSet 2 (dIf (dTst (dBin gNe (dVar 0) (dTup dNil))) (dCall s__law_common [] (dCons (dBin gAdd (dB (gSeq .lst) (dCons (dVar 0) dNil)) (dLst (dCons (dVar 1) dNil))) dNil)) (dB (gI1 iabs) (dCons (dVar 1) dNil))))
    (dThen (dSet 2 (dIf (dTst (dBin gGt (dVar 1) (dC (.int 0)))) (dVar 2) (dBin (g0 fun i j => .int (i - j)) (dC (.int 0)) (dVar 2))))
    (dRet (dTup (dCons (dB (gSeq .tup) (dCons (dLc (dSeq false (dVar 0)) (dgN 3) dYes (dBin (gII Nd fun i j => .int (i.fdiv j)) (dVar 3) (dVar 2)) [3]) dNil)) (dCons (dBin (gII Nd fun i j => .int (i.fdiv j)) (dVar 1) (dVar 2)) dNil))))))

def s__law_poly {M : Type} : DSp M := fun ds m Q Z => ∃ xs d, ds = [.tup (zz xs), .int d] ∧ xs.length ≤ 1000000 ∧ d ≠ 0 ∧ Sm xs d ∧ Q (pd (lowR xs d) (lowD xs d)) m
theorem gcdL_snoc (xs : List Int) (d : Int) : gcdL (xs ++ [d]) = Int.gcd (gcdL xs) d := by
  unfold gcdL; rw [List.foldl_append]; rfl
theorem vc__law_poly {M : Type} : ∀ ds (m : M) Q Z, s__law_poly ds m Q Z → okK [false, false] ds ∧ b__law_poly { nx := fun _ m' => Q .non m', rt := Q, ex := Z } (st0 [false, false] ds 4) m := by
  rintro ds m Q Z ⟨xs, d, rfl, hl, h, hb, q⟩
  refine ⟨⟨fun _ => nl_row xs, fun _ => rfl, trivial⟩, ?_⟩
  unfold b__law_poly
  have pn := part_ne (n := (gcdL xs : Int)) h
  have pb := Sm.le hb fun _ z => part_bd (n := (gcdL xs : Int)) h z
  have e1 : 0 < d → (Int.gcd (gcdL xs) d : Int) = part (gcdL xs) d := fun h0 => by unfold part; rw [if_pos h0]
  have e2 : ¬ 0 < d → 0 - (Int.gcd (gcdL xs) d : Int) = part (gcdL xs) d := fun h0 => by unfold part; rw [if_neg h0]
  have fin : ∀ a2 a3 : Sl, (dThen (dSet 2 (dIf (dTst (dBin gGt (dVar 1) (dC (.int 0)))) (dVar 2) (dBin (g0 fun i j => .int (i - j)) (dC (.int 0)) (dVar 2))))
    (dRet (dTup (dCons (dB (gSeq .tup) (dCons (dLc (dSeq false (dVar 0)) (dgN 3) dYes (dBin (gII Nd fun i j => .int (i.fdiv j)) (dVar 3) (dVar 2)) [3]) dNil)) (dCons (dBin (gII Nd fun i j => .int (i.fdiv j)) (dVar 1) (dVar 2)) dNil)))) : DS M)
      { nx := fun _ m' => Q .non m', rt := Q, ex := Z } [.val (.tup (zz xs)), .val (.int d), .val (.int (Int.gcd (gcdL xs) d)), a3] m := fun a2 a3 => by
    repeat walk_at "s"
    refine v_ifd (fun h0 => ?_) fun h0 => ?_
    · repeat walk_at "s"
      rw [e1 h0]
      refine lc_zz (f := fun x => x.fdiv (part (gcdL xs) d)) xs (fun a ha m1 k l hk => ?_) (by omega) ?_
      · repeat walk_at "s"
        refine v_fdivs pn (pb a (List.mem_cons_of_mem _ ha)) ?_
        repeat walk_at "s"
        exact hk
      repeat walk_at "s"
      refine v_fdivs pn (pb d List.mem_cons_self) ?_
      repeat walk_at "s"
      exact q
    · repeat walk_at "s"
      rw [e2 h0]
      refine lc_zz (f := fun x => x.fdiv (part (gcdL xs) d)) xs (fun a ha m1 k l hk => ?_) (by omega) ?_
      · repeat walk_at "s"
        refine v_fdivs pn (pb a (List.mem_cons_of_mem _ ha)) ?_
        repeat walk_at "s"
        exact hk
      repeat walk_at "s"
      refine v_fdivs pn (pb d List.mem_cons_self) ?_
      repeat walk_at "s"
      exact q
  repeat walk_at "s"
  refine v_ifn (fun h0 => ?_) fun h0 => ?_
  · repeat walk_at "s"
    refine v_addlz (ys := [d]) (by simp; omega) ?_
    repeat walk_at "s"
    refine ⟨_, rfl, ?_⟩
    rw [gcdL_snoc]
    exact fin .un .un
  · repeat walk_at "s"
    subst h0
    have := fin .un .un
    rw [show ((Int.gcd (gcdL []) d : Nat) : Int) = iabs d by rw [iabs_eq]; unfold gcdL; simp] at this
    exact this
/-! ### sums, products by the law -/
theorem times_P {f g : Ser Rat} {r r' s : List Int} {d d' : Int} (hf : P f r d) (hg : P g r' d') (hs : ser s = ser r * ser r') : Ser.C ((d * d' : Int) : Rat) * (f * g) = qs (ser s) := by
  have e1 := hf.eq
  have e2 := hg.eq
  rw [hs, qs_mul, ← e1, ← e2, Rat.intCast_mul, C_mul]
  grind
/-! ### drawn ones -/
def b__law_drawn : DS (Option Nat) :=
    (dRet (dCall s__law_poly [] (dCons (dCall s__law_row [] (dCons (dVar 0) (dCons (dVar 1) dNil))) (dCons (dBin (gIx false) (dLst (dCons (dC (.int 1)) (dCons (dC (.int 1)) (dCons (dC (.int 2)) (dCons (dC (.int 6)) (dCons (dBin gAdd (dC (.int 1)) (dCall s__law_draw [] (dCons (dVar 0) (dCons (dC (.int 1000)) dNil)))) dNil)))))) (dCall s__law_draw [] (dCons (dVar 0) (dCons (dC (.int 5)) dNil)))) dNil))))

def s__law_drawn : DSp (Option Nat) := fun ds m Q Z => ∃ (N : Nat) (most : Int), ds = [.hnd hdl, .int most] ∧ m = some N ∧ 0 ≤ most ∧ most ≤ 1000 ∧ 2 * most + 3 ≤ N ∧
  ∀ (f : Ser Rat) (r : List Int) (d : Int) (N' : Nat), P f r d → PB most.toNat 201 r d → N - (2 * most + 3) ≤ N' → Q (pd r d) (some N')
theorem ser_of {xs : List Int} {d : Int} (hd : d ≠ 0) : Ser.C (d : Rat) * (Ser.C (d : Rat)⁻¹ * qs (ser xs)) = qs (ser xs) := by
  rw [← Lean.Grind.Semiring.mul_assoc, C_inv (cne hd), Lean.Grind.Semiring.one_mul]
theorem vc__law_drawn : ∀ ds (m : Option Nat) Q Z, s__law_drawn ds m Q Z → okK [false, false] ds ∧ b__law_drawn { nx := fun _ m' => Q .non m', rt := Q, ex := Z } (st0 [false, false] ds 2) m := by
  rintro ds m Q Z ⟨N, most, rfl, rfl, h0, h1, hN, q⟩
  refine ⟨⟨fun _ => rfl, fun _ => rfl, trivial⟩, ?_⟩
  unfold b__law_drawn
  repeat walk_at "s"
  refine ⟨N, most, rfl, rfl, h0, h1, by omega, fun xs N1 dx lx bx hN1 => ?_⟩
  repeat walk_at "s"
  refine v_drawN (by omega) (by decide) (by decide) fun a ha0 ha1 => ?_
  repeat walk_at "s"
  refine v_drawN (by omega) (by decide) (by decide) fun c hc0 hc1 => ?_
  refine v_ixl (xs := [1, 1, 2, 6, 1 + a]) hc0 hc1 ?_
  have hm : ∀ s ∈ [1, 1, 2, 6, 1 + a], (1 : Int) ≤ s ∧ s ≤ 1000 := by
    intro s hs; simp at hs; rcases hs with rfl | rfl | rfl | rfl <;> omega
  obtain ⟨d1, d2⟩ := hm _ (nth_mem hc0 hc1)
  generalize nth [1, 1, 2, 6, 1 + a] c = d at d1 d2 ⊢
  have bd_ : bd 201 d := by
    have : (1000 : Int) < 2 ^ 201 := by decide
    unfold bd; omega
  have d0 : d ≠ 0 := by omega
  repeat walk_at "s"
  refine ⟨xs, d, rfl, by omega, d0, .inl (bd_mono bd_ (by decide)), ?_⟩
  have hP := low_P d0 dx (ser_of d0)
  exact q _ _ _ _ hP (hP.PB d0 (ser_of d0) (by omega) bx bd_) (by omega)
end RR

/-! VQ: quotients and rests -/
namespace RR
open PySem PySem.Spec PyProof.Rows L2
local macro_rules | `(tactic| walk_at "bd") => `(tactic| first | assumption | exact bd_lit (by decide) | (with_reducible refine bd_mul ?_ ?_ <;> walk_at "bd") | (with_reducible refine bd_add ?_ ?_ <;> walk_at "bd") | (with_reducible refine bd_sub ?_ ?_ <;> walk_at "bd") | (with_reducible refine bd_neg ?_ <;> walk_at "bd"))
local macro_rules | `(tactic| walk_at "s") => `(tactic| with_reducible first
  | refine v_then ?_ | refine v_set ?_ | (apply v_var; · with_unfolding_all exact rfl) | refine v_bin ?_ | refine v_c ?_ | refine v_g0 ?_ | refine v_add ?_ | refine v_cons ?_ | refine v_nil ?_ | refine v_call ?_ | refine v_dB ?_ | refine v_next ?_ | refine v_ret ?_
  | refine v_ite ?_ | refine v_tst ?_ | refine v_kT ?_ | refine v_eqi ?_ | refine v_nei ?_ | refine v_eqr ?_ | refine v_ner ?_ | refine v_eqr0 ?_ | refine v_ner0 ?_ | refine v_eql ?_ | refine v_nel ?_ | refine v_eql0 ?_ | refine v_nel0 ?_ | refine v_isN ?_ | refine v_notN ?_
  | (apply v_bor; · with_unfolding_all exact rfl) | (apply v_own; · with_unfolding_all exact rfl) | refine v_tup ?_ | refine v_lst ?_ | (refine v_sz ?_ ?_; (· with_unfolding_all exact Nat.le_of_ble_eq_true rfl)) | (refine v_gIIz ?_ ?_; (· first | decide | omega))
  | refine v_lentz ?_ | refine v_lenlz ?_ | refine v_lent ?_ | refine v_lenl ?_ | refine v_I1 ?_ | refine v_I2 ?_ | refine v_int ?_ | refine v_seqlz ?_ | refine v_seqtz ?_ | refine v_sl ?_ | refine v_kSll ?_ | refine v_kSlt ?_ | refine v_ono ?_ | refine v_oso ?_ | refine v_kOS ?_
  | refine v_val ?_ | refine v_kVb ?_ | refine v_kVi ?_ | refine v_kVt ?_ | refine v_kVl ?_ | refine v_and ?_ | refine v_or ?_ | refine v_not ?_ | refine v_yes ?_ | refine v_if' ?_ | refine v_isi ?_ | refine v_kIii ?_ | refine v_kIib ?_ | refine v_kItt ?_
  | refine v_andV ?_ | refine v_orV ?_ | refine v_notV ?_ | refine v_kNV ?_ | refine v_neg ?_ | refine v_kNeg ?_ | refine v_seq ?_ | refine v_kSeql ?_ | refine v_kSeqt ?_ | refine v_rng1 ?_ | refine v_rng2 ?_ | refine v_enum ?_ | refine v_revr ?_ | refine v_rev ?_
  | (refine v_kR1 ?_ ?_ ?_; (· decide); (· decide))
  | (refine v_kR2 ?_ ?_ ?_ ?_ ?_; (· decide); (· decide); (· decide); (· decide))
  | refine v_gn ?_ | refine v_gt2 ?_ | refine v_gt3 ?_ | refine v_lc ?_ | refine v_for ?_ | refine v_setO ?_ | refine v_drop ?_ | (apply v_app; · with_unfolding_all exact rfl) | (apply v_setI; · with_unfolding_all exact rfl) | (apply v_rel; · with_unfolding_all exact rfl) | refine v_raise ?_ | refine v_par ?_ | refine v_kP ?_ | refine v_asg ?_
  | (apply v_aug; · with_unfolding_all exact rfl) | refine v_ifT ?_ | refine v_ifF ?_ | (refine v_pow ?_ ?_ ?_ ?_; (· decide); (· decide); (· decide)) | refine v_call0 ?_ | (apply v_lenr; · assumption) | (apply v_seqr; · assumption) | (apply v_kSeqr; · assumption) | (apply v_kSlr; · assumption)
  | refine v_ix0 ?_ | refine v_ix1 ?_ | refine v_ix2 ?_ | refine v_zip ?_ | refine v_kZl ?_ | refine v_kZt ?_ | (apply v_augI; · with_unfolding_all exact rfl) | refine v_try ?_ | refine v_isE ?_ | (refine v_kIE ?_ ?_; (· with_unfolding_all exact rfl)) | refine v_isB ?_ | refine v_notB ?_ | refine v_all ?_ | refine v_par3 ?_ | refine v_ifnT ?_ | refine v_ifnF ?_ | refine v_eqs ?_ | refine v_nes ?_ | refine v_rvs ?_ | refine v_kRvl ?_ | refine v_kRvt ?_
  | (refine v_mulb (a := ?a) (b := ?b) ?ha ?hb ?l ?h; (case ha => assumption); (case hb => assumption); (case l => omega)) | (refine v_fdivb (b := ?b) ?h0 ?hb ?l ?h; (case h0 => assumption); (case hb => assumption); (case l => omega)))
/-- any row -/
theorem row_of {n : Nat} {f : Ser Int} (h : far n f) : ∃ xs : List Int, xs.length = n ∧ ser xs = f := by
  refine ⟨(List.range n).map f.co, by simp, Ser.ext fun k => ?_⟩
  rw [ser_co, List.getD_eq_getElem?_getD, List.getElem?_map]
  by_cases hk : k < n
  · rw [List.getElem?_range hk]; rfl
  · rw [List.getElem?_eq_none (by simp; omega), h k (by omega)]; rfl
/-- a told product's size -/
theorem PB.prod {f g : Ser Rat} {r r' s : List Int} {d d' e : Int} {n a n' b : Nat} (h : P (f * g) s e) (hf : P f r d) (hg : P g r' d') (pf : PB n a r d) (pg : PB n' b r' d') : PB (n + n') (a + b + n) s e := by
  have hB := (B.of pf.ln pf.bd).mul (B.of pg.ln pg.bd)
  obtain ⟨xs, lx, ex⟩ := row_of (f := ser r * ser r') hB.far
  have := hf.pos
  have := hg.pos
  refine h.PB (Int.mul_ne_zero (by omega) (by omega)) (times_P hf hg ex) (by omega) (fun x hx => ?_) (bd_mono (bd_mul pf.dd pg.dd) (by omega))
  obtain ⟨i, hi, rfl⟩ := List.mem_iff_getElem.mp hx
  have := hB.bd i
  rw [← ex, ser_co, List.getD_eq_getElem?_getD, List.getElem?_eq_getElem hi] at this
  exact this
theorem P.int {f : Ser Int} {r : List Int} (h : R f r) : P (qs f) r 1 := ⟨by decide, h.dn, Int.gcd_one, by rw [h.sr, show ((1 : Int) : Rat) = 1 from rfl, C_one]; grind⟩
theorem PB.dec {n a : Nat} {r : List Int} {d : Int} (h : (decide (r.length ≤ n) && r.all (fun x => decide (x.natAbs < 2 ^ a)) && decide (d.natAbs < 2 ^ a)) = true) : PB n a r d := by
  simp only [Bool.and_eq_true, List.all_eq_true, decide_eq_true_eq] at h
  exact ⟨h.1.1, fun x hx => h.1.2 x hx, h.2⟩
end RR

/-! V05: polynomials reckoned (law k05) -/
namespace RR
open PySem PySem.Spec PyProof.Rows L2
local macro_rules | `(tactic| walk_at "bd") => `(tactic| first | assumption | exact bd_lit (by decide) | (with_reducible refine bd_mul ?_ ?_ <;> walk_at "bd") | (with_reducible refine bd_add ?_ ?_ <;> walk_at "bd") | (with_reducible refine bd_sub ?_ ?_ <;> walk_at "bd") | (with_reducible refine bd_neg ?_ <;> walk_at "bd"))
local macro_rules | `(tactic| walk_at "s") => `(tactic| with_reducible first
  | refine v_then ?_ | refine v_set ?_ | (apply v_var; · with_unfolding_all exact rfl) | refine v_bin ?_ | refine v_c ?_ | refine v_g0 ?_ | refine v_add ?_ | refine v_cons ?_ | refine v_nil ?_ | refine v_call ?_ | refine v_dB ?_ | refine v_next ?_ | refine v_ret ?_
  | refine v_ite ?_ | refine v_tst ?_ | refine v_kT ?_ | refine v_eqi ?_ | refine v_nei ?_ | refine v_eqr ?_ | refine v_ner ?_ | refine v_eqr0 ?_ | refine v_ner0 ?_ | refine v_eql ?_ | refine v_nel ?_ | refine v_eql0 ?_ | refine v_nel0 ?_ | refine v_isN ?_ | refine v_notN ?_
  | (apply v_bor; · with_unfolding_all exact rfl) | (apply v_own; · with_unfolding_all exact rfl) | refine v_tup ?_ | refine v_lst ?_ | (refine v_sz ?_ ?_; (· with_unfolding_all exact Nat.le_of_ble_eq_true rfl)) | (refine v_gIIz ?_ ?_; (· first | decide | omega))
  | refine v_lentz ?_ | refine v_lenlz ?_ | refine v_lent ?_ | refine v_lenl ?_ | refine v_I1 ?_ | refine v_I2 ?_ | refine v_int ?_ | refine v_seqlz ?_ | refine v_seqtz ?_ | refine v_sl ?_ | refine v_kSll ?_ | refine v_kSlt ?_ | refine v_ono ?_ | refine v_oso ?_ | refine v_kOS ?_
  | refine v_val ?_ | refine v_kVb ?_ | refine v_kVi ?_ | refine v_kVt ?_ | refine v_kVl ?_ | refine v_and ?_ | refine v_or ?_ | refine v_not ?_ | refine v_yes ?_ | refine v_if' ?_ | refine v_isi ?_ | refine v_kIii ?_ | refine v_kIib ?_ | refine v_kItt ?_
  | refine v_andV ?_ | refine v_orV ?_ | refine v_notV ?_ | refine v_kNV ?_ | refine v_neg ?_ | refine v_kNeg ?_ | refine v_seq ?_ | refine v_kSeql ?_ | refine v_kSeqt ?_ | refine v_rng1 ?_ | refine v_rng2 ?_ | refine v_enum ?_ | refine v_revr ?_ | refine v_rev ?_
  | (refine v_kR1 ?_ ?_ ?_; (· decide); (· decide))
  | (refine v_kR2 ?_ ?_ ?_ ?_ ?_; (· decide); (· decide); (· decide); (· decide))
  | refine v_gn ?_ | refine v_gt2 ?_ | refine v_gt3 ?_ | refine v_lc ?_ | refine v_for ?_ | refine v_setO ?_ | refine v_drop ?_ | (apply v_app; · with_unfolding_all exact rfl) | (apply v_setI; · with_unfolding_all exact rfl) | (apply v_rel; · with_unfolding_all exact rfl) | refine v_raise ?_ | refine v_par ?_ | refine v_kP ?_ | refine v_asg ?_
  | (apply v_aug; · with_unfolding_all exact rfl) | refine v_ifT ?_ | refine v_ifF ?_ | (refine v_pow ?_ ?_ ?_ ?_; (· decide); (· decide); (· decide)) | refine v_call0 ?_ | (apply v_lenr; · assumption) | (apply v_seqr; · assumption) | (apply v_kSeqr; · assumption) | (apply v_kSlr; · assumption)
  | refine v_ix0 ?_ | refine v_ix1 ?_ | refine v_ix2 ?_ | refine v_zip ?_ | refine v_kZl ?_ | refine v_kZt ?_ | (apply v_augI; · with_unfolding_all exact rfl) | refine v_try ?_ | refine v_isE ?_ | (refine v_kIE ?_ ?_; (· with_unfolding_all exact rfl)) | refine v_isB ?_ | refine v_notB ?_ | refine v_all ?_ | refine v_par3 ?_ | refine v_ifnT ?_ | refine v_ifnF ?_ | refine v_eqs ?_ | refine v_nes ?_ | refine v_rvs ?_ | refine v_kRvl ?_ | refine v_kRvt ?_
  | (refine v_mulb (a := ?a) (b := ?b) ?ha ?hb ?l ?h; (case ha => assumption); (case hb => assumption); (case l => omega)) | (refine v_fdivb (b := ?b) ?h0 ?hb ?l ?h; (case h0 => assumption); (case hb => assumption); (case l => omega)))
def b_rows_scaled {M : Type} : DS M :=
    (dRet (dCall s_rows_row_of [] (dCons (dLc (dSeq false (dVar 0)) (dgN 2) dYes (dBin gMul (dVar 1) (dVar 2)) [2]) dNil)))

def s_rows_scaled {M : Type} : DSp M := fun ds m Q Z => ∃ xs k a b, ds = [.tup (zz xs), .int k] ∧ xs.length ≤ 1000000 ∧ (∀ x ∈ xs, bd a x) ∧ bd b k ∧ a + b ≤ 100000000 ∧ ∀ r, R (Ser.C k * ser xs) r → Q (.tup (zz r)) m
theorem vc_rows_scaled {M : Type} : ∀ ds (m : M) Q Z, s_rows_scaled ds m Q Z → okK [false, false] ds ∧ b_rows_scaled { nx := fun _ m' => Q .non m', rt := Q, ex := Z } (st0 [false, false] ds 3) m := by
  rintro ds m Q Z ⟨xs, k, a, b, rfl, hl, hx, hk, hab, q⟩
  refine ⟨⟨fun _ => nl_row xs, fun _ => rfl, trivial⟩, ?_⟩
  unfold b_rows_scaled
  repeat walk_at "s"
  refine lc_zz (f := fun x => k * x) xs (fun x hx' m1 k l hk => ?_) (by omega) ?_
  · have bx := hx x hx'
    repeat walk_at "s"
    exact hk
  repeat walk_at "s"
  refine ⟨_, _, rfl, isRow_l, by rw [List.length_map]; omega, fun r hr => q r ?_⟩
  rw [ser_scale] at hr
  exact hr
def b_polys_plus {M : Type} : DS M :=
    (dRet (dCall s_polys_poly [] (dCons (dCall s_rows_plus [] (dCons (dCall s_rows_scaled [] (dCons (dBin (gIx false) (dVar 0) (dC (.int 0))) (dCons (dBin (gIx false) (dVar 1) (dC (.int 1))) dNil))) (dCons (dCall s_rows_scaled [] (dCons (dBin (gIx false) (dVar 1) (dC (.int 0))) (dCons (dBin (gIx false) (dVar 0) (dC (.int 1))) dNil))) dNil))) (dCons (dBin gMul (dBin (gIx false) (dVar 0) (dC (.int 1))) (dBin (gIx false) (dVar 1) (dC (.int 1)))) dNil))))

def s_polys_plus {M : Type} : DSp M := fun ds m Q Z => ∃ f g r d r' d' n a n' b, ds = [pd r d, pd r' d'] ∧ P f r d ∧ P g r' d' ∧ PB n a r d ∧ PB n' b r' d' ∧ n ≤ 1000000 ∧ n' ≤ 1000000 ∧ a + b ≤ 13399 ∧
  ∀ r'' d'', P (f + g) r'' d'' → PB (max n n') (a + b + 1) r'' d'' → Q (pd r'' d'') m
theorem vc_polys_plus {M : Type} : ∀ ds (m : M) Q Z, s_polys_plus ds m Q Z → okK [false, false] ds ∧ b_polys_plus { nx := fun _ m' => Q .non m', rt := Q, ex := Z } (st0 [false, false] ds 2) m := by
  rintro ds m Q Z ⟨f, g, r, d, r', d', n, a, n', b, rfl, hf, hg, pf, pg, hn, hn', hab, q⟩
  refine ⟨⟨fun _ => nl_pd, fun _ => nl_pd, trivial⟩, ?_⟩
  unfold b_polys_plus
  have ln := pf.ln
  have ln' := pg.ln
  have bd1 := pf.dd
  have bd2 := pg.dd
  repeat walk_at "s"
  refine ⟨r, d', a, b, rfl, by omega, pf.bd, bd2, by omega, fun s1 hs1 => ?_⟩
  have B1 : B n (a + b) (ser s1) := by rw [hs1.sr]; exact (B.scale bd2 (B.of ln pf.bd)).mono (Nat.le_refl _) (by omega)
  have l1 := (R.mk hs1.dn rfl).len B1
  repeat walk_at "s"
  refine ⟨r', d, b, a, rfl, by omega, pg.bd, bd1, by omega, fun s2 hs2 => ?_⟩
  have B2 : B n' (a + b) (ser s2) := by rw [hs2.sr]; exact B.scale bd1 (B.of ln' pg.bd)
  have l2 := (R.mk hs2.dn rfl).len B2
  repeat walk_at "s"
  refine ⟨s1, s2, rfl, by omega, by omega, fun s hs => ?_⟩
  have dp := hf.pos
  have dp' := hg.pos
  have d0 : d * d' ≠ 0 := Int.mul_ne_zero (by omega) (by omega)
  have eq : Ser.C ((d * d' : Int) : Rat) * (f + g) = qs (ser s) := by
    have e1 := hf.eq
    have e2 := hg.eq
    rw [hs.sr, hs1.sr, hs2.sr, qs_add, qs_mul, qs_mul, qs_C, qs_C, ← e1, ← e2, Rat.intCast_mul, C_mul]
    grind
  have sB : B (max n n') (a + b + 1) (ser s) := by
    rw [hs.sr]
    exact (B1.add B2).mono (Nat.le_refl _) (by omega)
  have ls : s.length ≤ max n n' := (R.mk hs.dn rfl).len sB
  repeat walk_at "s"
  refine ⟨s, d * d', rfl, by omega, fun z => absurd z d0, fun _ => ⟨Sm.of (bd_mul bd1 bd2) ((R.mk hs.dn rfl).bds sB) (by omega), ?_⟩⟩
  have hP := low_P d0 hs.dn eq
  exact q _ _ hP (hP.PB d0 eq ls ((R.mk hs.dn rfl).bds sB) (bd_mono (bd_mul bd1 bd2) (by omega)))
def b_polys_scaled {M : Type} : DS M :=
    (dRet (dCall s_polys_poly [] (dCons (dCall s_rows_scaled [] (dCons (dBin (gIx false) (dVar 0) (dC (.int 0))) (dCons (dBin (gIx false) (dVar 1) (dC (.int 0))) dNil))) (dCons (dBin gMul (dBin (gIx false) (dVar 0) (dC (.int 1))) (dBin (gIx false) (dVar 1) (dC (.int 1)))) dNil))))

/-- scaled by u / v, as lowR, lowD tell it -/
def s_polys_scaled {M : Type} : DSp M := fun ds m Q Z => ∃ f r d u v n a b, ds = [pd r d, .tup [.int u, .int v]] ∧ v ≠ 0 ∧ P f r d ∧ PB n a r d ∧ n ≤ 1000000 ∧ bd b u ∧ bd b v ∧ a + b ≤ 13400 ∧
  ∀ s, R (Ser.C u * ser r) s → (∀ g, Ser.C (v : Rat) * g = Ser.C (u : Rat) * f → P g (lowR s (d * v)) (lowD s (d * v))) → PB n (a + b) (lowR s (d * v)) (lowD s (d * v)) → Q (pd (lowR s (d * v)) (lowD s (d * v))) m
theorem vc_polys_scaled {M : Type} : ∀ ds (m : M) Q Z, s_polys_scaled ds m Q Z → okK [false, false] ds ∧ b_polys_scaled { nx := fun _ m' => Q .non m', rt := Q, ex := Z } (st0 [false, false] ds 2) m := by
  rintro ds m Q Z ⟨f, r, d, u, v, n, a, b, rfl, v0, hf, pf, hn, hu, hv, hab, q⟩
  refine ⟨⟨fun _ => nl_pd, fun _ => rfl, trivial⟩, ?_⟩
  unfold b_polys_scaled
  have ln := pf.ln
  have bd1 := pf.dd
  repeat walk_at "s"
  refine ⟨r, u, a, b, rfl, by omega, pf.bd, hu, by omega, fun s hs => ?_⟩
  have sB : B n (a + b) (ser s) := by rw [hs.sr]; exact (B.scale hu (B.of ln pf.bd)).mono (Nat.le_refl _) (by omega)
  have ls := (R.mk hs.dn rfl).len sB
  have dp := hf.pos
  have d0 : d * v ≠ 0 := Int.mul_ne_zero (by omega) v0
  repeat walk_at "s"
  refine ⟨s, d * v, rfl, by omega, fun z => absurd z d0, fun _ => ⟨Sm.of (bd_mul bd1 hv) ((R.mk hs.dn rfl).bds sB) (by omega), ?_⟩⟩
  refine q s hs (fun g hg => low_P d0 hs.dn ?_) ⟨by rw [lowR_len]; exact ls, lowR_bd d0 ((R.mk hs.dn rfl).bds sB), lowD_bd d0 (bd_mul bd1 hv)⟩
  have e1 := hf.eq
  rw [hs.sr, qs_mul, qs_C, ← e1, Rat.intCast_mul, C_mul]
  grind
def s_polys_less {M : Type} : DSp M := fun ds m Q Z => ∃ f g r d r' d' n a n' b, ds = [pd r d, pd r' d'] ∧ P f r d ∧ P g r' d' ∧ PB n a r d ∧ PB n' b r' d' ∧ n ≤ 1000000 ∧ n' ≤ 1000000 ∧ a + b ≤ 13000 ∧
  ∀ r'' d'', P (f - g) r'' d'' → PB (max n n') (a + b + 2) r'' d'' → Q (pd r'' d'') m
def b_polys_times {M : Type} : DS M :=
    (dRet (dCall s_polys_poly [] (dCons (dCall s_rows_times [] (dCons (dBin (gIx false) (dVar 0) (dC (.int 0))) (dCons (dBin (gIx false) (dVar 1) (dC (.int 0))) dNil))) (dCons (dBin gMul (dBin (gIx false) (dVar 0) (dC (.int 1))) (dBin (gIx false) (dVar 1) (dC (.int 1)))) dNil))))

def s_polys_times {M : Type} : DSp M := fun ds m Q Z => ∃ f g r d r' d' n a n' b, ds = [pd r d, pd r' d'] ∧ P f r d ∧ P g r' d' ∧ PB n a r d ∧ PB n' b r' d' ∧ n ≤ 100000 ∧ n' ≤ 100000 ∧ (a + b ≤ 9000 ∨ a + b + n ≤ 13400) ∧
  ∀ r'' d'', P (f * g) r'' d'' → PB (n' + n) (b + a + n') r'' d'' → Q (pd r'' d'') m
theorem vc_polys_times {M : Type} : ∀ ds (m : M) Q Z, s_polys_times ds m Q Z → okK [false, false] ds ∧ b_polys_times { nx := fun _ m' => Q .non m', rt := Q, ex := Z } (st0 [false, false] ds 2) m := by
  rintro ds m Q Z ⟨f, g, r, d, r', d', n, a, n', b, rfl, hf, hg, pf, pg, hn, hn', hab, q⟩
  refine ⟨⟨fun _ => nl_pd, fun _ => nl_pd, trivial⟩, ?_⟩
  unfold b_polys_times
  have ln := pf.ln
  have ln' := pg.ln
  have bd1 := pf.dd
  have bd2 := pg.dd
  repeat walk_at "s"
  refine ⟨r, r', a, b, rfl, by omega, by omega, pf.bd, pg.bd, by omega, fun s hs => ?_⟩
  have dp := hf.pos
  have dp' := hg.pos
  have d0 : d * d' ≠ 0 := Int.mul_ne_zero (by omega) (by omega)
  have eq := times_P hf hg hs.sr
  have sB : B (n + n') (a + b + n) (ser s) := by
    rw [hs.sr]
    exact (B.of (n := n) ln pf.bd).mul (B.of (n := n') ln' pg.bd)
  have ls : s.length ≤ n + n' := (R.mk hs.dn rfl).len sB
  repeat walk_at "s"
  refine ⟨s, d * d', rfl, by omega, fun z => absurd z d0, fun _ => ⟨Sm.of (bd_mul bd1 bd2) ((R.mk hs.dn rfl).bds sB) (by omega), ?_⟩⟩
  have hP := low_P d0 hs.dn eq
  exact q _ _ hP (PB.prod (hP.cong (by grind)) hg hf pg pf)
def b_polys_power {M : Type} : DS M :=
    (dThen (dSet 2 (dC (.tup [(.tup [(.int 1)]), (.int 1)])))
    (dThen (dFor (dRng1 (dCons (dVar 1) dNil)) (dgN 3)
      (dSet 2 (dCall s_polys_times [] (dCons (dVar 2) (dCons (dVar 0) dNil)))))
    (dRet (dVar 2))))

def s_polys_power {M : Type} : DSp M := fun ds m Q Z => ∃ f r d n a, ∃ k : Nat, ds = [pd r d, .int k] ∧ P f r d ∧ PB n a r d ∧ k * n + n ≤ 90000 ∧ k * (a + n) + a + 1 ≤ 9000 ∧ k ≤ 1000 ∧
  ∀ r'' d'', P (f ^ k) r'' d'' → PB (k * n + 1) (k * (a + n) + 1) r'' d'' → Q (pd r'' d'') m
theorem P.one : P 1 [1] 1 := (P.int (r := [1]) ⟨rfl, by
  rw [ser_cons, ser_nil, C_one]
  exact (by grind : (1 : Ser Int) + xp 1 * 0 = 1)⟩).cong qs_one
theorem PB.one : PB 1 1 [1] 1 := PB.dec (by decide)
theorem pow_next {f : Ser Rat} {r r1 s : List Int} {d d1 e : Int} {n a k : Nat} (hf : P f r d) (pf : PB n a r d) (h : P (f ^ k) r1 d1) (p : PB (k * n + 1) (k * (a + n) + 1) r1 d1) (h2 : P (f ^ k * f) s e) : P (f ^ (k + 1)) s e ∧ PB ((k + 1) * n + 1) ((k + 1) * (a + n) + 1) s e := by
  refine ⟨h2.cong (Lean.Grind.Semiring.pow_succ f k).symm, ?_⟩
  refine (PB.prod (h2.cong (by grind)) hf h pf p).mono ?_ ?_
  · rw [Nat.succ_mul]; omega
  · rw [Nat.succ_mul]; omega
theorem vc_polys_power {M : Type} : ∀ ds (m : M) Q Z, s_polys_power ds m Q Z → okK [false, false] ds ∧ b_polys_power { nx := fun _ m' => Q .non m', rt := Q, ex := Z } (st0 [false, false] ds 4) m := by
  rintro ds m Q Z ⟨f, r, d, n, a, k, rfl, hf, pf, h1, h2, hk, q⟩
  refine ⟨⟨fun _ => nl_pd, fun _ => rfl, trivial⟩, ?_⟩
  unfold b_polys_power
  repeat walk_at "s"
  refine v_kR1 (by omega) (by omega) ?_
  rw [Int.toNat_natCast]
  refine v_kforR k (fun j ρ m' => m' = m ∧ ∃ r1 d1 a3, ρ = [.val (pd r d), .val (.int k), .val (pd r1 d1), a3] ∧ P (f ^ j) r1 d1 ∧ PB (j * n + 1) (j * (a + n) + 1) r1 d1) ⟨rfl, [1], 1, _, rfl, by rw [Lean.Grind.Semiring.pow_zero]; exact P.one, by simpa using PB.one⟩ (fun ρ m' h => ?_) fun j ρ m' hj h => ?_
  · obtain ⟨rfl, r1, d1, _, rfl, hp, pp⟩ := h
    repeat walk_at "s"
    exact q r1 d1 hp pp
  · obtain ⟨rfl, r1, d1, _, rfl, hp, pp⟩ := h
    have l1 : j * n ≤ k * n := Nat.mul_le_mul_right n (by omega)
    have l2 : j * (a + n) ≤ k * (a + n) := Nat.mul_le_mul_right _ (by omega)
    repeat walk_at "s"
    refine ⟨_, f, r1, d1, r, d, _, _, n, a, rfl, hp, hf, pp, pf, by omega, by omega, by omega, fun r2 d2 h3 _ => ?_⟩
    obtain ⟨h4, p4⟩ := pow_next hf pf hp pp h3
    repeat walk_at "s"
    exact ⟨rfl, r2, d2, _, rfl, h4, p4⟩
end RR

/-! V05b: derived, monic, is_poly -/
namespace RR
open PySem PySem.Spec PyProof.Rows L2
local macro_rules | `(tactic| walk_at "bd") => `(tactic| first | assumption | exact bd_lit (by decide) | (with_reducible refine bd_mul ?_ ?_ <;> walk_at "bd") | (with_reducible refine bd_add ?_ ?_ <;> walk_at "bd") | (with_reducible refine bd_sub ?_ ?_ <;> walk_at "bd") | (with_reducible refine bd_neg ?_ <;> walk_at "bd"))
local macro_rules | `(tactic| walk_at "s") => `(tactic| with_reducible first
  | refine v_then ?_ | refine v_set ?_ | (apply v_var; · with_unfolding_all exact rfl) | refine v_bin ?_ | refine v_c ?_ | refine v_g0 ?_ | refine v_add ?_ | refine v_cons ?_ | refine v_nil ?_ | refine v_call ?_ | refine v_dB ?_ | refine v_next ?_ | refine v_ret ?_
  | refine v_ite ?_ | refine v_tst ?_ | refine v_kT ?_ | refine v_eqi ?_ | refine v_nei ?_ | refine v_eqr ?_ | refine v_ner ?_ | refine v_eqr0 ?_ | refine v_ner0 ?_ | refine v_eql ?_ | refine v_nel ?_ | refine v_eql0 ?_ | refine v_nel0 ?_ | refine v_isN ?_ | refine v_notN ?_
  | (apply v_bor; · with_unfolding_all exact rfl) | (apply v_own; · with_unfolding_all exact rfl) | refine v_tup ?_ | refine v_lst ?_ | (refine v_sz ?_ ?_; (· with_unfolding_all exact Nat.le_of_ble_eq_true rfl)) | (refine v_gIIz ?_ ?_; (· first | decide | omega))
  | refine v_lentz ?_ | refine v_lenlz ?_ | refine v_lent ?_ | refine v_lenl ?_ | refine v_I1 ?_ | refine v_I2 ?_ | refine v_int ?_ | refine v_seqlz ?_ | refine v_seqtz ?_ | refine v_sl ?_ | refine v_kSll ?_ | refine v_kSlt ?_ | refine v_ono ?_ | refine v_oso ?_ | refine v_kOS ?_
  | refine v_val ?_ | refine v_kVb ?_ | refine v_kVi ?_ | refine v_kVt ?_ | refine v_kVl ?_ | refine v_and ?_ | refine v_or ?_ | refine v_not ?_ | refine v_yes ?_ | refine v_if' ?_ | refine v_isi ?_ | refine v_kIii ?_ | refine v_kIib ?_ | refine v_kItt ?_
  | refine v_andV ?_ | refine v_orV ?_ | refine v_notV ?_ | refine v_kNV ?_ | refine v_neg ?_ | refine v_kNeg ?_ | refine v_seq ?_ | refine v_kSeql ?_ | refine v_kSeqt ?_ | refine v_rng1 ?_ | refine v_rng2 ?_ | refine v_enum ?_ | refine v_revr ?_ | refine v_rev ?_
  | (refine v_kR1 ?_ ?_ ?_; (· decide); (· decide))
  | (refine v_kR2 ?_ ?_ ?_ ?_ ?_; (· decide); (· decide); (· decide); (· decide))
  | refine v_gn ?_ | refine v_gt2 ?_ | refine v_gt3 ?_ | refine v_lc ?_ | refine v_for ?_ | refine v_setO ?_ | refine v_drop ?_ | (apply v_app; · with_unfolding_all exact rfl) | (apply v_setI; · with_unfolding_all exact rfl) | (apply v_rel; · with_unfolding_all exact rfl) | refine v_raise ?_ | refine v_par ?_ | refine v_kP ?_ | refine v_asg ?_
  | (apply v_aug; · with_unfolding_all exact rfl) | refine v_ifT ?_ | refine v_ifF ?_ | (refine v_pow ?_ ?_ ?_ ?_; (· decide); (· decide); (· decide)) | refine v_call0 ?_ | (apply v_lenr; · assumption) | (apply v_seqr; · assumption) | (apply v_kSeqr; · assumption) | (apply v_kSlr; · assumption)
  | refine v_ix0 ?_ | refine v_ix1 ?_ | refine v_ix2 ?_ | refine v_zip ?_ | refine v_kZl ?_ | refine v_kZt ?_ | (apply v_augI; · with_unfolding_all exact rfl) | refine v_try ?_ | refine v_isE ?_ | (refine v_kIE ?_ ?_; (· with_unfolding_all exact rfl)) | refine v_isB ?_ | refine v_notB ?_ | refine v_all ?_ | refine v_par3 ?_ | refine v_ifnT ?_ | refine v_ifnF ?_ | refine v_eqs ?_ | refine v_nes ?_ | refine v_rvs ?_ | refine v_kRvl ?_ | refine v_kRvt ?_
  | (refine v_mulb (a := ?a) (b := ?b) ?ha ?hb ?l ?h; (case ha => assumption); (case hb => assumption); (case l => omega)) | (refine v_fdivb (b := ?b) ?h0 ?hb ?l ?h; (case h0 => assumption); (case hb => assumption); (case l => omega)))
theorem enum_zz : ∀ (l : List Int) (i : Nat), enumD i (zz l) = (List.range l.length).map fun k => D.tup [.int ((i + k : Nat) : Int), .int (nth l k)]
  | [], i => rfl
  | a :: l, i => by
    show D.tup [.int (i : Int), .int a] :: enumD (i + 1) (zz l) = _
    rw [enum_zz l (i + 1), List.length_cons, List.range_succ_eq_map, List.map_cons, List.map_map]
    refine congr (congrArg List.cons rfl) (List.map_congr_left fun k _ => ?_)
    show D.tup [.int ((i + 1 + k : Nat) : Int), .int (nth l k)] = .tup [.int ((i + (k + 1) : Nat) : Int), .int (nth (a :: l) ((k + 1 : Nat) : Int))]
    rw [show i + 1 + k = i + (k + 1) by omega]
    congr 3
section
variable {M : Type} {ρ : En} {QL : List D → M → Prop} {tt : DTT M} {t : DT M}
theorem lc_enum {g : DG} {f : Nat → Int → Int} {m : M} (xs : List Int) (st : ∀ k, k < xs.length → ∀ m (K : D → M → Prop) (l : M → Prop), K (.int (f k (nth xs k))) m → g (.tup [.int k, .int (nth xs k)]) ρ fun ρ2 => tt ρ2 m (fun b m1 => if b = true then t ρ2 m1 K (fun _ _ => False) else l m1) (fun _ _ => False))
    (hl : xs.length ≤ 16777216) (h : QL (zz ((List.range xs.length).map fun k => f k (nth xs k))) m) : lcGo g tt t ρ (enumD 0 (zz xs)) [] m QL := by
  rw [enum_zz]
  refine lcGo_map (h := fun k => .int (f k (nth xs k))) (List.range xs.length) (fun k hk m K l hK => ?_) (small_line (by rw [List.length_range]; exact hl)) ?_
  · rw [Nat.zero_add]
    exact st k (List.mem_range.mp hk) m K l hK
  · rw [show (List.range xs.length).map (fun k : Nat => D.int (f k (nth xs k))) = zz ((List.range xs.length).map fun k => f k (nth xs k)) from (List.map_map ..).symm]
    exact h
end
/-- the slope's row, noughts not cut -/
def slope (r : List Int) : List Int := (List.range (r.length - 1)).map fun k : Nat => ((1 : Int) + k) * nth r (1 + k)
theorem slope_len (r : List Int) : (slope r).length = r.length - 1 := by unfold slope; rw [List.length_map, List.length_range]
theorem slope_drop (r : List Int) : ((List.range r.length).map fun k : Nat => (k : Int) * nth r k).drop 1 = slope r := by
  unfold slope
  cases h : r.length with
  | zero => rfl
  | succ n =>
    rw [List.range_succ_eq_map, List.map_cons, List.drop_succ_cons, List.drop_zero, List.map_map]
    refine List.map_congr_left fun k _ => ?_
    show ((k + 1 : Nat) : Int) * nth r ((k + 1 : Nat) : Int) = _
    rw [Int.add_comm 1, show ((k + 1 : Nat) : Int) = (k : Int) + 1 from rfl]
theorem slope_bd {a : Nat} {r : List Int} (h : ∀ x ∈ r, bd a x) (hl : r.length ≤ 1000000) : ∀ x ∈ slope r, bd (20 + a) x := fun x hx => by
  unfold slope at hx
  obtain ⟨k, hk, rfl⟩ := List.mem_map.mp hx
  have := List.mem_range.mp hk
  refine bd_mul (a := 20) ?_ (h _ (nth_mem (by omega) (by omega)))
  unfold bd; omega
def b_rows_derived {M : Type} : DS M :=
    (dRet (dCall s_rows_row_of [] (dCons (dSl (dLc (dEnum false (dVar 0)) (dgT 2 (dgCons (dgN 1) (dgCons (dgN 2) dgNil))) dYes (dBin gMul (dVar 1) (dVar 2)) [1, 2]) (dOSome (dC (.int 1))) dONone) dNil)))

def s_rows_derived {M : Type} : DSp M := fun ds m Q Z => ∃ xs a, ds = [.tup (zz xs)] ∧ xs.length ≤ 1000000 ∧ (∀ x ∈ xs, bd a x) ∧ a ≤ 1000000 ∧ ∀ r, R (ser (slope xs)) r → Q (.tup (zz r)) m
theorem vc_rows_derived {M : Type} : ∀ ds (m : M) Q Z, s_rows_derived ds m Q Z → okK [false] ds ∧ b_rows_derived { nx := fun _ m' => Q .non m', rt := Q, ex := Z } (st0 [false] ds 3) m := by
  rintro ds m Q Z ⟨xs, a, rfl, hl, hx, ha, q⟩
  refine ⟨⟨fun _ => nl_row xs, trivial⟩, ?_⟩
  unfold b_rows_derived
  repeat walk_at "s"
  refine lc_enum (f := fun k x => k * x) xs (fun k hk m1 K l hK => ?_) (by omega) ?_
  · have bx : bd a (nth xs k) := hx _ (nth_mem (by omega) (by omega))
    have bk : bd 20 (k : Int) := by unfold bd; omega
    repeat walk_at "s"
    exact hK
  repeat walk_at "s"
  rw [cutD_zz, cutZ_from (by decide), show (1 : Int).toNat = 1 from rfl, slope_drop]
  refine ⟨_, _, rfl, isRow_l, by rw [slope_len]; omega, q⟩
def b_polys_derived {M : Type} : DS M :=
    (dRet (dCall s_polys_poly [] (dCons (dCall s_rows_derived [] (dCons (dBin (gIx false) (dVar 0) (dC (.int 0))) dNil)) (dCons (dBin (gIx false) (dVar 0) (dC (.int 1))) dNil))))

def s_polys_derived {M : Type} : DSp M := fun ds m Q Z => ∃ r d a, ds = [pd r d] ∧ r.length ≤ 1000000 ∧ (∀ x ∈ r, bd a x) ∧ a ≤ 9000 ∧ d ≠ 0 ∧ bd 9000 d ∧ ∀ s, R (ser (slope r)) s → Q (pd (lowR s d) (lowD s d)) m
theorem vc_polys_derived {M : Type} : ∀ ds (m : M) Q Z, s_polys_derived ds m Q Z → okK [false] ds ∧ b_polys_derived { nx := fun _ m' => Q .non m', rt := Q, ex := Z } (st0 [false] ds 1) m := by
  rintro ds m Q Z ⟨r, d, a, rfl, hl, hr, ha, d0, hd, q⟩
  refine ⟨⟨fun _ => nl_pd, trivial⟩, ?_⟩
  unfold b_polys_derived
  repeat walk_at "s"
  refine ⟨r, a, rfl, hl, hr, by omega, fun s hs => ?_⟩
  repeat walk_at "s"
  refine ⟨s, d, rfl, ?_, fun z => absurd z d0, fun _ => ⟨.inl hd, q s hs⟩⟩
  have := hs.len (B.of (n := r.length) (by rw [slope_len]; omega) (slope_bd hr hl))
  omega
/-! ### is_poly -/
def b_numbers_is_whole {M : Type} : DS M :=
    (dRet (dAndV (dIsi "int" (dBor 0)) (dNotV (dIsi "bool" (dBor 0)))))

/-- whether a whole number, by the kind -/
def whT (t : String) : Bool := isiB t "int" && !isiB t "bool"
def s_numbers_is_whole {M : Type} : DSp M := fun ds m Q Z => ∃ d t, ds = [d] ∧ d.ty = some t ∧ Q (.bl (whT t)) m
theorem vc_numbers_is_whole {M : Type} : ∀ ds (m : M) Q Z, s_numbers_is_whole ds m Q Z → okK [true] ds ∧ b_numbers_is_whole { nx := fun _ m' => Q .non m', rt := Q, ex := Z } (st0 [true] ds 1) m := by
  rintro ds m Q Z ⟨d, t, rfl, ht, q⟩
  refine ⟨⟨fun h => (nomatch h), trivial⟩, ?_⟩
  unfold b_numbers_is_whole
  unfold whT at q
  repeat walk_at "s"
  refine v_kI ht rfl ?_
  refine v_kAV (fun h => ?_) fun h => ?_
  · rw [h, Bool.true_and] at q
    repeat walk_at "s"
    refine v_kI ht rfl ?_
    repeat walk_at "s"
    exact q
  · rw [h, Bool.false_and] at q
    exact q
def b_rows_is_row {M : Type} : DS M :=
    (dThen (dIte (dOr (dNot (dVal (dIsi "tuple" (dBor 0)))) (dNot (dVal (dB gAll (dCons (dLc (dSeq true (dBor 0)) (dgN 1) dYes (dCall s_numbers_is_whole [] (dCons (dVar 1) dNil)) [1]) dNil)))))
      (dRet (dC (.bl false)))
      dNext)
    (dRet (dOrV (dBin gEq (dBor 0) (dTup dNil)) (dBin gNe (dBin (gIx false) (dBor 0) (dNeg (dC (.int 1)))) (dC (.int 0))))))

def whD (d : D) : Bool := match d.ty with | some t => whT t | none => false
def NoRow (y : D) : Prop := (∃ t, y.ty = some t ∧ isiB t "tuple" = false) ∨ (∃ ys, y = .tup ys ∧ ys.length ≤ 1000 ∧ D.nls ys = true ∧ (∀ z ∈ ys, ∃ t, z.ty = some t) ∧ ∃ z ∈ ys, whD z = false)
def s_rows_is_row {M : Type} : DSp M := fun ds m Q Z => ∃ y, ds = [y] ∧ ((∃ xs, y = .tup (zz xs) ∧ xs.length ≤ 1000000 ∧ Q (.bl (decide (xs = []) || !decide (xs.getD (xs.length - 1) 0 = 0))) m) ∨ (NoRow y ∧ Q (.bl false) m))
theorem vc_rows_is_row {M : Type} : ∀ ds (m : M) Q Z, s_rows_is_row ds m Q Z → okK [true] ds ∧ b_rows_is_row { nx := fun _ m' => Q .non m', rt := Q, ex := Z } (st0 [true] ds 2) m := by
  rintro ds m Q Z ⟨y, rfl, h⟩
  refine ⟨⟨fun h => (nomatch h), trivial⟩, ?_⟩
  unfold b_rows_is_row
  rcases h with ⟨xs, rfl, hl, q⟩ | ⟨⟨t, ht, hi⟩ | ⟨ys, rfl, hl, hn, hty, z, hz, hw⟩, q⟩
  · repeat walk_at "s"
    try ((with_reducible show @ite _ _ _ _ _); refine v_ifF ?_)
    repeat walk_at "s"
    refine lc_zd (f := fun _ => .bl true) xs (fun a ha m1 k l hk => ?_) (by omega) ?_
    · repeat walk_at "s"
      refine ⟨.int a, "int", rfl, rfl, ?_⟩
      repeat walk_at "s"
      exact hk
    repeat walk_at "s"
    rw [show xs.map (fun _ => D.bl true) = (xs.map fun _ => true).map D.bl from by rw [List.map_map]; rfl]
    refine v_all ?_
    rw [show (xs.map fun _ => true).all id = true from List.all_eq_true.mpr fun x hx => by obtain ⟨_, _, rfl⟩ := List.mem_map.mp hx; rfl]
    repeat walk_at "s"
    try ((with_reducible show @ite _ _ _ _ _); refine v_ifF ?_)
    repeat walk_at "s"
    refine v_kOV (fun h => ?_) fun h => ?_
    · rw [h, Bool.false_or] at q
      repeat walk_at "s"
      refine v_ixm (of_decide_eq_false h) ?_
      repeat walk_at "s"
      exact q
    · rw [h, Bool.true_or] at q
      exact q
  · repeat walk_at "s"
    refine v_kI ht hi ?_
    repeat walk_at "s"
    exact q
  · repeat walk_at "s"
    try ((with_reducible show @ite _ _ _ _ _); refine v_ifF ?_)
    repeat walk_at "s"
    refine v_kSeqTn hn ?_
    have e : ys = ys.map id := (List.map_id ys).symm
    rw [e]
    refine lcGo_map (h := fun z => .bl (whD z)) ys (fun z hz m1 k l hk => ?_) (small_line (by omega)) ?_
    · obtain ⟨t, ht⟩ := hty z hz
      repeat walk_at "s"
      refine ⟨z, t, rfl, ht, ?_⟩
      unfold whD at hk
      rw [ht] at hk
      repeat walk_at "s"
      exact hk
    repeat walk_at "s"
    rw [show ys.map (fun z => D.bl (whD z)) = (ys.map whD).map D.bl from by rw [List.map_map]; rfl]
    refine v_all ?_
    rw [show (ys.map whD).all id = false from List.all_eq_false.mpr ⟨whD z, List.mem_map.mpr ⟨z, hz, rfl⟩, by rw [hw]; decide⟩]
    repeat walk_at "s"
    exact q
def b_polys_is_poly {M : Type} : DS M :=
    (dThen (dIte (dOr (dNot (dVal (dIsi "tuple" (dBor 0)))) (dOr (dTst (dBin gNe (dB gLen (dCons (dBor 0) dNil)) (dC (.int 2)))) (dOr (dNot (dVal (dCall s_rows_is_row [] (dCons (dBin (gIx false) (dBor 0) (dC (.int 0))) dNil)))) (dNot (dVal (dCall s_numbers_is_whole [] (dCons (dBin (gIx false) (dBor 0) (dC (.int 1))) dNil)))))))
      (dRet (dC (.bl false)))
      dNext)
    (dRet (dAndV (dBin gGt (dBin (gIx false) (dBor 0) (dC (.int 1))) (dC (.int 0))) (dBin gEq (dCall s_numbers_common [] (dCons (dCall s_rows_content [] (dCons (dBin (gIx false) (dBor 0) (dC (.int 0))) dNil)) (dCons (dBin (gIx false) (dBor 0) (dC (.int 1))) dNil))) (dC (.int 1))))))

def isPd (r : List Int) (d : Int) : Bool := (decide (r = []) || !decide (r.getD (r.length - 1) 0 = 0)) && (decide (0 < d) && decide (((Int.gcd (gcdL r) d : Nat) : Int) = 1))
def NoPoly (x : D) : Prop := (∃ t, x.ty = some t ∧ isiB t "tuple" = false) ∨ (∃ ys, x = .tup ys ∧ ys.length ≠ 2) ∨ (∃ y z, x = .tup [y, z] ∧ NoRow y) ∨ (∃ xs z t, x = .tup [.tup (zz xs), z] ∧ xs.length ≤ 1000 ∧ z.ty = some t ∧ whT t = false)
def s_polys_is_poly {M : Type} : DSp M := fun ds m Q Z => ∃ x, ds = [x] ∧ ((∃ r d, x = pd r d ∧ r.length ≤ 1000000 ∧ Q (.bl (isPd r d)) m) ∨ (NoPoly x ∧ Q (.bl false) m))
theorem vc_polys_is_poly {M : Type} : ∀ ds (m : M) Q Z, s_polys_is_poly ds m Q Z → okK [true] ds ∧ b_polys_is_poly { nx := fun _ m' => Q .non m', rt := Q, ex := Z } (st0 [true] ds 1) m := by
  rintro ds m Q Z ⟨y, rfl, h⟩
  refine ⟨⟨fun h => (nomatch h), trivial⟩, ?_⟩
  unfold b_polys_is_poly
  rcases h with ⟨r, d, rfl, hl, q⟩ | ⟨⟨t, ht, hi⟩ | ⟨ys, rfl, h2⟩ | ⟨y, z, rfl, hn⟩ | ⟨xs, z, t, rfl, hl, ht, hw⟩, q⟩
  · unfold isPd at q
    repeat walk_at "s"
    try ((with_reducible show @ite _ _ _ _ _); refine v_ifF ?_)
    repeat walk_at "s"
    try ((with_reducible show @ite _ _ _ _ _); refine v_ifF ?_)
    repeat walk_at "s"
    refine ⟨.tup (zz r), rfl, .inl ⟨r, rfl, hl, ?_⟩⟩
    repeat walk_at "s"
    generalize (decide (r = []) || !decide (r.getD (r.length - 1) 0 = 0)) = c at q ⊢
    cases c with
    | false => repeat walk_at "s"; exact q
    | true =>
      repeat walk_at "s"
      try ((with_reducible show @ite _ _ _ _ _); refine v_ifF ?_)
      repeat walk_at "s"
      refine ⟨_, "int", rfl, rfl, ?_⟩
      repeat walk_at "s"
      try ((with_reducible show @ite _ _ _ _ _); refine v_ifF ?_)
      repeat walk_at "s"
      refine v_kAV (fun h => ?_) fun h => ?_
      · rw [h, Bool.true_and, Bool.true_and] at q
        repeat walk_at "s"
        refine ⟨r, rfl, ?_⟩
        repeat walk_at "s"
        refine ⟨_, _, rfl, ?_⟩
        repeat walk_at "s"
        exact q
      · rw [h, Bool.false_and, Bool.and_false] at q
        exact q
  · repeat walk_at "s"
    refine v_kI ht hi ?_
    repeat walk_at "s"
    exact q
  · repeat walk_at "s"
    try ((with_reducible show @ite _ _ _ _ _); refine v_ifF ?_)
    repeat walk_at "s"
    rw [show (!decide ((ys.length : Int) = 2)) = true from by rw [decide_eq_false (by omega)]; rfl]
    repeat walk_at "s"
    exact q
  · repeat walk_at "s"
    try ((with_reducible show @ite _ _ _ _ _); refine v_ifF ?_)
    repeat walk_at "s"
    try ((with_reducible show @ite _ _ _ _ _); refine v_ifF ?_)
    repeat walk_at "s"
    refine ⟨y, rfl, .inr ⟨hn, ?_⟩⟩
    repeat walk_at "s"
    exact q
  · repeat walk_at "s"
    try ((with_reducible show @ite _ _ _ _ _); refine v_ifF ?_)
    repeat walk_at "s"
    try ((with_reducible show @ite _ _ _ _ _); refine v_ifF ?_)
    repeat walk_at "s"
    refine ⟨.tup (zz xs), rfl, .inl ⟨xs, rfl, by omega, ?_⟩⟩
    repeat walk_at "s"
    generalize (decide (xs = []) || !decide (xs.getD (xs.length - 1) 0 = 0)) = c
    cases c with
    | false => repeat walk_at "s"; exact q
    | true =>
      repeat walk_at "s"
      try ((with_reducible show @ite _ _ _ _ _); refine v_ifF ?_)
      repeat walk_at "s"
      refine ⟨_, t, rfl, ht, ?_⟩
      rw [hw]
      repeat walk_at "s"
      exact q
end RR

/-! V05c: the law k05 -/
namespace RR
open PySem PySem.Spec PyProof.Rows L2
local macro_rules | `(tactic| walk_at "bd") => `(tactic| first | assumption | exact bd_lit (by decide) | (with_reducible refine bd_mul ?_ ?_ <;> walk_at "bd") | (with_reducible refine bd_add ?_ ?_ <;> walk_at "bd") | (with_reducible refine bd_sub ?_ ?_ <;> walk_at "bd") | (with_reducible refine bd_neg ?_ <;> walk_at "bd"))
local macro_rules | `(tactic| walk_at "s") => `(tactic| with_reducible first
  | refine v_then ?_ | refine v_set ?_ | (apply v_var; · with_unfolding_all exact rfl) | refine v_bin ?_ | refine v_c ?_ | refine v_g0 ?_ | refine v_add ?_ | refine v_cons ?_ | refine v_nil ?_ | refine v_call ?_ | refine v_dB ?_ | refine v_next ?_ | refine v_ret ?_
  | refine v_ite ?_ | refine v_tst ?_ | refine v_kT ?_ | refine v_eqi ?_ | refine v_nei ?_ | refine v_eqr ?_ | refine v_ner ?_ | refine v_eqr0 ?_ | refine v_ner0 ?_ | refine v_eql ?_ | refine v_nel ?_ | refine v_eql0 ?_ | refine v_nel0 ?_ | refine v_isN ?_ | refine v_notN ?_
  | (apply v_bor; · with_unfolding_all exact rfl) | (apply v_own; · with_unfolding_all exact rfl) | refine v_tup ?_ | refine v_lst ?_ | (refine v_sz ?_ ?_; (· with_unfolding_all exact Nat.le_of_ble_eq_true rfl)) | (refine v_gIIz ?_ ?_; (· first | decide | omega))
  | refine v_lentz ?_ | refine v_lenlz ?_ | refine v_lent ?_ | refine v_lenl ?_ | refine v_I1 ?_ | refine v_I2 ?_ | refine v_int ?_ | refine v_seqlz ?_ | refine v_seqtz ?_ | refine v_sl ?_ | refine v_kSll ?_ | refine v_kSlt ?_ | refine v_ono ?_ | refine v_oso ?_ | refine v_kOS ?_
  | refine v_val ?_ | refine v_kVb ?_ | refine v_kVi ?_ | refine v_kVt ?_ | refine v_kVl ?_ | refine v_and ?_ | refine v_or ?_ | refine v_not ?_ | refine v_yes ?_ | refine v_if' ?_ | refine v_isi ?_ | refine v_kIii ?_ | refine v_kIib ?_ | refine v_kItt ?_
  | refine v_andV ?_ | refine v_orV ?_ | refine v_notV ?_ | refine v_kNV ?_ | refine v_neg ?_ | refine v_kNeg ?_ | refine v_seq ?_ | refine v_kSeql ?_ | refine v_kSeqt ?_ | refine v_rng1 ?_ | refine v_rng2 ?_ | refine v_enum ?_ | refine v_revr ?_ | refine v_rev ?_
  | (refine v_kR1 ?_ ?_ ?_; (· decide); (· decide))
  | (refine v_kR2 ?_ ?_ ?_ ?_ ?_; (· decide); (· decide); (· decide); (· decide))
  | refine v_gn ?_ | refine v_gt2 ?_ | refine v_gt3 ?_ | refine v_lc ?_ | refine v_for ?_ | refine v_setO ?_ | refine v_drop ?_ | (apply v_app; · with_unfolding_all exact rfl) | (apply v_setI; · with_unfolding_all exact rfl) | (apply v_rel; · with_unfolding_all exact rfl) | refine v_raise ?_ | refine v_par ?_ | refine v_kP ?_ | refine v_asg ?_
  | (apply v_aug; · with_unfolding_all exact rfl) | refine v_ifT ?_ | refine v_ifF ?_ | (refine v_pow ?_ ?_ ?_ ?_; (· decide); (· decide); (· decide)) | refine v_call0 ?_ | (apply v_lenr; · assumption) | (apply v_seqr; · assumption) | (apply v_kSeqr; · assumption) | (apply v_kSlr; · assumption)
  | refine v_ix0 ?_ | refine v_ix1 ?_ | refine v_ix2 ?_ | refine v_zip ?_ | refine v_kZl ?_ | refine v_kZt ?_ | (apply v_augI; · with_unfolding_all exact rfl) | refine v_try ?_ | refine v_isE ?_ | (refine v_kIE ?_ ?_; (· with_unfolding_all exact rfl)) | refine v_isB ?_ | refine v_notB ?_ | refine v_all ?_ | refine v_par3 ?_ | refine v_ifnT ?_ | refine v_ifnF ?_ | refine v_eqs ?_ | refine v_nes ?_ | refine v_rvs ?_ | refine v_kRvl ?_ | refine v_kRvt ?_
  | (refine v_mulb (a := ?a) (b := ?b) ?ha ?hb ?l ?h; (case ha => assumption); (case hb => assumption); (case l => omega)) | (refine v_fdivb (b := ?b) ?h0 ?hb ?l ?h; (case h0 => assumption); (case hb => assumption); (case l => omega)))
theorem v_kIE1 {M : Type} {Q : D → M → Prop} {m : M} {x : Str} {b : Bool} (h : Q (.bl b) m) : kIE [(x, b)] Q (.exc x) m := v_kIE (by unfold List.lookup; rw [beq_self_eq_true]) h
local macro_rules | `(tactic| walk_at "s") => `(tactic| with_reducible refine v_kIE1 ?_)
theorem isPd_P {f : Ser Rat} {r : List Int} {d : Int} (h : P f r d) : isPd r d = true := by
  unfold isPd
  rw [decide_eq_true h.pos, decide_eq_true (show ((Int.gcd (gcdL r) d : Nat) : Int) = 1 by rw [h.low]; rfl)]
  by_cases e : r = []
  · rw [decide_eq_true e]; rfl
  · rw [decide_eq_false (done_last h.dn e), decide_eq_false e]; rfl
end RR

/-! RTd: {text: ..}.get(x, y), {text: ..}[x]; x.isalpha(), x.isdigit() -/
namespace RR
open PySem PySem.Spec PyProof.Rows L2
section
variable {X : Cx} {C : Cn} {e f : Expr} {pos : Pos}
end
section
variable {M : Type} {ρ : En} {m : M} {Q : D → M → Prop} {Z : Str → M → Prop}
end
end RR

/-! RTy: try: x.append(e) except T: y = [] -/
namespace RR
open PySem PySem.Spec PyProof.Rows L2
section
variable {X : Cx} {C : Cn} {e : Expr} {pos : Pos} {t u : DS C.W.M} {body : List Stmt}
end
section
variable {M : Type} {ρ : En} {m : M} {nx bk ct : En → M → Prop} {rt : D → M → Prop} {ex : Str → M → Prop} {s1 : DS M}
end
end RR

/-! RTk: a token is out: text.replace of written texts -/
namespace RR
open PySem PySem.Spec PyProof.Rows L2
section
variable {X : Cx} {C : Cn} {e : Expr} {es : List Expr} {te : TE} {ta tb : TA} {pos : Pos}
/-! ### behind an expression a token is out -/
def PEk (X : Cx) (e : Expr) (t : TE) : Prop :=
  ∀ (pins : List (Addr × Obj)) (s : Shared) (σ : L2.St) (H : Hp) (Q : VK), Inv X pins σ H s → t σ H Q → wpAny (model X.prog X.w) X.A (eval e X.env) (fun u s1 => 1 ≤ s1.toks ∧ EP X pins σ Q u s1) X.xe s
/-! ### over data -/
def JK (c : Cl) (X : Cx) (C : Cn) (e : Expr) (t : DT C.W.M) : Prop := ∃ te, PEk X e te ∧
  ∀ σ H Pr F ρ m Q Z (R : VK), SR X.K C Pr F σ ρ m H → Ex X C Pr F H σ ρ Z → t ρ m Q Z → (∀ v H', Post X.K C c Pr F H σ ρ Q v H' → R v H') → te σ H R
theorem JK.weak {t : DT C.W.M} (h : JK .f X C e t) : JK .w X C e t := by
  obtain ⟨te, p, q⟩ := h
  exact ⟨te, p, fun σ H Pr F ρ m Q Z R S E h k => q σ H Pr F ρ m Q Z R S E h fun v H' z => k v H' (z.imp fun _ _ _ _ S q => (Dv.fs q).sw S)⟩
theorem JK.strong {t : DT C.W.M} (h : JK .f X C e t) : JK .s X C e t := by
  obtain ⟨te, p, q⟩ := h
  exact ⟨te, p, fun σ H Pr F ρ m Q Z R S E h k => q σ H Pr F ρ m Q Z R S E h fun v H' z => k v H' (z.imp fun _ _ _ _ S q => Dv.fs q)⟩
/-! ### where a token is out -/
def JTT (c : Cl) (X : Cx) (C : Cn) (e : Expr) (t : DT C.W.M) : Prop := ∃ te, PET X e te ∧
  ∀ σ H Pr F ρ m Q Z (R : VK), SR X.K C Pr F σ ρ m H → Ex X C Pr F H σ ρ Z → t ρ m Q Z → (∀ v H', Post X.K C c Pr F H σ ρ Q v H' → R v H') → te σ H R
theorem JTT.sf {t : DT C.W.M} (h : JTT .f X C e t) : JTT .s X C e t := by
  obtain ⟨te, p, q⟩ := h
  exact ⟨te, p, fun σ H Pr F ρ m Q Z R S E h k => q σ H Pr F ρ m Q Z R S E h fun v H' z => k v H' (z.imp fun _ _ _ _ S q => Dv.fs q)⟩
variable {st : Stmt} {rest body : List Stmt} {t u : DS C.W.M}
end
section
variable {M : Type} {ρ : En} {m : M} {Q : D → M → Prop} {Z : Str → M → Prop}
end
/-! ### strip, count of texts -/
section
variable {X : Cx} {C : Cn} {a b : Expr} {ta tb : DT C.W.M} {pos : Pos}
end
end RR

/-! RTi: int(text) to 4300 signs; strip of told signs -/
namespace RR
open PySem PySem.Spec PyProof.Rows L2 PySem.NumText
theorem wp_maxd {M : Model} {A : Around} {E : Value → Shared → Prop} {s : Shared} {K : PySem.W.Frag} {Q : Nat → Shared → Prop} (kin : K.In s.heap) (hk : PySem.W.nsIn K cStatics "sys.int_max_str_digits" = some none) (h : Q 4300 s) : wpAny M A Builtin.intMaxStrDigits Q E s :=
  wpAny_bind ((PySem.W.looks_nsIn kin hk) A _ E s (fun _ _ e => e) (wpAny_pure h))
section
variable {X : Cx} {C : Cn} {a b c : Expr} {pos : Pos} {ta tb : DT C.W.M}
end
section
variable {M : Type} {q : D → Prop}
end
end RR

/-! RRb: repr of data with numbers to 12000 bits -/
namespace RR
open PySem PySem.Spec PyProof.Rows L2
abbrev DigK (K : PySem.W.Frag) : Prop := PySem.W.nsIn K cStatics "sys.int_max_str_digits" = some none
theorem over_big {M : Model} {A : Around} {E : Value → Shared → Prop} {s : Shared} {K : PySem.W.Frag} {a : Int} {Q : Option Nat → Shared → Prop} (kin : K.In s.heap) (hk : DigK K) (h : a.natAbs.log2 < 12000) (q : Q none s) : wpAny M A (Builtin.overDigitLimit? a) Q E s := by
  unfold Builtin.overDigitLimit?
  by_cases hs : a.natAbs.log2 < 1920
  · rw [if_pos hs]
    exact wpAny_pure q
  · rw [if_neg hs]
    refine wpAny_bind (wp_maxd kin hk ?_)
    dsimp only
    rw [if_neg (show ¬ a.natAbs.log2 / 30 + 1 > 1000 by omega), if_pos (by
      have : a.natAbs.log2 < 3 * 4300 := by omega
      rw [decide_eq_true this]; rfl)]
    exact wpAny_pure q
theorem big_fits {a : Int} (h : a.natAbs.log2 < 12000) : (Str.ofString (toString a)).length ≤ sizeLine :=
  int_text_fits10 (Nat.lt_of_lt_of_le (lt_of_log2 (Nat.lt_trans h (by decide))) pow_lo)
theorem meets_int_repr {K : PySem.W.Frag} {a : Int} {t : Tok} (hk : DigK K) (h : a.natAbs.log2 < 12000) :
    Meets (Builtin.«int.__repr__» ⟨[.int a t], []⟩) (fun _ R s => K.In s.heap ∧ R (.ok (.ret (.str (toString a) s.toks))) { s with toks := s.toks + 1 }) :=
  .of_wp fun prog w A R s hS => by
    unfold Builtin.«int.__repr__»
    show wpAny _ _ (do let r ← Builtin.overDigitLimit? a; _) _ _ s
    refine wpAny_bind (over_big hS.1 hk h ?_)
    exact wpAny_bind (wpAny_mkStr (wpAny_pure ⟨_, rfl, hS.2⟩) (big_fits h))
section
variable {prog : Program} {w : World} {h₀ : Heap} {K : PySem.W.Frag}
theorem call_int_repr {A : Around} {E : Value → Shared → Prop} {s : Shared} {a : Int} {t : Tok} {Q : Value → Shared → Prop} (kin : K.In s.heap) (hk : DigK K) (h : a.natAbs.log2 < 12000) (q : Q (.str (toString a) s.toks) { s with toks := s.toks + 1 }) : wpAny (model prog w) A (call (.builtin "int.__repr__") [.int a t]) Q E s :=
  call_meets F.slot_int_repr (typeIs_int s a t) F.entry_int_repr (F.args_int_repr_1 _) (meets_int_repr hk h) ⟨kin, q⟩
theorem reprK_big (kin : K.In h₀) (hk : DigK K) {a : Int} {t : Tok} (h : a.natAbs.log2 < 12000) (as : List Addr) (d : Nat) : ReprK prog w as h₀ d (.int a t) (toString a) := fun base hb A g E s Q hg hcl hu hkeep hQ => by
  rw [pyReprUnder_leaf (v := .int a t) (by omega) (fun _ e => nomatch e)]
  unfold pyRepr
  exact wpAny_bind (wpAny_pyReprObj_slot (by omega) (typeIs_int s a t) F.slot_int_repr.toG (call_int_repr (kin.keeps hkeep) hk h ⟨_, _, rfl, wpAny_pure (hQ s.heap _ fun _ _ e => e)⟩))
end
mutual
/-- what is shown so: no dicts, numbers below 2 ** 12000 -/
def bigD : PyData → Bool
  | .none | .bool _ | .str _ => true
  | .int i => decide (i.natAbs.log2 < 12000)
  | .list xs | .tuple xs => bigDs xs
  | .dict _ => false
def bigDs : List PyData → Bool
  | [] => true
  | x :: xs => bigD x && bigDs xs
end
section
variable {prog : Program} {w : World} {h₀ : Heap} {K : PySem.W.Frag}
mutual
theorem bigK (kin : K.In h₀) (hk : DigK K) : ∀ {v : Value} {d : PyData} {as : List Addr}, Reads h₀ v d as → bigD d = true → d.shown.length ≤ sizeLine → ∃ bs, ReadAtMost h₀ d.depth bs ∧ ReprK prog w bs h₀ d.depth v d.shown
  | _, _, _, .none, _, _ => ⟨[], (fun _ h => nomatch h), by simp only [PyData.shown]; exact .of_is ReprIs.none _ _ _⟩
  | _, _, _, .bool b, _, _ => ⟨[], (fun _ h => nomatch h), by simp only [PyData.shown]; exact .of_is (ReprIs.bool b) _ _ _⟩
  | _, _, _, .int i t, hb, _ => ⟨[], (fun _ h => nomatch h), by
    simp only [PyData.shown]
    exact reprK_big kin hk (by simpa [bigD] using hb) _ _⟩
  | _, _, _, .str x t, _, hz => ⟨[], (fun _ h => nomatch h), by simp only [PyData.shown]; exact .of_is (ReprIs.str x t (by simpa only [PyData.shown] using hz)) _ _ _⟩
  | _, _, _, .list (a := a) (vs := vs) (xs := xs) h1 h2 h3 h4, hb, hz => by
    have hz' : (listText (PyData.shownAll xs)).length ≤ sizeLine := by simpa only [PyData.shown] using hz
    obtain ⟨bs, hbs, hks⟩ := bigKs kin hk h4 (by simpa [bigD] using hb) (fun t ht => Nat.le_trans (listText_mem_le ht) hz')
    have r : Reads h₀ (.ref a) (.list xs) _ := .list h1 h2 h3 h4
    have hna : a ∉ bs := not_mem_of_deeper r (by simp only [PyData.depth]; omega) hbs
    refine ⟨a :: bs, ReadAtMost.cons r (by simp only [PyData.depth]; omega) hbs, ?_⟩
    simp only [PyData.depth, PyData.shown]
    obtain ⟨l⟩ := vs
    cases l with
    | nil =>
      have h4' : ReadsAll h₀ [] xs _ := h4
      cases h4'
      simp only [PyData.shownAll, listText_nil]
      exact ReprK.listEmpty h1 h2 h3
    | cons x l => exact ReprK.list h1 h2 h3 hna (by simpa using hks.length_eq) (fun i y e => hks.item i y (by simpa using e))
  | _, _, _, .tuple (a := a) (xs := xs) h1 h2 h3 h4, hb, hz => by
    have hz' : (tupleText (PyData.shownAll xs)).length ≤ sizeLine := by simpa only [PyData.shown] using hz
    obtain ⟨bs, hbs, hks⟩ := bigKs kin hk h4 (by simpa [bigD] using hb) (fun t ht => Nat.le_trans (tupleText_mem_le ht) hz')
    have r : Reads h₀ (.ref a) (.tuple xs) _ := .tuple h1 h2 h3 h4
    have hna : a ∉ bs := not_mem_of_deeper r (by simp only [PyData.depth]; omega) hbs
    refine ⟨a :: bs, ReadAtMost.cons r (by simp only [PyData.depth]; omega) hbs, ?_⟩
    simp only [PyData.depth, PyData.shown]
    exact ReprK.tuple h1 h2 h3 hna hks
  | _, _, _, .dict _ _ _ _ _, hb, _ => by simp [bigD] at hb
theorem bigKs (kin : K.In h₀) (hk : DigK K) : ∀ {vs : List Value} {ds : List PyData} {as : List Addr}, ReadsAll h₀ vs ds as → bigDs ds = true → (∀ t ∈ PyData.shownAll ds, t.length ≤ sizeLine) →
    ∃ bs, ReadAtMost h₀ (PyData.depthAll ds) bs ∧ ReprAllK prog w bs h₀ (PyData.depthAll ds) vs (PyData.shownAll ds)
  | _, _, _, .nil, _, _ => ⟨[], (fun _ h => nomatch h), by simp only [PyData.shownAll]; exact .nil⟩
  | _, _, _, .cons (d := d) (ds := ds) r rs, hb, hz => by
    have hb' : bigD d = true ∧ bigDs ds = true := by simpa [bigDs] using hb
    obtain ⟨b1, hb1, k1⟩ := bigK kin hk r hb'.1 (hz _ (by simp only [PyData.shownAll]; exact List.mem_cons_self ..))
    obtain ⟨b2, hb2, k2⟩ := bigKs kin hk rs hb'.2 (fun t ht => hz t (by simp only [PyData.shownAll]; exact List.mem_cons_of_mem _ ht))
    refine ⟨b1 ++ b2, ?_, ?_⟩
    · simp only [PyData.depthAll]
      exact (hb1.mono (Nat.le_max_left _ _)).append (hb2.mono (Nat.le_max_right _ _))
    · simp only [PyData.depthAll, PyData.shownAll]
      exact .cons ((k1.more fun b hb => List.mem_append_left _ hb).level_le (Nat.le_max_left _ _)) (k2.more_le (fun b hb => List.mem_append_right _ hb) (Nat.le_max_right _ _))
end
/-- repr of a list or a tuple -/
theorem repr_big {A : Around} {E : Value → Shared → Prop} {s : Shared} {Q : Value → Shared → Prop} {a : Addr} {d : PyData} {as : List Addr} (kin : K.In s.heap) (hk : DigK K) (r : Reads s.heap (.ref a) d as) (hb : bigD d = true) (hg : A.guards = some []) (hu : A.units + (d.depth + 1) < cLine)
    (hQ : ∀ h' u tk, (∀ b o, s.heap.get? b = some o → h'.get? b = some o) → Q (.str d.shown u) { s with heap := h', toks := tk }) (hsz : d.shown.length ≤ sizeLine) : wpAny (model prog w) A (call (.builtin "repr") [.ref a]) Q E s := by
  cases r with
  | list h1 h2 h3 h4 =>
    rename_i o vs n xs bs₀
    have hz' : (listText (PyData.shownAll xs)).length ≤ sizeLine := by simpa only [PyData.shown] using hsz
    obtain ⟨bs, hbs, hks⟩ := bigKs (prog := prog) (w := w) kin hk h4 (by simpa [bigD] using hb) (fun t ht => Nat.le_trans (listText_mem_le ht) hz')
    have hna : a ∉ bs := not_mem_of_deeper (.list h1 h2 h3 h4) (by simp only [PyData.depth]; omega) hbs
    simp only [PyData.depth] at hu
    simp only [PyData.shown] at hQ
    refine call_repr_slot (by omega) ⟨o, h1, h2⟩ F.slot_list_repr.toG ?_
    obtain ⟨l⟩ := vs
    cases l with
    | nil =>
      have h4' : ReadsAll _ [] xs _ := h4
      cases h4'
      simp only [PyData.shownAll, listText_nil] at hQ
      exact call_list_repr_empty ⟨o, h1, h2⟩ h1 h3 ⟨_, _, rfl, hQ s.heap _ _ fun _ _ e => e⟩
    | cons x l =>
      exact call_list_reprK h1 h2 h3 hna (by simpa using hks.length_eq) (fun i y e => hks.item i y (by simpa using e)) hg (fun b _ => Clear.nil b) (by show A.units + 1 + _ < cLine; omega) (fun _ _ e => e) (fun h' u tk hk => ⟨_, _, rfl, hQ h' u tk hk⟩) hz'
  | tuple h1 h2 h3 h4 =>
    rename_i o vs n xs
    have hz' : (tupleText (PyData.shownAll xs)).length ≤ sizeLine := by simpa only [PyData.shown] using hsz
    obtain ⟨bs, hbs, hks⟩ := bigKs (prog := prog) (w := w) kin hk h4 (by simpa [bigD] using hb) (fun t ht => Nat.le_trans (tupleText_mem_le ht) hz')
    have hna : a ∉ bs := not_mem_of_deeper (.tuple h1 h2 h3 h4) (by simp only [PyData.depth]; omega) hbs
    simp only [PyData.depth] at hu
    simp only [PyData.shown] at hQ
    refine call_repr_slot (by omega) ⟨o, h1, h2⟩ F.slot_tuple_repr ?_
    exact call_tuple_reprK h1 h2 h3 hna hks hg (fun b _ => Clear.nil b) (by show A.units + 1 + _ < cLine; omega) (fun _ _ e => e) (fun h' u tk hk => ⟨_, _, rfl, hQ h' u tk hk⟩) hz'
  | dict => simp [bigD] at hb
end
def rRepB (K : PySem.W.Frag) : List V → Hp → VK → Prop := fun xs H Q => ∃ v d, xs = [v] ∧ Dp K H v d ∧ bigD d = true ∧ d.depth ≤ 60 ∧ d.shown.length ≤ sizeLine ∧ Q (.str d.shown) H
section
variable {X : Cx}
theorem call_reprB (hk : DigK X.K) (gd : X.A.guards = some []) (un : X.A.units + 64 < cLine) : CallR X (.builtin "repr") (rRepB X.K) := by
  intro pins s σ H xs us Q I r h
  obtain ⟨v, d, rfl, dp, sh, dep, sz, q⟩ := h
  obtain ⟨u, rfl, rv⟩ := vals1 r
  obtain ⟨as, rd⟩ := Dp.reads I d v u dp rv
  by_cases href : ∃ a, u = .ref a
  · obtain ⟨a, rfl⟩ := href
    exact repr_big I.kIn hk rd sh gd (by omega) (fun h' u' tk k => ⟨.str d.shown, H, I.kept k, ⟨_, rfl⟩, q⟩) sz
  · cases rd with
    | none => exact PySem.P.repr_of_none ⟨.str _, H, I.tok _, ⟨_, rfl⟩, by simpa only [PyData.shown] using q⟩
    | bool b => exact PySem.P.repr_of_bool ⟨.str _, H, I.tok _, ⟨_, rfl⟩, by simpa only [PyData.shown] using q⟩
    | int i t => exact call_repr_slot (by omega) (typeIs_int s i t) F.slot_int_repr.toG (call_int_repr I.kIn hk (by simpa [bigD] using sh) ⟨_, _, rfl, ⟨.str _, H, I.tok _, ⟨_, rfl⟩, by simpa only [PyData.shown] using q⟩⟩)
    | str x t => exact PySem.P.repr_of_str ⟨.str _, H, I.tok _, ⟨_, rfl⟩, by simpa only [PyData.shown] using q⟩ (by simpa only [PyData.shown] using sz)
    | list h1 => exact absurd ⟨_, rfl⟩ href
    | tuple h1 => exact absurd ⟨_, rfl⟩ href
    | dict h1 => exact absurd ⟨_, rfl⟩ href
end
def D.shoB (d : D) : Prop := d.q 8 = true ∧ bigD d.py = true ∧ d.py.shown.length ≤ sizeLine
def gReprB : List D → (D → Prop) → Prop
  | [d], Q => d.shoB ∧ Q (.str d.rep)
  | _, _ => False
section
variable {X : Cx} {C : Cn}
theorem ca_reprB (hk : DigK X.K) (gd : X.A.guards = some []) (un : X.A.units + 64 < cLine) : CaOk X C .w (.builtin "repr") gReprB := by
  refine ⟨_, call_reprB hk gd un, fun σ H Pr F ρ m vs ds Q R S dv q k => ?_⟩
  have dv : DnA false X.K F (wv F H) vs ds := dv
  unfold gReprB at q
  split at q
  · obtain ⟨⟨q8, sh, sz⟩, q⟩ := q
    cases dv with
    | cons h r =>
      cases r
      exact ⟨_, _, rfl, h.dp (fun _ _ => wv_le) q8, sh, Nat.le_trans (py_depth q8) (by decide), sz, k _ _ (post_here S (.str _) (fun _ h => nomatch h) q)⟩
  · exact q.elim
end
theorem v_reprB {d : D} {q : D → Prop} (s : d.shoB) (h : q (.str d.rep)) : gReprB [d] q := ⟨s, h⟩
/-! ### when it is told -/
structure ShB (k c : Nat) (d : D) : Prop where
  q : d.q k = true
  s : bigD d.py = true
  l : d.py.shown.length ≤ c
theorem ShB.le {k k' c c' : Nat} {d : D} (h : ShB k c d) (hk : k ≤ k') (hc : c ≤ c') : ShB k' c' d := ⟨q_le h.q hk, h.s, Nat.le_trans h.l hc⟩
theorem ShB.sho {k c : Nat} {d : D} (h : ShB k c d) (hk : k ≤ 8 := by decide) (hc : c ≤ 16777216 := by decide) : d.shoB := ⟨q_le h.q hk, h.s, small_line (Nat.le_trans h.l hc)⟩
theorem shB_int {i : Int} (h : bd 12000 i) : ShB 0 12001 (.int i) := by
  have l := log_of_bd h (by decide)
  refine ⟨rfl, by simp only [D.py, bigD]; exact decide_eq_true l, ?_⟩
  simp only [D.py, PyData.shown]
  have e := int_text_length_le (k := 12000) (by decide) l
  rw [PySem.ofString_length]
  exact e
theorem pys_big {ds : List D} (h : ∀ d ∈ ds, bigD d.py = true) : bigDs (D.pys ds) = true := by
  induction ds with
  | nil => simp only [D.pys, bigDs]
  | cons d ds ih =>
    simp only [D.pys, bigDs]
    rw [h d List.mem_cons_self, ih fun e he => h e (List.mem_cons_of_mem _ he)]
    rfl
theorem shB_tup {k c n : Nat} {ds : List D} (h : ∀ d ∈ ds, ShB k c d) (hn : ds.length ≤ n) : ShB (k + 1) (n * (c + 2) + 2) (.tup ds) := by
  refine ⟨List.all_eq_true.mpr fun d hd => (h d hd).q, by simp only [D.py, bigD]; exact pys_big fun d hd => (h d hd).s, ?_⟩
  simp only [D.py, PyData.shown]
  have e1 := fmt_text (PyData.shownAll (D.pys ds))
  have e2 := pys_piled (c := c) fun d hd => (h d hd).l
  have e3 : ds.length * (c + 2) ≤ n * (c + 2) := Nat.mul_le_mul_right _ hn
  omega
theorem shB_row {n : Nat} {xs : List Int} (h : ∀ x ∈ xs, bd 12000 x) (hn : xs.length ≤ n) : ShB 1 (n * 12003 + 2) (.tup (zz xs)) :=
  shB_tup (fun d hd => by
    obtain ⟨x, hx, rfl⟩ := List.mem_map.mp hd
    exact shB_int (h x hx)) (by rw [List.length_map]; exact hn)
end RR

/-! V06a: values of polynomials -/
namespace RR
open PySem PySem.Spec PyProof.Rows L2
local macro_rules | `(tactic| walk_at "bd") => `(tactic| first | assumption | exact bd_lit (by decide) | (with_reducible refine bd_mul ?_ ?_ <;> walk_at "bd") | (with_reducible refine bd_add ?_ ?_ <;> walk_at "bd") | (with_reducible refine bd_sub ?_ ?_ <;> walk_at "bd") | (with_reducible refine bd_neg ?_ <;> walk_at "bd"))
local macro_rules | `(tactic| walk_at "s") => `(tactic| with_reducible first
  | refine v_then ?_ | refine v_set ?_ | (apply v_var; · with_unfolding_all exact rfl) | refine v_bin ?_ | refine v_c ?_ | refine v_g0 ?_ | refine v_add ?_ | refine v_cons ?_ | refine v_nil ?_ | refine v_call ?_ | refine v_dB ?_ | refine v_next ?_ | refine v_ret ?_
  | refine v_ite ?_ | refine v_tst ?_ | refine v_kT ?_ | refine v_eqi ?_ | refine v_nei ?_ | refine v_eqr ?_ | refine v_ner ?_ | refine v_eqr0 ?_ | refine v_ner0 ?_ | refine v_eql ?_ | refine v_nel ?_ | refine v_eql0 ?_ | refine v_nel0 ?_ | refine v_isN ?_ | refine v_notN ?_
  | (apply v_bor; · with_unfolding_all exact rfl) | (apply v_own; · with_unfolding_all exact rfl) | refine v_tup ?_ | refine v_lst ?_ | (refine v_sz ?_ ?_; (· with_unfolding_all exact Nat.le_of_ble_eq_true rfl)) | (refine v_gIIz ?_ ?_; (· first | decide | omega))
  | refine v_lentz ?_ | refine v_lenlz ?_ | refine v_lent ?_ | refine v_lenl ?_ | refine v_I1 ?_ | refine v_I2 ?_ | refine v_int ?_ | refine v_seqlz ?_ | refine v_seqtz ?_ | refine v_sl ?_ | refine v_kSll ?_ | refine v_kSlt ?_ | refine v_ono ?_ | refine v_oso ?_ | refine v_kOS ?_
  | refine v_val ?_ | refine v_kVb ?_ | refine v_kVi ?_ | refine v_kVt ?_ | refine v_kVl ?_ | refine v_and ?_ | refine v_or ?_ | refine v_not ?_ | refine v_yes ?_ | refine v_if' ?_ | refine v_isi ?_ | refine v_kIii ?_ | refine v_kIib ?_ | refine v_kItt ?_
  | refine v_andV ?_ | refine v_orV ?_ | refine v_notV ?_ | refine v_kNV ?_ | refine v_neg ?_ | refine v_kNeg ?_ | refine v_seq ?_ | refine v_kSeql ?_ | refine v_kSeqt ?_ | refine v_rng1 ?_ | refine v_rng2 ?_ | refine v_enum ?_ | refine v_revr ?_ | refine v_rev ?_
  | (refine v_kR1 ?_ ?_ ?_; (· with_unfolding_all decide +kernel); (· with_unfolding_all decide +kernel))
  | (refine v_kR2 ?_ ?_ ?_ ?_ ?_; (· with_unfolding_all decide +kernel); (· with_unfolding_all decide +kernel); (· with_unfolding_all decide +kernel); (· with_unfolding_all decide +kernel))
  | refine v_gn ?_ | refine v_gt2 ?_ | refine v_gt3 ?_ | refine v_lc ?_ | refine v_for ?_ | refine v_setO ?_ | refine v_drop ?_ | (apply v_app; · with_unfolding_all exact rfl) | (apply v_setI; · with_unfolding_all exact rfl) | (apply v_rel; · with_unfolding_all exact rfl) | refine v_raise ?_ | refine v_par ?_ | refine v_kP ?_ | refine v_asg ?_
  | (apply v_aug; · with_unfolding_all exact rfl) | refine v_ifT ?_ | refine v_ifF ?_ | (refine v_pow ?_ ?_ ?_ ?_; (· with_unfolding_all decide +kernel); (· with_unfolding_all decide +kernel); (· with_unfolding_all decide +kernel)) | refine v_call0 ?_ | (apply v_lenr; · assumption) | (apply v_seqr; · assumption) | (apply v_kSeqr; · assumption) | (apply v_kSlr; · assumption)
  | refine v_ix0 ?_ | refine v_ix1 ?_ | refine v_ix2 ?_ | refine v_zip ?_ | refine v_kZl ?_ | refine v_kZt ?_ | (apply v_augI; · with_unfolding_all exact rfl) | refine v_try ?_ | refine v_isE ?_ | (refine v_kIE ?_ ?_; (· with_unfolding_all exact rfl)) | refine v_isB ?_ | refine v_notB ?_ | refine v_all ?_ | refine v_par3 ?_ | refine v_ifnT ?_ | refine v_ifnF ?_ | refine v_eqs ?_ | refine v_nes ?_ | refine v_rvs ?_ | refine v_kRvl ?_ | refine v_kRvt ?_
  | (refine v_mulb (a := ?a) (b := ?b) ?ha ?hb ?l ?h; (case ha => assumption); (case hb => assumption); (case l => omega)) | (refine v_fdivb (b := ?b) ?h0 ?hb ?l ?h; (case h0 => assumption); (case hb => assumption); (case l => omega)))
local macro_rules | `(tactic| walk_at "o") => `(tactic| first | walk_at "s" | with_reducible first
  | refine v_chn ?_ | refine v_signs ?_ | refine v_kSg ?_ | refine v_inS ?_ | refine v_ninS ?_ | (refine v_inQ2 ?_ ?_ ?_ ?_; (· first | assumption | (with_unfolding_all decide +kernel)); (· with_unfolding_all decide +kernel); (· with_unfolding_all decide +kernel)) | (refine v_inQ3 ?_ ?_ ?_ ?_ ?_; (· first | assumption | (with_unfolding_all decide +kernel)); (· with_unfolding_all decide +kernel); (· with_unfolding_all decide +kernel); (· with_unfolding_all decide +kernel)) | (refine v_inQ4 ?_ ?_ ?_ ?_ ?_ ?_; (· first | assumption | (with_unfolding_all decide +kernel)); (· with_unfolding_all decide +kernel); (· with_unfolding_all decide +kernel); (· with_unfolding_all decide +kernel); (· with_unfolding_all decide +kernel))
  | refine v_inF ?_ | refine v_getF ?_ | refine v_kGF ?_ | (refine v_gGetF ?_ ?_; (· with_unfolding_all exact rfl)) | refine v_slS ?_ | (refine v_kSS ?_ ?_; (· first | assumption | omega)) | refine v_intUi ?_ | (refine v_lens ?_ ?_; (· first | assumption | omega)) | refine v_dH ?_ | refine v_hInt ?_ | refine v_hNeg ?_ | refine v_fset ?_
  | (apply v_hVar; (· with_unfolding_all exact rfl); (· rfl)))
def evQ (x : Rat) : Nat → Ser Rat → Rat
  | 0, _ => 0
  | n + 1, f => f.co 0 + x * evQ x n f.tl
theorem evQ_far {x : Rat} : ∀ {n : Nat} {f : Ser Rat}, far n f → ∀ k, evQ x (n + k) f = evQ x n f
  | 0, f, h, 0 => rfl
  | 0, f, h, k + 1 => by
    have := evQ_far (x := x) (n := 0) (f := f.tl) (fun j _ => h (j + 1) (Nat.zero_le _)) k
    rw [show 0 + (k + 1) = k + 1 by omega]
    rw [show 0 + k = k by omega] at this
    show f.co 0 + x * evQ x k f.tl = 0
    rw [this, h 0 (Nat.zero_le _)]
    show 0 + x * 0 = 0
    grind
  | n + 1, f, h, k => by
    have := evQ_far (x := x) (n := n) (f := f.tl) (fun j hj => h (j + 1) (by omega)) k
    rw [show n + 1 + k = (n + k) + 1 by omega]
    show f.co 0 + x * evQ x (n + k) f.tl = _
    rw [this]; rfl
theorem evQ_le {x : Rat} {n k : Nat} {f : Ser Rat} (h : far n f) (l : n ≤ k) : evQ x k f = evQ x n f := by
  rw [show k = n + (k - n) by omega]; exact evQ_far h _
theorem evQ_add {x : Rat} : ∀ (n : Nat) (f g : Ser Rat), evQ x n (f + g) = evQ x n f + evQ x n g
  | 0, _, _ => by show (0 : Rat) = 0 + 0; grind
  | n + 1, f, g => by
    show (f.co 0 + g.co 0) + x * evQ x n (f.tl + g.tl) = (f.co 0 + x * evQ x n f.tl) + (g.co 0 + x * evQ x n g.tl)
    rw [evQ_add n]; grind
theorem evQ_scale {x : Rat} (c : Rat) : ∀ (n : Nat) (f : Ser Rat), evQ x n ⟨fun j => c * f.co j⟩ = c * evQ x n f
  | 0, _ => by show (0 : Rat) = c * 0; grind
  | n + 1, f => by
    show c * f.co 0 + x * evQ x n ⟨fun j => c * f.tl.co j⟩ = c * (f.co 0 + x * evQ x n f.tl)
    rw [evQ_scale c n]; grind
theorem evQ_mul {x : Rat} : ∀ (n : Nat) {k : Nat} {f g : Ser Rat}, far n f → far k g → evQ x (n + k) (f * g) = evQ x n f * evQ x k g
  | 0, k, f, g, hf, hg => by
    rw [far0 hf, Lean.Grind.Semiring.zero_mul]
    have := evQ_far (x := x) (n := 0) (f := (0 : Ser Rat)) far_zero k
    rw [this]
    show (0 : Rat) = 0 * _
    grind
  | n + 1, k, f, g, hf, hg => by
    rw [show n + 1 + k = (n + k) + 1 by omega]
    have ih := evQ_mul (x := x) n (f := f.tl) (g := g) (fun j hj => hf (j + 1) (by omega)) hg
    have hg2 : evQ x (n + k + 1) g = evQ x k g := by rw [show n + k + 1 = k + (n + 1) by omega]; exact evQ_far hg _
    have hg3 : evQ x (n + k + 1) g = g.co 0 + x * evQ x (n + k) g.tl := rfl
    show (f.co 0 * g.co 0) + x * evQ x (n + k) (f * g).tl = (f.co 0 + x * evQ x n f.tl) * evQ x k g
    rw [Ser.tl_mul, evQ_add, evQ_scale, ih]
    rw [hg2] at hg3
    grind
/-- f comes to v at x -/
def Av (f : Ser Rat) (x v : Rat) : Prop := ∃ n, far n f ∧ evQ x n f = v
theorem Av.uniq {f : Ser Rat} {x v w : Rat} (h : Av f x v) (h' : Av f x w) : v = w := by
  obtain ⟨n, a, rfl⟩ := h
  obtain ⟨k, b, rfl⟩ := h'
  rcases Nat.le_total n k with l | l
  · exact (evQ_le a l).symm
  · exact evQ_le b l
theorem Av.add {f g : Ser Rat} {x v w : Rat} (h : Av f x v) (h' : Av g x w) : Av (f + g) x (v + w) := by
  obtain ⟨n, a, rfl⟩ := h
  obtain ⟨k, b, rfl⟩ := h'
  refine ⟨n + k, far_add (far_mono a (by omega)) (far_mono b (by omega)), ?_⟩
  rw [evQ_add, evQ_le a (by omega), evQ_le b (by omega)]
theorem Av.mul {f g : Ser Rat} {x v w : Rat} (h : Av f x v) (h' : Av g x w) : Av (f * g) x (v * w) := by
  obtain ⟨n, a, rfl⟩ := h
  obtain ⟨k, b, rfl⟩ := h'
  exact ⟨n + k, far_mono (far_mul a b) (by omega), evQ_mul n a b⟩
theorem Av.C (c x : Rat) : Av (Ser.C c) x c := ⟨1, far_C, by
  show c + x * 0 = c
  grind⟩
theorem Av.zero (x : Rat) : Av 0 x 0 := ⟨0, far_zero, rfl⟩
theorem Av.neg {f : Ser Rat} {x v : Rat} (h : Av f x v) : Av (-f) x (-v) := by
  have := (Av.C (-1) x).mul h
  have e : Ser.C (-1) * f = -f := Ser.ext fun j => by
    rw [Ser.C_mul_co, Ser.neg_co]; grind
  rw [e] at this
  rw [show -v = -1 * v by grind]
  exact this
theorem Av.sub {f g : Ser Rat} {x v w : Rat} (h : Av f x v) (h' : Av g x w) : Av (f - g) x (v - w) := by
  have := h.add h'.neg
  have e : f + -g = f - g := by grind
  rw [e] at this
  rw [show v - w = v + -w by grind]
  exact this
theorem ev_qs (x : Rat) : ∀ xs : List Int, Av (qs (ser xs)) x (ev x xs)
  | [] => by
    rw [ser_nil, qs_zero]
    exact Av.zero x
  | c :: r => by
    have ih := ev_qs x r
    obtain ⟨n, a, e⟩ := ih
    refine ⟨n + 1, fun j hj => ?_, ?_⟩
    · cases j with
      | zero => omega
      | succ j => exact a j (by omega)
    · show ((c : Int) : Rat) + x * evQ x n (qs (ser (c :: r))).tl = _
      have : (qs (ser (c :: r))).tl = qs (ser r) := rfl
      rw [this, e]; rfl
/-- a told polynomial's value -/
theorem P.val {f : Ser Rat} {r : List Int} {d : Int} (h : P f r d) (x : Rat) : Av f x (ev x r / (d : Rat)) := by
  have e := ev_qs x r
  rw [← h.eq] at e
  have m := (Av.C ((d : Rat)⁻¹) x).mul e
  rw [← Lean.Grind.Semiring.mul_assoc, ← C_mul, Rat.inv_mul_cancel _ h.dq] at m
  have o : Ser.C (1 : Rat) * f = f := by rw [C_one]; grind
  rw [o] at m
  rw [Rat.div_def, Rat.mul_comm]
  exact m
section
variable {M : Type}
theorem one_dv (w : Rat) (d : Int) : ((w.num : Rat) / (((w.den : Int) * d : Int) : Rat)) = w / (d : Rat) := by
  have n := num_den w
  rw [Rat.intCast_mul]
  conv => rhs; rw [← n]
  rw [Rat.div_def, Rat.div_def, Rat.div_def, Rat.inv_mul_rev]
  grind
def b_rows_value_l {M : Type} : DS M :=
    (dThen (dSet 2 (dC (.int 0)))
    (dThen (dSet 3 (dC (.int 1)))
    (dThen (dFor (dRev false (dVar 0)) (dgN 4)
      (dThen (dSet 2 (dBin gAdd (dBin gMul (dVar 2) (dBin (gIx false) (dVar 1) (dC (.int 0)))) (dBin gMul (dVar 4) (dVar 3))))
    (dSet 3 (dBin gMul (dVar 3) (dBin (gIx false) (dVar 1) (dC (.int 1)))))))
    (dRet (dCall s_fractions_fraction [] (dCons (dBin gMul (dVar 2) (dBin (gIx false) (dVar 1) (dC (.int 1)))) (dCons (dVar 3) dNil)))))))

def s_rows_value_l {M : Type} : DSp M := fun ds m Q Z => ∃ xs p q c a aq, ds = [.tup (zz xs), .tup [.int p, .int q]] ∧ q ≠ 0 ∧ (∀ x ∈ xs, bd c x) ∧ bd a p ∧ bd a q ∧ bd aq q ∧ xs.length * aq + 1 ≤ 9000 ∧ vbits c a xs.length ≤ 100000 ∧
  ∀ v : Rat, v = ev ((p : Rat) / q) xs → Q (pq v) m
theorem vc_rows_value_l {M : Type} : ∀ ds (m : M) Q Z, s_rows_value_l ds m Q Z → okK [false, false] ds ∧ b_rows_value_l { nx := fun _ m' => Q .non m', rt := Q, ex := Z } (st0 [false, false] ds 5) m := by
  rintro ds m Q Z ⟨xs, p, q, c, a, aq, rfl, hq, hc, hp, hp2, hpq, h9, hv, k⟩
  refine ⟨⟨fun _ => nl_row xs, fun _ => rfl, trivial⟩, ?_⟩
  have hpq2 : bd aq q ∧ True := ⟨hpq, trivial⟩
  clear hpq
  unfold b_rows_value_l
  repeat walk_at "s"
  refine v_kforZr (fun r ρ m' => m' = m ∧ ∃ (s : List Int) (a4 : Sl), xs = r.reverse ++ s ∧ ρ = [.val (.tup (zz xs)), .val (.tup [.int p, .int q]), .val (.int (hom p q s)), .val (.int (q ^ s.length)), a4] ∧ bd (c + s.length * (a + 2)) (hom p q s))
    ⟨rfl, [], _, by simp, by rw [show hom p q [] = 0 from rfl, List.length_nil, Int.pow_zero]; rfl, bd0⟩ (fun ρ m' h => ?_) fun x r ρ m' h => ?_
  · obtain ⟨rfl, s, _, e, rfl, hb⟩ := h
    obtain rfl : xs = s := by simpa using e
    have b1 : bd (xs.length * aq + 1) (q ^ xs.length) := bd_pow hpq2.1 _
    have l1 := vb_le (c := c) (a := a) (Nat.le_succ xs.length)
    unfold vbits at hv
    have l2 : xs.length * aq + 1 ≤ 9000 := h9
    rw [Nat.succ_mul] at hv
    repeat walk_at "s"
    refine ⟨_, _, rfl, fun z => absurd z (Int.pow_ne_zero hq), fun _ => ⟨.inl (bd_mono b1 l2), ?_⟩⟩
    exact val_end hq hp2 hb fun v e _ _ => k v e
  · obtain ⟨rfl, s, _, e, rfl, hb⟩ := h
    have hx : x ∈ xs := by rw [e]; simp
    have bx := hc x hx
    have ls : s.length + 1 ≤ xs.length := by rw [e]; simp
    have b1 : bd (s.length * a + 1) (q ^ s.length) := bd_pow hp2 _
    have l1 := vb_le (c := c) (a := a) ls
    unfold vbits at hv
    rw [Nat.succ_mul] at l1
    have l0 : c + xs.length * (a + 2) ≤ 100000 := by rw [Nat.succ_mul] at hv; omega
    have l3 : s.length * (a + 2) = s.length * a + s.length * 2 := Nat.mul_add ..
    repeat walk_at "s"
    refine ⟨rfl, x :: s, .val (.int x), by rw [e]; simp, ?_, ?_⟩
    · rw [List.length_cons, Int.pow_succ]
      show [Sl.val (.tup (zz xs)), .val (.tup [.int p, .int q]), .val (.int (hom p q s * p + x * q ^ s.length)), .val (.int (q ^ s.length * q)), .val (.int x)] = [Sl.val (.tup (zz xs)), .val (.tup [.int p, .int q]), .val (.int (x * q ^ s.length + p * hom p q s)), .val (.int (q ^ s.length * q)), .val (.int x)]
      rw [Int.add_comm, Int.mul_comm p]
    · show bd _ (x * q ^ s.length + p * hom p q s)
      refine bd_mono (bd_add (bd_mul bx b1) (bd_mul hp hb)) ?_
      rw [List.length_cons, Nat.succ_mul]
      omega
def b_polys_value {M : Type} : DS M :=
    (dThen (dAsg (dCall s_rows_value_l [] (dCons (dBin (gIx false) (dVar 0) (dC (.int 0))) (dCons (dVar 1) dNil))) (dgT 2 (dgCons (dgN 2) (dgCons (dgN 3) dgNil))))
    (dRet (dCall s_fractions_fraction [] (dCons (dVar 2) (dCons (dBin gMul (dVar 3) (dBin (gIx false) (dVar 0) (dC (.int 1)))) dNil)))))
def s_polys_value {M : Type} : DSp M := fun ds m Q Z => ∃ f r d p q c a aq b, ds = [pd r d, .tup [.int p, .int q]] ∧ P f r d ∧ q ≠ 0 ∧ (∀ x ∈ r, bd c x) ∧ bd b d ∧ bd a p ∧ bd a q ∧ bd aq q ∧ r.length * aq + 1 + b ≤ 9000 ∧ vbits c a r.length ≤ 100000 ∧
  ∀ v : Rat, Av f ((p : Rat) / q) v → bd (vbits c a r.length) v.num → bd (r.length * aq + 1 + b) (v.den : Int) → Q (pq v) m
theorem vc_polys_value {M : Type} : ∀ ds (m : M) Q Z, s_polys_value ds m Q Z → okK [false, false] ds ∧ b_polys_value { nx := fun _ m' => Q .non m', rt := Q, ex := Z } (st0 [false, false] ds 4) m := by
  rintro ds m Q Z ⟨f, r, d, p, q, c, a, aq, b, rfl, hP, q0, hc, hb, hp, hq, hq2, h9, hs, k⟩
  refine ⟨⟨fun _ => nl_pd, fun _ => rfl, trivial⟩, ?_⟩
  unfold b_polys_value
  repeat walk_at "o"
  refine ⟨r, p, q, c, a, aq, rfl, q0, hc, hp, hq, hq2, by omega, hs, fun v hv => ?_⟩
  have z := hom_val (n := p) q0 r
  rw [← hv] at z
  have qz : q ^ r.length ≠ 0 := Int.pow_ne_zero q0
  have hbd := hom_bd hp hq r hc
  have e1 := bd_num (n := hom p q r * q) (d := q ^ r.length) qz (bd_mul hbd hq)
  have e2 := bd_den (n := hom p q r * q) (d := q ^ r.length) qz (bd_pow hq2 _)
  rw [z] at e1 e2
  have n1 : bd (vbits c a r.length) v.num := bd_mono e1 (by unfold vbits; rw [Nat.succ_mul]; omega)
  clear e1
  repeat walk_at "o"
  have d0 := hP.pos
  have m0 : ((v.den : Int) * d) ≠ 0 := Int.mul_ne_zero (den_ne v) (by omega)
  have mb := bd_mul e2 hb
  refine ⟨v.num, (v.den : Int) * d, rfl, fun z => absurd z m0, fun _ => ⟨.inl (bd_mono mb (by omega)), ?_⟩⟩
  have e := one_dv v d
  have h1 := bd_num (n := v.num) (d := (v.den : Int) * d) m0 n1
  have h2 := bd_den (n := v.num) (d := (v.den : Int) * d) m0 mb
  have av := hP.val ((p : Rat) / q)
  rw [← hv, ← e] at av
  exact k _ av h1 h2
end
end RR

/-! V06b: the law's own values, fractions reckoned -/
namespace RR
open PySem PySem.Spec PyProof.Rows L2
local macro_rules | `(tactic| walk_at "bd") => `(tactic| first | assumption | exact bd_lit (by decide) | (with_reducible refine bd_mul ?_ ?_ <;> walk_at "bd") | (with_reducible refine bd_add ?_ ?_ <;> walk_at "bd") | (with_reducible refine bd_sub ?_ ?_ <;> walk_at "bd") | (with_reducible refine bd_neg ?_ <;> walk_at "bd"))
local macro_rules | `(tactic| walk_at "s") => `(tactic| with_reducible first
  | refine v_then ?_ | refine v_set ?_ | (apply v_var; · with_unfolding_all exact rfl) | refine v_bin ?_ | refine v_c ?_ | refine v_g0 ?_ | refine v_add ?_ | refine v_cons ?_ | refine v_nil ?_ | refine v_call ?_ | refine v_dB ?_ | refine v_next ?_ | refine v_ret ?_
  | refine v_ite ?_ | refine v_tst ?_ | refine v_kT ?_ | refine v_eqi ?_ | refine v_nei ?_ | refine v_eqr ?_ | refine v_ner ?_ | refine v_eqr0 ?_ | refine v_ner0 ?_ | refine v_eql ?_ | refine v_nel ?_ | refine v_eql0 ?_ | refine v_nel0 ?_ | refine v_isN ?_ | refine v_notN ?_
  | (apply v_bor; · with_unfolding_all exact rfl) | (apply v_own; · with_unfolding_all exact rfl) | refine v_tup ?_ | refine v_lst ?_ | (refine v_sz ?_ ?_; (· with_unfolding_all exact Nat.le_of_ble_eq_true rfl)) | (refine v_gIIz ?_ ?_; (· first | decide | omega))
  | refine v_lentz ?_ | refine v_lenlz ?_ | refine v_lent ?_ | refine v_lenl ?_ | refine v_I1 ?_ | refine v_I2 ?_ | refine v_int ?_ | refine v_seqlz ?_ | refine v_seqtz ?_ | refine v_sl ?_ | refine v_kSll ?_ | refine v_kSlt ?_ | refine v_ono ?_ | refine v_oso ?_ | refine v_kOS ?_
  | refine v_val ?_ | refine v_kVb ?_ | refine v_kVi ?_ | refine v_kVt ?_ | refine v_kVl ?_ | refine v_and ?_ | refine v_or ?_ | refine v_not ?_ | refine v_yes ?_ | refine v_if' ?_ | refine v_isi ?_ | refine v_kIii ?_ | refine v_kIib ?_ | refine v_kItt ?_
  | refine v_andV ?_ | refine v_orV ?_ | refine v_notV ?_ | refine v_kNV ?_ | refine v_neg ?_ | refine v_kNeg ?_ | refine v_seq ?_ | refine v_kSeql ?_ | refine v_kSeqt ?_ | refine v_rng1 ?_ | refine v_rng2 ?_ | refine v_enum ?_ | refine v_revr ?_ | refine v_rev ?_
  | (refine v_kR1 ?_ ?_ ?_; (· with_unfolding_all decide +kernel); (· with_unfolding_all decide +kernel))
  | (refine v_kR2 ?_ ?_ ?_ ?_ ?_; (· with_unfolding_all decide +kernel); (· with_unfolding_all decide +kernel); (· with_unfolding_all decide +kernel); (· with_unfolding_all decide +kernel))
  | refine v_gn ?_ | refine v_gt2 ?_ | refine v_gt3 ?_ | refine v_lc ?_ | refine v_for ?_ | refine v_setO ?_ | refine v_drop ?_ | (apply v_app; · with_unfolding_all exact rfl) | (apply v_setI; · with_unfolding_all exact rfl) | (apply v_rel; · with_unfolding_all exact rfl) | refine v_raise ?_ | refine v_par ?_ | refine v_kP ?_ | refine v_asg ?_
  | (apply v_aug; · with_unfolding_all exact rfl) | refine v_ifT ?_ | refine v_ifF ?_ | (refine v_pow ?_ ?_ ?_ ?_; (· with_unfolding_all decide +kernel); (· with_unfolding_all decide +kernel); (· with_unfolding_all decide +kernel)) | refine v_call0 ?_ | (apply v_lenr; · assumption) | (apply v_seqr; · assumption) | (apply v_kSeqr; · assumption) | (apply v_kSlr; · assumption)
  | refine v_ix0 ?_ | refine v_ix1 ?_ | refine v_ix2 ?_ | refine v_zip ?_ | refine v_kZl ?_ | refine v_kZt ?_ | (apply v_augI; · with_unfolding_all exact rfl) | refine v_try ?_ | refine v_isE ?_ | (refine v_kIE ?_ ?_; (· with_unfolding_all exact rfl)) | refine v_isB ?_ | refine v_notB ?_ | refine v_all ?_ | refine v_par3 ?_ | refine v_ifnT ?_ | refine v_ifnF ?_ | refine v_eqs ?_ | refine v_nes ?_ | refine v_rvs ?_ | refine v_kRvl ?_ | refine v_kRvt ?_
  | (refine v_mulb (a := ?a) (b := ?b) ?ha ?hb ?l ?h; (case ha => assumption); (case hb => assumption); (case l => omega)) | (refine v_fdivb (b := ?b) ?h0 ?hb ?l ?h; (case h0 => assumption); (case hb => assumption); (case l => omega)))
local macro_rules | `(tactic| walk_at "o") => `(tactic| first | walk_at "s" | with_reducible first
  | refine v_chn ?_ | refine v_signs ?_ | refine v_kSg ?_ | refine v_inS ?_ | refine v_ninS ?_ | (refine v_inQ2 ?_ ?_ ?_ ?_; (· first | assumption | (with_unfolding_all decide +kernel)); (· with_unfolding_all decide +kernel); (· with_unfolding_all decide +kernel)) | (refine v_inQ3 ?_ ?_ ?_ ?_ ?_; (· first | assumption | (with_unfolding_all decide +kernel)); (· with_unfolding_all decide +kernel); (· with_unfolding_all decide +kernel); (· with_unfolding_all decide +kernel)) | (refine v_inQ4 ?_ ?_ ?_ ?_ ?_ ?_; (· first | assumption | (with_unfolding_all decide +kernel)); (· with_unfolding_all decide +kernel); (· with_unfolding_all decide +kernel); (· with_unfolding_all decide +kernel); (· with_unfolding_all decide +kernel))
  | refine v_inF ?_ | refine v_getF ?_ | refine v_kGF ?_ | (refine v_gGetF ?_ ?_; (· with_unfolding_all exact rfl)) | refine v_slS ?_ | (refine v_kSS ?_ ?_; (· first | assumption | omega)) | refine v_intUi ?_ | (refine v_lens ?_ ?_; (· first | assumption | omega)) | refine v_dH ?_ | refine v_hInt ?_ | refine v_hNeg ?_ | refine v_fset ?_
  | (apply v_hVar; (· with_unfolding_all exact rfl); (· rfl)))
section
variable {M : Type}
def b__law_value_k06 {M : Type} : DS M :=
    (dThen (dAsg (dTup (dCons (dC (.int 0)) (dCons (dC (.int 1)) (dCons (dC (.int 1)) dNil)))) (dgT 3 (dgCons (dgN 2) (dgCons (dgN 3) (dgCons (dgN 4) dgNil)))))
    (dThen (dFor (dSeq false (dBin (gIx false) (dVar 0) (dC (.int 0)))) (dgN 5)
      (dThen (dSet 2 (dBin gAdd (dBin gMul (dVar 2) (dBin (gIx false) (dVar 1) (dC (.int 1)))) (dBin gMul (dVar 5) (dVar 3))))
    (dThen (dSet 3 (dBin gMul (dVar 3) (dBin (gIx false) (dVar 1) (dC (.int 0)))))
    (dSet 4 (dBin gMul (dVar 4) (dBin (gIx false) (dVar 1) (dC (.int 1))))))))
    (dRet (dCall s__law_lowest [] (dCons (dBin gMul (dVar 2) (dBin (gIx false) (dVar 1) (dC (.int 1)))) (dCons (dBin gMul (dVar 4) (dBin (gIx false) (dVar 0) (dC (.int 1)))) dNil))))))
def s__law_value_k06 {M : Type} : DSp M := s_polys_value
theorem vc__law_value_k06 {M : Type} : ∀ ds (m : M) Q Z, s__law_value_k06 ds m Q Z → okK [false, false] ds ∧ b__law_value_k06 { nx := fun _ m' => Q .non m', rt := Q, ex := Z } (st0 [false, false] ds 6) m := by
  rintro ds m Q Z ⟨f, xs, d, p, q, c, a, aq, b, rfl, hP, hq, hc, hb, hp, hp2, hpq, h9, hv, k⟩
  refine ⟨⟨fun _ => nl_pd, fun _ => rfl, trivial⟩, ?_⟩
  have d0 := hP.pos
  unfold b__law_value_k06
  repeat walk_at "o"
  refine v_kforZ (fun r ρ m' => m' = m ∧ ∃ (s : List Int) (a5 : Sl), xs = s ++ r ∧ ρ = [.val (pd xs d), .val (.tup [.int p, .int q]), .val (.int (hom p q s)), .val (.int (p ^ s.length)), .val (.int (q ^ s.length)), a5]) xs
    ⟨rfl, [], _, by simp, by rw [show hom p q [] = 0 from rfl, List.length_nil, Int.pow_zero, Int.pow_zero]; rfl⟩ (fun ρ m' h => ?_) fun x r ρ m' h => ?_
  · obtain ⟨rfl, s, _, e, rfl⟩ := h
    obtain rfl : xs = s := by simpa using e
    have hbd := hom_bd hp hp2 xs hc
    have b1 : bd (xs.length * aq + 1) (q ^ xs.length) := bd_pow hpq _
    clear hpq
    unfold vbits at hv k
    rw [Nat.succ_mul] at hv k
    have m0 : q ^ xs.length * d ≠ 0 := Int.mul_ne_zero (Int.pow_ne_zero hq) (by omega)
    have mb := bd_mul b1 hb
    repeat walk_at "o"
    refine ⟨hom p q xs * q, q ^ xs.length * d, rfl, m0, bd_mono mb (by omega), ?_⟩
    have e2 : ((hom p q xs * q : Int) : Rat) / ((q ^ xs.length * d : Int) : Rat) = ev ((p : Rat) / q) xs / (d : Rat) := by
      rw [← hom_val hq xs, Rat.intCast_mul (q ^ xs.length) d, Rat.div_def, Rat.div_def, Rat.div_def, Rat.inv_mul_rev]
      grind
    have av := hP.val ((p : Rat) / q)
    rw [← e2] at av
    exact k _ av (bd_num m0 (bd_mono (bd_mul hbd hp2) (by omega))) (bd_den m0 (bd_mono mb (by omega)))
  · obtain ⟨rfl, s, _, e, rfl⟩ := h
    have hx : x ∈ xs := by rw [e]; simp
    have bx := hc x hx
    have ls : s.length + 1 ≤ xs.length := by rw [e]; simp
    have hbd := hom_bd (c := c) hp hp2 s fun y hy => hc y (by rw [e]; simp [hy])
    have b1 : bd (s.length * a + 1) (q ^ s.length) := bd_pow hp2 _
    have b2 : bd (s.length * a + 1) (p ^ s.length) := bd_pow hp _
    have l1 := vb_le (c := c) (a := a) ls
    unfold vbits at hv
    rw [Nat.succ_mul] at l1
    have l0 : c + xs.length * (a + 2) ≤ 100000 := by rw [Nat.succ_mul] at hv; omega
    clear hpq
    have l3 : s.length * (a + 2) = s.length * a + s.length * 2 := Nat.mul_add ..
    repeat walk_at "o"
    refine ⟨rfl, s ++ [x], .val (.int x), by rw [e]; simp, ?_⟩
    rw [hom_snoc, List.length_append, List.length_singleton, Int.pow_succ, Int.pow_succ]
    rfl
def b__law_reckoned {M : Type} : DS M :=
    (dThen (dIte (dTst (dBin gEq (dVar 2) (dC (.int 2))))
      (dRet (dCall s__law_lowest [] (dCons (dBin gMul (dBin (gIx false) (dVar 0) (dC (.int 0))) (dBin (gIx false) (dVar 1) (dC (.int 0)))) (dCons (dBin gMul (dBin (gIx false) (dVar 0) (dC (.int 1))) (dBin (gIx false) (dVar 1) (dC (.int 1)))) dNil))))
      dNext)
    (dRet (dCall s__law_lowest [] (dCons (dBin gAdd (dBin gMul (dBin (gIx false) (dVar 0) (dC (.int 0))) (dBin (gIx false) (dVar 1) (dC (.int 1)))) (dBin gMul (dBin gMul (dBin (g0 fun i j => .int (i - j)) (dC (.int 1)) (dBin gMul (dC (.int 2)) (dVar 2))) (dBin (gIx false) (dVar 1) (dC (.int 0)))) (dBin (gIx false) (dVar 0) (dC (.int 1))))) (dCons (dBin gMul (dBin (gIx false) (dVar 0) (dC (.int 1))) (dBin (gIx false) (dVar 1) (dC (.int 1)))) dNil)))))
/-- sum, difference, product -/
def rk (s : Nat) (v w : Rat) : Rat := if s = 2 then v * w else if s = 0 then v + w else v - w
def s__law_reckoned {M : Type} : DSp M := fun ds m Q Z => ∃ (v w : Rat) (s a b : Nat), ds = [pq v, pq w, .int s] ∧ s ≤ 2 ∧ bd a v.num ∧ bd a (v.den : Int) ∧ bd b w.num ∧ bd b (w.den : Int) ∧ a + b ≤ 8000 ∧ (bd (a + b + 3) (rk s v w).num → bd (a + b) ((rk s v w).den : Int) → Q (pq (rk s v w)) m)
theorem rk_val (s : Nat) (hs : s ≤ 2) (h : s ≠ 2) (v w : Rat) : ((v.num * w.den + (1 - 2 * (s : Int)) * w.num * v.den : Int) : Rat) / ((v.den * w.den : Int) : Rat) = rk s v w := by
  have nv := num_den v
  have nw := num_den w
  have n1 : ((v.den : Int) : Rat) ≠ 0 := cne (den_ne v)
  have n2 : ((w.den : Int) : Rat) ≠ 0 := cne (den_ne w)
  have i1 := Rat.mul_inv_cancel _ n1
  have i2 := Rat.mul_inv_cancel _ n2
  rw [Rat.div_def] at nv nw
  have : s = 0 ∨ s = 1 := by omega
  rcases this with rfl | rfl
  · unfold rk
    rw [if_neg (by decide), if_pos rfl, Rat.div_def]
    simp only [Rat.intCast_mul, Rat.intCast_add]
    rw [Rat.inv_mul_rev]
    have o : ((1 - 2 * ((0 : Nat) : Int) : Int) : Rat) = 1 := rfl
    rw [o]
    grind
  · unfold rk
    rw [if_neg (by decide), if_neg (by decide), Rat.div_def]
    simp only [Rat.intCast_mul, Rat.intCast_add]
    rw [Rat.inv_mul_rev]
    have o : ((1 - 2 * ((1 : Nat) : Int) : Int) : Rat) = -1 := rfl
    rw [o]
    grind
theorem mul_val (v w : Rat) : ((v.num * w.num : Int) : Rat) / ((v.den * w.den : Int) : Rat) = v * w := by
  have nv := num_den v
  have nw := num_den w
  rw [Rat.div_def] at nv nw
  rw [Rat.div_def, Rat.intCast_mul, Rat.intCast_mul, Rat.inv_mul_rev]
  grind
theorem vc__law_reckoned {M : Type} : ∀ ds (m : M) Q Z, s__law_reckoned ds m Q Z → okK [false, false, false] ds ∧ b__law_reckoned { nx := fun _ m' => Q .non m', rt := Q, ex := Z } (st0 [false, false, false] ds 3) m := by
  rintro ds m Q Z ⟨v, w, s, a, b, rfl, hs, h1, h2, h3, h4, hl, k⟩
  refine ⟨⟨fun _ => rfl, fun _ => rfl, fun _ => rfl, trivial⟩, ?_⟩
  unfold b__law_reckoned
  have m0 : ((v.den : Int) * w.den) ≠ 0 := Int.mul_ne_zero (den_ne v) (den_ne w)
  have mb := bd_mul h2 h4
  have nb := bd_mul h1 h3
  repeat walk_at "o"
  by_cases c : s = 2
  · have e := mul_val v w
    have er : rk s v w = v * w := by unfold rk; rw [if_pos c]
    rw [er] at k
    rw [show decide ((s : Int) = 2) = true from decide_eq_true (by omega)]
    try ((with_reducible show @ite _ _ _ _ _); refine v_ifT ?_)
    repeat walk_at "o"
    refine ⟨v.num * w.num, (v.den : Int) * w.den, rfl, m0, bd_mono mb (by omega), ?_⟩
    have b1 := bd_num m0 nb
    have b2 := bd_den (n := v.num * w.num) m0 mb
    rw [e] at b1 b2 ⊢
    exact k (bd_mono b1 (by omega)) b2
  · have e := rk_val s hs c v w
    rw [show decide ((s : Int) = 2) = false from decide_eq_false (by omega)]
    try ((with_reducible show @ite _ _ _ _ _); refine v_ifF ?_)
    have b20 : bd 2 (2 : Int) := by unfold bd; decide
    have bs : bd 2 (s : Int) := by unfold bd; rw [Int.natAbs_natCast]; omega
    have bo : bd 1 (1 - 2 * (s : Int)) := by unfold bd; omega
    have bw := bd_mul bo h3
    repeat walk_at "o"
    have b5 : bd (a + b + 3) (v.num * w.den + (1 - 2 * (s : Int)) * w.num * v.den) := bd_mono (bd_add (bd_mul h1 h4) (bd_mul bw h2)) (by omega)
    refine ⟨_, (v.den : Int) * w.den, rfl, m0, bd_mono mb (by omega), ?_⟩
    have b1 := bd_num m0 b5
    have b2 := bd_den (n := v.num * w.den + (1 - 2 * (s : Int)) * w.num * v.den) m0 mb
    rw [e] at b1 b2 ⊢
    exact k b1 b2
end
def b__law_fraction : DS (Option Nat) :=
    (dRet (dCall s__law_lowest [] (dCons (dCall s__law_whole [] (dCons (dVar 0) dNil)) (dCons (dBin (gIx false) (dLst (dCons (dC (.int 1)) (dCons (dBin gAdd (dC (.int 1)) (dCall s__law_draw [] (dCons (dVar 0) (dCons (dC (.int 12)) dNil)))) (dCons (dBin gAdd (dC (.int 1)) (dCall s__law_draw [] (dCons (dVar 0) (dCons (dBin (gII CPow fun i j => .int (i ^ j.toNat)) (dC (.int 10)) (dC (.int 6))) dNil)))) dNil)))) (dCall s__law_draw [] (dCons (dVar 0) (dCons (dC (.int 3)) dNil)))) dNil))))
def s__law_fraction : DSp (Option Nat) := fun ds m Q Z => ∃ N : Nat, ds = [.hnd hdl] ∧ m = some N ∧ 6 ≤ N ∧ ∀ (v : Rat) (N' : Nat), bd 201 v.num → bd 20 (v.den : Int) → N ≤ N' + 6 → Q (pq v) (some N')
theorem vc__law_fraction : ∀ ds (m : Option Nat) Q Z, s__law_fraction ds m Q Z → okK [false] ds ∧ b__law_fraction { nx := fun _ m' => Q .non m', rt := Q, ex := Z } (st0 [false] ds 1) m := by
  rintro ds m Q Z ⟨N, rfl, rfl, hN, k⟩
  refine ⟨⟨fun _ => rfl, trivial⟩, ?_⟩
  unfold b__law_fraction
  repeat walk_at "o"
  refine ⟨N, rfl, rfl, by omega, fun n N1 bn hN1 => ?_⟩
  repeat walk_at "o"
  refine v_drawN (by omega) (by decide) (by decide) fun x x0 x1 => ?_
  repeat walk_at "o"
  refine v_drawN (by omega) (by decide) (by decide) fun y y0 y1 => ?_
  repeat walk_at "o"
  refine v_drawN (by omega) (by decide) (by decide) fun z z0 z1 => ?_
  refine v_ixl (xs := [1, 1 + x, 1 + y]) z0 z1 ?_
  have hm : ∀ s ∈ [1, 1 + x, 1 + y], (1 : Int) ≤ s ∧ s ≤ 1000000 := by
    have : ((10 : Int) ^ (6 : Int).toNat) = 1000000 := by decide
    intro s hs; simp at hs; rcases hs with rfl | rfl | rfl <;> omega
  obtain ⟨d1, d2⟩ := hm _ (nth_mem z0 z1)
  generalize nth [1, 1 + x, 1 + y] z = d at d1 d2 ⊢
  have b20 : bd 20 d := by unfold bd; omega
  repeat walk_at "o"
  refine ⟨n, d, rfl, by omega, bd_mono b20 (by decide), ?_⟩
  exact k _ _ (bd_num (by omega) bn) (bd_den (by omega) b20) (by omega)
end RR

/-! V06p: sums of polynomials, fractions, with larger limits -/
namespace RR
open PySem PySem.Spec PyProof.Rows L2
local macro_rules | `(tactic| walk_at "bd") => `(tactic| first | assumption | exact bd_lit (by decide) | (with_reducible refine bd_mul ?_ ?_ <;> walk_at "bd") | (with_reducible refine bd_add ?_ ?_ <;> walk_at "bd") | (with_reducible refine bd_sub ?_ ?_ <;> walk_at "bd") | (with_reducible refine bd_neg ?_ <;> walk_at "bd"))
local macro_rules | `(tactic| walk_at "s") => `(tactic| with_reducible first
  | refine v_then ?_ | refine v_set ?_ | (apply v_var; · with_unfolding_all exact rfl) | refine v_bin ?_ | refine v_c ?_ | refine v_g0 ?_ | refine v_add ?_ | refine v_cons ?_ | refine v_nil ?_ | refine v_call ?_ | refine v_dB ?_ | refine v_next ?_ | refine v_ret ?_
  | refine v_ite ?_ | refine v_tst ?_ | refine v_kT ?_ | refine v_eqi ?_ | refine v_nei ?_ | refine v_eqr ?_ | refine v_ner ?_ | refine v_eqr0 ?_ | refine v_ner0 ?_ | refine v_eql ?_ | refine v_nel ?_ | refine v_eql0 ?_ | refine v_nel0 ?_ | refine v_isN ?_ | refine v_notN ?_
  | (apply v_bor; · with_unfolding_all exact rfl) | (apply v_own; · with_unfolding_all exact rfl) | refine v_tup ?_ | refine v_lst ?_ | (refine v_sz ?_ ?_; (· with_unfolding_all exact Nat.le_of_ble_eq_true rfl)) | (refine v_gIIz ?_ ?_; (· first | decide | omega))
  | refine v_lentz ?_ | refine v_lenlz ?_ | refine v_lent ?_ | refine v_lenl ?_ | refine v_I1 ?_ | refine v_I2 ?_ | refine v_int ?_ | refine v_seqlz ?_ | refine v_seqtz ?_ | refine v_sl ?_ | refine v_kSll ?_ | refine v_kSlt ?_ | refine v_ono ?_ | refine v_oso ?_ | refine v_kOS ?_
  | refine v_val ?_ | refine v_kVb ?_ | refine v_kVi ?_ | refine v_kVt ?_ | refine v_kVl ?_ | refine v_and ?_ | refine v_or ?_ | refine v_not ?_ | refine v_yes ?_ | refine v_if' ?_ | refine v_isi ?_ | refine v_kIii ?_ | refine v_kIib ?_ | refine v_kItt ?_
  | refine v_andV ?_ | refine v_orV ?_ | refine v_notV ?_ | refine v_kNV ?_ | refine v_neg ?_ | refine v_kNeg ?_ | refine v_seq ?_ | refine v_kSeql ?_ | refine v_kSeqt ?_ | refine v_rng1 ?_ | refine v_rng2 ?_ | refine v_enum ?_ | refine v_revr ?_ | refine v_rev ?_
  | (refine v_kR1 ?_ ?_ ?_; (· with_unfolding_all decide +kernel); (· with_unfolding_all decide +kernel))
  | (refine v_kR2 ?_ ?_ ?_ ?_ ?_; (· with_unfolding_all decide +kernel); (· with_unfolding_all decide +kernel); (· with_unfolding_all decide +kernel); (· with_unfolding_all decide +kernel))
  | refine v_gn ?_ | refine v_gt2 ?_ | refine v_gt3 ?_ | refine v_lc ?_ | refine v_for ?_ | refine v_setO ?_ | refine v_drop ?_ | (apply v_app; · with_unfolding_all exact rfl) | (apply v_setI; · with_unfolding_all exact rfl) | (apply v_rel; · with_unfolding_all exact rfl) | refine v_raise ?_ | refine v_par ?_ | refine v_kP ?_ | refine v_asg ?_
  | (apply v_aug; · with_unfolding_all exact rfl) | refine v_ifT ?_ | refine v_ifF ?_ | (refine v_pow ?_ ?_ ?_ ?_; (· with_unfolding_all decide +kernel); (· with_unfolding_all decide +kernel); (· with_unfolding_all decide +kernel)) | refine v_call0 ?_ | (apply v_lenr; · assumption) | (apply v_seqr; · assumption) | (apply v_kSeqr; · assumption) | (apply v_kSlr; · assumption)
  | refine v_ix0 ?_ | refine v_ix1 ?_ | refine v_ix2 ?_ | refine v_zip ?_ | refine v_kZl ?_ | refine v_kZt ?_ | (apply v_augI; · with_unfolding_all exact rfl) | refine v_try ?_ | refine v_isE ?_ | (refine v_kIE ?_ ?_; (· with_unfolding_all exact rfl)) | refine v_isB ?_ | refine v_notB ?_ | refine v_all ?_ | refine v_par3 ?_ | refine v_ifnT ?_ | refine v_ifnF ?_ | refine v_eqs ?_ | refine v_nes ?_ | refine v_rvs ?_ | refine v_kRvl ?_ | refine v_kRvt ?_
  | (refine v_mulb (a := ?a) (b := ?b) ?ha ?hb ?l ?h; (case ha => assumption); (case hb => assumption); (case l => omega)) | (refine v_fdivb (b := ?b) ?h0 ?hb ?l ?h; (case h0 => assumption); (case hb => assumption); (case l => omega)))
local macro_rules | `(tactic| walk_at "o") => `(tactic| first | walk_at "s" | with_reducible first
  | refine v_chn ?_ | refine v_signs ?_ | refine v_kSg ?_ | refine v_inS ?_ | refine v_ninS ?_ | (refine v_inQ2 ?_ ?_ ?_ ?_; (· first | assumption | (with_unfolding_all decide +kernel)); (· with_unfolding_all decide +kernel); (· with_unfolding_all decide +kernel)) | (refine v_inQ3 ?_ ?_ ?_ ?_ ?_; (· first | assumption | (with_unfolding_all decide +kernel)); (· with_unfolding_all decide +kernel); (· with_unfolding_all decide +kernel); (· with_unfolding_all decide +kernel)) | (refine v_inQ4 ?_ ?_ ?_ ?_ ?_ ?_; (· first | assumption | (with_unfolding_all decide +kernel)); (· with_unfolding_all decide +kernel); (· with_unfolding_all decide +kernel); (· with_unfolding_all decide +kernel); (· with_unfolding_all decide +kernel))
  | refine v_inF ?_ | refine v_getF ?_ | refine v_kGF ?_ | (refine v_gGetF ?_ ?_; (· with_unfolding_all exact rfl)) | refine v_slS ?_ | (refine v_kSS ?_ ?_; (· first | assumption | omega)) | refine v_intUi ?_ | (refine v_lens ?_ ?_; (· first | assumption | omega)) | refine v_dH ?_ | refine v_hInt ?_ | refine v_hNeg ?_ | refine v_fset ?_
  | (apply v_hVar; (· with_unfolding_all exact rfl); (· rfl)))
section
variable {M : Type}
def b_polys_plus_l {M : Type} : DS M :=
    (dRet (dCall s_polys_poly [] (dCons (dCall s_rows_plus [] (dCons (dCall s_rows_scaled [] (dCons (dBin (gIx false) (dVar 0) (dC (.int 0))) (dCons (dBin (gIx false) (dVar 1) (dC (.int 1))) dNil))) (dCons (dCall s_rows_scaled [] (dCons (dBin (gIx false) (dVar 1) (dC (.int 0))) (dCons (dBin (gIx false) (dVar 0) (dC (.int 1))) dNil))) dNil))) (dCons (dBin gMul (dBin (gIx false) (dVar 0) (dC (.int 1))) (dBin (gIx false) (dVar 1) (dC (.int 1)))) dNil))))
/-- the sizes of rows and of what is below apart -/
structure PL (n a e : Nat) (r : List Int) (d : Int) : Prop where
  ln : r.length ≤ n
  bd : ∀ x ∈ r, RR.bd a x
  dd : RR.bd e d
theorem PB.pl {n a : Nat} {r : List Int} {d : Int} (h : PB n a r d) : PL n a a r d := ⟨h.ln, h.bd, h.dd⟩
def s_polys_plus_l {M : Type} : DSp M := fun ds m Q Z => s_polys_plus ds m Q Z ∨ ∃ f g r d r' d' n a e n' b e', ds = [pd r d, pd r' d'] ∧ P f r d ∧ P g r' d' ∧ PL n a e r d ∧ PL n' b e' r' d' ∧ n ≤ 1000000 ∧ n' ≤ 1000000 ∧ a + b ≤ 100000 ∧ e + e' ≤ 9000 ∧
  ∀ r'' d'', P (f + g) r'' d'' → Q (pd r'' d'') m
theorem vc_polys_plus_l {M : Type} : ∀ ds (m : M) Q Z, s_polys_plus_l ds m Q Z → okK [false, false] ds ∧ b_polys_plus_l { nx := fun _ m' => Q .non m', rt := Q, ex := Z } (st0 [false, false] ds 2) m := by
  intro ds m Q Z h
  rcases h with h | ⟨f, g, r, d, r', d', n, a, e, n', b, e', rfl, hf, hg, pf, pg, hn, hn', hab, hee, q⟩
  · exact vc_polys_plus ds m Q Z h
  refine ⟨⟨fun _ => nl_pd, fun _ => nl_pd, trivial⟩, ?_⟩
  unfold b_polys_plus_l
  have ln := pf.ln
  have ln' := pg.ln
  have bd1 := pf.dd
  have bd2 := pg.dd
  repeat walk_at "s"
  refine ⟨r, d', a, e', rfl, by omega, pf.bd, bd2, by omega, fun s1 hs1 => ?_⟩
  have B1 : B n (a + e') (ser s1) := by rw [hs1.sr]; exact (B.scale bd2 (B.of ln pf.bd)).mono (Nat.le_refl _) (by omega)
  have l1 := (R.mk hs1.dn rfl).len B1
  repeat walk_at "s"
  refine ⟨r', d, b, e, rfl, by omega, pg.bd, bd1, by omega, fun s2 hs2 => ?_⟩
  have B2 : B n' (b + e) (ser s2) := by rw [hs2.sr]; exact (B.scale bd1 (B.of ln' pg.bd)).mono (Nat.le_refl _) (by omega)
  have l2 := (R.mk hs2.dn rfl).len B2
  repeat walk_at "s"
  refine ⟨s1, s2, rfl, by omega, by omega, fun s hs => ?_⟩
  have dp := hf.pos
  have dp' := hg.pos
  have d0 : d * d' ≠ 0 := Int.mul_ne_zero (by omega) (by omega)
  have eq : Ser.C ((d * d' : Int) : Rat) * (f + g) = qs (ser s) := by
    have e1 := hf.eq
    have e2 := hg.eq
    rw [hs.sr, hs1.sr, hs2.sr, qs_add, qs_mul, qs_mul, qs_C, qs_C, ← e1, ← e2, Rat.intCast_mul, C_mul]
    grind
  have sB : B (max n n') (max (a + e') (b + e) + 1) (ser s) := by
    rw [hs.sr]
    exact ((B1.mono (Nat.le_refl _) (Nat.le_max_left _ (b + e))).add (B2.mono (Nat.le_refl _) (Nat.le_max_right (a + e') _))).mono (Nat.le_refl _) (by omega)
  have ls : s.length ≤ max n n' := (R.mk hs.dn rfl).len sB
  repeat walk_at "s"
  refine ⟨s, d * d', rfl, by omega, fun z => absurd z d0, fun _ => ⟨Sm.of (bd_mul bd1 bd2) ((R.mk hs.dn rfl).bds sB) (by omega), ?_⟩⟩
  exact q _ _ (low_P d0 hs.dn eq)
def b_polys_less_l {M : Type} : DS M :=
    (dRet (dCall s_polys_plus_l [] (dCons (dVar 0) (dCons (dCall s_polys_scaled [] (dCons (dVar 1) (dCons (dTup (dCons (dNeg (dC (.int 1))) (dCons (dC (.int 1)) dNil))) dNil))) dNil))))
def s_polys_less_l {M : Type} : DSp M := s_polys_less
theorem vc_polys_less_l {M : Type} : ∀ ds (m : M) Q Z, s_polys_less_l ds m Q Z → okK [false, false] ds ∧ b_polys_less_l { nx := fun _ m' => Q .non m', rt := Q, ex := Z } (st0 [false, false] ds 2) m := by
  rintro ds m Q Z ⟨f, g, r, d, r', d', n, a, n', b, rfl, hf, hg, pf, pg, hn, hn', hab, q⟩
  refine ⟨⟨fun _ => nl_pd, fun _ => nl_pd, trivial⟩, ?_⟩
  unfold b_polys_less_l
  repeat walk_at "s"
  refine ⟨g, r', d', -1, 1, n', b, 1, rfl, by decide, hg, pg, hn', bd_lit (by decide), bd_lit (by decide), by omega, fun s _ hP hB => ?_⟩
  have hP := hP (-g) (by rw [show ((1 : Int) : Rat) = 1 from rfl, show ((-1 : Int) : Rat) = -1 from rfl, C_neg, C_one]; grind)
  repeat walk_at "s"
  refine .inl ⟨f, -g, r, d, _, _, n, a, n', b + 1, rfl, hf, hP, pf, hB, hn, hn', by omega, fun r'' d'' h1 h2 => q r'' d'' (h1.cong (by grind)) (h2.mono (Nat.le_refl _) (by omega))⟩
theorem sub_val (u v : Rat) : ((u.num * v.den - v.num * u.den : Int) : Rat) / ((u.den * v.den : Int) : Rat) = u - v := by
  have h := rk_val 1 (by decide) (by decide) u v
  have e : u.num * v.den + (1 - 2 * ((1 : Nat) : Int)) * v.num * u.den = u.num * v.den - v.num * u.den := by
    rw [show (1 - 2 * ((1 : Nat) : Int)) = -1 from rfl]; grind
  rw [e] at h
  exact h
theorem over_val (u v : Rat) (h : v ≠ 0) : ((u.num * v.den : Int) : Rat) / ((u.den * v.num : Int) : Rat) = u / v := by
  have nu := num_den u
  have nv := num_den v
  have n2 : ((v.den : Int) : Rat) ≠ 0 := cne (den_ne v)
  have i2 := Rat.mul_inv_cancel _ n2
  rw [Rat.div_def] at nu nv
  rw [Rat.div_def, Rat.div_def, Rat.intCast_mul, Rat.intCast_mul, Rat.inv_mul_rev]
  have ev : v⁻¹ = ((v.num : Rat))⁻¹ * ((v.den : Int) : Rat) := by
    conv => lhs; rw [← nv]
    rw [Rat.inv_mul_rev, Rat.inv_inv, Rat.mul_comm]
  rw [ev]
  conv => rhs; rw [← nu]
  grind
def b_fractions_less {M : Type} : DS M :=
    (dRet (dCall s_fractions_fraction [] (dCons (dBin (g0 fun i j => .int (i - j)) (dBin gMul (dBin (gIx false) (dVar 0) (dC (.int 0))) (dBin (gIx false) (dVar 1) (dC (.int 1)))) (dBin gMul (dBin (gIx false) (dVar 1) (dC (.int 0))) (dBin (gIx false) (dVar 0) (dC (.int 1))))) (dCons (dBin gMul (dBin (gIx false) (dVar 0) (dC (.int 1))) (dBin (gIx false) (dVar 1) (dC (.int 1)))) dNil))))
def s_fractions_less {M : Type} : DSp M := fun ds m Q Z => ∃ (u v : Rat) (a a' b b' : Nat), ds = [pq u, pq v] ∧ bd a u.num ∧ bd a' (u.den : Int) ∧ bd b v.num ∧ bd b' (v.den : Int) ∧ a' + b' ≤ 9000 ∧ a + b ≤ 90000 ∧ (bd (max (a + b') (b + a') + 1) (u - v).num → bd (a' + b') ((u - v).den : Int) → Q (pq (u - v)) m)
theorem vc_fractions_less {M : Type} : ∀ ds (m : M) Q Z, s_fractions_less ds m Q Z → okK [false, false] ds ∧ b_fractions_less { nx := fun _ m' => Q .non m', rt := Q, ex := Z } (st0 [false, false] ds 2) m := by
  rintro ds m Q Z ⟨u, v, a, a', b, b', rfl, h1, h2, h3, h4, hl, hn, k⟩
  refine ⟨⟨fun _ => rfl, fun _ => rfl, trivial⟩, ?_⟩
  unfold b_fractions_less
  have m0 : ((u.den : Int) * v.den) ≠ 0 := Int.mul_ne_zero (den_ne u) (den_ne v)
  have mb := bd_mul h2 h4
  repeat walk_at "o"
  have e := sub_val u v
  refine ⟨_, (u.den : Int) * v.den, rfl, fun z => absurd z m0, fun _ => ⟨.inl (bd_mono mb (by omega)), ?_⟩⟩
  have nb : bd (max (a + b') (b + a') + 1) (u.num * v.den - v.num * u.den) := bd_mono (bd_sub (bd_mono (bd_mul h1 h4) (Nat.le_max_left _ (b + a'))) (bd_mono (bd_mul h3 h2) (Nat.le_max_right (a + b') _))) (by omega)
  have b1 := bd_num m0 nb
  have b2 := bd_den (n := u.num * v.den - v.num * u.den) m0 mb
  rw [e] at b1 b2 ⊢
  exact k b1 b2
def b_fractions_over {M : Type} : DS M :=
    (dRet (dCall s_fractions_fraction [] (dCons (dBin gMul (dBin (gIx false) (dVar 0) (dC (.int 0))) (dBin (gIx false) (dVar 1) (dC (.int 1)))) (dCons (dBin gMul (dBin (gIx false) (dVar 0) (dC (.int 1))) (dBin (gIx false) (dVar 1) (dC (.int 0)))) dNil))))
def s_fractions_over {M : Type} : DSp M := fun ds m Q Z => ∃ (u v : Rat) (a a' b b' : Nat), ds = [pq u, pq v] ∧ bd a u.num ∧ bd a' (u.den : Int) ∧ bd b v.num ∧ bd b' (v.den : Int) ∧ a' + b ≤ 9000 ∧ a + b' ≤ 90000 ∧ v ≠ 0 ∧ (bd (a + b') (u / v).num → bd (a' + b) ((u / v).den : Int) → Q (pq (u / v)) m)
theorem vc_fractions_over {M : Type} : ∀ ds (m : M) Q Z, s_fractions_over ds m Q Z → okK [false, false] ds ∧ b_fractions_over { nx := fun _ m' => Q .non m', rt := Q, ex := Z } (st0 [false, false] ds 2) m := by
  rintro ds m Q Z ⟨u, v, a, a', b, b', rfl, h1, h2, h3, h4, hl, hn, v0, k⟩
  refine ⟨⟨fun _ => rfl, fun _ => rfl, trivial⟩, ?_⟩
  unfold b_fractions_over
  have n0 : v.num ≠ 0 := fun z => v0 (by rw [← num_den v, z]; grind)
  have m0 : ((u.den : Int) * v.num) ≠ 0 := Int.mul_ne_zero (den_ne u) n0
  have mb := bd_mul h2 h3
  repeat walk_at "o"
  have e := over_val u v v0
  refine ⟨_, (u.den : Int) * v.num, rfl, fun z => absurd z m0, fun _ => ⟨.inl (bd_mono mb (by omega)), ?_⟩⟩
  have b1 := bd_num m0 (bd_mul h1 h4)
  have b2 := bd_den (n := u.num * v.den) m0 mb
  rw [e] at b1 b2 ⊢
  exact k b1 b2
end
end RR

/-! V06c: one polynomial put into another -/
namespace RR
open PySem PySem.Spec PyProof.Rows L2
local macro_rules | `(tactic| walk_at "bd") => `(tactic| first | assumption | exact bd_lit (by decide) | (with_reducible refine bd_mul ?_ ?_ <;> walk_at "bd") | (with_reducible refine bd_add ?_ ?_ <;> walk_at "bd") | (with_reducible refine bd_sub ?_ ?_ <;> walk_at "bd") | (with_reducible refine bd_neg ?_ <;> walk_at "bd"))
local macro_rules | `(tactic| walk_at "s") => `(tactic| with_reducible first
  | refine v_then ?_ | refine v_set ?_ | (apply v_var; · with_unfolding_all exact rfl) | refine v_bin ?_ | refine v_c ?_ | refine v_g0 ?_ | refine v_add ?_ | refine v_cons ?_ | refine v_nil ?_ | refine v_call ?_ | refine v_dB ?_ | refine v_next ?_ | refine v_ret ?_
  | refine v_ite ?_ | refine v_tst ?_ | refine v_kT ?_ | refine v_eqi ?_ | refine v_nei ?_ | refine v_eqr ?_ | refine v_ner ?_ | refine v_eqr0 ?_ | refine v_ner0 ?_ | refine v_eql ?_ | refine v_nel ?_ | refine v_eql0 ?_ | refine v_nel0 ?_ | refine v_isN ?_ | refine v_notN ?_
  | (apply v_bor; · with_unfolding_all exact rfl) | (apply v_own; · with_unfolding_all exact rfl) | refine v_tup ?_ | refine v_lst ?_ | (refine v_sz ?_ ?_; (· with_unfolding_all exact Nat.le_of_ble_eq_true rfl)) | (refine v_gIIz ?_ ?_; (· first | decide | omega))
  | refine v_lentz ?_ | refine v_lenlz ?_ | refine v_lent ?_ | refine v_lenl ?_ | refine v_I1 ?_ | refine v_I2 ?_ | refine v_int ?_ | refine v_seqlz ?_ | refine v_seqtz ?_ | refine v_sl ?_ | refine v_kSll ?_ | refine v_kSlt ?_ | refine v_ono ?_ | refine v_oso ?_ | refine v_kOS ?_
  | refine v_val ?_ | refine v_kVb ?_ | refine v_kVi ?_ | refine v_kVt ?_ | refine v_kVl ?_ | refine v_and ?_ | refine v_or ?_ | refine v_not ?_ | refine v_yes ?_ | refine v_if' ?_ | refine v_isi ?_ | refine v_kIii ?_ | refine v_kIib ?_ | refine v_kItt ?_
  | refine v_andV ?_ | refine v_orV ?_ | refine v_notV ?_ | refine v_kNV ?_ | refine v_neg ?_ | refine v_kNeg ?_ | refine v_seq ?_ | refine v_kSeql ?_ | refine v_kSeqt ?_ | refine v_rng1 ?_ | refine v_rng2 ?_ | refine v_enum ?_ | refine v_revr ?_ | refine v_rev ?_
  | (refine v_kR1 ?_ ?_ ?_; (· with_unfolding_all decide +kernel); (· with_unfolding_all decide +kernel))
  | (refine v_kR2 ?_ ?_ ?_ ?_ ?_; (· with_unfolding_all decide +kernel); (· with_unfolding_all decide +kernel); (· with_unfolding_all decide +kernel); (· with_unfolding_all decide +kernel))
  | refine v_gn ?_ | refine v_gt2 ?_ | refine v_gt3 ?_ | refine v_lc ?_ | refine v_for ?_ | refine v_setO ?_ | refine v_drop ?_ | (apply v_app; · with_unfolding_all exact rfl) | (apply v_setI; · with_unfolding_all exact rfl) | (apply v_rel; · with_unfolding_all exact rfl) | refine v_raise ?_ | refine v_par ?_ | refine v_kP ?_ | refine v_asg ?_
  | (apply v_aug; · with_unfolding_all exact rfl) | refine v_ifT ?_ | refine v_ifF ?_ | (refine v_pow ?_ ?_ ?_ ?_; (· with_unfolding_all decide +kernel); (· with_unfolding_all decide +kernel); (· with_unfolding_all decide +kernel)) | refine v_call0 ?_ | (apply v_lenr; · assumption) | (apply v_seqr; · assumption) | (apply v_kSeqr; · assumption) | (apply v_kSlr; · assumption)
  | refine v_ix0 ?_ | refine v_ix1 ?_ | refine v_ix2 ?_ | refine v_zip ?_ | refine v_kZl ?_ | refine v_kZt ?_ | (apply v_augI; · with_unfolding_all exact rfl) | refine v_try ?_ | refine v_isE ?_ | (refine v_kIE ?_ ?_; (· with_unfolding_all exact rfl)) | refine v_isB ?_ | refine v_notB ?_ | refine v_all ?_ | refine v_par3 ?_ | refine v_ifnT ?_ | refine v_ifnF ?_ | refine v_eqs ?_ | refine v_nes ?_ | refine v_rvs ?_ | refine v_kRvl ?_ | refine v_kRvt ?_
  | (refine v_mulb (a := ?a) (b := ?b) ?ha ?hb ?l ?h; (case ha => assumption); (case hb => assumption); (case l => omega)) | (refine v_fdivb (b := ?b) ?h0 ?hb ?l ?h; (case h0 => assumption); (case hb => assumption); (case l => omega)))
local macro_rules | `(tactic| walk_at "o") => `(tactic| first | walk_at "s" | with_reducible first
  | refine v_chn ?_ | refine v_signs ?_ | refine v_kSg ?_ | refine v_inS ?_ | refine v_ninS ?_ | (refine v_inQ2 ?_ ?_ ?_ ?_; (· first | assumption | (with_unfolding_all decide +kernel)); (· with_unfolding_all decide +kernel); (· with_unfolding_all decide +kernel)) | (refine v_inQ3 ?_ ?_ ?_ ?_ ?_; (· first | assumption | (with_unfolding_all decide +kernel)); (· with_unfolding_all decide +kernel); (· with_unfolding_all decide +kernel); (· with_unfolding_all decide +kernel)) | (refine v_inQ4 ?_ ?_ ?_ ?_ ?_ ?_; (· first | assumption | (with_unfolding_all decide +kernel)); (· with_unfolding_all decide +kernel); (· with_unfolding_all decide +kernel); (· with_unfolding_all decide +kernel); (· with_unfolding_all decide +kernel))
  | refine v_inF ?_ | refine v_getF ?_ | refine v_kGF ?_ | (refine v_gGetF ?_ ?_; (· with_unfolding_all exact rfl)) | refine v_slS ?_ | (refine v_kSS ?_ ?_; (· first | assumption | omega)) | refine v_intUi ?_ | (refine v_lens ?_ ?_; (· first | assumption | omega)) | refine v_dH ?_ | refine v_hInt ?_ | refine v_hNeg ?_ | refine v_fset ?_
  | (apply v_hVar; (· with_unfolding_all exact rfl); (· rfl)))
section
variable {M : Type}
/-- whole coefficients, the lowest first, with g for the letter -/
def cmpQ (g : Ser Rat) : List Int → Ser Rat
  | [] => 0
  | c :: s => cmpQ g s * g + Ser.C (c : Rat)
theorem cmpQ_av {g : Ser Rat} {x v : Rat} (h : Av g x v) : ∀ s : List Int, Av (cmpQ g s) x (ev v s)
  | [] => Av.zero x
  | c :: s => by
    have := ((cmpQ_av h s).mul h).add (Av.C (c : Rat) x)
    rw [show ev v s * v + (c : Rat) = ev v (c :: s) by
      show _ = (c : Rat) + v * ev v s
      grind] at this
    exact this
/-- r / d with g for the letter -/
def cmpP (g : Ser Rat) (r : List Int) (d : Int) : Ser Rat := Ser.C ((d : Rat)⁻¹) * cmpQ g r
theorem cmpP_av {g : Ser Rat} {x v : Rat} (h : Av g x v) (r : List Int) (d : Int) : Av (cmpP g r d) x (ev v r / (d : Rat)) := by
  have := (Av.C ((d : Rat)⁻¹) x).mul (cmpQ_av h r)
  rw [Rat.div_def, Rat.mul_comm]
  exact this
theorem bd_one {a : Nat} {d : Int} (h : bd a d) (p : 0 < d) : bd a 1 := by
  unfold bd at h ⊢
  have : (1 : Int).natAbs = 1 := rfl
  omega
theorem done_c {c : Int} (h : c ≠ 0) : done [c] := by
  show strip ([] ++ [c]) = _
  rw [strip_snoc, if_neg h]; rfl
theorem P.lit {c : Int} (h : c ≠ 0) : P (Ser.C (c : Rat)) [c] 1 := (P.int (f := Ser.C c) (r := [c]) ⟨done_c h, by
  rw [ser_cons, ser_nil]; grind⟩).cong (qs_C c)
def s_polys_composed {M : Type} : DSp M := fun ds m Q Z => ∃ g r d r' d' n a n' b, ds = [pd r d, pd r' d'] ∧ 0 < d ∧ P g r' d' ∧ PB n a r d ∧ PB n' b r' d' ∧ n * n' + n' ≤ 90000 ∧ n * (a + b + n' + 1) + a + b + 1 ≤ 9000 ∧
  ∀ r'' d'', P (cmpP g r d) r'' d'' → PB (n * n' + 1) (n * (a + b + n' + 1) + 1 + a) r'' d'' → Q (pd r'' d'') m
def b_polys_composed {M : Type} : DS M :=
    (dThen (dSet 2 (dC (.tup [(.tup []), (.int 1)])))
    (dThen (dFor (dRev false (dBin (gIx false) (dVar 0) (dC (.int 0)))) (dgN 3)
      (dSet 2 (dCall s_polys_plus_l [] (dCons (dCall s_polys_times [] (dCons (dVar 2) (dCons (dVar 1) dNil))) (dCons (dCall s_polys_poly [.int 1] (dCons (dCall s_rows_scaled [] (dCons (dTup (dCons (dC (.int 1)) dNil)) (dCons (dVar 3) dNil))) dNil)) dNil)))))
    (dRet (dCall s_polys_poly [] (dCons (dBin (gIx false) (dVar 2) (dC (.int 0))) (dCons (dBin gMul (dBin (gIx false) (dVar 2) (dC (.int 1))) (dBin (gIx false) (dVar 0) (dC (.int 1)))) dNil))))))
theorem vc_polys_composed {M : Type} : ∀ ds (m : M) Q Z, s_polys_composed ds m Q Z → okK [false, false] ds ∧ b_polys_composed { nx := fun _ m' => Q .non m', rt := Q, ex := Z } (st0 [false, false] ds 4) m := by
  rintro ds m Q Z ⟨g, xs, d, r', d', n, a, n', b, rfl, d0, hg, pf, pg, h1, h2, q⟩
  refine ⟨⟨fun _ => nl_pd, fun _ => nl_pd, trivial⟩, ?_⟩
  unfold b_polys_composed
  have ln := pf.ln
  have b1 := bd_one pf.dd d0
  repeat walk_at "s"
  refine v_kforZr (fun r ρ m' => m' = m ∧ ∃ (s t : List Int) (e : Int) (a3 : Sl), xs = r.reverse ++ s ∧ P (cmpQ g s) t e ∧ PB (s.length * n' + 1) (s.length * (a + b + n' + 1) + 1) t e ∧ ρ = [.val (pd xs d), .val (pd r' d'), .val (pd t e), a3])
    ⟨rfl, [], [], 1, _, by simp, P.nil, PB.dec (by simp), rfl⟩ (fun ρ m' h => ?_) fun x r ρ m' h => ?_
  · obtain ⟨rfl, s, t, e, _, ex, hP, pp, rfl⟩ := h
    obtain rfl : xs = s := by simpa using ex
    have l1 : xs.length * n' ≤ n * n' := Nat.mul_le_mul_right _ ln
    have l2 : xs.length * (a + b + n' + 1) ≤ n * (a + b + n' + 1) := Nat.mul_le_mul_right _ ln
    have e0 := hP.pos
    have m0 : e * d ≠ 0 := Int.mul_ne_zero (by omega) (by omega)
    have tl := pp.ln
    have td := pp.dd
    have dd := pf.dd
    repeat walk_at "s"
    have eq : Ser.C ((e * d : Int) : Rat) * cmpP g xs d = qs (ser t) := by
      have i := C_inv (c := (d : Rat)) (cne (by omega))
      rw [← hP.eq, Rat.intCast_mul, C_mul]
      unfold cmpP
      grind
    have tb : ∀ x ∈ t, bd (n * (a + b + n' + 1) + 1 + a) x := fun x hx => bd_mono (pp.bd x hx) (by omega)
    refine ⟨t, e * d, rfl, by omega, fun z => absurd z m0, fun _ => ⟨Sm.of (bd_mul td dd) tb (by omega), ?_⟩⟩
    have hL := low_P m0 hP.dn eq
    exact q _ _ hL (hL.PB m0 eq (by omega) tb (bd_mono (bd_mul td dd) (by omega)))
  · obtain ⟨rfl, s, t, e, _, ex, hP, pp, rfl⟩ := h
    have hx : x ∈ xs := by rw [ex]; simp
    have bx := pf.bd x hx
    have ls : s.length + 1 ≤ xs.length := by rw [ex]; simp
    have l1 : (s.length + 1) * n' ≤ n * n' := Nat.mul_le_mul_right _ (by omega)
    have l2 : (s.length + 1) * (a + b + n' + 1) ≤ n * (a + b + n' + 1) := Nat.mul_le_mul_right _ (by omega)
    rw [Nat.succ_mul] at l1 l2
    repeat walk_at "s"
    refine ⟨_, g, t, e, r', d', _, _, n', b, rfl, hP, hg, pp, pg, by omega, by omega, by omega, fun r1 d1 h3 p3 => ?_⟩
    repeat walk_at "s"
    refine ⟨[1], x, 1, a, rfl, by decide, fun y hy => by rw [List.mem_singleton.mp hy]; exact bd_lit (by decide), bx, by omega, fun u hu => ?_⟩
    have uB : B 1 (1 + a) (ser u) := by
      rw [hu.sr]
      exact (B.scale bx (B.of (n := 1) (a := 1) (xs := [1]) (by decide) fun y hy => by rw [List.mem_singleton.mp hy]; exact bd_lit (by decide))).mono (Nat.le_refl _) (by omega)
    have ul := (R.mk hu.dn rfl).len uB
    have ub := (R.mk hu.dn rfl).bds uB
    repeat walk_at "s"
    refine ⟨u, 1, rfl, by omega, fun z => absurd z (by decide), fun _ => ⟨Sm.of (k := 1) (bd_lit (by decide)) ub (by omega), ?_⟩⟩
    have eu : Ser.C ((1 : Int) : Rat) * Ser.C (x : Rat) = qs (ser u) := by
      rw [hu.sr, qs_mul, qs_C, ser_cons, ser_nil]
      have : qs (Ser.C (1 : Int) + xp 1 * 0) = 1 := by
        rw [show (Ser.C (1 : Int) + xp 1 * 0 : Ser Int) = Ser.C 1 by grind, qs_C]; rfl
      rw [this, show ((1 : Int) : Rat) = 1 from rfl, C_one]; grind
    have hU := low_P (by decide) hu.dn eu
    have pU : PB 1 a _ _ := hU.PB (xs := [x]) (e := 1) (by decide) (by rw [eu, hu.sr, ser_cons, ser_cons, ser_nil]; congr 1; rw [show (Ser.C (1 : Int)) = 1 from rfl]; grind) (by simp) (fun y hy => by rw [List.mem_singleton.mp hy]; exact bx) b1
    repeat walk_at "s"
    refine .inl ⟨_, _, r1, d1, _, _, _, _, 1, a, rfl, h3, hU, p3, pU, by omega, by omega, by omega, fun r2 d2 h4 p4 => ?_⟩
    repeat walk_at "s"
    refine ⟨rfl, x :: s, r2, d2, _, by rw [ex]; simp, h4, p4.mono ?_ ?_, rfl⟩
    · rw [List.length_cons, Nat.succ_mul]; omega
    · rw [List.length_cons, Nat.succ_mul]; omega
def s__law_put_in {M : Type} : DSp M := s_polys_composed
def b__law_put_in {M : Type} : DS M :=
    (dThen (dSet 2 (dTup (dCons (dTup dNil) (dCons (dC (.int 1)) dNil))))
    (dThen (dFor (dSeq false (dRvs (dBin (gIx false) (dVar 0) (dC (.int 0))))) (dgN 3)
      (dSet 2 (dCall s_polys_plus_l [] (dCons (dCall s_polys_times [] (dCons (dVar 2) (dCons (dVar 1) dNil))) (dCons (dTup (dCons (dIf (dTst (dBin gNe (dVar 3) (dC (.int 0)))) (dTup (dCons (dVar 3) dNil)) (dTup dNil)) (dCons (dC (.int 1)) dNil))) dNil)))))
    (dRet (dCall s_polys_times [] (dCons (dVar 2) (dCons (dTup (dCons (dTup (dCons (dC (.int 1)) dNil)) (dCons (dBin (gIx false) (dVar 0) (dC (.int 1))) dNil))) dNil))))))
theorem vc__law_put_in {M : Type} : ∀ ds (m : M) Q Z, s__law_put_in ds m Q Z → okK [false, false] ds ∧ b__law_put_in { nx := fun _ m' => Q .non m', rt := Q, ex := Z } (st0 [false, false] ds 4) m := by
  rintro ds m Q Z ⟨g, xs, d, r', d', n, a, n', b, rfl, d0, hg, pf, pg, h1, h2, q⟩
  refine ⟨⟨fun _ => nl_pd, fun _ => nl_pd, trivial⟩, ?_⟩
  unfold b__law_put_in
  have ln := pf.ln
  have b1 := bd_one pf.dd d0
  repeat walk_at "s"
  refine v_kforZ (fun r ρ m' => m' = m ∧ ∃ (s t : List Int) (e : Int) (a3 : Sl), xs = r.reverse ++ s ∧ P (cmpQ g s) t e ∧ PB (s.length * n' + 1) (s.length * (a + b + n' + 1) + 1) t e ∧ ρ = [.val (pd xs d), .val (pd r' d'), .val (pd t e), a3]) xs.reverse
    ⟨rfl, [], [], 1, _, by simp, P.nil, PB.dec (by simp), rfl⟩ (fun ρ m' h => ?_) fun x r ρ m' h => ?_
  · obtain ⟨rfl, s, t, e, _, ex, hP, pp, rfl⟩ := h
    obtain rfl : xs = s := by simpa using ex
    have l1 : xs.length * n' ≤ n * n' := Nat.mul_le_mul_right _ ln
    have l2 : xs.length * (a + b + n' + 1) ≤ n * (a + b + n' + 1) := Nat.mul_le_mul_right _ ln
    have hD : P (Ser.C ((d : Rat)⁻¹)) [1] d := by
      refine ⟨d0, rfl, by rw [show gcdL [1] = 1 from rfl]; exact Nat.gcd_one_left _, ?_⟩
      have o := P.one.eq
      rw [show ((1 : Int) : Rat) = 1 from rfl, C_one] at o
      rw [C_inv (cne (by omega)), ← o]; grind
    have pD : PB 1 a [1] d := ⟨by decide, fun y hy => by rw [List.mem_singleton.mp hy]; exact b1, pf.dd⟩
    repeat walk_at "s"
    refine ⟨_, _, t, e, [1], d, _, _, 1, a, rfl, hP, hD, pp, pD, by omega, by omega, by omega, fun r1 d1 h3 p3 => ?_⟩
    have h4 : P (cmpP g xs d) r1 d1 := h3.cong (by unfold cmpP; grind)
    have e0 := hP.pos
    have m0 : e * d ≠ 0 := Int.mul_ne_zero (by omega) (by omega)
    have eq : Ser.C ((e * d : Int) : Rat) * cmpP g xs d = qs (ser t) := by
      have i := C_inv (c := (d : Rat)) (cne (by omega))
      rw [← hP.eq, Rat.intCast_mul, C_mul]
      unfold cmpP
      grind
    have tl := pp.ln
    refine q _ _ h4 (h4.PB m0 eq (by omega) (fun x hx => bd_mono (pp.bd x hx) (by omega)) (bd_mono (bd_mul pp.dd pf.dd) (by omega)))
  · obtain ⟨rfl, s, t, e, _, ex, hP, pp, rfl⟩ := h
    have hx : x ∈ xs := by rw [ex]; simp
    have bx := pf.bd x hx
    have ls : s.length + 1 ≤ xs.length := by rw [ex]; simp
    have l1 : (s.length + 1) * n' ≤ n * n' := Nat.mul_le_mul_right _ (by omega)
    have l2 : (s.length + 1) * (a + b + n' + 1) ≤ n * (a + b + n' + 1) := Nat.mul_le_mul_right _ (by omega)
    rw [Nat.succ_mul] at l1 l2
    repeat walk_at "s"
    refine ⟨_, g, t, e, r', d', _, _, n', b, rfl, hP, hg, pp, pg, by omega, by omega, by omega, fun r1 d1 h3 p3 => ?_⟩
    repeat walk_at "s"
    refine v_ifn (fun h => ?_) fun h => ?_
    · repeat walk_at "s"
      refine .inl ⟨_, _, r1, d1, [x], 1, _, _, 1, a, rfl, h3, P.lit h, p3, ⟨Nat.le_refl 1, fun y hy => by rw [List.mem_singleton.mp hy]; exact bx, b1⟩, by omega, by omega, by omega, fun r2 d2 h4 p4 => ?_⟩
      repeat walk_at "s"
      refine ⟨rfl, x :: s, r2, d2, _, by rw [ex]; simp, h4, p4.mono ?_ ?_, rfl⟩
      · rw [List.length_cons, Nat.succ_mul]; omega
      · rw [List.length_cons, Nat.succ_mul]; omega
    · obtain rfl : x = 0 := h
      repeat walk_at "s"
      refine .inl ⟨_, _, r1, d1, [], 1, _, _, 1, a, rfl, h3, P.nil, p3, ⟨by decide, fun y hy => absurd hy List.not_mem_nil, b1⟩, by omega, by omega, by omega, fun r2 d2 h4 p4 => ?_⟩
      repeat walk_at "s"
      refine ⟨rfl, 0 :: s, r2, d2, _, by rw [ex]; simp, h4, p4.mono ?_ ?_, rfl⟩
      · rw [List.length_cons, Nat.succ_mul]; omega
      · rw [List.length_cons, Nat.succ_mul]; omega
end
end RR

/-! V06d: values of what is reckoned -/
namespace RR
open PySem PySem.Spec PyProof.Rows L2
local macro_rules | `(tactic| walk_at "bd") => `(tactic| first | assumption | exact bd_lit (by decide) | (with_reducible refine bd_mul ?_ ?_ <;> walk_at "bd") | (with_reducible refine bd_add ?_ ?_ <;> walk_at "bd") | (with_reducible refine bd_sub ?_ ?_ <;> walk_at "bd") | (with_reducible refine bd_neg ?_ <;> walk_at "bd"))
local macro_rules | `(tactic| walk_at "s") => `(tactic| with_reducible first
  | refine v_then ?_ | refine v_set ?_ | (apply v_var; · with_unfolding_all exact rfl) | refine v_bin ?_ | refine v_c ?_ | refine v_g0 ?_ | refine v_add ?_ | refine v_cons ?_ | refine v_nil ?_ | refine v_call ?_ | refine v_dB ?_ | refine v_next ?_ | refine v_ret ?_
  | refine v_ite ?_ | refine v_tst ?_ | refine v_kT ?_ | refine v_eqi ?_ | refine v_nei ?_ | refine v_eqr ?_ | refine v_ner ?_ | refine v_eqr0 ?_ | refine v_ner0 ?_ | refine v_eql ?_ | refine v_nel ?_ | refine v_eql0 ?_ | refine v_nel0 ?_ | refine v_isN ?_ | refine v_notN ?_
  | (apply v_bor; · with_unfolding_all exact rfl) | (apply v_own; · with_unfolding_all exact rfl) | refine v_tup ?_ | refine v_lst ?_ | (refine v_sz ?_ ?_; (· with_unfolding_all exact Nat.le_of_ble_eq_true rfl)) | (refine v_gIIz ?_ ?_; (· first | decide | omega))
  | refine v_lentz ?_ | refine v_lenlz ?_ | refine v_lent ?_ | refine v_lenl ?_ | refine v_I1 ?_ | refine v_I2 ?_ | refine v_int ?_ | refine v_seqlz ?_ | refine v_seqtz ?_ | refine v_sl ?_ | refine v_kSll ?_ | refine v_kSlt ?_ | refine v_ono ?_ | refine v_oso ?_ | refine v_kOS ?_
  | refine v_val ?_ | refine v_kVb ?_ | refine v_kVi ?_ | refine v_kVt ?_ | refine v_kVl ?_ | refine v_and ?_ | refine v_or ?_ | refine v_not ?_ | refine v_yes ?_ | refine v_if' ?_ | refine v_isi ?_ | refine v_kIii ?_ | refine v_kIib ?_ | refine v_kItt ?_
  | refine v_andV ?_ | refine v_orV ?_ | refine v_notV ?_ | refine v_kNV ?_ | refine v_neg ?_ | refine v_kNeg ?_ | refine v_seq ?_ | refine v_kSeql ?_ | refine v_kSeqt ?_ | refine v_rng1 ?_ | refine v_rng2 ?_ | refine v_enum ?_ | refine v_revr ?_ | refine v_rev ?_
  | (refine v_kR1 ?_ ?_ ?_; (· with_unfolding_all decide +kernel); (· with_unfolding_all decide +kernel))
  | (refine v_kR2 ?_ ?_ ?_ ?_ ?_; (· with_unfolding_all decide +kernel); (· with_unfolding_all decide +kernel); (· with_unfolding_all decide +kernel); (· with_unfolding_all decide +kernel))
  | refine v_gn ?_ | refine v_gt2 ?_ | refine v_gt3 ?_ | refine v_lc ?_ | refine v_for ?_ | refine v_setO ?_ | refine v_drop ?_ | (apply v_app; · with_unfolding_all exact rfl) | (apply v_setI; · with_unfolding_all exact rfl) | (apply v_rel; · with_unfolding_all exact rfl) | refine v_raise ?_ | refine v_par ?_ | refine v_kP ?_ | refine v_asg ?_
  | (apply v_aug; · with_unfolding_all exact rfl) | refine v_ifT ?_ | refine v_ifF ?_ | (refine v_pow ?_ ?_ ?_ ?_; (· with_unfolding_all decide +kernel); (· with_unfolding_all decide +kernel); (· with_unfolding_all decide +kernel)) | refine v_call0 ?_ | (apply v_lenr; · assumption) | (apply v_seqr; · assumption) | (apply v_kSeqr; · assumption) | (apply v_kSlr; · assumption)
  | refine v_ix0 ?_ | refine v_ix1 ?_ | refine v_ix2 ?_ | refine v_zip ?_ | refine v_kZl ?_ | refine v_kZt ?_ | (apply v_augI; · with_unfolding_all exact rfl) | refine v_try ?_ | refine v_isE ?_ | (refine v_kIE ?_ ?_; (· with_unfolding_all exact rfl)) | refine v_isB ?_ | refine v_notB ?_ | refine v_all ?_ | refine v_par3 ?_ | refine v_ifnT ?_ | refine v_ifnF ?_ | refine v_eqs ?_ | refine v_nes ?_ | refine v_rvs ?_ | refine v_kRvl ?_ | refine v_kRvt ?_
  | (refine v_mulb (a := ?a) (b := ?b) ?ha ?hb ?l ?h; (case ha => assumption); (case hb => assumption); (case l => omega)) | (refine v_fdivb (b := ?b) ?h0 ?hb ?l ?h; (case h0 => assumption); (case hb => assumption); (case l => omega)))
local macro_rules | `(tactic| walk_at "o") => `(tactic| first | walk_at "s" | with_reducible first
  | refine v_chn ?_ | refine v_signs ?_ | refine v_kSg ?_ | refine v_inS ?_ | refine v_ninS ?_ | (refine v_inQ2 ?_ ?_ ?_ ?_; (· first | assumption | (with_unfolding_all decide +kernel)); (· with_unfolding_all decide +kernel); (· with_unfolding_all decide +kernel)) | (refine v_inQ3 ?_ ?_ ?_ ?_ ?_; (· first | assumption | (with_unfolding_all decide +kernel)); (· with_unfolding_all decide +kernel); (· with_unfolding_all decide +kernel); (· with_unfolding_all decide +kernel)) | (refine v_inQ4 ?_ ?_ ?_ ?_ ?_ ?_; (· first | assumption | (with_unfolding_all decide +kernel)); (· with_unfolding_all decide +kernel); (· with_unfolding_all decide +kernel); (· with_unfolding_all decide +kernel); (· with_unfolding_all decide +kernel))
  | refine v_inF ?_ | refine v_getF ?_ | refine v_kGF ?_ | (refine v_gGetF ?_ ?_; (· with_unfolding_all exact rfl)) | refine v_slS ?_ | (refine v_kSS ?_ ?_; (· first | assumption | omega)) | refine v_intUi ?_ | (refine v_lens ?_ ?_; (· first | assumption | omega)) | refine v_dH ?_ | refine v_hInt ?_ | refine v_hNeg ?_ | refine v_fset ?_
  | (apply v_hVar; (· with_unfolding_all exact rfl); (· rfl)))
theorem shB_lst {k c n : Nat} {ds : List D} (h : ∀ d ∈ ds, ShB k c d) (hn : ds.length ≤ n) : ShB (k + 1) (n * (c + 2) + 3) (.lst ds) := by
  refine ⟨List.all_eq_true.mpr fun d hd => (h d hd).q, by simp only [D.py, bigD]; exact pys_big fun d hd => (h d hd).s, ?_⟩
  simp only [D.py, PyData.shown]
  have e1 := listText_len_le (PyData.shownAll (D.pys ds))
  have e2 := pys_piled (c := c) fun d hd => (h d hd).l
  have e3 : ds.length * (c + 2) ≤ n * (c + 2) := Nat.mul_le_mul_right _ hn
  have e4 : ∀ ts : List Str, (ts.map (·.length)).sum + 2 * ts.length = piled ts := fun ts => by
    induction ts with
    | nil => rfl
    | cons t ts ih =>
      rw [piled_cons, ← ih, List.map_cons, List.sum_cons, List.length_cons]
      omega
  have := e4 (PyData.shownAll (D.pys ds))
  omega
theorem shB_pq {v : Rat} (h1 : bd 12000 v.num) (h2 : bd 12000 (v.den : Int)) : ShB 1 24008 (pq v) :=
  (shB_row (n := 2) (xs := [v.num, (v.den : Int)]) (fun x hx => by
    rcases List.mem_cons.mp hx with rfl | hx
    · exact h1
    · rw [List.mem_singleton.mp hx]; exact h2) (by simp)).le (Nat.le_refl _) (by omega)
section
variable {M : Type}
theorem val_at {f : Ser Rat} {r : List Int} {d : Int} {n c a aq : Nat} {v : Rat} {m : M} {Q : D → M → Prop} {Z : Str → M → Prop} (hf : P f r d) (pf : PB n c r d) (h1 : bd a v.num) (h2 : bd aq (v.den : Int)) (ha : aq ≤ a) (h9 : n * aq + 1 + c ≤ 9000) (hv : vbits c a n ≤ 100000)
    (k : ∀ w : Rat, Av f v w → bd (vbits c a n) w.num → bd (n * aq + 1 + c) (w.den : Int) → Q (pq w) m) : s_polys_value [pd r d, pq v] m Q Z := by
  have l := pf.ln
  have l1 : r.length * aq ≤ n * aq := Nat.mul_le_mul_right _ l
  have l2 : vbits c a r.length ≤ vbits c a n := vb_le (by omega)
  refine ⟨f, r, d, v.num, (v.den : Int), c, a, aq, c, rfl, hf, den_ne v, pf.bd, pf.dd, h1, bd_mono h2 ha, h2, by omega, by omega, fun w hw b1 b2 => ?_⟩
  rw [num_den v] at hw
  exact k w hw (bd_mono b1 l2) (bd_mono b2 (by omega))
def b__law_values_right {M : Type} : DS M :=
    (dThen (dAsg (dTup (dCons (dCall s__law_value_k06 [] (dCons (dVar 0) (dCons (dVar 2) dNil))) (dCons (dCall s__law_value_k06 [] (dCons (dVar 1) (dCons (dVar 2) dNil))) dNil))) (dgT 2 (dgCons (dgN 4) (dgCons (dgN 5) dgNil))))
    (dThen (dSet 6 (dLst (dCons (dCall s_polys_value [] (dCons (dVar 0) (dCons (dVar 2) dNil))) (dCons (dCall s_polys_value [] (dCons (dCall s_polys_plus_l [] (dCons (dVar 0) (dCons (dVar 1) dNil))) (dCons (dVar 2) dNil))) (dCons (dCall s_polys_value [] (dCons (dCall s_polys_less_l [] (dCons (dVar 0) (dCons (dVar 1) dNil))) (dCons (dVar 2) dNil))) (dCons (dCall s_polys_value [] (dCons (dCall s_polys_times [] (dCons (dVar 0) (dCons (dVar 1) dNil))) (dCons (dVar 2) dNil))) dNil))))))
    (dThen (dSet 7 (dBin gAdd (dLst (dCons (dVar 4) dNil)) (dLc (dRng1 (dCons (dC (.int 3)) dNil)) (dgN 10) dYes (dCall s__law_reckoned [] (dCons (dVar 4) (dCons (dVar 5) (dCons (dVar 10) dNil)))) [10])))
    (dThen (dSet 6 (dBin gAdd (dVar 6) (dLst (dCons (dCall s_polys_value [] (dCons (dCall s_polys_power [] (dCons (dVar 0) (dCons (dVar 3) dNil))) (dCons (dVar 2) dNil))) (dCons (dCall s_polys_value [] (dCons (dCall s_polys_composed [] (dCons (dVar 0) (dCons (dVar 1) dNil))) (dCons (dVar 2) dNil))) dNil)))))
    (dThen (dSet 8 (dTup (dCons (dC (.int 1)) (dCons (dC (.int 1)) dNil))))
    (dThen (dFor (dRng1 (dCons (dVar 3) dNil)) (dgN 9)
      (dSet 8 (dCall s__law_reckoned [] (dCons (dVar 8) (dCons (dVar 4) (dCons (dC (.int 2)) dNil))))))
    (dThen (dSet 7 (dBin gAdd (dVar 7) (dLst (dCons (dVar 8) (dCons (dCall s__law_value_k06 [] (dCons (dVar 0) (dCons (dVar 5) dNil))) dNil)))))
    (dRet (dBin gEq (dB gReprB (dCons (dVar 6) dNil)) (dB gReprB (dCons (dVar 7) dNil)))))))))))
def s__law_values_right {M : Type} : DSp M := fun ds m Q Z => ∃ (f g : Ser Rat) (r : List Int) (d : Int) (r' : List Int) (d' : Int) (v : Rat) (k : Int), ds = [pd r d, pd r' d', pq v, .int k] ∧ P f r d ∧ P g r' d' ∧ PB 6 201 r d ∧ PB 4 201 r' d' ∧ bd 201 v.num ∧ bd 20 (v.den : Int) ∧ 0 ≤ k ∧ k ≤ 3 ∧ Q (.bl true) m
theorem vc__law_values_right {M : Type} : ∀ ds (m : M) Q Z, s__law_values_right ds m Q Z → okK [false, false, false, false] ds ∧ b__law_values_right { nx := fun _ m' => Q .non m', rt := Q, ex := Z } (st0 [false, false, false, false] ds 11) m := by
  rintro ds m Q Z ⟨f, g, r, d, r', d', v, k, rfl, hf, hg, pf, pg, h1, h2, k0, k3, q⟩
  refine ⟨⟨fun _ => nl_pd, fun _ => nl_pd, fun _ => rfl, fun _ => rfl, trivial⟩, ?_⟩
  obtain ⟨k, rfl⟩ := Int.eq_ofNat_of_zero_le k0
  unfold b__law_values_right
  repeat walk_at "o"
  refine val_at hf pf h1 h2 (by decide) (by decide) (by decide) fun v4 a4 b4 c4 => ?_
  repeat walk_at "o"
  refine val_at hg pg h1 h2 (by decide) (by decide) (by decide) fun v5 a5 b5 c5 => ?_
  repeat walk_at "o"
  refine val_at hf pf h1 h2 (by decide) (by decide) (by decide) fun w0 e0 _ _ => ?_
  obtain rfl := e0.uniq a4
  repeat walk_at "o"
  refine .inl ⟨f, g, r, d, r', d', 6, 201, 4, 201, rfl, hf, hg, pf, pg, by decide, by decide, by decide, fun r1 d1 f1 p1 => ?_⟩
  repeat walk_at "o"
  refine val_at f1 p1 h1 h2 (by decide) (by decide) (by decide) fun w1 e1 b6 c6 => ?_
  obtain rfl := e1.uniq (a4.add a5)
  repeat walk_at "o"
  refine ⟨f, g, r, d, r', d', 6, 201, 4, 201, rfl, hf, hg, pf, pg, by decide, by decide, by decide, fun r2 d2 f2 p2 => ?_⟩
  repeat walk_at "o"
  refine val_at f2 p2 h1 h2 (by decide) (by decide) (by decide) fun w2 e2 b7 c7 => ?_
  obtain rfl := e2.uniq (a4.sub a5)
  repeat walk_at "o"
  refine ⟨f, g, r, d, r', d', 6, 201, 4, 201, rfl, hf, hg, pf, pg, by decide, by decide, by decide, fun r3 d3 f3 p3 => ?_⟩
  repeat walk_at "o"
  refine val_at f3 p3 h1 h2 (by decide) (by decide) (by decide) fun w3 e3 b8 c8 => ?_
  obtain rfl := e3.uniq (a4.mul a5)
  repeat walk_at "o"
  rw [show Int.toNat 3 = 3 from rfl]
  unfold iota
  have b4' : bd 1622 w0.num := b4
  have c4' : bd 1622 (w0.den : Int) := bd_mono c4 (by decide)
  have b5' : bd 1216 v5.num := b5
  have c5' : bd 282 (v5.den : Int) := c5
  refine lcGo_map (h := fun s : Nat => pq (rk s w0 v5)) (List.range 3) (fun s hs m1 K l hK => ?_) (small_line (by simp)) ?_
  · have hs := List.mem_range.mp hs
    rw [Int.zero_add]
    repeat walk_at "o"
    refine ⟨w0, v5, s, 1622, 1216, rfl, by omega, b4', c4', b5', bd_mono c5' (by decide), by decide, fun _ _ => ?_⟩
    repeat walk_at "o"
    exact hK
  rw [show (List.range 3).map (fun s : Nat => pq (rk s w0 v5)) = [pq (w0 + v5), pq (w0 - v5), pq (w0 * v5)] from rfl]
  refine v_addl (by simp) rfl rfl ?_
  repeat walk_at "o"
  refine ⟨f, r, d, 6, 201, k, rfl, hf, pf, by omega, by omega, by omega, fun r4 d4 f4 p4 => ?_⟩
  have p4 : PB 19 622 r4 d4 := p4.mono (by omega) (by omega)
  repeat walk_at "o"
  refine val_at f4 p4 h1 h2 (by decide) (by decide) (by decide) fun w4 e4 b9 c9 => ?_
  repeat walk_at "o"
  refine ⟨g, r, d, r', d', 6, 201, 4, 201, rfl, hf.pos, hg, pf, pg, by decide, by decide, fun r5 d5 f5 p5 => ?_⟩
  repeat walk_at "o"
  refine val_at f5 p5 h1 h2 (by decide) (by decide) (by decide) fun w5 e5 b10 c10 => ?_
  have u5 := e5.uniq (cmpP_av a5 r d)
  repeat walk_at "o"
  refine v_addl (by simp) rfl rfl ?_
  repeat walk_at "o"
  refine v_kR1 (by omega) (by omega) ?_
  rw [Int.toNat_natCast]
  refine v_kforR k (fun j ρ m' => m' = m ∧ ∃ (e : Rat) (a9 : Sl), Av (f ^ j) v e ∧ bd (j * 1625 + 1) e.num ∧ bd (j * 1625 + 1) (e.den : Int) ∧ ρ = [.val (pd r d), .val (pd r' d'), .val (pq v), .val (.int k), .val (pq w0), .val (pq v5), .val (.lst [pq w0, pq (w0 + v5), pq (w0 - v5), pq (w0 * v5), pq w4, pq w5]), .val (.lst [pq w0, pq (w0 + v5), pq (w0 - v5), pq (w0 * v5)]), .val (pq e), a9, .un])
    ⟨rfl, 1, _, by rw [Lean.Grind.Semiring.pow_zero]; exact Av.C 1 v, by unfold bd; decide, by unfold bd; decide, rfl⟩ (fun ρ m' h => ?_) fun j ρ m' hj h => ?_
  · obtain ⟨rfl, e, _, ae, be, ce, rfl⟩ := h
    obtain rfl := ae.uniq e4
    repeat walk_at "o"
    refine val_at hf pf b5' c5' (by decide) (by decide) (by decide) fun u eu bu cu => ?_
    obtain rfl := (eu.uniq (hf.val v5)).trans u5.symm
    repeat walk_at "o"
    refine v_addl (by simp) rfl rfl ?_
    repeat walk_at "o"
    have all : ∀ x ∈ [pq w0, pq (w0 + v5), pq (w0 - v5), pq (w0 * v5), pq e, pq u], ShB 1 24008 x := fun x hx => by
      simp only [List.mem_cons, List.not_mem_nil, or_false] at hx
      rcases hx with rfl | rfl | rfl | rfl | rfl | rfl
      · exact shB_pq (bd_mono b4 (by decide)) (bd_mono c4 (by decide))
      · exact shB_pq (bd_mono b6 (by decide)) (bd_mono c6 (by decide))
      · exact shB_pq (bd_mono b7 (by decide)) (bd_mono c7 (by decide))
      · exact shB_pq (bd_mono b8 (by decide)) (bd_mono c8 (by decide))
      · exact shB_pq (bd_mono b9 (by decide)) (bd_mono c9 (by decide))
      · exact shB_pq (bd_mono b10 (by decide)) (bd_mono c10 (by decide))
    have sh := (shB_lst (n := 6) all (by simp)).sho
    refine v_reprB sh ?_
    repeat walk_at "o"
    refine v_reprB sh ?_
    repeat walk_at "o"
    rw [decide_eq_true (show (D.lst [pq w0, pq (w0 + v5), pq (w0 - v5), pq (w0 * v5), pq e, pq u]).rep = (D.lst ([pq w0, pq (w0 + v5), pq (w0 - v5), pq (w0 * v5)] ++ [pq e, pq u])).rep from rfl)]
    exact q
  · obtain ⟨rfl, e, _, ae, be, ce, rfl⟩ := h
    repeat walk_at "o"
    refine ⟨e, w0, 2, j * 1625 + 1, 1622, rfl, by decide, be, ce, b4', c4', by omega, fun x1 x2 => ?_⟩
    have er : rk 2 e w0 = e * w0 := rfl
    rw [er] at x1 x2 ⊢
    repeat walk_at "o"
    refine ⟨rfl, e * w0, _, by rw [Lean.Grind.Semiring.pow_succ]; exact ae.mul a4, bd_mono x1 (by rw [Nat.succ_mul]; omega), bd_mono x2 (by rw [Nat.succ_mul]; omega), rfl⟩
end
end RR

/-! V06e: the polynomial through points, by steps (Newton); sizes -/
namespace RR
open PySem PySem.Spec PyProof.Rows L2
/-- product of x - a -/
def wvv (x : Rat) : List Rat → Rat
  | [] => 1
  | a :: X => (x - a) * wvv x X
def wN (x : Rat) : List Rat → Int
  | [] => 1
  | a :: X => (x.num * a.den - a.num * x.den) * wN x X
def qN : List Rat → Int
  | [] => 1
  | a :: X => (a.den : Int) * qN X
theorem den_num (v : Rat) : ((v.den : Int) : Rat) * v = (v.num : Rat) := by
  have n := num_den v
  have i := Rat.mul_inv_cancel _ (cne (den_ne v))
  rw [Rat.div_def] at n
  grind
theorem wvv_eq (x : Rat) : ∀ X : List Rat, wvv x X * (((x.den : Int) ^ X.length * qN X : Int) : Rat) = (wN x X : Rat)
  | [] => by
    show (1 : Rat) * (((x.den : Int) ^ 0 * 1 : Int) : Rat) = ((1 : Int) : Rat)
    rw [Int.pow_zero, Int.mul_one, Rat.one_mul]
  | a :: X => by
    have ih := wvv_eq x X
    have hx := den_num x
    have ha := den_num a
    unfold wvv wN qN
    rw [List.length_cons, Int.pow_succ]
    simp only [Rat.intCast_mul, Rat.intCast_sub] at ih ⊢
    generalize ((x.den : Int) : Rat) = dx at *
    generalize ((a.den : Int) : Rat) = da at *
    generalize (((x.den : Int) ^ X.length : Int) : Rat) = px at *
    rw [← hx, ← ha, ← ih]
    grind
theorem wN_bd {x : Rat} {a e : Nat} (h1 : bd a x.num) (h2 : bd e (x.den : Int)) : ∀ X : List Rat, (∀ z ∈ X, bd a z.num ∧ bd e (z.den : Int)) → bd (X.length * (a + e + 1) + 1) (wN x X)
  | [], _ => by show bd _ 1; exact bd_mono (bd_lit (by decide)) (Nat.le_add_left 1 _)
  | z :: X, h => by
    obtain ⟨z1, z2⟩ := h z List.mem_cons_self
    have ih := wN_bd h1 h2 X fun y hy => h y (List.mem_cons_of_mem _ hy)
    have m := bd_mul (bd_sub (bd_mono (bd_mul h1 z2) (Nat.le_refl (a + e))) (bd_mono (bd_mul z1 h2) (Nat.le_refl (a + e)))) ih
    refine bd_mono m ?_
    rw [List.length_cons, Nat.succ_mul]; omega
theorem wN_ne {x : Rat} {X : List Rat} (h : wvv x X ≠ 0) : wN x X ≠ 0 ∧ qN X ≠ 0 := by
  have q0 : ∀ X : List Rat, qN X ≠ 0 := fun X => by
    induction X with
    | nil => exact Int.one_ne_zero
    | cons a X ih => exact Int.mul_ne_zero (den_ne a) ih
  refine ⟨fun z => ?_, q0 X⟩
  have e := wvv_eq x X
  rw [z] at e
  have : (((x.den : Int) ^ X.length * qN X : Int) : Rat) ≠ 0 := cne (Int.mul_ne_zero (Int.pow_ne_zero (den_ne x)) (q0 X))
  have e : wvv x X * (((x.den : Int) ^ X.length * qN X : Int) : Rat) = 0 := e
  rcases Rat.mul_eq_zero.mp e with e | e
  · exact h e
  · exact this e
theorem wvv_ne {x : Rat} : ∀ {X : List Rat}, x ∉ X → wvv x X ≠ 0
  | [], _ => by show (1 : Rat) ≠ 0; decide
  | a :: X, h => fun e => by
    rcases Rat.mul_eq_zero.mp (show (x - a) * wvv x X = 0 from e) with e | e
    · exact h (List.mem_cons.mpr (.inl (by grind)))
    · exact wvv_ne (fun z => h (List.mem_cons_of_mem _ z)) e
theorem wvv_zero {x : Rat} : ∀ {X : List Rat}, x ∈ X → wvv x X = 0
  | a :: X, h => by
    show (x - a) * wvv x X = 0
    rcases List.mem_cons.mp h with rfl | h
    · grind
    · rw [wvv_zero h]; grind
/-- behind some points -/
structure Nw (X : List Rat) (F : Int) (G M : List Int) (fo mo : Ser Rat) : Prop where
  f0 : F ≠ 0
  ef : Ser.C (F : Rat) * fo = qs (ser G)
  lg : G.length = X.length
  em : Ser.C (qN X : Rat) * mo = qs (ser M)
  lm : M.length ≤ X.length + 1
  av : ∀ x, Av mo x (wvv x X)
def nD (X : List Rat) (F : Int) (G : List Int) (x y : Rat) : Int := y.num * ((x.den : Int) ^ X.length * F) - y.den * (hom x.num x.den G * x.den)
theorem Nw.key {X : List Rat} {F : Int} {G M : List Int} {fo mo : Ser Rat} (h : Nw X F G M fo mo) {x y u c : Rat} (hu : Av fo x u) (hc : c * wvv x X = y - u) :
    (((y.den : Int) * wN x X * F : Int) : Rat) * c = ((nD X F G x y * qN X : Int) : Rat) := by
  have w := wvv_eq x X
  have e1 := (Av.C (F : Rat) x).mul hu
  rw [h.ef] at e1
  have e2 := e1.uniq (ev_qs x G)
  have e3 := hom_val (n := x.num) (d := (x.den : Int)) (den_ne x) G
  rw [num_den x, h.lg] at e3
  have q0 : (((x.den : Int) ^ X.length : Int) : Rat) ≠ 0 := cne (Int.pow_ne_zero (den_ne x))
  have i0 := Rat.mul_inv_cancel _ q0
  rw [Rat.div_def] at e3
  have hy := den_num y
  unfold nD
  simp only [Rat.intCast_mul, Rat.intCast_sub] at w e3 ⊢
  generalize (((x.den : Int) ^ X.length : Int) : Rat) = px at *
  generalize ((wN x X : Int) : Rat) = W at *
  rw [← w, ← hy]
  grind
theorem av_xp (z : Rat) : Av (xp 1) z z := ⟨2, fun k hk => by rw [xp_co, if_neg (by omega)], by
  show (xp 1 : Ser Rat).co 0 + z * ((xp 1 : Ser Rat).co 1 + z * 0) = z
  rw [xp_co, xp_co, if_neg (by decide), if_pos rfl]
  grind⟩
/-- x less than the letter -/
def lin (x : Rat) : Ser Rat := xp 1 - Ser.C x
theorem lin_eq (x : Rat) : Ser.C ((x.den : Int) : Rat) * lin x = qs (ser [0 - x.num, (x.den : Int)]) := by
  have e := den_num x
  rw [ser_cons, ser_cons, ser_nil, qs_add, qs_mul, qs_xp, qs_add, qs_mul, qs_xp, qs_C, qs_C, qs_zero]
  unfold lin
  have : Ser.C ((x.den : Int) : Rat) * Ser.C x = Ser.C (x.num : Rat) := by rw [← C_mul, e]
  have n : (Ser.C ((0 - x.num : Int) : Rat) : Ser Rat) = - Ser.C (x.num : Rat) := by
    rw [Rat.intCast_sub, ← C_neg]
    congr 1
    show (0 : Rat) - _ = _
    grind
  rw [n]
  grind
theorem far_lst (xs : List Int) : far xs.length (ser xs) := fun k hk => by rw [ser_co, getD_far hk]
/-- a row of told length -/
theorem row_bd {n a k : Nat} {f : Ser Int} (h : far n f) (hb : B k a f) : ∃ xs : List Int, xs.length = n ∧ ser xs = f ∧ ∀ x ∈ xs, bd a x := by
  obtain ⟨xs, l, e⟩ := row_of h
  refine ⟨xs, l, e, fun x hx => ?_⟩
  obtain ⟨i, hi, rfl⟩ := List.mem_iff_getElem.mp hx
  have := hb.bd i
  rw [← e, ser_co, List.getD_eq_getElem?_getD, List.getElem?_eq_getElem hi] at this
  exact this
def bDn (i e g : Nat) : Nat := max (201 + (i * 20 + 1 + e)) (20 + (g + i * 203 + 20)) + 1
theorem Nw.next {X : List Rat} {F : Int} {G M : List Int} {fo mo : Ser Rat} (h : Nw X F G M fo mo) {x y u c : Rat} (hu : Av fo x u) (hc : c * wvv x X = y - u) (w0 : wvv x X ≠ 0) {g e k : Nat}
    (bG : ∀ z ∈ G, bd g z) (bF : bd e F) (bM : ∀ z ∈ M, bd k z) (x1 : bd 201 x.num) (x2 : bd 20 (x.den : Int)) (y1 : bd 201 y.num) (y2 : bd 20 (y.den : Int)) (hX : ∀ z ∈ X, bd 201 z.num ∧ bd 20 (z.den : Int)) :
    ∃ (F' : Int) (G' M' Gs : List Int), Nw (x :: X) F' G' M' (fo + Ser.C c * mo) (mo * lin x) ∧ (∀ z ∈ G', bd (max (20 + (X.length * 222 + 1) + g) (bDn X.length e g + k) + 1) z) ∧ (∀ z ∈ M', bd (k + 204) z) ∧ bd (20 + (X.length * 222 + 1) + e) F' ∧
      Ser.C (F' : Rat) * (Ser.C c * mo) = qs (ser Gs) ∧ Gs.length = X.length + 1 ∧ (∀ z ∈ Gs, bd (bDn X.length e g + k) z) := by
  have key := h.key hu hc
  obtain ⟨W0, Q0⟩ := wN_ne w0
  have bW := wN_bd x1 x2 X hX
  have bY := bd_mul y2 bW
  have bP : bd (X.length * 20 + 1) ((x.den : Int) ^ X.length) := bd_pow x2 _
  have bH := hom_bd (c := g) x1 (bd_mono x2 (by decide)) G bG
  rw [h.lg] at bH
  have bH : bd (g + X.length * 203) (hom x.num x.den G) := bH
  have bD : bd (bDn X.length e g) (nD X F G x y) := by
    unfold nD bDn
    exact bd_sub (bd_mul y1 (bd_mul bP bF)) (bd_mul y2 (bd_mul bH x2))
  have fM : far (X.length + 1) (ser M) := far_mono (far_lst M) h.lm
  have fG : far (X.length + 1) (ser G) := far_mono (far_lst G) (by rw [h.lg]; omega)
  have BM : B (X.length + 1) k (ser M) := B.of h.lm bM
  have BG : B (X.length + 1) g (ser G) := B.of (by rw [h.lg]; omega) bG
  have Bs := B.scale bD BM
  obtain ⟨Gs, l1, e1, b1⟩ := row_bd (f := Ser.C (nD X F G x y) * ser M) Bs.far Bs
  have Ba := B.scale bY BG
  have Bt := (Ba.mono (Nat.le_refl _) (Nat.le_max_left _ (bDn X.length e g + k))).add' (Bs.mono (Nat.le_refl _) (Nat.le_max_right (20 + (X.length * 222 + 1) + g) _))
  obtain ⟨G', l2, e2, b2⟩ := row_bd (f := Ser.C ((y.den : Int) * wN x X) * ser G + Ser.C (nD X F G x y) * ser M) Bt.far Bt
  have Bl : B 2 202 (ser [0 - x.num, (x.den : Int)]) := B.of (by simp) fun z hz => by
    rcases List.mem_cons.mp hz with rfl | hz
    · exact bd_mono (bd_sub (show bd 201 (0 : Int) from bd0) x1) (by decide)
    · rw [List.mem_singleton.mp hz]; exact bd_mono x2 (by decide)
  have Bm := Bl.mul BM
  have fm : far (2 + (X.length + 1) - 1) (ser [0 - x.num, (x.den : Int)] * ser M) := far_mul (show far 2 _ from far_lst [0 - x.num, (x.den : Int)]) fM
  obtain ⟨M', l3, e3, b3⟩ := row_bd fm Bm
  have eD : Ser.C (((y.den : Int) * wN x X * F : Int) : Rat) * (Ser.C c * mo) = qs (ser Gs) := by
    rw [e1, qs_mul, qs_C, ← h.em, ← Lean.Grind.Semiring.mul_assoc, ← C_mul, key, Rat.intCast_mul, C_mul]
    grind
  refine ⟨(y.den : Int) * wN x X * F, G', M', Gs, ⟨Int.mul_ne_zero (Int.mul_ne_zero (den_ne y) W0) h.f0, ?_, by rw [l2]; rfl, ?_, by rw [l3, List.length_cons]; omega, fun z => ?_⟩, b2, fun z hz => bd_mono (b3 z hz) (by omega), bd_mul bY bF, eD, l1, b1⟩
  · have ef := h.ef
    have em := eD
    rw [e1] at em
    rw [e2, qs_add, ← em, qs_mul, qs_C, ← ef, Rat.intCast_mul ((y.den : Int) * wN x X) F, C_mul]
    grind
  · have el := lin_eq x
    rw [e3, qs_mul, ← el, ← h.em]
    show Ser.C ((((x.den : Int) * qN X : Int)) : Rat) * _ = _
    rw [Rat.intCast_mul, C_mul]
    grind
  · have := (h.av z).mul ((av_xp z).sub (Av.C x z))
    show Av _ z ((z - x) * wvv z X)
    rw [Rat.mul_comm]
    exact this
end RR

/-! V06g: polys.through walked -/
namespace RR
open PySem PySem.Spec PyProof.Rows L2
local macro_rules | `(tactic| walk_at "bd") => `(tactic| first | assumption | exact bd_lit (by decide) | (with_reducible refine bd_mul ?_ ?_ <;> walk_at "bd") | (with_reducible refine bd_add ?_ ?_ <;> walk_at "bd") | (with_reducible refine bd_sub ?_ ?_ <;> walk_at "bd") | (with_reducible refine bd_neg ?_ <;> walk_at "bd"))
local macro_rules | `(tactic| walk_at "s") => `(tactic| with_reducible first
  | refine v_then ?_ | refine v_set ?_ | (apply v_var; · with_unfolding_all exact rfl) | refine v_bin ?_ | refine v_c ?_ | refine v_g0 ?_ | refine v_add ?_ | refine v_cons ?_ | refine v_nil ?_ | refine v_call ?_ | refine v_dB ?_ | refine v_next ?_ | refine v_ret ?_
  | refine v_ite ?_ | refine v_tst ?_ | refine v_kT ?_ | refine v_eqi ?_ | refine v_nei ?_ | refine v_eqr ?_ | refine v_ner ?_ | refine v_eqr0 ?_ | refine v_ner0 ?_ | refine v_eql ?_ | refine v_nel ?_ | refine v_eql0 ?_ | refine v_nel0 ?_ | refine v_isN ?_ | refine v_notN ?_
  | (apply v_bor; · with_unfolding_all exact rfl) | (apply v_own; · with_unfolding_all exact rfl) | refine v_tup ?_ | refine v_lst ?_ | (refine v_sz ?_ ?_; (· with_unfolding_all exact Nat.le_of_ble_eq_true rfl)) | (refine v_gIIz ?_ ?_; (· first | decide | omega))
  | refine v_lentz ?_ | refine v_lenlz ?_ | refine v_lent ?_ | refine v_lenl ?_ | refine v_I1 ?_ | refine v_I2 ?_ | refine v_int ?_ | refine v_seqlz ?_ | refine v_seqtz ?_ | refine v_sl ?_ | refine v_kSll ?_ | refine v_kSlt ?_ | refine v_ono ?_ | refine v_oso ?_ | refine v_kOS ?_
  | refine v_val ?_ | refine v_kVb ?_ | refine v_kVi ?_ | refine v_kVt ?_ | refine v_kVl ?_ | refine v_and ?_ | refine v_or ?_ | refine v_not ?_ | refine v_yes ?_ | refine v_if' ?_ | refine v_isi ?_ | refine v_kIii ?_ | refine v_kIib ?_ | refine v_kItt ?_
  | refine v_andV ?_ | refine v_orV ?_ | refine v_notV ?_ | refine v_kNV ?_ | refine v_neg ?_ | refine v_kNeg ?_ | refine v_seq ?_ | refine v_kSeql ?_ | refine v_kSeqt ?_ | refine v_rng1 ?_ | refine v_rng2 ?_ | refine v_enum ?_ | refine v_revr ?_ | refine v_rev ?_
  | (refine v_kR1 ?_ ?_ ?_; (· with_unfolding_all decide +kernel); (· with_unfolding_all decide +kernel))
  | (refine v_kR2 ?_ ?_ ?_ ?_ ?_; (· with_unfolding_all decide +kernel); (· with_unfolding_all decide +kernel); (· with_unfolding_all decide +kernel); (· with_unfolding_all decide +kernel))
  | refine v_gn ?_ | refine v_gt2 ?_ | refine v_gt3 ?_ | refine v_lc ?_ | refine v_for ?_ | refine v_setO ?_ | refine v_drop ?_ | (apply v_app; · with_unfolding_all exact rfl) | (apply v_setI; · with_unfolding_all exact rfl) | (apply v_rel; · with_unfolding_all exact rfl) | refine v_raise ?_ | refine v_par ?_ | refine v_kP ?_ | refine v_asg ?_
  | (apply v_aug; · with_unfolding_all exact rfl) | refine v_ifT ?_ | refine v_ifF ?_ | (refine v_pow ?_ ?_ ?_ ?_; (· with_unfolding_all decide +kernel); (· with_unfolding_all decide +kernel); (· with_unfolding_all decide +kernel)) | refine v_call0 ?_ | (apply v_lenr; · assumption) | (apply v_seqr; · assumption) | (apply v_kSeqr; · assumption) | (apply v_kSlr; · assumption)
  | refine v_ix0 ?_ | refine v_ix1 ?_ | refine v_ix2 ?_ | refine v_zip ?_ | refine v_kZl ?_ | refine v_kZt ?_ | (apply v_augI; · with_unfolding_all exact rfl) | refine v_try ?_ | refine v_isE ?_ | (refine v_kIE ?_ ?_; (· with_unfolding_all exact rfl)) | refine v_isB ?_ | refine v_notB ?_ | refine v_all ?_ | refine v_par3 ?_ | refine v_ifnT ?_ | refine v_ifnF ?_ | refine v_eqs ?_ | refine v_nes ?_ | refine v_rvs ?_ | refine v_kRvl ?_ | refine v_kRvt ?_
  | (refine v_mulb (a := ?a) (b := ?b) ?ha ?hb ?l ?h; (case ha => assumption); (case hb => assumption); (case l => omega)) | (refine v_fdivb (b := ?b) ?h0 ?hb ?l ?h; (case h0 => assumption); (case hb => assumption); (case l => omega)))
local macro_rules | `(tactic| walk_at "o") => `(tactic| first | walk_at "s" | with_reducible first
  | refine v_chn ?_ | refine v_signs ?_ | refine v_kSg ?_ | refine v_inS ?_ | refine v_ninS ?_ | (refine v_inQ2 ?_ ?_ ?_ ?_; (· first | assumption | (with_unfolding_all decide +kernel)); (· with_unfolding_all decide +kernel); (· with_unfolding_all decide +kernel)) | (refine v_inQ3 ?_ ?_ ?_ ?_ ?_; (· first | assumption | (with_unfolding_all decide +kernel)); (· with_unfolding_all decide +kernel); (· with_unfolding_all decide +kernel); (· with_unfolding_all decide +kernel)) | (refine v_inQ4 ?_ ?_ ?_ ?_ ?_ ?_; (· first | assumption | (with_unfolding_all decide +kernel)); (· with_unfolding_all decide +kernel); (· with_unfolding_all decide +kernel); (· with_unfolding_all decide +kernel); (· with_unfolding_all decide +kernel))
  | refine v_inF ?_ | refine v_getF ?_ | refine v_kGF ?_ | (refine v_gGetF ?_ ?_; (· with_unfolding_all exact rfl)) | refine v_slS ?_ | (refine v_kSS ?_ ?_; (· first | assumption | omega)) | refine v_intUi ?_ | (refine v_lens ?_ ?_; (· first | assumption | omega)) | refine v_dH ?_ | refine v_hInt ?_ | refine v_hNeg ?_ | refine v_fset ?_
  | (apply v_hVar; (· with_unfolding_all exact rfl); (· rfl)))
theorem P.PL {f : Ser Rat} {r xs : List Int} {d e : Int} {n a b : Nat} (h : P f r d) (e0 : e ≠ 0) (eq : Ser.C (e : Rat) * f = qs (ser xs)) (ln : xs.length ≤ n) (b1 : ∀ x ∈ xs, RR.bd a x) (b2 : RR.bd b e) : RR.PL n a b r d := by
  have dn := strip_done xs
  have h' := low_P e0 dn (by rw [ser_strip]; exact eq)
  obtain ⟨rfl, rfl⟩ := h.uniq h'
  exact ⟨by rw [lowR_len]; exact Nat.le_trans (strip_len xs) ln, lowR_bd e0 fun x hx => b1 x (strip_mem hx), lowD_bd e0 b2⟩
def fbn : Nat → Nat
  | 0 => 1
  | i + 1 => 20 + (i * 222 + 1) + fbn i
def gbn : Nat → Nat
  | 0 => 1
  | i + 1 => max (20 + (i * 222 + 1) + gbn i) (bDn i (fbn i) (gbn i) + (204 * i + 1)) + 1
theorem lim1 : ∀ i < 7, i * 20 + 1 + fbn i ≤ 4000 ∧ vbits (gbn i) 201 i ≤ 20000 ∧ 20 + (i * 20 + 1 + fbn i) + vbits (204 * i + 1) 201 (i + 1) ≤ 9000 ∧ max (201 + (i * 20 + 1 + fbn i)) (vbits (gbn i) 201 i + 20) + 1 + ((i + 1) * 20 + 1 + (204 * i + 1)) + (204 * i + 1) ≤ 13400 ∧ fbn i + fbn (i + 1) ≤ 9000 ∧ gbn i + (bDn i (fbn i) (gbn i) + (204 * i + 1)) ≤ 20000 := by decide +kernel
section
variable {M : Type}
theorem val_pl {f : Ser Rat} {r : List Int} {d : Int} {n c b a aq : Nat} {v : Rat} {m : M} {Q : D → M → Prop} {Z : Str → M → Prop} (hf : P f r d) (pf : PL n c b r d) (h1 : bd a v.num) (h2 : bd aq (v.den : Int)) (ha : aq ≤ a) (h9 : n * aq + 1 + b ≤ 9000) (hv : vbits c a n ≤ 100000)
    (k : ∀ w : Rat, Av f v w → bd (vbits c a n) w.num → bd (n * aq + 1 + b) (w.den : Int) → Q (pq w) m) : s_polys_value [pd r d, pq v] m Q Z := by
  have l := pf.ln
  have l1 : r.length * aq ≤ n * aq := Nat.mul_le_mul_right _ l
  have l2 : vbits c a r.length ≤ vbits c a n := vb_le (by omega)
  refine ⟨f, r, d, v.num, (v.den : Int), c, a, aq, b, rfl, hf, den_ne v, pf.bd, pf.dd, h1, bd_mono h2 ha, h2, by omega, by omega, fun w hw b1 b2 => ?_⟩
  rw [num_den v] at hw
  exact k w hw (bd_mono b1 l2) (bd_mono b2 (by omega))
/-- a point -/
def pt (p : Rat × Rat) : D := .tup [pq p.1, pq p.2]
def b_polys_through {M : Type} : DS M :=
    (dThen (dSet 1 (dC (.tup [(.tup []), (.int 1)])))
    (dThen (dSet 2 (dC (.tup [(.tup [(.int 1)]), (.int 1)])))
    (dThen (dFor (dSeq true (dBor 0)) (dgT 2 (dgCons (dgN 3) (dgCons (dgN 4) dgNil)))
      (dThen (dSet 5 (dCall s_fractions_over [] (dCons (dCall s_fractions_less [] (dCons (dVar 4) (dCons (dCall s_polys_value [] (dCons (dVar 1) (dCons (dVar 3) dNil))) dNil))) (dCons (dCall s_polys_value [] (dCons (dVar 2) (dCons (dVar 3) dNil))) dNil))))
    (dThen (dSet 1 (dCall s_polys_plus_l [] (dCons (dVar 1) (dCons (dCall s_polys_scaled [] (dCons (dVar 2) (dCons (dVar 5) dNil))) dNil))))
    (dSet 2 (dCall s_polys_times [] (dCons (dVar 2) (dCons (dCall s_polys_poly [] (dCons (dTup (dCons (dBin (g0 fun i j => .int (i - j)) (dC (.int 0)) (dBin (gIx false) (dVar 3) (dC (.int 0)))) (dCons (dBin (gIx false) (dVar 3) (dC (.int 1))) dNil))) (dCons (dBin (gIx false) (dVar 3) (dC (.int 1))) dNil))) dNil)))))))
    (dRet (dVar 1)))))
/-- at most seven points of drawn fractions -/
def thrA (ds : List D) (m : M) (Q : D → M → Prop) : Prop := ∃ S : List (Rat × Rat), ds = [.lst (S.map pt)] ∧ S.length ≤ 7 ∧ (S.map Prod.fst).Nodup ∧ (∀ p ∈ S, bd 201 p.1.num ∧ bd 20 (p.1.den : Int) ∧ bd 201 p.2.num ∧ bd 20 (p.2.den : Int)) ∧
  ∀ f r d, P f r d → (∀ p ∈ S, Av f p.1 p.2) → PL S.length (gbn S.length) (fbn S.length) r d → Q (pd r d) m
theorem Nw.nil : Nw [] 1 [] [1] 0 1 := ⟨by decide, by rw [ser_nil, qs_zero]; grind, rfl, by
  have o := P.one.eq
  exact o, by decide, fun x => Av.C 1 x⟩
/-- the state behind some points -/
def nwI (pts : D) (S T r : List (Rat × Rat)) (ρ : En) : Prop := ∃ (F : Int) (G M : List Int) (fo mo : Ser Rat) (rf : List Int) (df : Int) (rm : List Int) (dm : Int) (a3 a4 a5 : Sl), S = T.reverse ++ r ∧ Nw (T.map Prod.fst) F G M fo mo ∧ P fo rf df ∧ P mo rm dm ∧
  (∀ z ∈ G, bd (gbn T.length) z) ∧ bd (fbn T.length) F ∧ (∀ z ∈ M, bd (204 * T.length + 1) z) ∧ (∀ p ∈ T, Av fo p.1 p.2) ∧ ρ = [.bor pts, .val (pd rf df), .val (pd rm dm), a3, a4, a5]
theorem qN_bd {e : Nat} : ∀ X : List Rat, (∀ z ∈ X, bd e (z.den : Int)) → bd (X.length * e + 1) (qN X)
  | [], _ => by show bd _ 1; exact bd_mono (bd_lit (by decide)) (Nat.le_add_left 1 _)
  | z :: X, h => by
    refine bd_mono (bd_mul (h z List.mem_cons_self) (qN_bd X fun y hy => h y (List.mem_cons_of_mem _ hy))) ?_
    rw [List.length_cons, Nat.succ_mul]; omega
theorem qN_ne : ∀ X : List Rat, qN X ≠ 0
  | [] => Int.one_ne_zero
  | a :: X => Int.mul_ne_zero (den_ne a) (qN_ne X)
theorem vc_thrA : ∀ ds (m : M) Q (Z : Str → M → Prop), thrA ds m Q → okK [true] ds ∧ b_polys_through { nx := fun _ m' => Q .non m', rt := Q, ex := Z } (st0 [true] ds 6) m := by
  rintro ds m Q Z ⟨S, rfl, hl, nd, hS, q⟩
  have nlS : D.nls (S.map pt) = true := by
    clear hl nd hS q
    induction S with
    | nil => rfl
    | cons p S ih => exact ih
  refine ⟨⟨fun z => (nomatch z), trivial⟩, ?_⟩
  unfold b_polys_through
  repeat walk_at "o"
  refine v_kSeqLn nlS ?_
  refine v_kfor (fun it ρ m' => m' = m ∧ ∃ T r, it = r.map pt ∧ nwI (.lst (S.map pt)) S T r ρ) ⟨rfl, [], S, rfl, 1, [], [1], 0, 1, [], 1, [1], 1, _, _, _, by simp, Nw.nil, P.nil, P.one, fun z hz => absurd hz List.not_mem_nil, by unfold bd; decide, fun z hz => by rw [List.mem_singleton.mp hz]; unfold bd; decide, fun p hp => absurd hp List.not_mem_nil, rfl⟩ (fun ρ m' h => ?_) fun it its ρ m' h => ?_
  · obtain ⟨rfl, T, r, e, F, G, M, fo, mo, rf, df, rm, dm, _, _, _, eS, nw, pf, pm, bG, bF, bM, av, rfl⟩ := h
    obtain rfl : r = [] := by simpa using e.symm
    obtain rfl : T = S.reverse := by rw [eS]; simp
    rw [List.length_reverse] at bG bF
    repeat walk_at "o"
    exact q fo rf df pf (fun p hp => av p (List.mem_reverse.mpr hp)) (pf.PL nw.f0 nw.ef (by rw [nw.lg, List.length_map, List.length_reverse]; exact Nat.le_refl _) bG bF)
  · obtain ⟨rfl, T, r, e, F, G, M, fo, mo, rf, df, rm, dm, _, _, _, eS, nw, pf, pm, bG, bF, bM, av, rfl⟩ := h
    cases r with
    | nil => exact (nomatch e)
    | cons p r =>
    obtain ⟨rfl, rfl⟩ : it = pt p ∧ its = r.map pt := by injection e with a b; exact ⟨a, b⟩
    obtain ⟨x, y⟩ := p
    have hp := hS (x, y) (by rw [eS]; simp)
    obtain ⟨x1, x2, y1, y2⟩ : bd 201 x.num ∧ bd 20 (x.den : Int) ∧ bd 201 y.num ∧ bd 20 (y.den : Int) := hp
    have hT : ∀ z ∈ T.map Prod.fst, bd 201 z.num ∧ bd 20 (z.den : Int) := fun z hz => by
      obtain ⟨p, hp, rfl⟩ := List.mem_map.mp hz
      have := hS p (by rw [eS]; simp [hp])
      exact ⟨this.1, this.2.1⟩
    have nx : x ∉ T.map Prod.fst := fun hx => by
      rw [eS, List.map_append, List.map_cons] at nd
      have := (List.nodup_append.mp nd).2.2 x (by rw [List.map_reverse]; exact List.mem_reverse.mpr hx) x List.mem_cons_self
      exact this rfl
    have w0 := wvv_ne nx
    have lT : T.length < 7 := by
      have : S.length = T.length + (r.length + 1) := by rw [eS]; simp
      omega
    obtain ⟨L1, L2, L3, L4, L5, L6⟩ := lim1 T.length lT
    have lX : (T.map Prod.fst).length = T.length := List.length_map _
    have pl : PL T.length (gbn T.length) (fbn T.length) rf df := pf.PL nw.f0 nw.ef (by rw [nw.lg, lX]; exact Nat.le_refl _) bG bF
    have pb : PB (T.length + 1) (204 * T.length + 1) rm dm := pm.PB (qN_ne _) nw.em (by rw [← lX]; exact nw.lm) bM (bd_mono (qN_bd _ fun z hz => (hT z hz).2) (by rw [lX]; omega))
    rw [show pt (x, y) = .tup [pq x, pq y] from rfl]
    repeat walk_at "o"
    refine val_pl pf pl x1 x2 (by decide) (by omega) (by omega) fun u hu u1 u2 => ?_
    repeat walk_at "o"
    refine ⟨y, u, 201, 20, _, _, rfl, y1, y2, u1, u2, by omega, by omega, fun d1 d2 => ?_⟩
    repeat walk_at "o"
    refine val_at pm pb x1 x2 (by decide) (by omega) (by omega) fun v hv v1 v2 => ?_
    obtain rfl := hv.uniq (nw.av x)
    repeat walk_at "o"
    refine ⟨y - u, wvv x (T.map Prod.fst), _, _, _, _, rfl, d1, d2, v1, v2, by omega, by omega, w0, fun c1 c2 => ?_⟩
    have hc : (y - u) / wvv x (T.map Prod.fst) * wvv x (T.map Prod.fst) = y - u := Rat.div_mul_cancel w0
    generalize (y - u) / wvv x (T.map Prod.fst) = c at c1 c2 hc ⊢
    obtain ⟨F', G', M', Gs, nw', bG', bM', bF', eD, lD, bD⟩ := nw.next hu hc w0 bG bF bM x1 x2 y1 y2 hT
    rw [lX] at bG' bF' lD bD
    have F0 := nw'.f0
    repeat walk_at "o"
    have hb : bd 202 (0 - x.num) := bd_mono (bd_sub (show bd 201 (0 : Int) from bd0) x1) (by decide)
    have hlb : ∀ z ∈ [0 - x.num, (x.den : Int)], bd 202 z := fun z hz => by
      rcases List.mem_cons.mp hz with rfl | hz
      · exact hb
      · rw [List.mem_singleton.mp hz]; exact bd_mono x2 (by decide)
    have hld : done [0 - x.num, (x.den : Int)] := by
      show strip ([0 - x.num] ++ [(x.den : Int)]) = _
      rw [strip_snoc, if_neg (den_ne x)]; rfl
    have hlin := low_P (den_ne x) hld (lin_eq x)
    have plin : PB 2 202 _ _ := hlin.PB (den_ne x) (lin_eq x) (by simp) hlb (bd_mono x2 (by decide))
    have ep : Ser.C ((c.den : Int) : Rat) * (Ser.C c * mo) = Ser.C (c.num : Rat) * mo := by
      rw [← Lean.Grind.Semiring.mul_assoc, ← C_mul, den_num c]
    refine ⟨mo, rm, dm, c.num, (c.den : Int), T.length + 1, 204 * T.length + 1, max (max (201 + (T.length * 20 + 1 + fbn T.length)) (vbits (gbn T.length) 201 T.length + 20) + 1 + ((T.length + 1) * 20 + 1 + (204 * T.length + 1))) 9000, rfl, den_ne c, pm, pb, by omega, bd_mono c1 (Nat.le_max_left _ _), bd_mono c2 (Nat.le_trans L3 (Nat.le_max_right _ _)), by omega, fun s hs hP _ => ?_⟩
    have hg := hP _ ep
    have pl2 : PL (T.length + 1) _ (fbn (T.length + 1)) _ _ := hg.PL F0 eD (by rw [lD]; exact Nat.le_refl _) bD bF'
    repeat walk_at "o"
    refine .inr ⟨fo, _, rf, df, _, _, T.length, _, _, T.length + 1, _, _, rfl, pf, hg, pl, pl2, by omega, by omega, by omega, L5, fun r1 d1 h1 => ?_⟩
    repeat walk_at "o"
    refine ⟨[0 - x.num, (x.den : Int)], (x.den : Int), rfl, by simp, fun z => absurd z (den_ne x), fun _ => ⟨Sm.of x2 hlb (by decide), ?_⟩⟩
    repeat walk_at "o"
    refine ⟨mo, lin x, rm, dm, _, _, T.length + 1, 204 * T.length + 1, 2, 202, rfl, pm, hlin, pb, plin, by omega, by omega, by omega, fun r2 d2 h2 _ => ?_⟩
    repeat walk_at "o"
    refine ⟨rfl, (x, y) :: T, r, rfl, F', G', M', _, _, r1, d1, r2, d2, _, _, _, by rw [eS]; simp, nw', h1, h2, bG', bF', fun z hz => bd_mono (bM' z hz) (by rw [List.length_cons]; omega), fun p hp => ?_, rfl⟩
    rcases List.mem_cons.mp hp with rfl | hp
    · have := hu.add ((Av.C c x).mul (nw.av x))
      rw [hc, show u + (y - u) = y by grind] at this
      exact this
    · have := (av p hp).add ((Av.C c p.1).mul (nw.av p.1))
      rw [wvv_zero (List.mem_map.mpr ⟨p, hp, rfl⟩), show p.2 + c * 0 = p.2 by grind] at this
      exact this
end
end RR

/-! V06h: squares of whole numbers: the polynomial through them -/
namespace RR
open PySem PySem.Spec PyProof.Rows L2
local macro_rules | `(tactic| walk_at "bd") => `(tactic| first | assumption | exact bd_lit (by decide) | (with_reducible refine bd_mul ?_ ?_ <;> walk_at "bd") | (with_reducible refine bd_add ?_ ?_ <;> walk_at "bd") | (with_reducible refine bd_sub ?_ ?_ <;> walk_at "bd") | (with_reducible refine bd_neg ?_ <;> walk_at "bd"))
local macro_rules | `(tactic| walk_at "s") => `(tactic| with_reducible first
  | refine v_then ?_ | refine v_set ?_ | (apply v_var; · with_unfolding_all exact rfl) | refine v_bin ?_ | refine v_c ?_ | refine v_g0 ?_ | refine v_add ?_ | refine v_cons ?_ | refine v_nil ?_ | refine v_call ?_ | refine v_dB ?_ | refine v_next ?_ | refine v_ret ?_
  | refine v_ite ?_ | refine v_tst ?_ | refine v_kT ?_ | refine v_eqi ?_ | refine v_nei ?_ | refine v_eqr ?_ | refine v_ner ?_ | refine v_eqr0 ?_ | refine v_ner0 ?_ | refine v_eql ?_ | refine v_nel ?_ | refine v_eql0 ?_ | refine v_nel0 ?_ | refine v_isN ?_ | refine v_notN ?_
  | (apply v_bor; · with_unfolding_all exact rfl) | (apply v_own; · with_unfolding_all exact rfl) | refine v_tup ?_ | refine v_lst ?_ | (refine v_sz ?_ ?_; (· with_unfolding_all exact Nat.le_of_ble_eq_true rfl)) | (refine v_gIIz ?_ ?_; (· first | decide | omega))
  | refine v_lentz ?_ | refine v_lenlz ?_ | refine v_lent ?_ | refine v_lenl ?_ | refine v_I1 ?_ | refine v_I2 ?_ | refine v_int ?_ | refine v_seqlz ?_ | refine v_seqtz ?_ | refine v_sl ?_ | refine v_kSll ?_ | refine v_kSlt ?_ | refine v_ono ?_ | refine v_oso ?_ | refine v_kOS ?_
  | refine v_val ?_ | refine v_kVb ?_ | refine v_kVi ?_ | refine v_kVt ?_ | refine v_kVl ?_ | refine v_and ?_ | refine v_or ?_ | refine v_not ?_ | refine v_yes ?_ | refine v_if' ?_ | refine v_isi ?_ | refine v_kIii ?_ | refine v_kIib ?_ | refine v_kItt ?_
  | refine v_andV ?_ | refine v_orV ?_ | refine v_notV ?_ | refine v_kNV ?_ | refine v_neg ?_ | refine v_kNeg ?_ | refine v_seq ?_ | refine v_kSeql ?_ | refine v_kSeqt ?_ | refine v_rng1 ?_ | refine v_rng2 ?_ | refine v_enum ?_ | refine v_revr ?_ | refine v_rev ?_
  | (refine v_kR1 ?_ ?_ ?_; (· with_unfolding_all decide +kernel); (· with_unfolding_all decide +kernel))
  | (refine v_kR2 ?_ ?_ ?_ ?_ ?_; (· with_unfolding_all decide +kernel); (· with_unfolding_all decide +kernel); (· with_unfolding_all decide +kernel); (· with_unfolding_all decide +kernel))
  | refine v_gn ?_ | refine v_gt2 ?_ | refine v_gt3 ?_ | refine v_lc ?_ | refine v_for ?_ | refine v_setO ?_ | refine v_drop ?_ | (apply v_app; · with_unfolding_all exact rfl) | (apply v_setI; · with_unfolding_all exact rfl) | (apply v_rel; · with_unfolding_all exact rfl) | refine v_raise ?_ | refine v_par ?_ | refine v_kP ?_ | refine v_asg ?_
  | (apply v_aug; · with_unfolding_all exact rfl) | refine v_ifT ?_ | refine v_ifF ?_ | (refine v_pow ?_ ?_ ?_ ?_; (· with_unfolding_all decide +kernel); (· with_unfolding_all decide +kernel); (· with_unfolding_all decide +kernel)) | refine v_call0 ?_ | (apply v_lenr; · assumption) | (apply v_seqr; · assumption) | (apply v_kSeqr; · assumption) | (apply v_kSlr; · assumption)
  | refine v_ix0 ?_ | refine v_ix1 ?_ | refine v_ix2 ?_ | refine v_zip ?_ | refine v_kZl ?_ | refine v_kZt ?_ | (apply v_augI; · with_unfolding_all exact rfl) | refine v_try ?_ | refine v_isE ?_ | (refine v_kIE ?_ ?_; (· with_unfolding_all exact rfl)) | refine v_isB ?_ | refine v_notB ?_ | refine v_all ?_ | refine v_par3 ?_ | refine v_ifnT ?_ | refine v_ifnF ?_ | refine v_eqs ?_ | refine v_nes ?_ | refine v_rvs ?_ | refine v_kRvl ?_ | refine v_kRvt ?_
  | (refine v_mulb (a := ?a) (b := ?b) ?ha ?hb ?l ?h; (case ha => assumption); (case hb => assumption); (case l => omega)) | (refine v_fdivb (b := ?b) ?h0 ?hb ?l ?h; (case h0 => assumption); (case hb => assumption); (case l => omega)))
local macro_rules | `(tactic| walk_at "o") => `(tactic| first | walk_at "s" | with_reducible first
  | refine v_chn ?_ | refine v_signs ?_ | refine v_kSg ?_ | refine v_inS ?_ | refine v_ninS ?_ | (refine v_inQ2 ?_ ?_ ?_ ?_; (· first | assumption | (with_unfolding_all decide +kernel)); (· with_unfolding_all decide +kernel); (· with_unfolding_all decide +kernel)) | (refine v_inQ3 ?_ ?_ ?_ ?_ ?_; (· first | assumption | (with_unfolding_all decide +kernel)); (· with_unfolding_all decide +kernel); (· with_unfolding_all decide +kernel); (· with_unfolding_all decide +kernel)) | (refine v_inQ4 ?_ ?_ ?_ ?_ ?_ ?_; (· first | assumption | (with_unfolding_all decide +kernel)); (· with_unfolding_all decide +kernel); (· with_unfolding_all decide +kernel); (· with_unfolding_all decide +kernel); (· with_unfolding_all decide +kernel))
  | refine v_inF ?_ | refine v_getF ?_ | refine v_kGF ?_ | (refine v_gGetF ?_ ?_; (· with_unfolding_all exact rfl)) | refine v_slS ?_ | (refine v_kSS ?_ ?_; (· first | assumption | omega)) | refine v_intUi ?_ | (refine v_lens ?_ ?_; (· first | assumption | omega)) | refine v_dH ?_ | refine v_hInt ?_ | refine v_hNeg ?_ | refine v_fset ?_
  | (apply v_hVar; (· with_unfolding_all exact rfl); (· rfl)))
def lins : List Int → Ser Rat
  | [] => 1
  | a :: T => lins T * lin (a : Rat)
def cs (T : List Int) : List Rat := T.map fun a : Int => (a : Rat)
/-- the squares' polynomial behind some -/
def gF : List Int → List Int
  | [] => []
  | [a] => [a * a]
  | [b, a] => [0 - a * b, a + b]
  | _ => [0, 0, 1]
def uF (k : Rat) : List Int → Rat
  | [] => 0
  | [a] => a * a
  | [b, a] => (a + b) * k - a * b
  | _ => k * k
theorem gF_av (k : Rat) (T : List Int) : Av (qs (ser (gF T))) k (uF k T) := by
  have h := ev_qs k (gF T)
  have e : ev k (gF T) = uF k T := by
    match T with
    | [] => rfl
    | [a] =>
      show ((a * a : Int) : Rat) + k * 0 = (a : Rat) * a
      rw [Rat.intCast_mul]; grind
    | [b, a] =>
      show ((0 - a * b : Int) : Rat) + k * (((a + b : Int) : Rat) + k * 0) = ((a : Rat) + b) * k - a * b
      rw [Rat.intCast_sub, Rat.intCast_add, Rat.intCast_mul, show ((0 : Int) : Rat) = 0 from rfl]; grind
    | _ :: _ :: _ :: _ =>
      show ((0 : Int) : Rat) + k * (((0 : Int) : Rat) + k * (((1 : Int) : Rat) + k * 0)) = k * k
      rw [show ((0 : Int) : Rat) = 0 from rfl, show ((1 : Int) : Rat) = 1 from rfl]; grind
  rw [e] at h
  exact h
theorem gF_next (k : Int) (T : List Int) {c : Rat} (w0 : wvv k (cs T) ≠ 0) (hc : c * wvv k (cs T) = (k : Rat) * k - uF k T) : qs (ser (gF (k :: T))) = qs (ser (gF T)) + Ser.C c * lins T := by
  have nl : qs (ser []) = 0 := by rw [ser_nil, qs_zero]
  match T with
  | [] =>
    have hc : c * 1 = (k : Rat) * k - 0 := hc
    have : c = ((k * k : Int) : Rat) := by rw [Rat.intCast_mul]; grind
    subst this
    show qs (ser [k * k]) = qs (ser []) + Ser.C _ * 1
    rw [nl, ser_cons, ser_nil, qs_add, qs_mul, qs_zero, qs_C]
    grind
  | [a] =>
    have hc : c * (((k : Rat) - a) * 1) = (k : Rat) * k - (a : Rat) * a := hc
    have w0 : ((k : Rat) - a) * 1 ≠ 0 := w0
    have i0 := Rat.mul_inv_cancel _ w0
    have : c = ((a + k : Int) : Rat) := by rw [Rat.intCast_add]; grind
    subst this
    show qs (ser [0 - a * k, a + k]) = qs (ser [a * a]) + Ser.C _ * (1 * (xp 1 - Ser.C (a : Rat)))
    rw [ser_cons, ser_cons, ser_nil, ser_cons, ser_nil, qs_add, qs_mul, qs_add, qs_mul, qs_add, qs_mul, qs_zero, qs_C, qs_C, qs_C, qs_xp, Rat.intCast_sub, Rat.intCast_mul, Rat.intCast_mul, Rat.intCast_add, show ((0 : Int) : Rat) = 0 from rfl, show (0 : Rat) - (a : Rat) * k = -((a : Rat) * k) by grind, C_neg, C_mul, C_mul, C_add]
    grind
  | [b, a] =>
    have hc : c * (((k : Rat) - b) * (((k : Rat) - a) * 1)) = (k : Rat) * k - (((a : Rat) + b) * k - a * b) := hc
    have w0 : ((k : Rat) - b) * (((k : Rat) - a) * 1) ≠ 0 := w0
    have i0 := Rat.mul_inv_cancel _ w0
    have : c = 1 := by grind
    subst this
    show qs (ser [0, 0, 1]) = qs (ser [0 - a * b, a + b]) + Ser.C 1 * ((1 * (xp 1 - Ser.C (a : Rat))) * (xp 1 - Ser.C (b : Rat)))
    rw [ser_cons, ser_cons, ser_cons, ser_nil, ser_cons, ser_cons, ser_nil, qs_add, qs_mul, qs_add, qs_mul, qs_add, qs_mul, qs_add, qs_mul, qs_add, qs_mul, qs_zero, qs_C, qs_C, qs_C, qs_C, qs_xp, Rat.intCast_sub, Rat.intCast_mul, Rat.intCast_add, show ((0 : Int) : Rat) = 0 from rfl, show ((1 : Int) : Rat) = 1 from rfl, show (0 : Rat) - (a : Rat) * b = -((a : Rat) * b) by grind, C_neg, C_mul, C_add, C_one, C_zero]
    grind
  | d :: b :: a :: U =>
    have hc : c * wvv k (cs (d :: b :: a :: U)) = (k : Rat) * k - (k : Rat) * k := hc
    have : c = 0 := by
      rcases Rat.mul_eq_zero.mp (show c * wvv k (cs (d :: b :: a :: U)) = 0 by rw [hc]; grind) with e | e
      · exact e
      · exact absurd e w0
    subst this
    show qs (ser [0, 0, 1]) = qs (ser [0, 0, 1]) + Ser.C 0 * _
    rw [C_zero]; grind
theorem lins_av (z : Rat) : ∀ T : List Int, Av (lins T) z (wvv z (cs T))
  | [] => Av.C 1 z
  | a :: T => by
    have := (lins_av z T).mul ((av_xp z).sub (Av.C (a : Rat) z))
    show Av _ z ((z - (a : Rat)) * wvv z (cs T))
    rw [Rat.mul_comm]
    exact this
end RR

/-! V06i: polys.through for squares -/
namespace RR
open PySem PySem.Spec PyProof.Rows L2
local macro_rules | `(tactic| walk_at "bd") => `(tactic| first | assumption | exact bd_lit (by decide) | (with_reducible refine bd_mul ?_ ?_ <;> walk_at "bd") | (with_reducible refine bd_add ?_ ?_ <;> walk_at "bd") | (with_reducible refine bd_sub ?_ ?_ <;> walk_at "bd") | (with_reducible refine bd_neg ?_ <;> walk_at "bd"))
local macro_rules | `(tactic| walk_at "s") => `(tactic| with_reducible first
  | refine v_then ?_ | refine v_set ?_ | (apply v_var; · with_unfolding_all exact rfl) | refine v_bin ?_ | refine v_c ?_ | refine v_g0 ?_ | refine v_add ?_ | refine v_cons ?_ | refine v_nil ?_ | refine v_call ?_ | refine v_dB ?_ | refine v_next ?_ | refine v_ret ?_
  | refine v_ite ?_ | refine v_tst ?_ | refine v_kT ?_ | refine v_eqi ?_ | refine v_nei ?_ | refine v_eqr ?_ | refine v_ner ?_ | refine v_eqr0 ?_ | refine v_ner0 ?_ | refine v_eql ?_ | refine v_nel ?_ | refine v_eql0 ?_ | refine v_nel0 ?_ | refine v_isN ?_ | refine v_notN ?_
  | (apply v_bor; · with_unfolding_all exact rfl) | (apply v_own; · with_unfolding_all exact rfl) | refine v_tup ?_ | refine v_lst ?_ | (refine v_sz ?_ ?_; (· with_unfolding_all exact Nat.le_of_ble_eq_true rfl)) | (refine v_gIIz ?_ ?_; (· first | decide | omega))
  | refine v_lentz ?_ | refine v_lenlz ?_ | refine v_lent ?_ | refine v_lenl ?_ | refine v_I1 ?_ | refine v_I2 ?_ | refine v_int ?_ | refine v_seqlz ?_ | refine v_seqtz ?_ | refine v_sl ?_ | refine v_kSll ?_ | refine v_kSlt ?_ | refine v_ono ?_ | refine v_oso ?_ | refine v_kOS ?_
  | refine v_val ?_ | refine v_kVb ?_ | refine v_kVi ?_ | refine v_kVt ?_ | refine v_kVl ?_ | refine v_and ?_ | refine v_or ?_ | refine v_not ?_ | refine v_yes ?_ | refine v_if' ?_ | refine v_isi ?_ | refine v_kIii ?_ | refine v_kIib ?_ | refine v_kItt ?_
  | refine v_andV ?_ | refine v_orV ?_ | refine v_notV ?_ | refine v_kNV ?_ | refine v_neg ?_ | refine v_kNeg ?_ | refine v_seq ?_ | refine v_kSeql ?_ | refine v_kSeqt ?_ | refine v_rng1 ?_ | refine v_rng2 ?_ | refine v_enum ?_ | refine v_revr ?_ | refine v_rev ?_
  | (refine v_kR1 ?_ ?_ ?_; (· with_unfolding_all decide +kernel); (· with_unfolding_all decide +kernel))
  | (refine v_kR2 ?_ ?_ ?_ ?_ ?_; (· with_unfolding_all decide +kernel); (· with_unfolding_all decide +kernel); (· with_unfolding_all decide +kernel); (· with_unfolding_all decide +kernel))
  | refine v_gn ?_ | refine v_gt2 ?_ | refine v_gt3 ?_ | refine v_lc ?_ | refine v_for ?_ | refine v_setO ?_ | refine v_drop ?_ | (apply v_app; · with_unfolding_all exact rfl) | (apply v_setI; · with_unfolding_all exact rfl) | (apply v_rel; · with_unfolding_all exact rfl) | refine v_raise ?_ | refine v_par ?_ | refine v_kP ?_ | refine v_asg ?_
  | (apply v_aug; · with_unfolding_all exact rfl) | refine v_ifT ?_ | refine v_ifF ?_ | (refine v_pow ?_ ?_ ?_ ?_; (· with_unfolding_all decide +kernel); (· with_unfolding_all decide +kernel); (· with_unfolding_all decide +kernel)) | refine v_call0 ?_ | (apply v_lenr; · assumption) | (apply v_seqr; · assumption) | (apply v_kSeqr; · assumption) | (apply v_kSlr; · assumption)
  | refine v_ix0 ?_ | refine v_ix1 ?_ | refine v_ix2 ?_ | refine v_zip ?_ | refine v_kZl ?_ | refine v_kZt ?_ | (apply v_augI; · with_unfolding_all exact rfl) | refine v_try ?_ | refine v_isE ?_ | (refine v_kIE ?_ ?_; (· with_unfolding_all exact rfl)) | refine v_isB ?_ | refine v_notB ?_ | refine v_all ?_ | refine v_par3 ?_ | refine v_ifnT ?_ | refine v_ifnF ?_ | refine v_eqs ?_ | refine v_nes ?_ | refine v_rvs ?_ | refine v_kRvl ?_ | refine v_kRvt ?_
  | (refine v_mulb (a := ?a) (b := ?b) ?ha ?hb ?l ?h; (case ha => assumption); (case hb => assumption); (case l => omega)) | (refine v_fdivb (b := ?b) ?h0 ?hb ?l ?h; (case h0 => assumption); (case hb => assumption); (case l => omega)))
local macro_rules | `(tactic| walk_at "o") => `(tactic| first | walk_at "s" | with_reducible first
  | refine v_chn ?_ | refine v_signs ?_ | refine v_kSg ?_ | refine v_inS ?_ | refine v_ninS ?_ | (refine v_inQ2 ?_ ?_ ?_ ?_; (· first | assumption | (with_unfolding_all decide +kernel)); (· with_unfolding_all decide +kernel); (· with_unfolding_all decide +kernel)) | (refine v_inQ3 ?_ ?_ ?_ ?_ ?_; (· first | assumption | (with_unfolding_all decide +kernel)); (· with_unfolding_all decide +kernel); (· with_unfolding_all decide +kernel); (· with_unfolding_all decide +kernel)) | (refine v_inQ4 ?_ ?_ ?_ ?_ ?_ ?_; (· first | assumption | (with_unfolding_all decide +kernel)); (· with_unfolding_all decide +kernel); (· with_unfolding_all decide +kernel); (· with_unfolding_all decide +kernel); (· with_unfolding_all decide +kernel))
  | refine v_inF ?_ | refine v_getF ?_ | refine v_kGF ?_ | (refine v_gGetF ?_ ?_; (· with_unfolding_all exact rfl)) | refine v_slS ?_ | (refine v_kSS ?_ ?_; (· first | assumption | omega)) | refine v_intUi ?_ | (refine v_lens ?_ ?_; (· first | assumption | omega)) | refine v_dH ?_ | refine v_hInt ?_ | refine v_hNeg ?_ | refine v_fset ?_
  | (apply v_hVar; (· with_unfolding_all exact rfl); (· rfl)))
section
variable {M : Type}
def thrB (ds : List D) (m : M) (Q : D → M → Prop) : Prop := ∃ S : List Int, ds = [.lst (S.map fun k : Int => pt ((k : Rat), ((k * k : Int) : Rat)))] ∧ S.length ≤ 65 ∧ 3 ≤ S.length ∧ S.Nodup ∧ (∀ k ∈ S, bd 7 k) ∧ Q (pd [0, 0, 1] 1) m
def sqI (pts : D) (S T r : List Int) (ρ : En) : Prop := ∃ (rf : List Int) (df : Int) (rm : List Int) (dm : Int) (a3 a4 a5 : Sl), S = T.reverse ++ r ∧ P (qs (ser (gF T))) rf df ∧ P (lins T) rm dm ∧ PB (2 * T.length + 1) (10 * T.length + 1) rm dm ∧ ρ = [.bor pts, .val (pd rf df), .val (pd rm dm), a3, a4, a5]
theorem gF_sz (T : List Int) (h : ∀ k ∈ T, bd 7 k) : (gF T).length ≤ 3 ∧ ∀ z ∈ gF T, bd 16 z := by
  match T, h with
  | [], _ => exact ⟨by decide, fun z hz => absurd hz List.not_mem_nil⟩
  | [a], h =>
    refine ⟨by simp [gF], fun z hz => ?_⟩
    obtain rfl := List.mem_singleton.mp hz
    have := h a (by simp)
    exact bd_mono (bd_mul this this) (by decide)
  | [b, a], h =>
    have h1 := h b (by simp)
    have h2 := h a (by simp)
    refine ⟨by simp [gF], fun z hz => ?_⟩
    rcases List.mem_cons.mp hz with rfl | hz
    · exact bd_mono (bd_sub (show bd 14 (0 : Int) from bd0) (bd_mul h2 h1)) (by decide)
    · rw [List.mem_singleton.mp hz]; exact bd_mono (bd_add h2 h1) (by decide)
  | d :: b :: a :: U, _ =>
    refine ⟨by simp [gF], fun z hz => ?_⟩
    have : z = 0 ∨ z = 0 ∨ z = 1 := by simpa [gF] using hz
    rcases this with rfl | rfl | rfl <;> (unfold bd; decide)
theorem lim2 : ∀ i < 65, vbits (10 * i + 1) 7 (2 * i + 1) ≤ 2000 := by decide +kernel
theorem vc_thrB : ∀ ds (m : M) Q (Z : Str → M → Prop), thrB ds m Q → okK [true] ds ∧ b_polys_through { nx := fun _ m' => Q .non m', rt := Q, ex := Z } (st0 [true] ds 6) m := by
  rintro ds m Q Z ⟨S, rfl, hl, h3, nd, hS, q⟩
  have nlS : D.nls (S.map fun k : Int => pt ((k : Rat), ((k * k : Int) : Rat))) = true := by
    clear hl nd hS q h3
    induction S with
    | nil => rfl
    | cons p S ih => exact ih
  refine ⟨⟨fun z => (nomatch z), trivial⟩, ?_⟩
  unfold b_polys_through
  repeat walk_at "o"
  refine v_kSeqLn nlS ?_
  refine v_kfor (fun it ρ m' => m' = m ∧ ∃ T r, it = r.map (fun k : Int => pt ((k : Rat), ((k * k : Int) : Rat))) ∧ sqI (.lst (S.map fun k : Int => pt ((k : Rat), ((k * k : Int) : Rat)))) S T r ρ) ⟨rfl, [], S, rfl, [], 1, [1], 1, _, _, _, by simp, P.nil.cong (by show _ = qs (ser []); rw [ser_nil, qs_zero]), P.one, PB.one, rfl⟩ (fun ρ m' h => ?_) fun it its ρ m' h => ?_
  · obtain ⟨rfl, T, r, e, rf, df, rm, dm, _, _, _, eS, pf, pm, pb, rfl⟩ := h
    obtain rfl : r = [] := by simpa using e.symm
    obtain rfl : T = S.reverse := by rw [eS]; simp
    have lr : S.reverse.length = S.length := List.length_reverse
    have eg : gF S.reverse = [0, 0, 1] := by
      match S.reverse, lr with
      | [], l => simp at l; omega
      | [_], l => simp at l; omega
      | [_, _], l => simp at l; omega
      | _ :: _ :: _ :: _, _ => rfl
    rw [eg] at pf
    obtain ⟨rfl, rfl⟩ := pf.uniq (P.int (r := [0, 0, 1]) ⟨show strip [0, 0, 1] = [0, 0, 1] from rfl, rfl⟩)
    repeat walk_at "o"
    exact q
  · obtain ⟨rfl, T, r, e, rf, df, rm, dm, _, _, _, eS, pf, pm, pb, rfl⟩ := h
    cases r with
    | nil => exact (nomatch e)
    | cons k r =>
    obtain ⟨rfl, rfl⟩ : it = pt ((k : Rat), ((k * k : Int) : Rat)) ∧ its = r.map _ := by injection e with a b; exact ⟨a, b⟩
    have bk := hS k (by rw [eS]; simp)
    have hT : ∀ z ∈ T, bd 7 z := fun z hz => hS z (by rw [eS]; simp [hz])
    have nx : (k : Rat) ∉ cs T := fun hx => by
      obtain ⟨z, hz, e⟩ := List.mem_map.mp hx
      obtain rfl : z = k := Rat.intCast_inj.mp e
      rw [eS] at nd
      exact (List.nodup_append.mp nd).2.2 z (List.mem_reverse.mpr hz) z List.mem_cons_self rfl
    have w0 := wvv_ne nx
    have lT : T.length < 65 := by
      have : S.length = T.length + (r.length + 1) := by rw [eS]; simp
      omega
    have L := lim2 T.length lT
    obtain ⟨g1, g2⟩ := gF_sz T hT
    have o1 : ∀ g : Ser Rat, Ser.C ((1 : Int) : Rat) * g = g := fun g => by
      rw [show ((1 : Int) : Rat) = 1 from rfl, C_one]; grind
    have pl : PL 3 16 1 rf df := pf.PL (e := 1) (by decide) (o1 _) g1 g2 (by unfold bd; decide)
    have x1 : bd 7 ((k : Rat)).num := bk
    have x2 : bd 1 (((k : Rat)).den : Int) := by unfold bd; exact (by decide : (1 : Nat) < 2)
    have y1 : bd 14 (((k * k : Int) : Rat)).num := bd_mul bk bk
    have y2 : bd 1 ((((k * k : Int) : Rat)).den : Int) := by unfold bd; exact (by decide : (1 : Nat) < 2)
    rw [show pt ((k : Rat), ((k * k : Int) : Rat)) = .tup [pq (k : Rat), pq ((k * k : Int) : Rat)] from rfl]
    repeat walk_at "o"
    refine val_pl pf pl x1 x2 (by decide) (by decide) (by decide) fun u hu u1 u2 => ?_
    obtain rfl := hu.uniq (gF_av (k : Rat) T)
    repeat walk_at "o"
    refine ⟨((k * k : Int) : Rat), uF (k : Rat) T, 14, 1, _, _, rfl, y1, y2, u1, u2, by decide, by decide, fun d1 d2 => ?_⟩
    repeat walk_at "o"
    refine val_at pm pb x1 x2 (by decide) (by omega) (by omega) fun v hv v1 v2 => ?_
    obtain rfl := hv.uniq (lins_av (k : Rat) T)
    repeat walk_at "o"
    refine ⟨_, wvv k (cs T), _, _, _, _, rfl, bd_mono d1 (show _ ≤ 100 by decide), bd_mono d2 (show _ ≤ 100 by decide), bd_mono v1 L, v2, by decide, by omega, w0, fun c1 c2 => ?_⟩
    have hc : (((k * k : Int) : Rat) - uF (k : Rat) T) / wvv k (cs T) * wvv k (cs T) = ((k * k : Int) : Rat) - uF (k : Rat) T := Rat.div_mul_cancel w0
    generalize (((k * k : Int) : Rat) - uF (k : Rat) T) / wvv k (cs T) = c at c1 c2 hc ⊢
    rw [Rat.intCast_mul] at hc
    have nxt := gF_next k T w0 hc
    repeat walk_at "o"
    have hlb : ∀ z ∈ [0 - k, (1 : Int)], bd 8 z := fun z hz => by
      rcases List.mem_cons.mp hz with rfl | hz
      · exact bd_mono (bd_sub (show bd 7 (0 : Int) from bd0) bk) (by decide)
      · rw [List.mem_singleton.mp hz]; unfold bd; decide
    have hld : done [0 - k, (1 : Int)] := by
      show strip ([0 - k] ++ [(1 : Int)]) = _
      rw [strip_snoc, if_neg (by decide)]; rfl
    have hlin := low_P (f := lin (k : Rat)) (d := 1) (by decide) hld (lin_eq (k : Rat))
    have plin : PB 2 8 _ _ := hlin.PB (xs := [0 - k, 1]) (e := 1) (by decide) (lin_eq (k : Rat)) (by simp) hlb (by unfold bd; decide)
    have ep : Ser.C ((c.den : Int) : Rat) * (Ser.C c * lins T) = Ser.C (c.num : Rat) * lins T := by
      rw [← Lean.Grind.Semiring.mul_assoc, ← C_mul, den_num c]
    refine ⟨lins T, rm, dm, c.num, (c.den : Int), 2 * T.length + 1, 10 * T.length + 1, 4000, rfl, den_ne c, pm, pb, by omega, bd_mono c1 (show _ ≤ 4000 by omega), bd_mono c2 (show _ ≤ 4000 by omega), by omega, fun s hs hP hB => ?_⟩
    have hg := hP _ ep
    repeat walk_at "o"
    refine .inr ⟨_, _, rf, df, _, _, 3, 16, 1, 2 * T.length + 1, _, _, rfl, pf, hg, pl, hB.pl, by omega, by omega, by omega, by omega, fun r1 d1 h1 => ?_⟩
    repeat walk_at "o"
    refine ⟨[0 - k, 1], 1, rfl, by simp, fun z => absurd z (by decide), fun _ => ⟨Sm.of (k := 1) (by unfold bd; decide) hlb (by decide), ?_⟩⟩
    repeat walk_at "o"
    refine ⟨lins T, lin (k : Rat), rm, dm, _, _, 2 * T.length + 1, 10 * T.length + 1, 2, 8, rfl, pm, hlin, pb, plin, by omega, by omega, by omega, fun r2 d2 h2 p2 => ?_⟩
    repeat walk_at "o"
    exact ⟨rfl, k :: T, r, rfl, r1, d1, r2, d2, _, _, _, by rw [eS]; simp, h1.cong nxt.symm, h2, p2.mono (by rw [List.length_cons]; omega) (by rw [List.length_cons]; omega), rfl⟩
def s_polys_through {M : Type} : DSp M := fun ds m Q Z => thrA ds m Q ∨ thrB ds m Q
theorem vc_polys_through {M : Type} : ∀ ds (m : M) Q Z, s_polys_through ds m Q Z → okK [true] ds ∧ b_polys_through { nx := fun _ m' => Q .non m', rt := Q, ex := Z } (st0 [true] ds 6) m := by
  rintro ds m Q Z (h | h)
  · exact vc_thrA ds m Q Z h
  · exact vc_thrB ds m Q Z h
end
end RR

/-! V06j: the law's own look at points -/
namespace RR
open PySem PySem.Spec PyProof.Rows L2
local macro_rules | `(tactic| walk_at "bd") => `(tactic| first | assumption | exact bd_lit (by decide) | (with_reducible refine bd_mul ?_ ?_ <;> walk_at "bd") | (with_reducible refine bd_add ?_ ?_ <;> walk_at "bd") | (with_reducible refine bd_sub ?_ ?_ <;> walk_at "bd") | (with_reducible refine bd_neg ?_ <;> walk_at "bd"))
local macro_rules | `(tactic| walk_at "s") => `(tactic| with_reducible first
  | refine v_then ?_ | refine v_set ?_ | (apply v_var; · with_unfolding_all exact rfl) | refine v_bin ?_ | refine v_c ?_ | refine v_g0 ?_ | refine v_add ?_ | refine v_cons ?_ | refine v_nil ?_ | refine v_call ?_ | refine v_dB ?_ | refine v_next ?_ | refine v_ret ?_
  | refine v_ite ?_ | refine v_tst ?_ | refine v_kT ?_ | refine v_eqi ?_ | refine v_nei ?_ | refine v_eqr ?_ | refine v_ner ?_ | refine v_eqr0 ?_ | refine v_ner0 ?_ | refine v_eql ?_ | refine v_nel ?_ | refine v_eql0 ?_ | refine v_nel0 ?_ | refine v_isN ?_ | refine v_notN ?_
  | (apply v_bor; · with_unfolding_all exact rfl) | (apply v_own; · with_unfolding_all exact rfl) | refine v_tup ?_ | refine v_lst ?_ | (refine v_sz ?_ ?_; (· with_unfolding_all exact Nat.le_of_ble_eq_true rfl)) | (refine v_gIIz ?_ ?_; (· first | decide | omega))
  | refine v_lentz ?_ | refine v_lenlz ?_ | refine v_lent ?_ | refine v_lenl ?_ | refine v_I1 ?_ | refine v_I2 ?_ | refine v_int ?_ | refine v_seqlz ?_ | refine v_seqtz ?_ | refine v_sl ?_ | refine v_kSll ?_ | refine v_kSlt ?_ | refine v_ono ?_ | refine v_oso ?_ | refine v_kOS ?_
  | refine v_val ?_ | refine v_kVb ?_ | refine v_kVi ?_ | refine v_kVt ?_ | refine v_kVl ?_ | refine v_and ?_ | refine v_or ?_ | refine v_not ?_ | refine v_yes ?_ | refine v_if' ?_ | refine v_isi ?_ | refine v_kIii ?_ | refine v_kIib ?_ | refine v_kItt ?_
  | refine v_andV ?_ | refine v_orV ?_ | refine v_notV ?_ | refine v_kNV ?_ | refine v_neg ?_ | refine v_kNeg ?_ | refine v_seq ?_ | refine v_kSeql ?_ | refine v_kSeqt ?_ | refine v_rng1 ?_ | refine v_rng2 ?_ | refine v_enum ?_ | refine v_revr ?_ | refine v_rev ?_
  | (refine v_kR1 ?_ ?_ ?_; (· with_unfolding_all decide +kernel); (· with_unfolding_all decide +kernel))
  | (refine v_kR2 ?_ ?_ ?_ ?_ ?_; (· with_unfolding_all decide +kernel); (· with_unfolding_all decide +kernel); (· with_unfolding_all decide +kernel); (· with_unfolding_all decide +kernel))
  | refine v_gn ?_ | refine v_gt2 ?_ | refine v_gt3 ?_ | refine v_lc ?_ | refine v_for ?_ | refine v_setO ?_ | refine v_drop ?_ | (apply v_app; · with_unfolding_all exact rfl) | (apply v_setI; · with_unfolding_all exact rfl) | (apply v_rel; · with_unfolding_all exact rfl) | refine v_raise ?_ | refine v_par ?_ | refine v_kP ?_ | refine v_asg ?_
  | (apply v_aug; · with_unfolding_all exact rfl) | refine v_ifT ?_ | refine v_ifF ?_ | (refine v_pow ?_ ?_ ?_ ?_; (· with_unfolding_all decide +kernel); (· with_unfolding_all decide +kernel); (· with_unfolding_all decide +kernel)) | refine v_call0 ?_ | (apply v_lenr; · assumption) | (apply v_seqr; · assumption) | (apply v_kSeqr; · assumption) | (apply v_kSlr; · assumption)
  | refine v_ix0 ?_ | refine v_ix1 ?_ | refine v_ix2 ?_ | refine v_zip ?_ | refine v_kZl ?_ | refine v_kZt ?_ | (apply v_augI; · with_unfolding_all exact rfl) | refine v_try ?_ | refine v_isE ?_ | (refine v_kIE ?_ ?_; (· with_unfolding_all exact rfl)) | refine v_isB ?_ | refine v_notB ?_ | refine v_all ?_ | refine v_par3 ?_ | refine v_ifnT ?_ | refine v_ifnF ?_ | refine v_eqs ?_ | refine v_nes ?_ | refine v_rvs ?_ | refine v_kRvl ?_ | refine v_kRvt ?_
  | (refine v_mulb (a := ?a) (b := ?b) ?ha ?hb ?l ?h; (case ha => assumption); (case hb => assumption); (case l => omega)) | (refine v_fdivb (b := ?b) ?h0 ?hb ?l ?h; (case h0 => assumption); (case hb => assumption); (case l => omega)))
local macro_rules | `(tactic| walk_at "o") => `(tactic| first | walk_at "s" | with_reducible first
  | refine v_chn ?_ | refine v_signs ?_ | refine v_kSg ?_ | refine v_inS ?_ | refine v_ninS ?_ | (refine v_inQ2 ?_ ?_ ?_ ?_; (· first | assumption | (with_unfolding_all decide +kernel)); (· with_unfolding_all decide +kernel); (· with_unfolding_all decide +kernel)) | (refine v_inQ3 ?_ ?_ ?_ ?_ ?_; (· first | assumption | (with_unfolding_all decide +kernel)); (· with_unfolding_all decide +kernel); (· with_unfolding_all decide +kernel); (· with_unfolding_all decide +kernel)) | (refine v_inQ4 ?_ ?_ ?_ ?_ ?_ ?_; (· first | assumption | (with_unfolding_all decide +kernel)); (· with_unfolding_all decide +kernel); (· with_unfolding_all decide +kernel); (· with_unfolding_all decide +kernel); (· with_unfolding_all decide +kernel))
  | refine v_inF ?_ | refine v_getF ?_ | refine v_kGF ?_ | (refine v_gGetF ?_ ?_; (· with_unfolding_all exact rfl)) | refine v_slS ?_ | (refine v_kSS ?_ ?_; (· first | assumption | omega)) | refine v_intUi ?_ | (refine v_lens ?_ ?_; (· first | assumption | omega)) | refine v_dH ?_ | refine v_hInt ?_ | refine v_hNeg ?_ | refine v_fset ?_
  | (apply v_hVar; (· with_unfolding_all exact rfl); (· rfl)))
mutual
theorem eqv_self : ∀ {d : D} {n : Nat}, d.q n = true → d.eqv d = true
  | .non, _, _ => rfl
  | .bl b, _, _ => by simp [D.eqv]
  | .int i, _, _ => by simp [D.eqv]
  | .str x, _, _ => by simp [D.eqv]
  | .hnd _, n, h => by cases n <;> cases h
  | .dic, n, h => by cases n <;> cases h
  | .exc _, n, h => by cases n <;> cases h
  | .fn _, n, h => by cases n <;> cases h
  | .ptr _, n, h => by cases n <;> cases h
  | .lst xs, 0, h => by cases h
  | .tup xs, 0, h => by cases h
  | .lst xs, n + 1, h => by
    simp only [D.eqv]
    exact eqvs_self (n := n) fun x hx => List.all_eq_true.mp h x hx
  | .tup xs, n + 1, h => by
    simp only [D.eqv]
    exact eqvs_self (n := n) fun x hx => List.all_eq_true.mp h x hx
theorem eqvs_self : ∀ {xs : List D} {n : Nat}, (∀ x ∈ xs, x.q n = true) → D.eqvs xs xs = true
  | [], _, _ => by simp only [D.eqvs]
  | x :: xs, n, h => by
    simp only [D.eqvs]
    rw [eqv_self (h x List.mem_cons_self), eqvs_self (n := n) fun y hy => h y (List.mem_cons_of_mem _ hy)]; rfl
end
theorem lim3 : ∀ i < 8, i * 20 + 1 + fbn i ≤ 9000 ∧ vbits (gbn i) 201 i ≤ 100000 := by decide +kernel
section
variable {M : Type}
def b__law_through_right {M : Type} : DS M :=
    (dThen (dSet 1 (dB (gSeq .lst) (dCons (dBor 0) dNil)))
    (dThen (dSet 2 (dCall s_polys_through [] (dCons (dVar 1) dNil)))
    (dThen (dIte (dOr (dTst (dBin gNe (dVar 1) (dBor 0))) (dOr (dNot (dVal (dCall s_polys_is_poly [] (dCons (dVar 2) dNil)))) (dTst (dBin gGt (dB gLen (dCons (dBin (gIx false) (dVar 2) (dC (.int 0))) dNil)) (dB gLen (dCons (dBor 0) dNil))))))
      (dRet (dC (.bl false)))
      dNext)
    (dRet (dBin gEq (dLc (dSeq true (dBor 0)) (dgT 2 (dgCons (dgN 3) (dgCons (dgN 4) dgNil))) dYes (dCall s_polys_value [] (dCons (dVar 2) (dCons (dVar 3) dNil))) [3, 4]) (dLc (dSeq true (dBor 0)) (dgT 2 (dgCons (dgN 3) (dgCons (dgN 4) dgNil))) dYes (dVar 4) [3, 4]))))))
def s__law_through_right {M : Type} : DSp M := fun ds m Q Z => ∃ S : List (Rat × Rat), ds = [.lst (S.map pt)] ∧ S.length ≤ 7 ∧ (S.map Prod.fst).Nodup ∧ (∀ p ∈ S, bd 201 p.1.num ∧ bd 20 (p.1.den : Int) ∧ bd 201 p.2.num ∧ bd 20 (p.2.den : Int)) ∧ Q (.bl true) m
theorem q_pt (p : Rat × Rat) : (pt p).q 7 = true := rfl
theorem q_lstD {ds : List D} (h : ∀ d ∈ ds, d.q 7 = true) : (D.lst ds).q 8 = true := List.all_eq_true.mpr h
theorem vc__law_through_right {M : Type} : ∀ ds (m : M) Q Z, s__law_through_right ds m Q Z → okK [true] ds ∧ b__law_through_right { nx := fun _ m' => Q .non m', rt := Q, ex := Z } (st0 [true] ds 5) m := by
  rintro ds m Q Z ⟨S, rfl, hl, nd, hS, q⟩
  have nlS : D.nls (S.map pt) = true := by
    clear hl nd hS q
    induction S with
    | nil => rfl
    | cons p S ih => exact ih
  have qS : (D.lst (S.map pt)).q 8 = true := q_lstD fun d hd => by
    obtain ⟨p, _, rfl⟩ := List.mem_map.mp hd
    exact q_pt p
  refine ⟨⟨fun z => (nomatch z), trivial⟩, ?_⟩
  unfold b__law_through_right
  repeat walk_at "o"
  refine v_seql nlS ?_
  repeat walk_at "o"
  refine .inl ⟨S, rfl, hl, nd, hS, fun f r d hf av pl => ?_⟩
  have lr := pl.ln
  obtain ⟨L1, L2⟩ := lim3 S.length (by omega)
  repeat walk_at "o"
  refine v_ned qS qS ?_
  rw [eqv_self qS]
  repeat walk_at "o"
  refine ⟨pd r d, rfl, .inl ⟨r, d, rfl, by omega, ?_⟩⟩
  rw [isPd_P hf]
  repeat walk_at "o"
  rw [List.length_map, show decide ((S.length : Int) < (r.length : Int)) = false from decide_eq_false (by omega)]
  refine v_ifF ?_
  repeat walk_at "o"
  refine v_kSeqLn nlS ?_
  refine lcGo_map (h := fun p : Rat × Rat => pq p.2) S (fun p hp m1 K l hK => ?_) (small_line (by omega)) ?_
  · obtain ⟨x, y⟩ := p
    obtain ⟨x1, x2, _, _⟩ : bd 201 x.num ∧ bd 20 (x.den : Int) ∧ bd 201 y.num ∧ bd 20 (y.den : Int) := hS (x, y) hp
    rw [show pt (x, y) = .tup [pq x, pq y] from rfl]
    repeat walk_at "o"
    refine val_pl hf pl x1 x2 (by decide) L1 L2 fun w hw _ _ => ?_
    obtain rfl : w = y := hw.uniq (av (x, y) hp)
    repeat walk_at "o"
    exact hK
  repeat walk_at "o"
  refine v_kSeqLn nlS ?_
  refine lcGo_map (h := fun p : Rat × Rat => pq p.2) S (fun p hp m1 K l hK => ?_) (small_line (by omega)) ?_
  · obtain ⟨x, y⟩ := p
    rw [show pt (x, y) = .tup [pq x, pq y] from rfl]
    repeat walk_at "o"
    exact hK
  have q2 : (D.lst (S.map fun p : Rat × Rat => pq p.2)).q 8 = true := q_lstD fun d hd => by
    obtain ⟨p, _, rfl⟩ := List.mem_map.mp hd
    rfl
  refine v_eqd q2 q2 ?_
  rw [eqv_self q2]
  repeat walk_at "o"
  exact q
end
end RR

/-! V06k: what is derived; the law -/
namespace RR
open PySem PySem.Spec PyProof.Rows L2
local macro_rules | `(tactic| walk_at "bd") => `(tactic| first | assumption | exact bd_lit (by decide) | (with_reducible refine bd_mul ?_ ?_ <;> walk_at "bd") | (with_reducible refine bd_add ?_ ?_ <;> walk_at "bd") | (with_reducible refine bd_sub ?_ ?_ <;> walk_at "bd") | (with_reducible refine bd_neg ?_ <;> walk_at "bd"))
local macro_rules | `(tactic| walk_at "s") => `(tactic| with_reducible first
  | refine v_then ?_ | refine v_set ?_ | (apply v_var; · with_unfolding_all exact rfl) | refine v_bin ?_ | refine v_c ?_ | refine v_g0 ?_ | refine v_add ?_ | refine v_cons ?_ | refine v_nil ?_ | refine v_call ?_ | refine v_dB ?_ | refine v_next ?_ | refine v_ret ?_
  | refine v_ite ?_ | refine v_tst ?_ | refine v_kT ?_ | refine v_eqi ?_ | refine v_nei ?_ | refine v_eqr ?_ | refine v_ner ?_ | refine v_eqr0 ?_ | refine v_ner0 ?_ | refine v_eql ?_ | refine v_nel ?_ | refine v_eql0 ?_ | refine v_nel0 ?_ | refine v_isN ?_ | refine v_notN ?_
  | (apply v_bor; · with_unfolding_all exact rfl) | (apply v_own; · with_unfolding_all exact rfl) | refine v_tup ?_ | refine v_lst ?_ | (refine v_sz ?_ ?_; (· with_unfolding_all exact Nat.le_of_ble_eq_true rfl)) | (refine v_gIIz ?_ ?_; (· first | decide | omega))
  | refine v_lentz ?_ | refine v_lenlz ?_ | refine v_lent ?_ | refine v_lenl ?_ | refine v_I1 ?_ | refine v_I2 ?_ | refine v_int ?_ | refine v_seqlz ?_ | refine v_seqtz ?_ | refine v_sl ?_ | refine v_kSll ?_ | refine v_kSlt ?_ | refine v_ono ?_ | refine v_oso ?_ | refine v_kOS ?_
  | refine v_val ?_ | refine v_kVb ?_ | refine v_kVi ?_ | refine v_kVt ?_ | refine v_kVl ?_ | refine v_and ?_ | refine v_or ?_ | refine v_not ?_ | refine v_yes ?_ | refine v_if' ?_ | refine v_isi ?_ | refine v_kIii ?_ | refine v_kIib ?_ | refine v_kItt ?_
  | refine v_andV ?_ | refine v_orV ?_ | refine v_notV ?_ | refine v_kNV ?_ | refine v_neg ?_ | refine v_kNeg ?_ | refine v_seq ?_ | refine v_kSeql ?_ | refine v_kSeqt ?_ | refine v_rng1 ?_ | refine v_rng2 ?_ | refine v_enum ?_ | refine v_revr ?_ | refine v_rev ?_
  | (refine v_kR1 ?_ ?_ ?_; (· with_unfolding_all decide +kernel); (· with_unfolding_all decide +kernel))
  | (refine v_kR2 ?_ ?_ ?_ ?_ ?_; (· with_unfolding_all decide +kernel); (· with_unfolding_all decide +kernel); (· with_unfolding_all decide +kernel); (· with_unfolding_all decide +kernel))
  | refine v_gn ?_ | refine v_gt2 ?_ | refine v_gt3 ?_ | refine v_lc ?_ | refine v_for ?_ | refine v_setO ?_ | refine v_drop ?_ | (apply v_app; · with_unfolding_all exact rfl) | (apply v_setI; · with_unfolding_all exact rfl) | (apply v_rel; · with_unfolding_all exact rfl) | refine v_raise ?_ | refine v_par ?_ | refine v_kP ?_ | refine v_asg ?_
  | (apply v_aug; · with_unfolding_all exact rfl) | refine v_ifT ?_ | refine v_ifF ?_ | (refine v_pow ?_ ?_ ?_ ?_; (· with_unfolding_all decide +kernel); (· with_unfolding_all decide +kernel); (· with_unfolding_all decide +kernel)) | refine v_call0 ?_ | (apply v_lenr; · assumption) | (apply v_seqr; · assumption) | (apply v_kSeqr; · assumption) | (apply v_kSlr; · assumption)
  | refine v_ix0 ?_ | refine v_ix1 ?_ | refine v_ix2 ?_ | refine v_zip ?_ | refine v_kZl ?_ | refine v_kZt ?_ | (apply v_augI; · with_unfolding_all exact rfl) | refine v_try ?_ | refine v_isE ?_ | (refine v_kIE ?_ ?_; (· with_unfolding_all exact rfl)) | refine v_isB ?_ | refine v_notB ?_ | refine v_all ?_ | refine v_par3 ?_ | refine v_ifnT ?_ | refine v_ifnF ?_ | refine v_eqs ?_ | refine v_nes ?_ | refine v_rvs ?_ | refine v_kRvl ?_ | refine v_kRvt ?_
  | (refine v_mulb (a := ?a) (b := ?b) ?ha ?hb ?l ?h; (case ha => assumption); (case hb => assumption); (case l => omega)) | (refine v_fdivb (b := ?b) ?h0 ?hb ?l ?h; (case h0 => assumption); (case hb => assumption); (case l => omega)))
local macro_rules | `(tactic| walk_at "o") => `(tactic| first | walk_at "s" | with_reducible first
  | refine v_chn ?_ | refine v_signs ?_ | refine v_kSg ?_ | refine v_inS ?_ | refine v_ninS ?_ | (refine v_inQ2 ?_ ?_ ?_ ?_; (· first | assumption | (with_unfolding_all decide +kernel)); (· with_unfolding_all decide +kernel); (· with_unfolding_all decide +kernel)) | (refine v_inQ3 ?_ ?_ ?_ ?_ ?_; (· first | assumption | (with_unfolding_all decide +kernel)); (· with_unfolding_all decide +kernel); (· with_unfolding_all decide +kernel); (· with_unfolding_all decide +kernel)) | (refine v_inQ4 ?_ ?_ ?_ ?_ ?_ ?_; (· first | assumption | (with_unfolding_all decide +kernel)); (· with_unfolding_all decide +kernel); (· with_unfolding_all decide +kernel); (· with_unfolding_all decide +kernel); (· with_unfolding_all decide +kernel))
  | refine v_inF ?_ | refine v_getF ?_ | refine v_kGF ?_ | (refine v_gGetF ?_ ?_; (· with_unfolding_all exact rfl)) | refine v_slS ?_ | (refine v_kSS ?_ ?_; (· first | assumption | omega)) | refine v_intUi ?_ | (refine v_lens ?_ ?_; (· first | assumption | omega)) | refine v_dH ?_ | refine v_hInt ?_ | refine v_hNeg ?_ | refine v_fset ?_
  | (apply v_hVar; (· with_unfolding_all exact rfl); (· rfl)))
def thR (w : Nat) (f : Ser Rat) : Ser Rat := ⟨fun k => ((k + w : Nat) : Rat) * f.co k⟩
theorem thR_tl (w : Nat) (f : Ser Rat) : (thR w f).tl = thR (w + 1) f.tl := Ser.ext fun k => by
  show ((k + 1 + w : Nat) : Rat) * f.co (k + 1) = ((k + (w + 1) : Nat) : Rat) * f.co (k + 1)
  rw [show k + 1 + w = k + (w + 1) by omega]
theorem ncast (a b : Nat) : ((a + b : Nat) : Rat) = (a : Rat) + b := by
  have e : ∀ n : Nat, (n : Rat) = ((n : Int) : Rat) := fun n => rfl
  rw [e, e, e, Int.natCast_add, Rat.intCast_add]
theorem thR_mulc : ∀ (k a b : Nat) (f g : Ser Rat), ((k + (a + b) : Nat) : Rat) * Ser.mulc k f g = Ser.mulc k (thR a f) g + Ser.mulc k f (thR b g)
  | 0, a, b, f, g => by
    show ((0 + (a + b) : Nat) : Rat) * (f.co 0 * g.co 0) = ((0 + a : Nat) : Rat) * f.co 0 * g.co 0 + f.co 0 * (((0 + b : Nat) : Rat) * g.co 0)
    rw [Nat.zero_add, Nat.zero_add, Nat.zero_add, ncast]; grind
  | k + 1, a, b, f, g => by
    show ((k + 1 + (a + b) : Nat) : Rat) * (f.co 0 * g.co (k + 1) + Ser.mulc k f.tl g) = (((0 + a : Nat) : Rat) * f.co 0 * g.co (k + 1) + Ser.mulc k (thR a f).tl g) + (f.co 0 * (((k + 1 + b : Nat) : Rat) * g.co (k + 1)) + Ser.mulc k f.tl (thR b g))
    have h := thR_mulc k (a + 1) b f.tl g
    rw [thR_tl]
    rw [show k + (a + 1 + b) = k + 1 + (a + b) by omega] at h
    have e1 : ((k + 1 + (a + b) : Nat) : Rat) = ((0 + a : Nat) : Rat) + ((k + 1 + b : Nat) : Rat) := by rw [← ncast]; congr 1; omega
    rw [Rat.mul_add, h, e1]; grind
theorem thR_mul (f g : Ser Rat) : thR 0 (f * g) = thR 0 f * g + f * thR 0 g := Ser.ext fun k => by
  have h := thR_mulc k 0 0 f g
  rw [Ser.add_co, Ser.mul_co, Ser.mul_co, ← h]; rfl
def dR (f : Ser Rat) : Ser Rat := ⟨fun k => ((k + 1 : Nat) : Rat) * f.co (k + 1)⟩
theorem dR_x (f : Ser Rat) : xp 1 * dR f = thR 0 f := Ser.ext fun k => by
  rw [xp_mul_co]
  cases k with
  | zero => rw [if_neg (by omega)]; show (0 : Rat) = ((0 + 0 : Nat) : Rat) * f.co 0; rw [show ((0 + 0 : Nat) : Rat) = 0 from rfl]; grind
  | succ k => rw [if_pos (by omega)]; rfl
theorem x_cancelR {a b : Ser Rat} (h : xp 1 * a = xp 1 * b) : a = b := Ser.ext fun k => by
  have := congrArg (fun f => Ser.co f (k + 1)) h
  simp only [xp_mul_co] at this
  rw [if_pos (by omega), if_pos (by omega)] at this
  exact this
theorem dR_mul (f g : Ser Rat) : dR (f * g) = dR f * g + f * dR g := x_cancelR (by
  rw [dR_x, thR_mul, ← dR_x f, ← dR_x g]; grind)
theorem dR_C (κ : Rat) (f : Ser Rat) : dR (Ser.C κ * f) = Ser.C κ * dR f := Ser.ext fun k => by
  show ((k + 1 : Nat) : Rat) * (Ser.C κ * f).co (k + 1) = (Ser.C κ * dR f).co k
  rw [Ser.C_mul_co, Ser.C_mul_co]
  show _ = κ * (((k + 1 : Nat) : Rat) * f.co (k + 1))
  grind
theorem slope_q (row ys : List Int) (h : ser ys = ser (slope row)) : qs (ser ys) = dR (qs (ser row)) := Ser.ext fun k => by
  rw [h, qs_co, ser_co]
  show _ = ((k + 1 : Nat) : Rat) * (qs (ser row)).co (k + 1)
  rw [qs_co, ser_co]
  have e : (slope row).getD k 0 = ((k + 1 : Nat) : Int) * row.getD (k + 1) 0 := by
    by_cases l : k < row.length - 1
    · unfold slope
      rw [List.getD_eq_getElem?_getD, List.getElem?_map, List.getElem?_range l]
      show (1 + (k : Int)) * nth row (1 + k) = _
      rw [Int.add_comm 1 (k : Int)]
      rfl
    · rw [getD_far (by rw [slope_len]; omega), getD_far (by omega), Int.mul_zero]
  rw [e, Rat.intCast_mul]; rfl
theorem P.der {f : Ser Rat} {r s : List Int} {d : Int} {n a : Nat} (h : RR.P f r d) (hs : R (ser (slope r)) s) (pf : RR.PB n a r d) (hn : n ≤ 1000000) : RR.P (dR f) (lowR s d) (lowD s d) ∧ RR.PB n (20 + a) (lowR s d) (lowD s d) := by
  have d0 := h.pos
  have ln := pf.ln
  have eq : Ser.C (d : Rat) * dR f = qs (ser s) := by
    rw [slope_q r s hs.sr, ← h.eq, dR_C]
  have hP := low_P (by omega) hs.dn eq
  refine ⟨hP, hP.PB (xs := slope r) (e := d) (by omega) (by rw [eq, hs.sr]) (by rw [slope_len]; omega) (slope_bd pf.bd (by omega)) (bd_mono pf.dd (by omega))⟩
def b_law : DS (Option Nat) :=
    (dThen (dSet 1 (dCall s__law_begun [] (dCons (dBor 0) dNil)))
    (dThen (dFor (dRng1 (dCons (dBin gAdd (dC (.int 1)) (dB (gI2 imin) (dCons (dC (.int 15)) (dCons (dB gLen (dCons (dBor 0) dNil)) dNil)))) dNil)) (dgN 2)
      (dThen (dPar 3 4 (dCons (dCall s__law_drawn [] (dCons (dVar 1) (dCons (dC (.int 6)) dNil))) (dCons (dCall s__law_drawn [] (dCons (dVar 1) (dCons (dC (.int 4)) dNil))) dNil)))
    (dThen (dIte (dNot (dVal (dCall s__law_values_right [] (dCons (dVar 3) (dCons (dVar 4) (dCons (dCall s__law_fraction [] (dCons (dVar 1) dNil)) (dCons (dCall s__law_draw [] (dCons (dVar 1) (dCons (dC (.int 4)) dNil))) dNil)))))))
      (dRet (dC (.bl false)))
      dNext)
    (dThen (dIte (dTst (dBin gNe (dB gReprB (dCons (dCall s_polys_composed [] (dCons (dVar 3) (dCons (dVar 4) dNil))) dNil)) (dB gReprB (dCons (dCall s__law_put_in [] (dCons (dVar 3) (dCons (dVar 4) dNil))) dNil))))
      (dRet (dC (.bl false)))
      dNext)
    (dThen (dSet 5 (dCall s_polys_plus_l [] (dCons (dCall s_polys_times [] (dCons (dCall s_polys_derived [] (dCons (dVar 3) dNil)) (dCons (dVar 4) dNil))) (dCons (dCall s_polys_times [] (dCons (dVar 3) (dCons (dCall s_polys_derived [] (dCons (dVar 4) dNil)) dNil))) dNil))))
    (dThen (dIte (dTst (dBin gNe (dCall s_polys_derived [] (dCons (dCall s_polys_times [] (dCons (dVar 3) (dCons (dVar 4) dNil))) dNil)) (dVar 5)))
      (dRet (dC (.bl false)))
      dNext)
    (dThen (dSetO 6 (dLst dNil))
    (dThen (dFor (dRng1 (dCons (dCall s__law_draw [] (dCons (dVar 1) (dCons (dC (.int 8)) dNil))) dNil)) (dgN 7)
      (dThen (dSet 8 (dCall s__law_fraction [] (dCons (dVar 1) dNil)))
    (dIte (dTst (dBin gNin (dVar 8) (dLc (dSeq true (dOwn 6)) (dgN 10) dYes (dBin (gIx false) (dVar 10) (dC (.int 0))) [10])))
      (dApp 6 (dTup (dCons (dVar 8) (dCons (dCall s__law_fraction [] (dCons (dVar 1) dNil)) dNil))))
      dNext)))
    (dIte (dNot (dVal (dCall s__law_through_right [] (dCons (dOwn 6) dNil))))
      (dRet (dC (.bl false)))
      dNext)))))))))
    (dThen (dSet 9 (dLc (dRng1 (dCons (dC (.int 65)) dNil)) (dgN 2) dYes (dTup (dCons (dTup (dCons (dVar 2) (dCons (dC (.int 1)) dNil))) (dCons (dTup (dCons (dBin gMul (dVar 2) (dVar 2)) (dCons (dC (.int 1)) dNil))) dNil))) [2]))
    (dRet (dAndV (dBin gEq (dCall s_polys_through [] (dCons (dLst dNil) dNil)) (dTup (dCons (dTup dNil) (dCons (dC (.int 1)) dNil)))) (dAndV (dBin gEq (dCall s_polys_through [] (dCons (dVar 9) dNil)) (dTup (dCons (dTup (dCons (dC (.int 0)) (dCons (dC (.int 0)) (dCons (dC (.int 1)) dNil)))) (dCons (dC (.int 1)) dNil)))) (dBin gEq (dCall s_polys_through [] (dCons (dRvs (dVar 9)) dNil)) (dTup (dCons (dTup (dCons (dC (.int 0)) (dCons (dC (.int 0)) (dCons (dC (.int 1)) dNil)))) (dCons (dC (.int 1)) dNil))))))))))
theorem pd_shB {n : Nat} {r : List Int} {d : Int} (h : PB n 12000 r d) : ShB 2 (2 * (n * 12003 + 12005) + 2) (pd r d) :=
  shB_tup (n := 2) (ds := [.tup (zz r), .int d]) (fun x hx => by
    rcases List.mem_cons.mp hx with rfl | hx
    · exact (shB_row h.bd h.ln).le (Nat.le_refl _) (by omega)
    · rw [List.mem_singleton.mp hx]; exact (shB_int h.dd).le (by decide) (by omega)) (by simp)
theorem pq_eqv (u v : Rat) : (pq u).eqv (pq v) = decide (u = v) := by
  show (decide (u.num = v.num) && (decide ((u.den : Int) = v.den) && true)) = _
  by_cases e : u = v
  · subst e; simp
  · rw [decide_eq_false e]
    by_cases a : u.num = v.num
    · have : ¬ (u.den : Int) = v.den := fun z => e (Rat.ext a (by omega))
      rw [decide_eq_false this]; simp
    · rw [decide_eq_false a]; rfl
theorem nls_pt : ∀ S : List (Rat × Rat), D.nls (S.map pt) = true
  | [] => rfl
  | p :: S => nls_pt S
theorem any_pq (x : Rat) (S : List (Rat × Rat)) : ((S.map fun p : Rat × Rat => pq p.1).any fun z => z.eqv (pq x)) = decide (x ∈ S.map Prod.fst) := by
  induction S with
  | nil => rfl
  | cons p S ih =>
    rw [List.map_cons, List.any_cons, ih, pq_eqv, List.map_cons]
    by_cases h : p.1 = x
    · rw [decide_eq_true h, Bool.true_or, decide_eq_true (List.mem_cons.mpr (.inl h.symm))]
    · rw [decide_eq_false h, Bool.false_or]
      exact decide_eq_decide.mpr ⟨fun m => List.mem_cons_of_mem _ m, fun m => (List.mem_cons.mp m).resolve_left fun e => h e.symm⟩
theorem vc_law : ∀ ds (m : Option Nat) Q Z, s_law ds m Q Z → okK [true] ds ∧ b_law { nx := fun _ m' => Q .non m', rt := Q, ex := Z } (st0 [true] ds 11) m := by
  rintro ds m Q Z ⟨ns, rfl, hl, rfl, q⟩
  refine ⟨⟨fun h => (nomatch h), trivial⟩, ?_⟩
  unfold b_law
  repeat walk_at "o"
  refine ⟨ns, rfl, hl, rfl, ?_⟩
  repeat walk_at "o"
  rw [imin_eq]
  refine v_kR1 (by omega) (by omega) ?_
  obtain ⟨n, hn⟩ : ∃ n, n = (1 + min (15 : Int) ns.length).toNat := ⟨_, rfl⟩
  have n16 : n ≤ 16 := by omega
  rw [← hn]
  refine v_kforR n (fun k ρ m => ∃ a2 a3 a4 a5 a6 a7 a8, ∃ N : Nat, ρ = [.bor (.lst (zz ns)), .val (.hnd hdl), a2, a3, a4, a5, a6, a7, a8, .un, .un] ∧ m = some N ∧ 2 ^ 50 ≤ N + 400 * k) ⟨_, _, _, _, _, _, _, 2 ^ 50, rfl, rfl, by decide⟩ (fun ρ m h => ?_) fun k ρ m hk h => ?_
  · obtain ⟨a2, a3, a4, a5, a6, a7, a8, N, rfl, rfl, hN⟩ := h
    repeat walk_at "o"
    rw [show Int.toNat 65 = 65 from rfl]
    unfold iota
    refine lcGo_map (h := fun a : Nat => pt (((a : Int) : Rat), (((a : Int) * (a : Int) : Int) : Rat))) (List.range 65) (fun a ha m1 K l hK => ?_) (small_line (by simp)) ?_
    · have := List.mem_range.mp ha
      have ba : bd 7 (a : Int) := by
        unfold bd
        have : (2 : Nat) ^ 7 = 128 := by decide
        omega
      rw [Int.zero_add]
      repeat walk_at "o"
      exact hK
    obtain ⟨ks, hk⟩ : ∃ ks : List Int, ks = (List.range 65).map fun a : Nat => (a : Int) := ⟨_, rfl⟩
    have e : (List.range 65).map (fun a : Nat => pt (((a : Int) : Rat), (((a : Int) * (a : Int) : Int) : Rat))) = ks.map fun k : Int => pt ((k : Rat), ((k * k : Int) : Rat)) := by rw [hk, List.map_map]; rfl
    rw [e]
    have kl : ks.length = 65 := by rw [hk]; rfl
    have kn : ks.Nodup := by rw [hk]; decide +kernel
    have kb : ∀ k ∈ ks, bd 7 k := by rw [hk]; unfold bd; decide +kernel
    repeat walk_at "o"
    refine .inl ⟨[], rfl, by simp, List.nodup_nil, fun p hp => absurd hp List.not_mem_nil, fun f r d hf _ pl => ?_⟩
    obtain rfl : r = [] := List.length_eq_zero_iff.mp (Nat.le_zero.mp pl.ln)
    obtain rfl := hf.nil_iff.mpr rfl
    obtain ⟨_, rfl⟩ := hf.uniq P.nil
    repeat walk_at "o"
    refine v_eqpd (r' := []) ?_
    rw [decide_eq_true ⟨rfl, rfl⟩]
    refine v_kAV (fun _ => ?_) fun h => (nomatch h)
    repeat walk_at "o"
    refine .inr ⟨ks, rfl, by omega, by omega, kn, kb, ?_⟩
    repeat walk_at "o"
    refine v_eqpd (r' := [0, 0, 1]) ?_
    rw [decide_eq_true ⟨rfl, rfl⟩]
    refine v_kAV (fun _ => ?_) fun h => (nomatch h)
    repeat walk_at "o"
    have nk : D.nls (ks.map fun k : Int => pt ((k : Rat), ((k * k : Int) : Rat))) = true := by
      have := nls_pt (ks.map fun k : Int => ((k : Rat), ((k * k : Int) : Rat)))
      rw [List.map_map] at this
      exact this
    refine v_kRvL nk ?_
    repeat walk_at "o"
    refine .inr ⟨ks.reverse, by rw [List.map_reverse], by rw [List.length_reverse]; omega, by rw [List.length_reverse]; omega, by rw [hk]; decide +kernel, fun k hk => kb k (List.mem_reverse.mp hk), ?_⟩
    repeat walk_at "o"
    refine v_eqpd (r' := [0, 0, 1]) ?_
    rw [decide_eq_true ⟨rfl, rfl⟩]
    exact q _
  obtain ⟨a2, a3, a4, a5, a6, a7, a8, N, rfl, rfl, hN⟩ := h
  repeat walk_at "o"
  refine ⟨N, 6, rfl, rfl, by omega, by omega, by omega, fun f r d N1 hf pf hN1 => ?_⟩
  have pf : PB 6 201 r d := pf
  repeat walk_at "o"
  refine ⟨N1, 4, rfl, rfl, by omega, by omega, by omega, fun g r' d' N2 hg pg hN2 => ?_⟩
  have pg : PB 4 201 r' d' := pg
  repeat walk_at "o"
  refine ⟨N2, rfl, rfl, by omega, fun v N3 v1 v2 hN3 => ?_⟩
  repeat walk_at "o"
  refine v_drawN (by omega) (by decide) (by decide) fun k4 k40 k41 => ?_
  repeat walk_at "o"
  refine ⟨f, g, r, d, r', d', v, k4, rfl, hf, hg, pf, pg, v1, v2, k40, by omega, ?_⟩
  repeat walk_at "o"
  refine ⟨g, r, d, r', d', 6, 201, 4, 201, rfl, hf.pos, hg, pf, pg, by decide, by decide, fun r1 d1 h1 p1 => ?_⟩
  have sh : (pd r1 d1).shoB := (pd_shB (n := 25) (p1.mono (by decide) (by decide))).sho
  repeat walk_at "o"
  refine v_reprB sh ?_
  repeat walk_at "o"
  refine ⟨g, r, d, r', d', 6, 201, 4, 201, rfl, hf.pos, hg, pf, pg, by decide, by decide, fun r2 d2 h2 p2 => ?_⟩
  obtain ⟨rfl, rfl⟩ := h1.uniq h2
  repeat walk_at "o"
  refine v_reprB sh ?_
  repeat walk_at "o"
  rw [decide_eq_true rfl]
  repeat walk_at "o"
  have lr := pf.ln
  have lr' := pg.ln
  have d0 := hf.pos
  have d0' := hg.pos
  refine ⟨r, d, 201, rfl, by omega, pf.bd, by decide, by omega, bd_mono pf.dd (by decide), fun s hs => ?_⟩
  obtain ⟨hD, pD⟩ := hf.der hs pf (by decide)
  repeat walk_at "o"
  refine ⟨dR f, g, _, _, r', d', 6, 221, 4, 201, rfl, hD, hg, pD, pg, by decide, by decide, by decide, fun r3 d3 h3 p3 => ?_⟩
  repeat walk_at "o"
  refine ⟨r', d', 201, rfl, by omega, pg.bd, by decide, by omega, bd_mono pg.dd (by decide), fun s' hs' => ?_⟩
  obtain ⟨hE, pE⟩ := hg.der hs' pg (by decide)
  repeat walk_at "o"
  refine ⟨f, dR g, r, d, _, _, 6, 201, 4, 221, rfl, hf, hE, pf, pE, by decide, by decide, by decide, fun r4 d4 h4 p4 => ?_⟩
  repeat walk_at "o"
  refine .inl ⟨_, _, r3, d3, r4, d4, _, _, _, _, rfl, h3, h4, p3, p4, by decide, by decide, by decide, fun r5 d5 h5 _ => ?_⟩
  repeat walk_at "o"
  refine ⟨f, g, r, d, r', d', 6, 201, 4, 201, rfl, hf, hg, pf, pg, by decide, by decide, by decide, fun r6 d6 h6 p6 => ?_⟩
  have lr6 := p6.ln
  have d06 := h6.pos
  repeat walk_at "o"
  refine ⟨r6, d6, _, rfl, by omega, p6.bd, by decide, by omega, bd_mono p6.dd (by decide), fun s6 hs6 => ?_⟩
  obtain ⟨hG, _⟩ := h6.der hs6 p6 (by decide)
  rw [dR_mul] at hG
  obtain ⟨e1, e2⟩ := hG.uniq h5
  repeat walk_at "o"
  refine v_nepd ?_
  rw [decide_eq_true ⟨e1, e2⟩]
  repeat walk_at "o"
  refine v_kO (by rfl) ?_
  repeat walk_at "o"
  refine v_drawN (by omega) (by decide) (by decide) fun t t0 t1 => ?_
  repeat walk_at "o"
  refine v_kR1 (by omega) (by omega) ?_
  obtain ⟨c, hc⟩ : ∃ c, c = t.toNat := ⟨_, rfl⟩
  have c7 : c ≤ 7 := by omega
  rw [← hc]
  refine v_kforR c (fun j ρ m => ∃ (S : List (Rat × Rat)) (a7 a8 : Sl) (N5 : Nat), ρ = [.bor (.lst (zz ns)), .val (.hnd hdl), .val (.int (0 + k)), .val (pd r d), .val (pd r' d'), .val (pd r5 d5), .own (S.map pt), a7, a8, .un, .un] ∧ m = some N5 ∧ N3 ≤ N5 + 12 * j + 2 ∧ S.length ≤ j ∧ (S.map Prod.fst).Nodup ∧ (∀ p ∈ S, bd 201 p.1.num ∧ bd 20 (p.1.den : Int) ∧ bd 201 p.2.num ∧ bd 20 (p.2.den : Int)))
    ⟨[], _, _, _, rfl, rfl, by omega, Nat.le_refl _, List.nodup_nil, fun p hp => absurd hp List.not_mem_nil⟩ (fun ρ m h => ?_) fun j ρ m hj h => ?_
  · obtain ⟨S, _, _, N5, rfl, rfl, hN5, lS, nd, hS⟩ := h
    repeat walk_at "o"
    refine ⟨S, rfl, by omega, nd, hS, ?_⟩
    repeat walk_at "o"
    exact ⟨_, _, _, _, _, _, _, N5, rfl, rfl, by omega⟩
  · obtain ⟨S, _, _, N5, rfl, rfl, hN5, lS, nd, hS⟩ := h
    repeat walk_at "o"
    refine ⟨N5, rfl, rfl, by omega, fun x N6 x1 x2 hN6 => ?_⟩
    repeat walk_at "o"
    refine v_kSeqLn (nls_pt S) ?_
    refine lcGo_map (h := fun p : Rat × Rat => pq p.1) S (fun p hp m1 K l hK => ?_) (small_line (by omega)) ?_
    · obtain ⟨a, b⟩ := p
      rw [show pt (a, b) = .tup [pq a, pq b] from rfl]
      repeat walk_at "o"
      exact hK
    have q2 : (D.lst (S.map fun p : Rat × Rat => pq p.1)).q 8 = true := q_lstD fun d hd => by
      obtain ⟨p, _, rfl⟩ := List.mem_map.mp hd
      rfl
    refine ⟨rfl, q2, ?_⟩
    rw [any_pq]
    by_cases hx : x ∈ S.map Prod.fst
    · rw [decide_eq_true hx]
      repeat walk_at "o"
      exact ⟨S, _, _, N6, rfl, rfl, by omega, by omega, nd, hS⟩
    · rw [decide_eq_false hx]
      repeat walk_at "o"
      refine ⟨N6, rfl, rfl, by omega, fun y N7 y1 y2 hN7 => ?_⟩
      repeat walk_at "o"
      refine ⟨rfl, small_line (by rw [List.length_map]; omega), S ++ [(x, y)], _, _, N7, by rw [List.map_append]; rfl, rfl, by omega, by rw [List.length_append]; exact Nat.succ_le_succ lS, ?_, ?_⟩
      · rw [List.map_append, List.nodup_append]
        exact ⟨nd, List.nodup_cons.mpr ⟨List.not_mem_nil, List.nodup_nil⟩, fun a ha b hb e => by
          rw [List.mem_singleton.mp hb] at e
          exact hx (by rw [show x = a from e.symm]; exact ha)⟩
      · intro p hp
        rcases List.mem_append.mp hp with hp | hp
        · exact hS p hp
        · rw [List.mem_singleton.mp hp]; exact ⟨x1, x2, y1, y2⟩
end RR

namespace RR
open PySem PySem.Spec PyProof.Rows L2
section
variable {P : Program} {w : World} {K : PySem.W.Frag} {mg : Str → Option Value} {base : Heap} {W : Wd}
abbrev st__law_folded : Stmt := topS 48
def N__law_folded : List Str := ["_law_script", "_law_found", "_law_k", "_law_cell"]
theorem sc__law_folded : FnScope N__law_folded ["_law_script"] (defScope st__law_folded) := ⟨rfl, rfl, rfl, by decide +kernel, rfl, by decide +kernel, by decide +kernel⟩
theorem w__law_folded (m_enumerate : mg "enumerate" = none) (m_range : mg "range" = none) : BodyJ P w K mg base W 0 N__law_folded "_law_folded" st__law_folded b__law_folded := by
  intro f cdv A outer s H E F0 hr
  have nd : N__law_folded.Nodup := by decide +kernel
  have tk := takes_of (X := XOf P w K mg base N__law_folded "_law_folded" (defScope st__law_folded) f cdv A outer s H E) rfl rfl rfl rfl
  have hp := passes_of (X := XOf P w K mg base N__law_folded "_law_folded" (defScope st__law_folded) f cdv A outer s H E) rfl
  exact (jls_of (jss_cons (js_setLcO 1 rfl nd (own := [("_law_k", 2)]) (ws := [2]) (ji_range1 (st := false) m_range (ja_cons ncl_w (j_int).fw ja_nil)) (blkOk_by (N := N__law_folded) (sc := defScope st__law_folded) (by decide +kernel)) (fun _ _ _ _ _ => (jg_name 2 nd)) (fun _ _ _ _ _ => jts_nil) (fun _ _ _ _ _ => ((j_bind okd_add (j_int).fd ((j_var 2)).sd)).sf) (by decide))
    (jss_cons (js_for hp rfl (ji_enumb 0 m_enumerate) (jg_tup rfl (jgs_cons (jg_name 2 nd) (jgs_cons (jg_name 3 nd) jgs_nil)))
      (jss_one (js_seti 1 ((j_bin ok_mod ((j_bind okd_add ((j_bind okd_mul ((j_ixw (j_own 1) ((j_bin ok_mod ((j_var 2)).sw (j_int).fw)).fw)).sd (j_int).fd)).fd ((j_var 3)).sd)).fw (j_int).fw)).sf ((j_bin ok_mod ((j_var 2)).sw (j_int).fw)).fw)))
    (jss_cons (js_for hp rfl (ji_range2 (st := true) m_range (ja_cons ncl_w (j_int).fw (ja_cons ncl_w (j_int).fw ja_nil))) (jg_name 2 nd)
      (jss_one (js_seti 1 ((j_bin ok_mod ((j_bind okd_add ((j_ixw (j_own 1) ((j_var 2)).sw)).sd ((j_bind okd_mul ((j_ixw (j_own 1) ((j_bin ok_sub ((j_var 2)).sw (j_int).fw)).fw)).sd (j_int).fd)).fd)).fw (j_int).fw)).sf ((j_var 2)).sw)))
    (jss_one (js_ret (j_ownr 1)))))))

abbrev st_common : Stmt := topS 5
def N_common : List Str := ["one", "other"]
theorem sc_common : FnScope N_common ["one", "other"] (defScope st_common) := ⟨rfl, rfl, rfl, by decide +kernel, rfl, by decide +kernel, by decide +kernel⟩
theorem w_common (m_abs : mg "abs" = none) : BodyJ P w K mg base W 0 N_common "common" st_common b_numbers_common := by
  intro f cdv A outer s H E F0 hr
  have nd : N_common.Nodup := by decide +kernel
  have tk := takes_of (X := XOf P w K mg base N_common "common" (defScope st_common) f cdv A outer s H E) rfl rfl rfl rfl
  have hp := passes_of (X := XOf P w K mg base N_common "common" (defScope st_common) f cdv A outer s H E) rfl
  exact (jls_of (jss_cons (js_par 0 1 rfl nd (ja_cons ncl_s ((j_callB ca_abs m_abs (by decide +kernel) (ja_cons ncl_w ((j_var 0)).sw ja_nil))).sf (ja_cons ncl_s ((j_callB ca_abs m_abs (by decide +kernel) (ja_cons ncl_w ((j_var 1)).sw ja_nil))).sf ja_nil)))
    (jss_cons (js_while hp (jt_cmp ok_gt ((j_var 1)).sw (j_int).fw)
      (jss_one (js_par 0 1 rfl nd (ja_cons ncl_s (j_var 1) (ja_cons ncl_s ((j_bin ok_mod ((j_var 0)).sw ((j_var 1)).sw)).sf ja_nil)))))
    (jss_one (js_ret ((j_var 0)).sr)))))

abbrev st_content : Stmt := topS 25
def N_content : List Str := ["row", "found", "number"]
theorem sc_content : FnScope N_content ["row"] (defScope st_content) := ⟨rfl, rfl, rfl, by decide +kernel, rfl, by decide +kernel, by decide +kernel⟩
theorem w_content (h_common : FD P w K mg base W 1 "common" [] s_numbers_common) : BodyJ P w K mg base W 1 N_content "content" st_content b_rows_content := by
  intro f cdv A outer s H E F0 hr
  have nd : N_content.Nodup := by decide +kernel
  have tk := takes_of (X := XOf P w K mg base N_content "content" (defScope st_content) f cdv A outer s H E) rfl rfl rfl rfl
  have hp := passes_of (X := XOf P w K mg base N_content "content" (defScope st_content) f cdv A outer s H E) rfl
  exact (jls_of (jss_cons (js_set 1 nd (j_int).sf)
    (jss_cons (js_for hp rfl (ji_seq (j_var 0)) (jg_name 2 nd)
      (jss_one (js_set 1 nd ((j_call h_common (hr.mono (by decide)) tk (by rfl) (ja_cons ncl_w ((j_var 1)).sw (ja_cons ncl_w ((j_var 2)).sw ja_nil)))).sf)))
    (jss_one (js_ret ((j_var 1)).sr)))))

abbrev st_poly : Stmt := topS 30
def N_poly : List Str := ["row", "d", "part", "number"]
theorem sc_poly : FnScope N_poly ["row", "d"] (defScope st_poly) := ⟨rfl, rfl, rfl, by decide +kernel, rfl, by decide +kernel, by decide +kernel⟩
theorem w_poly (m_tuple : mg "tuple" = none) (x_ByNought : ExcF K mg "ByNought") (h_common : FD P w K mg base W 1 "common" [] s_numbers_common) (h_content : FD P w K mg base W 2 "content" [] s_rows_content) : BodyJ P w K mg base W 2 N_poly "poly" st_poly b_polys_poly := by
  intro f cdv A outer s H E F0 hr
  have nd : N_poly.Nodup := by decide +kernel
  have tk := takes_of (X := XOf P w K mg base N_poly "poly" (defScope st_poly) f cdv A outer s H E) rfl rfl rfl rfl
  have hp := passes_of (X := XOf P w K mg base N_poly "poly" (defScope st_poly) f cdv A outer s H E) rfl
  exact (jls_of (jss_cons (js_if (jt_cmp (ok_eq hr.units) ((j_var 1)).sw (j_int).fw)
      (jss_one (js_raise rfl tk x_ByNought))
      jss_nil)
    (jss_cons (js_set 2 nd ((j_call h_common (hr.mono (by decide)) tk (by rfl) (ja_cons ncl_w ((j_call h_content (hr.mono (by decide)) tk (by rfl) (ja_cons ncl_w ((j_var 0)).sw ja_nil))).fw (ja_cons ncl_w ((j_var 1)).sw ja_nil)))).sf)
    (jss_cons (js_set 2 nd (j_if (jt_cmp ok_gt ((j_var 1)).sw (j_int).fw) (j_var 2) ((j_bin ok_sub (j_int).fw ((j_var 2)).sw)).sf))
    (jss_one (js_ret ((j_tup (ja_cons ncl_s ((j_callTy ca_tuple m_tuple (by decide +kernel) (ja_cons ncl_w ((j_lc rfl nd (own := [("number", 3)]) (ws := [3]) (JI.weak (ji_seq (j_var 0))) (blkOk_by (N := N_poly) (sc := defScope st_poly) (by decide +kernel)) (fun _ _ _ _ _ => (jg_name 3 nd)) (fun _ _ _ _ _ => jts_nil) (fun _ _ _ _ _ => ((j_bin ok_fdiv ((j_var 3)).sw ((j_var 2)).sw)).sf) (by decide))).fw ja_nil))).sf (ja_cons ncl_s ((j_bin ok_fdiv ((j_var 1)).sw ((j_var 2)).sw)).sf ja_nil)))).fr))))))

abbrev st_row_of : Stmt := topS 13
def N_row_of : List Str := ["numbers", "size"]
theorem sc_row_of : FnScope N_row_of ["numbers"] (defScope st_row_of) := ⟨rfl, rfl, rfl, by decide +kernel, rfl, by decide +kernel, by decide +kernel⟩
theorem w_row_of (m_len : mg "len" = none) (m_tuple : mg "tuple" = none) : BodyJ P w K mg base W 0 N_row_of "row_of" st_row_of b_rows_row_of := by
  intro f cdv A outer s H E F0 hr
  have nd : N_row_of.Nodup := by decide +kernel
  have tk := takes_of (X := XOf P w K mg base N_row_of "row_of" (defScope st_row_of) f cdv A outer s H E) rfl rfl rfl rfl
  have hp := passes_of (X := XOf P w K mg base N_row_of "row_of" (defScope st_row_of) f cdv A outer s H E) rfl
  exact (jls_of (jss_cons (js_set 1 nd ((j_callB ca_len m_len (by decide +kernel) (ja_cons ncl_w (j_bor 0) ja_nil))).sf)
    (jss_cons (js_while hp (JW.t (jw_and (jt_cmp ok_gt ((j_var 1)).sw (j_int).fw) (jw_and1 (jt_cmp (ok_eq hr.units) ((j_ixw (j_bor 0) ((j_bin ok_sub ((j_var 1)).sw (j_int).fw)).fw)).sw (j_int).fw))))
      (jss_one (js_aug 1 ip_sub nd (j_int).fw)))
    (jss_one (js_ret ((j_callTy ca_tuple m_tuple (by decide +kernel) (ja_cons ncl_w ((j_sl (j_bor 0) jo_none (jo_some ((j_var 1)).sw))).fw ja_nil))).fr)))))

abbrev st_at_size : Stmt := topS 14
def N_at_size : List Str := ["row", "size"]
theorem sc_at_size : FnScope N_at_size ["row", "size"] (defScope st_at_size) := ⟨rfl, rfl, rfl, by decide +kernel, rfl, by decide +kernel, by decide +kernel⟩
theorem w_at_size (m_len : mg "len" = none) (m_list : mg "list" = none) : BodyJ P w K mg base W 0 N_at_size "at_size" st_at_size b_rows_at_size := by
  intro f cdv A outer s H E F0 hr
  have nd : N_at_size.Nodup := by decide +kernel
  have tk := takes_of (X := XOf P w K mg base N_at_size "at_size" (defScope st_at_size) f cdv A outer s H E) rfl rfl rfl rfl
  have hp := passes_of (X := XOf P w K mg base N_at_size "at_size" (defScope st_at_size) f cdv A outer s H E) rfl
  exact (jls_of (jss_one (js_ret ((j_bind okd_add ((j_callTy ca_list m_list (by decide +kernel) (ja_cons ncl_w ((j_var 0)).sw ja_nil))).fd ((j_bind okd_mul ((j_lst (ja_cons ncl_s (j_int).sf ja_nil))).fd ((j_bin ok_sub ((j_var 1)).sw ((j_callB ca_len m_len (by decide +kernel) (ja_cons ncl_w ((j_var 0)).sw ja_nil))).fw)).fd)).fd)).fr)))

abbrev st_plus_rows : Stmt := topS 15
def N_plus_rows : List Str := ["one", "other", "size", "left", "right"]
theorem sc_plus_rows : FnScope N_plus_rows ["one", "other"] (defScope st_plus_rows) := ⟨rfl, rfl, rfl, by decide +kernel, rfl, by decide +kernel, by decide +kernel⟩
theorem w_plus_rows (m_len : mg "len" = none) (m_max : mg "max" = none) (m_zip : mg "zip" = none) (h_at_size : FD P w K mg base W 1 "at_size" [] s_rows_at_size) (h_row_of : FD P w K mg base W 1 "row_of" [] s_rows_row_of) : BodyJ P w K mg base W 1 N_plus_rows "plus" st_plus_rows b_rows_plus := by
  intro f cdv A outer s H E F0 hr
  have nd : N_plus_rows.Nodup := by decide +kernel
  have tk := takes_of (X := XOf P w K mg base N_plus_rows "plus" (defScope st_plus_rows) f cdv A outer s H E) rfl rfl rfl rfl
  have hp := passes_of (X := XOf P w K mg base N_plus_rows "plus" (defScope st_plus_rows) f cdv A outer s H E) rfl
  exact (jls_of (jss_cons (js_set 2 nd ((j_callB (ca_max rfl) m_max (by decide +kernel) (ja_cons ncl_w ((j_callB ca_len m_len (by decide +kernel) (ja_cons ncl_w ((j_var 0)).sw ja_nil))).fw (ja_cons ncl_w ((j_callB ca_len m_len (by decide +kernel) (ja_cons ncl_w ((j_var 1)).sw ja_nil))).fw ja_nil)))).sf)
    (jss_one (js_ret ((j_call h_row_of (hr.mono (by decide)) tk (by rfl) (ja_cons ncl_w ((j_lc rfl nd (own := [("left", 3), ("right", 4)]) (ws := [3, 4]) (JI.weak (ji_zip ((j_call h_at_size (hr.mono (by decide)) tk (by rfl) (ja_cons ncl_w ((j_var 0)).sw (ja_cons ncl_w ((j_var 2)).sw ja_nil)))).sf ((j_call h_at_size (hr.mono (by decide)) tk (by rfl) (ja_cons ncl_w ((j_var 1)).sw (ja_cons ncl_w ((j_var 2)).sw ja_nil)))).sf m_zip)) (blkOk_by (N := N_plus_rows) (sc := defScope st_plus_rows) (by decide +kernel)) (fun _ _ _ _ _ => (jg_tup rfl (jgs_cons (jg_name 3 nd) (jgs_cons (jg_name 4 nd) jgs_nil)))) (fun _ _ _ _ _ => jts_nil) (fun _ _ _ _ _ => ((j_bind okd_add ((j_var 3)).sd ((j_var 4)).sd)).sf) (by decide))).fw ja_nil))).fr))))

abbrev st_scaled_rows : Stmt := topS 19
def N_scaled_rows : List Str := ["row", "number", "one"]
theorem sc_scaled_rows : FnScope N_scaled_rows ["row", "number"] (defScope st_scaled_rows) := ⟨rfl, rfl, rfl, by decide +kernel, rfl, by decide +kernel, by decide +kernel⟩
theorem w_scaled_rows (h_row_of : FD P w K mg base W 1 "row_of" [] s_rows_row_of) : BodyJ P w K mg base W 1 N_scaled_rows "scaled" st_scaled_rows b_rows_scaled := by
  intro f cdv A outer s H E F0 hr
  have nd : N_scaled_rows.Nodup := by decide +kernel
  have tk := takes_of (X := XOf P w K mg base N_scaled_rows "scaled" (defScope st_scaled_rows) f cdv A outer s H E) rfl rfl rfl rfl
  have hp := passes_of (X := XOf P w K mg base N_scaled_rows "scaled" (defScope st_scaled_rows) f cdv A outer s H E) rfl
  exact (jls_of (jss_one (js_ret ((j_call h_row_of (hr.mono (by decide)) tk (by rfl) (ja_cons ncl_w ((j_lc rfl nd (own := [("one", 2)]) (ws := [2]) (JI.weak (ji_seq (j_var 0))) (blkOk_by (N := N_scaled_rows) (sc := defScope st_scaled_rows) (by decide +kernel)) (fun _ _ _ _ _ => (jg_name 2 nd)) (fun _ _ _ _ _ => jts_nil) (fun _ _ _ _ _ => ((j_bind okd_mul ((j_var 1)).sd ((j_var 2)).sd)).sf) (by decide))).fw ja_nil))).fr)))

abbrev st_plus_polys : Stmt := topS 31
def N_plus_polys : List Str := ["one", "other"]
theorem sc_plus_polys : FnScope N_plus_polys ["one", "other"] (defScope st_plus_polys) := ⟨rfl, rfl, rfl, by decide +kernel, rfl, by decide +kernel, by decide +kernel⟩
theorem w_plus_polys (h_plus_rows : FD P w K mg base W 2 "plus_rows" [] s_rows_plus) (h_poly : FD P w K mg base W 3 "poly" [] s_polys_poly) (h_scaled_rows : FD P w K mg base W 2 "scaled_rows" [] s_rows_scaled) : BodyJ P w K mg base W 3 N_plus_polys "plus" st_plus_polys b_polys_plus_l := by
  intro f cdv A outer s H E F0 hr
  have nd : N_plus_polys.Nodup := by decide +kernel
  have tk := takes_of (X := XOf P w K mg base N_plus_polys "plus" (defScope st_plus_polys) f cdv A outer s H E) rfl rfl rfl rfl
  have hp := passes_of (X := XOf P w K mg base N_plus_polys "plus" (defScope st_plus_polys) f cdv A outer s H E) rfl
  exact (jls_of (jss_one (js_ret ((j_call h_poly (hr.mono (by decide)) tk (by rfl) (ja_cons ncl_w ((j_call h_plus_rows (hr.mono (by decide)) tk (by rfl) (ja_cons ncl_w ((j_call h_scaled_rows (hr.mono (by decide)) tk (by rfl) (ja_cons ncl_w ((j_ix (j_var 0) (j_int).fw)).sw (ja_cons ncl_w ((j_ix (j_var 1) (j_int).fw)).sw ja_nil)))).fw (ja_cons ncl_w ((j_call h_scaled_rows (hr.mono (by decide)) tk (by rfl) (ja_cons ncl_w ((j_ix (j_var 1) (j_int).fw)).sw (ja_cons ncl_w ((j_ix (j_var 0) (j_int).fw)).sw ja_nil)))).fw ja_nil)))).fw (ja_cons ncl_w ((j_bind okd_mul ((j_ix (j_var 0) (j_int).fw)).sd ((j_ix (j_var 1) (j_int).fw)).sd)).fw ja_nil)))).fr)))

abbrev st__law_common : Stmt := topS 54
def N__law_common : List Str := ["_law_numbers", "_law_found", "_law_number", "_law_one", "_law_other"]
theorem sc__law_common : FnScope N__law_common ["_law_numbers"] (defScope st__law_common) := ⟨rfl, rfl, rfl, by decide +kernel, rfl, by decide +kernel, by decide +kernel⟩
theorem w__law_common (m_abs : mg "abs" = none) : BodyJ P w K mg base W 0 N__law_common "_law_common" st__law_common b__law_common := by
  intro f cdv A outer s H E F0 hr
  have nd : N__law_common.Nodup := by decide +kernel
  have tk := takes_of (X := XOf P w K mg base N__law_common "_law_common" (defScope st__law_common) f cdv A outer s H E) rfl rfl rfl rfl
  have hp := passes_of (X := XOf P w K mg base N__law_common "_law_common" (defScope st__law_common) f cdv A outer s H E) rfl
  exact (jls_of (jss_cons (js_set 1 nd (j_int).sf)
    (jss_cons (js_for hp rfl (ji_bor 0) (jg_name 2 nd)
      (jss_cons (js_par 3 4 rfl nd (ja_cons ncl_s (j_var 1) (ja_cons ncl_s ((j_callB ca_abs m_abs (by decide +kernel) (ja_cons ncl_w ((j_var 2)).sw ja_nil))).sf ja_nil)))
    (jss_cons (js_while hp (jt_cmp ok_gt ((j_var 4)).sw (j_int).fw)
      (jss_one (js_par 3 4 rfl nd (ja_cons ncl_s (j_var 4) (ja_cons ncl_s ((j_bin ok_mod ((j_var 3)).sw ((j_var 4)).sw)).sf ja_nil)))))
    (jss_one (js_set 1 nd (j_var 3))))))
    (jss_one (js_ret ((j_var 1)).sr)))))

abbrev st__law_poly : Stmt := topS 55
def N__law_poly : List Str := ["_law_row_here", "_law_below", "_law_part", "_law_number"]
theorem sc__law_poly : FnScope N__law_poly ["_law_row_here", "_law_below"] (defScope st__law_poly) := ⟨rfl, rfl, rfl, by decide +kernel, rfl, by decide +kernel, by decide +kernel⟩
theorem w__law_poly (m_abs : mg "abs" = none) (m_list : mg "list" = none) (m_tuple : mg "tuple" = none) (h__law_common : FD P w K mg base W 1 "_law_common" [] s__law_common) : BodyJ P w K mg base W 1 N__law_poly "_law_poly" st__law_poly b__law_poly := by
  intro f cdv A outer s H E F0 hr
  have nd : N__law_poly.Nodup := by decide +kernel
  have tk := takes_of (X := XOf P w K mg base N__law_poly "_law_poly" (defScope st__law_poly) f cdv A outer s H E) rfl rfl rfl rfl
  have hp := passes_of (X := XOf P w K mg base N__law_poly "_law_poly" (defScope st__law_poly) f cdv A outer s H E) rfl
  exact (jls_of (jss_cons (js_set 2 nd ((j_if (jt_cmp (ok_ne hr.units) ((j_var 0)).sw ((j_tup ja_nil)).fw) (j_call h__law_common (hr.mono (by decide)) tk (by rfl) (ja_cons ncl_w ((j_bind okd_add ((j_callTy ca_list m_list (by decide +kernel) (ja_cons ncl_w ((j_var 0)).sw ja_nil))).fd ((j_lst (ja_cons ncl_s (j_var 1) ja_nil))).fd)).fw ja_nil)) (j_callB ca_abs m_abs (by decide +kernel) (ja_cons ncl_w ((j_var 1)).sw ja_nil)))).sf)
    (jss_cons (js_set 2 nd (j_if (jt_cmp ok_gt ((j_var 1)).sw (j_int).fw) (j_var 2) ((j_bin ok_sub (j_int).fw ((j_var 2)).sw)).sf))
    (jss_one (js_ret ((j_tup (ja_cons ncl_s ((j_callTy ca_tuple m_tuple (by decide +kernel) (ja_cons ncl_w ((j_lc rfl nd (own := [("_law_number", 3)]) (ws := [3]) (JI.weak (ji_seq (j_var 0))) (blkOk_by (N := N__law_poly) (sc := defScope st__law_poly) (by decide +kernel)) (fun _ _ _ _ _ => (jg_name 3 nd)) (fun _ _ _ _ _ => jts_nil) (fun _ _ _ _ _ => ((j_bin ok_fdiv ((j_var 3)).sw ((j_var 2)).sw)).sf) (by decide))).fw ja_nil))).sf (ja_cons ncl_s ((j_bin ok_fdiv ((j_var 1)).sw ((j_var 2)).sw)).sf ja_nil)))).fr)))))

abbrev st__law_cut : Stmt := topS 52
def N__law_cut : List Str := ["_law_numbers", "_law_size"]
theorem sc__law_cut : FnScope N__law_cut ["_law_numbers"] (defScope st__law_cut) := ⟨rfl, rfl, rfl, by decide +kernel, rfl, by decide +kernel, by decide +kernel⟩
theorem w__law_cut (m_len : mg "len" = none) (m_tuple : mg "tuple" = none) : BodyJ P w K mg base W 0 N__law_cut "_law_cut" st__law_cut b__law_cut := by
  intro f cdv A outer s H E F0 hr
  have nd : N__law_cut.Nodup := by decide +kernel
  have tk := takes_of (X := XOf P w K mg base N__law_cut "_law_cut" (defScope st__law_cut) f cdv A outer s H E) rfl rfl rfl rfl
  have hp := passes_of (X := XOf P w K mg base N__law_cut "_law_cut" (defScope st__law_cut) f cdv A outer s H E) rfl
  exact (jls_of (jss_cons (js_set 1 nd ((j_callB ca_len m_len (by decide +kernel) (ja_cons ncl_w (j_bor 0) ja_nil))).sf)
    (jss_cons (js_while hp (JW.t (jw_and (jt_cmp ok_gt ((j_var 1)).sw (j_int).fw) (jw_and1 (jt_cmp (ok_eq hr.units) ((j_ixw (j_bor 0) ((j_bin ok_sub ((j_var 1)).sw (j_int).fw)).fw)).sw (j_int).fw))))
      (jss_one (js_set 1 nd ((j_bin ok_sub ((j_var 1)).sw (j_int).fw)).sf)))
    (jss_one (js_ret ((j_callTy ca_tuple m_tuple (by decide +kernel) (ja_cons ncl_w ((j_sl (j_bor 0) jo_none (jo_some ((j_var 1)).sw))).fw ja_nil))).fr)))))

abbrev st__law_mixed : Stmt := topS 47
def N__law_mixed : List Str := ["_law_cell", "_law_k", "_law_number"]
theorem sc__law_mixed : FnScope N__law_mixed ["_law_cell", "_law_k"] (defScope st__law_mixed) := ⟨rfl, rfl, rfl, by decide +kernel, rfl, by decide +kernel, by decide +kernel⟩
theorem w__law_mixed  : BodyJ P w K mg base W 0 N__law_mixed "_law_mixed" st__law_mixed b__law_mixed := by
  intro f cdv A outer s H E F0 hr
  have nd : N__law_mixed.Nodup := by decide +kernel
  have tk := takes_of (X := XOf P w K mg base N__law_mixed "_law_mixed" (defScope st__law_mixed) f cdv A outer s H E) rfl rfl rfl rfl
  have hp := passes_of (X := XOf P w K mg base N__law_mixed "_law_mixed" (defScope st__law_mixed) f cdv A outer s H E) rfl
  exact (jls_of (jss_cons (js_set 2 nd ((j_bind okd_add ((j_bind okd_add ((j_bin ok_mod ((j_bind okd_mul ((j_bind okd_mul ((j_var 0)).sd ((j_bind okd_add (j_int).fd ((j_bind okd_mul (j_int).fd ((j_var 1)).sd)).fd)).fd)).fd (j_int).fd)).fw (j_int).fw)).fd ((j_bind okd_mul ((j_bind okd_mul (j_int).fd ((j_var 1)).sd)).fd ((j_var 1)).sd)).fd)).fd ((j_bind okd_mul (j_int).fd ((j_var 1)).sd)).fd)).sf)
    (jss_one (js_ret ((j_bin ok_fdiv ((j_bin ok_mod ((j_bind okd_mul ((j_var 2)).sd (j_int).fd)).fw (j_int).fw)).fw (j_int).fw)).fr))))

abbrev st__law_whole : Stmt := topS 51
def N__law_whole : List Str := ["_law_m", "_law_size"]
theorem sc__law_whole : FnScope N__law_whole ["_law_m"] (defScope st__law_whole) := ⟨rfl, rfl, rfl, by decide +kernel, rfl, by decide +kernel, by decide +kernel⟩
theorem w__law_whole (h__law_draw : FD P w K mg base DrW 2 "_law_draw" [] s__law_draw) : BodyJ P w K mg base DrW 2 N__law_whole "_law_whole" st__law_whole b__law_whole := by
  intro f cdv A outer s H E F0 hr
  have nd : N__law_whole.Nodup := by decide +kernel
  have tk := takes_of (X := XOf P w K mg base N__law_whole "_law_whole" (defScope st__law_whole) f cdv A outer s H E) rfl rfl rfl rfl
  have hp := passes_of (X := XOf P w K mg base N__law_whole "_law_whole" (defScope st__law_whole) f cdv A outer s H E) rfl
  exact (jls_of (jss_cons (js_set 1 nd (j_ix ((j_lst (ja_cons ncl_s (j_int).sf (ja_cons ncl_s (j_int).sf (ja_cons ncl_s (j_int).sf (ja_cons ncl_s (j_int).sf (ja_cons ncl_s (j_int).sf (ja_cons ncl_s ((j_bin ok_pow (j_int).fw (j_int).fw)).sf (ja_cons ncl_s ((j_bin ok_pow (j_int).fw (j_int).fw)).sf ja_nil))))))))).sf ((j_call h__law_draw (hr.mono (by decide)) tk (by rfl) (ja_cons ncl_w ((j_var 0)).sw (ja_cons ncl_w (j_int).fw ja_nil)))).fw))
    (jss_one (js_ret ((j_bin ok_sub ((j_call h__law_draw (hr.mono (by decide)) tk (by rfl) (ja_cons ncl_w ((j_var 0)).sw (ja_cons ncl_w ((j_bind okd_add ((j_bind okd_mul (j_int).fd ((j_var 1)).sd)).fd (j_int).fd)).fw ja_nil)))).fw ((j_var 1)).sw)).fr))))

abbrev st__law_row : Stmt := topS 53
def N__law_row : List Str := ["_law_m", "_law_most", "_law_k"]
theorem sc__law_row : FnScope N__law_row ["_law_m", "_law_most"] (defScope st__law_row) := ⟨rfl, rfl, rfl, by decide +kernel, rfl, by decide +kernel, by decide +kernel⟩
theorem w__law_row (m_range : mg "range" = none) (h__law_cut : FD P w K mg base DrW 1 "_law_cut" [] s__law_cut) (h__law_draw : FD P w K mg base DrW 2 "_law_draw" [] s__law_draw) (h__law_whole : FD P w K mg base DrW 3 "_law_whole" [] s__law_whole) : BodyJ P w K mg base DrW 3 N__law_row "_law_row" st__law_row b__law_row := by
  intro f cdv A outer s H E F0 hr
  have nd : N__law_row.Nodup := by decide +kernel
  have tk := takes_of (X := XOf P w K mg base N__law_row "_law_row" (defScope st__law_row) f cdv A outer s H E) rfl rfl rfl rfl
  have hp := passes_of (X := XOf P w K mg base N__law_row "_law_row" (defScope st__law_row) f cdv A outer s H E) rfl
  exact (jls_of (jss_one (js_ret ((j_call h__law_cut (hr.mono (by decide)) tk (by rfl) (ja_cons ncl_w ((j_lc rfl nd (own := [("_law_k", 2)]) (ws := [2]) (ji_range1 (st := false) m_range (ja_cons ncl_w ((j_call h__law_draw (hr.mono (by decide)) tk (by rfl) (ja_cons ncl_w ((j_var 0)).sw (ja_cons ncl_w ((j_bind okd_add ((j_var 1)).sd (j_int).fd)).fw ja_nil)))).fw ja_nil)) (blkOk_by (N := N__law_row) (sc := defScope st__law_row) (by decide +kernel)) (fun _ _ _ _ _ => (jg_name 2 nd)) (fun _ _ _ _ _ => jts_nil) (fun _ _ _ _ _ => ((j_call h__law_whole (hr.mono (by decide)) takes0 (by rfl) (ja_cons ncl_w ((j_var 0)).sw ja_nil))).sf) (by decide))).fw ja_nil))).fr)))

abbrev st__law_drawn : Stmt := topS 56
def N__law_drawn : List Str := ["_law_m", "_law_most"]
theorem sc__law_drawn : FnScope N__law_drawn ["_law_m", "_law_most"] (defScope st__law_drawn) := ⟨rfl, rfl, rfl, by decide +kernel, rfl, by decide +kernel, by decide +kernel⟩
theorem w__law_drawn (h__law_draw : FD P w K mg base DrW 2 "_law_draw" [] s__law_draw) (h__law_poly : FD P w K mg base DrW 2 "_law_poly" [] s__law_poly) (h__law_row : FD P w K mg base DrW 4 "_law_row" [] s__law_row) : BodyJ P w K mg base DrW 4 N__law_drawn "_law_drawn" st__law_drawn b__law_drawn := by
  intro f cdv A outer s H E F0 hr
  have nd : N__law_drawn.Nodup := by decide +kernel
  have tk := takes_of (X := XOf P w K mg base N__law_drawn "_law_drawn" (defScope st__law_drawn) f cdv A outer s H E) rfl rfl rfl rfl
  have hp := passes_of (X := XOf P w K mg base N__law_drawn "_law_drawn" (defScope st__law_drawn) f cdv A outer s H E) rfl
  exact (jls_of (jss_one (js_ret ((j_call h__law_poly (hr.mono (by decide)) tk (by rfl) (ja_cons ncl_w ((j_call h__law_row (hr.mono (by decide)) tk (by rfl) (ja_cons ncl_w ((j_var 0)).sw (ja_cons ncl_w ((j_var 1)).sw ja_nil)))).fw (ja_cons ncl_w ((j_ix ((j_lst (ja_cons ncl_s (j_int).sf (ja_cons ncl_s (j_int).sf (ja_cons ncl_s (j_int).sf (ja_cons ncl_s (j_int).sf (ja_cons ncl_s ((j_bind okd_add (j_int).fd ((j_call h__law_draw (hr.mono (by decide)) tk (by rfl) (ja_cons ncl_w ((j_var 0)).sw (ja_cons ncl_w (j_int).fw ja_nil)))).fd)).sf ja_nil))))))).sf ((j_call h__law_draw (hr.mono (by decide)) tk (by rfl) (ja_cons ncl_w ((j_var 0)).sw (ja_cons ncl_w (j_int).fw ja_nil)))).fw)).sw ja_nil)))).fr)))

abbrev st__law_lowest : Stmt := topS 57
def N__law_lowest : List Str := ["_law_n", "_law_d", "_law_part"]
theorem sc__law_lowest : FnScope N__law_lowest ["_law_n", "_law_d"] (defScope st__law_lowest) := ⟨rfl, rfl, rfl, by decide +kernel, rfl, by decide +kernel, by decide +kernel⟩
theorem w__law_lowest (h__law_common : FD P w K mg base W 1 "_law_common" [] s__law_common) : BodyJ P w K mg base W 1 N__law_lowest "_law_lowest" st__law_lowest b__law_lowest := by
  intro f cdv A outer s H E F0 hr
  have nd : N__law_lowest.Nodup := by decide +kernel
  have tk := takes_of (X := XOf P w K mg base N__law_lowest "_law_lowest" (defScope st__law_lowest) f cdv A outer s H E) rfl rfl rfl rfl
  have hp := passes_of (X := XOf P w K mg base N__law_lowest "_law_lowest" (defScope st__law_lowest) f cdv A outer s H E) rfl
  exact (jls_of (jss_cons (js_set 2 nd ((j_call h__law_common (hr.mono (by decide)) tk (by rfl) (ja_cons ncl_w ((j_lst (ja_cons ncl_s (j_var 0) (ja_cons ncl_s (j_var 1) ja_nil)))).fw ja_nil))).sf)
    (jss_cons (js_set 2 nd (j_if (jt_cmp ok_gt ((j_var 1)).sw (j_int).fw) (j_var 2) ((j_bin ok_sub (j_int).fw ((j_var 2)).sw)).sf))
    (jss_one (js_ret ((j_tup (ja_cons ncl_s ((j_bin ok_fdiv ((j_var 0)).sw ((j_var 2)).sw)).sf (ja_cons ncl_s ((j_bin ok_fdiv ((j_var 1)).sw ((j_var 2)).sw)).sf ja_nil)))).fr)))))

abbrev st__law_value : Stmt := topS 59
def N__law_value : List Str := ["_law_one", "_law_at", "_law_top", "_law_raised", "_law_below", "_law_number"]
theorem sc__law_value : FnScope N__law_value ["_law_one", "_law_at"] (defScope st__law_value) := ⟨rfl, rfl, rfl, by decide +kernel, rfl, by decide +kernel, by decide +kernel⟩
theorem w__law_value (h__law_lowest : FD P w K mg base W 2 "_law_lowest" [] s__law_lowest) : BodyJ P w K mg base W 2 N__law_value "_law_value" st__law_value b__law_value_k06 := by
  intro f cdv A outer s H E F0 hr
  have nd : N__law_value.Nodup := by decide +kernel
  have tk := takes_of (X := XOf P w K mg base N__law_value "_law_value" (defScope st__law_value) f cdv A outer s H E) rfl rfl rfl rfl
  have hp := passes_of (X := XOf P w K mg base N__law_value "_law_value" (defScope st__law_value) f cdv A outer s H E) rfl
  exact (jls_of (jss_cons (js_asg ((j_tup (ja_cons ncl_s (j_int).sf (ja_cons ncl_s (j_int).sf (ja_cons ncl_s (j_int).sf ja_nil))))).sf (jg_tup rfl (jgs_cons (jg_name 2 nd) (jgs_cons (jg_name 3 nd) (jgs_cons (jg_name 4 nd) jgs_nil)))))
    (jss_cons (js_for hp rfl (ji_seq (j_ix (j_var 0) (j_int).fw)) (jg_name 5 nd)
      (jss_cons (js_set 2 nd ((j_bind okd_add ((j_bind okd_mul ((j_var 2)).sd ((j_ix (j_var 1) (j_int).fw)).sd)).fd ((j_bind okd_mul ((j_var 5)).sd ((j_var 3)).sd)).fd)).sf)
    (jss_cons (js_set 3 nd ((j_bind okd_mul ((j_var 3)).sd ((j_ix (j_var 1) (j_int).fw)).sd)).sf)
    (jss_one (js_set 4 nd ((j_bind okd_mul ((j_var 4)).sd ((j_ix (j_var 1) (j_int).fw)).sd)).sf)))))
    (jss_one (js_ret ((j_call h__law_lowest (hr.mono (by decide)) tk (by rfl) (ja_cons ncl_w ((j_bind okd_mul ((j_var 2)).sd ((j_ix (j_var 1) (j_int).fw)).sd)).fw (ja_cons ncl_w ((j_bind okd_mul ((j_var 4)).sd ((j_ix (j_var 0) (j_int).fw)).sd)).fw ja_nil)))).fr)))))

abbrev st_fraction : Stmt := topS 7
def N_fraction : List Str := ["n", "d", "part"]
theorem sc_fraction : FnScope N_fraction ["n", "d"] (defScope st_fraction) := ⟨rfl, rfl, rfl, by decide +kernel, rfl, by decide +kernel, by decide +kernel⟩
theorem w_fraction (x_ByNought : ExcF K mg "ByNought") (h_common : FD P w K mg base W 1 "common" [] s_numbers_common) : BodyJ P w K mg base W 1 N_fraction "fraction" st_fraction b_fractions_fraction := by
  intro f cdv A outer s H E F0 hr
  have nd : N_fraction.Nodup := by decide +kernel
  have tk := takes_of (X := XOf P w K mg base N_fraction "fraction" (defScope st_fraction) f cdv A outer s H E) rfl rfl rfl rfl
  have hp := passes_of (X := XOf P w K mg base N_fraction "fraction" (defScope st_fraction) f cdv A outer s H E) rfl
  exact (jls_of (jss_cons (js_if (jt_cmp (ok_eq hr.units) ((j_var 1)).sw (j_int).fw)
      (jss_one (js_raise rfl tk x_ByNought))
      jss_nil)
    (jss_cons (js_set 2 nd ((j_call h_common (hr.mono (by decide)) tk (by rfl) (ja_cons ncl_w ((j_var 0)).sw (ja_cons ncl_w ((j_var 1)).sw ja_nil)))).sf)
    (jss_cons (js_set 2 nd (j_if (jt_cmp ok_gt ((j_var 1)).sw (j_int).fw) (j_var 2) ((j_bin ok_sub (j_int).fw ((j_var 2)).sw)).sf))
    (jss_one (js_ret ((j_tup (ja_cons ncl_s ((j_bin ok_fdiv ((j_var 0)).sw ((j_var 2)).sw)).sf (ja_cons ncl_s ((j_bin ok_fdiv ((j_var 1)).sw ((j_var 2)).sw)).sf ja_nil)))).fr))))))

abbrev st_value_rows : Stmt := topS 23
def N_value_rows : List Str := ["row", "at", "top", "below", "number"]
theorem sc_value_rows : FnScope N_value_rows ["row", "at"] (defScope st_value_rows) := ⟨rfl, rfl, rfl, by decide +kernel, rfl, by decide +kernel, by decide +kernel⟩
theorem w_value_rows (m_reversed : mg "reversed" = none) (h_fraction : FD P w K mg base W 2 "fraction" [] s_fractions_fraction) : BodyJ P w K mg base W 2 N_value_rows "value" st_value_rows b_rows_value_l := by
  intro f cdv A outer s H E F0 hr
  have nd : N_value_rows.Nodup := by decide +kernel
  have tk := takes_of (X := XOf P w K mg base N_value_rows "value" (defScope st_value_rows) f cdv A outer s H E) rfl rfl rfl rfl
  have hp := passes_of (X := XOf P w K mg base N_value_rows "value" (defScope st_value_rows) f cdv A outer s H E) rfl
  exact (jls_of (jss_cons (js_set 2 nd (j_int).sf)
    (jss_cons (js_set 3 nd (j_int).sf)
    (jss_cons (js_for hp rfl (ji_rev (j_var 0) m_reversed) (jg_name 4 nd)
      (jss_cons (js_set 2 nd ((j_bind okd_add ((j_bind okd_mul ((j_var 2)).sd ((j_ix (j_var 1) (j_int).fw)).sd)).fd ((j_bind okd_mul ((j_var 4)).sd ((j_var 3)).sd)).fd)).sf)
    (jss_one (js_set 3 nd ((j_bind okd_mul ((j_var 3)).sd ((j_ix (j_var 1) (j_int).fw)).sd)).sf))))
    (jss_one (js_ret ((j_call h_fraction (hr.mono (by decide)) tk (by rfl) (ja_cons ncl_w ((j_bind okd_mul ((j_var 2)).sd ((j_ix (j_var 1) (j_int).fw)).sd)).fw (ja_cons ncl_w ((j_var 3)).sw ja_nil)))).fr))))))

abbrev st_value_polys : Stmt := topS 42
def N_value_polys : List Str := ["one", "at", "top", "below"]
theorem sc_value_polys : FnScope N_value_polys ["one", "at"] (defScope st_value_polys) := ⟨rfl, rfl, rfl, by decide +kernel, rfl, by decide +kernel, by decide +kernel⟩
theorem w_value_polys (h_fraction : FD P w K mg base W 2 "fraction" [] s_fractions_fraction) (h_value_rows : FD P w K mg base W 3 "value_rows" [] s_rows_value_l) : BodyJ P w K mg base W 3 N_value_polys "value" st_value_polys b_polys_value := by
  intro f cdv A outer s H E F0 hr
  have nd : N_value_polys.Nodup := by decide +kernel
  have tk := takes_of (X := XOf P w K mg base N_value_polys "value" (defScope st_value_polys) f cdv A outer s H E) rfl rfl rfl rfl
  have hp := passes_of (X := XOf P w K mg base N_value_polys "value" (defScope st_value_polys) f cdv A outer s H E) rfl
  exact (jls_of (jss_cons (js_asg ((j_call h_value_rows (hr.mono (by decide)) tk (by rfl) (ja_cons ncl_w ((j_ix (j_var 0) (j_int).fw)).sw (ja_cons ncl_w ((j_var 1)).sw ja_nil)))).sf (jg_tup rfl (jgs_cons (jg_name 2 nd) (jgs_cons (jg_name 3 nd) jgs_nil))))
    (jss_one (js_ret ((j_call h_fraction (hr.mono (by decide)) tk (by rfl) (ja_cons ncl_w ((j_var 2)).sw (ja_cons ncl_w ((j_bind okd_mul ((j_var 3)).sd ((j_ix (j_var 0) (j_int).fw)).sd)).fw ja_nil)))).fr))))

abbrev st__law_reckoned : Stmt := topS 60
def N__law_reckoned : List Str := ["_law_one", "_law_other", "_law_sort"]
theorem sc__law_reckoned : FnScope N__law_reckoned ["_law_one", "_law_other", "_law_sort"] (defScope st__law_reckoned) := ⟨rfl, rfl, rfl, by decide +kernel, rfl, by decide +kernel, by decide +kernel⟩
theorem w__law_reckoned (h__law_lowest : FD P w K mg base W 2 "_law_lowest" [] s__law_lowest) : BodyJ P w K mg base W 2 N__law_reckoned "_law_reckoned" st__law_reckoned b__law_reckoned := by
  intro f cdv A outer s H E F0 hr
  have nd : N__law_reckoned.Nodup := by decide +kernel
  have tk := takes_of (X := XOf P w K mg base N__law_reckoned "_law_reckoned" (defScope st__law_reckoned) f cdv A outer s H E) rfl rfl rfl rfl
  have hp := passes_of (X := XOf P w K mg base N__law_reckoned "_law_reckoned" (defScope st__law_reckoned) f cdv A outer s H E) rfl
  exact (jls_of (jss_cons (js_if (jt_cmp (ok_eq hr.units) ((j_var 2)).sw (j_int).fw)
      (jss_one (js_ret ((j_call h__law_lowest (hr.mono (by decide)) tk (by rfl) (ja_cons ncl_w ((j_bind okd_mul ((j_ix (j_var 0) (j_int).fw)).sd ((j_ix (j_var 1) (j_int).fw)).sd)).fw (ja_cons ncl_w ((j_bind okd_mul ((j_ix (j_var 0) (j_int).fw)).sd ((j_ix (j_var 1) (j_int).fw)).sd)).fw ja_nil)))).fr))
      jss_nil)
    (jss_one (js_ret ((j_call h__law_lowest (hr.mono (by decide)) tk (by rfl) (ja_cons ncl_w ((j_bind okd_add ((j_bind okd_mul ((j_ix (j_var 0) (j_int).fw)).sd ((j_ix (j_var 1) (j_int).fw)).sd)).fd ((j_bind okd_mul ((j_bind okd_mul ((j_bin ok_sub (j_int).fw ((j_bind okd_mul (j_int).fd ((j_var 2)).sd)).fw)).fd ((j_ix (j_var 1) (j_int).fw)).sd)).fd ((j_ix (j_var 0) (j_int).fw)).sd)).fd)).fw (ja_cons ncl_w ((j_bind okd_mul ((j_ix (j_var 0) (j_int).fw)).sd ((j_ix (j_var 1) (j_int).fw)).sd)).fw ja_nil)))).fr))))

abbrev st_scaled_polys : Stmt := topS 37
def N_scaled_polys : List Str := ["one", "number"]
theorem sc_scaled_polys : FnScope N_scaled_polys ["one", "number"] (defScope st_scaled_polys) := ⟨rfl, rfl, rfl, by decide +kernel, rfl, by decide +kernel, by decide +kernel⟩
theorem w_scaled_polys (h_poly : FD P w K mg base W 3 "poly" [] s_polys_poly) (h_scaled_rows : FD P w K mg base W 2 "scaled_rows" [] s_rows_scaled) : BodyJ P w K mg base W 3 N_scaled_polys "scaled" st_scaled_polys b_polys_scaled := by
  intro f cdv A outer s H E F0 hr
  have nd : N_scaled_polys.Nodup := by decide +kernel
  have tk := takes_of (X := XOf P w K mg base N_scaled_polys "scaled" (defScope st_scaled_polys) f cdv A outer s H E) rfl rfl rfl rfl
  have hp := passes_of (X := XOf P w K mg base N_scaled_polys "scaled" (defScope st_scaled_polys) f cdv A outer s H E) rfl
  exact (jls_of (jss_one (js_ret ((j_call h_poly (hr.mono (by decide)) tk (by rfl) (ja_cons ncl_w ((j_call h_scaled_rows (hr.mono (by decide)) tk (by rfl) (ja_cons ncl_w ((j_ix (j_var 0) (j_int).fw)).sw (ja_cons ncl_w ((j_ix (j_var 1) (j_int).fw)).sw ja_nil)))).fw (ja_cons ncl_w ((j_bind okd_mul ((j_ix (j_var 0) (j_int).fw)).sd ((j_ix (j_var 1) (j_int).fw)).sd)).fw ja_nil)))).fr)))

abbrev st_less_polys : Stmt := topS 33
def N_less_polys : List Str := ["one", "other"]
theorem sc_less_polys : FnScope N_less_polys ["one", "other"] (defScope st_less_polys) := ⟨rfl, rfl, rfl, by decide +kernel, rfl, by decide +kernel, by decide +kernel⟩
theorem w_less_polys (h_plus_polys : FD P w K mg base W 4 "plus_polys" [] s_polys_plus_l) (h_scaled_polys : FD P w K mg base W 4 "scaled_polys" [] s_polys_scaled) : BodyJ P w K mg base W 4 N_less_polys "less" st_less_polys b_polys_less_l := by
  intro f cdv A outer s H E F0 hr
  have nd : N_less_polys.Nodup := by decide +kernel
  have tk := takes_of (X := XOf P w K mg base N_less_polys "less" (defScope st_less_polys) f cdv A outer s H E) rfl rfl rfl rfl
  have hp := passes_of (X := XOf P w K mg base N_less_polys "less" (defScope st_less_polys) f cdv A outer s H E) rfl
  exact (jls_of (jss_one (js_ret ((j_call h_plus_polys (hr.mono (by decide)) tk (by rfl) (ja_cons ncl_w ((j_var 0)).sw (ja_cons ncl_w ((j_call h_scaled_polys (hr.mono (by decide)) tk (by rfl) (ja_cons ncl_w ((j_var 1)).sw (ja_cons ncl_w ((j_tup (ja_cons ncl_s ((j_neg (j_int).fw)).sf (ja_cons ncl_s (j_int).sf ja_nil)))).fw ja_nil)))).fw ja_nil)))).fr)))

abbrev st_times_rows : Stmt := topS 17
def N_times_rows : List Str := ["one", "other", "found", "k", "left", "j", "right"]
theorem sc_times_rows : FnScope N_times_rows ["one", "other"] (defScope st_times_rows) := ⟨rfl, rfl, rfl, by decide +kernel, rfl, by decide +kernel, by decide +kernel⟩
theorem w_times_rows (m_enumerate : mg "enumerate" = none) (m_len : mg "len" = none) (m_max : mg "max" = none) (h_row_of : FD P w K mg base W 1 "row_of" [] s_rows_row_of) : BodyJ P w K mg base W 1 N_times_rows "times" st_times_rows b_rows_times := by
  intro f cdv A outer s H E F0 hr
  have nd : N_times_rows.Nodup := by decide +kernel
  have tk := takes_of (X := XOf P w K mg base N_times_rows "times" (defScope st_times_rows) f cdv A outer s H E) rfl rfl rfl rfl
  have hp := passes_of (X := XOf P w K mg base N_times_rows "times" (defScope st_times_rows) f cdv A outer s H E) rfl
  exact (jls_of (jss_cons (js_setO 2 nd (j_bind okd_mul ((j_lst (ja_cons ncl_s (j_int).sf ja_nil))).fd ((j_callB (ca_max rfl) m_max (by decide +kernel) (ja_cons ncl_w (j_int).fw (ja_cons ncl_w ((j_bin ok_sub ((j_bind okd_add ((j_callB ca_len m_len (by decide +kernel) (ja_cons ncl_w ((j_var 0)).sw ja_nil))).fd ((j_callB ca_len m_len (by decide +kernel) (ja_cons ncl_w ((j_var 1)).sw ja_nil))).fd)).fw (j_int).fw)).fw ja_nil)))).fd))
    (jss_cons (js_for hp rfl (ji_enum (j_var 0) m_enumerate) (jg_tup rfl (jgs_cons (jg_name 3 nd) (jgs_cons (jg_name 4 nd) jgs_nil)))
      (jss_one (js_for hp rfl (ji_enum (j_var 1) m_enumerate) (jg_tup rfl (jgs_cons (jg_name 5 nd) (jgs_cons (jg_name 6 nd) jgs_nil)))
      (jss_one (js_augi 2 ip_add ((j_bind okd_add ((j_var 3)).sd ((j_var 5)).sd)).fw ((j_bind okd_mul ((j_var 4)).sd ((j_var 6)).sd)).fw)))))
    (jss_one (js_ret ((j_call h_row_of (hr.mono (by decide)) tk (by rfl) (ja_cons ncl_w (j_own 2) ja_nil))).fr)))))

abbrev st_times_polys : Stmt := topS 35
def N_times_polys : List Str := ["one", "other"]
theorem sc_times_polys : FnScope N_times_polys ["one", "other"] (defScope st_times_polys) := ⟨rfl, rfl, rfl, by decide +kernel, rfl, by decide +kernel, by decide +kernel⟩
theorem w_times_polys (h_poly : FD P w K mg base W 3 "poly" [] s_polys_poly) (h_times_rows : FD P w K mg base W 2 "times_rows" [] s_rows_times) : BodyJ P w K mg base W 3 N_times_polys "times" st_times_polys b_polys_times := by
  intro f cdv A outer s H E F0 hr
  have nd : N_times_polys.Nodup := by decide +kernel
  have tk := takes_of (X := XOf P w K mg base N_times_polys "times" (defScope st_times_polys) f cdv A outer s H E) rfl rfl rfl rfl
  have hp := passes_of (X := XOf P w K mg base N_times_polys "times" (defScope st_times_polys) f cdv A outer s H E) rfl
  exact (jls_of (jss_one (js_ret ((j_call h_poly (hr.mono (by decide)) tk (by rfl) (ja_cons ncl_w ((j_call h_times_rows (hr.mono (by decide)) tk (by rfl) (ja_cons ncl_w ((j_ix (j_var 0) (j_int).fw)).sw (ja_cons ncl_w ((j_ix (j_var 1) (j_int).fw)).sw ja_nil)))).fw (ja_cons ncl_w ((j_bind okd_mul ((j_ix (j_var 0) (j_int).fw)).sd ((j_ix (j_var 1) (j_int).fw)).sd)).fw ja_nil)))).fr)))

abbrev st_power : Stmt := topS 39
def N_power : List Str := ["one", "n", "found", "turn"]
theorem sc_power : FnScope N_power ["one", "n"] (defScope st_power) := ⟨rfl, rfl, rfl, by decide +kernel, rfl, by decide +kernel, by decide +kernel⟩
theorem w_power (m_range : mg "range" = none) (c_ONE : Cst K mg "ONE" (.tup [(.tup [(.int 1)]), (.int 1)])) (h_times_polys : FD P w K mg base W 4 "times_polys" [] s_polys_times) : BodyJ P w K mg base W 4 N_power "power" st_power b_polys_power := by
  intro f cdv A outer s H E F0 hr
  have nd : N_power.Nodup := by decide +kernel
  have tk := takes_of (X := XOf P w K mg base N_power "power" (defScope st_power) f cdv A outer s H E) rfl rfl rfl rfl
  have hp := passes_of (X := XOf P w K mg base N_power "power" (defScope st_power) f cdv A outer s H E) rfl
  exact (jls_of (jss_cons (js_set 2 nd ((j_glob (by rfl) c_ONE)).sf)
    (jss_cons (js_for hp rfl (ji_range1 (st := true) m_range (ja_cons ncl_w ((j_var 1)).sw ja_nil)) (jg_name 3 nd)
      (jss_one (js_set 2 nd ((j_call h_times_polys (hr.mono (by decide)) tk (by rfl) (ja_cons ncl_w ((j_var 2)).sw (ja_cons ncl_w ((j_var 0)).sw ja_nil)))).sf)))
    (jss_one (js_ret ((j_var 2)).sr)))))

abbrev st_composed : Stmt := topS 44
def N_composed : List Str := ["one", "other", "found", "number"]
theorem sc_composed : FnScope N_composed ["one", "other"] (defScope st_composed) := ⟨rfl, rfl, rfl, by decide +kernel, rfl, by decide +kernel, by decide +kernel⟩
theorem w_composed (m_reversed : mg "reversed" = none) (c_NOUGHT : Cst K mg "NOUGHT" (.tup [(.tup []), (.int 1)])) (h_plus_polys : FD P w K mg base W 4 "plus_polys" [] s_polys_plus_l) (h_poly : FD P w K mg base W 3 "poly" [] s_polys_poly) (h_poly_1 : FD P w K mg base W 3 "poly" [.int 1] s_polys_poly) (h_scaled_rows : FD P w K mg base W 2 "scaled_rows" [] s_rows_scaled) (h_times_polys : FD P w K mg base W 4 "times_polys" [] s_polys_times) : BodyJ P w K mg base W 4 N_composed "composed" st_composed b_polys_composed := by
  intro f cdv A outer s H E F0 hr
  have nd : N_composed.Nodup := by decide +kernel
  have tk := takes_of (X := XOf P w K mg base N_composed "composed" (defScope st_composed) f cdv A outer s H E) rfl rfl rfl rfl
  have hp := passes_of (X := XOf P w K mg base N_composed "composed" (defScope st_composed) f cdv A outer s H E) rfl
  exact (jls_of (jss_cons (js_set 2 nd ((j_glob (by rfl) c_NOUGHT)).sf)
    (jss_cons (js_for hp rfl (ji_rev (j_ix (j_var 0) (j_int).fw) m_reversed) (jg_name 3 nd)
      (jss_one (js_set 2 nd ((j_call h_plus_polys (hr.mono (by decide)) tk (by rfl) (ja_cons ncl_w ((j_call h_times_polys (hr.mono (by decide)) tk (by rfl) (ja_cons ncl_w ((j_var 2)).sw (ja_cons ncl_w ((j_var 1)).sw ja_nil)))).fw (ja_cons ncl_w ((j_call h_poly_1 (hr.mono (by decide)) tk (by rfl) (ja_cons ncl_w ((j_call h_scaled_rows (hr.mono (by decide)) tk (by rfl) (ja_cons ncl_w ((j_tup (ja_cons ncl_s (j_int).sf ja_nil))).fw (ja_cons ncl_w ((j_var 3)).sw ja_nil)))).fw ja_nil))).fw ja_nil)))).sf)))
    (jss_one (js_ret ((j_call h_poly (hr.mono (by decide)) tk (by rfl) (ja_cons ncl_w ((j_ix (j_var 2) (j_int).fw)).sw (ja_cons ncl_w ((j_bind okd_mul ((j_ix (j_var 2) (j_int).fw)).sd ((j_ix (j_var 0) (j_int).fw)).sd)).fw ja_nil)))).fr)))))

abbrev st__law_values_right : Stmt := topS 61
def N__law_values_right : List Str := ["_law_one", "_law_other", "_law_at", "_law_n", "_law_here", "_law_there", "_law_told", "_law_due", "_law_raised", "_law_turn", "_law_sort"]
theorem sc__law_values_right : FnScope N__law_values_right ["_law_one", "_law_other", "_law_at", "_law_n"] (defScope st__law_values_right) := ⟨rfl, rfl, rfl, by decide +kernel, rfl, by decide +kernel, by decide +kernel⟩
theorem w__law_values_right (m_range : mg "range" = none) (m_repr : mg "repr" = none) (i_dig : PySem.W.nsIn K cStatics "sys.int_max_str_digits" = some none) (h__law_reckoned : FD P w K mg base W 3 "_law_reckoned" [] s__law_reckoned) (h__law_value : FD P w K mg base W 3 "_law_value" [] s__law_value_k06) (h_composed : FD P w K mg base W 5 "composed" [] s_polys_composed) (h_less_polys : FD P w K mg base W 5 "less_polys" [] s_polys_less_l) (h_plus_polys : FD P w K mg base W 4 "plus_polys" [] s_polys_plus_l) (h_power : FD P w K mg base W 5 "power" [] s_polys_power) (h_times_polys : FD P w K mg base W 4 "times_polys" [] s_polys_times) (h_value_polys : FD P w K mg base W 4 "value_polys" [] s_polys_value) : BodyJ P w K mg base W 5 N__law_values_right "_law_values_right" st__law_values_right b__law_values_right := by
  intro f cdv A outer s H E F0 hr
  have nd : N__law_values_right.Nodup := by decide +kernel
  have tk := takes_of (X := XOf P w K mg base N__law_values_right "_law_values_right" (defScope st__law_values_right) f cdv A outer s H E) rfl rfl rfl rfl
  have hp := passes_of (X := XOf P w K mg base N__law_values_right "_law_values_right" (defScope st__law_values_right) f cdv A outer s H E) rfl
  exact (jls_of (jss_cons (js_asg ((j_tup (ja_cons ncl_s ((j_call h__law_value (hr.mono (by decide)) tk (by rfl) (ja_cons ncl_w ((j_var 0)).sw (ja_cons ncl_w ((j_var 2)).sw ja_nil)))).sf (ja_cons ncl_s ((j_call h__law_value (hr.mono (by decide)) tk (by rfl) (ja_cons ncl_w ((j_var 1)).sw (ja_cons ncl_w ((j_var 2)).sw ja_nil)))).sf ja_nil)))).sf (jg_tup rfl (jgs_cons (jg_name 4 nd) (jgs_cons (jg_name 5 nd) jgs_nil))))
    (jss_cons (js_set 6 nd ((j_lst (ja_cons ncl_s ((j_call h_value_polys (hr.mono (by decide)) tk (by rfl) (ja_cons ncl_w ((j_var 0)).sw (ja_cons ncl_w ((j_var 2)).sw ja_nil)))).sf (ja_cons ncl_s ((j_call h_value_polys (hr.mono (by decide)) tk (by rfl) (ja_cons ncl_w ((j_call h_plus_polys (hr.mono (by decide)) tk (by rfl) (ja_cons ncl_w ((j_var 0)).sw (ja_cons ncl_w ((j_var 1)).sw ja_nil)))).fw (ja_cons ncl_w ((j_var 2)).sw ja_nil)))).sf (ja_cons ncl_s ((j_call h_value_polys (hr.mono (by decide)) tk (by rfl) (ja_cons ncl_w ((j_call h_less_polys (hr.mono (by decide)) tk (by rfl) (ja_cons ncl_w ((j_var 0)).sw (ja_cons ncl_w ((j_var 1)).sw ja_nil)))).fw (ja_cons ncl_w ((j_var 2)).sw ja_nil)))).sf (ja_cons ncl_s ((j_call h_value_polys (hr.mono (by decide)) tk (by rfl) (ja_cons ncl_w ((j_call h_times_polys (hr.mono (by decide)) tk (by rfl) (ja_cons ncl_w ((j_var 0)).sw (ja_cons ncl_w ((j_var 1)).sw ja_nil)))).fw (ja_cons ncl_w ((j_var 2)).sw ja_nil)))).sf ja_nil)))))).sf)
    (jss_cons (js_set 7 nd ((j_bind okd_add ((j_lst (ja_cons ncl_s (j_var 4) ja_nil))).fd ((j_lc rfl nd (own := [("_law_sort", 10)]) (ws := [10]) (ji_range1 (st := false) m_range (ja_cons ncl_w (j_int).fw ja_nil)) (blkOk_by (N := N__law_values_right) (sc := defScope st__law_values_right) (by decide +kernel)) (fun _ _ _ _ _ => (jg_name 10 nd)) (fun _ _ _ _ _ => jts_nil) (fun _ _ _ _ _ => ((j_call h__law_reckoned (hr.mono (by decide)) takes0 (by rfl) (ja_cons ncl_w ((j_var 4)).sw (ja_cons ncl_w ((j_var 5)).sw (ja_cons ncl_w ((j_var 10)).sw ja_nil))))).sf) (by decide))).fd)).sf)
    (jss_cons (js_set 6 nd ((j_bind okd_add ((j_var 6)).sd ((j_lst (ja_cons ncl_s ((j_call h_value_polys (hr.mono (by decide)) tk (by rfl) (ja_cons ncl_w ((j_call h_power (hr.mono (by decide)) tk (by rfl) (ja_cons ncl_w ((j_var 0)).sw (ja_cons ncl_w ((j_var 3)).sw ja_nil)))).fw (ja_cons ncl_w ((j_var 2)).sw ja_nil)))).sf (ja_cons ncl_s ((j_call h_value_polys (hr.mono (by decide)) tk (by rfl) (ja_cons ncl_w ((j_call h_composed (hr.mono (by decide)) tk (by rfl) (ja_cons ncl_w ((j_var 0)).sw (ja_cons ncl_w ((j_var 1)).sw ja_nil)))).fw (ja_cons ncl_w ((j_var 2)).sw ja_nil)))).sf ja_nil)))).fd)).sf)
    (jss_cons (js_set 8 nd ((j_tup (ja_cons ncl_s (j_int).sf (ja_cons ncl_s (j_int).sf ja_nil)))).sf)
    (jss_cons (js_for hp rfl (ji_range1 (st := true) m_range (ja_cons ncl_w ((j_var 3)).sw ja_nil)) (jg_name 9 nd)
      (jss_one (js_set 8 nd ((j_call h__law_reckoned (hr.mono (by decide)) tk (by rfl) (ja_cons ncl_w ((j_var 8)).sw (ja_cons ncl_w ((j_var 4)).sw (ja_cons ncl_w (j_int).fw ja_nil))))).sf)))
    (jss_cons (js_set 7 nd ((j_bind okd_add ((j_var 7)).sd ((j_lst (ja_cons ncl_s (j_var 8) (ja_cons ncl_s ((j_call h__law_value (hr.mono (by decide)) tk (by rfl) (ja_cons ncl_w ((j_var 0)).sw (ja_cons ncl_w ((j_var 5)).sw ja_nil)))).sf ja_nil)))).fd)).sf)
    (jss_one (js_ret ((j_cmp (ok_eq hr.units) ((j_callB (ca_reprB i_dig hr.gd hr.units) m_repr (by decide +kernel) (ja_cons ncl_w ((j_var 6)).sw ja_nil))).fw ((j_callB (ca_reprB i_dig hr.gd hr.units) m_repr (by decide +kernel) (ja_cons ncl_w ((j_var 7)).sw ja_nil))).fw)).fr))))))))))

abbrev st_derived_rows : Stmt := topS 21
def N_derived_rows : List Str := ["row", "k", "number"]
theorem sc_derived_rows : FnScope N_derived_rows ["row"] (defScope st_derived_rows) := ⟨rfl, rfl, rfl, by decide +kernel, rfl, by decide +kernel, by decide +kernel⟩
theorem w_derived_rows (m_enumerate : mg "enumerate" = none) (h_row_of : FD P w K mg base W 1 "row_of" [] s_rows_row_of) : BodyJ P w K mg base W 1 N_derived_rows "derived" st_derived_rows b_rows_derived := by
  intro f cdv A outer s H E F0 hr
  have nd : N_derived_rows.Nodup := by decide +kernel
  have tk := takes_of (X := XOf P w K mg base N_derived_rows "derived" (defScope st_derived_rows) f cdv A outer s H E) rfl rfl rfl rfl
  have hp := passes_of (X := XOf P w K mg base N_derived_rows "derived" (defScope st_derived_rows) f cdv A outer s H E) rfl
  exact (jls_of (jss_one (js_ret ((j_call h_row_of (hr.mono (by decide)) tk (by rfl) (ja_cons ncl_w ((j_sl ((j_lc rfl nd (own := [("k", 1), ("number", 2)]) (ws := [1, 2]) (JI.weak (ji_enum (j_var 0) m_enumerate)) (blkOk_by (N := N_derived_rows) (sc := defScope st_derived_rows) (by decide +kernel)) (fun _ _ _ _ _ => (jg_tup rfl (jgs_cons (jg_name 1 nd) (jgs_cons (jg_name 2 nd) jgs_nil)))) (fun _ _ _ _ _ => jts_nil) (fun _ _ _ _ _ => ((j_bind okd_mul ((j_var 1)).sd ((j_var 2)).sd)).sf) (by decide))).fw (jo_some (j_int).fw) jo_none)).fw ja_nil))).fr)))

abbrev st_derived_polys : Stmt := topS 40
def N_derived_polys : List Str := ["one"]
theorem sc_derived_polys : FnScope N_derived_polys ["one"] (defScope st_derived_polys) := ⟨rfl, rfl, rfl, by decide +kernel, rfl, by decide +kernel, by decide +kernel⟩
theorem w_derived_polys (h_derived_rows : FD P w K mg base W 2 "derived_rows" [] s_rows_derived) (h_poly : FD P w K mg base W 3 "poly" [] s_polys_poly) : BodyJ P w K mg base W 3 N_derived_polys "derived" st_derived_polys b_polys_derived := by
  intro f cdv A outer s H E F0 hr
  have nd : N_derived_polys.Nodup := by decide +kernel
  have tk := takes_of (X := XOf P w K mg base N_derived_polys "derived" (defScope st_derived_polys) f cdv A outer s H E) rfl rfl rfl rfl
  have hp := passes_of (X := XOf P w K mg base N_derived_polys "derived" (defScope st_derived_polys) f cdv A outer s H E) rfl
  exact (jls_of (jss_one (js_ret ((j_call h_poly (hr.mono (by decide)) tk (by rfl) (ja_cons ncl_w ((j_call h_derived_rows (hr.mono (by decide)) tk (by rfl) (ja_cons ncl_w ((j_ix (j_var 0) (j_int).fw)).sw ja_nil))).fw (ja_cons ncl_w ((j_ix (j_var 0) (j_int).fw)).sw ja_nil)))).fr)))

abbrev st__law_fraction : Stmt := topS 58
def N__law_fraction : List Str := ["_law_m"]
theorem sc__law_fraction : FnScope N__law_fraction ["_law_m"] (defScope st__law_fraction) := ⟨rfl, rfl, rfl, by decide +kernel, rfl, by decide +kernel, by decide +kernel⟩
theorem w__law_fraction (h__law_draw : FD P w K mg base DrW 2 "_law_draw" [] s__law_draw) (h__law_lowest : FD P w K mg base DrW 2 "_law_lowest" [] s__law_lowest) (h__law_whole : FD P w K mg base DrW 3 "_law_whole" [] s__law_whole) : BodyJ P w K mg base DrW 3 N__law_fraction "_law_fraction" st__law_fraction b__law_fraction := by
  intro f cdv A outer s H E F0 hr
  have nd : N__law_fraction.Nodup := by decide +kernel
  have tk := takes_of (X := XOf P w K mg base N__law_fraction "_law_fraction" (defScope st__law_fraction) f cdv A outer s H E) rfl rfl rfl rfl
  have hp := passes_of (X := XOf P w K mg base N__law_fraction "_law_fraction" (defScope st__law_fraction) f cdv A outer s H E) rfl
  exact (jls_of (jss_one (js_ret ((j_call h__law_lowest (hr.mono (by decide)) tk (by rfl) (ja_cons ncl_w ((j_call h__law_whole (hr.mono (by decide)) tk (by rfl) (ja_cons ncl_w ((j_var 0)).sw ja_nil))).fw (ja_cons ncl_w ((j_ix ((j_lst (ja_cons ncl_s (j_int).sf (ja_cons ncl_s ((j_bind okd_add (j_int).fd ((j_call h__law_draw (hr.mono (by decide)) tk (by rfl) (ja_cons ncl_w ((j_var 0)).sw (ja_cons ncl_w (j_int).fw ja_nil)))).fd)).sf (ja_cons ncl_s ((j_bind okd_add (j_int).fd ((j_call h__law_draw (hr.mono (by decide)) tk (by rfl) (ja_cons ncl_w ((j_var 0)).sw (ja_cons ncl_w ((j_bin ok_pow (j_int).fw (j_int).fw)).fw ja_nil)))).fd)).sf ja_nil))))).sf ((j_call h__law_draw (hr.mono (by decide)) tk (by rfl) (ja_cons ncl_w ((j_var 0)).sw (ja_cons ncl_w (j_int).fw ja_nil)))).fw)).sw ja_nil)))).fr)))

abbrev st_over : Stmt := topS 10
def N_over : List Str := ["one", "other"]
theorem sc_over : FnScope N_over ["one", "other"] (defScope st_over) := ⟨rfl, rfl, rfl, by decide +kernel, rfl, by decide +kernel, by decide +kernel⟩
theorem w_over (h_fraction : FD P w K mg base W 2 "fraction" [] s_fractions_fraction) : BodyJ P w K mg base W 2 N_over "over" st_over b_fractions_over := by
  intro f cdv A outer s H E F0 hr
  have nd : N_over.Nodup := by decide +kernel
  have tk := takes_of (X := XOf P w K mg base N_over "over" (defScope st_over) f cdv A outer s H E) rfl rfl rfl rfl
  have hp := passes_of (X := XOf P w K mg base N_over "over" (defScope st_over) f cdv A outer s H E) rfl
  exact (jls_of (jss_one (js_ret ((j_call h_fraction (hr.mono (by decide)) tk (by rfl) (ja_cons ncl_w ((j_bind okd_mul ((j_ix (j_var 0) (j_int).fw)).sd ((j_ix (j_var 1) (j_int).fw)).sd)).fw (ja_cons ncl_w ((j_bind okd_mul ((j_ix (j_var 0) (j_int).fw)).sd ((j_ix (j_var 1) (j_int).fw)).sd)).fw ja_nil)))).fr)))

abbrev st_less_fractions : Stmt := topS 8
def N_less_fractions : List Str := ["one", "other"]
theorem sc_less_fractions : FnScope N_less_fractions ["one", "other"] (defScope st_less_fractions) := ⟨rfl, rfl, rfl, by decide +kernel, rfl, by decide +kernel, by decide +kernel⟩
theorem w_less_fractions (h_fraction : FD P w K mg base W 2 "fraction" [] s_fractions_fraction) : BodyJ P w K mg base W 2 N_less_fractions "less" st_less_fractions b_fractions_less := by
  intro f cdv A outer s H E F0 hr
  have nd : N_less_fractions.Nodup := by decide +kernel
  have tk := takes_of (X := XOf P w K mg base N_less_fractions "less" (defScope st_less_fractions) f cdv A outer s H E) rfl rfl rfl rfl
  have hp := passes_of (X := XOf P w K mg base N_less_fractions "less" (defScope st_less_fractions) f cdv A outer s H E) rfl
  exact (jls_of (jss_one (js_ret ((j_call h_fraction (hr.mono (by decide)) tk (by rfl) (ja_cons ncl_w ((j_bin ok_sub ((j_bind okd_mul ((j_ix (j_var 0) (j_int).fw)).sd ((j_ix (j_var 1) (j_int).fw)).sd)).fw ((j_bind okd_mul ((j_ix (j_var 1) (j_int).fw)).sd ((j_ix (j_var 0) (j_int).fw)).sd)).fw)).fw (ja_cons ncl_w ((j_bind okd_mul ((j_ix (j_var 0) (j_int).fw)).sd ((j_ix (j_var 1) (j_int).fw)).sd)).fw ja_nil)))).fr)))

abbrev st_through : Stmt := topS 45
def N_through : List Str := ["points", "found", "ahead", "at", "told", "more"]
theorem sc_through : FnScope N_through ["points"] (defScope st_through) := ⟨rfl, rfl, rfl, by decide +kernel, rfl, by decide +kernel, by decide +kernel⟩
theorem w_through (c_NOUGHT : Cst K mg "NOUGHT" (.tup [(.tup []), (.int 1)])) (c_ONE : Cst K mg "ONE" (.tup [(.tup [(.int 1)]), (.int 1)])) (h_less_fractions : FD P w K mg base W 3 "less_fractions" [] s_fractions_less) (h_over : FD P w K mg base W 3 "over" [] s_fractions_over) (h_plus_polys : FD P w K mg base W 4 "plus_polys" [] s_polys_plus_l) (h_poly : FD P w K mg base W 3 "poly" [] s_polys_poly) (h_scaled_polys : FD P w K mg base W 4 "scaled_polys" [] s_polys_scaled) (h_times_polys : FD P w K mg base W 4 "times_polys" [] s_polys_times) (h_value_polys : FD P w K mg base W 4 "value_polys" [] s_polys_value) : BodyJ P w K mg base W 4 N_through "through" st_through b_polys_through := by
  intro f cdv A outer s H E F0 hr
  have nd : N_through.Nodup := by decide +kernel
  have tk := takes_of (X := XOf P w K mg base N_through "through" (defScope st_through) f cdv A outer s H E) rfl rfl rfl rfl
  have hp := passes_of (X := XOf P w K mg base N_through "through" (defScope st_through) f cdv A outer s H E) rfl
  exact (jls_of (jss_cons (js_set 1 nd ((j_glob (by rfl) c_NOUGHT)).sf)
    (jss_cons (js_set 2 nd ((j_glob (by rfl) c_ONE)).sf)
    (jss_cons (js_for hp rfl (ji_bor 0) (jg_tup rfl (jgs_cons (jg_name 3 nd) (jgs_cons (jg_name 4 nd) jgs_nil)))
      (jss_cons (js_set 5 nd ((j_call h_over (hr.mono (by decide)) tk (by rfl) (ja_cons ncl_w ((j_call h_less_fractions (hr.mono (by decide)) tk (by rfl) (ja_cons ncl_w ((j_var 4)).sw (ja_cons ncl_w ((j_call h_value_polys (hr.mono (by decide)) tk (by rfl) (ja_cons ncl_w ((j_var 1)).sw (ja_cons ncl_w ((j_var 3)).sw ja_nil)))).fw ja_nil)))).fw (ja_cons ncl_w ((j_call h_value_polys (hr.mono (by decide)) tk (by rfl) (ja_cons ncl_w ((j_var 2)).sw (ja_cons ncl_w ((j_var 3)).sw ja_nil)))).fw ja_nil)))).sf)
    (jss_cons (js_set 1 nd ((j_call h_plus_polys (hr.mono (by decide)) tk (by rfl) (ja_cons ncl_w ((j_var 1)).sw (ja_cons ncl_w ((j_call h_scaled_polys (hr.mono (by decide)) tk (by rfl) (ja_cons ncl_w ((j_var 2)).sw (ja_cons ncl_w ((j_var 5)).sw ja_nil)))).fw ja_nil)))).sf)
    (jss_one (js_set 2 nd ((j_call h_times_polys (hr.mono (by decide)) tk (by rfl) (ja_cons ncl_w ((j_var 2)).sw (ja_cons ncl_w ((j_call h_poly (hr.mono (by decide)) tk (by rfl) (ja_cons ncl_w ((j_tup (ja_cons ncl_s ((j_bin ok_sub (j_int).fw ((j_ix (j_var 3) (j_int).fw)).sw)).sf (ja_cons ncl_s (j_ix (j_var 3) (j_int).fw) ja_nil)))).fw (ja_cons ncl_w ((j_ix (j_var 3) (j_int).fw)).sw ja_nil)))).fw ja_nil)))).sf)))))
    (jss_one (js_ret ((j_var 1)).sr))))))

abbrev st_is_whole : Stmt := topS 4
def N_is_whole : List Str := ["thing"]
theorem sc_is_whole : FnScope N_is_whole ["thing"] (defScope st_is_whole) := ⟨rfl, rfl, rfl, by decide +kernel, rfl, by decide +kernel, by decide +kernel⟩
theorem w_is_whole (m_bool : mg "bool" = none) (m_int : mg "int" = none) (m_isinstance : mg "isinstance" = none) : BodyJ P w K mg base W 0 N_is_whole "is_whole" st_is_whole b_numbers_is_whole := by
  intro f cdv A outer s H E F0 hr
  have nd : N_is_whole.Nodup := by decide +kernel
  have tk := takes_of (X := XOf P w K mg base N_is_whole "is_whole" (defScope st_is_whole) f cdv A outer s H E) rfl rfl rfl rfl
  have hp := passes_of (X := XOf P w K mg base N_is_whole "is_whole" (defScope st_is_whole) f cdv A outer s H E) rfl
  exact (jls_of (jss_one (js_ret ((j_and (j_isi isi_int (j_bor 0) m_isinstance m_int (by decide +kernel)) (j_one (j_not (j_isi isi_bool (j_bor 0) m_isinstance m_bool (by decide +kernel)))))).fr)))

abbrev st_is_row : Stmt := topS 12
def N_is_row : List Str := ["thing", "number"]
theorem sc_is_row : FnScope N_is_row ["thing"] (defScope st_is_row) := ⟨rfl, rfl, rfl, by decide +kernel, rfl, by decide +kernel, by decide +kernel⟩
theorem w_is_row (m_all : mg "all" = none) (m_isinstance : mg "isinstance" = none) (m_tuple : mg "tuple" = none) (h_is_whole : FD P w K mg base W 1 "is_whole" [] s_numbers_is_whole) : BodyJ P w K mg base W 1 N_is_row "is_row" st_is_row b_rows_is_row := by
  intro f cdv A outer s H E F0 hr
  have nd : N_is_row.Nodup := by decide +kernel
  have tk := takes_of (X := XOf P w K mg base N_is_row "is_row" (defScope st_is_row) f cdv A outer s H E) rfl rfl rfl rfl
  have hp := passes_of (X := XOf P w K mg base N_is_row "is_row" (defScope st_is_row) f cdv A outer s H E) rfl
  exact (jls_of (jss_cons (js_if (JW.t (jw_or (jt_not (jt_val ((j_isi isi_tuple (j_bor 0) m_isinstance m_tuple (by decide +kernel))).fw)) (jw_or1 (jt_not (jt_val ((j_callB (ca_all rfl) m_all (by decide +kernel) (ja_cons ncl_w ((j_lc rfl nd (own := [("number", 1)]) (ws := [1]) (ji_seqw (j_bor 0)) (blkOk_by (N := N_is_row) (sc := defScope st_is_row) (by decide +kernel)) (fun _ _ _ _ _ => (jg_name 1 nd)) (fun _ _ _ _ _ => jts_nil) (fun _ _ _ _ _ => ((j_call h_is_whole (hr.mono (by decide)) takes0 (by rfl) (ja_cons ncl_w ((j_var 1)).sw ja_nil))).sf) (by decide))).fw ja_nil))).fw)))))
      (jss_one (js_ret (j_bl).fr))
      jss_nil)
    (jss_one (js_ret ((j_or (j_cmp (ok_eq hr.units) (j_bor 0) ((j_tup ja_nil)).fw) (j_one (j_cmp (ok_ne hr.units) (j_ixww (j_bor 0) ((j_neg (j_int).fw)).fw) (j_int).fw)))).fr))))

abbrev st_is_poly : Stmt := topS 29
def N_is_poly : List Str := ["thing"]
theorem sc_is_poly : FnScope N_is_poly ["thing"] (defScope st_is_poly) := ⟨rfl, rfl, rfl, by decide +kernel, rfl, by decide +kernel, by decide +kernel⟩
theorem w_is_poly (m_isinstance : mg "isinstance" = none) (m_len : mg "len" = none) (m_tuple : mg "tuple" = none) (h_common : FD P w K mg base W 1 "common" [] s_numbers_common) (h_content : FD P w K mg base W 2 "content" [] s_rows_content) (h_is_row : FD P w K mg base W 2 "is_row" [] s_rows_is_row) (h_is_whole : FD P w K mg base W 1 "is_whole" [] s_numbers_is_whole) : BodyJ P w K mg base W 2 N_is_poly "is_poly" st_is_poly b_polys_is_poly := by
  intro f cdv A outer s H E F0 hr
  have nd : N_is_poly.Nodup := by decide +kernel
  have tk := takes_of (X := XOf P w K mg base N_is_poly "is_poly" (defScope st_is_poly) f cdv A outer s H E) rfl rfl rfl rfl
  have hp := passes_of (X := XOf P w K mg base N_is_poly "is_poly" (defScope st_is_poly) f cdv A outer s H E) rfl
  exact (jls_of (jss_cons (js_if (JW.t (jw_or (jt_not (jt_val ((j_isi isi_tuple (j_bor 0) m_isinstance m_tuple (by decide +kernel))).fw)) (jw_or (jt_cmp (ok_ne hr.units) ((j_callB ca_len m_len (by decide +kernel) (ja_cons ncl_w (j_bor 0) ja_nil))).fw (j_int).fw) (jw_or (jt_not (jt_val ((j_call h_is_row (hr.mono (by decide)) tk (by rfl) (ja_cons ncl_w (j_ixww (j_bor 0) (j_int).fw) ja_nil))).fw)) (jw_or1 (jt_not (jt_val ((j_call h_is_whole (hr.mono (by decide)) tk (by rfl) (ja_cons ncl_w (j_ixww (j_bor 0) (j_int).fw) ja_nil))).fw)))))))
      (jss_one (js_ret (j_bl).fr))
      jss_nil)
    (jss_one (js_ret ((j_and (j_cmp ok_gt (j_ixww (j_bor 0) (j_int).fw) (j_int).fw) (j_one (j_cmp (ok_eq hr.units) ((j_call h_common (hr.mono (by decide)) tk (by rfl) (ja_cons ncl_w ((j_call h_content (hr.mono (by decide)) tk (by rfl) (ja_cons ncl_w (j_ixww (j_bor 0) (j_int).fw) ja_nil))).fw (ja_cons ncl_w (j_ixww (j_bor 0) (j_int).fw) ja_nil)))).fw (j_int).fw)))).fr))))

abbrev st__law_through_right : Stmt := topS 63
def N__law_through_right : List Str := ["_law_points", "_law_handed", "_law_found", "_law_at", "_law_told"]
theorem sc__law_through_right : FnScope N__law_through_right ["_law_points"] (defScope st__law_through_right) := ⟨rfl, rfl, rfl, by decide +kernel, rfl, by decide +kernel, by decide +kernel⟩
theorem w__law_through_right (m_len : mg "len" = none) (m_list : mg "list" = none) (h_is_poly : FD P w K mg base W 3 "is_poly" [] s_polys_is_poly) (h_through : FD P w K mg base W 5 "through" [] s_polys_through) (h_value_polys : FD P w K mg base W 4 "value_polys" [] s_polys_value) : BodyJ P w K mg base W 5 N__law_through_right "_law_through_right" st__law_through_right b__law_through_right := by
  intro f cdv A outer s H E F0 hr
  have nd : N__law_through_right.Nodup := by decide +kernel
  have tk := takes_of (X := XOf P w K mg base N__law_through_right "_law_through_right" (defScope st__law_through_right) f cdv A outer s H E) rfl rfl rfl rfl
  have hp := passes_of (X := XOf P w K mg base N__law_through_right "_law_through_right" (defScope st__law_through_right) f cdv A outer s H E) rfl
  exact (jls_of (jss_cons (js_set 1 nd ((j_callTy ca_list m_list (by decide +kernel) (ja_cons ncl_w (j_bor 0) ja_nil))).sf)
    (jss_cons (js_set 2 nd ((j_call h_through (hr.mono (by decide)) tk (by rfl) (ja_cons ncl_w ((j_var 1)).sw ja_nil))).sf)
    (jss_cons (js_if (JW.t (jw_or (jt_cmp (ok_ne hr.units) ((j_var 1)).sw (j_bor 0)) (jw_or (jt_not (jt_val ((j_call h_is_poly (hr.mono (by decide)) tk (by rfl) (ja_cons ncl_w ((j_var 2)).sw ja_nil))).fw)) (jw_or1 (jt_cmp ok_gt ((j_callB ca_len m_len (by decide +kernel) (ja_cons ncl_w ((j_ix (j_var 2) (j_int).fw)).sw ja_nil))).fw ((j_callB ca_len m_len (by decide +kernel) (ja_cons ncl_w (j_bor 0) ja_nil))).fw)))))
      (jss_one (js_ret (j_bl).fr))
      jss_nil)
    (jss_one (js_ret ((j_cmp (ok_eq hr.units) ((j_lc rfl nd (own := [("_law_at", 3), ("_law_told", 4)]) (ws := [3, 4]) (ji_seqw (j_bor 0)) (blkOk_by (N := N__law_through_right) (sc := defScope st__law_through_right) (by decide +kernel)) (fun _ _ _ _ _ => (jg_tup rfl (jgs_cons (jg_name 3 nd) (jgs_cons (jg_name 4 nd) jgs_nil)))) (fun _ _ _ _ _ => jts_nil) (fun _ _ _ _ _ => ((j_call h_value_polys (hr.mono (by decide)) takes0 (by rfl) (ja_cons ncl_w ((j_var 2)).sw (ja_cons ncl_w ((j_var 3)).sw ja_nil)))).sf) (by decide))).fw ((j_lc rfl nd (own := [("_law_at", 3), ("_law_told", 4)]) (ws := [3, 4]) (ji_seqw (j_bor 0)) (blkOk_by (N := N__law_through_right) (sc := defScope st__law_through_right) (by decide +kernel)) (fun _ _ _ _ _ => (jg_tup rfl (jgs_cons (jg_name 3 nd) (jgs_cons (jg_name 4 nd) jgs_nil)))) (fun _ _ _ _ _ => jts_nil) (fun _ _ _ _ _ => (j_var 4)) (by decide))).fw)).fr))))))

abbrev st__law_put_in : Stmt := topS 62
def N__law_put_in : List Str := ["_law_one", "_law_other", "_law_found", "_law_number"]
theorem sc__law_put_in : FnScope N__law_put_in ["_law_one", "_law_other"] (defScope st__law_put_in) := ⟨rfl, rfl, rfl, by decide +kernel, rfl, by decide +kernel, by decide +kernel⟩
theorem w__law_put_in (h_plus_polys : FD P w K mg base W 4 "plus_polys" [] s_polys_plus_l) (h_times_polys : FD P w K mg base W 4 "times_polys" [] s_polys_times) : BodyJ P w K mg base W 4 N__law_put_in "_law_put_in" st__law_put_in b__law_put_in := by
  intro f cdv A outer s H E F0 hr
  have nd : N__law_put_in.Nodup := by decide +kernel
  have tk := takes_of (X := XOf P w K mg base N__law_put_in "_law_put_in" (defScope st__law_put_in) f cdv A outer s H E) rfl rfl rfl rfl
  have hp := passes_of (X := XOf P w K mg base N__law_put_in "_law_put_in" (defScope st__law_put_in) f cdv A outer s H E) rfl
  exact (jls_of (jss_cons (js_set 2 nd ((j_tup (ja_cons ncl_s ((j_tup ja_nil)).sf (ja_cons ncl_s (j_int).sf ja_nil)))).sf)
    (jss_cons (js_for hp rfl (ji_seq ((j_rvs ((j_ix (j_var 0) (j_int).fw)).sw)).sf) (jg_name 3 nd)
      (jss_one (js_set 2 nd ((j_call h_plus_polys (hr.mono (by decide)) tk (by rfl) (ja_cons ncl_w ((j_call h_times_polys (hr.mono (by decide)) tk (by rfl) (ja_cons ncl_w ((j_var 2)).sw (ja_cons ncl_w ((j_var 1)).sw ja_nil)))).fw (ja_cons ncl_w ((j_tup (ja_cons ncl_s ((j_if (jt_cmp (ok_ne hr.units) ((j_var 3)).sw (j_int).fw) (j_tup (ja_cons ncl_s (j_var 3) ja_nil)) (j_tup ja_nil))).sf (ja_cons ncl_s (j_int).sf ja_nil)))).fw ja_nil)))).sf)))
    (jss_one (js_ret ((j_call h_times_polys (hr.mono (by decide)) tk (by rfl) (ja_cons ncl_w ((j_var 2)).sw (ja_cons ncl_w ((j_tup (ja_cons ncl_s ((j_tup (ja_cons ncl_s (j_int).sf ja_nil))).sf (ja_cons ncl_s (j_ix (j_var 0) (j_int).fw) ja_nil)))).fw ja_nil)))).fr)))))

abbrev st_law : Stmt := topS 64
def N_law : List Str := ["_law_script", "_law_m", "_law_k", "_law_one", "_law_other", "_law_slope", "_law_points", "_law_turn", "_law_at", "_law_far", "_law_point"]
theorem sc_law : FnScope N_law ["_law_script"] (defScope st_law) := ⟨rfl, rfl, rfl, by decide +kernel, rfl, by decide +kernel, by decide +kernel⟩
theorem w_law (m_len : mg "len" = none) (m_min : mg "min" = none) (m_range : mg "range" = none) (m_repr : mg "repr" = none) (i_dig : PySem.W.nsIn K cStatics "sys.int_max_str_digits" = some none) (h__law_begun : FD P w K mg base DrW 2 "_law_begun" [] s__law_begun) (h__law_draw : FD P w K mg base DrW 2 "_law_draw" [] s__law_draw) (h__law_drawn : FD P w K mg base DrW 5 "_law_drawn" [] s__law_drawn) (h__law_fraction : FD P w K mg base DrW 4 "_law_fraction" [] s__law_fraction) (h__law_put_in : FD P w K mg base DrW 5 "_law_put_in" [] s__law_put_in) (h__law_through_right : FD P w K mg base DrW 6 "_law_through_right" [] s__law_through_right) (h__law_values_right : FD P w K mg base DrW 6 "_law_values_right" [] s__law_values_right) (h_composed : FD P w K mg base DrW 5 "composed" [] s_polys_composed) (h_derived_polys : FD P w K mg base DrW 4 "derived_polys" [] s_polys_derived) (h_plus_polys : FD P w K mg base DrW 4 "plus_polys" [] s_polys_plus_l) (h_through : FD P w K mg base DrW 5 "through" [] s_polys_through) (h_times_polys : FD P w K mg base DrW 4 "times_polys" [] s_polys_times) : BodyJ P w K mg base DrW 6 N_law "law" st_law b_law := by
  intro f cdv A outer s H E F0 hr
  have nd : N_law.Nodup := by decide +kernel
  have tk := takes_of (X := XOf P w K mg base N_law "law" (defScope st_law) f cdv A outer s H E) rfl rfl rfl rfl
  have hp := passes_of (X := XOf P w K mg base N_law "law" (defScope st_law) f cdv A outer s H E) rfl
  exact (jls_of (jss_cons (js_set 1 nd ((j_call h__law_begun (hr.mono (by decide)) tk (by rfl) (ja_cons ncl_w (j_bor 0) ja_nil))).sf)
    (jss_cons (js_for hp rfl (ji_range1 (st := true) m_range (ja_cons ncl_w ((j_bind okd_add (j_int).fd ((j_callB (ca_min rfl) m_min (by decide +kernel) (ja_cons ncl_w (j_int).fw (ja_cons ncl_w ((j_callB ca_len m_len (by decide +kernel) (ja_cons ncl_w (j_bor 0) ja_nil))).fw ja_nil)))).fd)).fw ja_nil)) (jg_name 2 nd)
      (jss_cons (js_par 3 4 rfl nd (ja_cons ncl_s ((j_call h__law_drawn (hr.mono (by decide)) tk (by rfl) (ja_cons ncl_w ((j_var 1)).sw (ja_cons ncl_w (j_int).fw ja_nil)))).sf (ja_cons ncl_s ((j_call h__law_drawn (hr.mono (by decide)) tk (by rfl) (ja_cons ncl_w ((j_var 1)).sw (ja_cons ncl_w (j_int).fw ja_nil)))).sf ja_nil)))
    (jss_cons (js_if (jt_not (jt_val ((j_call h__law_values_right (hr.mono (by decide)) tk (by rfl) (ja_cons ncl_w ((j_var 3)).sw (ja_cons ncl_w ((j_var 4)).sw (ja_cons ncl_w ((j_call h__law_fraction (hr.mono (by decide)) tk (by rfl) (ja_cons ncl_w ((j_var 1)).sw ja_nil))).fw (ja_cons ncl_w ((j_call h__law_draw (hr.mono (by decide)) tk (by rfl) (ja_cons ncl_w ((j_var 1)).sw (ja_cons ncl_w (j_int).fw ja_nil)))).fw ja_nil)))))).fw))
      (jss_one (js_ret (j_bl).fr))
      jss_nil)
    (jss_cons (js_if (jt_cmp (ok_ne hr.units) ((j_callB (ca_reprB i_dig hr.gd hr.units) m_repr (by decide +kernel) (ja_cons ncl_w ((j_call h_composed (hr.mono (by decide)) tk (by rfl) (ja_cons ncl_w ((j_var 3)).sw (ja_cons ncl_w ((j_var 4)).sw ja_nil)))).fw ja_nil))).fw ((j_callB (ca_reprB i_dig hr.gd hr.units) m_repr (by decide +kernel) (ja_cons ncl_w ((j_call h__law_put_in (hr.mono (by decide)) tk (by rfl) (ja_cons ncl_w ((j_var 3)).sw (ja_cons ncl_w ((j_var 4)).sw ja_nil)))).fw ja_nil))).fw)
      (jss_one (js_ret (j_bl).fr))
      jss_nil)
    (jss_cons (js_set 5 nd ((j_call h_plus_polys (hr.mono (by decide)) tk (by rfl) (ja_cons ncl_w ((j_call h_times_polys (hr.mono (by decide)) tk (by rfl) (ja_cons ncl_w ((j_call h_derived_polys (hr.mono (by decide)) tk (by rfl) (ja_cons ncl_w ((j_var 3)).sw ja_nil))).fw (ja_cons ncl_w ((j_var 4)).sw ja_nil)))).fw (ja_cons ncl_w ((j_call h_times_polys (hr.mono (by decide)) tk (by rfl) (ja_cons ncl_w ((j_var 3)).sw (ja_cons ncl_w ((j_call h_derived_polys (hr.mono (by decide)) tk (by rfl) (ja_cons ncl_w ((j_var 4)).sw ja_nil))).fw ja_nil)))).fw ja_nil)))).sf)
    (jss_cons (js_if (jt_cmp (ok_ne hr.units) ((j_call h_derived_polys (hr.mono (by decide)) tk (by rfl) (ja_cons ncl_w ((j_call h_times_polys (hr.mono (by decide)) tk (by rfl) (ja_cons ncl_w ((j_var 3)).sw (ja_cons ncl_w ((j_var 4)).sw ja_nil)))).fw ja_nil))).fw ((j_var 5)).sw)
      (jss_one (js_ret (j_bl).fr))
      jss_nil)
    (jss_cons (js_setO 6 nd (j_lst ja_nil))
    (jss_cons (js_for hp rfl (ji_range1 (st := true) m_range (ja_cons ncl_w ((j_call h__law_draw (hr.mono (by decide)) tk (by rfl) (ja_cons ncl_w ((j_var 1)).sw (ja_cons ncl_w (j_int).fw ja_nil)))).fw ja_nil)) (jg_name 7 nd)
      (jss_cons (js_set 8 nd ((j_call h__law_fraction (hr.mono (by decide)) tk (by rfl) (ja_cons ncl_w ((j_var 1)).sw ja_nil))).sf)
    (jss_one (js_if (jt_cmp (ok_nin hr.u65) ((j_var 8)).sw ((j_lc rfl nd (own := [("_law_point", 10)]) (ws := [10]) (ji_seqw (j_own 6)) (blkOk_by (N := N_law) (sc := defScope st_law) (by decide +kernel)) (fun _ _ _ _ _ => (jg_name 10 nd)) (fun _ _ _ _ _ => jts_nil) (fun _ _ _ _ _ => (j_ix (j_var 10) (j_int).fw)) (by decide))).fw (by rfl))
      (jss_one (js_append 6 ((j_tup (ja_cons ncl_s (j_var 8) (ja_cons ncl_s ((j_call h__law_fraction (hr.mono (by decide)) tk (by rfl) (ja_cons ncl_w ((j_var 1)).sw ja_nil))).sf ja_nil)))).sf))
      jss_nil))))
    (jss_one (js_if (jt_not (jt_val ((j_call h__law_through_right (hr.mono (by decide)) tk (by rfl) (ja_cons ncl_w (j_own 6) ja_nil))).fw))
      (jss_one (js_ret (j_bl).fr))
      jss_nil))))))))))
    (jss_cons (js_setLc 9 rfl nd (own := [("_law_k", 2)]) (ws := [2]) (ji_range1 (st := false) m_range (ja_cons ncl_w (j_int).fw ja_nil)) (blkOk_by (N := N_law) (sc := defScope st_law) (by decide +kernel)) (fun _ _ _ _ _ => (jg_name 2 nd)) (fun _ _ _ _ _ => jts_nil) (fun _ _ _ _ _ => ((j_tup (ja_cons ncl_s ((j_tup (ja_cons ncl_s (j_var 2) (ja_cons ncl_s (j_int).sf ja_nil)))).sf (ja_cons ncl_s ((j_tup (ja_cons ncl_s ((j_bind okd_mul ((j_var 2)).sd ((j_var 2)).sd)).sf (ja_cons ncl_s (j_int).sf ja_nil)))).sf ja_nil)))).sf) (by decide))
    (jss_one (js_ret ((j_and (j_cmp (ok_eq hr.units) ((j_call h_through (hr.mono (by decide)) tk (by rfl) (ja_cons ncl_w ((j_lst ja_nil)).fw ja_nil))).fw ((j_tup (ja_cons ncl_s ((j_tup ja_nil)).sf (ja_cons ncl_s (j_int).sf ja_nil)))).fw) (j_and (j_cmp (ok_eq hr.units) ((j_call h_through (hr.mono (by decide)) tk (by rfl) (ja_cons ncl_w ((j_var 9)).sw ja_nil))).fw ((j_tup (ja_cons ncl_s ((j_tup (ja_cons ncl_s (j_int).sf (ja_cons ncl_s (j_int).sf (ja_cons ncl_s (j_int).sf ja_nil))))).sf (ja_cons ncl_s (j_int).sf ja_nil)))).fw) (j_one (j_cmp (ok_eq hr.units) ((j_call h_through (hr.mono (by decide)) tk (by rfl) (ja_cons ncl_w ((j_rvs ((j_var 9)).sw)).fw ja_nil))).fw ((j_tup (ja_cons ncl_s ((j_tup (ja_cons ncl_s (j_int).sf (ja_cons ncl_s (j_int).sf (ja_cons ncl_s (j_int).sf ja_nil))))).sf (ja_cons ncl_s (j_int).sf ja_nil)))).fw))))).fr))))))

abbrev st__law_draw : Stmt := topS 49
theorem sc__law_draw : FnScope N__law_draw ["_law_m", "_law_many"] (defScope st__law_draw) := ⟨rfl, rfl, rfl, by decide +kernel, rfl, by decide +kernel, by decide +kernel⟩
theorem x__law_draw (DF : Dfn K mg "_law_draw" "_law_draw" st__law_draw ["_law_m", "_law_many"]) (hm : FD P w K mg base W0 1 "_law_mixed" [] s__law_mixed) (ml : mg "len" = none) : FD P w K mg base DrW 2 "_law_draw" [] s0__law_draw := by
  obtain ⟨f, fd, F, gf, bf⟩ := DF.ex
  obtain ⟨fm, fdm, psm, dsm, dvs, G, gm, km, bm, hd, hdd⟩ := hm
  have e0 : dvs = [] := List.length_eq_zero_iff.mp (hdd [] (fun _ => none)).length
  subst e0
  have G := hMix_of G
  refine ⟨f, fd, _, [], [], ?_, gf, F.kp, bf, .nil, fun _ _ => .nil⟩
  have S := sc__law_draw
  refine okG F S (fun vs H Q E h => ?_) fun cdv A outer s H vs Q E hr h => ?_
  · obtain ⟨F, m, ds, Qd, Zd, rz, dv, ⟨N, many, rfl, _⟩, _⟩ := h
    exact dv.length
  have hu : (A.deeper (envOfC "_law_draw" (defScope st__law_draw) s.heap.objs.size f cdv)).units + 1 < cLine := by have := hr.units; omega
  have tk := takes_of (X := XOf P w K mg base N__law_draw "_law_draw" (defScope st__law_draw) f cdv A outer s H E) rfl rfl rfl rfl
  refine ⟨_, pss_cons (ps_set (i := 2) S.nd rfl (.inl rfl) (pe_dget hu (pv 0) pe_str (fun _ _ => rfl)))
    (pss_cons (ps_dput hu (pv 0) pe_str (pe_op op_add (pv 2) pe_int) rfl)
    (pss_cons (ps_if (pt_cmpR (op_neD hr.units) (pe_dget hu (pv 0) pe_str (fun _ _ => rfl)) (pe_lst pa_nil) (nomark _))
      (pss_cons (ps_set (i := 3) S.nd rfl (.inl rfl) (pe_op op_modN (pv 2) (pe_callB call_len_seq (by rfl) ml PySem.boot_len (pa_cons (pe_dget hu (pv 0) pe_str (fun _ _ => rfl)) pa_nil))))
      (pss_cons (ps_set (i := 4) S.nd rfl (.inl rfl) (pe_ix ix_list (pe_dget hu (pv 0) pe_str (fun _ _ => rfl)) (pv 3) (fun _ _ => rfl)))
      (pss_one (ps_if (pt_cmpR op_notIn_seq (pv 4) (pe_tup (pa_cons pe_int (pa_cons (pe_un un_neg pe_int) pa_nil))) rfl)
        (pss_cons (ps_asg (pe_op op_fdivA (pv 4) (pv 1)) (pg_sub (pe_dget hu (pv 0) pe_str (fun _ _ => rfl)) (pv 3) set_list (fun _ => rfl)))
        (pss_one (ps_ret (pe_op op_modN (pv 4) (pv 1)))))
        pss_nil))))
      pss_nil)
    (pss_one (ps_ret (pe_op op_modN (pe_callG (E := fun σ cls d H' => E cls d H') (dvs := []) G (hr.mono (by decide)) (by rfl) gm km bm hd (fun σ => passAt tk σ)
      (pa_cons (pe_callG (E := fun σ cls d H' => E cls d H') (dvs := []) G (hr.mono (by decide)) (by rfl) gm km bm hd (fun σ => passAt tk σ)
        (pa_cons (pe_op op_add (pe_ix ix_list (pe_dget hu (pv 0) pe_str (fun _ _ => rfl)) (pe_op op_modN (pv 2) pe_int) (fun _ _ => rfl)) (pe_op op_mulA pe_int (pe_op op_fdivA (pv 2) pe_int))) (pa_cons (pv 2) pa_nil)))
      (pa_cons (pe_op op_add (pv 2) pe_int) pa_nil))) (pv 1)))))), ?_⟩
  exact rd_draw (mg := mg) h
abbrev st__law_begun : Stmt := topS 50
theorem sc__law_begun : FnScope N__law_begun ["_law_script"] (defScope st__law_begun) := ⟨rfl, rfl, rfl, by decide +kernel, rfl, by decide +kernel, by decide +kernel⟩
theorem x__law_begun (DF : Dfn K mg "_law_begun" "_law_begun" st__law_begun ["_law_script"]) (hm : FD P w K mg base W0 1 "_law_folded" [] s__law_folded) : FD P w K mg base DrW 2 "_law_begun" [] s0__law_begun := by
  obtain ⟨f, fd, F, gf, bf⟩ := DF.ex
  obtain ⟨fm, fdm, psm, dsm, dvs, G, gm, km, bm, hd, hdd⟩ := hm
  have e0 : dvs = [] := List.length_eq_zero_iff.mp (hdd [] (fun _ => none)).length
  subst e0
  have G := hFold_of G
  refine ⟨f, fd, _, [], [], ?_, gf, F.kp, bf, .nil, fun _ _ => .nil⟩
  have S := sc__law_begun
  refine okG F S (fun vs H Q E h => ?_) fun cdv A outer s H vs Q E hr h => ?_
  · obtain ⟨F, m, ds, Qd, Zd, rz, dv, ⟨ns, rfl, _⟩, _⟩ := h
    exact dv.length
  have hu : (A.deeper (envOfC "_law_begun" (defScope st__law_begun) s.heap.objs.size f cdv)).units + 1 < cLine := by have := hr.units; omega
  have tk := takes_of (X := XOf P w K mg base N__law_begun "_law_begun" (defScope st__law_begun) f cdv A outer s H E) rfl rfl rfl rfl
  refine ⟨_, pss_cons (ps_set (i := 1) S.nd rfl (.inl rfl) (pe_disp (pps_cons pe_str (pe_callG (E := fun σ cls d H' => E cls d H') (dvs := []) G (hr.mono (by decide)) (by rfl) gm km bm hd (fun σ => passAt tk σ) (pa_cons (pv 0) pa_nil))
      (pps_cons pe_str (pe_lst pa_nil) (pps_cons pe_str pe_int pps_nil))) rfl rfl (by decide) (by decide)))
    (pss_cons (ps_if (PW.pt (pw_and (pt_cmpR (op_neD hr.units) (pv 0) (pe_lst pa_nil) (nomark _)) (pw_and1 (pt_cmpR op_eq (pe_op op_modN (pe_ix ix_list (pv 0) pe_int (fun _ _ => rfl)) pe_int) pe_int (nomark _)))))
      (pss_one (ps_dput hu (pv 1) pe_str (pe_op op_cat (pe_lst (pa_cons (pe_op op_fdivA (pe_ix ix_list (pv 0) pe_int (fun _ _ => rfl)) pe_int) pa_nil)) (pe_slice sl_list (pv 0) (po_some pe_int) po_none)) rfl))
      pss_nil)
    (pss_one (ps_ret (pv 1)))), ?_⟩
  exact rd_begun (mg := mg) h
theorem ok_law {f : Addr} {fd : FuncData} (F : Fun K "law" "law" st_law f fd) (D__law_folded : Dfn K mg "_law_folded" "_law_folded" st__law_folded ["_law_script"]) (D__law_begun : Dfn K mg "_law_begun" "_law_begun" st__law_begun ["_law_script"]) (D_common : Dfn K mg "common" "common" st_common ["one", "other"]) (D_content : Dfn K mg "content" "content" st_content ["row"]) (D_poly : DfD K mg "poly" "poly" st_poly ["row", "d"] [1]) (D_row_of : Dfn K mg "row_of" "row_of" st_row_of ["numbers"]) (D_at_size : Dfn K mg "at_size" "at_size" st_at_size ["row", "size"]) (D_plus_rows : Dfn K mg "plus_rows" "plus" st_plus_rows ["one", "other"]) (D_scaled_rows : Dfn K mg "scaled_rows" "scaled" st_scaled_rows ["row", "number"]) (D_plus_polys : Dfn K mg "plus_polys" "plus" st_plus_polys ["one", "other"]) (D__law_common : Dfn K mg "_law_common" "_law_common" st__law_common ["_law_numbers"]) (D__law_poly : Dfn K mg "_law_poly" "_law_poly" st__law_poly ["_law_row_here", "_law_below"]) (D__law_cut : Dfn K mg "_law_cut" "_law_cut" st__law_cut ["_law_numbers"]) (D__law_mixed : Dfn K mg "_law_mixed" "_law_mixed" st__law_mixed ["_law_cell", "_law_k"]) (D__law_draw : Dfn K mg "_law_draw" "_law_draw" st__law_draw ["_law_m", "_law_many"]) (D__law_whole : Dfn K mg "_law_whole" "_law_whole" st__law_whole ["_law_m"]) (D__law_row : Dfn K mg "_law_row" "_law_row" st__law_row ["_law_m", "_law_most"]) (D__law_drawn : Dfn K mg "_law_drawn" "_law_drawn" st__law_drawn ["_law_m", "_law_most"]) (D__law_lowest : Dfn K mg "_law_lowest" "_law_lowest" st__law_lowest ["_law_n", "_law_d"]) (D__law_value : Dfn K mg "_law_value" "_law_value" st__law_value ["_law_one", "_law_at"]) (D_fraction : DfD K mg "fraction" "fraction" st_fraction ["n", "d"] [1]) (D_value_rows : Dfn K mg "value_rows" "value" st_value_rows ["row", "at"]) (D_value_polys : Dfn K mg "value_polys" "value" st_value_polys ["one", "at"]) (D__law_reckoned : Dfn K mg "_law_reckoned" "_law_reckoned" st__law_reckoned ["_law_one", "_law_other", "_law_sort"]) (D_scaled_polys : Dfn K mg "scaled_polys" "scaled" st_scaled_polys ["one", "number"]) (D_less_polys : Dfn K mg "less_polys" "less" st_less_polys ["one", "other"]) (D_times_rows : Dfn K mg "times_rows" "times" st_times_rows ["one", "other"]) (D_times_polys : Dfn K mg "times_polys" "times" st_times_polys ["one", "other"]) (D_power : Dfn K mg "power" "power" st_power ["one", "n"]) (D_composed : Dfn K mg "composed" "composed" st_composed ["one", "other"]) (D__law_values_right : Dfn K mg "_law_values_right" "_law_values_right" st__law_values_right ["_law_one", "_law_other", "_law_at", "_law_n"]) (D_derived_rows : Dfn K mg "derived_rows" "derived" st_derived_rows ["row"]) (D_derived_polys : Dfn K mg "derived_polys" "derived" st_derived_polys ["one"]) (D__law_fraction : Dfn K mg "_law_fraction" "_law_fraction" st__law_fraction ["_law_m"]) (D_over : Dfn K mg "over" "over" st_over ["one", "other"]) (D_less_fractions : Dfn K mg "less_fractions" "less" st_less_fractions ["one", "other"]) (D_through : Dfn K mg "through" "through" st_through ["points"]) (D_is_whole : Dfn K mg "is_whole" "is_whole" st_is_whole ["thing"]) (D_is_row : Dfn K mg "is_row" "is_row" st_is_row ["thing"]) (D_is_poly : Dfn K mg "is_poly" "is_poly" st_is_poly ["thing"]) (D__law_through_right : Dfn K mg "_law_through_right" "_law_through_right" st__law_through_right ["_law_points"]) (D__law_put_in : Dfn K mg "_law_put_in" "_law_put_in" st__law_put_in ["_law_one", "_law_other"]) (m_abs : mg "abs" = none) (m_all : mg "all" = none) (m_bool : mg "bool" = none) (m_enumerate : mg "enumerate" = none) (m_int : mg "int" = none) (m_isinstance : mg "isinstance" = none) (m_len : mg "len" = none) (m_list : mg "list" = none) (m_max : mg "max" = none) (m_min : mg "min" = none) (m_range : mg "range" = none) (m_repr : mg "repr" = none) (m_reversed : mg "reversed" = none) (m_tuple : mg "tuple" = none) (m_zip : mg "zip" = none) (x_ByNought : ExcF K mg "ByNought") (c_NOUGHT : Cst K mg "NOUGHT" (.tup [(.tup []), (.int 1)])) (c_ONE : Cst K mg "ONE" (.tup [(.tup [(.int 1)]), (.int 1)])) (i_dig : PySem.W.nsIn K cStatics "sys.int_max_str_digits" = some none) : FnG P w K mg base (L2.CX P w) 7 f fd ["_law_script"] (spLaw K) := by
  have h__law_begun : FD P w K mg base DrW 2 "_law_begun" [] s__law_begun := x__law_begun D__law_begun (D__law_folded.go [true] sc__law_folded (w__law_folded m_enumerate m_range) vc__law_folded)
  have h_common : FD P w K mg base DrW 1 "common" [] s_numbers_common := D_common.go [false, false] sc_common (w_common m_abs) vc_numbers_common
  have h_content : FD P w K mg base DrW 2 "content" [] s_rows_content := D_content.go [false] sc_content (w_content h_common) vc_rows_content
  have h_poly : FD P w K mg base DrW 3 "poly" [] s_polys_poly := D_poly.go 1 [false, false] sc_poly (w_poly m_tuple x_ByNought h_common h_content) vc_polys_poly (fun ds m Q Z h => okK_len (vc_polys_poly ds m Q Z h).1)
  have h_poly_1 : FD P w K mg base DrW 3 "poly" [.int 1] s_polys_poly := D_poly.go 0 [false, false] sc_poly (w_poly m_tuple x_ByNought h_common h_content) vc_polys_poly (fun ds m Q Z h => okK_len (vc_polys_poly ds m Q Z h).1)
  have h_row_of : FD P w K mg base DrW 1 "row_of" [] s_rows_row_of := D_row_of.go [true] sc_row_of (w_row_of m_len m_tuple) vc_rows_row_of
  have h_at_size : FD P w K mg base DrW 1 "at_size" [] s_rows_at_size := D_at_size.go [false, false] sc_at_size (w_at_size m_len m_list) vc_rows_at_size
  have h_plus_rows : FD P w K mg base DrW 2 "plus_rows" [] s_rows_plus := D_plus_rows.go [false, false] sc_plus_rows (w_plus_rows m_len m_max m_zip h_at_size h_row_of) vc_rows_plus
  have h_scaled_rows : FD P w K mg base DrW 2 "scaled_rows" [] s_rows_scaled := D_scaled_rows.go [false, false] sc_scaled_rows (w_scaled_rows h_row_of) vc_rows_scaled
  have h_plus_polys : FD P w K mg base DrW 4 "plus_polys" [] s_polys_plus_l := D_plus_polys.go [false, false] sc_plus_polys (w_plus_polys h_plus_rows h_poly h_scaled_rows) vc_polys_plus_l
  have h__law_common : FD P w K mg base DrW 1 "_law_common" [] s__law_common := D__law_common.go [true] sc__law_common (w__law_common m_abs) vc__law_common
  have h__law_poly : FD P w K mg base DrW 2 "_law_poly" [] s__law_poly := D__law_poly.go [false, false] sc__law_poly (w__law_poly m_abs m_list m_tuple h__law_common) vc__law_poly
  have h__law_cut : FD P w K mg base DrW 1 "_law_cut" [] s__law_cut := D__law_cut.go [true] sc__law_cut (w__law_cut m_len m_tuple) vc__law_cut
  have h__law_draw : FD P w K mg base DrW 2 "_law_draw" [] s__law_draw := x__law_draw D__law_draw (D__law_mixed.go [false, false] sc__law_mixed w__law_mixed vc__law_mixed) m_len
  have h__law_whole : FD P w K mg base DrW 3 "_law_whole" [] s__law_whole := D__law_whole.go [false] sc__law_whole (w__law_whole h__law_draw) vc__law_whole
  have h__law_row : FD P w K mg base DrW 4 "_law_row" [] s__law_row := D__law_row.go [false, false] sc__law_row (w__law_row m_range h__law_cut h__law_draw h__law_whole) vc__law_row
  have h__law_drawn : FD P w K mg base DrW 5 "_law_drawn" [] s__law_drawn := D__law_drawn.go [false, false] sc__law_drawn (w__law_drawn h__law_draw h__law_poly h__law_row) vc__law_drawn
  have h__law_lowest : FD P w K mg base DrW 2 "_law_lowest" [] s__law_lowest := D__law_lowest.go [false, false] sc__law_lowest (w__law_lowest h__law_common) vc__law_lowest
  have h__law_value : FD P w K mg base DrW 3 "_law_value" [] s__law_value_k06 := D__law_value.go [false, false] sc__law_value (w__law_value h__law_lowest) vc__law_value_k06
  have h_fraction : FD P w K mg base DrW 2 "fraction" [] s_fractions_fraction := D_fraction.go 1 [false, false] sc_fraction (w_fraction x_ByNought h_common) vc_fractions_fraction (fun ds m Q Z h => okK_len (vc_fractions_fraction ds m Q Z h).1)
  have h_fraction_1 : FD P w K mg base DrW 2 "fraction" [.int 1] s_fractions_fraction := D_fraction.go 0 [false, false] sc_fraction (w_fraction x_ByNought h_common) vc_fractions_fraction (fun ds m Q Z h => okK_len (vc_fractions_fraction ds m Q Z h).1)
  have h_value_rows : FD P w K mg base DrW 3 "value_rows" [] s_rows_value_l := D_value_rows.go [false, false] sc_value_rows (w_value_rows m_reversed h_fraction) vc_rows_value_l
  have h_value_polys : FD P w K mg base DrW 4 "value_polys" [] s_polys_value := D_value_polys.go [false, false] sc_value_polys (w_value_polys h_fraction h_value_rows) vc_polys_value
  have h__law_reckoned : FD P w K mg base DrW 3 "_law_reckoned" [] s__law_reckoned := D__law_reckoned.go [false, false, false] sc__law_reckoned (w__law_reckoned h__law_lowest) vc__law_reckoned
  have h_scaled_polys : FD P w K mg base DrW 4 "scaled_polys" [] s_polys_scaled := D_scaled_polys.go [false, false] sc_scaled_polys (w_scaled_polys h_poly h_scaled_rows) vc_polys_scaled
  have h_less_polys : FD P w K mg base DrW 5 "less_polys" [] s_polys_less_l := D_less_polys.go [false, false] sc_less_polys (w_less_polys h_plus_polys h_scaled_polys) vc_polys_less_l
  have h_times_rows : FD P w K mg base DrW 2 "times_rows" [] s_rows_times := D_times_rows.go [false, false] sc_times_rows (w_times_rows m_enumerate m_len m_max h_row_of) vc_rows_times
  have h_times_polys : FD P w K mg base DrW 4 "times_polys" [] s_polys_times := D_times_polys.go [false, false] sc_times_polys (w_times_polys h_poly h_times_rows) vc_polys_times
  have h_power : FD P w K mg base DrW 5 "power" [] s_polys_power := D_power.go [false, false] sc_power (w_power m_range c_ONE h_times_polys) vc_polys_power
  have h_composed : FD P w K mg base DrW 5 "composed" [] s_polys_composed := D_composed.go [false, false] sc_composed (w_composed m_reversed c_NOUGHT h_plus_polys h_poly h_poly_1 h_scaled_rows h_times_polys) vc_polys_composed
  have h__law_values_right : FD P w K mg base DrW 6 "_law_values_right" [] s__law_values_right := D__law_values_right.go [false, false, false, false] sc__law_values_right (w__law_values_right m_range m_repr i_dig h__law_reckoned h__law_value h_composed h_less_polys h_plus_polys h_power h_times_polys h_value_polys) vc__law_values_right
  have h_derived_rows : FD P w K mg base DrW 2 "derived_rows" [] s_rows_derived := D_derived_rows.go [false] sc_derived_rows (w_derived_rows m_enumerate h_row_of) vc_rows_derived
  have h_derived_polys : FD P w K mg base DrW 4 "derived_polys" [] s_polys_derived := D_derived_polys.go [false] sc_derived_polys (w_derived_polys h_derived_rows h_poly) vc_polys_derived
  have h__law_fraction : FD P w K mg base DrW 4 "_law_fraction" [] s__law_fraction := D__law_fraction.go [false] sc__law_fraction (w__law_fraction h__law_draw h__law_lowest h__law_whole) vc__law_fraction
  have h_over : FD P w K mg base DrW 3 "over" [] s_fractions_over := D_over.go [false, false] sc_over (w_over h_fraction) vc_fractions_over
  have h_less_fractions : FD P w K mg base DrW 3 "less_fractions" [] s_fractions_less := D_less_fractions.go [false, false] sc_less_fractions (w_less_fractions h_fraction) vc_fractions_less
  have h_through : FD P w K mg base DrW 5 "through" [] s_polys_through := D_through.go [true] sc_through (w_through c_NOUGHT c_ONE h_less_fractions h_over h_plus_polys h_poly h_scaled_polys h_times_polys h_value_polys) vc_polys_through
  have h_is_whole : FD P w K mg base DrW 1 "is_whole" [] s_numbers_is_whole := D_is_whole.go [true] sc_is_whole (w_is_whole m_bool m_int m_isinstance) vc_numbers_is_whole
  have h_is_row : FD P w K mg base DrW 2 "is_row" [] s_rows_is_row := D_is_row.go [true] sc_is_row (w_is_row m_all m_isinstance m_tuple h_is_whole) vc_rows_is_row
  have h_is_poly : FD P w K mg base DrW 3 "is_poly" [] s_polys_is_poly := D_is_poly.go [true] sc_is_poly (w_is_poly m_isinstance m_len m_tuple h_common h_content h_is_row h_is_whole) vc_polys_is_poly
  have h__law_through_right : FD P w K mg base DrW 6 "_law_through_right" [] s__law_through_right := D__law_through_right.go [true] sc__law_through_right (w__law_through_right m_len m_list h_is_poly h_through h_value_polys) vc__law_through_right
  have h__law_put_in : FD P w K mg base DrW 5 "_law_put_in" [] s__law_put_in := D__law_put_in.go [false, false] sc__law_put_in (w__law_put_in h_plus_polys h_times_polys) vc__law_put_in
  exact law_go F sc_law (w_law m_len m_min m_range m_repr i_dig h__law_begun h__law_draw h__law_drawn h__law_fraction h__law_put_in h__law_through_right h__law_values_right h_composed h_derived_polys h_plus_polys h_through h_times_polys) vc_law
end
theorem r_int (i : Int) (t : Tok) : RelV (.int i) (.int i t) := ⟨t, rfl⟩
theorem r_ref (a : Addr) : RelV (.ref a) (.ref a) := rfl
theorem all_mk {l : PySem.W.OpenLaw} {w : World} {K : PySem.W.Frag} {h : Heap} {mg : Str → Option Value} {fa f0 f1 f2 f3 f4 f5 f6 f7 f8 f9 f10 f11 f12 f13 f14 f15 f16 f17 f18 f19 f20 f21 f22 f23 f24 f25 f26 f27 f28 f29 f30 f31 f32 f33 f34 f35 f36 f37 f38 f39 f40 f41 f42 : Addr} (X : K.In h) (G : h.Ns mainGlobals mg) (hfa : mg "law" = some (.ref fa))
    {od0 an0 od1 an1 od2 an2 od3 an3 od4 an4 od5 an5 od6 an6 od7 an7 od8 an8 od9 an9 od10 an10 od11 an11 od12 an12 od13 an13 od14 an14 od15 an15 od16 an16 od17 an17 od18 an18 od19 an19 od20 an20 od21 an21 od22 an22 od23 an23 od24 an24 od25 an25 od26 an26 od27 an27 od28 an28 od29 an29 od30 an30 od31 an31 od32 an32 od33 an33 od34 an34 od35 an35 od36 an36 od37 an37 od38 an38 od39 an39 od40 an40 od41 an41 od42 an42 : Option Addr} {sl0 sl1 sl2 sl3 sl4 sl5 sl6 sl7 sl8 sl9 sl10 sl11 sl12 sl13 sl14 sl15 sl16 sl17 sl18 sl19 sl20 sl21 sl22 sl23 sl24 sl25 sl26 sl27 sl28 sl29 sl30 sl31 sl32 sl33 sl34 sl35 sl36 sl37 sl38 sl39 sl40 sl41 sl42 : Array (Option Value)} {oc0 kV0 dc0 pm0 ct0 cd0 oc1 kV1 dc1 pm1 ct1 cd1 oc2 kV2 dc2 pm2 ct2 cd2 oc3 kV3 dc3 pm3 ct3 cd3 oc4 kV4 dc4 pm4 ct4 cd4 oc5 kV5 dc5 pm5 ct5 cd5 oc6 kV6 dc6 pm6 ct6 cd6 oc7 kV7 dc7 pm7 ct7 cd7 oc8 kV8 dc8 pm8 ct8 cd8 oc9 kV9 dc9 pm9 ct9 cd9 oc10 kV10 dc10 pm10 ct10 cd10 oc11 kV11 dc11 pm11 ct11 cd11 oc12 kV12 dc12 pm12 ct12 cd12 oc13 kV13 dc13 pm13 ct13 cd13 oc14 kV14 dc14 pm14 ct14 cd14 oc15 kV15 dc15 pm15 ct15 cd15 oc16 kV16 dc16 pm16 ct16 cd16 oc17 kV17 dc17 pm17 ct17 cd17 oc18 kV18 dc18 pm18 ct18 cd18 oc19 kV19 dc19 pm19 ct19 cd19 oc20 kV20 dc20 pm20 ct20 cd20 oc21 kV21 dc21 pm21 ct21 cd21 oc22 kV22 dc22 pm22 ct22 cd22 oc23 kV23 dc23 pm23 ct23 cd23 oc24 kV24 dc24 pm24 ct24 cd24 oc25 kV25 dc25 pm25 ct25 cd25 oc26 kV26 dc26 pm26 ct26 cd26 oc27 kV27 dc27 pm27 ct27 cd27 oc28 kV28 dc28 pm28 ct28 cd28 oc29 kV29 dc29 pm29 ct29 cd29 oc30 kV30 dc30 pm30 ct30 cd30 oc31 kV31 dc31 pm31 ct31 cd31 oc32 kV32 dc32 pm32 ct32 cd32 oc33 kV33 dc33 pm33 ct33 cd33 oc34 kV34 dc34 pm34 ct34 cd34 oc35 kV35 dc35 pm35 ct35 cd35 oc36 kV36 dc36 pm36 ct36 cd36 oc37 kV37 dc37 pm37 ct37 cd37 oc38 kV38 dc38 pm38 ct38 cd38 oc39 kV39 dc39 pm39 ct39 cd39 oc40 kV40 dc40 pm40 ct40 cd40 oc41 kV41 dc41 pm41 ct41 cd41 oc42 kV42 dc42 pm42 ct42 cd42 : Value}
    (a0_0 : PySem.W.nsIn K mainGlobals "_law_folded" = some (some (.ref f0)))
    (l0 : K.lookup f0 = some ⟨oc0, od0, .func (PySem.W.fnOf "_law_folded" "_law_folded" (defArgs st__law_folded) (defBody st__law_folded) (defScope st__law_folded) .none kV0 dc0 pm0 an0 cd0 ct0), sl0⟩) (c0 : PySem.W.codeIn K cd0 "_law_folded" = true) (k0 : PySem.W.keepIn K (.ref f0) = true)
    (a1_0 : PySem.W.nsIn K mainGlobals "_law_begun" = some (some (.ref f1)))
    (l1 : K.lookup f1 = some ⟨oc1, od1, .func (PySem.W.fnOf "_law_begun" "_law_begun" (defArgs st__law_begun) (defBody st__law_begun) (defScope st__law_begun) .none kV1 dc1 pm1 an1 cd1 ct1), sl1⟩) (c1 : PySem.W.codeIn K cd1 "_law_begun" = true) (k1 : PySem.W.keepIn K (.ref f1) = true)
    (a2_0 : PySem.W.nsIn K mainGlobals "common" = some (some (.ref f2)))
    (l2 : K.lookup f2 = some ⟨oc2, od2, .func (PySem.W.fnOf "common" "common" (defArgs st_common) (defBody st_common) (defScope st_common) .none kV2 dc2 pm2 an2 cd2 ct2), sl2⟩) (c2 : PySem.W.codeIn K cd2 "common" = true) (k2 : PySem.W.keepIn K (.ref f2) = true)
    (a3_0 : PySem.W.nsIn K mainGlobals "content" = some (some (.ref f3)))
    (l3 : K.lookup f3 = some ⟨oc3, od3, .func (PySem.W.fnOf "content" "content" (defArgs st_content) (defBody st_content) (defScope st_content) .none kV3 dc3 pm3 an3 cd3 ct3), sl3⟩) (c3 : PySem.W.codeIn K cd3 "content" = true) (k3 : PySem.W.keepIn K (.ref f3) = true)
    (a4_0 : PySem.W.nsIn K mainGlobals "poly" = some (some (.ref f4)))
    {T4 : Addr} {tc4 : Value} {td4 : Option Addr} {ts4 : Array (Option Value)} {tn4 : Nat} {tk4_0 : Tok}
    (l4 : K.lookup f4 = some ⟨oc4, od4, .func (PySem.W.fnOf "poly" "poly" (defArgs st_poly) (defBody st_poly) (defScope st_poly) (.ref T4) kV4 dc4 pm4 an4 cd4 ct4), sl4⟩) (c4 : PySem.W.codeIn K cd4 "poly" = true) (k4 : PySem.W.keepIn K (.ref f4) = true)
    (d4 : K.lookup T4 = some ⟨tc4, td4, .seq #[.int 1 tk4_0] tn4, ts4⟩)
    (a5_0 : PySem.W.nsIn K mainGlobals "row_of" = some (some (.ref f5)))
    (l5 : K.lookup f5 = some ⟨oc5, od5, .func (PySem.W.fnOf "row_of" "row_of" (defArgs st_row_of) (defBody st_row_of) (defScope st_row_of) .none kV5 dc5 pm5 an5 cd5 ct5), sl5⟩) (c5 : PySem.W.codeIn K cd5 "row_of" = true) (k5 : PySem.W.keepIn K (.ref f5) = true)
    (a6_0 : PySem.W.nsIn K mainGlobals "at_size" = some (some (.ref f6)))
    (l6 : K.lookup f6 = some ⟨oc6, od6, .func (PySem.W.fnOf "at_size" "at_size" (defArgs st_at_size) (defBody st_at_size) (defScope st_at_size) .none kV6 dc6 pm6 an6 cd6 ct6), sl6⟩) (c6 : PySem.W.codeIn K cd6 "at_size" = true) (k6 : PySem.W.keepIn K (.ref f6) = true)
    (a7_0 : PySem.W.nsIn K mainGlobals "plus_rows" = some (some (.ref f7)))
    (l7 : K.lookup f7 = some ⟨oc7, od7, .func (PySem.W.fnOf "plus" "plus" (defArgs st_plus_rows) (defBody st_plus_rows) (defScope st_plus_rows) .none kV7 dc7 pm7 an7 cd7 ct7), sl7⟩) (c7 : PySem.W.codeIn K cd7 "plus" = true) (k7 : PySem.W.keepIn K (.ref f7) = true)
    (a8_0 : PySem.W.nsIn K mainGlobals "scaled_rows" = some (some (.ref f8)))
    (l8 : K.lookup f8 = some ⟨oc8, od8, .func (PySem.W.fnOf "scaled" "scaled" (defArgs st_scaled_rows) (defBody st_scaled_rows) (defScope st_scaled_rows) .none kV8 dc8 pm8 an8 cd8 ct8), sl8⟩) (c8 : PySem.W.codeIn K cd8 "scaled" = true) (k8 : PySem.W.keepIn K (.ref f8) = true)
    (a9_0 : PySem.W.nsIn K mainGlobals "plus_polys" = some (some (.ref f9)))
    (l9 : K.lookup f9 = some ⟨oc9, od9, .func (PySem.W.fnOf "plus" "plus" (defArgs st_plus_polys) (defBody st_plus_polys) (defScope st_plus_polys) .none kV9 dc9 pm9 an9 cd9 ct9), sl9⟩) (c9 : PySem.W.codeIn K cd9 "plus" = true) (k9 : PySem.W.keepIn K (.ref f9) = true)
    (a10_0 : PySem.W.nsIn K mainGlobals "_law_common" = some (some (.ref f10)))
    (l10 : K.lookup f10 = some ⟨oc10, od10, .func (PySem.W.fnOf "_law_common" "_law_common" (defArgs st__law_common) (defBody st__law_common) (defScope st__law_common) .none kV10 dc10 pm10 an10 cd10 ct10), sl10⟩) (c10 : PySem.W.codeIn K cd10 "_law_common" = true) (k10 : PySem.W.keepIn K (.ref f10) = true)
    (a11_0 : PySem.W.nsIn K mainGlobals "_law_poly" = some (some (.ref f11)))
    (l11 : K.lookup f11 = some ⟨oc11, od11, .func (PySem.W.fnOf "_law_poly" "_law_poly" (defArgs st__law_poly) (defBody st__law_poly) (defScope st__law_poly) .none kV11 dc11 pm11 an11 cd11 ct11), sl11⟩) (c11 : PySem.W.codeIn K cd11 "_law_poly" = true) (k11 : PySem.W.keepIn K (.ref f11) = true)
    (a12_0 : PySem.W.nsIn K mainGlobals "_law_cut" = some (some (.ref f12)))
    (l12 : K.lookup f12 = some ⟨oc12, od12, .func (PySem.W.fnOf "_law_cut" "_law_cut" (defArgs st__law_cut) (defBody st__law_cut) (defScope st__law_cut) .none kV12 dc12 pm12 an12 cd12 ct12), sl12⟩) (c12 : PySem.W.codeIn K cd12 "_law_cut" = true) (k12 : PySem.W.keepIn K (.ref f12) = true)
    (a13_0 : PySem.W.nsIn K mainGlobals "_law_mixed" = some (some (.ref f13)))
    (l13 : K.lookup f13 = some ⟨oc13, od13, .func (PySem.W.fnOf "_law_mixed" "_law_mixed" (defArgs st__law_mixed) (defBody st__law_mixed) (defScope st__law_mixed) .none kV13 dc13 pm13 an13 cd13 ct13), sl13⟩) (c13 : PySem.W.codeIn K cd13 "_law_mixed" = true) (k13 : PySem.W.keepIn K (.ref f13) = true)
    (a14_0 : PySem.W.nsIn K mainGlobals "_law_draw" = some (some (.ref f14)))
    (l14 : K.lookup f14 = some ⟨oc14, od14, .func (PySem.W.fnOf "_law_draw" "_law_draw" (defArgs st__law_draw) (defBody st__law_draw) (defScope st__law_draw) .none kV14 dc14 pm14 an14 cd14 ct14), sl14⟩) (c14 : PySem.W.codeIn K cd14 "_law_draw" = true) (k14 : PySem.W.keepIn K (.ref f14) = true)
    (a15_0 : PySem.W.nsIn K mainGlobals "_law_whole" = some (some (.ref f15)))
    (l15 : K.lookup f15 = some ⟨oc15, od15, .func (PySem.W.fnOf "_law_whole" "_law_whole" (defArgs st__law_whole) (defBody st__law_whole) (defScope st__law_whole) .none kV15 dc15 pm15 an15 cd15 ct15), sl15⟩) (c15 : PySem.W.codeIn K cd15 "_law_whole" = true) (k15 : PySem.W.keepIn K (.ref f15) = true)
    (a16_0 : PySem.W.nsIn K mainGlobals "_law_row" = some (some (.ref f16)))
    (l16 : K.lookup f16 = some ⟨oc16, od16, .func (PySem.W.fnOf "_law_row" "_law_row" (defArgs st__law_row) (defBody st__law_row) (defScope st__law_row) .none kV16 dc16 pm16 an16 cd16 ct16), sl16⟩) (c16 : PySem.W.codeIn K cd16 "_law_row" = true) (k16 : PySem.W.keepIn K (.ref f16) = true)
    (a17_0 : PySem.W.nsIn K mainGlobals "_law_drawn" = some (some (.ref f17)))
    (l17 : K.lookup f17 = some ⟨oc17, od17, .func (PySem.W.fnOf "_law_drawn" "_law_drawn" (defArgs st__law_drawn) (defBody st__law_drawn) (defScope st__law_drawn) .none kV17 dc17 pm17 an17 cd17 ct17), sl17⟩) (c17 : PySem.W.codeIn K cd17 "_law_drawn" = true) (k17 : PySem.W.keepIn K (.ref f17) = true)
    (a18_0 : PySem.W.nsIn K mainGlobals "_law_lowest" = some (some (.ref f18)))
    (l18 : K.lookup f18 = some ⟨oc18, od18, .func (PySem.W.fnOf "_law_lowest" "_law_lowest" (defArgs st__law_lowest) (defBody st__law_lowest) (defScope st__law_lowest) .none kV18 dc18 pm18 an18 cd18 ct18), sl18⟩) (c18 : PySem.W.codeIn K cd18 "_law_lowest" = true) (k18 : PySem.W.keepIn K (.ref f18) = true)
    (a19_0 : PySem.W.nsIn K mainGlobals "_law_value" = some (some (.ref f19)))
    (l19 : K.lookup f19 = some ⟨oc19, od19, .func (PySem.W.fnOf "_law_value" "_law_value" (defArgs st__law_value) (defBody st__law_value) (defScope st__law_value) .none kV19 dc19 pm19 an19 cd19 ct19), sl19⟩) (c19 : PySem.W.codeIn K cd19 "_law_value" = true) (k19 : PySem.W.keepIn K (.ref f19) = true)
    (a20_0 : PySem.W.nsIn K mainGlobals "fraction" = some (some (.ref f20)))
    {T20 : Addr} {tc20 : Value} {td20 : Option Addr} {ts20 : Array (Option Value)} {tn20 : Nat} {tk20_0 : Tok}
    (l20 : K.lookup f20 = some ⟨oc20, od20, .func (PySem.W.fnOf "fraction" "fraction" (defArgs st_fraction) (defBody st_fraction) (defScope st_fraction) (.ref T20) kV20 dc20 pm20 an20 cd20 ct20), sl20⟩) (c20 : PySem.W.codeIn K cd20 "fraction" = true) (k20 : PySem.W.keepIn K (.ref f20) = true)
    (d20 : K.lookup T20 = some ⟨tc20, td20, .seq #[.int 1 tk20_0] tn20, ts20⟩)
    (a21_0 : PySem.W.nsIn K mainGlobals "value_rows" = some (some (.ref f21)))
    (l21 : K.lookup f21 = some ⟨oc21, od21, .func (PySem.W.fnOf "value" "value" (defArgs st_value_rows) (defBody st_value_rows) (defScope st_value_rows) .none kV21 dc21 pm21 an21 cd21 ct21), sl21⟩) (c21 : PySem.W.codeIn K cd21 "value" = true) (k21 : PySem.W.keepIn K (.ref f21) = true)
    (a22_0 : PySem.W.nsIn K mainGlobals "value_polys" = some (some (.ref f22)))
    (l22 : K.lookup f22 = some ⟨oc22, od22, .func (PySem.W.fnOf "value" "value" (defArgs st_value_polys) (defBody st_value_polys) (defScope st_value_polys) .none kV22 dc22 pm22 an22 cd22 ct22), sl22⟩) (c22 : PySem.W.codeIn K cd22 "value" = true) (k22 : PySem.W.keepIn K (.ref f22) = true)
    (a23_0 : PySem.W.nsIn K mainGlobals "_law_reckoned" = some (some (.ref f23)))
    (l23 : K.lookup f23 = some ⟨oc23, od23, .func (PySem.W.fnOf "_law_reckoned" "_law_reckoned" (defArgs st__law_reckoned) (defBody st__law_reckoned) (defScope st__law_reckoned) .none kV23 dc23 pm23 an23 cd23 ct23), sl23⟩) (c23 : PySem.W.codeIn K cd23 "_law_reckoned" = true) (k23 : PySem.W.keepIn K (.ref f23) = true)
    (a24_0 : PySem.W.nsIn K mainGlobals "scaled_polys" = some (some (.ref f24)))
    (l24 : K.lookup f24 = some ⟨oc24, od24, .func (PySem.W.fnOf "scaled" "scaled" (defArgs st_scaled_polys) (defBody st_scaled_polys) (defScope st_scaled_polys) .none kV24 dc24 pm24 an24 cd24 ct24), sl24⟩) (c24 : PySem.W.codeIn K cd24 "scaled" = true) (k24 : PySem.W.keepIn K (.ref f24) = true)
    (a25_0 : PySem.W.nsIn K mainGlobals "less_polys" = some (some (.ref f25)))
    (l25 : K.lookup f25 = some ⟨oc25, od25, .func (PySem.W.fnOf "less" "less" (defArgs st_less_polys) (defBody st_less_polys) (defScope st_less_polys) .none kV25 dc25 pm25 an25 cd25 ct25), sl25⟩) (c25 : PySem.W.codeIn K cd25 "less" = true) (k25 : PySem.W.keepIn K (.ref f25) = true)
    (a26_0 : PySem.W.nsIn K mainGlobals "times_rows" = some (some (.ref f26)))
    (l26 : K.lookup f26 = some ⟨oc26, od26, .func (PySem.W.fnOf "times" "times" (defArgs st_times_rows) (defBody st_times_rows) (defScope st_times_rows) .none kV26 dc26 pm26 an26 cd26 ct26), sl26⟩) (c26 : PySem.W.codeIn K cd26 "times" = true) (k26 : PySem.W.keepIn K (.ref f26) = true)
    (a27_0 : PySem.W.nsIn K mainGlobals "times_polys" = some (some (.ref f27)))
    (l27 : K.lookup f27 = some ⟨oc27, od27, .func (PySem.W.fnOf "times" "times" (defArgs st_times_polys) (defBody st_times_polys) (defScope st_times_polys) .none kV27 dc27 pm27 an27 cd27 ct27), sl27⟩) (c27 : PySem.W.codeIn K cd27 "times" = true) (k27 : PySem.W.keepIn K (.ref f27) = true)
    (a28_0 : PySem.W.nsIn K mainGlobals "power" = some (some (.ref f28)))
    (l28 : K.lookup f28 = some ⟨oc28, od28, .func (PySem.W.fnOf "power" "power" (defArgs st_power) (defBody st_power) (defScope st_power) .none kV28 dc28 pm28 an28 cd28 ct28), sl28⟩) (c28 : PySem.W.codeIn K cd28 "power" = true) (k28 : PySem.W.keepIn K (.ref f28) = true)
    (a29_0 : PySem.W.nsIn K mainGlobals "composed" = some (some (.ref f29)))
    (l29 : K.lookup f29 = some ⟨oc29, od29, .func (PySem.W.fnOf "composed" "composed" (defArgs st_composed) (defBody st_composed) (defScope st_composed) .none kV29 dc29 pm29 an29 cd29 ct29), sl29⟩) (c29 : PySem.W.codeIn K cd29 "composed" = true) (k29 : PySem.W.keepIn K (.ref f29) = true)
    (a30_0 : PySem.W.nsIn K mainGlobals "_law_values_right" = some (some (.ref f30)))
    (l30 : K.lookup f30 = some ⟨oc30, od30, .func (PySem.W.fnOf "_law_values_right" "_law_values_right" (defArgs st__law_values_right) (defBody st__law_values_right) (defScope st__law_values_right) .none kV30 dc30 pm30 an30 cd30 ct30), sl30⟩) (c30 : PySem.W.codeIn K cd30 "_law_values_right" = true) (k30 : PySem.W.keepIn K (.ref f30) = true)
    (a31_0 : PySem.W.nsIn K mainGlobals "derived_rows" = some (some (.ref f31)))
    (l31 : K.lookup f31 = some ⟨oc31, od31, .func (PySem.W.fnOf "derived" "derived" (defArgs st_derived_rows) (defBody st_derived_rows) (defScope st_derived_rows) .none kV31 dc31 pm31 an31 cd31 ct31), sl31⟩) (c31 : PySem.W.codeIn K cd31 "derived" = true) (k31 : PySem.W.keepIn K (.ref f31) = true)
    (a32_0 : PySem.W.nsIn K mainGlobals "derived_polys" = some (some (.ref f32)))
    (l32 : K.lookup f32 = some ⟨oc32, od32, .func (PySem.W.fnOf "derived" "derived" (defArgs st_derived_polys) (defBody st_derived_polys) (defScope st_derived_polys) .none kV32 dc32 pm32 an32 cd32 ct32), sl32⟩) (c32 : PySem.W.codeIn K cd32 "derived" = true) (k32 : PySem.W.keepIn K (.ref f32) = true)
    (a33_0 : PySem.W.nsIn K mainGlobals "_law_fraction" = some (some (.ref f33)))
    (l33 : K.lookup f33 = some ⟨oc33, od33, .func (PySem.W.fnOf "_law_fraction" "_law_fraction" (defArgs st__law_fraction) (defBody st__law_fraction) (defScope st__law_fraction) .none kV33 dc33 pm33 an33 cd33 ct33), sl33⟩) (c33 : PySem.W.codeIn K cd33 "_law_fraction" = true) (k33 : PySem.W.keepIn K (.ref f33) = true)
    (a34_0 : PySem.W.nsIn K mainGlobals "over" = some (some (.ref f34)))
    (l34 : K.lookup f34 = some ⟨oc34, od34, .func (PySem.W.fnOf "over" "over" (defArgs st_over) (defBody st_over) (defScope st_over) .none kV34 dc34 pm34 an34 cd34 ct34), sl34⟩) (c34 : PySem.W.codeIn K cd34 "over" = true) (k34 : PySem.W.keepIn K (.ref f34) = true)
    (a35_0 : PySem.W.nsIn K mainGlobals "less_fractions" = some (some (.ref f35)))
    (l35 : K.lookup f35 = some ⟨oc35, od35, .func (PySem.W.fnOf "less" "less" (defArgs st_less_fractions) (defBody st_less_fractions) (defScope st_less_fractions) .none kV35 dc35 pm35 an35 cd35 ct35), sl35⟩) (c35 : PySem.W.codeIn K cd35 "less" = true) (k35 : PySem.W.keepIn K (.ref f35) = true)
    (a36_0 : PySem.W.nsIn K mainGlobals "through" = some (some (.ref f36)))
    (l36 : K.lookup f36 = some ⟨oc36, od36, .func (PySem.W.fnOf "through" "through" (defArgs st_through) (defBody st_through) (defScope st_through) .none kV36 dc36 pm36 an36 cd36 ct36), sl36⟩) (c36 : PySem.W.codeIn K cd36 "through" = true) (k36 : PySem.W.keepIn K (.ref f36) = true)
    (a37_0 : PySem.W.nsIn K mainGlobals "is_whole" = some (some (.ref f37)))
    (l37 : K.lookup f37 = some ⟨oc37, od37, .func (PySem.W.fnOf "is_whole" "is_whole" (defArgs st_is_whole) (defBody st_is_whole) (defScope st_is_whole) .none kV37 dc37 pm37 an37 cd37 ct37), sl37⟩) (c37 : PySem.W.codeIn K cd37 "is_whole" = true) (k37 : PySem.W.keepIn K (.ref f37) = true)
    (a38_0 : PySem.W.nsIn K mainGlobals "is_row" = some (some (.ref f38)))
    (l38 : K.lookup f38 = some ⟨oc38, od38, .func (PySem.W.fnOf "is_row" "is_row" (defArgs st_is_row) (defBody st_is_row) (defScope st_is_row) .none kV38 dc38 pm38 an38 cd38 ct38), sl38⟩) (c38 : PySem.W.codeIn K cd38 "is_row" = true) (k38 : PySem.W.keepIn K (.ref f38) = true)
    (a39_0 : PySem.W.nsIn K mainGlobals "is_poly" = some (some (.ref f39)))
    (l39 : K.lookup f39 = some ⟨oc39, od39, .func (PySem.W.fnOf "is_poly" "is_poly" (defArgs st_is_poly) (defBody st_is_poly) (defScope st_is_poly) .none kV39 dc39 pm39 an39 cd39 ct39), sl39⟩) (c39 : PySem.W.codeIn K cd39 "is_poly" = true) (k39 : PySem.W.keepIn K (.ref f39) = true)
    (a40_0 : PySem.W.nsIn K mainGlobals "_law_through_right" = some (some (.ref f40)))
    (l40 : K.lookup f40 = some ⟨oc40, od40, .func (PySem.W.fnOf "_law_through_right" "_law_through_right" (defArgs st__law_through_right) (defBody st__law_through_right) (defScope st__law_through_right) .none kV40 dc40 pm40 an40 cd40 ct40), sl40⟩) (c40 : PySem.W.codeIn K cd40 "_law_through_right" = true) (k40 : PySem.W.keepIn K (.ref f40) = true)
    (a41_0 : PySem.W.nsIn K mainGlobals "_law_put_in" = some (some (.ref f41)))
    (l41 : K.lookup f41 = some ⟨oc41, od41, .func (PySem.W.fnOf "_law_put_in" "_law_put_in" (defArgs st__law_put_in) (defBody st__law_put_in) (defScope st__law_put_in) .none kV41 dc41 pm41 an41 cd41 ct41), sl41⟩) (c41 : PySem.W.codeIn K cd41 "_law_put_in" = true) (k41 : PySem.W.keepIn K (.ref f41) = true)
    (a42_0 : PySem.W.nsIn K mainGlobals "law" = some (some (.ref f42)))
    (l42 : K.lookup f42 = some ⟨oc42, od42, .func (PySem.W.fnOf "law" "law" (defArgs st_law) (defBody st_law) (defScope st_law) .none kV42 dc42 pm42 an42 cd42 ct42), sl42⟩) (c42 : PySem.W.codeIn K cd42 "law" = true) (k42 : PySem.W.keepIn K (.ref f42) = true)
    {cE_ByNought : Addr} (eE_ByNought : PySem.W.nsIn K mainGlobals "ByNought" = some (some (.ref cE_ByNought)))
    (xE_ByNought : PySem.W.excIn K cE_ByNought [.type "ValueError", .type "Exception", .type "BaseException", .type "object"] "ValueError.__new__" = true) (uE_ByNought : PySem.W.keepIn K (.ref cE_ByNought) = true) (bE_ByNought : PySem.W.subIn K (.ref cE_ByNought) (.type "BaseException") = some true) (tE_ByNought : PySem.W.typeIn K (.ref cE_ByNought) = some (.type "type"))
    {qT0_0 : Addr} {qd0_0 : Option Addr} {qs0_0 : Array (Option Value)} {qn0_0 : Nat} {qT0_1 : Addr} {qd0_1 : Option Addr} {qs0_1 : Array (Option Value)} {qn0_1 : Nat} {qt0_2 : Tok} (q0 : PySem.W.nsIn K mainGlobals "NOUGHT" = some (some (.ref qT0_0))) (r0_0 : K.lookup qT0_0 = some ⟨.type "tuple", qd0_0, .seq #[(.ref qT0_1), (.int 1 qt0_2)] qn0_0, qs0_0⟩) (r0_1 : K.lookup qT0_1 = some ⟨.type "tuple", qd0_1, .seq #[] qn0_1, qs0_1⟩)
    {qT1_0 : Addr} {qd1_0 : Option Addr} {qs1_0 : Array (Option Value)} {qn1_0 : Nat} {qT1_1 : Addr} {qd1_1 : Option Addr} {qs1_1 : Array (Option Value)} {qn1_1 : Nat} {qt1_2 : Tok} {qt1_3 : Tok} (q1 : PySem.W.nsIn K mainGlobals "ONE" = some (some (.ref qT1_0))) (r1_0 : K.lookup qT1_0 = some ⟨.type "tuple", qd1_0, .seq #[(.ref qT1_1), (.int 1 qt1_3)] qn1_0, qs1_0⟩) (r1_1 : K.lookup qT1_1 = some ⟨.type "tuple", qd1_1, .seq #[(.int 1 qt1_2)] qn1_1, qs1_1⟩)
    (iD_i_dig : PySem.W.nsIn K cStatics "sys.int_max_str_digits" = some none)
    (z0 : PySem.W.nsIn K mainGlobals "abs" = some none) (z1 : PySem.W.nsIn K mainGlobals "all" = some none) (z2 : PySem.W.nsIn K mainGlobals "bool" = some none) (z3 : PySem.W.nsIn K mainGlobals "enumerate" = some none) (z4 : PySem.W.nsIn K mainGlobals "int" = some none) (z5 : PySem.W.nsIn K mainGlobals "isinstance" = some none) (z6 : PySem.W.nsIn K mainGlobals "len" = some none) (z7 : PySem.W.nsIn K mainGlobals "list" = some none) (z8 : PySem.W.nsIn K mainGlobals "max" = some none) (z9 : PySem.W.nsIn K mainGlobals "min" = some none) (z10 : PySem.W.nsIn K mainGlobals "range" = some none) (z11 : PySem.W.nsIn K mainGlobals "repr" = some none) (z12 : PySem.W.nsIn K mainGlobals "reversed" = some none) (z13 : PySem.W.nsIn K mainGlobals "tuple" = some none) (z14 : PySem.W.nsIn K mainGlobals "zip" = some none) :
    ∃ fd : FuncData, (∀ (s : Shared) (v : Value), BindsTo s fd ⟨[v], []⟩ [("_law_script", v)]) ∧ ∀ base : Heap, K.In base → base.Ns mainGlobals mg → FnG l.prog w K mg base (L2.CX l.prog w) 7 fa fd ["_law_script"] (spLaw K) := by
  have e := hfa.symm.trans (PySem.W.mg_of X G a42_0)
  cases e
  have D0_0 : Dfn K mg "_law_folded" "_law_folded" st__law_folded ["_law_script"] := ⟨_, _, fun_mk (st := st__law_folded) l0 c0 k0, PySem.W.mg_of X G a0_0, (fun_mk (st := st__law_folded) l0 c0 k0).binds (ps := ["_law_script"]) fun _ _ _ _ _ _ us hl => match us, hl with | [_], _ => rfl⟩
  have D1_0 : Dfn K mg "_law_begun" "_law_begun" st__law_begun ["_law_script"] := ⟨_, _, fun_mk (st := st__law_begun) l1 c1 k1, PySem.W.mg_of X G a1_0, (fun_mk (st := st__law_begun) l1 c1 k1).binds (ps := ["_law_script"]) fun _ _ _ _ _ _ us hl => match us, hl with | [_], _ => rfl⟩
  have D2_0 : Dfn K mg "common" "common" st_common ["one", "other"] := ⟨_, _, fun_mk (st := st_common) l2 c2 k2, PySem.W.mg_of X G a2_0, (fun_mk (st := st_common) l2 c2 k2).binds (ps := ["one", "other"]) fun _ _ _ _ _ _ us hl => match us, hl with | [_, _], _ => rfl⟩
  have D3_0 : Dfn K mg "content" "content" st_content ["row"] := ⟨_, _, fun_mk (st := st_content) l3 c3 k3, PySem.W.mg_of X G a3_0, (fun_mk (st := st_content) l3 c3 k3).binds (ps := ["row"]) fun _ _ _ _ _ _ us hl => match us, hl with | [_], _ => rfl⟩
  have G4 : FunD K "poly" "poly" (defArgs st_poly) (defBody st_poly) (defScope st_poly) (([1] : List Int).map V.int) [] f4 (PySem.W.fnOf "poly" "poly" (defArgs st_poly) (defBody st_poly) (defScope st_poly) (.ref T4) kV4 dc4 pm4 an4 cd4 ct4) := ⟨⟨_, _, _, _, _, _, _, _, _, _, rfl, l4, c4, .inr ⟨fun z => (nomatch z), T4, _, [.int 1 tk4_0], tn4, rfl, d4, rfl, .cons ⟨_, rfl⟩ (.nil)⟩, .inl rfl⟩, k4⟩
  have D4_0 : DfD K mg "poly" "poly" st_poly ["row", "d"] [1] := ⟨_, _, G4, PySem.W.mg_of X G a4_0, fun j hj => match j, hj with | 0, _ => G4.binds1 (ps := ["row", "d"]) 1 0 (fun z => nomatch z) rfl (fun _ _ _ _ _ _ _ us its hu hi => (match us, hu, its, hi with | [_], _, [_], _ => ⟨_, rfl, rfl⟩)) | 1, _ => G4.binds1 (ps := ["row", "d"]) 2 1 (fun z => nomatch z) rfl (fun _ _ _ _ _ _ _ us its hu hi => (match us, hu, its, hi with | [_, _], _, [_], _ => ⟨_, rfl, rfl⟩))⟩
  have D5_0 : Dfn K mg "row_of" "row_of" st_row_of ["numbers"] := ⟨_, _, fun_mk (st := st_row_of) l5 c5 k5, PySem.W.mg_of X G a5_0, (fun_mk (st := st_row_of) l5 c5 k5).binds (ps := ["numbers"]) fun _ _ _ _ _ _ us hl => match us, hl with | [_], _ => rfl⟩
  have D6_0 : Dfn K mg "at_size" "at_size" st_at_size ["row", "size"] := ⟨_, _, fun_mk (st := st_at_size) l6 c6 k6, PySem.W.mg_of X G a6_0, (fun_mk (st := st_at_size) l6 c6 k6).binds (ps := ["row", "size"]) fun _ _ _ _ _ _ us hl => match us, hl with | [_, _], _ => rfl⟩
  have D7_0 : Dfn K mg "plus_rows" "plus" st_plus_rows ["one", "other"] := ⟨_, _, fun_mk (st := st_plus_rows) l7 c7 k7, PySem.W.mg_of X G a7_0, (fun_mk (st := st_plus_rows) l7 c7 k7).binds (ps := ["one", "other"]) fun _ _ _ _ _ _ us hl => match us, hl with | [_, _], _ => rfl⟩
  have D8_0 : Dfn K mg "scaled_rows" "scaled" st_scaled_rows ["row", "number"] := ⟨_, _, fun_mk (st := st_scaled_rows) l8 c8 k8, PySem.W.mg_of X G a8_0, (fun_mk (st := st_scaled_rows) l8 c8 k8).binds (ps := ["row", "number"]) fun _ _ _ _ _ _ us hl => match us, hl with | [_, _], _ => rfl⟩
  have D9_0 : Dfn K mg "plus_polys" "plus" st_plus_polys ["one", "other"] := ⟨_, _, fun_mk (st := st_plus_polys) l9 c9 k9, PySem.W.mg_of X G a9_0, (fun_mk (st := st_plus_polys) l9 c9 k9).binds (ps := ["one", "other"]) fun _ _ _ _ _ _ us hl => match us, hl with | [_, _], _ => rfl⟩
  have D10_0 : Dfn K mg "_law_common" "_law_common" st__law_common ["_law_numbers"] := ⟨_, _, fun_mk (st := st__law_common) l10 c10 k10, PySem.W.mg_of X G a10_0, (fun_mk (st := st__law_common) l10 c10 k10).binds (ps := ["_law_numbers"]) fun _ _ _ _ _ _ us hl => match us, hl with | [_], _ => rfl⟩
  have D11_0 : Dfn K mg "_law_poly" "_law_poly" st__law_poly ["_law_row_here", "_law_below"] := ⟨_, _, fun_mk (st := st__law_poly) l11 c11 k11, PySem.W.mg_of X G a11_0, (fun_mk (st := st__law_poly) l11 c11 k11).binds (ps := ["_law_row_here", "_law_below"]) fun _ _ _ _ _ _ us hl => match us, hl with | [_, _], _ => rfl⟩
  have D12_0 : Dfn K mg "_law_cut" "_law_cut" st__law_cut ["_law_numbers"] := ⟨_, _, fun_mk (st := st__law_cut) l12 c12 k12, PySem.W.mg_of X G a12_0, (fun_mk (st := st__law_cut) l12 c12 k12).binds (ps := ["_law_numbers"]) fun _ _ _ _ _ _ us hl => match us, hl with | [_], _ => rfl⟩
  have D13_0 : Dfn K mg "_law_mixed" "_law_mixed" st__law_mixed ["_law_cell", "_law_k"] := ⟨_, _, fun_mk (st := st__law_mixed) l13 c13 k13, PySem.W.mg_of X G a13_0, (fun_mk (st := st__law_mixed) l13 c13 k13).binds (ps := ["_law_cell", "_law_k"]) fun _ _ _ _ _ _ us hl => match us, hl with | [_, _], _ => rfl⟩
  have D14_0 : Dfn K mg "_law_draw" "_law_draw" st__law_draw ["_law_m", "_law_many"] := ⟨_, _, fun_mk (st := st__law_draw) l14 c14 k14, PySem.W.mg_of X G a14_0, (fun_mk (st := st__law_draw) l14 c14 k14).binds (ps := ["_law_m", "_law_many"]) fun _ _ _ _ _ _ us hl => match us, hl with | [_, _], _ => rfl⟩
  have D15_0 : Dfn K mg "_law_whole" "_law_whole" st__law_whole ["_law_m"] := ⟨_, _, fun_mk (st := st__law_whole) l15 c15 k15, PySem.W.mg_of X G a15_0, (fun_mk (st := st__law_whole) l15 c15 k15).binds (ps := ["_law_m"]) fun _ _ _ _ _ _ us hl => match us, hl with | [_], _ => rfl⟩
  have D16_0 : Dfn K mg "_law_row" "_law_row" st__law_row ["_law_m", "_law_most"] := ⟨_, _, fun_mk (st := st__law_row) l16 c16 k16, PySem.W.mg_of X G a16_0, (fun_mk (st := st__law_row) l16 c16 k16).binds (ps := ["_law_m", "_law_most"]) fun _ _ _ _ _ _ us hl => match us, hl with | [_, _], _ => rfl⟩
  have D17_0 : Dfn K mg "_law_drawn" "_law_drawn" st__law_drawn ["_law_m", "_law_most"] := ⟨_, _, fun_mk (st := st__law_drawn) l17 c17 k17, PySem.W.mg_of X G a17_0, (fun_mk (st := st__law_drawn) l17 c17 k17).binds (ps := ["_law_m", "_law_most"]) fun _ _ _ _ _ _ us hl => match us, hl with | [_, _], _ => rfl⟩
  have D18_0 : Dfn K mg "_law_lowest" "_law_lowest" st__law_lowest ["_law_n", "_law_d"] := ⟨_, _, fun_mk (st := st__law_lowest) l18 c18 k18, PySem.W.mg_of X G a18_0, (fun_mk (st := st__law_lowest) l18 c18 k18).binds (ps := ["_law_n", "_law_d"]) fun _ _ _ _ _ _ us hl => match us, hl with | [_, _], _ => rfl⟩
  have D19_0 : Dfn K mg "_law_value" "_law_value" st__law_value ["_law_one", "_law_at"] := ⟨_, _, fun_mk (st := st__law_value) l19 c19 k19, PySem.W.mg_of X G a19_0, (fun_mk (st := st__law_value) l19 c19 k19).binds (ps := ["_law_one", "_law_at"]) fun _ _ _ _ _ _ us hl => match us, hl with | [_, _], _ => rfl⟩
  have G20 : FunD K "fraction" "fraction" (defArgs st_fraction) (defBody st_fraction) (defScope st_fraction) (([1] : List Int).map V.int) [] f20 (PySem.W.fnOf "fraction" "fraction" (defArgs st_fraction) (defBody st_fraction) (defScope st_fraction) (.ref T20) kV20 dc20 pm20 an20 cd20 ct20) := ⟨⟨_, _, _, _, _, _, _, _, _, _, rfl, l20, c20, .inr ⟨fun z => (nomatch z), T20, _, [.int 1 tk20_0], tn20, rfl, d20, rfl, .cons ⟨_, rfl⟩ (.nil)⟩, .inl rfl⟩, k20⟩
  have D20_0 : DfD K mg "fraction" "fraction" st_fraction ["n", "d"] [1] := ⟨_, _, G20, PySem.W.mg_of X G a20_0, fun j hj => match j, hj with | 0, _ => G20.binds1 (ps := ["n", "d"]) 1 0 (fun z => nomatch z) rfl (fun _ _ _ _ _ _ _ us its hu hi => (match us, hu, its, hi with | [_], _, [_], _ => ⟨_, rfl, rfl⟩)) | 1, _ => G20.binds1 (ps := ["n", "d"]) 2 1 (fun z => nomatch z) rfl (fun _ _ _ _ _ _ _ us its hu hi => (match us, hu, its, hi with | [_, _], _, [_], _ => ⟨_, rfl, rfl⟩))⟩
  have D21_0 : Dfn K mg "value_rows" "value" st_value_rows ["row", "at"] := ⟨_, _, fun_mk (st := st_value_rows) l21 c21 k21, PySem.W.mg_of X G a21_0, (fun_mk (st := st_value_rows) l21 c21 k21).binds (ps := ["row", "at"]) fun _ _ _ _ _ _ us hl => match us, hl with | [_, _], _ => rfl⟩
  have D22_0 : Dfn K mg "value_polys" "value" st_value_polys ["one", "at"] := ⟨_, _, fun_mk (st := st_value_polys) l22 c22 k22, PySem.W.mg_of X G a22_0, (fun_mk (st := st_value_polys) l22 c22 k22).binds (ps := ["one", "at"]) fun _ _ _ _ _ _ us hl => match us, hl with | [_, _], _ => rfl⟩
  have D23_0 : Dfn K mg "_law_reckoned" "_law_reckoned" st__law_reckoned ["_law_one", "_law_other", "_law_sort"] := ⟨_, _, fun_mk (st := st__law_reckoned) l23 c23 k23, PySem.W.mg_of X G a23_0, (fun_mk (st := st__law_reckoned) l23 c23 k23).binds (ps := ["_law_one", "_law_other", "_law_sort"]) fun _ _ _ _ _ _ us hl => match us, hl with | [_, _, _], _ => rfl⟩
  have D24_0 : Dfn K mg "scaled_polys" "scaled" st_scaled_polys ["one", "number"] := ⟨_, _, fun_mk (st := st_scaled_polys) l24 c24 k24, PySem.W.mg_of X G a24_0, (fun_mk (st := st_scaled_polys) l24 c24 k24).binds (ps := ["one", "number"]) fun _ _ _ _ _ _ us hl => match us, hl with | [_, _], _ => rfl⟩
  have D25_0 : Dfn K mg "less_polys" "less" st_less_polys ["one", "other"] := ⟨_, _, fun_mk (st := st_less_polys) l25 c25 k25, PySem.W.mg_of X G a25_0, (fun_mk (st := st_less_polys) l25 c25 k25).binds (ps := ["one", "other"]) fun _ _ _ _ _ _ us hl => match us, hl with | [_, _], _ => rfl⟩
  have D26_0 : Dfn K mg "times_rows" "times" st_times_rows ["one", "other"] := ⟨_, _, fun_mk (st := st_times_rows) l26 c26 k26, PySem.W.mg_of X G a26_0, (fun_mk (st := st_times_rows) l26 c26 k26).binds (ps := ["one", "other"]) fun _ _ _ _ _ _ us hl => match us, hl with | [_, _], _ => rfl⟩
  have D27_0 : Dfn K mg "times_polys" "times" st_times_polys ["one", "other"] := ⟨_, _, fun_mk (st := st_times_polys) l27 c27 k27, PySem.W.mg_of X G a27_0, (fun_mk (st := st_times_polys) l27 c27 k27).binds (ps := ["one", "other"]) fun _ _ _ _ _ _ us hl => match us, hl with | [_, _], _ => rfl⟩
  have D28_0 : Dfn K mg "power" "power" st_power ["one", "n"] := ⟨_, _, fun_mk (st := st_power) l28 c28 k28, PySem.W.mg_of X G a28_0, (fun_mk (st := st_power) l28 c28 k28).binds (ps := ["one", "n"]) fun _ _ _ _ _ _ us hl => match us, hl with | [_, _], _ => rfl⟩
  have D29_0 : Dfn K mg "composed" "composed" st_composed ["one", "other"] := ⟨_, _, fun_mk (st := st_composed) l29 c29 k29, PySem.W.mg_of X G a29_0, (fun_mk (st := st_composed) l29 c29 k29).binds (ps := ["one", "other"]) fun _ _ _ _ _ _ us hl => match us, hl with | [_, _], _ => rfl⟩
  have D30_0 : Dfn K mg "_law_values_right" "_law_values_right" st__law_values_right ["_law_one", "_law_other", "_law_at", "_law_n"] := ⟨_, _, fun_mk (st := st__law_values_right) l30 c30 k30, PySem.W.mg_of X G a30_0, (fun_mk (st := st__law_values_right) l30 c30 k30).binds (ps := ["_law_one", "_law_other", "_law_at", "_law_n"]) fun _ _ _ _ _ _ us hl => match us, hl with | [_, _, _, _], _ => rfl⟩
  have D31_0 : Dfn K mg "derived_rows" "derived" st_derived_rows ["row"] := ⟨_, _, fun_mk (st := st_derived_rows) l31 c31 k31, PySem.W.mg_of X G a31_0, (fun_mk (st := st_derived_rows) l31 c31 k31).binds (ps := ["row"]) fun _ _ _ _ _ _ us hl => match us, hl with | [_], _ => rfl⟩
  have D32_0 : Dfn K mg "derived_polys" "derived" st_derived_polys ["one"] := ⟨_, _, fun_mk (st := st_derived_polys) l32 c32 k32, PySem.W.mg_of X G a32_0, (fun_mk (st := st_derived_polys) l32 c32 k32).binds (ps := ["one"]) fun _ _ _ _ _ _ us hl => match us, hl with | [_], _ => rfl⟩
  have D33_0 : Dfn K mg "_law_fraction" "_law_fraction" st__law_fraction ["_law_m"] := ⟨_, _, fun_mk (st := st__law_fraction) l33 c33 k33, PySem.W.mg_of X G a33_0, (fun_mk (st := st__law_fraction) l33 c33 k33).binds (ps := ["_law_m"]) fun _ _ _ _ _ _ us hl => match us, hl with | [_], _ => rfl⟩
  have D34_0 : Dfn K mg "over" "over" st_over ["one", "other"] := ⟨_, _, fun_mk (st := st_over) l34 c34 k34, PySem.W.mg_of X G a34_0, (fun_mk (st := st_over) l34 c34 k34).binds (ps := ["one", "other"]) fun _ _ _ _ _ _ us hl => match us, hl with | [_, _], _ => rfl⟩
  have D35_0 : Dfn K mg "less_fractions" "less" st_less_fractions ["one", "other"] := ⟨_, _, fun_mk (st := st_less_fractions) l35 c35 k35, PySem.W.mg_of X G a35_0, (fun_mk (st := st_less_fractions) l35 c35 k35).binds (ps := ["one", "other"]) fun _ _ _ _ _ _ us hl => match us, hl with | [_, _], _ => rfl⟩
  have D36_0 : Dfn K mg "through" "through" st_through ["points"] := ⟨_, _, fun_mk (st := st_through) l36 c36 k36, PySem.W.mg_of X G a36_0, (fun_mk (st := st_through) l36 c36 k36).binds (ps := ["points"]) fun _ _ _ _ _ _ us hl => match us, hl with | [_], _ => rfl⟩
  have D37_0 : Dfn K mg "is_whole" "is_whole" st_is_whole ["thing"] := ⟨_, _, fun_mk (st := st_is_whole) l37 c37 k37, PySem.W.mg_of X G a37_0, (fun_mk (st := st_is_whole) l37 c37 k37).binds (ps := ["thing"]) fun _ _ _ _ _ _ us hl => match us, hl with | [_], _ => rfl⟩
  have D38_0 : Dfn K mg "is_row" "is_row" st_is_row ["thing"] := ⟨_, _, fun_mk (st := st_is_row) l38 c38 k38, PySem.W.mg_of X G a38_0, (fun_mk (st := st_is_row) l38 c38 k38).binds (ps := ["thing"]) fun _ _ _ _ _ _ us hl => match us, hl with | [_], _ => rfl⟩
  have D39_0 : Dfn K mg "is_poly" "is_poly" st_is_poly ["thing"] := ⟨_, _, fun_mk (st := st_is_poly) l39 c39 k39, PySem.W.mg_of X G a39_0, (fun_mk (st := st_is_poly) l39 c39 k39).binds (ps := ["thing"]) fun _ _ _ _ _ _ us hl => match us, hl with | [_], _ => rfl⟩
  have D40_0 : Dfn K mg "_law_through_right" "_law_through_right" st__law_through_right ["_law_points"] := ⟨_, _, fun_mk (st := st__law_through_right) l40 c40 k40, PySem.W.mg_of X G a40_0, (fun_mk (st := st__law_through_right) l40 c40 k40).binds (ps := ["_law_points"]) fun _ _ _ _ _ _ us hl => match us, hl with | [_], _ => rfl⟩
  have D41_0 : Dfn K mg "_law_put_in" "_law_put_in" st__law_put_in ["_law_one", "_law_other"] := ⟨_, _, fun_mk (st := st__law_put_in) l41 c41 k41, PySem.W.mg_of X G a41_0, (fun_mk (st := st__law_put_in) l41 c41 k41).binds (ps := ["_law_one", "_law_other"]) fun _ _ _ _ _ _ us hl => match us, hl with | [_, _], _ => rfl⟩
  exact ⟨PySem.W.fnOf "law" "law" (defArgs st_law) (defBody st_law) (defScope st_law) .none kV42 dc42 pm42 an42 cd42 ct42, fun s v => .of_eq rfl, fun base _ _ => ok_law (fun_mk (st := st_law) l42 c42 k42) D0_0 D1_0 D2_0 D3_0 D4_0 D5_0 D6_0 D7_0 D8_0 D9_0 D10_0 D11_0 D12_0 D13_0 D14_0 D15_0 D16_0 D17_0 D18_0 D19_0 D20_0 D21_0 D22_0 D23_0 D24_0 D25_0 D26_0 D27_0 D28_0 D29_0 D30_0 D31_0 D32_0 D33_0 D34_0 D35_0 D36_0 D37_0 D38_0 D39_0 D40_0 D41_0  (PySem.W.mg_none_of X G z0) (PySem.W.mg_none_of X G z1) (PySem.W.mg_none_of X G z2) (PySem.W.mg_none_of X G z3) (PySem.W.mg_none_of X G z4) (PySem.W.mg_none_of X G z5) (PySem.W.mg_none_of X G z6) (PySem.W.mg_none_of X G z7) (PySem.W.mg_none_of X G z8) (PySem.W.mg_none_of X G z9) (PySem.W.mg_none_of X G z10) (PySem.W.mg_none_of X G z11) (PySem.W.mg_none_of X G z12) (PySem.W.mg_none_of X G z13) (PySem.W.mg_none_of X G z14) ⟨cE_ByNought, _, _, _, PySem.F.excBase_ValueError, PySem.W.mg_of X G eE_ByNought, xE_ByNought, uE_ByNought, bE_ByNought, tE_ByNought⟩ ⟨_, _, PySem.W.mg_of X G q0, (r_ref _), (.tup (.inr ⟨_, _, _, r0_0, rfl, rfl, small_line (Nat.le_of_ble_eq_true rfl), (.cons (r_ref _) (.cons (r_int _ _) .nil))⟩) (.cons (.tup (.inr ⟨_, _, _, r0_1, rfl, rfl, small_line (Nat.le_of_ble_eq_true rfl), .nil⟩) .nil) (.cons (.int _) .nil)))⟩ ⟨_, _, PySem.W.mg_of X G q1, (r_ref _), (.tup (.inr ⟨_, _, _, r1_0, rfl, rfl, small_line (Nat.le_of_ble_eq_true rfl), (.cons (r_ref _) (.cons (r_int _ _) .nil))⟩) (.cons (.tup (.inr ⟨_, _, _, r1_1, rfl, rfl, small_line (Nat.le_of_ble_eq_true rfl), (.cons (r_int _ _) .nil)⟩) (.cons (.int _) .nil)) (.cons (.int _) .nil)))⟩ iD_i_dig⟩
end RR
open PySem PySem.W PyProof.Rows
set_option maxHeartbeats 0 in
theorem PySem.Challenge.cw_rootring_k06_whole_values_go_with_all_holds : PySem.Challenge.rw_rootring_k06_whole_values_go_with_all.Holds := by
  w_on; o_law; k_head; (case hw => w_witness2)
  k_fill
  refine RR.walk_ofG (l := PySem.Challenge.rw_rootring_k06_whole_values_go_with_all) (n := 63) (k := 7) (x := "_law_script") (C := fun w => L2.CX PySem.Challenge.pw_rootring_k06_whole_values_go_with_all w) (sp := fun w => RR.spLaw _) rfl (by decide) rfl ⟨rfl, by decide, by decide⟩ (fun w h Y => PySem.W.kIn_of Y) ?F (fun _ _ a ns hl hS => ⟨a, ns, rfl, hS, hl, fun _ => rfl⟩) (fun _ _ _ _ _ h => by obtain ⟨_, _, _, _, _, _, _, _, _, _, _, _, z⟩ := h; exact z)
  case F =>
    intro w mg fa h KX G hmg
    refine' RR.all_mk KX G hmg ?a0_0 ?l0 ?c0 ?k0 ?a1_0 ?l1 ?c1 ?k1 ?a2_0 ?l2 ?c2 ?k2 ?a3_0 ?l3 ?c3 ?k3 ?a4_0 ?l4 ?c4 ?k4 ?d4 ?a5_0 ?l5 ?c5 ?k5 ?a6_0 ?l6 ?c6 ?k6 ?a7_0 ?l7 ?c7 ?k7 ?a8_0 ?l8 ?c8 ?k8 ?a9_0 ?l9 ?c9 ?k9 ?a10_0 ?l10 ?c10 ?k10 ?a11_0 ?l11 ?c11 ?k11 ?a12_0 ?l12 ?c12 ?k12 ?a13_0 ?l13 ?c13 ?k13 ?a14_0 ?l14 ?c14 ?k14 ?a15_0 ?l15 ?c15 ?k15 ?a16_0 ?l16 ?c16 ?k16 ?a17_0 ?l17 ?c17 ?k17 ?a18_0 ?l18 ?c18 ?k18 ?a19_0 ?l19 ?c19 ?k19 ?a20_0 ?l20 ?c20 ?k20 ?d20 ?a21_0 ?l21 ?c21 ?k21 ?a22_0 ?l22 ?c22 ?k22 ?a23_0 ?l23 ?c23 ?k23 ?a24_0 ?l24 ?c24 ?k24 ?a25_0 ?l25 ?c25 ?k25 ?a26_0 ?l26 ?c26 ?k26 ?a27_0 ?l27 ?c27 ?k27 ?a28_0 ?l28 ?c28 ?k28 ?a29_0 ?l29 ?c29 ?k29 ?a30_0 ?l30 ?c30 ?k30 ?a31_0 ?l31 ?c31 ?k31 ?a32_0 ?l32 ?c32 ?k32 ?a33_0 ?l33 ?c33 ?k33 ?a34_0 ?l34 ?c34 ?k34 ?a35_0 ?l35 ?c35 ?k35 ?a36_0 ?l36 ?c36 ?k36 ?a37_0 ?l37 ?c37 ?k37 ?a38_0 ?l38 ?c38 ?k38 ?a39_0 ?l39 ?c39 ?k39 ?a40_0 ?l40 ?c40 ?k40 ?a41_0 ?l41 ?c41 ?k41 ?a42_0 ?l42 ?c42 ?k42 ?eE_ByNought ?xE_ByNought ?uE_ByNought ?bE_ByNought ?tE_ByNought ?q0 ?r0_0 ?r0_1 ?q1 ?r1_0 ?r1_1 ?iD_i_dig ?z0 ?z1 ?z2 ?z3 ?z4 ?z5 ?z6 ?z7 ?z8 ?z9 ?z10 ?z11 ?z12 ?z13 ?z14
    (case a0_0 => k_is); (case l0 => k_is); (case c0 => k_is); (case k0 => k_is); (case a1_0 => k_is); (case l1 => k_is); (case c1 => k_is); (case k1 => k_is); (case a2_0 => k_is); (case l2 => k_is); (case c2 => k_is); (case k2 => k_is); (case a3_0 => k_is); (case l3 => k_is); (case c3 => k_is); (case k3 => k_is); (case a4_0 => k_is); (case l4 => k_is); (case c4 => k_is); (case k4 => k_is); (case d4 => k_is); (case a5_0 => k_is); (case l5 => k_is); (case c5 => k_is); (case k5 => k_is); (case a6_0 => k_is); (case l6 => k_is); (case c6 => k_is); (case k6 => k_is); (case a7_0 => k_is); (case l7 => k_is); (case c7 => k_is); (case k7 => k_is); (case a8_0 => k_is); (case l8 => k_is); (case c8 => k_is); (case k8 => k_is); (case a9_0 => k_is); (case l9 => k_is); (case c9 => k_is); (case k9 => k_is); (case a10_0 => k_is); (case l10 => k_is); (case c10 => k_is); (case k10 => k_is); (case a11_0 => k_is); (case l11 => k_is); (case c11 => k_is); (case k11 => k_is); (case a12_0 => k_is); (case l12 => k_is); (case c12 => k_is); (case k12 => k_is); (case a13_0 => k_is); (case l13 => k_is); (case c13 => k_is); (case k13 => k_is); (case a14_0 => k_is); (case l14 => k_is); (case c14 => k_is); (case k14 => k_is); (case a15_0 => k_is); (case l15 => k_is); (case c15 => k_is); (case k15 => k_is); (case a16_0 => k_is); (case l16 => k_is); (case c16 => k_is); (case k16 => k_is); (case a17_0 => k_is); (case l17 => k_is); (case c17 => k_is); (case k17 => k_is); (case a18_0 => k_is); (case l18 => k_is); (case c18 => k_is); (case k18 => k_is); (case a19_0 => k_is); (case l19 => k_is); (case c19 => k_is); (case k19 => k_is); (case a20_0 => k_is); (case l20 => k_is); (case c20 => k_is); (case k20 => k_is); (case d20 => k_is); (case a21_0 => k_is); (case l21 => k_is); (case c21 => k_is); (case k21 => k_is); (case a22_0 => k_is); (case l22 => k_is); (case c22 => k_is); (case k22 => k_is); (case a23_0 => k_is); (case l23 => k_is); (case c23 => k_is); (case k23 => k_is); (case a24_0 => k_is); (case l24 => k_is); (case c24 => k_is); (case k24 => k_is); (case a25_0 => k_is); (case l25 => k_is); (case c25 => k_is); (case k25 => k_is); (case a26_0 => k_is); (case l26 => k_is); (case c26 => k_is); (case k26 => k_is); (case a27_0 => k_is); (case l27 => k_is); (case c27 => k_is); (case k27 => k_is); (case a28_0 => k_is); (case l28 => k_is); (case c28 => k_is); (case k28 => k_is); (case a29_0 => k_is); (case l29 => k_is); (case c29 => k_is); (case k29 => k_is); (case a30_0 => k_is); (case l30 => k_is); (case c30 => k_is); (case k30 => k_is); (case a31_0 => k_is); (case l31 => k_is); (case c31 => k_is); (case k31 => k_is); (case a32_0 => k_is); (case l32 => k_is); (case c32 => k_is); (case k32 => k_is); (case a33_0 => k_is); (case l33 => k_is); (case c33 => k_is); (case k33 => k_is); (case a34_0 => k_is); (case l34 => k_is); (case c34 => k_is); (case k34 => k_is); (case a35_0 => k_is); (case l35 => k_is); (case c35 => k_is); (case k35 => k_is); (case a36_0 => k_is); (case l36 => k_is); (case c36 => k_is); (case k36 => k_is); (case a37_0 => k_is); (case l37 => k_is); (case c37 => k_is); (case k37 => k_is); (case a38_0 => k_is); (case l38 => k_is); (case c38 => k_is); (case k38 => k_is); (case a39_0 => k_is); (case l39 => k_is); (case c39 => k_is); (case k39 => k_is); (case a40_0 => k_is); (case l40 => k_is); (case c40 => k_is); (case k40 => k_is); (case a41_0 => k_is); (case l41 => k_is); (case c41 => k_is); (case k41 => k_is); (case a42_0 => k_is); (case l42 => k_is); (case c42 => k_is); (case k42 => k_is); (case eE_ByNought => k_is); (case xE_ByNought => k_exc); (case uE_ByNought => k_is); (case bE_ByNought => k_is); (case tE_ByNought => k_is); (case q0 => k_is); (case r0_0 => k_is); (case r0_1 => k_is); (case q1 => k_is); (case r1_0 => k_is); (case r1_1 => k_is); (case iD_i_dig => k_is); (case z0 => k_is); (case z1 => k_is); (case z2 => k_is); (case z3 => k_is); (case z4 => k_is); (case z5 => k_is); (case z6 => k_is); (case z7 => k_is); (case z8 => k_is); (case z9 => k_is); (case z10 => k_is); (case z11 => k_is); (case z12 => k_is); (case z13 => k_is); (case z14 => k_is)
