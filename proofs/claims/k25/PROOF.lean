import PyProof.Rows.All
import Wide.All
import OpenK.AllK
import Wide.FinOn
import HandS.CallSlots
import HandS.Conv
import HandS.Deep
import HandS.Defaults
import HandS.EndTab
import HandS.Ends
import HandS.ExcIs
import HandS.ExcOwn
import HandS.FStrTup
import HandS.ForExc
import HandS.ForMost
import HandS.IsInst
import HandS.Lambda
import HandS.RaiseMore
import HandS.Rev
import HandS.RevRange
import HandS.Style
import HandS.Text
import HandS.TryOnly
import HandS.TupAny
import HandS.TupMul
import HandS.Walk
import HandS.Wide
import HandS.WordsExc
import HandS.Zip
import HandS.Zip0
import KE.KNestM
import KE.KRevSl
import PyProof.Draws
import PyProof.EnumMake
import PyProof.ReprRoads
import PyProof.Draws
import PyProof.EnumMake
import PyProof.ExcBaseAll.ValueError
import PySem.Challenge.RW_rootring_k25_rows_without_factors
set_option Elab.async false
set_option linter.all false
set_option maxRecDepth 100000
set_option maxHeartbeats 4000000
set_option exponentiation.threshold 20000
/-! RA: data, what it stands for in the heap, the state of a def's body as data -/
namespace RR
open PySem PySem.Spec PyProof.Rows L2

/-- data -/
inductive D where
  | non | bl (b : Bool) | int (i : Int) | str (s : Str) | tup (xs : List D) | lst (xs : List D) | hnd (n : Nat) | dic | exc (x : Str) | fn (x : Str) | ptr (a : Addr)
  deriving Inhabited

mutual
/-- no list stands within -/
def D.nl : D → Bool
  | .lst _ => false
  | .dic => false
  | .tup xs => D.nls xs
  | _ => true
def D.nls : List D → Bool
  | [] => true
  | x :: r => x.nl && D.nls r
end

def IsT : HO → Prop
  | .tup _ => True
  | .ext _ => True
  | _ => False
def IsL : HO → Prop
  | .lst _ => True
  | .dK _ => True
  | _ => False
def KT (K : PySem.W.Frag) (a : Addr) (xs : List V) : Prop :=
  ∃ (o : Obj) (its : Array Value) (n : Nat), K.lookup a = some o ∧ o.cls = .type "tuple" ∧ o.data = .seq its n ∧ its.size ≤ sizeLine ∧ Vals xs its.toList
def Tp (K : PySem.W.Frag) (G : Hp) (a : Addr) (xs : List V) : Prop := G a = some (.tup xs) ∨ KT K a xs
def Ls : Bool → PySem.W.Frag → Hp → Addr → List V → Prop
  | true, _, G, a, xs => G a = some (.lst xs)
  | false, K, G, a, xs => SqL K G a xs
/-- an exception of the class at C stands at a, its own dict not yet made -/
def ExI (C a : Addr) : HO := .ext fun h => PySem.W.InstAt h a ((h.get? a).getD default) C none
/-- the module's name x is the class at C -/
def NsC (K : PySem.W.Frag) (x : Str) (C : Addr) : Prop := PySem.W.nsIn K mainGlobals x = some (some (.ref C))
mutual
/-- the value v is the data d; s: lists are tracked ones alone -/
inductive Dn (s : Bool) (K : PySem.W.Frag) (F : List Addr) (G : Hp) : V → D → Prop
  | non : Dn s K F G .non .non
  | bl (b : Bool) : Dn s K F G (.bl b) (.bl b)
  | int (i : Int) : Dn s K F G (.int i) (.int i)
  | str (x : Str) : Dn s K F G (.str x) (.str x)
  | tup {a : Addr} {xs : List V} {ds : List D} : Tp K G a xs → DnA s K F G xs ds → Dn s K F G (.ref a) (.tup ds)
  | lst {a : Addr} {xs : List V} {ds : List D} : Ls s K G a xs → DnA s K F G xs ds → Dn s K F G (.ref a) (.lst ds)
  | hnd {n : Nat} {a : Addr} : F[n]? = some a → Dn s K F G (.ref a) (.hnd n)
  | dic {a : Addr} : G a = some (.dK []) → Dn s K F G (.ref a) .dic
  | exc {x : Str} {a C : Addr} : G a = some (ExI C a) → NsC K x C → Dn s K F G (.ref a) (.exc x)
  | fn {x : Str} {a : Addr} : NsC K x a → Dn s K F G (.ref a) (.fn x)
  | ptr {a : Addr} : Dn s K F G (.ref a) (.ptr a)
inductive DnA (s : Bool) (K : PySem.W.Frag) (F : List Addr) (G : Hp) : List V → List D → Prop
  | nil : DnA s K F G [] []
  | cons {v : V} {vs : List V} {d : D} {ds : List D} : Dn s K F G v d → DnA s K F G vs ds → DnA s K F G (v :: vs) (d :: ds)
end
section
variable {s : Bool} {K : PySem.W.Frag} {F F' : List Addr} {G G' : Hp}
theorem Tp.sq {a : Addr} {xs : List V} (h : Tp K G a xs) : SqT K G a xs := h.elim (fun h => .inl (.inl h)) .inr
theorem Ls.sq {a : Addr} {xs : List V} (h : Ls s K G a xs) : SqL K G a xs := by
  cases s with
  | true => exact .inl (.inl h)
  | false => exact h
theorem Tp.mono (hG : ∀ a xs, G a = some (.tup xs) → G' a = some (.tup xs)) {a : Addr} {xs : List V} (h : Tp K G a xs) : Tp K G' a xs := h.imp (hG a xs) id
theorem Ls.mono (hG : ∀ a o, G a = some o → G' a = some o) {a : Addr} {xs : List V} (h : Ls s K G a xs) : Ls s K G' a xs := by
  cases s with
  | true => exact hG _ _ h
  | false => exact Same.seq (H := G) (H' := G') hG h
mutual
theorem Dn.mono (hF : ∃ F1, F' = F ++ F1) (hG : ∀ a o, G a = some o → G' a = some o) : ∀ {v : V} {d : D}, Dn s K F G v d → Dn s K F' G' v d
  | _, _, .non => .non
  | _, _, .bl b => .bl b
  | _, _, .int i => .int i
  | _, _, .str x => .str x
  | _, _, .tup h r => .tup (h.mono fun a xs => hG a _) (DnA.mono hF hG r)
  | _, _, .lst h r => .lst (h.mono hG) (DnA.mono hF hG r)
  | _, _, .hnd h => .hnd (by obtain ⟨F1, rfl⟩ := hF; rw [List.getElem?_append_left (List.getElem?_eq_some_iff.mp h).1]; exact h)
  | _, _, .dic h => .dic (hG _ _ h)
  | _, _, .exc h n => .exc (hG _ _ h) n
  | _, _, .fn h => .fn h
  | _, _, .ptr => .ptr
theorem DnA.mono (hF : ∃ F1, F' = F ++ F1) (hG : ∀ a o, G a = some o → G' a = some o) : ∀ {vs : List V} {ds : List D}, DnA s K F G vs ds → DnA s K F' G' vs ds
  | _, _, .nil => .nil
  | _, _, .cons h r => .cons (Dn.mono hF hG h) (DnA.mono hF hG r)
end
mutual
/-- of data without lists only the tuples matter -/
theorem Dn.flat {s' : Bool} (hF : ∃ F1, F' = F ++ F1) (hG : ∀ a o, IsT o → G a = some o → G' a = some o) : ∀ {v : V} {d : D}, Dn s K F G v d → d.nl = true → Dn s' K F' G' v d
  | _, _, .non, _ => .non
  | _, _, .bl b, _ => .bl b
  | _, _, .int i, _ => .int i
  | _, _, .str x, _ => .str x
  | _, _, .tup h r, n => .tup (h.mono fun a xs => hG a _ trivial) (DnA.flat hF hG r n)
  | _, _, .dic _, n => by cases n
  | _, _, .exc h c, _ => .exc (hG _ _ trivial h) c
  | _, _, .fn h, _ => .fn h
  | _, _, .ptr, _ => .ptr
  | _, _, .lst h r, n => by cases n
  | _, _, .hnd h, _ => .hnd (by obtain ⟨F1, rfl⟩ := hF; rw [List.getElem?_append_left (List.getElem?_eq_some_iff.mp h).1]; exact h)
theorem DnA.flat {s' : Bool} (hF : ∃ F1, F' = F ++ F1) (hG : ∀ a o, IsT o → G a = some o → G' a = some o) : ∀ {vs : List V} {ds : List D}, DnA s K F G vs ds → D.nls ds = true → DnA s' K F' G' vs ds
  | _, _, .nil, _ => .nil
  | _, _, .cons h r, n => by
    rw [D.nls, Bool.and_eq_true] at n
    exact .cons (Dn.flat hF hG h n.1) (DnA.flat hF hG r n.2)
end
mutual
theorem Dn.weak : ∀ {v : V} {d : D}, Dn true K F G v d → Dn false K F G v d
  | _, _, .non => .non
  | _, _, .bl b => .bl b
  | _, _, .int i => .int i
  | _, _, .str x => .str x
  | _, _, .tup h r => .tup h (DnA.weak r)
  | _, _, .lst h r => .lst (.inl (.inl h)) (DnA.weak r)
  | _, _, .hnd h => .hnd h
  | _, _, .dic h => .dic h
  | _, _, .exc h n => .exc h n
  | _, _, .fn h => .fn h
  | _, _, .ptr => .ptr
theorem DnA.weak : ∀ {vs : List V} {ds : List D}, DnA true K F G vs ds → DnA false K F G vs ds
  | _, _, .nil => .nil
  | _, _, .cons h r => .cons (Dn.weak h) (DnA.weak r)
end
theorem DnA.length : ∀ {vs : List V} {ds : List D}, DnA s K F G vs ds → vs.length = ds.length
  | _, _, .nil => rfl
  | _, _, .cons _ r => congrArg (· + 1) (DnA.length r)
theorem DnA.get : ∀ {vs : List V} {ds : List D} {i : Nat} {v : V}, DnA s K F G vs ds → vs[i]? = some v → ∃ d, ds[i]? = some d ∧ Dn s K F G v d
  | _, _, _, _, .nil, e => by simp at e
  | _, _, 0, _, .cons h _, e => by simp at e; subst e; exact ⟨_, rfl, h⟩
  | _, _, i + 1, _, .cons _ r, e => by
    obtain ⟨d, h1, h2⟩ := DnA.get (i := i) r (by simpa using e)
    exact ⟨d, by simpa using h1, h2⟩
theorem DnA.getD : ∀ {vs : List V} {ds : List D} {i : Nat} {d : D}, DnA s K F G vs ds → ds[i]? = some d → ∃ v, vs[i]? = some v ∧ Dn s K F G v d
  | _, _, _, _, .nil, e => by simp at e
  | _, _, 0, _, .cons h _, e => by simp at e; subst e; exact ⟨_, rfl, h⟩
  | _, _, i + 1, _, .cons _ r, e => by
    obtain ⟨d, h1, h2⟩ := DnA.getD (i := i) r (by simpa using e)
    exact ⟨d, by simpa using h1, h2⟩
theorem DnA.app : ∀ {vs ws : List V} {ds es : List D}, DnA s K F G vs ds → DnA s K F G ws es → DnA s K F G (vs ++ ws) (ds ++ es)
  | _, _, _, _, .nil, r => r
  | _, _, _, _, .cons h t, r => .cons h (DnA.app t r)
theorem DnA.take : ∀ {vs : List V} {ds : List D} (n : Nat), DnA s K F G vs ds → DnA s K F G (vs.take n) (ds.take n)
  | _, _, 0, _ => .nil
  | _, _, _ + 1, .nil => .nil
  | _, _, n + 1, .cons h t => .cons h (DnA.take n t)
theorem DnA.drop : ∀ {vs : List V} {ds : List D} (n : Nat), DnA s K F G vs ds → DnA s K F G (vs.drop n) (ds.drop n)
  | _, _, 0, r => r
  | _, _, _ + 1, .nil => .nil
  | _, _, n + 1, .cons _ t => DnA.drop n t
theorem DnA.rev {vs : List V} {ds : List D} (h : DnA s K F G vs ds) : DnA s K F G vs.reverse ds.reverse := by
  induction vs generalizing ds with
  | nil => cases h; exact .nil
  | cons v r ih =>
    cases h with
    | cons h t =>
      rw [List.reverse_cons, List.reverse_cons]
      exact (ih t).app (.cons h .nil)
theorem DnA.set {x : V} {d : D} (r : Dn s K F G x d) : ∀ {xs : List V} {ds : List D} (i : Nat), DnA s K F G xs ds → DnA s K F G (xs.set i x) (ds.set i d)
  | _, _, _, .nil => .nil
  | _, _, 0, .cons _ t => .cons r t
  | _, _, i + 1, .cons q t => .cons q (DnA.set r i t)
theorem DnA.rep {vs : List V} {ds : List D} (h : DnA s K F G vs ds) : ∀ k : Nat, DnA s K F G (List.replicate k vs).flatten (List.replicate k ds).flatten
  | 0 => .nil
  | k + 1 => by
    rw [List.replicate_succ, List.replicate_succ, List.flatten_cons, List.flatten_cons]
    exact h.app (DnA.rep h k)
end

/-! ### views of a heap -/
noncomputable def vw (p : Addr → HO → Prop) (H : Hp) : Hp := fun a => (H a).bind fun o => open Classical in if p a o then some o else none
theorem vw_iff {p : Addr → HO → Prop} {H : Hp} {a : Addr} {o : HO} : vw p H a = some o ↔ H a = some o ∧ p a o := by
  unfold vw
  cases e : H a with
  | none => simp
  | some u =>
    simp only [Option.bind_some]
    by_cases q : p a u
    · rw [if_pos q]
      exact Iff.intro (fun z => by cases z; exact ⟨rfl, q⟩) (fun z => z.1)
    · rw [if_neg q]
      exact Iff.intro (fun z => by cases z) (fun z => by obtain ⟨z1, z2⟩ := z; cases z1; exact absurd z2 q)
theorem IsT.not_L {o : HO} (h : IsT o) (h' : IsL o) : False := by cases o <;> first | exact h | exact h'
/-- what a body may keep: tuples; lists that are new since H0 and not owned -/
noncomputable def sv (H0 : Hp) (Pr : Addr → Prop) (H : Hp) : Hp := vw (fun a o => IsT o ∨ (IsL o ∧ ¬ Pr a ∧ H0 a = none)) H
/-- all but the world's objects -/
noncomputable def wv (F : List Addr) (H : Hp) : Hp := vw (fun a _ => a ∉ F) H
theorem sv_le {H0 : Hp} {Pr : Addr → Prop} {H : Hp} {a : Addr} {o : HO} (h : sv H0 Pr H a = some o) : H a = some o := (vw_iff.mp h).1
theorem wv_le {F : List Addr} {H : Hp} {a : Addr} {o : HO} (h : wv F H a = some o) : H a = some o := (vw_iff.mp h).1

/-! ### the world: what stands beside the data (a law's drawing state) -/
structure Wd where
  M : Type
  Rz : M → List Addr → Hp → Prop
  keep : ∀ {m F H H'}, Rz m F H → (∀ a ∈ F, H' a = H a) → (∀ a o, IsT o → H a = some o → H' a = some o) → Rz m F H'
  there : ∀ {m F H}, Rz m F H → ∀ a ∈ F, ∃ o, H a = some o ∧ ¬ IsT o

/-- a name's state: not known; data; borrowed data (an argument with lists); a list of its own -/
inductive Sl where
  | un | val (d : D) | bor (d : D) | own (ds : List D)
abbrev En := List Sl

/-- the def's entry, the world, the wish about exceptions -/
structure Cn where
  W : Wd
  H0 : Hp
  F0 : List Addr
  wx : WX

structure Tr (Pr : Addr → Prop) (F : List Addr) (H : Hp) (Pr' : Addr → Prop) (F' : List Addr) (H' : Hp) : Prop where
  pre : ∃ F1, F' = F ++ F1
  prn : ∀ a, Pr' a → ¬ Pr a → H a = none
  fn : ∀ a ∈ F', a ∉ F → H a = none
  stay : ∀ a o, H a = some o → ∃ o', H' a = some o'
  keep : ∀ a o, ¬ Pr a → H a = some o → H' a = some o
/-- .. of an expression: the owned lists stay too -/
structure Te (Pr : Addr → Prop) (F : List Addr) (H : Hp) (Pr' : Addr → Prop) (F' : List Addr) (H' : Hp) : Prop extends Tr Pr F H Pr' F' H' where
  prm : ∀ a, Pr a → Pr' a
  all : ∀ a o, a ∉ F → H a = some o → H' a = some o

/-- how a name's state is held -/
def Sk (K : PySem.W.Frag) (C : Cn) (Pr : Addr → Prop) (F : List Addr) (H : Hp) (v? : Option (Option V)) : Sl → Prop
  | .un => True
  | .val d => ∃ v, v? = some (some v) ∧ Dn true K F (sv C.H0 Pr H) v d
  | .bor d => ∃ v, v? = some (some v) ∧ Dn false K C.F0 (wv C.F0 C.H0) v d
  | .own ds => ∃ p vs, v? = some (some (.ref p)) ∧ H p = some (.lst vs) ∧ Pr p ∧ p ∉ F ∧ DnA true K F (sv C.H0 Pr H) vs ds ∧ D.nls ds = true

structure SR (K : PySem.W.Frag) (C : Cn) (Pr : Addr → Prop) (F : List Addr) (σ : L2.St) (ρ : En) (m : C.W.M) (H : Hp) : Prop where
  keep : ∀ a o, a ∉ C.F0 → C.H0 a = some o → H a = some o
  pre : ∃ F1, F = C.F0 ++ F1
  new : ∀ a ∈ F, a ∉ C.F0 → C.H0 a = none
  prs : ∀ a, Pr a → ∃ o, H a = some o ∧ ¬ IsT o
  prn : ∀ a, Pr a → a ∉ F → C.H0 a = none
  prf : ∀ a ∈ F, Pr a
  rz : C.W.Rz m F H
  len : ρ.length = σ.length
  slot : ∀ (i : Nat) (s : Sl), ρ[i]? = some s → Sk K C Pr F H σ[i]? s
  dist : ∀ (i j : Nat) (ds es : List D) (p : Addr), i ≠ j → ρ[i]? = some (.own ds) → ρ[j]? = some (.own es) → σ[i]? = some (some (.ref p)) → σ[j]? = some (some (.ref p)) → False

section
variable {Pr Pr1 Pr2 : Addr → Prop} {F F1 F2 : List Addr} {H H1 H2 : Hp}
theorem pre_trans (a : ∃ G, F1 = F ++ G) (b : ∃ G, F2 = F1 ++ G) : ∃ G, F2 = F ++ G := by
  obtain ⟨x, rfl⟩ := a
  obtain ⟨y, rfl⟩ := b
  exact ⟨x ++ y, by rw [List.append_assoc]⟩
theorem pre_mem (a : ∃ G, F1 = F ++ G) {x : Addr} (h : x ∈ F) : x ∈ F1 := by
  obtain ⟨y, rfl⟩ := a
  exact List.mem_append_left _ h
theorem some_of {a : Addr} (h : ∀ o, H a = some o → ∃ o', H1 a = some o') (e : H1 a = none) : H a = none := by
  cases q : H a with
  | none => rfl
  | some o =>
    obtain ⟨o', z⟩ := h o q
    rw [e] at z; cases z
theorem Tr.refl : Tr Pr F H Pr F H := ⟨⟨[], by simp⟩, fun _ h n => absurd h n, fun _ h n => absurd h n, fun _ o h => ⟨o, h⟩, fun _ _ _ h => h⟩
theorem Te.refl : Te Pr F H Pr F H := ⟨Tr.refl, fun _ h => h, fun _ _ _ h => h⟩
theorem Tr.trans (a : Tr Pr F H Pr1 F1 H1) (b : Tr Pr1 F1 H1 Pr2 F2 H2) : Tr Pr F H Pr2 F2 H2 := by
  refine ⟨pre_trans a.pre b.pre, fun x h n => ?_, fun x h n => ?_, fun x o h => ?_, fun x o n h => ?_⟩
  · by_cases q : Pr1 x
    · exact a.prn x q n
    · exact some_of (a.stay x) (b.prn x h q)
  · by_cases q : x ∈ F1
    · exact a.fn x q n
    · exact some_of (a.stay x) (b.fn x h q)
  · obtain ⟨o', h'⟩ := a.stay x o h
    exact b.stay x o' h'
  · refine b.keep x o (fun q => ?_) (a.keep x o n h)
    have z := a.prn x q n
    rw [h] at z; cases z
theorem Te.trans (a : Te Pr F H Pr1 F1 H1) (b : Te Pr1 F1 H1 Pr2 F2 H2) : Te Pr F H Pr2 F2 H2 := by
  refine ⟨a.toTr.trans b.toTr, fun x h => b.prm x (a.prm x h), fun x o n h => b.all x o (fun q => ?_) (a.all x o n h)⟩
  have z := a.fn x q n
  rw [h] at z; cases z
/-- a strong value stays -/
theorem sv_tr {H0 : Hp} (t : Tr Pr F H Pr1 F1 H1) (hp : ∀ a, Pr a → ∃ o, H a = some o ∧ ¬ IsT o) : ∀ a o, sv H0 Pr H a = some o → sv H0 Pr1 H1 a = some o := fun a o h => by
  obtain ⟨e, q⟩ := vw_iff.mp h
  have np : ¬ Pr a := fun z => by
    rcases q with q | q
    · obtain ⟨o', e', n⟩ := hp a z
      rw [e] at e'; cases e'
      exact n q
    · exact q.2.1 z
  refine vw_iff.mpr ⟨t.keep a o np e, q.imp id fun q => ⟨q.1, fun z => ?_, q.2.2⟩⟩
  have z := t.prn a z np
  rw [e] at z; cases z
/-- a weak value stays behind an expression -/
theorem wv_te (t : Te Pr F H Pr1 F1 H1) : ∀ a o, wv F H a = some o → wv F1 H1 a = some o := fun a o h => by
  obtain ⟨e, q⟩ := vw_iff.mp h
  refine vw_iff.mpr ⟨t.all a o q e, fun z => ?_⟩
  have z := t.fn a z q
  rw [e] at z; cases z
theorem Dn.tr {K : PySem.W.Frag} {H0 : Hp} {v : V} {d : D} (t : Tr Pr F H Pr1 F1 H1) (hp : ∀ a, Pr a → ∃ o, H a = some o ∧ ¬ IsT o) (h : Dn true K F (sv H0 Pr H) v d) : Dn true K F1 (sv H0 Pr1 H1) v d :=
  h.mono t.pre (sv_tr t hp)
theorem Dn.te {K : PySem.W.Frag} {v : V} {d : D} (t : Te Pr F H Pr1 F1 H1) (h : Dn false K F (wv F H) v d) : Dn false K F1 (wv F1 H1) v d := h.mono t.pre (wv_te t)
end
end RR

/-! RB: steps of the state -/
namespace RR
open PySem PySem.Spec PyProof.Rows L2
variable {K : PySem.W.Frag} {C : Cn} {Pr Pr' : Addr → Prop} {F F' : List Addr} {σ : L2.St} {ρ : En} {m m' : C.W.M} {H H' : Hp}

theorem SR.h0 (S : SR K C Pr F σ ρ m H) {a : Addr} (e : H a = none) : a ∉ C.F0 → C.H0 a = none := fun n => by
  cases q : C.H0 a with
  | none => rfl
  | some o =>
    have z := S.keep a o n q
    rw [e] at z; cases z
theorem SR.pf0 (S : SR K C Pr F σ ρ m H) {a : Addr} (h : a ∈ C.F0) : a ∈ F := pre_mem S.pre h
theorem SR.nf {a : Addr} (S : SR K C Pr F σ ρ m H) (e : H a = none) : a ∉ F := fun z => by
  obtain ⟨o, q, _⟩ := S.prs a (S.prf a z)
  rw [e] at q; cases q
theorem SR.np {a : Addr} (S : SR K C Pr F σ ρ m H) (e : H a = none) : ¬ Pr a := fun z => by
  obtain ⟨o, q, _⟩ := S.prs a z
  rw [e] at q; cases q
theorem SR.h0n (S : SR K C Pr F σ ρ m H) {a : Addr} (e : H a = none) : C.H0 a = none := S.h0 e fun z => S.nf e (S.pf0 z)

/-- the heap has grown -/
theorem SR.te (S : SR K C Pr F σ ρ m H) (k : ∀ a o, H a = some o → H' a = some o) : Te Pr F H Pr F H' :=
  ⟨⟨⟨[], by simp⟩, fun _ h n => absurd h n, fun _ h n => absurd h n, fun a o h => ⟨o, k a o h⟩, fun a o _ h => k a o h⟩, fun _ h => h, fun a o _ h => k a o h⟩
theorem Sk.tr {v? : Option (Option V)} (hs : ∀ a, Pr a → ∃ o, H a = some o ∧ ¬ IsT o) (t : Tr Pr F H Pr' F' H') (ko : ∀ p, Pr p → p ∉ F → ∀ o, H p = some o → H' p = some o) (po : ∀ p, Pr p → p ∉ F → Pr' p) :
    ∀ {s : Sl}, Sk K C Pr F H v? s → Sk K C Pr' F' H' v? s
  | .un, _ => trivial
  | .val d, ⟨v, e, h⟩ => ⟨v, e, h.tr t hs⟩
  | .bor d, h => h
  | .own ds, ⟨p, vs, e, hp, pp, nf, h, n⟩ => ⟨p, vs, e, ko p pp nf _ hp, po p pp nf, (fun z => by
      have q := t.fn p z nf
      rw [hp] at q
      cases q), h.mono t.pre (sv_tr t hs), n⟩
theorem SR.grow (S : SR K C Pr F σ ρ m H) (k : ∀ a o, H a = some o → H' a = some o) : SR K C Pr F σ ρ m H' where
  keep := fun a o n e => k a o (S.keep a o n e)
  pre := S.pre
  new := S.new
  prs := fun a p => let ⟨o, e, n⟩ := S.prs a p; ⟨o, k a o e, n⟩
  prn := S.prn
  prf := S.prf
  rz := C.W.keep S.rz (fun a h => by
    obtain ⟨o, e, _⟩ := S.prs a (S.prf a h)
    rw [e, k a o e]) fun a o _ e => k a o e
  len := S.len
  slot := fun i s e => Sk.tr S.prs (S.te k).toTr (fun p _ _ o h => k p o h) (fun p h _ => h) (S.slot i s e)
  dist := S.dist
theorem SR.new1 (S : SR K C Pr F σ ρ m H) {p : Addr} {o : HO} (h : H p = none) : SR K C Pr F σ ρ m (upd H p o) ∧ Te Pr F H Pr F (upd H p o) := by
  have k : ∀ a u, H a = some u → upd H p o a = some u := fun a u e => by rw [upd_ne (ne_of_none e h)]; exact e
  exact ⟨S.grow k, S.te k⟩

/-- behind a call: the world has turned -/
theorem SR.turned (S : SR K C Pr F σ ρ m H) (rz : C.W.Rz m' F' H') (pre : ∃ G, F' = F ++ G) (fr : ∀ a ∈ F', a ∉ F → H a = none) (k : ∀ a o, a ∉ F → H a = some o → H' a = some o) :
    SR K C (fun a => Pr a ∨ a ∈ F') F' σ ρ m' H' ∧ Te Pr F H (fun a => Pr a ∨ a ∈ F') F' H' := by
  have t : Te Pr F H (fun a => Pr a ∨ a ∈ F') F' H' := by
    refine ⟨⟨pre, fun a h n => ?_, fr, fun a o h => ?_, fun a o n h => ?_⟩, fun _ h => .inl h, k⟩
    · rcases h with h | h
      · exact absurd h n
      · exact fr a h fun z => n (S.prf a z)
    · by_cases q : a ∈ F
      · obtain ⟨o', e, _⟩ := C.W.there rz a (pre_mem pre q)
        exact ⟨o', e⟩
      · exact ⟨o, k a o q h⟩
    · exact k a o (fun z => n (S.prf a z)) h
  refine ⟨⟨fun a o n e => k a o (fun z => ?_) (S.keep a o n e), pre_trans S.pre pre, fun a h n => ?_, fun a h => ?_, fun a h n => ?_, fun a h => .inr h, rz, S.len, fun i s e => Sk.tr S.prs t.toTr (fun p _ nf o h => k p o nf h) (fun p h _ => .inl h) (S.slot i s e), S.dist⟩, t⟩
  · have z := S.new a z n
    rw [e] at z; cases z
  · by_cases q : a ∈ F
    · exact S.new a q n
    · exact S.h0 (fr a h q) n
  · by_cases q : a ∈ F'
    · exact C.W.there rz a q
    · rcases h with h | h
      · obtain ⟨o, e, n⟩ := S.prs a h
        exact ⟨o, k a o (fun z => q (pre_mem pre z)) e, n⟩
      · exact absurd h q
  · rcases h with h | h
    · exact S.prn a h fun z => n (pre_mem pre z)
    · exact absurd h n

theorem get_set {α : Type} {l : List α} {i j : Nat} {x y : α} (h : (l.set i x)[j]? = some y) : (j = i ∧ y = x) ∨ (j ≠ i ∧ l[j]? = some y) := by
  by_cases e : j = i
  · subst e
    refine .inl ⟨rfl, ?_⟩
    by_cases q : j < l.length
    · rw [List.getElem?_set_self q] at h
      exact (Option.some.inj h).symm
    · rw [List.getElem?_eq_none (by simpa using Nat.le_of_not_lt q)] at h; cases h
  · rw [List.getElem?_set_ne (Ne.symm e)] at h
    exact .inr ⟨e, h⟩
theorem lt_of_set {α : Type} {l : List α} {i : Nat} {x y : α} (h : (l.set i x)[i]? = some y) : i < l.length := by
  have z := (List.getElem?_eq_some_iff.mp h).1
  simpa using z
/-- name = data -/
theorem SR.set (S : SR K C Pr F σ ρ m H) {v : V} {d : D} (i : Nat) (h : Dn true K F (sv C.H0 Pr H) v d) : SR K C Pr F (σ.set i (some v)) (ρ.set i (.val d)) m H where
  keep := S.keep
  pre := S.pre
  new := S.new
  prs := S.prs
  prn := S.prn
  prf := S.prf
  rz := S.rz
  len := by simpa using S.len
  slot := fun j s e => by
    rcases get_set e with ⟨rfl, rfl⟩ | ⟨ne, e⟩
    · have hi : j < σ.length := by rw [← S.len]; exact lt_of_set e
      exact ⟨v, by rw [List.getElem?_set_self hi], h⟩
    · rw [List.getElem?_set_ne (Ne.symm ne)]
      exact S.slot j s e
  dist := fun a b ds es p ne ea eb sa sb => by
    rcases get_set ea with ⟨rfl, q⟩ | ⟨na, ea⟩
    · cases q
    · rcases get_set eb with ⟨rfl, q⟩ | ⟨nb, eb⟩
      · cases q
      · rw [List.getElem?_set_ne (Ne.symm na)] at sa
        rw [List.getElem?_set_ne (Ne.symm nb)] at sb
        exact S.dist a b ds es p ne ea eb sa sb
/-- a name is forgotten -/
theorem SR.drop (S : SR K C Pr F σ ρ m H) (i : Nat) (x : Option V) : SR K C Pr F (σ.set i x) (ρ.set i .un) m H where
  keep := S.keep
  pre := S.pre
  new := S.new
  prs := S.prs
  prn := S.prn
  prf := S.prf
  rz := S.rz
  len := by simpa using S.len
  slot := fun j s e => by
    rcases get_set e with ⟨rfl, rfl⟩ | ⟨ne, e⟩
    · trivial
    · rw [List.getElem?_set_ne (Ne.symm ne)]
      exact S.slot j s e
  dist := fun a b ds es p ne ea eb sa sb => by
    rcases get_set ea with ⟨rfl, q⟩ | ⟨na, ea⟩
    · cases q
    · rcases get_set eb with ⟨rfl, q⟩ | ⟨nb, eb⟩
      · cases q
      · rw [List.getElem?_set_ne (Ne.symm na)] at sa
        rw [List.getElem?_set_ne (Ne.symm nb)] at sb
        exact S.dist a b ds es p ne ea eb sa sb
/-- a new list is owned: S at the start of the expression, S' at its end -/
theorem SR.owned (S : SR K C Pr F σ ρ m H) (t : Te Pr F H Pr' F' H') (S' : SR K C Pr' F' σ ρ m' H') {p : Addr} {vs : List V} {ds : List D} (i : Nat) (hn : H p = none) (hp : H' p = some (.lst vs)) (np : ¬ Pr' p)
    (h : DnA true K F' (sv C.H0 Pr' H') vs ds) (n : D.nls ds = true) :
    SR K C (fun a => Pr' a ∨ a = p) F' (σ.set i (some (.ref p))) (ρ.set i (.own ds)) m' H' ∧ Te Pr F H (fun a => Pr' a ∨ a = p) F' H' := by
  have t2 : Te Pr F H (fun a => Pr' a ∨ a = p) F' H' := by
    refine ⟨⟨t.pre, fun a h n => ?_, t.fn, t.stay, t.keep⟩, fun a h => .inl (t.prm a h), t.all⟩
    rcases h with h | rfl
    · exact t.prn a h n
    · exact hn
  have nf : p ∉ F' := fun z => np (S'.prf p z)
  have h0p : C.H0 p = none := S.h0n hn
  refine ⟨⟨S'.keep, S'.pre, S'.new, fun a ha => ?_, fun a ha n => ?_, fun a ha => .inl (S'.prf a ha), S'.rz, by simpa using S'.len, fun j s e => ?_, fun a b ds es q ne ea eb sa sb => ?_⟩, t2⟩
  · rcases ha with ha | rfl
    · exact S'.prs a ha
    · exact ⟨_, hp, fun z => z⟩
  · rcases ha with ha | rfl
    · exact S'.prn a ha n
    · exact h0p
  · rcases get_set e with ⟨rfl, rfl⟩ | ⟨ne, e⟩
    · have hi : j < σ.length := by rw [← S.len]; exact lt_of_set e
      exact ⟨p, vs, by rw [List.getElem?_set_self hi], hp, .inr rfl, nf, h.flat ⟨[], by simp⟩ (fun a o i q => vw_iff.mpr ⟨sv_le q, .inl i⟩) n, n⟩
    · rw [List.getElem?_set_ne (Ne.symm ne)]
      cases s with
      | un => trivial
      | bor d => exact S.slot j _ e
      | val d =>
        obtain ⟨v, e1, q⟩ := S.slot j _ e
        exact ⟨v, e1, q.tr t2.toTr S.prs⟩
      | own ds' =>
        obtain ⟨q, ws, e1, h1, h2, h3, h4, h5⟩ := S'.slot j _ e
        exact ⟨q, ws, e1, h1, .inl h2, h3, h4.flat ⟨[], by simp⟩ (fun a o i q => vw_iff.mpr ⟨sv_le q, .inl i⟩) h5, h5⟩
  · have own : ∀ c es', c ≠ i → ρ[c]? = some (.own es') → σ[c]? = some (some (.ref p)) → False := fun c es' nc ec sc => by
      obtain ⟨q', ws, e1, h1, h2, _⟩ := S'.slot c _ ec
      rw [sc] at e1
      cases e1
      exact np h2
    by_cases ha : a = i
    · subst ha
      have hi : a < σ.length := by rw [← S.len]; exact lt_of_set ea
      rw [List.getElem?_set_self hi] at sa
      cases sa
      rw [List.getElem?_set_ne ne] at eb sb
      exact own b _ (Ne.symm ne) eb sb
    · rw [List.getElem?_set_ne (Ne.symm ha)] at ea sa
      by_cases hb : b = i
      · subst hb
        have hi : b < σ.length := by rw [← S.len]; exact lt_of_set eb
        rw [List.getElem?_set_self hi] at sb
        cases sb
        exact own a _ ha ea sa
      · rw [List.getElem?_set_ne (Ne.symm hb)] at eb sb
        exact S.dist a b _ _ q ne ea eb sa sb
/-- an owned list is changed -/
theorem SR.change (S : SR K C Pr F σ ρ m H) {i : Nat} {p : Addr} {ds es : List D} {ws : List V} (e : ρ[i]? = some (.own ds)) (e1 : σ[i]? = some (some (.ref p))) (h : DnA true K F (sv C.H0 Pr H) ws es) (n : D.nls es = true) :
    SR K C Pr F σ (ρ.set i (.own es)) m (upd H p (.lst ws)) ∧ Tr Pr F H Pr F (upd H p (.lst ws)) := by
  obtain ⟨p', vs, e2, hp, pp, nf, h4, h5⟩ := S.slot i _ e
  rw [e1] at e2
  cases e2
  have t : Tr Pr F H Pr F (upd H p (.lst ws)) := ⟨⟨[], by simp⟩, fun _ h n => absurd h n, fun _ h n => absurd h n, fun a o h => by
    by_cases q : a = p
    · exact ⟨_, by rw [q, upd_same]⟩
    · exact ⟨o, by rw [upd_ne q]; exact h⟩, fun a o n h => by rw [upd_ne (fun q => n (by rw [q]; exact pp))]; exact h⟩
  have h0p : C.H0 p = none := S.prn p pp nf
  refine ⟨⟨fun a o n e => ?_, S.pre, S.new, fun a ha => ?_, S.prn, S.prf, C.W.keep S.rz (fun a ha => upd_ne fun q => nf (q ▸ ha)) (fun a o it e => by rw [upd_ne (fun q => by rw [q, hp] at e; cases e; exact it)]; exact e), by simpa using S.len, fun j s e => ?_, fun a b ds' es' q ne ea eb sa sb => ?_⟩, t⟩
  · rw [upd_ne (fun q => by rw [q, h0p] at e; cases e)]
    exact S.keep a o n e
  · by_cases q : a = p
    · exact ⟨.lst ws, by rw [q, upd_same], fun z => z⟩
    · obtain ⟨o, e, n⟩ := S.prs a ha
      exact ⟨o, by rw [upd_ne q]; exact e, n⟩
  · rcases get_set e with ⟨rfl, rfl⟩ | ⟨ne, e⟩
    · exact ⟨p, ws, e1, upd_same, pp, nf, h.mono ⟨[], by simp⟩ (sv_tr t S.prs), n⟩
    · cases s with
      | un => trivial
      | bor d => exact S.slot j _ e
      | val d =>
        obtain ⟨v, e1, q⟩ := S.slot j _ e
        exact ⟨v, e1, q.tr t S.prs⟩
      | own ds' =>
        obtain ⟨q, ws', e3, h1, h2, h3, h4, h5⟩ := S.slot j _ e
        refine ⟨q, ws', e3, ?_, h2, h3, h4.mono ⟨[], by simp⟩ (sv_tr t S.prs), h5⟩
        rw [upd_ne (fun z => ?_)]
        · exact h1
        · subst z
          exact S.dist j i _ _ _ ne e ‹ρ[i]? = some (.own ds)› e3 e1
  · have old : ∀ (c : Nat) (x : List D), (ρ.set i (.own es))[c]? = some (Sl.own x) → ∃ y, ρ[c]? = some (Sl.own y) := fun c x h => by
      rcases get_set h with ⟨q', z⟩ | ⟨_, z⟩
      · exact ⟨ds, by rw [q']; exact e⟩
      · exact ⟨x, z⟩
    obtain ⟨y, ea⟩ := old a _ ea
    obtain ⟨z, eb⟩ := old b _ eb
    exact S.dist a b y z q ne ea eb sa sb
/-- an owned list becomes data -/
theorem SR.release (S : SR K C Pr F σ ρ m H) {i : Nat} {ds : List D} (e : ρ[i]? = some (.own ds)) :
    ∃ Pr', SR K C Pr' F σ (ρ.set i (.val (.lst ds))) m H ∧ Tr Pr F H Pr' F H := by
  obtain ⟨p, vs, e1, hp, pp, nf, h4, h5⟩ := S.slot i _ e
  have h0p : C.H0 p = none := S.prn p pp nf
  have t : Tr Pr F H (fun a => Pr a ∧ a ≠ p) F H := ⟨⟨[], by simp⟩, fun _ h n => absurd h.1 n, fun _ h n => absurd h n, fun a o h => ⟨o, h⟩, fun _ _ _ h => h⟩
  refine ⟨_, ⟨S.keep, S.pre, S.new, fun a h => S.prs a h.1, fun a h n => S.prn a h.1 n, fun a h => ⟨S.prf a h, fun q => nf (q ▸ h)⟩, S.rz, by simpa using S.len, fun j s ej => ?_, fun a b ds' es' q ne ea eb sa sb => ?_⟩, t⟩
  · rcases get_set ej with ⟨rfl, rfl⟩ | ⟨ne, ej⟩
    · refine ⟨.ref p, e1, .lst (vw_iff.mpr ⟨hp, .inr ⟨trivial, fun z => z.2 rfl, h0p⟩⟩) (h4.mono ⟨[], by simp⟩ (sv_tr t S.prs))⟩
    · cases s with
      | un => trivial
      | bor d => exact S.slot j _ ej
      | val d =>
        obtain ⟨v, e1, q⟩ := S.slot j _ ej
        exact ⟨v, e1, q.tr t S.prs⟩
      | own ds' =>
        obtain ⟨q, ws', e3, h1, h2, h3, h4, h5⟩ := S.slot j _ ej
        refine ⟨q, ws', e3, h1, ⟨h2, fun z => ?_⟩, h3, h4.mono ⟨[], by simp⟩ (sv_tr t S.prs), h5⟩
        subst z
        exact S.dist j i _ _ _ ne ej e e3 e1
  · rcases get_set ea with ⟨rfl, z⟩ | ⟨na, ea⟩
    · cases z
    · rcases get_set eb with ⟨rfl, z⟩ | ⟨nb, eb⟩
      · cases z
      · exact S.dist a b _ _ q ne ea eb sa sb

/-- names forgotten -/
def wipeD (ρ : En) : List Nat → En
  | [] => ρ
  | i :: r => (wipeD ρ r).set i .un
theorem SR.wipe : ∀ (vs : List Nat) {σ : L2.St} {ρ : En}, SR K C Pr F σ ρ m H → SR K C Pr F (L2.wipe σ vs) (wipeD ρ vs) m H
  | [], _, _, S => S
  | i :: r, σ, ρ, S => by
    unfold L2.wipe wipeD
    exact (SR.wipe r S).drop i none
/-- behind expressions over fewer names all of them are as they were -/
theorem SR.back {σ' : L2.St} {ρ' : En} (S : SR K C Pr F σ ρ m H) (t : Te Pr F H Pr' F' H') (S' : SR K C Pr' F' σ' ρ' m' H') : SR K C Pr' F' σ ρ m' H' where
  keep := S'.keep
  pre := S'.pre
  new := S'.new
  prs := S'.prs
  prn := S'.prn
  prf := S'.prf
  rz := S'.rz
  len := S.len
  slot := fun i s e => Sk.tr S.prs t.toTr (fun p _ nf o h => t.all p o nf h) (fun p h _ => t.prm p h) (S.slot i s e)
  dist := S.dist
end RR

/-! RC: judgements over data: expressions -/
namespace RR
open PySem PySem.Spec PyProof.Rows L2

/-- a reading over data: of the names' states and the world what is wanted of the answer and of a refusal -/
abbrev DT (M : Type) := En → M → (D → M → Prop) → (Str → M → Prop) → Prop
abbrev DTT (M : Type) := En → M → (Bool → M → Prop) → (Str → M → Prop) → Prop
abbrev DTA (M : Type) := En → M → (List D → M → Prop) → (Str → M → Prop) → Prop

/-- how an answer is held: w for a look; s to be kept; f to be kept, a list being new; r to be handed back -/
inductive Cl where
  | w | s | f | r

def Dv (K : PySem.W.Frag) (C : Cn) : Cl → (Addr → Prop) → List Addr → Hp → Hp → V → D → Prop
  | .w, _, F', _, H', v, d => Dn false K F' (wv F' H') v d
  | .s, Pr', F', _, H', v, d => Dn true K F' (sv C.H0 Pr' H') v d
  | .r, _, F', _, H', v, d => Dn true K F' (sv C.H0 (· ∈ F') H') v d
  | .f, Pr', F', H, H', v, d => Dn true K F' (sv C.H0 Pr' H') v d ∧ ∀ ds, d = .lst ds → ∃ p vs, v = .ref p ∧ H p = none ∧ ¬ Pr' p ∧ H' p = some (.lst vs) ∧ DnA true K F' (sv C.H0 Pr' H') vs ds
def DvA (K : PySem.W.Frag) (C : Cn) : Cl → (Addr → Prop) → List Addr → Hp → List V → List D → Prop
  | .w, _, F', H', v, d => DnA false K F' (wv F' H') v d
  | .r, _, F', H', v, d => DnA true K F' (sv C.H0 (· ∈ F') H') v d
  | _, Pr', F', H', v, d => DnA true K F' (sv C.H0 Pr' H') v d

def Post (K : PySem.W.Frag) (C : Cn) (c : Cl) (Pr : Addr → Prop) (F : List Addr) (H : Hp) (σ : L2.St) (ρ : En) (Q : D → C.W.M → Prop) : VK := fun v H' =>
  ∃ Pr' F' m' d, SR K C Pr' F' σ ρ m' H' ∧ Te Pr F H Pr' F' H' ∧ Dv K C c Pr' F' H H' v d ∧ Q d m'
def PostA (K : PySem.W.Frag) (C : Cn) (c : Cl) (Pr : Addr → Prop) (F : List Addr) (H : Hp) (σ : L2.St) (ρ : En) (Q : List D → C.W.M → Prop) : List V → Hp → Prop := fun vs H' =>
  ∃ Pr' F' m' ds, SR K C Pr' F' σ ρ m' H' ∧ Te Pr F H Pr' F' H' ∧ DvA K C c Pr' F' H' vs ds ∧ Q ds m'
def PostT (K : PySem.W.Frag) (C : Cn) (Pr : Addr → Prop) (F : List Addr) (H : Hp) (σ : L2.St) (ρ : En) (Q : Bool → C.W.M → Prop) : Bool → Hp → Prop := fun b H' =>
  ∃ Pr' F' m', SR K C Pr' F' σ ρ m' H' ∧ Te Pr F H Pr' F' H' ∧ Q b m'
/-- a refusal by the class of the name x is taken -/
def Ex (X : Cx) (C : Cn) (Pr : Addr → Prop) (F : List Addr) (H : Hp) (σ : L2.St) (ρ : En) (Z : Str → C.W.M → Prop) : Prop :=
  ∀ x cls Pr' F' m' H', X.mg x = some cls → SR X.K C Pr' F' σ ρ m' H' → Tr Pr F H Pr' F' H' → Z x m' → C.wx cls none σ H'

def J (c : Cl) (X : Cx) (C : Cn) (e : Expr) (t : DT C.W.M) : Prop := ∃ te, PE X e te ∧
  ∀ σ H Pr F ρ m Q Z (R : VK), SR X.K C Pr F σ ρ m H → Ex X C Pr F H σ ρ Z → t ρ m Q Z → (∀ v H', Post X.K C c Pr F H σ ρ Q v H' → R v H') → te σ H R
def JT (X : Cx) (C : Cn) (e : Expr) (t : DTT C.W.M) : Prop := ∃ te, PT X e te ∧
  ∀ σ H Pr F ρ m Q Z (R : Bool → Hp → Prop), SR X.K C Pr F σ ρ m H → Ex X C Pr F H σ ρ Z → t ρ m Q Z → (∀ v H', PostT X.K C Pr F H σ ρ Q v H' → R v H') → te σ H R
def JW (X : Cx) (C : Cn) (e : Expr) (t : DTT C.W.M) : Prop := ∃ te, PW X e te ∧
  ∀ σ H Pr F ρ m Q Z (R : Bool → Hp → Prop), SR X.K C Pr F σ ρ m H → Ex X C Pr F H σ ρ Z → t ρ m Q Z → (∀ v H', PostT X.K C Pr F H σ ρ Q v H' → R v H') → te σ H R
def JA (c : Cl) (X : Cx) (C : Cn) (es : List Expr) (t : DTA C.W.M) : Prop := ∃ te, PA X es te ∧
  ∀ σ H Pr F ρ m Q Z (R : List V → Hp → Prop), SR X.K C Pr F σ ρ m H → Ex X C Pr F H σ ρ Z → t ρ m Q Z → (∀ v H', PostA X.K C c Pr F H σ ρ Q v H' → R v H') → te σ H R

/-! ### moving answers -/
section
variable {K : PySem.W.Frag} {C : Cn} {Pr Pr' Pr2 : Addr → Prop} {F F' F2 : List Addr} {σ : L2.St} {ρ : En} {m m' : C.W.M} {H H' H2 : Hp} {v : V} {d : D} {vs : List V} {ds : List D}
theorem SR.sv_wv (S : SR K C Pr F σ ρ m H) : ∀ a o, sv C.H0 Pr H a = some o → wv F H a = some o := fun a o h => by
  obtain ⟨e, q⟩ := vw_iff.mp h
  refine vw_iff.mpr ⟨e, fun z => ?_⟩
  rcases q with q | q
  · obtain ⟨o', e', n⟩ := S.prs a (S.prf a z)
    rw [e] at e'; cases e'
    exact n q
  · exact q.2.1 (S.prf a z)
theorem SR.sv_rv (S : SR K C Pr F σ ρ m H) : ∀ a o, sv C.H0 Pr H a = some o → sv C.H0 (· ∈ F) H a = some o := fun a o h => by
  obtain ⟨e, q⟩ := vw_iff.mp h
  exact vw_iff.mpr ⟨e, q.imp id fun q => ⟨q.1, fun z => q.2.1 (S.prf a z), q.2.2⟩⟩
theorem rv_te {H0 : Hp} (t : Te Pr F H Pr' F' H') (ht : ∀ a ∈ F, ∃ o, H a = some o ∧ ¬ IsT o) : ∀ a o, sv H0 (· ∈ F) H a = some o → sv H0 (· ∈ F') H' a = some o := fun a o h => by
  obtain ⟨e, q⟩ := vw_iff.mp h
  have nf : a ∉ F := fun z => by
    rcases q with q | q
    · obtain ⟨o', e', n⟩ := ht a z
      rw [e] at e'; cases e'
      exact n q
    · exact q.2.1 z
  refine vw_iff.mpr ⟨t.all a o nf e, q.imp id fun q => ⟨q.1, fun z => ?_, q.2.2⟩⟩
  have z := t.fn a z nf
  rw [e] at z; cases z
theorem Dv.sw (S : SR K C Pr' F' σ ρ m H') (h : Dv K C .s Pr' F' H H' v d) : Dv K C .w Pr' F' H H' v d := Dn.weak (Dn.mono ⟨[], by simp⟩ S.sv_wv (show Dn true K F' (sv C.H0 Pr' H') v d from h))
theorem Dv.sr (S : SR K C Pr' F' σ ρ m H') (h : Dv K C .s Pr' F' H H' v d) : Dv K C .r Pr' F' H H' v d := Dn.mono ⟨[], by simp⟩ S.sv_rv (show Dn true K F' (sv C.H0 Pr' H') v d from h)
theorem Dv.fs (h : Dv K C .f Pr' F' H H' v d) : Dv K C .s Pr' F' H H' v d := h.1
theorem Post.imp {c c' : Cl} {Q : D → C.W.M → Prop} (h : Post K C c Pr F H σ ρ Q v H') (i : ∀ Pr' F' m' d, SR K C Pr' F' σ ρ m' H' → Dv K C c Pr' F' H H' v d → Dv K C c' Pr' F' H H' v d) : Post K C c' Pr F H σ ρ Q v H' := by
  obtain ⟨Pr', F', m', d, S, t, q, r⟩ := h
  exact ⟨Pr', F', m', d, S, t, i _ _ _ _ S q, r⟩
/-- an answer behind a further expression -/
theorem Dv.te {c : Cl} (hc : c ≠ .f) (S : SR K C Pr F σ ρ m H) (t : Te Pr F H Pr' F' H') {Ha Hb : Hp} (h : Dv K C c Pr F Ha H v d) : Dv K C c Pr' F' Hb H' v d := by
  cases c with
  | w => exact Dn.te t h
  | s => exact Dn.tr t.toTr S.prs h
  | r => exact Dn.mono t.pre (rv_te t fun a z => S.prs a (S.prf a z)) h
  | f => exact absurd rfl hc
theorem DvA.cons {c : Cl} (hc : c ≠ .f) {Ha : Hp} (h : Dv K C c Pr F Ha H v d) (r : DvA K C c Pr F H vs ds) : DvA K C c Pr F H (v :: vs) (d :: ds) := by
  cases c with
  | w => exact DnA.cons h r
  | s => exact DnA.cons h r
  | r => exact DnA.cons h r
  | f => exact absurd rfl hc
theorem Ex.te {X : Cx} {Z : Str → C.W.M → Prop} (h : Ex X C Pr F H σ ρ Z) (t : Tr Pr F H Pr' F' H') : Ex X C Pr' F' H' σ ρ Z := fun x cls P2 F2 m2 H2 e S t2 z => h x cls P2 F2 m2 H2 e S (t.trans t2) z
theorem Post.te {c : Cl} {Q : D → C.W.M → Prop} (t : Te Pr F H Pr' F' H') (h : Post K C c Pr' F' H' σ ρ Q v H2) : Post K C c Pr F H σ ρ Q v H2 := by
  obtain ⟨P2, F2, m2, d, S, t2, q, r⟩ := h
  refine ⟨P2, F2, m2, d, S, t.trans t2, ?_, r⟩
  cases c with
  | w => exact q
  | s => exact q
  | r => exact q
  | f =>
    refine ⟨q.1, fun ds e => ?_⟩
    obtain ⟨p, vs, e1, e2, e3⟩ := q.2 ds e
    exact ⟨p, vs, e1, some_of (t.stay p) e2, e3⟩
theorem PostA.te {c : Cl} {Q : List D → C.W.M → Prop} (t : Te Pr F H Pr' F' H') (h : PostA K C c Pr' F' H' σ ρ Q vs H2) : PostA K C c Pr F H σ ρ Q vs H2 := by
  obtain ⟨P2, F2, m2, d, S, t2, q, r⟩ := h
  exact ⟨P2, F2, m2, d, S, t.trans t2, q, r⟩
theorem PostT.te {Q : Bool → C.W.M → Prop} {b : Bool} (t : Te Pr F H Pr' F' H') (h : PostT K C Pr' F' H' σ ρ Q b H2) : PostT K C Pr F H σ ρ Q b H2 := by
  obtain ⟨P2, F2, m2, S, t2, r⟩ := h
  exact ⟨P2, F2, m2, S, t.trans t2, r⟩
/-- data without a list, as an answer of any kind -/
theorem dv_flat (S : SR K C Pr' F' σ ρ m H') (h : Dn true K F' (sv C.H0 Pr' H') v d) (n : ∀ ds, d ≠ .lst ds) : Dv K C .f Pr' F' H H' v d := ⟨h, fun ds e => absurd e (n ds)⟩
end

section
variable {X : Cx} {C : Cn} {e : Expr} {es : List Expr} {pos : Pos}
theorem J.up {c c' : Cl} {t : DT C.W.M} (h : J c X C e t) (i : ∀ Pr' F' m' d H H' v σ ρ, SR X.K C Pr' F' σ ρ m' H' → Dv X.K C c Pr' F' H H' v d → Dv X.K C c' Pr' F' H H' v d) : J c' X C e t := by
  obtain ⟨te, p, q⟩ := h
  exact ⟨te, p, fun σ H Pr F ρ m Q Z R S E h k => q σ H Pr F ρ m Q Z R S E h fun v H' z => k v H' (z.imp fun _ _ _ _ S => i _ _ _ _ _ _ _ _ _ S)⟩
theorem J.sf {t : DT C.W.M} (h : J .f X C e t) : J .s X C e t := h.up fun _ _ _ _ _ _ _ _ _ S q => q.fs
theorem J.sw {t : DT C.W.M} (h : J .s X C e t) : J .w X C e t := h.up fun _ _ _ _ _ _ _ _ _ S q => q.sw S
theorem J.sr {t : DT C.W.M} (h : J .s X C e t) : J .r X C e t := h.up fun _ _ _ _ _ _ _ _ _ S q => q.sr S
theorem J.fw {t : DT C.W.M} (h : J .f X C e t) : J .w X C e t := h.sf.sw
theorem J.fr {t : DT C.W.M} (h : J .f X C e t) : J .r X C e t := h.sf.sr

/-! ### names and constants -/
def dVar {M : Type} (i : Nat) : DT M := fun ρ m Q _ => match ρ[i]? with | some (.val d) => Q d m | _ => False
def dBor {M : Type} (i : Nat) : DT M := fun ρ m Q _ => match ρ[i]? with | some (.bor d) => Q d m | _ => False
def dOwn {M : Type} (i : Nat) : DT M := fun ρ m Q _ => match ρ[i]? with | some (.own ds) => Q (.lst ds) m | _ => False
def dC {M : Type} (d : D) : DT M := fun _ m Q _ => Q d m
theorem j_var (i : Nat) {x : Str} (hN : X.N[i]? = some x := by rfl) (hv : Vis X.env.scope x := by first | exact Or.inl rfl | exact Or.inr (Or.inl rfl) | exact Or.inr (Or.inr rfl)) (hd : (x == ("__debug__" : Str)) = false := by decide)
    (hcd : (x == ("__classdict__" : Str)) = false := by decide) : J .s X C (.Name x pos) (dVar i) := by
  refine ⟨_, pe_var hN hv hd hcd, fun σ H Pr F ρ m Q Z R S E h k => ?_⟩
  unfold dVar at h
  split at h
  · rename_i d e
    obtain ⟨v, e1, q⟩ := S.slot i _ e
    exact ⟨v, e1, k _ _ ⟨Pr, F, m, d, S, Te.refl, q, h⟩⟩
  · exact h.elim
theorem j_bor (i : Nat) {x : Str} (hN : X.N[i]? = some x := by rfl) (hv : Vis X.env.scope x := by first | exact Or.inl rfl | exact Or.inr (Or.inl rfl) | exact Or.inr (Or.inr rfl)) (hd : (x == ("__debug__" : Str)) = false := by decide)
    (hcd : (x == ("__classdict__" : Str)) = false := by decide) : J .w X C (.Name x pos) (dBor i) := by
  refine ⟨_, pe_var hN hv hd hcd, fun σ H Pr F ρ m Q Z R S E h k => ?_⟩
  unfold dBor at h
  split at h
  · rename_i d e
    obtain ⟨v, e1, q⟩ := S.slot i _ e
    refine ⟨v, e1, k _ _ ⟨Pr, F, m, d, S, Te.refl, q.mono S.pre fun a o z => ?_, h⟩⟩
    obtain ⟨e, n⟩ := vw_iff.mp z
    refine vw_iff.mpr ⟨S.keep a o n e, fun z => ?_⟩
    rw [S.new a z n] at e; cases e
  · exact h.elim
theorem j_own (i : Nat) {x : Str} (hN : X.N[i]? = some x := by rfl) (hv : Vis X.env.scope x := by first | exact Or.inl rfl | exact Or.inr (Or.inl rfl) | exact Or.inr (Or.inr rfl)) (hd : (x == ("__debug__" : Str)) = false := by decide)
    (hcd : (x == ("__classdict__" : Str)) = false := by decide) : J .w X C (.Name x pos) (dOwn i) := by
  refine ⟨_, pe_var hN hv hd hcd, fun σ H Pr F ρ m Q Z R S E h k => ?_⟩
  unfold dOwn at h
  split at h
  · rename_i d e
    obtain ⟨p, vs, e1, hp, pp, nf, q, n⟩ := S.slot i _ e
    exact ⟨.ref p, e1, k _ _ ⟨Pr, F, m, .lst d, S, Te.refl, .lst (.inl (.inl (vw_iff.mpr ⟨hp, nf⟩))) (q.mono ⟨[], by simp⟩ S.sv_wv).weak, h⟩⟩
  · exact h.elim
/-- .. handed back -/
theorem j_ownr (i : Nat) {x : Str} (hN : X.N[i]? = some x := by rfl) (hv : Vis X.env.scope x := by first | exact Or.inl rfl | exact Or.inr (Or.inl rfl) | exact Or.inr (Or.inr rfl)) (hd : (x == ("__debug__" : Str)) = false := by decide)
    (hcd : (x == ("__classdict__" : Str)) = false := by decide) : J .r X C (.Name x pos) (dOwn i) := by
  refine ⟨_, pe_var hN hv hd hcd, fun σ H Pr F ρ m Q Z R S E h k => ?_⟩
  unfold dOwn at h
  split at h
  · rename_i d e
    obtain ⟨p, vs, e1, hp, pp, nf, q, n⟩ := S.slot i _ e
    exact ⟨.ref p, e1, k _ _ ⟨Pr, F, m, .lst d, S, Te.refl, .lst (vw_iff.mpr ⟨hp, .inr ⟨trivial, nf, S.prn p pp nf⟩⟩) (q.mono ⟨[], by simp⟩ S.sv_rv), h⟩⟩
  · exact h.elim
theorem j_cst {te : V} {d : D} (p : PE X e (tC te)) (h : ∀ F G, Dn true X.K F G te d) (n : ∀ ds, d ≠ .lst ds) : J .f X C e (dC d) :=
  ⟨_, p, fun σ H Pr F ρ m Q Z R S E q k => k _ _ ⟨Pr, F, m, d, S, Te.refl, dv_flat S (h _ _) n, q⟩⟩
theorem j_int {i j} : J .f X C (.Constant (.int i) j pos) (dC (.int i)) := j_cst pe_int (fun _ _ => .int i) (fun _ h => nomatch h)
theorem j_bl {b j} : J .f X C (.Constant (.bool b) j pos) (dC (.bl b)) := j_cst pe_bl (fun _ _ => .bl b) (fun _ h => nomatch h)
theorem j_non {j} : J .f X C (.Constant .none j pos) (dC .non) := j_cst pe_non (fun _ _ => .non) (fun _ h => nomatch h)
theorem j_str {x j} : J .f X C (.Constant (.str x) j pos) (dC (.str x)) := j_cst pe_str (fun _ _ => .str x) (fun _ h => nomatch h)
/-- a constant of the module -/
def Cst (K : PySem.W.Frag) (mg : Str → Option Value) (x : Str) (d : D) : Prop := ∃ u v, mg x = some u ∧ RelV v u ∧ Dn true K [] (fun _ => none) v d
theorem j_glob {x : Str} {d : D} (hg : Gl X x) (h : Cst X.K X.mg x d) (hd : (x == ("__debug__" : Str)) = false := by decide) : J .f X C (.Name x pos) (dC d) := by
  obtain ⟨u, v, hm, r, q⟩ := h
  refine j_cst (pe_glob hg hm r hd) (fun F G => q.mono ⟨F, by simp⟩ fun a o z => by cases z) fun ds e => ?_
  subst e
  cases q with
  | lst h _ => cases h

/-! ### arguments, displays -/
def dNil {M : Type} : DTA M := fun _ m Q _ => Q [] m
def dCons {M : Type} (t : DT M) (u : DTA M) : DTA M := fun ρ m Q Z => t ρ m (fun d m1 => u ρ m1 (fun ds m2 => Q (d :: ds) m2) Z) Z
theorem ja_nil {c : Cl} : JA c X C [] dNil := ⟨_, pa_nil, fun σ H Pr F ρ m Q Z R S E h k => k _ _ ⟨Pr, F, m, [], S, Te.refl, by cases c <;> exact .nil, h⟩⟩
theorem ja_cons {c : Cl} {t : DT C.W.M} {u : DTA C.W.M} (hc : c ≠ .f) (h : J c X C e t) (r : JA c X C es u) (hs : starEach (e :: es) X.env = (false, eval e X.env) :: starEach es X.env := by rfl) : JA c X C (e :: es) (dCons t u) := by
  obtain ⟨te, p, q⟩ := h
  obtain ⟨tr, p', q'⟩ := r
  refine ⟨_, pa_cons p p' hs, fun σ H Pr F ρ m Q Z R S E h k => ?_⟩
  refine q σ H Pr F ρ m _ Z _ S E h fun v H1 z => ?_
  obtain ⟨P1, F1, m1, d, S1, t1, dv, z⟩ := z
  refine q' σ H1 P1 F1 ρ m1 _ Z _ S1 (E.te t1.toTr) z fun vs H2 z => k _ _ ?_
  obtain ⟨P2, F2, m2, ds, S2, t2, dvs, z⟩ := z
  exact ⟨P2, F2, m2, d :: ds, S2, t1.trans t2, DvA.cons hc (dv.te hc S1 t2 (Hb := H)) dvs, z⟩

def dTup {M : Type} (t : DTA M) : DT M := fun ρ m Q Z => t ρ m (fun ds m1 => ds.length ≤ sizeLine ∧ Q (.tup ds) m1) Z
def dLst {M : Type} (t : DTA M) : DT M := fun ρ m Q Z => t ρ m (fun ds m1 => ds.length ≤ sizeLine ∧ Q (.lst ds) m1) Z
theorem DvA.len {K : PySem.W.Frag} {c : Cl} {Pr : Addr → Prop} {F : List Addr} {H : Hp} {vs : List V} {ds : List D} (h : DvA K C c Pr F H vs ds) : vs.length = ds.length := by
  cases c <;> exact DnA.length h
theorem j_tup {t : DTA C.W.M} {k} (h : JA .s X C es t) : J .f X C (.Tuple es k pos) (dTup t) := by
  obtain ⟨te, p, q⟩ := h
  refine ⟨_, pe_tup p, fun σ H Pr F ρ m Q Z R S E h k => ?_⟩
  refine q σ H Pr F ρ m _ Z _ S E h fun vs H1 ⟨P1, F1, m1, ds, S1, t1, dv, z, r⟩ => ⟨by rw [dv.len]; exact z, fun p hp => k _ _ ?_⟩
  obtain ⟨S2, t2⟩ := S1.new1 (o := .tup vs) hp
  exact ⟨P1, F1, m1, .tup ds, S2, t1.trans t2, dv_flat S2 (.tup (.inl (vw_iff.mpr ⟨upd_same, .inl trivial⟩)) (DnA.mono t2.pre (sv_tr t2.toTr S1.prs) dv)) (fun _ h => nomatch h), r⟩
/-- .. handed back -/
theorem j_tupr {t : DTA C.W.M} {k} (h : JA .r X C es t) : J .r X C (.Tuple es k pos) (dTup t) := by
  obtain ⟨te, p, q⟩ := h
  refine ⟨_, pe_tup p, fun σ H Pr F ρ m Q Z R S E h k => ?_⟩
  refine q σ H Pr F ρ m _ Z _ S E h fun vs H1 ⟨P1, F1, m1, ds, S1, t1, dv, z, r⟩ => ⟨by rw [dv.len]; exact z, fun p hp => k _ _ ?_⟩
  obtain ⟨S2, t2⟩ := S1.new1 (o := .tup vs) hp
  exact ⟨P1, F1, m1, .tup ds, S2, t1.trans t2, .tup (.inl (vw_iff.mpr ⟨upd_same, .inl trivial⟩)) (DnA.mono t2.pre (rv_te t2 fun a z => S1.prs a (S1.prf a z)) dv), r⟩
theorem j_lst {t : DTA C.W.M} (h : JA .s X C es t) : J .f X C (.List es pos) (dLst t) := by
  obtain ⟨te, p, q⟩ := h
  refine ⟨_, pe_lst p, fun σ H Pr F ρ m Q Z R S E h k => ?_⟩
  refine q σ H Pr F ρ m _ Z _ S E h fun vs H1 ⟨P1, F1, m1, ds, S1, t1, dv, z, r⟩ => ⟨by rw [dv.len]; exact z, fun p hp => k _ _ ?_⟩
  obtain ⟨S2, t2⟩ := S1.new1 (o := .lst vs) hp
  have np := S1.np hp
  have dv2 : DnA true X.K F1 (sv C.H0 P1 (upd H1 p (.lst vs))) vs ds := DnA.mono t2.pre (sv_tr t2.toTr S1.prs) dv
  exact ⟨P1, F1, m1, .lst ds, S2, t1.trans t2, ⟨.lst (vw_iff.mpr ⟨upd_same, .inr ⟨trivial, np, S1.h0n hp⟩⟩) dv2, fun ds' e => by cases e; exact ⟨p, vs, rfl, some_of (t1.stay p) hp, np, upd_same, dv2⟩⟩, r⟩

/-! ### operators -/
/-- an operator over data: of two answers that are looked at -/
abbrev G2 := D → D → (D → Prop) → Prop
def OpOk (X : Cx) (C : Cn) (f : Value → Value → Sem Value) (g : G2) : Prop := ∃ r, OpR X f r ∧
  ∀ σ H Pr F ρ m x y dx dy Q (R : VK), SR X.K C Pr F σ ρ m H → Dn false X.K F (wv F H) x dx → Dn false X.K F (wv F H) y dy → g dx dy (fun d => Q d m) → (∀ v H', Post X.K C .f Pr F H σ ρ Q v H' → R v H') → r x y H R
def dBin {M : Type} (g : G2) (t u : DT M) : DT M := fun ρ m Q Z => t ρ m (fun x m1 => u ρ m1 (fun y m2 => g x y fun d => Q d m2) Z) Z
variable {a b c : Expr} {ta tb tc : DT C.W.M}
theorem j_bin {op : Operator} {g : G2} (o : OpOk X C (binaryOp op) g) (ha : J .w X C a ta) (hb : J .w X C b tb) : J .f X C (.BinOp a op b pos) (dBin g ta tb) := by
  obtain ⟨r, ho, q⟩ := o
  obtain ⟨te, p, q1⟩ := ha
  obtain ⟨te', p', q2⟩ := hb
  refine ⟨_, pe_op ho p p', fun σ H Pr F ρ m Q Z R S E h k => ?_⟩
  refine q1 σ H Pr F ρ m _ Z _ S E h fun v H1 ⟨P1, F1, m1, d, S1, t1, dv, z⟩ => ?_
  refine q2 σ H1 P1 F1 ρ m1 _ Z _ S1 (E.te t1.toTr) z fun w H2 ⟨P2, F2, m2, d2, S2, t2, dv2, z2⟩ => ?_
  exact q σ H2 P2 F2 ρ m2 v w d d2 Q R S2 (Dn.te t2 dv) dv2 z2 fun v H' z => k v H' ((z.te t2).te t1)
/-- an answer that is no list, the state as it stands -/
theorem post_here {C : Cn} {K : PySem.W.Frag} {Pr : Addr → Prop} {F : List Addr} {H : Hp} {σ : L2.St} {ρ : En} {m : C.W.M} {Q : D → C.W.M → Prop} {v : V} {d : D} (S : SR K C Pr F σ ρ m H) (h : Dn true K F (sv C.H0 Pr H) v d) (n : ∀ ds, d ≠ .lst ds) (q : Q d m) :
    Post K C .f Pr F H σ ρ Q v H := ⟨Pr, F, m, d, S, Te.refl, dv_flat S h n, q⟩
def gII (P : Int → Int → Prop) (f : Int → Int → D) : G2 := fun x y Q => match x, y with | .int i, .int j => P i j ∧ Q (f i j) | _, _ => False
theorem Dn.toInt {s : Bool} {K : PySem.W.Frag} {F : List Addr} {G : Hp} {v : V} {i : Int} (h : Dn s K F G v (.int i)) : v = .int i := by cases h; rfl
theorem opok_int {f : Value → Value → Sem Value} {P : Int → Int → Prop} {g : Int → Int → Int} (h : OpR X f (rI P fun i j => .int (g i j))) : OpOk X C f (gII P fun i j => .int (g i j)) := by
  refine ⟨_, h, fun σ H Pr F ρ m x y dx dy Q R S hx hy q k => ?_⟩
  unfold gII at q
  split at q
  · rw [hx.toInt, hy.toInt]
    exact ⟨_, _, rfl, rfl, q.1, k _ _ (post_here S (.int _) (fun _ h => nomatch h) q.2)⟩
  · exact q.elim
theorem opok_cmp {f : Value → Value → Sem Value} {P : Int → Int → Prop} {g : Int → Int → Bool} (h : OpR X f (rI P fun i j => .bl (g i j))) : OpOk X C f (gII P fun i j => .bl (g i j)) := by
  refine ⟨_, h, fun σ H Pr F ρ m x y dx dy Q R S hx hy q k => ?_⟩
  unfold gII at q
  split at q
  · rw [hx.toInt, hy.toInt]
    exact ⟨_, _, rfl, rfl, q.1, k _ _ (post_here S (.bl _) (fun _ h => nomatch h) q.2)⟩
  · exact q.elim
def g0 (f : Int → Int → D) : G2 := fun x y Q => match x, y with | .int i, .int j => Q (f i j) | _, _ => False
theorem opok_int0 {f : Value → Value → Sem Value} {g : Int → Int → Int} (h : OpR X f (rI0 fun i j => .int (g i j))) : OpOk X C f (g0 fun i j => .int (g i j)) := by
  refine ⟨_, h, fun σ H Pr F ρ m x y dx dy Q R S hx hy q k => ?_⟩
  unfold g0 at q
  split at q
  · rw [hx.toInt, hy.toInt]
    exact ⟨_, _, rfl, rfl, k _ _ (post_here S (.int _) (fun _ h => nomatch h) q)⟩
  · exact q.elim
theorem opok_cmp0 {f : Value → Value → Sem Value} {g : Int → Int → Bool} (h : OpR X f (rI0 fun i j => .bl (g i j))) : OpOk X C f (g0 fun i j => .bl (g i j)) := by
  refine ⟨_, h, fun σ H Pr F ρ m x y dx dy Q R S hx hy q k => ?_⟩
  unfold g0 at q
  split at q
  · rw [hx.toInt, hy.toInt]
    exact ⟨_, _, rfl, rfl, k _ _ (post_here S (.bl _) (fun _ h => nomatch h) q)⟩
  · exact q.elim
theorem ok_sub : OpOk X C (binaryOp .Sub) (g0 fun i j => .int (i - j)) := opok_int0 op_sub
theorem ok_pow : OpOk X C (binaryOp .Pow) (gII CPow fun i j => .int (i ^ j.toNat)) := opok_int op_pow
theorem op_mulA : OpR X (binaryOp .Mult) (rI IntMulOk fun i j => .int (i * j)) := opI fun _ _ _ _ _ _ _ hc q => mul_int q hc
theorem ok_mul : OpOk X C (binaryOp .Mult) (gII IntMulOk fun i j => .int (i * j)) := opok_int op_mulA
def Nz (_ j : Int) : Prop := j ≠ 0
theorem ok_mod : OpOk X C (binaryOp .Mod) (gII Nz fun i j => .int (i.fmod j)) := opok_int op_modN
def Nd (i j : Int) : Prop := j ≠ 0 ∧ Builtin.divisionGoesByPylong i j = false
theorem op_fdivA : OpR X (binaryOp .FloorDiv) (rI Nd fun i j => .int (i.fdiv j)) := opI fun _ _ _ _ _ _ _ hc q => floordiv_int hc.1 q (.inl hc.2)
theorem ok_fdiv : OpOk X C (binaryOp .FloorDiv) (gII Nd fun i j => .int (i.fdiv j)) := opok_int op_fdivA
end
end RR

/-! RQ: promises of defs where it is known that no repr is under way (the guards are known to be none) -/
namespace RR
open PySem PySem.Spec PyProof.Rows L2
structure RoomG (k : Nat) (A : Around) : Prop extends Room k A where
  gd : A.guards = some []
theorem RoomG.mono {i k : Nat} {A : Around} (r : RoomG k A) (h : i ≤ k) : RoomG i A := ⟨r.toRoom.mono h, r.gd⟩
theorem RoomG.next {k : Nat} {A : Around} (r : RoomG (k + 1) A) (env : Env) : RoomG k (A.deeper env) := ⟨r.toRoom.deeper env, r.gd⟩
structure FnG (P : Program) (w : World) (K : PySem.W.Frag) (mg : Str → Option Value) (B : Heap) (C : CXT) (k : Nat) (f : Addr) (fd : FuncData) (ps : List Str) (sp : Sp) : Prop where
  ln : ∀ {vs H Q E}, sp vs H Q E → vs.length = ps.length
  go : ∀ {A : Around} {out : List Env} {s : Shared} {H : Hp} {args : Args} {us : List Value} {vs : List V} {Q : VK} {E : XK}, RoomG k A → Env0 P w K mg B A out s H → BindsTo s fd args (ps.zip us) → Vals vs us → sp vs H Q E →
    codeAny (model P w) A (.call (.ref f) args) (CR C out P w H s Q E) s
section
variable {P : Program} {w : World} {K : PySem.W.Frag} {mg : Str → Option Value} {B : Heap} {C : CXT} {k : Nat} {f : Addr} {fd : FuncData} {ps : List Str} {sp sp' : Sp}
theorem FnG.mono {j : Nat} (F : FnG P w K mg B C j f fd ps sp) (h : j ≤ k) : FnG P w K mg B C k f fd ps sp := ⟨F.ln, fun r => F.go (r.mono h)⟩
theorem FnG.imp (F : FnG P w K mg B C k f fd ps sp) (h : ∀ vs H Q E, sp' vs H Q E → sp vs H Q E) : FnG P w K mg B C k f fd ps sp' := ⟨fun q => F.ln (h _ _ _ _ q), fun r e b v q => F.go r e b v (h _ _ _ _ q)⟩
/-- from the body -/
theorem fnG_mk {oc dV kV doc pm cdv ct : Value} {od an : Option Addr} {osl : Array (Option Value)} {nm ql : Str} {par : Arguments} {bd : List Stmt} {sc : Scope} {N : List Str}
    (lk : K.lookup f = some ⟨oc, od, .func (PySem.W.fnOf nm ql par bd sc dV kV doc pm an cdv ct), osl⟩) (cd : PySem.W.codeIn K cdv ql = true) (S : FnScope N ps sc) (ln : ∀ vs H Q E, sp vs H Q E → vs.length = ps.length)
    (body : ∀ {A : Around} {out : List Env} {s : Shared} {H : Hp} {vs : List V} {Q : VK} {E : XK}, RoomG k (A.deeper (envOfC ql sc s.heap.objs.size f cdv)) → sp vs H Q E →
      ∃ t, PSs (cxOf C P w K mg B N ql sc f cdv A out s H E) bd t ∧ t { nx := fun _ H1 => Q .non H1, rt := Q } (start N vs) H) : FnG P w K mg B C (k + 1) f (PySem.W.fnOf nm ql par bd sc dV kV doc pm an cdv ct) ps sp := by
  constructor
  · exact fun q => ln _ _ _ _ q
  intro A out s H args us vs Q E room env binds vals asked
  obtain ⟨t, walked, told⟩ := body (A := A) (out := out) (s := s) (H := H) (vs := vs) (Q := Q) (E := E) (room.next _) asked
  have there : ∀ b o, B.get? b = some o → s.heap.get? b = some o := fun b o q => (env.bs b o q).1
  have inS : K.In s.heap := env.mod.kin.keeps there
  have kinds : ∀ y ∈ ps.zip us, sc.names.lookup y.1 = some .local ∨ (sc.names.lookup y.1 = some .cell ∧ ((cellsFrom (s.heap.objs.size + 1) sc.names []).lookup y.1).isSome = true) := by
    rintro ⟨n, u⟩ hy
    exact (S.par n (List.of_mem_zip hy).1).imp id fun q => ⟨q, PySem.W.cellsFrom_some _ _ _ (.inl q)⟩
  refine codeAny_call_function room.toRoom.depth (inS _ _ lk) rfl S.co S.gen rfl (PySem.W.codeRec_of inS cd) (binds _ _ _ _ ?_)
  refine wpAny_newFunctionEnv_cells S.kind kinds fun ev he s1 x => ?_
  subst he
  refine ⟨(env.mod.nolimit.keeps there).keeps x.toInCall.keep, codeAny_func ?_⟩
  have inv := inv_start (CX := C) (E := E) S room.toRoom.hd env (ln _ _ _ _ asked) vals x
  refine wpAny_mono (walked.run [] s1 (start N vs) H _ inv told) (fun fl s2 z => ?_) fun _ _ z => z
  have close : ∀ {σ : L2.St} {H2 : Hp} {v : V} {u : Value}, Inv (cxOf C P w K mg B N ql sc f cdv A out s H E) [] σ H2 s2 → RelV v u → Q v H2 → CE out P w H s Q u s2 := fun J rv q => ⟨_, _, J.os, J.bare, J.base, J.hok, rv, q⟩
  match fl, z with
  | .ret _, ⟨_, _, _, J, rv, q⟩ => exact close J rv q
  | .next, ⟨_, _, J, q⟩ => exact close (v := .non) (u := Value.none) J rfl q
  | .brk, ⟨_, _, _, q⟩ => exact q.elim
  | .cont, ⟨_, _, _, q⟩ => exact q.elim
theorem okG {x ql : Str} {st : Stmt} {N : List Str} (F : Fun K x ql st f fd) (S : FnScope N ps (defScope st)) (ln : ∀ vs H Q E, sp vs H Q E → vs.length = ps.length)
    (body : ∀ (cdv : Value) (A : Around) (out : List Env) (s : Shared) (H : Hp) (vs : List V) (Q : VK) (E : XK), RoomG k (A.deeper (envOfC ql (defScope st) s.heap.objs.size f cdv)) → sp vs H Q E →
      ∃ t, PSs (cxOf (L2.CX P w) P w K mg B N ql (defScope st) f cdv A out s H E) (defBody st) t ∧ t { nx := fun _ H1 => Q .non H1, rt := Q } (start N vs) H) : FnG P w K mg B (L2.CX P w) (k + 1) f fd ps sp := by
  obtain ⟨_, _, _, _, _, _, cdv, _, _, rfl, lk, cd⟩ := F.ex
  exact fnG_mk lk cd S ln fun room asked => body cdv _ _ _ _ _ _ _ room asked
end
section
variable {X : Cx} {C : CXT} {k : Nat} {f : Addr} {fd : FuncData} {ps : List Str} {sp : Sp} {ds : List Value} {dvs : List V} {E : L2.St → XK} {x : Str} {p pos : Pos} {e : Expr} {es : List Expr} {t : TA}
/-- a call of such a def by its name -/
theorem pe_callG (F : FnG X.prog X.w X.K X.mg X.base C k f fd ps sp) (room : RoomG k X.A) (gl : Gl X x) (gm : X.mg x = some (.ref f)) (kp : PySem.W.keepIn X.K (.ref f) = true) (bn : Binds X.K fd ps ds) (dv : Vals dvs ds) (px : ∀ σ, PassesAt C X σ (E σ)) (ha : PA X (e :: es) t)
    (db : (x == ("__debug__" : Str)) = false := by decide) (he : starEach (e :: es) X.env = (false, eval e X.env) :: starEach es X.env := by rfl) (hpl : (backTo pos (starEach es X.env)).any (·.1) = false := by rfl) : PE X (.Call (.Name x p) (e :: es) [] pos) (tCallSD sp dvs E t) := by
  constructor
  intro pins s σ H Q I asked
  refine wpAny_Call_Name_kw (ld_glob I gl gm ?_ db)
  refine PySem.W.callWith_K (h₀ := X.base) I.ok.mod.kin kp (thn (ha.run pos pins s σ H _ I asked) ?_) he hpl
  rintro us s1 ⟨vs, H1, I1, r, z⟩
  have both : Vals (vs ++ dvs) (us ++ ds) := r.append dv
  have size : (us ++ ds).length = ps.length := both.length.symm.trans (F.ln z)
  refine ⟨I1.kIn, wpAny_call (codeAny_mono (F.go (args := ⟨us, []⟩) room I1.env0 (bn s1 us I1.kIn size) both z) fun r s2 z2 => ?_)⟩
  match r, z2 with
  | .error e, z2 => exact px σ pins H1 s1 e s2 I1 z2
  | .ok (.ret u), z2 => exact I1.after z2
  | .ok .next, z2 => exact z2.elim
  | .ok .brk, z2 => exact z2.elim
  | .ok .cont, z2 => exact z2.elim
end
end RR

/-! RQ2: the law's own call and the row's end, for such promises -/
namespace RR
open PySem PySem.Spec PyProof.Rows L2
section
variable {P : Program} {w : World} {K : PySem.W.Frag} {mg mb : Str → Option Value} {C : CXT} {k : Nat} {fa a : Addr} {fd : FuncData} {x : Str} {sp : Sp} {s : Shared} {us : List Value} {zs : List Int}
abbrev scrObj (us : List Value) : Obj := { cls := .type "list", data := .seq us.toArray }
/-- the call, out of a heap of which at most the script is told, frozen -/
theorem call_in (H : Hp) (inK : K.In s.heap) (ns : s.heap.Ns mainGlobals mg) (nb : s.heap.Ns builtinsNs mb) (bb : ∀ y : Str, y ≠ "__name__" → mb y = bootBuiltins y) (nl : s.heap.NoLimit) (ng : s.gens = #[]) (at_ : s.heap.get? a = some (scrObj us))
    (told : ∀ b u, H b = some u → b = a ∧ (∃ ys, u = .frz (scrObj us) (.lst ys)) ∧ K.lookup a = none) (ok : HOk P w H s.heap) (room : Room k callerA) (F : ∀ B : Heap, K.In B → B.Ns mainGlobals mg → FnG P w K mg B C k fa fd [x] sp) (bind : ∀ (s : Shared) (u : Value), BindsTo s fd ⟨[u], []⟩ [(x, u)])
    (asked : sp [.ref a] H (fun v _ => v = .bl true) fun _ _ _ => False) (noX : ∀ e s2, C [] H s (fun _ _ _ => False) e s2 → False) :
    codeAny (model P w) callerA (.call (.ref fa) ⟨[.ref a], []⟩) (fun r s2 => r = .ok (.ret (.bool true)) ∧ OldK s.heap s2.heap ∧ s2.os = s.os ∧ AllBare s2.gens) s := by
  -- what isn't the script stands in the hidden heap as it stood
  have stays : ∀ {b : Addr} {o : Obj}, s.heap.get? b = some o → b ≠ a → (hidT s.heap H).get? b = some o := fun {b o} e n =>
    hidT_get e (Option.eq_none_iff_forall_ne_some.mpr fun u z => n (told b u z).1)
  have table : ∀ {b : Addr} {m : Str → Option Value}, s.heap.Ns b m → (hidT s.heap H).Ns b m := by
    rintro b m ⟨o, es, ep, e, d, r⟩
    refine ⟨o, es, ep, stays e fun z => ?_, d, r⟩
    rw [z, at_] at e
    have e2 := Option.some.inj e
    rw [← e2] at d
    exact Data.noConfusion d
  have inH : K.In (hidT s.heap H) := fun b o e => by
    by_cases z : H b = none
    · exact hidT_get (inK b o e) z
    · obtain ⟨u, hu⟩ := Option.ne_none_iff_exists'.mp z
      obtain ⟨rfl, _, no⟩ := told b u hu
      rw [no] at e
      exact nomatch e
  obtain ⟨mc, nc1, nc2⟩ := nl
  have env : Env0 P w K mg (hidT s.heap H) callerA [] s H := { frames := rfl, mod := ⟨inH, table ns, ⟨mb, table nb, bb⟩, ⟨mc, table nc1, nc2⟩⟩, bs := fun b o => of_hidT, bsz := Nat.le_of_eq (hidT_size _ _), funs := trivial, frf := fun b hb => (nomatch hb), hok := ok, bare := .of_eq ng }
  refine codeAny_mono ((F _ inH (table ns)).go (args := ⟨[.ref a], []⟩) (us := [.ref a]) (vs := [.ref a]) ⟨room, rfl⟩ env (bind s (.ref a)) (.cons rfl .nil) asked) fun r s2 z => ?_
  match r, z with
  | .error e, z => exact (noX e s2 z).elim
  | .ok .next, z => exact z.elim
  | .ok .brk, z => exact z.elim
  | .ok .cont, z => exact z.elim
  | .ok (.ret u), ⟨v, H2, os, bare, un, ok2, rel, q⟩ =>
    have q : v = .bl true := q
    subst q
    obtain rfl : u = Value.bool true := rel
    refine ⟨rfl, .of_keep fun b o e => ?_, os, bare⟩
    cases hb : H b with
    | none => exact un.keep b o e hb (List.not_mem_nil) List.not_mem_nil
    | some u =>
      obtain ⟨_, ⟨ys, rfl⟩, _⟩ := told b u hb
      have f1 := (ok b _ hb).1
      have f2 := (ok2 b _ (un.frzs b _ _ hb)).1
      exact f2.trans (f1.symm.trans e)
theorem law_callG (inK : K.In s.heap) (ns : s.heap.Ns mainGlobals mg) (nb : s.heap.Ns builtinsNs mb) (bb : ∀ y : Str, y ≠ "__name__" → mb y = bootBuiltins y) (nl : s.heap.NoLimit) (ng : s.gens = #[]) (at_ : s.heap.get? a = some (scrObj us)) (isI : IntsAre us zs) (sz : zs.length ≤ sizeLine)
    (room : Room k callerA) (F : ∀ B : Heap, K.In B → B.Ns mainGlobals mg → FnG P w K mg B C k fa fd [x] sp) (bind : ∀ (s : Shared) (u : Value), BindsTo s fd ⟨[u], []⟩ [(x, u)])
    (asked : ∀ H : Hp, SqL K H a (zs.map V.int) → sp [.ref a] H (fun v _ => v = .bl true) fun _ _ _ => False) (noX : ∀ H e s2, C [] H s (fun _ _ _ => False) e s2 → False) :
    codeAny (model P w) callerA (.call (.ref fa) ⟨[.ref a], []⟩) (fun r s2 => r = .ok (.ret (.bool true)) ∧ OldK s.heap s2.heap ∧ s2.os = s.os ∧ AllBare s2.gens) s := by
  have rel := vals_ints isI
  have same := isI.length
  rcases hk : K.lookup a with _ | o
  · let H : Hp := fun b => if b = a then some (.frz (scrObj us) (.lst (zs.map V.int))) else none
    have told : ∀ b u, H b = some u → b = a ∧ u = .frz (scrObj us) (.lst (zs.map V.int)) := fun b u z => by
      by_cases hb : b = a
      · exact ⟨hb, (Option.some.inj ((if_pos hb).symm.trans z)).symm⟩
      · exact nomatch (if_neg hb).symm.trans z
    refine call_in H inK ns nb bb nl ng at_ (fun b u z => ⟨(told b u z).1, ⟨_, (told b u z).2⟩, hk⟩) (fun b u z => ?_) room F bind (asked H (.inl (.inr ⟨scrObj us, if_pos rfl⟩))) (noX H)
    obtain ⟨rfl, rfl⟩ := told b u z
    exact ⟨at_, by rw [List.length_map]; exact sz, us, _, rel, at_⟩
  · have e := Option.some.inj (at_.symm.trans (inK a o hk))
    subst e
    exact call_in (fun _ => none) inK ns nb bb nl ng at_ (fun b u z => nomatch z) (fun b u z => nomatch z) room F bind (asked _ (.inr ⟨_, us.toArray, _, hk, rfl, rfl, rfl, by rw [List.size_toArray, same]; exact sz, by simpa using rel⟩)) (noX _)
end
theorem walk_ofG {l : PySem.W.OpenLaw} {n k : Nat} {q : Program} {loose : List Str} {XP : (Str → Option Value) → Heap → Prop} {YP : World → Heap → Prop} {d : DefRec} {K : Params → PySem.W.Frag} {C : World → CXT} {sp : World → Sp} {x : Str}
    (most : l.most = some n) (n2 : n ≤ sizeLine) (nodef : d.params.defaults = []) (room : Room k callerA) (ground : ∀ (w : World) (h : Heap), YP w h → (K w.params).In h)
    (F : ∀ (w : World) (mg : Str → Option Value) (fa : Addr) (h : Heap), (K w.params).In h → h.Ns mainGlobals mg → mg d.name = some (.ref fa) →
      ∃ fd : FuncData, (∀ (s : Shared) (u : Value), BindsTo s fd ⟨[u], []⟩ [(x, u)]) ∧ ∀ B : Heap, (K w.params).In B → B.Ns mainGlobals mg → FnG l.prog w (K w.params) mg B (C w) k fa fd [x] (sp w))
    (asked : ∀ (w : World) (H : Hp) (a : Addr) (zs : List Int), zs.length ≤ n → SqL (K w.params) H a (zs.map V.int) → sp w [.ref a] H (fun v _ => v = .bl true) fun _ _ _ => False)
    (noX : ∀ (w : World) (H : Hp) (s : Shared) (e : Value) (s2 : Shared), C w [] H s (fun _ _ _ => False) e s2 → False) : PySem.W.WalkO q loose XP YP l.row.toRowW d [] (fun f vs => PySem.call f vs) :=
  Att.attach_call most nodef fun w s0 s1 mg mb fa o pm cd doc a us zs G Y _ _ _ hmg script isI len gens => by
    have inK := ground w _ Y
    obtain ⟨fd, bind, prom⟩ := F w mg fa _ inK G.T.g hmg
    exact law_callG inK G.T.g G.T.b G.T.builtins G.T.nolimit gens script isI (Nat.le_trans len n2) room prom bind (fun H hS => asked w H a zs len hS) fun H e s2 => noX w H s1 e s2
end RR

/-! RD: judgements over data: comparisons, tests, calls, places -/
namespace RR
open PySem PySem.Spec PyProof.Rows L2

/-! ### equality of data -/
mutual
def D.py : D → PyData
  | .non => .none | .bl b => .bool b | .int i => .int i | .str x => .str x | .tup xs => .tuple (D.pys xs) | .lst xs => .list (D.pys xs) | .hnd _ => .none | .dic => .none | .exc _ => .none | .fn _ => .none | .ptr _ => .none
def D.pys : List D → List PyData
  | [] => []
  | x :: r => x.py :: D.pys r
end
/-- data that == compares: no handles, at most n deep -/
def D.q : Nat → D → Bool
  | _, .non | _, .bl _ | _, .int _ => true
  | _, .str x => PyData.strOk x
  | _, .hnd _ => false
  | _, .dic => false
  | _, .exc _ => false
  | _, .fn _ => false
  | _, .ptr _ => false
  | n + 1, .tup xs => xs.all (D.q n)
  | n + 1, .lst xs => xs.all (D.q n)
  | 0, .tup _ | 0, .lst _ => false
mutual
def D.eqv : D → D → Bool
  | .non, .non => true
  | .bl a, .bl b => a == b
  | .bl a, .int j => (if a then 1 else 0) == j
  | .int i, .bl b => i == (if b then 1 else 0)
  | .int i, .int j => decide (i = j)
  | .str x, .str y => x == y
  | .lst xs, .lst ys => D.eqvs xs ys
  | .tup xs, .tup ys => D.eqvs xs ys
  | _, _ => false
def D.eqvs : List D → List D → Bool
  | [], [] => true
  | x :: xs, y :: ys => x.eqv y && D.eqvs xs ys
  | _, _ => false
end
mutual
theorem py_eqv : ∀ {n : Nat} {x y : D}, x.q n = true → y.q n = true → PyData.eqv x.py y.py = x.eqv y
  | n, .hnd _, _, h, _ => by cases n <;> cases h
  | n, .dic, _, h, _ => by cases n <;> cases h
  | n, .exc _, _, h, _ => by cases n <;> cases h
  | n, .fn _, _, h, _ => by cases n <;> cases h
  | n, .ptr _, _, h, _ => by cases n <;> cases h
  | n, _, .hnd _, _, h => by cases n <;> cases h
  | n, _, .dic, _, h => by cases n <;> cases h
  | n, _, .exc _, _, h => by cases n <;> cases h
  | n, _, .fn _, _, h => by cases n <;> cases h
  | n, _, .ptr _, _, h => by cases n <;> cases h
  | n + 1, .tup xs, .tup ys, h, h' => by
    simp only [D.py, D.eqv, PyData.eqv]
    exact pys_eqv (List.all_eq_true.mp h) (List.all_eq_true.mp h')
  | n + 1, .lst xs, .lst ys, h, h' => by
    simp only [D.py, D.eqv, PyData.eqv]
    exact pys_eqv (List.all_eq_true.mp h) (List.all_eq_true.mp h')
  | 0, .tup xs, _, h, _ => by cases h
  | 0, .lst xs, _, h, _ => by cases h
  | _, .non, .non, _, _ | _, .non, .bl _, _, _ | _, .non, .int _, _, _ | _, .non, .str _, _, _ | _, .non, .tup _, _, _ | _, .non, .lst _, _, _ => rfl
  | _, .bl _, .non, _, _ | _, .bl _, .bl _, _, _ | _, .bl _, .int _, _, _ | _, .bl _, .str _, _, _ | _, .bl _, .tup _, _, _ | _, .bl _, .lst _, _, _ => rfl
  | _, .int _, .non, _, _ | _, .int _, .bl _, _, _ | _, .int _, .str _, _, _ | _, .int _, .tup _, _, _ | _, .int _, .lst _, _, _ => rfl
  | _, .int i, .int j, _, _ => by simp only [D.py, D.eqv, PyData.eqv, Bool.beq_eq_decide_eq]
  | _, .str _, .non, _, _ | _, .str _, .bl _, _, _ | _, .str _, .int _, _, _ | _, .str _, .str _, _, _ | _, .str _, .tup _, _, _ | _, .str _, .lst _, _, _ => rfl
  | n + 1, .tup _, .non, _, _ | n + 1, .tup _, .bl _, _, _ | n + 1, .tup _, .int _, _, _ | n + 1, .tup _, .str _, _, _ | n + 1, .tup _, .lst _, _, _ => rfl
  | n + 1, .lst _, .non, _, _ | n + 1, .lst _, .bl _, _, _ | n + 1, .lst _, .int _, _, _ | n + 1, .lst _, .str _, _, _ | n + 1, .lst _, .tup _, _, _ => rfl
theorem pys_eqv : ∀ {n : Nat} {xs ys : List D}, (∀ x ∈ xs, x.q n = true) → (∀ x ∈ ys, x.q n = true) → PyData.eqvAll (D.pys xs) (D.pys ys) = D.eqvs xs ys
  | _, [], [], _, _ => rfl
  | _, [], _ :: _, _, _ => rfl
  | _, _ :: _, [], _, _ => rfl
  | n, x :: xs, y :: ys, h, h' => by
    simp only [D.pys, D.eqvs, PyData.eqvAll]
    rw [py_eqv (h x List.mem_cons_self) (h' y List.mem_cons_self), pys_eqv (fun z hz => h z (List.mem_cons_of_mem _ hz)) (fun z hz => h' z (List.mem_cons_of_mem _ hz))]
end
mutual
theorem py_lay : ∀ {n : Nat} {x : D}, x.q n = true → x.py.canLay0 = true ∧ x.py.depth ≤ n
  | n, .hnd _, h => by cases n <;> cases h
  | n, .dic, h => by cases n <;> cases h
  | n, .exc _, h => by cases n <;> cases h
  | n, .fn _, h => by cases n <;> cases h
  | n, .ptr _, h => by cases n <;> cases h
  | n, .non, _ => ⟨rfl, Nat.zero_le _⟩
  | n, .bl _, _ => ⟨rfl, Nat.zero_le _⟩
  | n, .int _, _ => ⟨rfl, Nat.zero_le _⟩
  | 0, .str _, h => ⟨h, Nat.zero_le _⟩
  | n + 1, .str _, h => ⟨h, Nat.zero_le _⟩
  | n + 1, .tup xs, h => let ⟨a, b⟩ := pys_lay (List.all_eq_true.mp h); ⟨a, Nat.succ_le_succ b⟩
  | n + 1, .lst xs, h => let ⟨a, b⟩ := pys_lay (List.all_eq_true.mp h); ⟨a, Nat.succ_le_succ b⟩
  | 0, .tup _, h => by cases h
  | 0, .lst _, h => by cases h
theorem pys_lay : ∀ {n : Nat} {xs : List D}, (∀ x ∈ xs, x.q n = true) → PyData.canLayAll0 (D.pys xs) = true ∧ PyData.depthAll (D.pys xs) ≤ n
  | n, [], _ => ⟨rfl, Nat.zero_le _⟩
  | n, x :: xs, h => by
    obtain ⟨a, b⟩ := py_lay (h x List.mem_cons_self)
    obtain ⟨c, d⟩ := pys_lay fun z hz => h z (List.mem_cons_of_mem _ hz)
    simp only [D.pys, PyData.canLayAll0, PyData.depthAll, a, c, Bool.and_self, true_and]
    omega
end
theorem shaped_q {x : D} (h : x.q 8 = true) : SeqAt.shaped x.py = true := by
  obtain ⟨a, b⟩ := py_lay h
  unfold SeqAt.shaped
  rw [a, decide_eq_true (by omega)] <;> rfl
mutual
theorem Dn.dp {s : Bool} {K : PySem.W.Frag} {F : List Addr} {G H : Hp} (hG : ∀ a o, G a = some o → H a = some o) : ∀ {n : Nat} {v : V} {d : D}, Dn s K F G v d → d.q n = true → Dp K H v d.py
  | _, _, _, .non, _ => .non
  | _, _, _, .bl b, _ => .bl b
  | _, _, _, .int i, _ => .int i
  | _, _, _, .str x, _ => .str x
  | n + 1, _, _, .tup h r, q => .tup ((h.mono fun a xs => hG a _).sq) (DnA.dp hG r (List.all_eq_true.mp q))
  | n + 1, _, _, .lst h r, q => .lst ((h.mono hG).sq) (DnA.dp hG r (List.all_eq_true.mp q))
  | 0, _, _, .tup _ _, q => by cases q
  | 0, _, _, .lst _ _, q => by cases q
  | n, _, _, .hnd h, q => by cases n <;> cases q
  | n, _, _, .dic h, q => by cases n <;> cases q
  | n, _, _, .exc h _, q => by cases n <;> cases q
  | n, _, _, .fn h, q => by cases n <;> cases q
  | n, _, _, .ptr, q => by cases n <;> cases q
theorem DnA.dp {s : Bool} {K : PySem.W.Frag} {F : List Addr} {G H : Hp} (hG : ∀ a o, G a = some o → H a = some o) : ∀ {n : Nat} {vs : List V} {ds : List D}, DnA s K F G vs ds → (∀ x ∈ ds, x.q n = true) → DpAll K H vs (D.pys ds)
  | _, _, _, .nil, _ => .nil
  | _, _, _, .cons h r, q => .cons (Dn.dp hG h (q _ List.mem_cons_self)) (DnA.dp hG r fun x hx => q x (List.mem_cons_of_mem _ hx))
end
def gEq : G2 := fun x y Q => (x.q 8 = true ∧ y.q 8 = true ∧ Q (.bl (x.eqv y))) ∨ ∃ a b, x = .str a ∧ y = .str b ∧ Q (.bl (decide (a = b)))
def gNe : G2 := fun x y Q => (x.q 8 = true ∧ y.q 8 = true ∧ Q (.bl (!x.eqv y))) ∨ ∃ a b, x = .str a ∧ y = .str b ∧ Q (.bl (!decide (a = b)))

section
variable {X : Cx} {C : Cn} {e a b c : Expr} {es : List Expr} {pos : Pos} {ta tb tc : DT C.W.M}
theorem ok_eq (hu : X.A.units + 64 < cLine) : OpOk X C (compareOp .Eq) gEq := by
  refine ⟨_, (op_eqD hu).or op_eq, fun σ H Pr F ρ m x y dx dy Q R S hx hy q k => ?_⟩
  rcases q with ⟨q1, q2, q⟩ | ⟨a, b, rfl, rfl, q⟩
  · refine .inl ⟨_, _, hx.dp (fun _ _ => wv_le) q1, hy.dp (fun _ _ => wv_le) q2, shaped_q q1, shaped_q q2, k _ _ (post_here S (.bl _) (fun _ h => nomatch h) ?_)⟩
    rw [py_eqv q1 q2]
    exact q
  · cases hx; cases hy
    refine .inr ⟨rfl, k _ _ (post_here S (.bl _) (fun _ h => nomatch h) ?_)⟩
    rw [show decide (V.str a = V.str b) = decide (a = b) from by rw [Bool.eq_iff_iff]; simp]
    exact q
theorem ok_ne (hu : X.A.units + 64 < cLine) : OpOk X C (compareOp .NotEq) gNe := by
  refine ⟨_, (op_neD hu).or op_ne, fun σ H Pr F ρ m x y dx dy Q R S hx hy q k => ?_⟩
  rcases q with ⟨q1, q2, q⟩ | ⟨a, b, rfl, rfl, q⟩
  · refine .inl ⟨_, _, hx.dp (fun _ _ => wv_le) q1, hy.dp (fun _ _ => wv_le) q2, shaped_q q1, shaped_q q2, k _ _ (post_here S (.bl _) (fun _ h => nomatch h) ?_)⟩
    rw [py_eqv q1 q2]
    exact q
  · cases hx; cases hy
    refine .inr ⟨rfl, k _ _ (post_here S (.bl _) (fun _ h => nomatch h) ?_)⟩
    rw [show decide (V.str a = V.str b) = decide (a = b) from by rw [Bool.eq_iff_iff]; simp]
    exact q
abbrev gLt : G2 := g0 fun i j => .bl (decide (i < j))
abbrev gLe : G2 := g0 fun i j => .bl (decide (i ≤ j))
abbrev gGt : G2 := g0 fun i j => .bl (decide (j < i))
abbrev gGe : G2 := g0 fun i j => .bl (decide (j ≤ i))
theorem ok_lt : OpOk X C (compareOp .Lt) gLt := opok_cmp0 op_lt
theorem ok_le : OpOk X C (compareOp .LtE) gLe := opok_cmp0 op_le
theorem ok_gt : OpOk X C (compareOp .Gt) gGt := opok_cmp0 op_gt
theorem ok_ge : OpOk X C (compareOp .GtE) gGe := opok_cmp0 op_ge
def D.isN : D → Bool
  | .non => true
  | _ => false
def gIsN : G2 := fun x y Q => y.isN = true ∧ Q (.bl x.isN)
def gNotN : G2 := fun x y Q => y.isN = true ∧ Q (.bl (!x.isN))
theorem isN_of {s : Bool} {K : PySem.W.Frag} {F : List Addr} {G : Hp} {v : V} {d : D} (h : Dn s K F G v d) : decide (v = .non) = d.isN := by
  cases h <;> rfl
theorem ok_isN : OpOk X C (compareOp .Is) gIsN := by
  refine ⟨_, op_isN, fun σ H Pr F ρ m x y dx dy Q R S hx hy q k => ?_⟩
  obtain ⟨q1, q⟩ := q
  have e := isN_of hy
  rw [q1] at e
  refine ⟨of_decide_eq_true e, k _ _ (post_here (d := .bl dx.isN) S ?_ (fun _ h => nomatch h) q)⟩
  rw [isN_of hx]
  exact .bl _
theorem ok_notN : OpOk X C (compareOp .IsNot) gNotN := by
  refine ⟨_, op_notN, fun σ H Pr F ρ m x y dx dy Q R S hx hy q k => ?_⟩
  obtain ⟨q1, q⟩ := q
  have e := isN_of hy
  rw [q1] at e
  refine ⟨of_decide_eq_true e, k _ _ (post_here (d := .bl (!dx.isN)) S ?_ (fun _ h => nomatch h) q)⟩
  rw [isN_of hx]
  exact .bl _
theorem j_cmp {op : CmpOp} {g : G2} (o : OpOk X C (compareOp op) g) (ha : J .w X C a ta) (hb : J .w X C b tb) (hm : behindInMarks op b = false := by exact nomark _) : J .f X C (.Compare a [op] [b] pos) (dBin g ta tb) := by
  obtain ⟨r, ho, q⟩ := o
  obtain ⟨te, p, q1⟩ := ha
  obtain ⟨te', p', q2⟩ := hb
  refine ⟨_, pe_cmpR ho p p' hm, fun σ H Pr F ρ m Q Z R S E h k => ?_⟩
  refine q1 σ H Pr F ρ m _ Z _ S E h fun v H1 ⟨P1, F1, m1, d, S1, t1, dv, z⟩ => ?_
  refine q2 σ H1 P1 F1 ρ m1 _ Z _ S1 (E.te t1.toTr) z fun w H2 ⟨P2, F2, m2, d2, S2, t2, dv2, z2⟩ => ?_
  exact q σ H2 P2 F2 ρ m2 v w d d2 Q R S2 (Dn.te t2 dv) dv2 z2 fun v H' z => k v H' ((z.te t2).te t1)
/-- an answer that is True or False, as a test -/
def dTst {M : Type} (t : DT M) : DTT M := fun ρ m Q Z => t ρ m (fun d m' => match d with | .bl b => Q b m' | _ => False) Z
theorem post_tst {K : PySem.W.Frag} {c : Cl} {Pr : Addr → Prop} {F : List Addr} {H H' : Hp} {σ : L2.St} {ρ : En} {Q : Bool → C.W.M → Prop} {v : V} (h : Post K C c Pr F H σ ρ (fun d m' => match d with | .bl b => Q b m' | _ => False) v H') : ∃ b, v = .bl b ∧ PostT K C Pr F H σ ρ Q b H' := by
  obtain ⟨P1, F1, m1, d, S1, t1, dv, z⟩ := h
  split at z
  · rename_i b
    refine ⟨b, ?_, P1, F1, m1, S1, t1, z⟩
    cases c with
    | f =>
      have dv := dv.1
      cases dv
      rfl
    | w =>
      have dv : Dn false K F1 (wv F1 H') v (.bl b) := dv
      cases dv
      rfl
    | s =>
      have dv : Dn true K F1 (sv C.H0 P1 H') v (.bl b) := dv
      cases dv
      rfl
    | r =>
      have dv : Dn true K F1 (sv C.H0 (· ∈ F1) H') v (.bl b) := dv
      cases dv
      rfl
  · exact z.elim
theorem jt_cmp {op : CmpOp} {g : G2} (o : OpOk X C (compareOp op) g) (ha : J .w X C a ta) (hb : J .w X C b tb) (hm : behindInMarks op b = false := by exact nomark _) : JT X C (.Compare a [op] [b] pos) (dTst (dBin g ta tb)) := by
  obtain ⟨r, ho, q⟩ := o
  obtain ⟨te, p, q1⟩ := ha
  obtain ⟨te', p', q2⟩ := hb
  refine ⟨_, pt_cmpR ho p p' hm, fun σ H Pr F ρ m Q Z R S E h k => ?_⟩
  refine q1 σ H Pr F ρ m _ Z _ S E h fun v H1 ⟨P1, F1, m1, d, S1, t1, dv, z⟩ => ?_
  refine q2 σ H1 P1 F1 ρ m1 _ Z _ S1 (E.te t1.toTr) z fun w H2 ⟨P2, F2, m2, d2, S2, t2, dv2, z2⟩ => ?_
  exact q σ H2 P2 F2 ρ m2 v w d d2 _ _ S2 (Dn.te t2 dv) dv2 z2 fun v H' z => by
    obtain ⟨b, e, z⟩ := post_tst ((z.te t2).te t1)
    exact ⟨b, e, k b H' z⟩
/-- a op1 b op2 c -/
def dChain {M : Type} (g g' : G2) (t u w : DT M) : DT M := fun ρ m Q Z => t ρ m (fun x m1 => u ρ m1 (fun y m2 => g x y fun d => match d with | .bl true => w ρ m2 (fun z m3 => g' y z fun d => Q d m3) Z | .bl false => Q (.bl false) m2 | _ => False) Z) Z
theorem chain_core {op op' : CmpOp} {g g' : G2} (o : OpOk X C (compareOp op) g) (o' : OpOk X C (compareOp op') g') (ha : J .w X C a ta) (hb : J .w X C b tb) (hc : J .w X C c tc) : ∃ r r' te te' te'', OpR X (compareOp op) r ∧ OpR X (compareOp op') r' ∧ PE X a te ∧ PE X b te' ∧ PE X c te'' ∧
    ∀ σ H Pr F ρ m Q Z (R : VK), SR X.K C Pr F σ ρ m H → Ex X C Pr F H σ ρ Z → dChain g g' ta tb tc ρ m Q Z → (∀ v H', Post X.K C .f Pr F H σ ρ Q v H' → R v H') → tChain r r' te te' te'' σ H R := by
  obtain ⟨r, ho, q⟩ := o
  obtain ⟨r', ho', q'⟩ := o'
  obtain ⟨te, p, q1⟩ := ha
  obtain ⟨te', p', q2⟩ := hb
  obtain ⟨te'', p'', q3⟩ := hc
  refine ⟨r, r', te, te', te'', ho, ho', p, p', p'', fun σ H Pr F ρ m Q Z R S E h k => ?_⟩
  refine q1 σ H Pr F ρ m _ Z _ S E h fun v H1 ⟨P1, F1, m1, d, S1, t1, dv, z⟩ => ?_
  refine q2 σ H1 P1 F1 ρ m1 _ Z _ S1 (E.te t1.toTr) z fun w H2 ⟨P2, F2, m2, d2, S2, t2, dv2, z2⟩ => ?_
  refine q σ H2 P2 F2 ρ m2 v w d d2 (fun d m2 => match d with | .bl true => tc ρ m2 (fun z m3 => g' d2 z fun d => Q d m3) Z | .bl false => Q (.bl false) m2 | _ => False) _ S2 (Dn.te t2 dv) dv2 ?_ fun v H3 z => ?_
  · exact z2
  · obtain ⟨P3, F3, m3, d3, S3, t3, dv3, z3⟩ := z
    have dv3 := dv3.1
    split at z3
    · cases dv3
      refine ⟨true, rfl, ?_⟩
      rw [if_pos rfl]
      refine q3 σ H3 P3 F3 ρ m3 _ Z _ S3 (E.te ((t1.trans t2).trans t3).toTr) z3 fun w' H4 ⟨P4, F4, m4, d4, S4, t4, dv4, z4⟩ => ?_
      exact q' σ H4 P4 F4 ρ m4 w w' d2 d4 Q R S4 (Dn.te (t3.trans t4) dv2) dv4 z4 fun v H' z => k v H' ((((z.te t4).te t3).te t2).te t1)
    · cases dv3
      refine ⟨false, rfl, ?_⟩
      rw [if_neg Bool.false_ne_true]
      exact k _ _ ((((post_here (d := .bl false) S3 (.bl false) (fun _ h => nomatch h) z3).te t3).te t2).te t1)
    · exact z3.elim
theorem j_chain {op op' : CmpOp} {g g' : G2} (o : OpOk X C (compareOp op) g) (o' : OpOk X C (compareOp op') g') (ha : J .w X C a ta) (hb : J .w X C b tb) (hc : J .w X C c tc) (hm : lastMarks [op, op'] [b, c] = false := by with_unfolding_all rfl) :
    J .f X C (.Compare a [op, op'] [b, c] pos) (dChain g g' ta tb tc) := by
  obtain ⟨r, r', te, te', te'', ho, ho', p, p', p'', q⟩ := chain_core o o' ha hb hc
  exact ⟨_, pe_chain ho ho' p p' p'' hm, q⟩
theorem jt_chain {op op' : CmpOp} {g g' : G2} (o : OpOk X C (compareOp op) g) (o' : OpOk X C (compareOp op') g') (ha : J .w X C a ta) (hb : J .w X C b tb) (hc : J .w X C c tc) (hm : lastMarks [op, op'] [b, c] = false := by with_unfolding_all rfl) :
    JT X C (.Compare a [op, op'] [b, c] pos) (dTst (dChain g g' ta tb tc)) := by
  obtain ⟨r, r', te, te', te'', ho, ho', p, p', p'', q⟩ := chain_core o o' ha hb hc
  refine ⟨_, pt_chain ho ho' p p' p'' hm, fun σ H Pr F ρ m Q Z R S E h k => ?_⟩
  exact q σ H Pr F ρ m _ Z _ S E h fun v H' z => by
    obtain ⟨b, e, z⟩ := post_tst z
    exact ⟨b, e, k b H' z⟩

/-! ### tests -/
/-- a value's truth -/
def D.tr : D → Option Bool
  | .non => some false
  | .bl b => some b
  | .int i => some (i != 0)
  | .tup xs | .lst xs => some (!xs.isEmpty)
  | .str _ => none
  | .hnd _ => none
  | .dic => none
  | .exc _ => none
  | .fn _ => none
  | .ptr _ => none
def dVal {M : Type} (t : DT M) : DTT M := fun ρ m Q Z => t ρ m (fun d m' => match d.tr with | some b => Q b m' | none => False) Z
/-- any expression that is no and, or, not, if, comparison -/
theorem jt_val {t : DT C.W.M} (h : J .w X C e t) (he : ∀ whole, isTrue e X.env whole = (do let v ← whole; standAt e.pos; holding [v] (truthy v)) := by intro _; rfl) :
    JT X C e (dVal t) := by
  obtain ⟨te, p, q⟩ := h
  refine ⟨_, pt_truth p he, fun σ H Pr F ρ m Q Z R S E h k => ?_⟩
  refine q σ H Pr F ρ m _ Z _ S E h fun v H1 ⟨P1, F1, m1, d, S1, t1, dv, z⟩ => ?_
  have dv : Dn false X.K F1 (wv F1 H1) v d := dv
  try dsimp only at z
  split at z
  · rename_i b e
    refine ⟨b, ?_, k b H1 ⟨P1, F1, m1, S1, t1, z⟩⟩
    have el : ∀ {vs : List V} {ds : List D}, DnA false X.K F1 (wv F1 H1) vs ds → (!ds.isEmpty) = !vs.isEmpty := fun h => by cases h <;> rfl
    cases dv with
    | non => exact (Option.some.inj e).symm
    | bl b => exact (Option.some.inj e).symm
    | int i => exact (Option.some.inj e).symm
    | str x => cases e
    | hnd h => cases e
    | dic h => cases e
    | exc h _ => cases e
    | fn h => cases e
    | ptr => cases e
    | tup h r => exact .inr (.inl ⟨_, (h.mono fun a xs => wv_le).sq, (Option.some.inj e).symm.trans (el r)⟩)
    | lst h r => exact .inl ⟨_, (h.mono fun a xs => wv_le).sq, (Option.some.inj e).symm.trans (el r)⟩
  · exact z.elim
variable {rest : List Expr} {tt uu : DTT C.W.M}
def dAnd {M : Type} (t u : DTT M) : DTT M := fun ρ m Q Z => t ρ m (fun b m1 => if b = true then u ρ m1 Q Z else Q false m1) Z
def dOr {M : Type} (t u : DTT M) : DTT M := fun ρ m Q Z => t ρ m (fun b m1 => if b = true then Q true m1 else u ρ m1 Q Z) Z
def dNot {M : Type} (t : DTT M) : DTT M := fun ρ m Q Z => t ρ m (fun b m1 => Q (!b) m1) Z
theorem JW.t (h : JW X C e tt) : JT X C e tt := by
  obtain ⟨te, p, q⟩ := h
  exact ⟨te, p.pt, q⟩
theorem jw_and1 (h : JT X C a tt) : JW X C (.BoolOp .And [a] pos) tt := by
  obtain ⟨te, p, q⟩ := h
  exact ⟨te, pw_and1 p, q⟩
theorem jw_or1 (h : JT X C a tt) : JW X C (.BoolOp .Or [a] pos) tt := by
  obtain ⟨te, p, q⟩ := h
  exact ⟨te, pw_or1 p, q⟩
theorem jw_and (h : JT X C a tt) (r : JW X C (.BoolOp .And (b :: rest) pos) uu) : JW X C (.BoolOp .And (a :: b :: rest) pos) (dAnd tt uu) := by
  obtain ⟨te, p, q⟩ := h
  obtain ⟨te', p', q'⟩ := r
  refine ⟨_, pw_and p p', fun σ H Pr F ρ m Q Z R S E h k => ?_⟩
  refine q σ H Pr F ρ m _ Z _ S E h fun v H1 ⟨P1, F1, m1, S1, t1, z⟩ => ?_
  cases v with
  | true => exact iteT (q' σ H1 P1 F1 ρ m1 Q Z R S1 (E.te t1.toTr) z fun w H2 z => k w H2 (z.te t1))
  | false => exact iteF (k false H1 ⟨P1, F1, m1, S1, t1, z⟩)
theorem jw_or (h : JT X C a tt) (r : JW X C (.BoolOp .Or (b :: rest) pos) uu) : JW X C (.BoolOp .Or (a :: b :: rest) pos) (dOr tt uu) := by
  obtain ⟨te, p, q⟩ := h
  obtain ⟨te', p', q'⟩ := r
  refine ⟨_, pw_or p p', fun σ H Pr F ρ m Q Z R S E h k => ?_⟩
  refine q σ H Pr F ρ m _ Z _ S E h fun v H1 ⟨P1, F1, m1, S1, t1, z⟩ => ?_
  cases v with
  | false => exact iteF (q' σ H1 P1 F1 ρ m1 Q Z R S1 (E.te t1.toTr) z fun w H2 z => k w H2 (z.te t1))
  | true => exact iteT (k true H1 ⟨P1, F1, m1, S1, t1, z⟩)
theorem jt_not (h : JT X C a tt) : JT X C (.UnaryOp .Not a pos) (dNot tt) := by
  obtain ⟨te, p, q⟩ := h
  refine ⟨_, pt_not p, fun σ H Pr F ρ m Q Z R S E h k => ?_⟩
  exact q σ H Pr F ρ m _ Z _ S E h fun v H1 ⟨P1, F1, m1, S1, t1, z⟩ => k _ H1 ⟨P1, F1, m1, S1, t1, z⟩
/-! and, or, not as values (True or False) -/
def dAndV {M : Type} (t u : DT M) : DT M := fun ρ m Q Z => t ρ m (fun d m1 => match d with | .bl true => u ρ m1 Q Z | .bl false => Q (.bl false) m1 | _ => False) Z
def dOrV {M : Type} (t u : DT M) : DT M := fun ρ m Q Z => t ρ m (fun d m1 => match d with | .bl false => u ρ m1 Q Z | .bl true => Q (.bl true) m1 | _ => False) Z
def dNotV {M : Type} (t : DT M) : DT M := fun ρ m Q Z => t ρ m (fun d m1 => match d with | .bl b => Q (.bl (!b)) m1 | _ => False) Z
theorem j_one {op} {t : DT C.W.M} {c : Cl} (h : J c X C a t) : J c X C (.BoolOp op [a] pos) t := by
  obtain ⟨te, p, q⟩ := h
  exact ⟨te, pe_one p, q⟩
theorem post_bl {K : PySem.W.Frag} {Pr : Addr → Prop} {F : List Addr} {H H' : Hp} {v : V} {b : Bool} (h : Dv K C .f Pr F H H' v (.bl b)) : v = .bl b := by
  have h := h.1
  cases h
  rfl
theorem j_and (ha : J .f X C a ta) (r : J .f X C (.BoolOp .And (b :: rest) pos) tb) : J .f X C (.BoolOp .And (a :: b :: rest) pos) (dAndV ta tb) := by
  obtain ⟨te, p, q⟩ := ha
  obtain ⟨te', p', q'⟩ := r
  refine ⟨_, pe_and p p', fun σ H Pr F ρ m Q Z R S E h k => ?_⟩
  refine q σ H Pr F ρ m _ Z _ S E h fun v H1 ⟨P1, F1, m1, d, S1, t1, dv, z⟩ => ?_
  try dsimp only at z
  split at z
  · exact ⟨true, post_bl dv, iteT (q' σ H1 P1 F1 ρ m1 Q Z R S1 (E.te t1.toTr) z fun w H2 z => k w H2 (z.te t1))⟩
  · exact ⟨false, post_bl dv, iteF (k _ _ ((post_here (d := .bl false) S1 (.bl false) (fun _ h => nomatch h) z).te t1))⟩
  · exact z.elim
theorem j_or (ha : J .f X C a ta) (r : J .f X C (.BoolOp .Or (b :: rest) pos) tb) : J .f X C (.BoolOp .Or (a :: b :: rest) pos) (dOrV ta tb) := by
  obtain ⟨te, p, q⟩ := ha
  obtain ⟨te', p', q'⟩ := r
  refine ⟨_, pe_or p p', fun σ H Pr F ρ m Q Z R S E h k => ?_⟩
  refine q σ H Pr F ρ m _ Z _ S E h fun v H1 ⟨P1, F1, m1, d, S1, t1, dv, z⟩ => ?_
  try dsimp only at z
  split at z
  · exact ⟨false, post_bl dv, iteF (q' σ H1 P1 F1 ρ m1 Q Z R S1 (E.te t1.toTr) z fun w H2 z => k w H2 (z.te t1))⟩
  · exact ⟨true, post_bl dv, iteT (k _ _ ((post_here (d := .bl true) S1 (.bl true) (fun _ h => nomatch h) z).te t1))⟩
  · exact z.elim
theorem j_not (ha : J .f X C a ta) : J .f X C (.UnaryOp .Not a pos) (dNotV ta) := by
  obtain ⟨te, p, q⟩ := ha
  refine ⟨_, pe_not p, fun σ H Pr F ρ m Q Z R S E h k => ?_⟩
  refine q σ H Pr F ρ m _ Z _ S E h fun v H1 ⟨P1, F1, m1, d, S1, t1, dv, z⟩ => ?_
  try dsimp only at z
  split at z
  · rename_i b
    exact ⟨b, post_bl dv, k _ _ ((post_here (d := .bl (!b)) S1 (.bl _) (fun _ h => nomatch h) z).te t1)⟩
  · exact z.elim
def dNeg {M : Type} (t : DT M) : DT M := fun ρ m Q Z => t ρ m (fun d m1 => match d with | .int i => Q (.int (-i)) m1 | _ => False) Z
theorem j_neg (ha : J .w X C a ta) : J .f X C (.UnaryOp .USub a pos) (dNeg ta) := by
  obtain ⟨te, p, q⟩ := ha
  refine ⟨_, pe_un un_neg p, fun σ H Pr F ρ m Q Z R S E h k => ?_⟩
  refine q σ H Pr F ρ m _ Z _ S E h fun v H1 ⟨P1, F1, m1, d, S1, t1, dv, z⟩ => ?_
  have dv : Dn false X.K F1 (wv F1 H1) v d := dv
  try dsimp only at z
  split at z
  · exact ⟨_, dv.toInt, k _ _ ((post_here S1 (.int _) (fun _ h => nomatch h) z).te t1)⟩
  · exact z.elim
/-- a if t else b -/
def dIf {M : Type} (t : DTT M) (u w : DT M) : DT M := fun ρ m Q Z => t ρ m (fun b m1 => if b = true then u ρ m1 Q Z else w ρ m1 Q Z) Z
theorem j_if {cl : Cl} (hc : JT X C c tt) (ha : J cl X C a ta) (hb : J cl X C b tb) : J cl X C (.IfExp c a b pos) (dIf tt ta tb) := by
  obtain ⟨tc, p, q⟩ := hc
  obtain ⟨te, p1, q1⟩ := ha
  obtain ⟨te', p2, q2⟩ := hb
  refine ⟨_, pe_ifExp p p1 p2, fun σ H Pr F ρ m Q Z R S E h k => ?_⟩
  refine q σ H Pr F ρ m _ Z _ S E h fun v H1 ⟨P1, F1, m1, S1, t1, z⟩ => ?_
  cases v with
  | true => exact iteT (q1 σ H1 P1 F1 ρ m1 Q Z R S1 (E.te t1.toTr) z fun w H2 z => k w H2 (z.te t1))
  | false => exact iteF (q2 σ H1 P1 F1 ρ m1 Q Z R S1 (E.te t1.toTr) z fun w H2 z => k w H2 (z.te t1))

/-! ### calls -/
abbrev DSp (M : Type) := List D → M → (D → M → Prop) → (Str → M → Prop) → Prop
/-- a def's promise over data, as a promise of the hand layer -/
def spD (K : PySem.W.Frag) (mg : Str → Option Value) (W : Wd) (sp : DSp W.M) : Sp := fun vs H Q E => ∃ F m ds Qd Zd, W.Rz m F H ∧ DnA false K F (wv F H) vs ds ∧ sp ds m Qd Zd ∧
  (∀ v H' F' d m', W.Rz m' F' H' → (∃ G, F' = F ++ G) → (∀ a ∈ F', a ∉ F → H a = none) → (∀ a o, a ∉ F → H a = some o → H' a = some o) → Dn true K F' (sv H (· ∈ F') H') v d → Qd d m' → Q v H') ∧
  (∀ x cls H' F' m', mg x = some cls → W.Rz m' F' H' → (∃ G, F' = F ++ G) → (∀ a ∈ F', a ∉ F → H a = none) → (∀ a o, a ∉ F → H a = some o → H' a = some o) → Zd x m' → E cls none H')
/-- a def that may be called by its name x; dds: its defaults that fill up -/
def FD (P : Program) (w : World) (K : PySem.W.Frag) (mg : Str → Option Value) (base : Heap) (W : Wd) (k : Nat) (x : Str) (dds : List D) (sp : DSp W.M) : Prop :=
  ∃ f fd ps ds dvs, FnG P w K mg base (L2.CX P w) k f fd ps (spD K mg W sp) ∧ mg x = some (.ref f) ∧ PySem.W.keepIn K (.ref f) = true ∧ Binds K fd ps ds ∧ Vals dvs ds ∧ ∀ F G, DnA false K F G dvs dds
def dCall {M : Type} (sp : DSp M) (dds : List D) (t : DTA M) : DT M := fun ρ m Q Z => t ρ m (fun ds m1 => sp (ds ++ dds) m1 Q Z) Z
theorem j_call {x : Str} {k : Nat} {dds : List D} {sp : DSp C.W.M} {ta : DTA C.W.M} {p : Pos} (h : FD X.prog X.w X.K X.mg X.base C.W k x dds sp) (hr : RoomG k X.A) (tk : Takes X C.wx) (hg : Gl X x) (ha : JA .w X C (e :: es) ta)
    (hdb : (x == ("__debug__" : Str)) = false := by decide) (he : starEach (e :: es) X.env = (false, eval e X.env) :: starEach es X.env := by rfl) (hpl : (backTo pos (starEach es X.env)).any (·.1) = false := by rfl) :
    J .f X C (.Call (.Name x p) (e :: es) [] pos) (dCall sp dds ta) := by
  obtain ⟨f, fd, ps, ds, dvs, G, hm, hk, hb, hd, hdd⟩ := h
  obtain ⟨te, pa, q⟩ := ha
  refine ⟨_, pe_callG (E := fun σ cls d H' => C.wx cls d σ H') G hr hg hm hk hb hd (fun σ => passAt tk σ) pa hdb he hpl, fun σ H Pr F ρ m Q Z R S E h k => ?_⟩
  refine q σ H Pr F ρ m _ Z _ S E h fun vs H1 ⟨P1, F1, m1, ds1, S1, t1, dv, z⟩ => ?_
  have dv : DnA false X.K F1 (wv F1 H1) vs ds1 := dv
  refine ⟨F1, m1, ds1 ++ dds, Q, Z, S1.rz, dv.app (hdd _ _), z, fun v H' F' d m' rz pre fr kp dn q => ?_, fun x cls H' F' m' hx rz pre fr kp z => ?_⟩
  · obtain ⟨S2, t2⟩ := S1.turned rz pre fr kp
    have np : ∀ {a o}, sv H1 (· ∈ F') H' a = some o → IsL o → ¬ (P1 a ∨ a ∈ F') ∧ C.H0 a = none ∧ H1 a = none := fun {a o} h l => by
      obtain ⟨e, q⟩ := vw_iff.mp h
      rcases q with q | q
      · exact (IsT.not_L q l).elim
      · exact ⟨fun z => z.elim (S1.np q.2.2) q.2.1, S1.h0n q.2.2, q.2.2⟩
    have up : ∀ a o, sv H1 (· ∈ F') H' a = some o → sv C.H0 (fun a => P1 a ∨ a ∈ F') H' a = some o := fun a o h => by
      obtain ⟨e, q⟩ := vw_iff.mp h
      refine vw_iff.mpr ⟨e, q.imp id fun q => ⟨q.1, (np h q.1).1, (np h q.1).2.1⟩⟩
    refine k v H' ⟨_, F', m', d, S2, t1.trans t2, ⟨dn.mono ⟨[], by simp⟩ up, fun ds e => ?_⟩, q⟩
    subst e
    cases dn with
    | lst h r =>
      rename_i a xs
      have h : sv H1 (· ∈ F') H' a = some (.lst xs) := h
      obtain ⟨n1, n2, n3⟩ := np h trivial
      exact ⟨a, xs, rfl, some_of (t1.stay a) n3, n1, sv_le h, DnA.mono ⟨[], by simp⟩ up r⟩
  · obtain ⟨S2, t2⟩ := S1.turned rz pre fr kp
    exact E x cls _ F' m' H' hx S2 (t1.trans t2).toTr z
/-- a call of a built-in over data: c = w, the arguments are looked at; c = s, they may be kept in the answer -/
def CaOk (X : Cx) (C : Cn) (c : Cl) (f : Value) (g : List D → (D → Prop) → Prop) : Prop := ∃ r, CallR X f r ∧
  ∀ σ H Pr F ρ m vs ds Q (R : VK), SR X.K C Pr F σ ρ m H → DvA X.K C c Pr F H vs ds → g ds (fun d => Q d m) → (∀ v H', Post X.K C .f Pr F H σ ρ Q v H' → R v H') → r vs H R
def dB {M : Type} (g : List D → (D → Prop) → Prop) (t : DTA M) : DT M := fun ρ m Q Z => t ρ m (fun ds m1 => g ds fun d => Q d m1) Z
theorem j_callB {cl : Cl} {id : String} {x : Str} {g : List D → (D → Prop) → Prop} {ta : DTA C.W.M} {p : Pos} (h : CaOk X C cl (.builtin id) g) (hm : X.mg x = none) (hv : bootBuiltins x = some (.builtin id)) (ha : JA cl X C (e :: es) ta) (hg : Gl X x := by rfl) (hn : x ≠ "__name__" := by decide) (hdb : (x == ("__debug__" : Str)) = false := by decide)
    (he : starEach (e :: es) X.env = (false, eval e X.env) :: starEach es X.env := by rfl) (hpl : (backTo pos (starEach es X.env)).any (·.1) = false := by rfl) : J .f X C (.Call (.Name x p) (e :: es) [] pos) (dB g ta) := by
  obtain ⟨r, hc, q'⟩ := h
  obtain ⟨te, pa, q⟩ := ha
  refine ⟨_, pe_callB hc hg hm hv pa hn hdb he hpl, fun σ H Pr F ρ m Q Z R S E h k => ?_⟩
  refine q σ H Pr F ρ m _ Z _ S E h fun vs H1 ⟨P1, F1, m1, ds1, S1, t1, dv, z⟩ => ?_
  exact q' σ H1 P1 F1 ρ m1 vs ds1 Q R S1 dv z fun v H' z => k v H' (z.te t1)
theorem j_callTy {cl : Cl} {T : String} {x : Str} {g : List D → (D → Prop) → Prop} {ta : DTA C.W.M} {p : Pos} (h : CaOk X C cl (.type T) g) (hm : X.mg x = none) (hv : bootBuiltins x = some (.type T)) (ha : JA cl X C (e :: es) ta) (hg : Gl X x := by rfl) (hn : x ≠ "__name__" := by decide) (hdb : (x == ("__debug__" : Str)) = false := by decide)
    (he : starEach (e :: es) X.env = (false, eval e X.env) :: starEach es X.env := by rfl) (hpl : (backTo pos (starEach es X.env)).any (·.1) = false := by rfl) : J .f X C (.Call (.Name x p) (e :: es) [] pos) (dB g ta) := by
  obtain ⟨r, hc, q'⟩ := h
  obtain ⟨te, pa, q⟩ := ha
  refine ⟨_, pe_callTy hc hg hm hv pa hn hdb he hpl, fun σ H Pr F ρ m Q Z R S E h k => ?_⟩
  refine q σ H Pr F ρ m _ Z _ S E h fun vs H1 ⟨P1, F1, m1, ds1, S1, t1, dv, z⟩ => ?_
  exact q' σ H1 P1 F1 ρ m1 vs ds1 Q R S1 dv z fun v H' z => k v H' (z.te t1)
theorem Dn.sqT {s : Bool} {K : PySem.W.Frag} {F : List Addr} {G H : Hp} {v : V} {ds : List D} (hG : ∀ a o, G a = some o → H a = some o) (h : Dn s K F G v (.tup ds)) : ∃ a vs, v = .ref a ∧ SqT K H a vs ∧ vs.length = ds.length ∧ DnA s K F G vs ds := by
  cases h with
  | tup h r => exact ⟨_, _, rfl, (h.mono fun a xs => hG a _).sq, r.length, r⟩
theorem Dn.sqL {s : Bool} {K : PySem.W.Frag} {F : List Addr} {G H : Hp} {v : V} {ds : List D} (hG : ∀ a o, G a = some o → H a = some o) (h : Dn s K F G v (.lst ds)) : ∃ a vs, v = .ref a ∧ SqL K H a vs ∧ vs.length = ds.length ∧ DnA s K F G vs ds := by
  cases h with
  | lst h r => exact ⟨_, _, rfl, (h.mono hG).sq, r.length, r⟩
def gLen : List D → (D → Prop) → Prop
  | [.lst xs], Q | [.tup xs], Q => Q (.int xs.length)
  | [.str z], Q => z.length ≤ sizeLine ∧ Q (.int z.length)
  | _, _ => False
theorem ca_len : CaOk X C .w (.builtin "len") gLen := by
  refine ⟨_, call_len_seq.or call_len_str, fun σ H Pr F ρ m vs ds Q R S dv q k => ?_⟩
  have dv : DnA false X.K F (wv F H) vs ds := dv
  unfold gLen at q
  split at q
  · cases dv with
    | cons h r =>
      cases r
      obtain ⟨a, us, rfl, hs, hl, _⟩ := h.sqL (fun _ _ => wv_le)
      refine .inl ⟨a, us, rfl, .inl hs, ?_⟩
      rw [hl]
      exact k _ _ (post_here S (.int _) (fun _ h => nomatch h) q)
  · cases dv with
    | cons h r =>
      cases r
      obtain ⟨a, us, rfl, hs, hl, _⟩ := h.sqT (fun _ _ => wv_le)
      refine .inl ⟨a, us, rfl, .inr hs, ?_⟩
      rw [hl]
      exact k _ _ (post_here S (.int _) (fun _ h => nomatch h) q)
  · cases dv with
    | cons h r =>
      cases r
      cases h
      exact .inr ⟨_, rfl, q.1, k _ _ (post_here S (.int _) (fun _ h => nomatch h) q.2)⟩
  · exact q.elim
def gI1 (f : Int → Int) : List D → (D → Prop) → Prop
  | [.int i], Q => Q (.int (f i))
  | _, _ => False
def gI2 (f : Int → Int → Int) : List D → (D → Prop) → Prop
  | [.int i, .int j], Q => Q (.int (f i j))
  | _, _ => False
theorem ca_I1 {f : Value} {g : Int → Int} (h : CallR X f (fun xs H Q => ∃ i, xs = [.int i] ∧ Q (.int (g i)) H)) : CaOk X C .w f (gI1 g) := by
  refine ⟨_, h, fun σ H Pr F ρ m vs ds Q R S dv q k => ?_⟩
  have dv : DnA false X.K F (wv F H) vs ds := dv
  unfold gI1 at q
  split at q
  · cases dv with
    | cons h r =>
      cases r
      cases h
      exact ⟨_, rfl, k _ _ (post_here S (.int _) (fun _ h => nomatch h) q)⟩
  · exact q.elim
theorem ca_I2 {f : Value} {g : Int → Int → Int} (h : CallR X f (fun xs H Q => ∃ i j, xs = [.int i, .int j] ∧ Q (.int (g i j)) H)) : CaOk X C .w f (gI2 g) := by
  refine ⟨_, h, fun σ H Pr F ρ m vs ds Q R S dv q k => ?_⟩
  have dv : DnA false X.K F (wv F H) vs ds := dv
  unfold gI2 at q
  split at q
  · cases dv with
    | cons h r =>
      cases r with
      | cons h' r =>
        cases r
        cases h
        cases h'
        exact ⟨_, _, rfl, k _ _ (post_here S (.int _) (fun _ h => nomatch h) q)⟩
  · exact q.elim
def iabs (i : Int) : Int := if i < 0 then -i else i
def imax (i j : Int) : Int := if j > i then j else i
def imin (i j : Int) : Int := if j < i then j else i
theorem ca_abs : CaOk X C .w (.builtin "abs") (gI1 iabs) := ca_I1 call_abs
theorem ca_max (hc : X.calm = true) : CaOk X C .w (.builtin "max") (gI2 imax) := ca_I2 (call_max2 hc)
theorem ca_min (hc : X.calm = true) : CaOk X C .w (.builtin "min") (gI2 imin) := ca_I2 (call_min2 hc)
def gInt : List D → (D → Prop) → Prop
  | [.int i], Q => Q (.int i)
  | [.bl b], Q => Q (.int (if b then 1 else 0))
  | _, _ => False
theorem ca_int : CaOk X C .w (.type "int") gInt := by
  refine ⟨_, call_int1, fun σ H Pr F ρ m vs ds Q R S dv q k => ?_⟩
  have dv : DnA false X.K F (wv F H) vs ds := dv
  unfold gInt at q
  split at q
  · cases dv with
    | cons h r =>
      cases r
      cases h
      exact .inl ⟨_, rfl, k _ _ (post_here S (.int _) (fun _ h => nomatch h) q)⟩
  · cases dv with
    | cons h r =>
      cases r
      cases h
      exact .inr ⟨_, rfl, k _ _ (post_here S (.int _) (fun _ h => nomatch h) q)⟩
  · exact q.elim
/-- a new list of strong items -/
theorem post_new {K : PySem.W.Frag} {Pr : Addr → Prop} {F : List Addr} {H : Hp} {σ : L2.St} {ρ : En} {m : C.W.M} {Q : D → C.W.M → Prop} {p : Addr} {vs : List V} {ds : List D} (S : SR K C Pr F σ ρ m H) (hp : H p = none) (dv : DnA true K F (sv C.H0 Pr H) vs ds) (q : Q (.lst ds) m) :
    Post K C .f Pr F H σ ρ Q (.ref p) (upd H p (.lst vs)) := by
  obtain ⟨S2, t2⟩ := S.new1 (o := .lst vs) hp
  have np := S.np hp
  have dv2 : DnA true K F (sv C.H0 Pr (upd H p (.lst vs))) vs ds := DnA.mono t2.pre (sv_tr t2.toTr S.prs) dv
  exact ⟨Pr, F, m, .lst ds, S2, t2, ⟨.lst (vw_iff.mpr ⟨upd_same, .inr ⟨trivial, np, S.h0n hp⟩⟩) dv2, fun ds' e => by cases e; exact ⟨p, vs, rfl, hp, np, upd_same, dv2⟩⟩, q⟩
theorem post_newT {K : PySem.W.Frag} {Pr : Addr → Prop} {F : List Addr} {H : Hp} {σ : L2.St} {ρ : En} {m : C.W.M} {Q : D → C.W.M → Prop} {p : Addr} {vs : List V} {ds : List D} (S : SR K C Pr F σ ρ m H) (hp : H p = none) (dv : DnA true K F (sv C.H0 Pr H) vs ds) (q : Q (.tup ds) m) :
    Post K C .f Pr F H σ ρ Q (.ref p) (upd H p (.tup vs)) := by
  obtain ⟨S2, t2⟩ := S.new1 (o := .tup vs) hp
  exact ⟨Pr, F, m, .tup ds, S2, t2, dv_flat S2 (.tup (.inl (vw_iff.mpr ⟨upd_same, .inl trivial⟩)) (DnA.mono t2.pre (sv_tr t2.toTr S.prs) dv)) (fun _ h => nomatch h), q⟩
/-- weak items without lists are strong -/
theorem DnA.up {K : PySem.W.Frag} {Pr : Addr → Prop} {F : List Addr} {H : Hp} {vs : List V} {ds : List D} (h : DnA false K F (wv F H) vs ds) (n : D.nls ds = true) : DnA true K F (sv C.H0 Pr H) vs ds :=
  h.flat ⟨[], by simp⟩ (fun a o i q => vw_iff.mpr ⟨wv_le q, .inl i⟩) n
theorem Dn.up {K : PySem.W.Frag} {Pr : Addr → Prop} {F : List Addr} {H : Hp} {v : V} {d : D} (h : Dn false K F (wv F H) v d) (n : d.nl = true) : Dn true K F (sv C.H0 Pr H) v d :=
  h.flat ⟨[], by simp⟩ (fun a o i q => vw_iff.mpr ⟨wv_le q, .inl i⟩) n
/-- list(x), tuple(x) of what is looked at: without lists within -/
def gSeq (mk : List D → D) : List D → (D → Prop) → Prop
  | [.lst xs], Q | [.tup xs], Q => D.nls xs = true ∧ Q (mk xs)
  | _, _ => False
theorem ca_list : CaOk X C .w (.type "list") (gSeq .lst) := by
  refine ⟨_, call_list_of, fun σ H Pr F ρ m vs ds Q R S dv q k => ?_⟩
  have dv : DnA false X.K F (wv F H) vs ds := dv
  unfold gSeq at q
  split at q
  · cases dv with
    | cons h r =>
      cases r
      obtain ⟨a, us, rfl, hs, hl, hd⟩ := h.sqL (fun _ _ => wv_le)
      exact ⟨a, us, rfl, .inl hs, fun l hl => k _ _ (post_new S hl (hd.up q.1) q.2)⟩
  · cases dv with
    | cons h r =>
      cases r
      obtain ⟨a, us, rfl, hs, hl, hd⟩ := h.sqT (fun _ _ => wv_le)
      exact ⟨a, us, rfl, .inr hs, fun l hl => k _ _ (post_new S hl (hd.up q.1) q.2)⟩
  · exact q.elim
theorem ca_tuple : CaOk X C .w (.type "tuple") (gSeq .tup) := by
  refine ⟨_, call_tuple_of, fun σ H Pr F ρ m vs ds Q R S dv q k => ?_⟩
  have dv : DnA false X.K F (wv F H) vs ds := dv
  unfold gSeq at q
  split at q
  · cases dv with
    | cons h r =>
      cases r
      obtain ⟨a, us, rfl, hs, hl, hd⟩ := h.sqL (fun _ _ => wv_le)
      exact ⟨a, us, rfl, .inl ⟨hs, fun l hl => k _ _ (post_newT S hl (hd.up q.1) q.2)⟩⟩
  · cases dv with
    | cons h r =>
      cases r
      have hs := Dn.up (C := C) (Pr := Pr) h q.1
      obtain ⟨a, us, rfl, hs', hl, hd⟩ := h.sqT (fun _ _ => wv_le)
      exact ⟨a, us, rfl, .inr ⟨hs', k _ _ (post_here S hs (fun _ h => nomatch h) q.2)⟩⟩
  · exact q.elim
/-- isinstance of a built-in type -/
def D.ty : D → Option String
  | .non => some "NoneType" | .bl _ => some "bool" | .int _ => some "int" | .str _ => some "str" | .tup _ => some "tuple" | .lst _ => some "list" | .hnd _ => none | .dic => some "dict" | .exc _ => none | .fn _ => none | .ptr _ => none
def isiB (t T : String) : Bool := t == T || (t == "bool" && T == "int")
def IsiT (T : String) : Prop := ∀ t ∈ ["NoneType", "bool", "int", "str", "tuple", "list", "dict"], kitB t T = some (isiB t T)
theorem ty_of {K : PySem.W.Frag} {F : List Addr} {G H : Hp} {v : V} {d : D} (hG : ∀ a o, G a = some o → H a = some o) (h : Dn false K F G v d) {t : String} (e : d.ty = some t) : TyX K H v (.type t) := by
  cases h with
  | non => cases e; exact .base .non
  | bl b => cases e; exact .base (.bl b)
  | int i => cases e; exact .base (.int i)
  | str x => cases e; exact .base (.str x)
  | hnd h => cases e
  | exc h _ => cases e
  | fn h => cases e
  | ptr => cases e
  | dic h => cases e; exact .base (.dK (hG _ _ h))
  | tup h r =>
    cases e
    rcases h with h | ⟨o, its, n, h, c, _⟩
    · exact .base (.tup (hG _ _ h))
    · exact .kTuple h c
  | lst h r =>
    cases e
    rcases h with (h | ⟨o, h⟩) | ⟨o, its, n, h, c, _⟩
    · exact .base (.lst (hG _ _ h))
    · exact .base (.frz (hG _ _ h))
    · exact .kList h c
def dIsi {M : Type} (T : String) (t : DT M) : DT M := fun ρ m Q Z => t ρ m (fun d m1 => match d.ty with | some ty => Q (.bl (isiB ty T)) m1 | none => False) Z
theorem j_isi {T : String} {x : Str} {p p2 : Pos} {t : DT C.W.M} (hT : IsiT T) (ha : J .w X C a t) (mi : X.mg "isinstance" = none) (mx : X.mg x = none) (hv : bootBuiltins x = some (.type T)) (gi : Gl X "isinstance" := by rfl) (gx : Gl X x := by rfl) (hn : x ≠ "__name__" := by decide) (hdb : (x == ("__debug__" : Str)) = false := by decide)
    (he : starEach [a, .Name x p2] X.env = (false, eval a X.env) :: starEach [.Name x p2] X.env := by rfl) (hpl : (backTo pos (starEach [.Name x p2] X.env)).any (·.1) = false := by rfl) :
    J .f X C (.Call (.Name "isinstance" p) [a, .Name x p2] [] pos) (dIsi T t) := by
  obtain ⟨te, pa, q⟩ := ha
  refine ⟨_, pe_callB call_isi gi mi (by decide +kernel) (pa_cons pa (pa_cons (pe_bltn gx mx hv (v := .ty T) rfl hn hdb) pa_nil) he) (by decide) (by decide) he hpl, fun σ H Pr F ρ m Q Z R S E h k => ?_⟩
  refine q σ H Pr F ρ m _ Z _ S E h fun v H1 ⟨P1, F1, m1, d, S1, t1, dv, z⟩ => ?_
  try dsimp only at z
  split at z
  · rename_i ty e
    refine ⟨v, .ty T, .type ty, .type T, _, rfl, .ty T, ty_of (fun _ _ => wv_le) dv e, kit_ty (hT ty ?_), k _ _ ((post_here (d := .bl (isiB ty T)) S1 (.bl _) (fun _ h => nomatch h) z).te t1)⟩
    cases d <;> first | (cases e; simp) | cases e
  · exact z.elim
theorem isi_tuple : IsiT "tuple" := by unfold IsiT; decide +kernel
theorem isi_bool : IsiT "bool" := by unfold IsiT; decide +kernel
theorem isi_int : IsiT "int" := by unfold IsiT; decide +kernel
theorem isi_list : IsiT "list" := by unfold IsiT; decide +kernel
theorem isi_str : IsiT "str" := by unfold IsiT; decide +kernel

/-! ### places and slices -/
/-- x[i]; k: the items are without lists -/
def gIx (n : Bool) : G2 := fun x y Q => match x, y with
  | .lst ds, .int i | .tup ds, .int i => (match atI ds i with | some d => (n = true → d.nl = true) ∧ Q d | none => False)
  | .str z, .int i => z.length ≤ sizeLine ∧ (match atI z.cps.toList i with | some c => Q (.str ⟨#[c]⟩) | none => False)
  | _, _ => False
theorem atI_dn {s : Bool} {K : PySem.W.Frag} {F : List Addr} {G : Hp} {vs : List V} {ds : List D} {i : Int} {d : D} (h : DnA s K F G vs ds) (e : atI ds i = some d) : ∃ v, atI vs i = some v ∧ Dn s K F G v d := by
  unfold atI at e ⊢
  rw [h.length]
  cases q : ixN ds.length i with
  | none => rw [q] at e; cases e
  | some j =>
    rw [q] at e
    exact h.getD (by simpa using e)
theorem ix_core {n sb : Bool} {K : PySem.W.Frag} {F : List Addr} {G H : Hp} {v w : V} {d d2 : D} {R : VK} {Q : D → Prop} (hG : ∀ a o, G a = some o → H a = some o) (dv : Dn sb K F G v d) (dw : w = .int 0 ∨ ∀ i, d2 = .int i → w = .int i)
    (hw : ∀ i, d2 = .int i → w = .int i) (q : gIx n d d2 Q) (fin : ∀ v' d', Dn sb K F G v' d' → (n = true → d'.nl = true) → Q d' → R v' H) : rIx K v w H R := by
  unfold gIx at q
  split at q
  · split at q
    · rename_i e
      cases dv with
      | lst hl hr =>
        obtain ⟨v', e', r'⟩ := atI_dn hr e
        exact .inl ⟨_, _, _, v', rfl, hw _ rfl, (hl.mono hG).sq, e', fin _ _ r' q.1 q.2⟩
    · exact q.elim
  · split at q
    · rename_i e
      cases dv with
      | tup hl hr =>
        obtain ⟨v', e', r'⟩ := atI_dn hr e
        exact .inr (.inl ⟨_, _, _, v', rfl, hw _ rfl, (hl.mono fun a xs => hG a _).sq, e', fin _ _ r' q.1 q.2⟩)
    · exact q.elim
  · obtain ⟨hz, q⟩ := q
    split at q
    · rename_i c e
      cases dv
      exact .inr (.inr ⟨_, _, c, rfl, hw _ rfl, hz, e, fin _ (.str ⟨#[c]⟩) (.str _) (fun _ => rfl) q⟩)
    · exact q.elim
  · exact q.elim
theorem j_ix {ta tb : DT C.W.M} (ha : J .s X C a ta) (hb : J .w X C b tb) (hs : PlainIx b := by exact fun _ _ => rfl) : J .s X C (.Subscript a b pos) (dBin (gIx false) ta tb) := by
  obtain ⟨te, p, q1⟩ := ha
  obtain ⟨te', p', q2⟩ := hb
  refine ⟨_, pe_ix ix_seq p p' hs, fun σ H Pr F ρ m Q Z R S E h k => ?_⟩
  refine q1 σ H Pr F ρ m _ Z _ S E h fun v H1 ⟨P1, F1, m1, d, S1, t1, dv, z⟩ => ?_
  refine q2 σ H1 P1 F1 ρ m1 _ Z _ S1 (E.te t1.toTr) z fun w H2 ⟨P2, F2, m2, d2, S2, t2, dv2, z2⟩ => ?_
  have dv2 : Dn false X.K F2 (wv F2 H2) w d2 := dv2
  have hw : ∀ i, d2 = .int i → w = .int i := fun i e => by rw [e] at dv2; exact dv2.toInt
  exact ix_core (fun _ _ => sv_le) (Dn.tr (H0 := C.H0) t2.toTr S1.prs dv) (.inr hw) hw z2 fun v' d' h _ q => k _ _ ⟨P2, F2, m2, d', S2, t1.trans t2, h, q⟩
/-- .. of what is only looked at -/
theorem j_ixw {ta tb : DT C.W.M} (ha : J .w X C a ta) (hb : J .w X C b tb) (hs : PlainIx b := by exact fun _ _ => rfl) : J .s X C (.Subscript a b pos) (dBin (gIx true) ta tb) := by
  obtain ⟨te, p, q1⟩ := ha
  obtain ⟨te', p', q2⟩ := hb
  refine ⟨_, pe_ix ix_seq p p' hs, fun σ H Pr F ρ m Q Z R S E h k => ?_⟩
  refine q1 σ H Pr F ρ m _ Z _ S E h fun v H1 ⟨P1, F1, m1, d, S1, t1, dv, z⟩ => ?_
  refine q2 σ H1 P1 F1 ρ m1 _ Z _ S1 (E.te t1.toTr) z fun w H2 ⟨P2, F2, m2, d2, S2, t2, dv2, z2⟩ => ?_
  have dv2 : Dn false X.K F2 (wv F2 H2) w d2 := dv2
  have hw : ∀ i, d2 = .int i → w = .int i := fun i e => by rw [e] at dv2; exact dv2.toInt
  exact ix_core (fun _ _ => wv_le) (Dn.te t2 dv) (.inr hw) hw z2 fun v' d' h n q => k _ _ ⟨P2, F2, m2, d', S2, t1.trans t2, h.up (n rfl), q⟩
/-- a part of a slice -/
abbrev DTO (M : Type) := En → M → (Option Int → M → Prop) → (Str → M → Prop) → Prop
def JO (X : Cx) (C : Cn) (e : Option Expr) (t : DTO C.W.M) : Prop := ∃ te, PO X e te ∧
  ∀ σ H Pr F ρ m Q Z (R : Option Int → Hp → Prop), SR X.K C Pr F σ ρ m H → Ex X C Pr F H σ ρ Z → t ρ m Q Z → (∀ o H', (∃ Pr' F' m', SR X.K C Pr' F' σ ρ m' H' ∧ Te Pr F H Pr' F' H' ∧ Q o m') → R o H') → te σ H R
def dONone {M : Type} : DTO M := fun _ m Q _ => Q none m
def dOSome {M : Type} (t : DT M) : DTO M := fun ρ m Q Z => t ρ m (fun d m1 => match d with | .int i => Q (some i) m1 | _ => False) Z
theorem jo_none : JO X C none dONone := ⟨_, po_none, fun σ H Pr F ρ m Q Z R S E h k => k _ _ ⟨Pr, F, m, S, Te.refl, h⟩⟩
theorem jo_some {t : DT C.W.M} (h : J .w X C e t) : JO X C (some e) (dOSome t) := by
  obtain ⟨te, p, q⟩ := h
  refine ⟨_, po_some p, fun σ H Pr F ρ m Q Z R S E h k => ?_⟩
  refine q σ H Pr F ρ m _ Z _ S E h fun v H1 ⟨P1, F1, m1, d, S1, t1, dv, z⟩ => ?_
  have dv : Dn false X.K F1 (wv F1 H1) v d := dv
  try dsimp only at z
  split at z
  · exact ⟨_, dv.toInt, k _ _ ⟨P1, F1, m1, S1, t1, z⟩⟩
  · exact z.elim
def cutD (xs : List D) (lo hi : Option Int) : List D := (xs.drop (HT.sIx xs.length 0 lo)).take (HT.sIx xs.length xs.length hi - HT.sIx xs.length 0 lo)
theorem cut_dn {s : Bool} {K : PySem.W.Frag} {F : List Addr} {G : Hp} {vs : List V} {ds : List D} {lo hi : Option Int} (h : DnA s K F G vs ds) : DnA s K F G (cutV vs lo hi) (cutD ds lo hi) := by
  unfold cutV cutD
  rw [h.length]
  exact (h.drop _).take _
/-- x[lo:hi] of a list or a tuple whose items are without lists -/
def dSl {M : Type} (t : DT M) (lo hi : DTO M) : DT M := fun ρ m Q Z => t ρ m (fun x m1 => lo ρ m1 (fun l m2 => hi ρ m2 (fun u m3 => match x with
  | .lst ds => D.nls ds = true ∧ Q (.lst (cutD ds l u)) m3
  | .tup ds => D.nls ds = true ∧ Q (.tup (cutD ds l u)) m3
  | _ => False) Z) Z) Z
theorem nls_all : ∀ {ds : List D}, D.nls ds = true ↔ ∀ d ∈ ds, d.nl = true
  | [] => by simp [D.nls]
  | d :: ds => by rw [D.nls, Bool.and_eq_true, nls_all]; simp
theorem nls_sub {ds es : List D} (h : D.nls ds = true) (s : ∀ d ∈ es, d ∈ ds) : D.nls es = true := nls_all.mpr fun d hd => nls_all.mp h d (s d hd)
theorem nls_cut {ds : List D} {l u : Option Int} (h : D.nls ds = true) : D.nls (cutD ds l u) = true := nls_sub h fun d hd => List.mem_of_mem_drop (List.mem_of_mem_take hd)
theorem j_sl {lo hi : Option Expr} {t : DT C.W.M} {tl th : DTO C.W.M} {p2 : Pos} (ha : J .w X C e t) (hl : JO X C lo tl) (hh : JO X C hi th) : J .f X C (.Subscript e (.Slice lo hi none p2) pos) (dSl t tl th) := by
  obtain ⟨te, p, q1⟩ := ha
  obtain ⟨te', p', q2⟩ := hl
  obtain ⟨te'', p'', q3⟩ := hh
  refine ⟨_, pe_slice (sl_list.or sl_tupA) p p' p'', fun σ H Pr F ρ m Q Z R S E h k => ?_⟩
  refine q1 σ H Pr F ρ m _ Z _ S E h fun v H1 ⟨P1, F1, m1, d, S1, t1, dv, z⟩ => ?_
  refine q2 σ H1 P1 F1 ρ m1 _ Z _ S1 (E.te t1.toTr) z fun l H2 ⟨P2, F2, m2, S2, t2, z2⟩ => ?_
  refine q3 σ H2 P2 F2 ρ m2 _ Z _ S2 (E.te (t1.trans t2).toTr) z2 fun u H3 ⟨P3, F3, m3, S3, t3, z3⟩ => ?_
  have dv : Dn false X.K F3 (wv F3 H3) v d := Dn.te (t2.trans t3) dv
  have t4 := t1.trans (t2.trans t3)
  try dsimp only at z3
  split at z3
  · obtain ⟨a, us, rfl, hs, hl, hd⟩ := dv.sqL (fun _ _ => wv_le)
    exact .inl ⟨a, us, rfl, hs, fun p hp => k _ _ ((post_new S3 hp (cut_dn hd |>.up (nls_cut z3.1)) z3.2).te t4)⟩
  · have hst := Dn.up (C := C) (Pr := P3) dv z3.1
    generalize hds : (D.tup _) = dd at hst
    cases hds
    obtain ⟨a, us, rfl, hs, hl, hd⟩ := dv.sqT (fun _ _ => wv_le)
    refine .inr ⟨a, us, rfl, hs, fun w => ?_, fun _ p hp => k _ _ ((post_newT S3 hp (cut_dn hd |>.up (nls_cut z3.1)) z3.2).te t4)⟩
    have e : ∀ {ds : List D}, us.length = ds.length → cutD ds l u = ds := fun {ds} hl => by
      unfold cutD
      rw [← hl, w.1, w.2, List.drop_zero, Nat.sub_zero, hl, List.take_length]
    rw [e hl] at z3
    exact k _ _ ((post_here S3 hst (fun _ h => nomatch h) z3.2).te t4)
  · exact z3.elim
end
end RR

/-! RM: a tuple times 1, 0 or less -/
namespace RR
open PySem PySem.Spec PyProof.Rows L2
/-- few: an empty one -/
theorem tup_mul0 (l : Addr) (xs : Array Value) (n : Nat) (dd : Option Addr) (sl : Array (Option Value)) (x : Int) (u : Tok) (h0 : x ≤ 0) (hl : -(2 ^ 63) ≤ x) (ne : xs.isEmpty = false) :
    Meets (Builtin.«tuple.__mul__» ⟨[.ref l, .int x u], []⟩) (fun _ R s => s.heap.get? l = some ⟨.type "tuple", dd, .seq xs n, sl⟩ ∧ R (.ok (.ret (.ref s.heap.objs.size))) { s with heap := s.heap.push { cls := .type "tuple", data := .seq #[] }, toks := s.toks }) := by
  refine .of_wp fun prog w A R s h => ?_
  obtain ⟨hp, g, d, tk, os⟩ := s
  obtain ⟨at_, h⟩ := h
  have q0 : (decide (x < -(2 ^ 63)) || decide (x ≥ 2 ^ 63)) = false := by rw [decide_eq_false (by omega), decide_eq_false (by omega)]; rfl
  have q1 : (xs.isEmpty || x == 1) = false := by rw [ne, Bool.false_or]; exact beq_eq_false_iff_ne.mpr (by omega)
  have q2 : (decide (x ≤ 0) || xs.isEmpty) = true := by rw [decide_eq_true h0]; rfl
  have f1 := AutoSeq1.idx_int
  wp_walk using wpAny_loadPart' at_
  repeat (first
    | (refine wpAny_ite_false (decide_eq_false (fun z => Bool.false_ne_true (q0.symm.trans z))) ?_; wp_walk using wpAny_loadPart' at_)
    | (refine wpAny_ite_false (decide_eq_false (fun z => Bool.false_ne_true (q1.symm.trans z))) ?_; wp_walk using wpAny_loadPart' at_)
    | (refine wpAny_ite_true (decide_eq_true q2) ?_; wp_walk using wpAny_loadPart' at_)
    | exact ⟨_, rfl, h⟩)
/-- once: the same -/
theorem tup_mul1 (l : Addr) (xs : Array Value) (n : Nat) (dd : Option Addr) (sl : Array (Option Value)) (u : Tok) :
    Meets (Builtin.«tuple.__mul__» ⟨[.ref l, .int 1 u], []⟩) (fun _ R s => s.heap.get? l = some ⟨.type "tuple", dd, .seq xs n, sl⟩ ∧ R (.ok (.ret (.ref l))) s) := by
  refine .of_wp fun prog w A R s h => ?_
  obtain ⟨hp, g, d, tk, os⟩ := s
  obtain ⟨at_, h⟩ := h
  have q0 : (decide ((1 : Int) < -(2 ^ 63)) || decide ((1 : Int) ≥ 2 ^ 63)) = false := by decide
  have q1 : (xs.isEmpty || (1 : Int) == 1) = true := by simp
  have f1 := AutoSeq1.idx_int
  wp_walk using wpAny_loadPart' at_
  repeat (first
    | (refine wpAny_ite_false (decide_eq_false (fun z => Bool.false_ne_true (q0.symm.trans z))) ?_; wp_walk using wpAny_loadPart' at_)
    | (refine wpAny_ite_true (decide_eq_true q1) ?_; wp_walk using wpAny_loadPart' at_)
    | exact ⟨_, rfl, h⟩)
def rRepF (K : PySem.W.Frag) : R2 := fun x y H Q => ∃ l k xs, x = .ref l ∧ y = .int k ∧ SqT K H l xs ∧ xs ≠ [] ∧ -(2 ^ 63) ≤ k ∧ ((k ≤ 0 ∧ ∀ p, H p = none → Q (.ref p) (upd H p (.tup []))) ∨ (k = 1 ∧ Q (.ref l) H))
theorem op_repF {X : Cx} : OpR X (binaryOp .Mult) (rRepF X.K) := by
  intro pins s σ H x y v u Q I rx ry h
  obtain ⟨l, k, xs, rfl, rfl, sq, ne, kl, h⟩ := h
  cases rx
  obtain ⟨t, rfl⟩ := ry
  obtain ⟨its, r, ⟨⟨cls, dd, data, sl⟩, at_, hc, n, hd⟩, hs⟩ := I.tuple sq
  simp only at hc hd
  subst hc
  subst hd
  have full : its.toArray.isEmpty = false := by
    cases its with
    | nil => cases r; exact absurd rfl ne
    | cons a b => rfl
  rcases h with ⟨k0, q⟩ | ⟨rfl, q⟩
  · have mul := tup_mul0 l its.toArray n dd sl k t k0 kl full
    refine wpAny_binaryOp_repeat_ref (T := "tuple") (U := "int") (by decide) ⟨_, at_, rfl⟩ (fun s' => typeIs_int s' k t) noFill_tuple_mul F.fills_int_mul F.slot_int_rmul repeat_tuple F.slot_int_index.lookup ?_
    refine call_meets F.slot_int_rmul (typeIs_int s k t) F.entry_int_rmul (F.args_int_rmul_2 _ _) (int_rmul_tuple k t l its.toArray n dd sl) ⟨at_, rfl, ⟨_, at_, rfl⟩, ?_⟩
    refine call_meets F.slot_tuple_mul ⟨_, at_, rfl⟩ F.entry_tuple_mul (F.args_tuple_mul_2 _ _) mul ⟨at_, ?_⟩
    exact ⟨.ref s.heap.objs.size, _, I.laid (t' := s.toks) (o := .tup []) (fun b ob q => Heap.get?_push_of_some _ q) (Nat.le_refl _) ⟨Nat.zero_le _, [], .nil, IsTup.new _ _⟩, rfl, q _ (I.hok.fresh (Nat.le_refl _))⟩
  · have mul := tup_mul1 l its.toArray n dd sl t
    refine wpAny_binaryOp_repeat_ref (T := "tuple") (U := "int") (by decide) ⟨_, at_, rfl⟩ (fun s' => typeIs_int s' 1 t) noFill_tuple_mul F.fills_int_mul F.slot_int_rmul repeat_tuple F.slot_int_index.lookup ?_
    refine call_meets F.slot_int_rmul (typeIs_int s 1 t) F.entry_int_rmul (F.args_int_rmul_2 _ _) (int_rmul_tuple 1 t l its.toArray n dd sl) ⟨at_, rfl, ⟨_, at_, rfl⟩, ?_⟩
    refine call_meets F.slot_tuple_mul ⟨_, at_, rfl⟩ F.entry_tuple_mul (F.args_tuple_mul_2 _ _) mul ⟨at_, ?_⟩
    exact ⟨.ref l, H, I, rfl, q⟩
end RR

/-! REa: enumerate of a tuple -/
namespace RR
open PySem PyProof.Rows
open PySem.AutoSeq1 (wpAny_loadPart')
theorem draws_tuple {prog : Program} {w : World} {A : Around} (hh : A.handled = none) (it l : Addr) (hne : l ≠ it) (items : Array Value) :
    Draws prog w A it [it, l] items.size (fun i v => items[i]? = some v) (fun i h => h.IsTupleIter it l i ∧ h.IsTuple l items) where
  live := fun _ _ st => let ⟨o, ho, _⟩ := st.1; ⟨o, ho⟩
  frame := fun _ _ _ st hk => ⟨st.1.at fun o e => hk it (by simp) o e, by
    obtain ⟨o, e, r⟩ := st.2
    exact ⟨o, hk l (by simp) o e, r⟩⟩
  item := fun i s Q E hi st hQ => by
    refine RZ.nextOf_tuple_item st.1 st.2 (x := items[i]) (by simp [hi]) fun h' hit' hs' => ?_
    refine hQ _ h' s.toks (by simp [hi]) ⟨hit', ?_⟩ hs'
    obtain ⟨o, e, r⟩ := st.2
    exact ⟨o, (hs'.2 l hne).trans e, r⟩
  done := fun s Q E st hE => RZ.nextOf_tuple_end hh st.1 st.2 (by simp) hE
theorem meets_enumerate_newT (l : Addr) (items : Array Value) :
    Meets (Builtin.«enumerate.__new__» ⟨[.type "enumerate", .ref l], []⟩) (fun _ R s => s.heap.IsTuple l items ∧
      R (.ok (.ret (.ref (s.heap.push { cls := .type "tuple_iterator", data := .fields #[.ref l, .int 0 0] }).objs.size)))
        { s with heap := (s.heap.push { cls := .type "tuple_iterator", data := .fields #[.ref l, .int 0 0] }).push { cls := .type "enumerate", data := .fields #[.none, .bool false, .ref s.heap.objs.size, rawInt 0, .none, .none] } }) :=
  .of_wp fun prog w A R s h => by
    obtain ⟨hp, g, d, tk, os⟩ := s; obtain ⟨hl, h⟩ := h
    have hsub := sub_enumerate
    have hL : Heap.IsTuple (Shared.heap ⟨hp, g, d, tk, os⟩) l items := hl
    wp_walk using wpAny_pyIter_tuple hL
    refine wpAny_stack_any fun st => wpAny_pure ?_
    split
    · rename_i c _ _ _ _ _
      cases (c == Value.type "enumerate")
      · wp_walk using wpAny_pyIter_tuple hL
        exact ⟨_, rfl, h⟩
      · wp_walk using wpAny_pyIter_tuple hL
        exact ⟨_, rfl, h⟩
    · wp_walk using wpAny_pyIter_tuple hL
      exact ⟨_, rfl, h⟩
section
variable {prog : Program} {w : World} {A : Around} {E : Value → Shared → Prop} {s : Shared}
theorem call_enumerate_tuple {l : Addr} {items : Array Value} {Q : Value → Shared → Prop} (hL : s.heap.IsTuple l items)
    (h : ∀ h', IsEnum h' (s.heap.objs.size + 1) s.heap.objs.size 0 .none → h'.IsTupleIter s.heap.objs.size l 0 → h'.objs.size = s.heap.objs.size + 2 →
      (∀ b o, s.heap.get? b = some o → h'.get? b = some o) → Q (.ref (s.heap.objs.size + 1)) { s with heap := h' }) :
    wpAny (model prog w) A (call (.type "enumerate") [.ref l]) Q E s := by
  refine callType_new F.called_enumerate (by decide) (F.typeCall_enumerate_1 _) (F.newCall_enumerate_1 _) (fun obj => F.args_object_init_2 obj _) F.entry_enumerate_new
    (meets_enumerate_newT l items) ⟨hL, ?_⟩
  have hz : (s.heap.push { cls := .type "tuple_iterator", data := .fields #[.ref l, .int 0 0] }).objs.size = s.heap.objs.size + 1 := Heap.size_push ..
  show _ ∧ _
  rw [hz]
  have he : IsEnum ((s.heap.push { cls := .type "tuple_iterator", data := .fields #[.ref l, .int 0 0] }).push
      { cls := .type "enumerate", data := .fields #[.none, .bool false, .ref s.heap.objs.size, rawInt 0, .none, .none] }) (s.heap.objs.size + 1) s.heap.objs.size 0 .none := by
    have := Heap.get?_push_size (s.heap.push { cls := .type "tuple_iterator", data := .fields #[.ref l, .int 0 0] })
      (o := { cls := .type "enumerate", data := .fields #[.none, .bool false, .ref s.heap.objs.size, rawInt 0, .none, .none] }) rfl
    rw [hz] at this; exact this
  refine ⟨⟨_, he, rfl⟩, h _ he ⟨_, Heap.get?_push_of_some _ (Heap.get?_push_size _ rfl), rfl, rfl⟩ (by rw [Heap.size_push, hz]) fun b o x => Heap.get?_push_of_some _ (Heap.get?_push_of_some _ x)⟩
end
open PySem.Spec L2
/-- the tuple at a, each item in a new pair -/
def IteT (K : PySem.W.Frag) (a : Addr) : It :=
  ⟨fun i H => ∃ (xs : List V) (x : V), SqT K H a xs ∧ xs[i]? = some x, fun i H v H' => ∃ T x, v = .ref T ∧ H T = none ∧ H' = upd H T (.tup [.int (i : Nat), x]) ∧ ∀ xs, SqT K H a xs → xs[i]? = some x, fun i H => ∃ xs : List V, SqT K H a xs ∧ xs.length ≤ i⟩
theorem turn_enumT {P : Program} {w : World} {K : PySem.W.Frag} {elts : List Expr} {kk : Nat} {tpos : Pos} (a e it : Addr) :
    Turn P w K (.Tuple elts kk tpos) (IteT K a) [e, it] e (fun i h => (∃ old, IsEnum h e it ((i : Nat) : Int) old) ∧ h.IsTupleIter it a i ∧ e ≠ it) where
  mem := by simp
  obj := fun i h st b hb => by
    obtain ⟨⟨old, he⟩, ⟨o, ho, hc, hd⟩, _⟩ := st
    have e' : b = e ∨ b = it := by simpa using hb
    rcases e' with z | z
    · rw [z]; exact ⟨_, he, fun v q => nomatch q⟩
    · rw [z]; exact ⟨o, ho, fun v q => by rw [hd] at q; cases q⟩
  keep := fun i h h' st k => let ⟨⟨old, he⟩, hi, hne⟩ := st; ⟨⟨old, k e (by simp) _ he⟩, hi.at fun o q => k it (by simp) o q, hne⟩
  item := by
    intro X hP hw hK hc i pins s σ H E I hf st hg
    subst hP hw hK
    obtain ⟨⟨old, he⟩, hit, hne⟩ := st
    obtain ⟨xs, x, hq, hx⟩ := hg
    obtain ⟨its, rv, p, hz⟩ := I.tuple hq
    obtain ⟨u, hu, ru⟩ := rv.get hx
    have hel : e < s.heap.objs.size := Heap.lt_size he
    have hil : it < s.heap.objs.size := by obtain ⟨_, q, _⟩ := hit; exact Heap.lt_size q
    have hai : a ≠ it := fun z => by
      obtain ⟨o, q, c, _⟩ := p
      obtain ⟨o', q', c', _⟩ := hit
      rw [z, q'] at q; cases q
      rw [c'] at c; exact absurd c (by decide)
    have hae : a ≠ e := fun z => by
      obtain ⟨o, q, c, _⟩ := p
      rw [z, he] at q; cases q
      exact absurd (show Value.type "enumerate" = Value.type "tuple" from c) (by decide)
    refine wpAny_pyNext_enum_itemD (draws_tuple (A := X.A.in1) (I.ok.hd hc) it a hai its.toArray) he ⟨hit, p⟩ (by simpa using (List.getElem?_eq_some_iff.mp hu).1) hne (fun z => by
      have e' : e = it ∨ e = a := by simpa using z
      exact e'.elim hne fun z => hae z.symm) fun y h' tk hy ho hst hT hsz hk => ?_
    have ey : y = u := by
      have hy : its.toArray[i]? = some y := hy
      rw [List.getElem?_toArray, hu] at hy
      exact (Option.some.inj hy).symm
    subst ey
    refine ⟨_, rfl, wpAny_letOwnedTupleGo_enum (s := { s with heap := h', toks := tk + 1 }) ho fun h'' he' sb => ?_⟩
    have hT2 : h''.get? s.heap.objs.size = some { cls := .type "tuple", data := .seq #[.int i tk, y] } := (sb.2 _ (Nat.ne_of_gt hel)).trans hT
    have new : ObjOk X.prog X.w (upd H s.heap.objs.size (.tup [.int (i : Nat), x])) h'' s.heap.objs.size (.tup [.int (i : Nat), x]) :=
      ⟨by show 2 ≤ sizeLine; decide, [.int i tk, y], .cons ⟨_, rfl⟩ (.cons ru .nil), ⟨_, hT2, rfl, _, rfl⟩⟩
    have I1 : Inv X pins σ (upd H s.heap.objs.size (.tup [.int (i : Nat), x])) { s with heap := h'', toks := tk + 1 } :=
      I.turnedNew (t' := tk + 1) (ch := [e, it]) (fun b ob hb q => (sb.2 b (fun z => hb (by simp [z]))).trans (hk b ob (fun z => hb (by simp [z])) (fun z => hb (by simp [z])) q)) hf (Nat.le_refl _) new
    refine ⟨.ref s.heap.objs.size, _, I1, rfl, ⟨_, x, rfl, I.hok.fresh (Nat.le_refl _), rfl, fun ys hy => by rw [I.tuple_inj hy hq]; exact hx⟩, ⟨⟨y, ?_⟩, hst.1.at fun o q => (sb.2 it (Ne.symm hne)).trans q, hne⟩, fun b hb => ?_⟩
    · have e1 : ((i + 1 : Nat) : Int) = (i : Int) + 1 := by omega
      rw [e1]; exact he'
    · have hb' : b < s.heap.objs.size := by
        have e' : b = e ∨ b = it := by simpa using hb
        rcases e' with z | z
        · rw [z]; exact hel
        · rw [z]; exact hil
      rw [upd_ne (Nat.ne_of_lt hb')]
      exact (hf b hb).1
  done := by
    intro X hP hw hK hc i pins s σ H E I hf st hg
    subst hP hw hK
    obtain ⟨⟨old, he⟩, hit, hne⟩ := st
    obtain ⟨xs, hq, hx⟩ := hg
    obtain ⟨its, rv, p, hz⟩ := I.tuple hq
    obtain ⟨f0, f1, f2, f3, f4, f5⟩ := hf it (by simp)
    have hl := rv.length
    have hT : s.TypeIs (.ref e) "enumerate" := ⟨_, he, rfl⟩
    show wpAny _ X.A (pyNext (.ref e)) _ E s
    unfold pyNext
    refine wpAny_bind (wpAny_attempt (wpAny_callSpecial?_slot (name := Str.ofString "__next__") hT F.slot_enumerate_next
      (wpAny_call_entry F.slot_enumerate_next hT F.entry_enumerate_next ?_ (F.args_enumerate_next_1 _))))
    show wpAny _ _ (field (.ref e) 2 >>= _) _ _ _
    refine wpAny_bind (wpAny_field he rfl (x := .ref it) rfl ?_)
    refine wpAny_bind (RZ.nextOf_tuple_end (A := X.A.in1) (I.ok.hd hc) hit p (by simp; omega) fun h' x he' hx' => ?_)
    obtain ⟨o, ho, hcx⟩ := hx'
    refine wpAny_bind (wpAny_isInstance (T := "StopIteration") (b := true) ⟨o, ho, hcx⟩ isSubtype_stop ?_)
    exact wpAny_pure ⟨rfl, I.turned (t' := s.toks) (fun b o hb q => he' b o hb q) f0 f1 f3 f4 f5⟩
  self := fun A i s Q E st h => let ⟨⟨_, he⟩, _⟩ := st; wpAny_pyIter_enum he h
/-- enumerate(x), x a list or a tuple -/
def iEnumA (K : PySem.W.Frag) (ta : TA) : TI := fun σ H R => ta σ H fun vs H1 => ∃ a xs, vs = [.ref a] ∧ ((SqL K H1 a xs ∧ R (Ite K a) H1) ∨ (SqT K H1 a xs ∧ R (IteT K a) H1))
theorem pi_enumA {X : Cx} {e : Expr} {ta : TA} {p pos tpos : Pos} {elts : List Expr} {kk : Nat} (hg : Gl X "enumerate") (hm : X.mg "enumerate" = none) (ha : PA X [e] ta) (hs : starEach [e] X.env = [(false, eval e X.env)] := by rfl) :
    PI X (.Tuple elts kk tpos) (.Call (.Name "enumerate" p) [e] [] pos) (iEnumA X.K ta) := by
  refine ⟨fun pins s σ H R I h => ?_⟩
  refine Call_ (ld_blt I hg hm boot_enumerate (PyProof.Rows.callWith_type1 (thn (ha.run pos pins s σ H _ I h) fun us s1 ⟨vs, H1, I1, r1, q1⟩ => ?_) hs rfl))
  obtain ⟨a, xs, ex, q1⟩ := q1
  subst ex
  have fin : ∀ {b : Addr}, (b = s1.heap.objs.size + 1 ∨ b = s1.heap.objs.size) → FpOk X pins H1 b := fun {b} e' => by
    have hle : s1.heap.objs.size ≤ b := by
      rcases e' with z | z
      · rw [z]; exact Nat.le_add_right _ _
      · rw [z]; exact Nat.le_refl _
    exact I1.fpOk hle (I1.hok.fresh hle)
  cases r1 with
  | cons r rr =>
    cases rr
    cases r
    rcases q1 with ⟨hq, q⟩ | ⟨hq, q⟩
    · obtain ⟨its, rv, p', hz⟩ := I1.list hq
      refine call_enumerate_list p'.isList fun h' he hit hsz hk => wpAny_pyIter_enum he ?_
      have I2 : Inv X pins σ H1 { s1 with heap := h' } := I1.kept (t' := s1.toks) hk
      exact ⟨s1.heap.objs.size + 1, [s1.heap.objs.size + 1, s1.heap.objs.size], _, _, H1, rfl, I2, turn_enum a (s1.heap.objs.size + 1) s1.heap.objs.size, ⟨⟨.none, he⟩, hit, Nat.succ_ne_self _⟩, fun b hb => fin (by simpa using hb), q⟩
    · obtain ⟨its, rv, p', hz⟩ := I1.tuple hq
      refine call_enumerate_tuple p' fun h' he hit hsz hk => wpAny_pyIter_enum he ?_
      have I2 : Inv X pins σ H1 { s1 with heap := h' } := I1.kept (t' := s1.toks) hk
      exact ⟨s1.heap.objs.size + 1, [s1.heap.objs.size + 1, s1.heap.objs.size], _, _, H1, rfl, I2, turn_enumT a (s1.heap.objs.size + 1) s1.heap.objs.size, ⟨⟨.none, he⟩, hit, Nat.succ_ne_self _⟩, fun b hb => fin (by simpa using hb), q⟩
theorem walk_enumT {K : PySem.W.Frag} {a : Addr} {xs : List V} : Walk (IteT K a) xs.length (fun H => SqT K H a xs) (YPair (fun i => some (.int (i : Nat))) (fun i => xs[i]?)) := by
  refine ⟨fun i _ hi q => ⟨xs, xs[i], q, by simp [hi]⟩, fun _ q => ⟨xs, q, Nat.le_refl _⟩, fun i H v H' _ q y => ?_⟩
  obtain ⟨T, x, h1, h2, h3, h4⟩ := y
  exact ⟨T, .int (i : Nat), x, h1, h2, h3, rfl, h4 xs q⟩
/-- a list or a tuple, walked -/
def iSeq (K : PySem.W.Frag) (tl : TE) : TI := fun σ H R => tl σ H fun x H1 => ∃ a xs, x = .ref a ∧ ((SqL K H1 a xs ∧ R (Itl K a) H1) ∨ (SqT K H1 a xs ∧ R (Itt K a) H1))
theorem pi_seq {X : Cx} {tg l : Expr} {tl : TE} (hl : PE X l tl) : PI X tg l (iSeq X.K tl) := by
  refine ⟨fun pins s σ H R I h => ?_⟩
  refine thn (hl.run pins s σ H _ I h) fun v s1 ⟨x, H1, I1, r1, q1⟩ => ?_
  obtain ⟨a, xs, e, q⟩ := q1
  subst e
  cases r1
  rcases q with ⟨hq, q⟩ | ⟨hq, q⟩
  · obtain ⟨its, rv, p, hz⟩ := I1.list hq
    refine wpAny_pyIter_list p.isList ?_
    refine ⟨s1.heap.objs.size, [s1.heap.objs.size], _, _, H1, rfl, I1.kept (t' := s1.toks) fun b o e => Heap.get?_push_of_some _ e, turn_list a _, ⟨_, Heap.get?_push_size _ rfl, rfl, rfl⟩, fun b hb => ?_, q⟩
    have e : b = s1.heap.objs.size := by simpa using hb
    subst e
    exact I1.fpOk (Nat.le_refl _) (I1.hok.fresh (Nat.le_refl _))
  · obtain ⟨its, rv, p, hz⟩ := I1.tuple hq
    refine wpAny_pyIter_tuple (show s1.heap.IsTuple a its.toArray from p) ?_
    refine ⟨s1.heap.objs.size, [s1.heap.objs.size], _, _, H1, rfl, I1.kept (t' := s1.toks) fun b o e => Heap.get?_push_of_some _ e, turn_tuple a _, ⟨_, Heap.get?_push_size _ rfl, rfl, rfl⟩, fun b hb => ?_, q⟩
    have e : b = s1.heap.objs.size := by simpa using hb
    subst e
    exact I1.fpOk (Nat.le_refl _) (I1.hok.fresh (Nat.le_refl _))
end RR

/-! RE: sums of lists, tuples, texts; what is walked; comprehensions -/
namespace RR
open PySem PySem.Spec PyProof.Rows L2

/-! ### lists that are tracked, looked at: names that own one, too -/
def JD (X : Cx) (C : Cn) (e : Expr) (t : DT C.W.M) : Prop := ∃ te, PE X e te ∧
  ∀ σ H Pr F ρ m Q Z (R : VK), SR X.K C Pr F σ ρ m H → Ex X C Pr F H σ ρ Z → t ρ m Q Z →
    (∀ v H', (∃ Pr' F' m' d, SR X.K C Pr' F' σ ρ m' H' ∧ Te Pr F H Pr' F' H' ∧ Dn true X.K F' (wv F' H') v d ∧ Q d m') → R v H') → te σ H R
section
variable {X : Cx} {C : Cn} {e a b : Expr} {pos : Pos}
theorem J.sd {t : DT C.W.M} (h : J .s X C e t) : JD X C e t := by
  obtain ⟨te, p, q⟩ := h
  exact ⟨te, p, fun σ H Pr F ρ m Q Z R S E h k => q σ H Pr F ρ m Q Z R S E h fun v H' ⟨P1, F1, m1, d, S1, t1, dv, z⟩ => k v H' ⟨P1, F1, m1, d, S1, t1, Dn.mono ⟨[], by simp⟩ S1.sv_wv dv, z⟩⟩
theorem J.fd {t : DT C.W.M} (h : J .f X C e t) : JD X C e t := h.sf.sd
theorem jd_own (i : Nat) {x : Str} (hN : X.N[i]? = some x := by rfl) (hv : Vis X.env.scope x := by first | exact Or.inl rfl | exact Or.inr (Or.inl rfl) | exact Or.inr (Or.inr rfl)) (hd : (x == ("__debug__" : Str)) = false := by decide)
    (hcd : (x == ("__classdict__" : Str)) = false := by decide) : JD X C (.Name x pos) (dOwn i) := by
  refine ⟨_, pe_var hN hv hd hcd, fun σ H Pr F ρ m Q Z R S E h k => ?_⟩
  unfold dOwn at h
  split at h
  · rename_i d e
    obtain ⟨p, vs, e1, hp, pp, nf, q, n⟩ := S.slot i _ e
    exact ⟨.ref p, e1, k _ _ ⟨Pr, F, m, .lst d, S, Te.refl, .lst (vw_iff.mpr ⟨hp, nf⟩) (q.mono ⟨[], by simp⟩ S.sv_wv), h⟩⟩
  · exact h.elim
theorem Dn.ted {K : PySem.W.Frag} {Pr Pr1 : Addr → Prop} {F F1 : List Addr} {H H1 : Hp} {v : V} {d : D} (t : Te Pr F H Pr1 F1 H1) (h : Dn true K F (wv F H) v d) : Dn true K F1 (wv F1 H1) v d := h.mono t.pre (wv_te t)
def OpD (X : Cx) (C : Cn) (f : Value → Value → Sem Value) (g : G2) : Prop := ∃ r, OpR X f r ∧
  ∀ σ H Pr F ρ m x y dx dy Q (R : VK), SR X.K C Pr F σ ρ m H → Dn true X.K F (wv F H) x dx → Dn true X.K F (wv F H) y dy → g dx dy (fun d => Q d m) → (∀ v H', Post X.K C .f Pr F H σ ρ Q v H' → R v H') → r x y H R
theorem j_bind {op : Operator} {g : G2} {ta tb : DT C.W.M} (o : OpD X C (binaryOp op) g) (ha : JD X C a ta) (hb : JD X C b tb) : J .f X C (.BinOp a op b pos) (dBin g ta tb) := by
  obtain ⟨r, ho, q⟩ := o
  obtain ⟨te, p, q1⟩ := ha
  obtain ⟨te', p', q2⟩ := hb
  refine ⟨_, pe_op ho p p', fun σ H Pr F ρ m Q Z R S E h k => ?_⟩
  refine q1 σ H Pr F ρ m _ Z _ S E h fun v H1 ⟨P1, F1, m1, d, S1, t1, dv, z⟩ => ?_
  refine q2 σ H1 P1 F1 ρ m1 _ Z _ S1 (E.te t1.toTr) z fun w H2 ⟨P2, F2, m2, d2, S2, t2, dv2, z2⟩ => ?_
  exact q σ H2 P2 F2 ρ m2 v w d d2 Q R S2 (dv.ted t2) dv2 z2 fun v H' z => k v H' ((z.te t2).te t1)
def gAdd : G2 := fun x y Q => match x, y with
  | .int i, .int j => Q (.int (i + j))
  | .lst xs, .lst ys => xs.length + ys.length ≤ sizeLine ∧ D.nls xs = true ∧ D.nls ys = true ∧ Q (.lst (xs ++ ys))
  | .tup xs, .tup ys => xs.length + ys.length ≤ sizeLine ∧ D.nls xs = true ∧ D.nls ys = true ∧ Q (.tup (xs ++ ys))
  | .str s, .str t => s.length + t.length ≤ sizeLine ∧ Q (.str (s ++ t))
  | _, _ => False
theorem nls_app {xs ys : List D} (h : D.nls xs = true) (h' : D.nls ys = true) : D.nls (xs ++ ys) = true := nls_all.mpr fun d hd => (List.mem_append.mp hd).elim (nls_all.mp h d) (nls_all.mp h' d)
theorem okd_add : OpD X C (binaryOp .Add) gAdd := by
  refine ⟨_, op_add.or (op_cat.or (op_catA.or op_add_str)), fun σ H Pr F ρ m x y dx dy Q R S hx hy q k => ?_⟩
  unfold gAdd at q
  split at q
  · rw [hx.toInt, hy.toInt]
    exact .inl ⟨_, _, rfl, rfl, k _ _ (post_here S (.int _) (fun _ h => nomatch h) q)⟩
  · obtain ⟨q1, q2, q3, q⟩ := q
    cases hx with
    | lst h r =>
      cases hy with
      | lst h' r' =>
        refine .inr (.inl ⟨_, _, _, _, rfl, rfl, wv_le h, wv_le h', by rw [r.length, r'.length]; exact q1, fun p hp => k _ _ (post_new S hp ?_ q)⟩)
        exact ((r.weak).app r'.weak).up (nls_app q2 q3)
  · obtain ⟨q1, q2, q3, q⟩ := q
    cases hx with
    | tup h r =>
      cases hy with
      | tup h' r' =>
        have s1 := (Dn.tup h r).weak.up (C := C) (Pr := Pr) (show D.nl (.tup _) = true from q2)
        have s2 := (Dn.tup h' r').weak.up (C := C) (Pr := Pr) (show D.nl (.tup _) = true from q3)
        refine .inr (.inr (.inl ⟨_, _, _, _, rfl, rfl, (h.mono fun a xs => wv_le).sq, (h'.mono fun a xs => wv_le).sq, by rw [r.length, r'.length]; exact q1, fun e => k _ _ ?_, fun _ e => k _ _ ?_, fun _ _ p hp => k _ _ (post_newT S hp ?_ q)⟩))
        · subst e
          cases r
          exact post_here S s2 (fun _ h => nomatch h) q
        · subst e
          cases r'
          rw [List.append_nil] at q
          exact post_here S s1 (fun _ h => nomatch h) q
        · exact ((r.weak).app r'.weak).up (nls_app q2 q3)
  · cases hx
    cases hy
    exact .inr (.inr (.inr ⟨_, _, rfl, rfl, q.1, k _ _ (post_here S (.str _) (fun _ h => nomatch h) q.2)⟩))
  · exact q.elim
def rep (k : Int) (xs : List D) : List D := (List.replicate k.toNat xs).flatten
def gMul : G2 := fun x y Q => match x, y with
  | .int i, .int j => IntMulOk i j ∧ Q (.int (i * j))
  | .lst xs, .int k => -(2 ^ 63) ≤ k ∧ k < 2 ^ 63 ∧ xs.length * k.toNat ≤ sizeLine ∧ D.nls xs = true ∧ Q (.lst (rep k xs))
  | .tup xs, .int k => xs ≠ [] ∧ -(2 ^ 63) ≤ k ∧ k ≤ 1000 ∧ xs.length ≤ 1000 ∧ D.nls xs = true ∧ Q (.tup (rep k xs))
  | _, _ => False
theorem nls_rep {xs : List D} {k : Int} (h : D.nls xs = true) : D.nls (rep k xs) = true := nls_sub h fun d hd => by
  obtain ⟨l, hl, hd⟩ := List.mem_flatten.mp hd
  rw [List.eq_of_mem_replicate hl] at hd
  exact hd
theorem okd_mul : OpD X C (binaryOp .Mult) gMul := by
  refine ⟨_, op_mulA.or (op_rep.or (op_repT.or op_repF)), fun σ H Pr F ρ m x y dx dy Q R S hx hy q k => ?_⟩
  unfold gMul at q
  split at q
  · rw [hx.toInt, hy.toInt]
    exact .inl ⟨_, _, rfl, rfl, q.1, k _ _ (post_here S (.int _) (fun _ h => nomatch h) q.2)⟩
  · obtain ⟨q1, q2, q3, q4, q⟩ := q
    cases hx with
    | lst h r =>
      refine .inr (.inl ⟨_, _, _, rfl, hy.toInt, wv_le h, q1, q2, by rw [r.length]; exact q3, fun p hp => k _ _ (post_new S hp ?_ q)⟩)
      exact ((r.weak).rep _).up (nls_rep q4)
  · rename_i xs' k'
    obtain ⟨q1, q2, q3, q4, q5, q⟩ := q
    cases hx with
    | tup h r =>
      have nn : ∀ {vs : List V}, DnA true X.K F (wv F H) vs xs' → vs ≠ [] := fun z e => q1 (by subst e; cases z; rfl)
      by_cases k1 : k' ≤ 1
      · refine .inr (.inr (.inr ⟨_, _, _, rfl, hy.toInt, (h.mono fun a xs => wv_le).sq, nn r, q2, ?_⟩))
        by_cases k0 : k' ≤ 0
        · refine .inl ⟨k0, fun p hp => k _ _ (post_newT S hp .nil ?_)⟩
          unfold rep at q
          rw [show k'.toNat = 0 by omega] at q
          exact q
        · obtain rfl : k' = 1 := by omega
          have s1 := (Dn.tup h r).weak.up (C := C) (Pr := Pr) (show D.nl (.tup _) = true from q5)
          refine .inr ⟨rfl, k _ _ (post_here S s1 (fun _ h => nomatch h) ?_)⟩
          unfold rep at q
          rw [show (1 : Int).toNat = 1 from rfl, List.replicate_one, List.flatten_cons, List.flatten_nil, List.append_nil] at q
          exact q
      · refine .inr (.inr (.inl ⟨_, _, _, rfl, hy.toInt, (h.mono fun a xs => wv_le).sq, nn r, by omega, q3, by rw [r.length]; exact q4, fun p hp => k _ _ (post_newT S hp ?_ q)⟩))
        exact ((r.weak).rep _).up (nls_rep q5)
  · exact q.elim

/-! ### what is walked -/
/-- J walks the items, as long as nothing but what Ts lets happen happens -/
def Wk (K : PySem.W.Frag) (C : Cn) (st : Bool) (Pr : Addr → Prop) (F : List Addr) (H : Hp) (items : List D) (J : It) : Prop := ∃ (G : Hp → Prop) (Y : Nat → Hp → V → Hp → Prop), Walk J items.length G Y ∧
  ∀ Pr' F' H', (if st = true then Tr Pr F H Pr' F' H' else Te Pr F H Pr' F' H') → G H' ∧ ∀ i v H2, Y i H' v H2 → (∀ a o, H' a = some o → H2 a = some o) ∧ ∃ d, items[i]? = some d ∧ Dn true K F' (sv C.H0 Pr' H2) v d
def JI (st : Bool) (X : Cx) (C : Cn) (tg iter : Expr) (t : DTA C.W.M) : Prop := ∃ wi, PI X tg iter wi ∧
  ∀ σ H Pr F ρ m Q Z (R : It → Hp → Prop), SR X.K C Pr F σ ρ m H → Ex X C Pr F H σ ρ Z → t ρ m Q Z →
    (∀ J H', (∃ Pr' F' m' items, SR X.K C Pr' F' σ ρ m' H' ∧ Te Pr F H Pr' F' H' ∧ Wk X.K C st Pr' F' H' items J ∧ Q items m') → R J H') → wi σ H R
def dSeq {M : Type} (n : Bool) (t : DT M) : DTA M := fun ρ m Q Z => t ρ m (fun d m1 => match d with | .lst ds | .tup ds => (n = true → D.nls ds = true) ∧ Q ds m1 | _ => False) Z
theorem tr_of {Pr Pr' : Addr → Prop} {F F' : List Addr} {H H' : Hp} {st : Bool} (t : if st = true then Tr Pr F H Pr' F' H' else Te Pr F H Pr' F' H') : Tr Pr F H Pr' F' H' := by
  cases st with
  | true => exact t
  | false => exact Te.toTr (show Te Pr F H Pr' F' H' from t)
theorem Tp.at {K : PySem.W.Frag} {H0 : Hp} {Pr : Addr → Prop} {H : Hp} {a : Addr} {xs : List V} (h : Tp K (sv H0 Pr H) a xs) : SqT K H a xs := (h.mono fun a xs => sv_le).sq
theorem dn_get {K : PySem.W.Frag} {F : List Addr} {G : Hp} {s : Bool} {vs : List V} {ds : List D} {i : Nat} {v : V} (h : DnA s K F G vs ds) (e : vs[i]? = some v) : ∃ d, ds[i]? = some d ∧ Dn s K F G v d := h.get e
/-- over a list or a tuple that may be kept -/
theorem ji_seq {tg : Expr} {t : DT C.W.M} (h : J .s X C e t) : JI true X C tg e (dSeq false t) := by
  obtain ⟨te, p, q⟩ := h
  refine ⟨_, pi_seq p, fun σ H Pr F ρ m Q Z R S E h k => ?_⟩
  refine q σ H Pr F ρ m _ Z _ S E h fun v H1 ⟨P1, F1, m1, d, S1, t1, dv, z⟩ => ?_
  have dv : Dn true X.K F1 (sv C.H0 P1 H1) v d := dv
  cases dv with
  | lst h r =>
    have h : sv C.H0 P1 H1 _ = some (.lst _) := h
    refine ⟨_, _, rfl, .inl ⟨.inl (.inl (sv_le h)), k _ _ ⟨P1, F1, m1, _, S1, t1, ⟨_, _, by rw [← r.length]; exact walk_list, fun P2 F2 H2 t2 => ⟨SqL.of (K := X.K) (sv_le (sv_tr (tr_of t2) S1.prs _ _ h)), fun i v H3 y => ?_⟩⟩, z.2⟩⟩⟩
    obtain ⟨rfl, e⟩ := y
    exact ⟨fun _ _ h => h, dn_get (DnA.mono (tr_of t2).pre (sv_tr (tr_of t2) S1.prs) r) e⟩
  | tup h r =>
    refine ⟨_, _, rfl, .inr ⟨h.at, k _ _ ⟨P1, F1, m1, _, S1, t1, ⟨_, _, by rw [← r.length]; exact walk_tup, fun P2 F2 H2 t2 => ⟨(h.mono fun a xs => sv_tr (tr_of t2) S1.prs a _).at, fun i v H3 y => ?_⟩⟩, z.2⟩⟩⟩
    obtain ⟨rfl, e⟩ := y
    exact ⟨fun _ _ h => h, dn_get (DnA.mono (tr_of t2).pre (sv_tr (tr_of t2) S1.prs) r) e⟩
  | _ => exact z.elim
theorem Ls.wv {K : PySem.W.Frag} {F : List Addr} {H : Hp} {s : Bool} {a : Addr} {xs : List V} (h : Ls s K (wv F H) a xs) : SqL K H a xs := (h.mono fun _ _ => wv_le).sq
theorem Tp.wv {K : PySem.W.Frag} {F : List Addr} {H : Hp} {a : Addr} {xs : List V} (h : Tp K (wv F H) a xs) : SqT K H a xs := (h.mono fun a xs => wv_le).sq
/-- .. that is looked at (in a comprehension) -/
theorem ji_seqw {tg : Expr} {t : DT C.W.M} (h : J .w X C e t) : JI false X C tg e (dSeq true t) := by
  obtain ⟨te, p, q⟩ := h
  refine ⟨_, pi_seq p, fun σ H Pr F ρ m Q Z R S E h k => ?_⟩
  refine q σ H Pr F ρ m _ Z _ S E h fun v H1 ⟨P1, F1, m1, d, S1, t1, dv, z⟩ => ?_
  have dv : Dn false X.K F1 (wv F1 H1) v d := dv
  cases dv with
  | lst h r =>
    refine ⟨_, _, rfl, .inl ⟨h.wv, k _ _ ⟨P1, F1, m1, _, S1, t1, ⟨_, _, by rw [← r.length]; exact walk_list, fun P2 F2 H2 t2 => ⟨(h.mono (wv_te t2)).wv, fun i v H3 y => ?_⟩⟩, z.2⟩⟩⟩
    obtain ⟨rfl, e⟩ := y
    exact ⟨fun _ _ h => h, dn_get ((DnA.mono (Te.toTr t2).pre (wv_te t2) r).up (z.1 rfl)) e⟩
  | tup h r =>
    refine ⟨_, _, rfl, .inr ⟨h.wv, k _ _ ⟨P1, F1, m1, _, S1, t1, ⟨_, _, by rw [← r.length]; exact walk_tup, fun P2 F2 H2 t2 => ⟨(h.mono fun a xs => wv_te t2 a _).wv, fun i v H3 y => ?_⟩⟩, z.2⟩⟩⟩
    obtain ⟨rfl, e⟩ := y
    exact ⟨fun _ _ h => h, dn_get ((DnA.mono (Te.toTr t2).pre (wv_te t2) r).up (z.1 rfl)) e⟩
  | _ => exact z.elim
/-- a borrowed value stays whatever the body does -/
theorem bor_tr {K : PySem.W.Frag} {Pr Pr' : Addr → Prop} {F F' : List Addr} {σ : L2.St} {ρ : En} {m : C.W.M} {H H' : Hp} (S : SR K C Pr F σ ρ m H) (t : Tr Pr F H Pr' F' H') : ∀ a o, wv C.F0 C.H0 a = some o → wv F' H' a = some o := fun a o h => by
  obtain ⟨e, n⟩ := vw_iff.mp h
  have nf : a ∉ F := fun z => by rw [S.new a z n] at e; cases e
  have np : ¬ Pr a := fun z => by rw [S.prn a z nf] at e; cases e
  have e1 := S.keep a o n e
  refine vw_iff.mpr ⟨t.keep a o np e1, fun z => ?_⟩
  have z := t.fn a z nf
  rw [e1] at z; cases z
/-- over a borrowed list or tuple, in a for -/
theorem ji_bor {tg : Expr} (i : Nat) {x : Str} (hN : X.N[i]? = some x := by rfl) (hv : Vis X.env.scope x := by first | exact Or.inl rfl | exact Or.inr (Or.inl rfl) | exact Or.inr (Or.inr rfl)) (hd : (x == ("__debug__" : Str)) = false := by decide)
    (hcd : (x == ("__classdict__" : Str)) = false := by decide) : JI true X C tg (.Name x pos) (dSeq true (dBor i)) := by
  refine ⟨_, pi_seq (pe_var hN hv hd hcd), fun σ H Pr F ρ m Q Z R S E h k => ?_⟩
  unfold dSeq dBor at h
  split at h
  · rename_i d e
    obtain ⟨v, e1, dv⟩ := S.slot i _ e
    refine ⟨v, e1, ?_⟩
    have b1 := bor_tr S (Tr.refl (Pr := Pr))
    cases dv with
    | lst hl r =>
      refine ⟨_, _, rfl, .inl ⟨(hl.mono b1).wv, k _ _ ⟨Pr, F, m, _, S, Te.refl, ⟨_, _, by rw [← r.length]; exact walk_list, fun P2 F2 H2 t2 => ⟨(hl.mono (bor_tr S t2)).wv, fun i v H3 y => ?_⟩⟩, h.2⟩⟩⟩
      obtain ⟨rfl, e⟩ := y
      exact ⟨fun _ _ h => h, dn_get ((DnA.mono (pre_trans S.pre (tr_of t2).pre) (bor_tr S t2) r).up (h.1 rfl)) e⟩
    | tup hl r =>
      refine ⟨_, _, rfl, .inr ⟨(hl.mono fun a xs => b1 a _).wv, k _ _ ⟨Pr, F, m, _, S, Te.refl, ⟨_, _, by rw [← r.length]; exact walk_tup, fun P2 F2 H2 t2 => ⟨(hl.mono fun a xs => bor_tr S t2 a _).wv, fun i v H3 y => ?_⟩⟩, h.2⟩⟩⟩
      obtain ⟨rfl, e⟩ := y
      exact ⟨fun _ _ h => h, dn_get ((DnA.mono (pre_trans S.pre (tr_of t2).pre) (bor_tr S t2) r).up (h.1 rfl)) e⟩
    | _ => exact h.elim
  · exact h.elim
/-- range(b), range(a, b) -/
def iota (lo : Int) (n : Nat) : List D := (List.range n).map fun k => D.int (lo + (k : Nat))
theorem iota_get {lo : Int} {n i : Nat} (h : i < n) : (iota lo n)[i]? = some (.int (lo + i)) := by
  unfold iota
  rw [List.getElem?_map, List.getElem?_range h]
  rfl
theorem iota_len {lo : Int} {n : Nat} : (iota lo n).length = n := by unfold iota; simp
theorem wk_range {K : PySem.W.Frag} {st : Bool} {Pr : Addr → Prop} {F : List Addr} {H : Hp} {lo : Int} {n : Nat} : Wk K C st Pr F H (iota lo n) (Itr lo n) := by
  refine ⟨_, fun i H x H' => i < n ∧ H' = H ∧ x = .int (lo + i), by rw [iota_len]; exact ⟨walk_range.goes, walk_range.stops, fun i H x H' hi g y => ⟨hi, walk_range.yields i H x H' hi g y⟩⟩, fun P2 F2 H2 t2 => ⟨trivial, fun i v H3 y => ?_⟩⟩
  obtain ⟨hi, rfl, rfl⟩ := y
  exact ⟨fun _ _ h => h, _, iota_get hi, .int _⟩
def dRng1 {M : Type} (t : DTA M) : DTA M := fun ρ m Q Z => t ρ m (fun ds m1 => match ds with | [.int j] => -(2 ^ 62) ≤ j ∧ j < 2 ^ 62 ∧ Q (iota 0 j.toNat) m1 | _ => False) Z
def dRng2 {M : Type} (t : DTA M) : DTA M := fun ρ m Q Z => t ρ m (fun ds m1 => match ds with | [.int i, .int j] => (-(2 ^ 62) ≤ i ∧ i < 2 ^ 62 ∧ -(2 ^ 62) ≤ j ∧ j < 2 ^ 62) ∧ Q (iota i (j - i).toNat) m1 | _ => False) Z
theorem dnA1 {s : Bool} {K : PySem.W.Frag} {F : List Addr} {G : Hp} {vs : List V} {j : Int} (h : DnA s K F G vs [.int j]) : vs = [.int j] := by
  cases h with
  | cons h r =>
    cases r
    cases h
    rfl
theorem dnA2 {s : Bool} {K : PySem.W.Frag} {F : List Addr} {G : Hp} {vs : List V} {i j : Int} (h : DnA s K F G vs [.int i, .int j]) : vs = [.int i, .int j] := by
  cases h with
  | cons h r =>
    cases h
    rw [dnA1 r]
theorem ji_range1 {st : Bool} {tg : Expr} {t : DTA C.W.M} {p : Pos} (hm : X.mg "range" = none) (ha : JA .w X C [a] t) (hg : Gl X "range" := by rfl) (hs : starEach [a] X.env = [(false, eval a X.env)] := by rfl) : JI st X C tg (.Call (.Name "range" p) [a] [] pos) (dRng1 t) := by
  obtain ⟨te, pa, q⟩ := ha
  refine ⟨_, pi_range1 hg hm pa hs, fun σ H Pr F ρ m Q Z R S E h k => ?_⟩
  refine q σ H Pr F ρ m _ Z _ S E h fun vs H1 ⟨P1, F1, m1, ds, S1, t1, dv, z⟩ => ?_
  have dv : DnA false X.K F1 (wv F1 H1) vs ds := dv
  dsimp only at z
  split at z
  · exact ⟨_, dnA1 dv, z.1, z.2.1, k _ _ ⟨P1, F1, m1, _, S1, t1, wk_range, z.2.2⟩⟩
  · exact z.elim
theorem ji_range2 {st : Bool} {tg : Expr} {t : DTA C.W.M} {p : Pos} (hm : X.mg "range" = none) (ha : JA .w X C [a, b] t) (hg : Gl X "range" := by rfl) (hs : starEach [a, b] X.env = [(false, eval a X.env), (false, eval b X.env)] := by rfl) (hs2 : starEach [b] X.env = [(false, eval b X.env)] := by rfl) :
    JI st X C tg (.Call (.Name "range" p) [a, b] [] pos) (dRng2 t) := by
  obtain ⟨te, pa, q⟩ := ha
  refine ⟨_, pi_range2 hg hm pa hs hs2, fun σ H Pr F ρ m Q Z R S E h k => ?_⟩
  refine q σ H Pr F ρ m _ Z _ S E h fun vs H1 ⟨P1, F1, m1, ds, S1, t1, dv, z⟩ => ?_
  have dv : DnA false X.K F1 (wv F1 H1) vs ds := dv
  dsimp only at z
  split at z
  · exact ⟨_, _, dnA2 dv, z.1, k _ _ ⟨P1, F1, m1, _, S1, t1, wk_range, z.2⟩⟩
  · exact z.elim
/-- enumerate(x) -/
def enumD (n : Nat) : List D → List D
  | [] => []
  | d :: r => .tup [.int (n : Nat), d] :: enumD (n + 1) r
theorem enum_len : ∀ {n : Nat} {ds : List D}, (enumD n ds).length = ds.length
  | _, [] => rfl
  | n, _ :: r => congrArg (· + 1) (enum_len (n := n + 1) (ds := r))
theorem enum_get : ∀ {n : Nat} {ds : List D} {i : Nat} {d : D}, ds[i]? = some d → (enumD n ds)[i]? = some (.tup [.int ((n + i : Nat) : Int), d])
  | _, [], _, _, h => by simp at h
  | n, x :: r, 0, d, h => by simp at h; subst h; rfl
  | n, x :: r, i + 1, d, h => by
    have := enum_get (n := n + 1) (ds := r) (i := i) (d := d) (by simpa using h)
    rw [show n + 1 + i = n + (i + 1) by omega] at this
    exact this
def dEnum {M : Type} (n : Bool) (t : DT M) : DTA M := fun ρ m Q Z => dSeq n t ρ m (fun ds m1 => Q (enumD 0 ds) m1) Z
/-- a pair just made -/
theorem pair_dn {K : PySem.W.Frag} {Pr : Addr → Prop} {F : List Addr} {H : Hp} {T : Addr} {x y : V} {dx dy : D} (nT : H T = none) (hx : Dn true K F (sv C.H0 Pr H) x dx) (hy : Dn true K F (sv C.H0 Pr H) y dy) : (∀ a o, H a = some o → upd H T (.tup [x, y]) a = some o) ∧ Dn true K F (sv C.H0 Pr (upd H T (.tup [x, y]))) (.ref T) (.tup [dx, dy]) := by
  have k : ∀ a o, H a = some o → upd H T (.tup [x, y]) a = some o := fun a o e => by rw [upd_ne (ne_of_none e nT)]; exact e
  have up : ∀ a o, sv C.H0 Pr H a = some o → sv C.H0 Pr (upd H T (.tup [x, y])) a = some o := fun a o e => by
    obtain ⟨e, q⟩ := vw_iff.mp e
    exact vw_iff.mpr ⟨k a o e, q⟩
  exact ⟨k, .tup (.inl (vw_iff.mpr ⟨upd_same, .inl trivial⟩)) (.cons (hx.mono ⟨[], by simp⟩ up) (.cons (hy.mono ⟨[], by simp⟩ up) .nil))⟩
theorem wk_enumL {K : PySem.W.Frag} {st : Bool} {Pr : Addr → Prop} {F : List Addr} {H : Hp} {a : Addr} {xs : List V} {ds : List D} (hl : xs.length = ds.length)
    (g : ∀ Pr' F' H', (if st = true then Tr Pr F H Pr' F' H' else Te Pr F H Pr' F' H') → SqL K H' a xs ∧ DnA true K F' (sv C.H0 Pr' H') xs ds) : Wk K C st Pr F H (enumD 0 ds) (Ite K a) := by
  refine ⟨_, _, by rw [enum_len, ← hl]; exact walk_enum (xs := xs), fun P2 F2 H2 t2 => ⟨(g P2 F2 H2 t2).1, fun i v H3 y => ?_⟩⟩
  obtain ⟨T, x, z, rfl, nT, rfl, e1, e2⟩ := y
  cases e1
  obtain ⟨d, e, h⟩ := dn_get (g P2 F2 H2 t2).2 e2
  obtain ⟨k, h2⟩ := pair_dn nT (.int ((i : Nat) : Int)) h
  exact ⟨k, _, by rw [enum_get e, Nat.zero_add], h2⟩
theorem wk_enumT {K : PySem.W.Frag} {st : Bool} {Pr : Addr → Prop} {F : List Addr} {H : Hp} {a : Addr} {xs : List V} {ds : List D} (hl : xs.length = ds.length)
    (g : ∀ Pr' F' H', (if st = true then Tr Pr F H Pr' F' H' else Te Pr F H Pr' F' H') → SqT K H' a xs ∧ DnA true K F' (sv C.H0 Pr' H') xs ds) : Wk K C st Pr F H (enumD 0 ds) (IteT K a) := by
  refine ⟨_, _, by rw [enum_len, ← hl]; exact walk_enumT (xs := xs), fun P2 F2 H2 t2 => ⟨(g P2 F2 H2 t2).1, fun i v H3 y => ?_⟩⟩
  obtain ⟨T, x, z, rfl, nT, rfl, e1, e2⟩ := y
  cases e1
  obtain ⟨d, e, h⟩ := dn_get (g P2 F2 H2 t2).2 e2
  obtain ⟨k, h2⟩ := pair_dn nT (.int ((i : Nat) : Int)) h
  exact ⟨k, _, by rw [enum_get e, Nat.zero_add], h2⟩
theorem ji_enum {t : DT C.W.M} {p tpos : Pos} {elts : List Expr} {kk : Nat} (h : J .s X C e t) (hm : X.mg "enumerate" = none) (hg : Gl X "enumerate" := by rfl) (hs : starEach [e] X.env = [(false, eval e X.env)] := by rfl) :
    JI true X C (.Tuple elts kk tpos) (.Call (.Name "enumerate" p) [e] [] pos) (dEnum false t) := by
  obtain ⟨te, pe, q⟩ := h
  refine ⟨_, pi_enumA hg hm (pa_cons pe pa_nil hs) hs, fun σ H Pr F ρ m Q Z R S E h k => ?_⟩
  refine q σ H Pr F ρ m _ Z _ S E h fun v H1 ⟨P1, F1, m1, d, S1, t1, dv, z⟩ => ?_
  have dv : Dn true X.K F1 (sv C.H0 P1 H1) v d := dv
  cases dv with
  | lst h r =>
    have h : sv C.H0 P1 H1 _ = some (.lst _) := h
    exact ⟨_, _, rfl, .inl ⟨.inl (.inl (sv_le h)), k _ _ ⟨P1, F1, m1, _, S1, t1, wk_enumL r.length fun P2 F2 H2 t2 => ⟨.inl (.inl (sv_le (sv_tr (tr_of t2) S1.prs _ _ h))), DnA.mono (tr_of t2).pre (sv_tr (tr_of t2) S1.prs) r⟩, z.2⟩⟩⟩
  | tup h r =>
    exact ⟨_, _, rfl, .inr ⟨h.at, k _ _ ⟨P1, F1, m1, _, S1, t1, wk_enumT r.length fun P2 F2 H2 t2 => ⟨(h.mono fun a xs => sv_tr (tr_of t2) S1.prs a _).at, DnA.mono (tr_of t2).pre (sv_tr (tr_of t2) S1.prs) r⟩, z.2⟩⟩⟩
  | _ => exact z.elim
theorem ji_enumw {t : DT C.W.M} {p tpos : Pos} {elts : List Expr} {kk : Nat} (h : J .w X C e t) (hm : X.mg "enumerate" = none) (hg : Gl X "enumerate" := by rfl) (hs : starEach [e] X.env = [(false, eval e X.env)] := by rfl) :
    JI false X C (.Tuple elts kk tpos) (.Call (.Name "enumerate" p) [e] [] pos) (dEnum true t) := by
  obtain ⟨te, pe, q⟩ := h
  refine ⟨_, pi_enumA hg hm (pa_cons pe pa_nil hs) hs, fun σ H Pr F ρ m Q Z R S E h k => ?_⟩
  refine q σ H Pr F ρ m _ Z _ S E h fun v H1 ⟨P1, F1, m1, d, S1, t1, dv, z⟩ => ?_
  have dv : Dn false X.K F1 (wv F1 H1) v d := dv
  cases dv with
  | lst h r =>
    exact ⟨_, _, rfl, .inl ⟨h.wv, k _ _ ⟨P1, F1, m1, _, S1, t1, wk_enumL r.length fun P2 F2 H2 t2 => ⟨(h.mono (wv_te t2)).wv, (DnA.mono (Te.toTr t2).pre (wv_te t2) r).up (z.1 rfl)⟩, z.2⟩⟩⟩
  | tup h r =>
    exact ⟨_, _, rfl, .inr ⟨h.wv, k _ _ ⟨P1, F1, m1, _, S1, t1, wk_enumT r.length fun P2 F2 H2 t2 => ⟨(h.mono fun a xs => wv_te t2 a _).wv, (DnA.mono (Te.toTr t2).pre (wv_te t2) r).up (z.1 rfl)⟩, z.2⟩⟩⟩
  | _ => exact z.elim
/-- .. of a borrowed one, in a for -/
theorem ji_enumb {p tpos pos' : Pos} {elts : List Expr} {kk : Nat} (i : Nat) {x : Str} (hm : X.mg "enumerate" = none) (hN : X.N[i]? = some x := by rfl) (hv : Vis X.env.scope x := by first | exact Or.inl rfl | exact Or.inr (Or.inl rfl) | exact Or.inr (Or.inr rfl)) (hg : Gl X "enumerate" := by rfl) (hd : (x == ("__debug__" : Str)) = false := by decide)
    (hcd : (x == ("__classdict__" : Str)) = false := by decide) : JI true X C (.Tuple elts kk tpos) (.Call (.Name "enumerate" p) [.Name x pos'] [] pos) (dEnum true (dBor i)) := by
  refine ⟨_, pi_enumA hg hm (pa_cons (pe_var hN hv hd hcd) pa_nil rfl) rfl, fun σ H Pr F ρ m Q Z R S E h k => ?_⟩
  unfold dEnum dSeq dBor at h
  split at h
  · rename_i d e
    obtain ⟨v, e1, dv⟩ := S.slot i _ e
    refine ⟨v, e1, ?_⟩
    have b1 := bor_tr S (Tr.refl (Pr := Pr))
    cases dv with
    | lst hl r =>
      exact ⟨_, _, rfl, .inl ⟨(hl.mono b1).wv, k _ _ ⟨Pr, F, m, _, S, Te.refl, wk_enumL r.length fun P2 F2 H2 t2 => ⟨(hl.mono (bor_tr S t2)).wv, (DnA.mono (pre_trans S.pre (tr_of t2).pre) (bor_tr S t2) r).up (h.1 rfl)⟩, h.2⟩⟩⟩
    | tup hl r =>
      exact ⟨_, _, rfl, .inr ⟨(hl.mono fun a xs => b1 a _).wv, k _ _ ⟨Pr, F, m, _, S, Te.refl, wk_enumT r.length fun P2 F2 H2 t2 => ⟨(hl.mono fun a xs => bor_tr S t2 a _).wv, (DnA.mono (pre_trans S.pre (tr_of t2).pre) (bor_tr S t2) r).up (h.1 rfl)⟩, h.2⟩⟩⟩
    | _ => exact h.elim
  · exact h.elim
end
end RR

/-! RF: zip, reversed, targets, comprehensions -/
namespace RR
open PySem PySem.Spec PyProof.Rows L2 RZ RT
section
variable {X : Cx} {C : Cn} {e a b : Expr} {pos : Pos}
/-! ### zip -/
def zipD : List D → List D → List D
  | x :: xs, y :: ys => .tup [x, y] :: zipD xs ys
  | _, _ => []
theorem zip_len : ∀ {xs ys : List D}, (zipD xs ys).length = min xs.length ys.length
  | [], _ => by simp [zipD]
  | _ :: _, [] => by simp [zipD]
  | _ :: xs, _ :: ys => by rw [zipD, List.length_cons, zip_len]; simp <;> omega
theorem zip_get : ∀ {xs ys : List D} {i : Nat} {x y : D}, xs[i]? = some x → ys[i]? = some y → (zipD xs ys)[i]? = some (.tup [x, y])
  | [], _, _, _, _, h, _ => by simp at h
  | _ :: _, [], _, _, _, _, h => by simp at h
  | a :: xs, b :: ys, 0, x, y, h, h' => by simp at h h'; subst h h'; rfl
  | a :: xs, b :: ys, i + 1, x, y, h, h' => zip_get (xs := xs) (ys := ys) (i := i) (by simpa using h) (by simpa using h')
theorem walk_zipT {K : PySem.W.Frag} {a b : Addr} {xs ys : List V} {n : Nat} (hn : n = min xs.length ys.length) : Walk (ItzT K a b) n (fun H => SqT K H a xs ∧ SqT K H b ys) (YPair (fun i => xs[i]?) (fun i => ys[i]?)) := by
  subst hn
  refine ⟨fun i _ hi q => ?_, fun _ q => ⟨xs, ys, q.1, q.2, by omega⟩, fun i H v H' _ q y => ?_⟩
  · have h1 : i < xs.length := by omega
    have h2 : i < ys.length := by omega
    exact ⟨xs, ys, xs[i], ys[i], q.1, q.2, by simp [h1], by simp [h2]⟩
  · obtain ⟨T, x, z, h1, h2, h3, h4, h5⟩ := y
    exact ⟨T, x, z, h1, h2, h3, h4 xs q.1, h5 ys q.2⟩
def dZip {M : Type} (n : Bool) (t u : DT M) : DTA M := fun ρ m Q Z => t ρ m (fun x m1 => u ρ m1 (fun y m2 => match x, y with
  | .lst xs, .lst ys | .tup xs, .tup ys => (n = true → D.nls xs = true ∧ D.nls ys = true) ∧ Q (zipD xs ys) m2
  | _, _ => False) Z) Z
theorem wk_zip {K : PySem.W.Frag} {st : Bool} {Pr : Addr → Prop} {F : List Addr} {H : Hp} {J : It} {xs ys : List V} {ds es : List D} {G : Hp → Prop} (hl : xs.length = ds.length) (hl' : ys.length = es.length)
    (w : ∀ n, n = min xs.length ys.length → Walk J n G (YPair (fun i => xs[i]?) (fun i => ys[i]?)))
    (g : ∀ Pr' F' H', (if st = true then Tr Pr F H Pr' F' H' else Te Pr F H Pr' F' H') → G H' ∧ DnA true K F' (sv C.H0 Pr' H') xs ds ∧ DnA true K F' (sv C.H0 Pr' H') ys es) : Wk K C st Pr F H (zipD ds es) J := by
  refine ⟨G, _, w _ (by rw [zip_len, hl, hl']), fun P2 F2 H2 t2 => ⟨(g P2 F2 H2 t2).1, fun i v H3 y => ?_⟩⟩
  obtain ⟨T, x, z, rfl, nT, rfl, e1, e2⟩ := y
  obtain ⟨d, ed, hd⟩ := dn_get (g P2 F2 H2 t2).2.1 e1
  obtain ⟨d', ed', hd'⟩ := dn_get (g P2 F2 H2 t2).2.2 e2
  obtain ⟨k, h2⟩ := pair_dn nT hd hd'
  exact ⟨k, _, zip_get ed ed', h2⟩
theorem ji_zip {t u : DT C.W.M} {p tpos : Pos} {elts : List Expr} {kk : Nat} (ha : J .s X C a t) (hb : J .s X C b u) (hm : X.mg "zip" = none) (hg : Gl X "zip" := by rfl)
    (hs : starEach [a, b] X.env = (false, eval a X.env) :: starEach [b] X.env := by rfl) (hs2 : starEach [b] X.env = (false, eval b X.env) :: starEach [] X.env := by rfl) (hpl : (backTo pos (starEach [b] X.env)).any (·.1) = false := by rfl) :
    JI true X C (.Tuple elts kk tpos) (.Call (.Name "zip" p) [a, b] [] pos) (dZip false t u) := by
  obtain ⟨te, pe, q⟩ := ha
  obtain ⟨te', pe', q'⟩ := hb
  refine ⟨_, pi_zipA hg hm (pa_cons pe (pa_cons pe' pa_nil hs2) hs) hs hpl, fun σ H Pr F ρ m Q Z R S E h k => ?_⟩
  refine q σ H Pr F ρ m _ Z _ S E h fun v H1 ⟨P1, F1, m1, d, S1, t1, dv, z⟩ => ?_
  refine q' σ H1 P1 F1 ρ m1 _ Z _ S1 (E.te t1.toTr) z fun w H2 ⟨P2, F2, m2, d2, S2, t2, dv2, z2⟩ => ?_
  have dv : Dn true X.K F2 (sv C.H0 P2 H2) v d := Dn.tr (H0 := C.H0) t2.toTr S1.prs dv
  have dv2 : Dn true X.K F2 (sv C.H0 P2 H2) w d2 := dv2
  dsimp only at z2
  split at z2
  · cases dv with
    | lst h r =>
      cases dv2 with
      | lst h' r' =>
        have h : sv C.H0 P2 H2 _ = some (.lst _) := h
        have h' : sv C.H0 P2 H2 _ = some (.lst _) := h'
        exact ⟨_, _, _, _, rfl, .inl ⟨SqL.of (sv_le h), SqL.of (sv_le h'), k _ _ ⟨P2, F2, m2, _, S2, t1.trans t2, wk_zip r.length r'.length (fun n hn => walk_zip hn) fun P3 F3 H3 t3 =>
          ⟨⟨SqL.of (sv_le (sv_tr (tr_of t3) S2.prs _ _ h)), SqL.of (sv_le (sv_tr (tr_of t3) S2.prs _ _ h'))⟩, DnA.mono (tr_of t3).pre (sv_tr (tr_of t3) S2.prs) r, DnA.mono (tr_of t3).pre (sv_tr (tr_of t3) S2.prs) r'⟩, z2.2⟩⟩⟩
  · cases dv with
    | tup h r =>
      cases dv2 with
      | tup h' r' =>
        exact ⟨_, _, _, _, rfl, .inr ⟨h.at, h'.at, k _ _ ⟨P2, F2, m2, _, S2, t1.trans t2, wk_zip r.length r'.length (fun n hn => walk_zipT hn) fun P3 F3 H3 t3 =>
          ⟨⟨(h.mono fun a xs => sv_tr (tr_of t3) S2.prs a _).at, (h'.mono fun a xs => sv_tr (tr_of t3) S2.prs a _).at⟩, DnA.mono (tr_of t3).pre (sv_tr (tr_of t3) S2.prs) r, DnA.mono (tr_of t3).pre (sv_tr (tr_of t3) S2.prs) r'⟩, z2.2⟩⟩⟩
  · exact z2.elim
theorem ji_zipw {t u : DT C.W.M} {p tpos : Pos} {elts : List Expr} {kk : Nat} (ha : J .w X C a t) (hb : J .w X C b u) (hm : X.mg "zip" = none) (hg : Gl X "zip" := by rfl)
    (hs : starEach [a, b] X.env = (false, eval a X.env) :: starEach [b] X.env := by rfl) (hs2 : starEach [b] X.env = (false, eval b X.env) :: starEach [] X.env := by rfl) (hpl : (backTo pos (starEach [b] X.env)).any (·.1) = false := by rfl) :
    JI false X C (.Tuple elts kk tpos) (.Call (.Name "zip" p) [a, b] [] pos) (dZip true t u) := by
  obtain ⟨te, pe, q⟩ := ha
  obtain ⟨te', pe', q'⟩ := hb
  refine ⟨_, pi_zipA hg hm (pa_cons pe (pa_cons pe' pa_nil hs2) hs) hs hpl, fun σ H Pr F ρ m Q Z R S E h k => ?_⟩
  refine q σ H Pr F ρ m _ Z _ S E h fun v H1 ⟨P1, F1, m1, d, S1, t1, dv, z⟩ => ?_
  refine q' σ H1 P1 F1 ρ m1 _ Z _ S1 (E.te t1.toTr) z fun w H2 ⟨P2, F2, m2, d2, S2, t2, dv2, z2⟩ => ?_
  have dv : Dn false X.K F2 (wv F2 H2) v d := Dn.te t2 dv
  have dv2 : Dn false X.K F2 (wv F2 H2) w d2 := dv2
  dsimp only at z2
  split at z2
  · cases dv with
    | lst h r =>
      cases dv2 with
      | lst h' r' =>
        exact ⟨_, _, _, _, rfl, .inl ⟨h.wv, h'.wv, k _ _ ⟨P2, F2, m2, _, S2, t1.trans t2, wk_zip r.length r'.length (fun n hn => walk_zip hn) fun P3 F3 H3 t3 =>
          ⟨⟨(h.mono (wv_te t3)).wv, (h'.mono (wv_te t3)).wv⟩, (DnA.mono (Te.toTr t3).pre (wv_te t3) r).up (z2.1 rfl).1, (DnA.mono (Te.toTr t3).pre (wv_te t3) r').up (z2.1 rfl).2⟩, z2.2⟩⟩⟩
  · cases dv with
    | tup h r =>
      cases dv2 with
      | tup h' r' =>
        exact ⟨_, _, _, _, rfl, .inr ⟨h.wv, h'.wv, k _ _ ⟨P2, F2, m2, _, S2, t1.trans t2, wk_zip r.length r'.length (fun n hn => walk_zipT hn) fun P3 F3 H3 t3 =>
          ⟨⟨(h.mono fun a xs => wv_te t3 a _).wv, (h'.mono fun a xs => wv_te t3 a _).wv⟩, (DnA.mono (Te.toTr t3).pre (wv_te t3) r).up (z2.1 rfl).1, (DnA.mono (Te.toTr t3).pre (wv_te t3) r').up (z2.1 rfl).2⟩, z2.2⟩⟩⟩
  · exact z2.elim

/-! ### reversed -/
theorem walk_revT {K : PySem.W.Frag} {a : Addr} {xs : List V} : Walk (ItvT K a xs.length) xs.length (fun H => SqT K H a xs) (fun i H x H' => H' = H ∧ xs[xs.length - 1 - i]? = some x) :=
  ⟨fun i _ hi q => ⟨hi, xs, xs[xs.length - 1 - i]'(by omega), q, by simp [show xs.length - 1 - i < xs.length by omega]⟩, fun _ _ => Nat.le_refl _, fun _ _ _ _ _ q y => ⟨y.1, y.2 xs q⟩⟩
theorem rev_get {ds : List D} {i : Nat} (hi : i < ds.length) : ds.reverse[i]? = ds[ds.length - 1 - i]? := by
  rw [List.getElem?_reverse hi]
theorem wk_rev {K : PySem.W.Frag} {st : Bool} {Pr : Addr → Prop} {F : List Addr} {H : Hp} {J : It} {xs : List V} {ds : List D} {G : Hp → Prop} (hl : xs.length = ds.length) (w : Walk J xs.length G (fun i H x H' => H' = H ∧ xs[xs.length - 1 - i]? = some x))
    (g : ∀ Pr' F' H', (if st = true then Tr Pr F H Pr' F' H' else Te Pr F H Pr' F' H') → G H' ∧ DnA true K F' (sv C.H0 Pr' H') xs ds) : Wk K C st Pr F H ds.reverse J := by
  refine ⟨G, fun i H x H' => i < xs.length ∧ H' = H ∧ xs[xs.length - 1 - i]? = some x, by rw [List.length_reverse, ← hl]; exact ⟨w.goes, w.stops, fun i H x H' hi q y => ⟨hi, w.yields i H x H' hi q y⟩⟩, fun P2 F2 H2 t2 => ⟨(g P2 F2 H2 t2).1, fun i v H3 y => ?_⟩⟩
  obtain ⟨hi, rfl, e⟩ := y
  obtain ⟨d, ed, hd⟩ := dn_get (g P2 F2 H3 t2).2 e
  refine ⟨fun _ _ h => h, d, ?_, hd⟩
  rw [rev_get (by omega), ← hl]
  exact ed
def dRev {M : Type} (n : Bool) (t : DT M) : DTA M := fun ρ m Q Z => dSeq n t ρ m (fun ds m1 => Q ds.reverse m1) Z
theorem ji_rev {tg : Expr} {t : DT C.W.M} {p : Pos} (h : J .s X C e t) (hm : X.mg "reversed" = none) (hg : Gl X "reversed" := by rfl) (hs : starEach [e] X.env = (false, eval e X.env) :: starEach [] X.env := by rfl) :
    JI true X C tg (.Call (.Name "reversed" p) [e] [] pos) (dRev false t) := by
  obtain ⟨te, pe, q⟩ := h
  refine ⟨_, pi_revA hg hm pe hs, fun σ H Pr F ρ m Q Z R S E h k => ?_⟩
  refine q σ H Pr F ρ m _ Z _ S E h fun v H1 ⟨P1, F1, m1, d, S1, t1, dv, z⟩ => ?_
  have dv : Dn true X.K F1 (sv C.H0 P1 H1) v d := dv
  cases dv with
  | lst h r =>
    have h : sv C.H0 P1 H1 _ = some (.lst _) := h
    exact ⟨_, _, rfl, .inl ⟨SqL.of (sv_le h), k _ _ ⟨P1, F1, m1, _, S1, t1, wk_rev r.length walk_rev fun P2 F2 H2 t2 => ⟨SqL.of (sv_le (sv_tr (tr_of t2) S1.prs _ _ h)), DnA.mono (tr_of t2).pre (sv_tr (tr_of t2) S1.prs) r⟩, z.2⟩⟩⟩
  | tup h r =>
    exact ⟨_, _, rfl, .inr ⟨h.at, k _ _ ⟨P1, F1, m1, _, S1, t1, wk_rev r.length walk_revT fun P2 F2 H2 t2 => ⟨(h.mono fun a xs => sv_tr (tr_of t2) S1.prs a _).at, DnA.mono (tr_of t2).pre (sv_tr (tr_of t2) S1.prs) r⟩, z.2⟩⟩⟩
  | _ => exact z.elim
/-- reversed(range(n)) -/
theorem wk_rangeC {K : PySem.W.Frag} {st : Bool} {Pr : Addr → Prop} {F : List Addr} {H : Hp} {n : Nat} : Wk K C st Pr F H (iota 0 n).reverse (Itc ((n : Int) - 1) (-1) n) := by
  refine ⟨_, fun i H x H' => i < n ∧ H' = H ∧ x = .int ((n : Int) - 1 + (i : Nat) * (-1)), by rw [List.length_reverse, iota_len]; exact ⟨walk_rangeC.goes, walk_rangeC.stops, fun i H x H' hi g y => ⟨hi, walk_rangeC.yields i H x H' hi g y⟩⟩, fun P2 F2 H2 t2 => ⟨trivial, fun i v H3 y => ?_⟩⟩
  obtain ⟨hi, rfl, rfl⟩ := y
  refine ⟨fun _ _ h => h, .int ((n : Int) - 1 + (i : Nat) * (-1)), ?_, .int _⟩
  rw [rev_get (by rw [iota_len]; exact hi), iota_len, iota_get (by omega)]
  congr 2
  omega
def dRevR {M : Type} (t : DT M) : DTA M := fun ρ m Q Z => t ρ m (fun d m1 => match d with | .int j => -(2 ^ 62) ≤ j ∧ j < 2 ^ 62 ∧ Q (iota 0 j.toNat).reverse m1 | _ => False) Z
theorem ji_revr {st : Bool} {tg : Expr} {t : DT C.W.M} {p p2 pos2 : Pos} (h : J .w X C a t) (hm : X.mg "reversed" = none) (hm2 : X.mg "range" = none) (hg : Gl X "reversed" := by rfl) (hg2 : Gl X "range" := by rfl) (hs : starEach [a] X.env = (false, eval a X.env) :: starEach [] X.env := by rfl) :
    JI st X C tg (.Call (.Name "reversed" p) [.Call (.Name "range" p2) [a] [] pos2] [] pos) (dRevR t) := by
  obtain ⟨te, pe, q⟩ := h
  refine ⟨_, pi_revR hg hm (prg_1 hg2 hm2 pe hs) rfl, fun σ H Pr F ρ m Q Z R S E h k => ?_⟩
  refine q σ H Pr F ρ m _ Z _ S E h fun v H1 ⟨P1, F1, m1, d, S1, t1, dv, z⟩ => ?_
  have dv : Dn false X.K F1 (wv F1 H1) v d := dv
  dsimp only at z
  split at z
  · rename_i j _
    refine ⟨_, dv.toInt, by decide, by decide, z.1, z.2.1, k _ _ ⟨P1, F1, m1, _, S1, t1, ?_, z.2.2⟩⟩
    simp only [Int.zero_add, Int.sub_zero]
    exact wk_rangeC
  · exact z.elim
/-- a text, sign by sign -/
def signs (z : Str) : List D := z.cps.toList.map fun c => D.str ⟨#[c]⟩
def dSigns {M : Type} (t : DT M) : DTA M := fun ρ m Q Z => t ρ m (fun d m1 => match d with | .str z => Q (signs z) m1 | _ => False) Z
/-! ### targets -/
abbrev DG := D → En → (En → Prop) → Prop
abbrev DGs := List D → En → (En → Prop) → Prop
def JG (X : Cx) (C : Cn) (tg : Expr) (ws : List Nat) (g : DG) : Prop := ∃ tgt, PG X tg tgt ∧
  ∀ σ H Pr F ρ (m : C.W.M) v d Q (R : L2.St → Hp → Prop), SR X.K C Pr F σ ρ m H → Dn true X.K F (sv C.H0 Pr H) v d → g d ρ Q →
    (∀ σ' ρ', SR X.K C Pr F σ' ρ' m H → (∀ vs, (∀ i ∈ ws, i ∈ vs) → L2.wipe σ' vs = L2.wipe σ vs) → Q ρ' → R σ' H) → tgt v σ H R
def JGs (X : Cx) (C : Cn) (tgs : List Expr) (ws : List Nat) (g : DGs) : Prop := ∃ tgt, PGs X tgs tgt ∧
  ∀ σ H Pr F ρ (m : C.W.M) vs ds Q (R : L2.St → Hp → Prop), SR X.K C Pr F σ ρ m H → DnA true X.K F (sv C.H0 Pr H) vs ds → g ds ρ Q →
    (∀ σ' ρ', SR X.K C Pr F σ' ρ' m H → (∀ vs, (∀ i ∈ ws, i ∈ vs) → L2.wipe σ' vs = L2.wipe σ vs) → Q ρ' → R σ' H) → tgt vs σ H R
def dgN (i : Nat) : DG := fun d ρ Q => Q (ρ.set i (.val d))
def dgT (n : Nat) (g : DGs) : DG := fun d ρ Q => match d with | .tup ds => ds.length = n ∧ g ds ρ Q | _ => False
def dgNil : DGs := fun ds ρ Q => match ds with | [] => Q ρ | _ => False
def dgCons (g : DG) (r : DGs) : DGs := fun ds ρ Q => match ds with | d :: ds => g d ρ fun ρ' => r ds ρ' Q | _ => False
theorem wipe_set {σ : L2.St} {i : Nat} {x : Option V} : ∀ {vs : List Nat}, i ∈ vs → L2.wipe (σ.set i x) vs = L2.wipe σ vs
  | v :: vs, h => by
    unfold L2.wipe
    by_cases e : i ∈ vs
    · rw [wipe_set e]
    · have ev : i = v := (List.mem_cons.mp h).resolve_right e
      subst ev
      have out : ∀ {vs : List Nat}, i ∉ vs → L2.wipe (σ.set i x) vs = (L2.wipe σ vs).set i x := fun {vs} => by
        induction vs with
        | nil => intro _; rfl
        | cons w r ih =>
          intro h
          unfold L2.wipe
          rw [ih fun z => h (List.mem_cons_of_mem _ z), List.set_comm _ _ (fun z => h (by rw [z]; exact List.mem_cons_self))]
      rw [out e, List.set_set]
theorem jg_name (i : Nat) {x : Str} (hN : X.N.Nodup) (hi : X.N[i]? = some x := by rfl) (hx : Loc X.env.scope x := by first | exact .inl rfl | exact .inr rfl) (hf : X.fn x = true ∨ X.env.scope.names.lookup x = some .local := by first | exact .inl rfl | exact .inr rfl) : JG X C (.Name x pos) [i] (dgN i) := by
  refine ⟨_, pg_name hN hi hx hf, fun σ H Pr F ρ m v d Q R S dv q k => ?_⟩
  exact k _ _ (S.set i dv) (fun vs h => wipe_set (h i (by simp))) q
theorem jgs_nil : JGs X C [] [] dgNil := by
  refine ⟨_, pgs_nil, fun σ H Pr F ρ m vs ds Q R S dv q k => ?_⟩
  unfold dgNil at q
  split at q
  · cases dv
    exact ⟨rfl, k σ ρ S (fun _ _ => rfl) q⟩
  · exact q.elim
theorem jgs_cons {es : List Expr} {w1 w2 : List Nat} {g : DG} {r : DGs} (h : JG X C e w1 g) (h' : JGs X C es w2 r) (hs : (assignEach (e :: es) X.env).map (·.2) = assign e X.env :: (assignEach es X.env).map (·.2) := by rfl) : JGs X C (e :: es) (w1 ++ w2) (dgCons g r) := by
  obtain ⟨t1, p1, q1⟩ := h
  obtain ⟨t2, p2, q2⟩ := h'
  refine ⟨_, pgs_cons p1 p2 hs, fun σ H Pr F ρ m vs ds Q R S dv q k => ?_⟩
  unfold dgCons at q
  split at q
  · cases dv with
    | cons dh dt =>
      refine ⟨_, _, rfl, q1 σ H Pr F ρ m _ _ _ _ S dh q fun σ1 ρ1 S1 w1' z => ?_⟩
      refine q2 σ1 H Pr F ρ1 m _ _ Q R S1 dt z fun σ2 ρ2 S2 w2' z => k σ2 ρ2 S2 (fun vs h => ?_) z
      rw [w2' vs fun i hi => h i (List.mem_append_right _ hi), w1' vs fun i hi => h i (List.mem_append_left _ hi)]
  · exact q.elim
theorem jg_tup {es : List Expr} {ws : List Nat} {g : DGs} {k n : Nat} (hc : X.calm = true) (h : JGs X C es ws g) (hn : (assignEach es X.env).length = n := by rfl) (hst : (assignEach es X.env).findIdx? (·.1) = none := by rfl) : JG X C (.Tuple es k pos) ws (dgT n g) := by
  obtain ⟨t1, p1, q1⟩ := h
  refine ⟨_, pg_tup hc p1 hn hst, fun σ H Pr F ρ m v d Q R S dv q kk => ?_⟩
  unfold dgT at q
  split at q
  · cases dv with
    | tup h r =>
      exact ⟨_, _, rfl, h.at, by rw [r.length]; exact q.1, q1 σ H Pr F ρ m _ _ Q R S r q.2 kk⟩
  · exact q.elim

/-! ### comprehensions -/
def lcGo {M : Type} (g : DG) (tt : DTT M) (te : DT M) (ρ : En) : List D → List D → M → (List D → M → Prop) → Prop
  | [], acc, m, Q => Q acc m
  | x :: r, acc, m, Q => g x ρ fun ρ2 => tt ρ2 m (fun b m1 => if b = true then te ρ2 m1 (fun y m2 => acc.length < sizeLine ∧ lcGo g tt te ρ r (acc ++ [y]) m2 Q) (fun _ _ => False) else lcGo g tt te ρ r acc m1 Q) (fun _ _ => False)
def dLc {M : Type} (ti : DTA M) (g : DG) (tt : DTT M) (te : DT M) (vs : List Nat) : DT M := fun ρ m Q Z => ti ρ m (fun items m1 => lcGo g tt te (wipeD ρ vs) items [] m1 (fun ds m2 => Q (.lst ds) m2)) Z
/-- a clause's tests -/
def JTs (X : Cx) (C : Cn) (ifs : List Expr) (t : DTT C.W.M) : Prop := ∃ te, PTs X ifs te ∧
  ∀ σ H Pr F ρ m Q Z (R : Bool → Hp → Prop), SR X.K C Pr F σ ρ m H → Ex X C Pr F H σ ρ Z → t ρ m Q Z → (∀ v H', PostT X.K C Pr F H σ ρ Q v H' → R v H') → te σ H R
def dYes {M : Type} : DTT M := fun _ m Q _ => Q true m
theorem jts_nil : JTs X C [] dYes := ⟨_, pts_nil, fun σ H Pr F ρ m Q Z R S E h k => k _ _ ⟨Pr, F, m, S, Te.refl, h⟩⟩
theorem jts_one {c : Expr} {t : DTT C.W.M} (h : JT X C c t) : JTs X C [c] t := by
  obtain ⟨te, p, q⟩ := h
  exact ⟨_, pts_one p, q⟩
/-- within a block nothing is raised -/
abbrev Cn.nox (C : Cn) : Cn := { C with wx := fun _ _ _ _ => False }
theorem SR.nox {K : PySem.W.Frag} {Pr : Addr → Prop} {F : List Addr} {σ : L2.St} {ρ : En} {m : C.W.M} {H : Hp} (S : SR K C Pr F σ ρ m H) : SR K C.nox Pr F σ ρ m H := ⟨S.keep, S.pre, S.new, S.prs, S.prn, S.prf, S.rz, S.len, S.slot, S.dist⟩
theorem SR.unnox {K : PySem.W.Frag} {Pr : Addr → Prop} {F : List Addr} {σ : L2.St} {ρ : En} {m : C.W.M} {H : Hp} (S : SR K C.nox Pr F σ ρ m H) : SR K C Pr F σ ρ m H := ⟨S.keep, S.pre, S.new, S.prs, S.prn, S.prf, S.rz, S.len, S.slot, S.dist⟩
abbrev Blk (X : Cx) (scope : Scope) (s : Shared) (H : Hp) (c : Addr) (cl : List (Str × Addr)) (fp : List Addr) : Cx := X.blk s H scope (compEnvC scope cl c X.env) fp
theorem wipe_comm {σ : L2.St} {i : Nat} : ∀ {vs : List Nat}, (L2.wipe σ vs).set i none = L2.wipe (σ.set i none) vs
  | [] => rfl
  | v :: vs => by
    unfold L2.wipe
    by_cases e : v = i
    · subst e
      rw [List.set_set, ← wipe_comm (vs := vs), List.set_set]
    · rw [List.set_comm _ _ e, wipe_comm (vs := vs)]
theorem wipe_wipe {σ : L2.St} {us : List Nat} : ∀ {vs : List Nat}, (∀ i ∈ vs, i ∈ us) → L2.wipe (L2.wipe σ us) vs = L2.wipe σ us
  | [], _ => rfl
  | v :: vs, h => by
    show (L2.wipe (L2.wipe σ us) vs).set v none = L2.wipe σ us
    rw [wipe_wipe fun i hi => h i (List.mem_cons_of_mem _ hi), wipe_comm, wipe_set (h v List.mem_cons_self)]
/-- a new list, guarded -/
theorem SR.guard {K : PySem.W.Frag} {Pr : Addr → Prop} {F : List Addr} {σ : L2.St} {ρ : En} {m : C.W.M} {H : Hp} (S : SR K C Pr F σ ρ m H) {p : Addr} {vs : List V} (hp : H p = none) :
    SR K C (fun a => Pr a ∨ a = p) F σ ρ m (upd H p (.lst vs)) ∧ Te Pr F H (fun a => Pr a ∨ a = p) F (upd H p (.lst vs)) := by
  have k : ∀ a u, H a = some u → upd H p (.lst vs) a = some u := fun a u e => by rw [upd_ne (ne_of_none e hp)]; exact e
  have t : Te Pr F H (fun a => Pr a ∨ a = p) F (upd H p (.lst vs)) := ⟨⟨⟨[], by simp⟩, fun a h n => by
    rcases h with h | h
    · exact absurd h n
    · rw [h]; exact hp, fun _ h n => absurd h n, fun a o h => ⟨o, k a o h⟩, fun a o _ h => k a o h⟩, fun _ h => .inl h, fun a o _ h => k a o h⟩
  refine ⟨⟨fun a o n e => k a o (S.keep a o n e), S.pre, S.new, fun a h => ?_, fun a h n => ?_, fun a h => .inl (S.prf a h), C.W.keep S.rz (fun a h => upd_ne fun z => S.nf hp (z ▸ h)) (fun a o _ e => k a o e), S.len, fun i s e => Sk.tr S.prs t.toTr (fun p _ _ o h => k p o h) (fun p h _ => .inl h) (S.slot i s e), S.dist⟩, t⟩
  · rcases h with h | h
    · obtain ⟨o, e, n⟩ := S.prs a h
      exact ⟨o, k a o e, n⟩
    · exact ⟨.lst vs, by rw [h]; exact upd_same, fun z => z⟩
  · rcases h with h | h
    · exact S.prn a h n
    · rw [h]; exact S.h0n hp
/-- a guarded list is changed -/
theorem SR.poke {K : PySem.W.Frag} {Pr : Addr → Prop} {F : List Addr} {σ : L2.St} {ρ : En} {m : C.W.M} {H : Hp} (S : SR K C Pr F σ ρ m H) {p : Addr} {vs ws : List V} (pp : Pr p) (nF : p ∉ F) (hp : H p = some (.lst vs)) (h0 : C.H0 p = none)
    (nown : ∀ (i : Nat) (ds : List D) (q : Addr), ρ[i]? = some (.own ds) → σ[i]? = some (some (.ref q)) → q ≠ p) :
    SR K C Pr F σ ρ m (upd H p (.lst ws)) ∧ ∀ a o, sv C.H0 Pr H a = some o → sv C.H0 Pr (upd H p (.lst ws)) a = some o := by
  have up : ∀ a o, sv C.H0 Pr H a = some o → sv C.H0 Pr (upd H p (.lst ws)) a = some o := fun a o e => by
    obtain ⟨e, q⟩ := vw_iff.mp e
    refine vw_iff.mpr ⟨?_, q⟩
    rw [upd_ne fun z => ?_]
    · exact e
    · rcases q with q | q
      · rw [z, hp] at e; cases e; exact q
      · exact q.2.1 (z ▸ pp)
  refine ⟨⟨fun a o n e => ?_, S.pre, S.new, fun a h => ?_, S.prn, S.prf, C.W.keep S.rz (fun a h => upd_ne fun z => nF (z ▸ h)) (fun a o it e => by rw [upd_ne (fun q => by rw [q, hp] at e; cases e; exact it)]; exact e), S.len, fun i s e => ?_, S.dist⟩, up⟩
  · rw [upd_ne fun z => by rw [z, h0] at e; cases e]
    exact S.keep a o n e
  · by_cases z : a = p
    · exact ⟨.lst ws, by rw [z]; exact upd_same, fun z => z⟩
    · obtain ⟨o, e, n⟩ := S.prs a h
      exact ⟨o, by rw [upd_ne z]; exact e, n⟩
  · cases s with
    | un => trivial
    | bor d => exact S.slot i _ e
    | val d =>
      obtain ⟨v, e1, q⟩ := S.slot i _ e
      exact ⟨v, e1, q.mono ⟨[], by simp⟩ up⟩
    | own ds =>
      obtain ⟨q, us, e1, h1, h2, h3, h4, h5⟩ := S.slot i _ e
      exact ⟨q, us, e1, by rw [upd_ne (nown i ds q e e1)]; exact h1, h2, h3, h4.mono ⟨[], by simp⟩ up, h5⟩
theorem SR.unguard {K : PySem.W.Frag} {Pr : Addr → Prop} {F : List Addr} {σ : L2.St} {ρ : En} {m : C.W.M} {H : Hp} (S : SR K C Pr F σ ρ m H) {p : Addr} (nF : p ∉ F) (h0 : C.H0 p = none)
    (nown : ∀ (i : Nat) (ds : List D) (q : Addr), ρ[i]? = some (.own ds) → σ[i]? = some (some (.ref q)) → q ≠ p) :
    SR K C (fun a => Pr a ∧ a ≠ p) F σ ρ m H ∧ ∀ a o, sv C.H0 Pr H a = some o → sv C.H0 (fun a => Pr a ∧ a ≠ p) H a = some o := by
  have up : ∀ a o, sv C.H0 Pr H a = some o → sv C.H0 (fun a => Pr a ∧ a ≠ p) H a = some o := fun a o e => by
    obtain ⟨e, q⟩ := vw_iff.mp e
    exact vw_iff.mpr ⟨e, q.imp id fun q => ⟨q.1, fun z => q.2.1 z.1, q.2.2⟩⟩
  refine ⟨⟨S.keep, S.pre, S.new, fun a h => S.prs a h.1, fun a h n => S.prn a h.1 n, fun a h => ⟨S.prf a h, fun z => nF (z ▸ h)⟩, S.rz, S.len, fun i s e => ?_, S.dist⟩, up⟩
  cases s with
  | un => trivial
  | bor d => exact S.slot i _ e
  | val d =>
    obtain ⟨v, e1, q⟩ := S.slot i _ e
    exact ⟨v, e1, q.mono ⟨[], by simp⟩ up⟩
  | own ds =>
    obtain ⟨q, us, e1, h1, h2, h3, h4, h5⟩ := S.slot i _ e
    exact ⟨q, us, e1, h1, ⟨h2, nown i ds q e e1⟩, h3, h4.mono ⟨[], by simp⟩ up, h5⟩
theorem lc_read {wi : TI} {tg : TG} {tt : TT} {te : TE} {ti : DTA C.W.M} {g : DG} {dt : DTT C.W.M} {de : DT C.W.M} {vs ws : List Nat} {σ : L2.St} {H : Hp} {Pr : Addr → Prop} {F : List Addr} {ρ : En} {m : C.W.M} {Q : D → C.W.M → Prop} {Z : Str → C.W.M → Prop} {R : VK}
    (hw : ∀ i ∈ ws, i ∈ vs)
    (qi : ∀ (R : It → Hp → Prop), (∀ J H', (∃ Pr' F' m' items, SR X.K C Pr' F' σ ρ m' H' ∧ Te Pr F H Pr' F' H' ∧ Wk X.K C false Pr' F' H' items J ∧ lcGo g dt de (wipeD ρ vs) items [] m' (fun ds m2 => Q (.lst ds) m2)) → R J H') → wi σ H R)
    (qg : ∀ σ H Pr F ρ (m : C.W.M) v d Q (R : L2.St → Hp → Prop), SR X.K C.nox Pr F σ ρ m H → Dn true X.K F (sv C.H0 Pr H) v d → g d ρ Q → (∀ σ' ρ', SR X.K C.nox Pr F σ' ρ' m H → (∀ vs, (∀ i ∈ ws, i ∈ vs) → L2.wipe σ' vs = L2.wipe σ vs) → Q ρ' → R σ' H) → tg v σ H R)
    (qt : ∀ σ H Pr F ρ m Q (R : Bool → Hp → Prop), SR X.K C.nox Pr F σ ρ m H → dt ρ m Q (fun _ _ => False) → (∀ v H', PostT X.K C.nox Pr F H σ ρ Q v H' → R v H') → tt σ H R)
    (qe : ∀ σ H Pr F ρ m Q (R : VK), SR X.K C.nox Pr F σ ρ m H → de ρ m Q (fun _ _ => False) → (∀ v H', Post X.K C.nox .s Pr F H σ ρ Q v H' → R v H') → te σ H R)
    (S : SR X.K C Pr F σ ρ m H) (k : ∀ v H', Post X.K C .f Pr F H σ ρ Q v H' → R v H') : tLc wi tg tt te vs σ H R := by
  refine qi _ fun J H1 ⟨P1, F1, m1, items, S1, t1, wk, z⟩ L0 hD => ?_
  obtain ⟨G, Y, w, hG⟩ := wk
  obtain ⟨SD, tD⟩ := S1.new1 (o := .lst []) hD
  obtain ⟨SD, tD⟩ := S1.guard (vs := []) hD
  generalize hP1 : (fun a => P1 a ∨ a = L0) = P1' at SD tD
  let Pv : Nat → Hp → Prop := fun i H' => ∃ P' F' m' acc ds, SR X.K C P' F' σ ρ m' H' ∧ Te P1 F1 H1 P' F' H' ∧ P' L0 ∧ L0 ∉ F' ∧ H' L0 = some (.lst acc) ∧ DnA true X.K F' (sv C.H0 P' H') acc ds ∧ lcGo g dt de (wipeD ρ vs) (items.drop i) ds m' (fun ds m2 => Q (.lst ds) m2)
  have hn0 : C.H0 L0 = none := S1.h0n hD
  have nown : ∀ (i : Nat) (ds : List D) (p : Addr), ρ[i]? = some (.own ds) → σ[i]? = some (some (.ref p)) → p ≠ L0 := fun i ds p e e1 z => by
    obtain ⟨p', us, e2, hp, _⟩ := S1.slot i _ e
    rw [e1] at e2; cases e2
    rw [z, hD] at hp; cases hp
  refine lc_it w Pv ⟨P1', F1, m1, [], [], SD, tD, (by rw [← hP1]; exact .inr rfl), S1.nf hD, upd_same, .nil, z⟩ (fun i H' _ p => ?_) (fun i x H' H2 hi p y => ?_) (fun H' p => ?_)
  · obtain ⟨P', F', m', acc, ds, S', t', _⟩ := p
    exact (hG P' F' H' t').1
  · obtain ⟨P', F', m', acc, ds, S', t', pD, nF, eD, da, z⟩ := p
    obtain ⟨k2, d, ed, hd⟩ := (hG P' F' H' t').2 i x H2 y
    have S2 := S'.grow k2
    have t2 := S'.te k2
    have ei : items.drop i = d :: items.drop (i + 1) := by
      obtain ⟨hlt, e⟩ := List.getElem?_eq_some_iff.mp ed
      rw [List.drop_eq_getElem_cons hlt, e]
    rw [ei] at z
    unfold lcGo at z
    refine qg (L2.wipe σ vs) H2 P' F' (wipeD ρ vs) m' x d _ _ (S2.wipe vs).nox hd z fun σ2 ρ2 S3 hw2 z => ?_
    refine ⟨by rw [hw2 vs hw, wipe_wipe fun _ h => h], ?_⟩
    refine qt σ2 H2 P' F' ρ2 m' _ _ S3 z fun b H3 ⟨P3, F3, m3, S4, t3, z⟩ => ?_
    have t3 := t2.trans t3
    have stepD : ∀ {P4 F4 H4}, Te P' F' H' P4 F4 H4 → P4 L0 ∧ L0 ∉ F4 ∧ H4 L0 = some (.lst acc) := fun {P4 F4 H4} t => ⟨t.prm L0 pD, (fun z => by
      have q := t.fn L0 z nF
      rw [eD] at q
      cases q), t.all L0 _ nF eD⟩
    cases b with
    | false =>
      refine iteF ?_
      have z : lcGo g dt de (wipeD ρ vs) (items.drop (i + 1)) ds m3 (fun ds m2 => Q (.lst ds) m2) := z
      obtain ⟨d1, d2, d3⟩ := stepD t3
      exact ⟨P3, F3, m3, acc, ds, S'.back t3 S4.unnox, t'.trans t3, d1, d2, d3, DnA.mono t3.pre (sv_tr t3.toTr S'.prs) da, z⟩
    | true =>
      refine iteT ?_
      refine qe σ2 H3 P3 F3 ρ2 m3 _ _ S4 z fun v H4 ⟨P4, F4, m4, y4, S5, t4, dv, z⟩ => ?_
      have t4 := t3.trans t4
      obtain ⟨d1, d2, d3⟩ := stepD t4
      have dv : Dn true X.K F4 (sv C.H0 P4 H4) v y4 := dv
      have S6 := S'.back t4 S5.unnox
      obtain ⟨S7, up⟩ := S6.poke (ws := acc ++ [v]) d1 d2 d3 hn0 nown
      have la : acc.length = ds.length := da.length
      refine ⟨acc, d3, by rw [la]; exact z.1, P4, F4, m4, acc ++ [v], ds ++ [y4], S7, ⟨⟨(t'.trans t4).pre, (t'.trans t4).prn, (t'.trans t4).fn, fun a o h => ?_, fun a o n h => ?_⟩, (t'.trans t4).prm, fun a o n h => ?_⟩, d1, d2, upd_same,
        DnA.mono ⟨[], by simp⟩ up (DnA.app (DnA.mono t4.pre (sv_tr t4.toTr S'.prs) da) (.cons dv .nil)), z.2⟩
      · obtain ⟨o', e⟩ := (t'.trans t4).stay a o h
        exact ⟨o', by rw [upd_ne (ne_of_none h hD)]; exact e⟩
      · rw [upd_ne (ne_of_none h hD)]
        exact (t'.trans t4).keep a o n h
      · rw [upd_ne (ne_of_none h hD)]
        exact (t'.trans t4).all a o n h
  · obtain ⟨P', F', m', acc, ds, S', t', pD, nF, eD, da, z⟩ := p
    rw [List.drop_length] at z
    unfold lcGo at z
    obtain ⟨S2, up⟩ := S'.unguard nF hn0 nown
    refine k _ _ ⟨fun a => P' a ∧ a ≠ L0, F', m', .lst ds, S2, t1.trans ⟨⟨t'.pre, fun a h n => t'.prn a h.1 n, t'.fn, t'.stay, t'.keep⟩, fun a h => ⟨t'.prm a h, fun z => S1.np hD (z ▸ h)⟩, t'.all⟩, ?_, z⟩
    have da2 : DnA true X.K F' (sv C.H0 (fun a => P' a ∧ a ≠ L0) H') acc ds := DnA.mono ⟨[], by simp⟩ up da
    exact ⟨.lst (vw_iff.mpr ⟨eD, .inr ⟨trivial, fun z => z.2 rfl, hn0⟩⟩) da2, fun ds' e => by cases e; exact ⟨L0, acc, rfl, some_of (t1.stay L0) hD, fun z => z.2 rfl, eD, da2⟩⟩
variable {elt tg iter : Expr} {ifs : List Expr} {scope : Scope} {own : List (Str × Nat)} {ti : DTA C.W.M} {g : DG} {dt : DTT C.W.M} {de : DT C.W.M} {ws : List Nat} {st : Bool}
theorem JI.weak (h : JI st X C tg iter ti) : JI false X C tg iter ti := by
  obtain ⟨wi, p, q⟩ := h
  refine ⟨wi, p, fun σ H Pr F ρ m Q Z R S E h k => q σ H Pr F ρ m Q Z R S E h fun J H' ⟨P1, F1, m1, items, S1, t1, ⟨G, Y, w, hG⟩, z⟩ => k J H' ⟨P1, F1, m1, items, S1, t1, ⟨G, Y, w, fun P2 F2 H2 t2 => hG P2 F2 H2 ?_⟩, z⟩⟩
  cases st with
  | true => exact Te.toTr (show Te P1 F1 H' P2 F2 H2 from t2)
  | false => exact t2
/-- the readings of a block, whatever block it is -/
def cnE (c : Cl) (K : PySem.W.Frag) (C : Cn) (t : DT C.W.M) : TE := fun σ H R => ∃ Pr F ρ m Q, SR K C Pr F σ ρ m H ∧ t ρ m Q (fun _ _ => False) ∧ ∀ v H', Post K C c Pr F H σ ρ Q v H' → R v H'
def cnT (K : PySem.W.Frag) (C : Cn) (t : DTT C.W.M) : TT := fun σ H R => ∃ Pr F ρ m Q, SR K C Pr F σ ρ m H ∧ t ρ m Q (fun _ _ => False) ∧ ∀ v H', PostT K C Pr F H σ ρ Q v H' → R v H'
def cnG (K : PySem.W.Frag) (C : Cn) (ws : List Nat) (g : DG) : TG := fun v σ H R => ∃ Pr F ρ, ∃ m : C.W.M, ∃ d Q, SR K C Pr F σ ρ m H ∧ Dn true K F (sv C.H0 Pr H) v d ∧ g d ρ Q ∧
    (∀ σ' ρ', SR K C Pr F σ' ρ' m H → (∀ vs, (∀ i ∈ ws, i ∈ vs) → L2.wipe σ' vs = L2.wipe σ vs) → Q ρ' → R σ' H)
theorem exF {X : Cx} {C : Cn} {Pr : Addr → Prop} {F : List Addr} {H : Hp} {σ : L2.St} {ρ : En} : Ex X C Pr F H σ ρ (fun _ _ => False) := fun _ _ _ _ _ _ _ _ _ z => z.elim
theorem J.cn {X : Cx} {C : Cn} {c : Cl} {e : Expr} {t : DT C.W.M} (h : J c X C e t) : PE X e (cnE c X.K C t) := by
  obtain ⟨te, p, q⟩ := h
  exact ⟨fun pins s σ H R I ⟨Pr, F, ρ, m, Q, S, z, k⟩ => p.run pins s σ H R I (q σ H Pr F ρ m Q _ R S exF z k)⟩
theorem JTs.cn {X : Cx} {C : Cn} {es : List Expr} {t : DTT C.W.M} (h : JTs X C es t) : PTs X es (cnT X.K C t) := by
  obtain ⟨te, p, q⟩ := h
  exact ⟨fun pins s σ H R I ⟨Pr, F, ρ, m, Q, S, z, k⟩ => p.run pins s σ H R I (q σ H Pr F ρ m Q _ R S exF z k)⟩
theorem JG.cn {X : Cx} {C : Cn} {ws : List Nat} {e : Expr} {g : DG} (h : JG X C e ws g) : PG X e (cnG X.K C ws g) := by
  obtain ⟨te, p, q⟩ := h
  exact ⟨fun pins s σ H v u R I r ⟨Pr, F, ρ, m, d, Q, S, dv, z, k⟩ => p.run pins s σ H v u R I r (q σ H Pr F ρ m v d Q R S dv z k)⟩
theorem lc_all {wi : TI} (qi : ∀ σ H Pr F ρ m Q Z (R : It → Hp → Prop), SR X.K C Pr F σ ρ m H → Ex X C Pr F H σ ρ Z → ti ρ m Q Z →
    (∀ J H', (∃ Pr' F' m' items, SR X.K C Pr' F' σ ρ m' H' ∧ Te Pr F H Pr' F' H' ∧ Wk X.K C false Pr' F' H' items J ∧ Q items m') → R J H') → wi σ H R) (hw : ∀ i ∈ ws, i ∈ own.map (·.2))
    {σ : L2.St} {H : Hp} {Pr : Addr → Prop} {F : List Addr} {ρ : En} {m : C.W.M} {Q : D → C.W.M → Prop} {Z : Str → C.W.M → Prop} {R : VK} (S : SR X.K C Pr F σ ρ m H) (E : Ex X C Pr F H σ ρ Z) (h : dLc ti g dt de (own.map (·.2)) ρ m Q Z)
    (k : ∀ v H', Post X.K C .f Pr F H σ ρ Q v H' → R v H') : tLc wi (cnG X.K C.nox ws g) (cnT X.K C.nox dt) (cnE .s X.K C.nox de) (own.map (·.2)) σ H R :=
  lc_read (ti := ti) (Z := Z) (g := g) (dt := dt) (de := de) hw (fun R' k' => qi σ H Pr F ρ m _ Z R' S E h k') (fun σ H Pr F ρ m v d Q R S dv z k => ⟨Pr, F, ρ, m, d, Q, S, dv, z, k⟩) (fun σ H Pr F ρ m Q R S z k => ⟨Pr, F, ρ, m, Q, S, z, k⟩) (fun σ H Pr F ρ m Q R S z k => ⟨Pr, F, ρ, m, Q, S, z, k⟩) S k
/-- [elt for tg in iter if ..], as a value -/
theorem j_lc (hc : X.calm = true) (hN : X.N.Nodup) (hi : JI false X C tg iter ti) (ok : BlkOk X.N X.env.scope scope own) (hg : ∀ s H c cl fp, JG (Blk X scope s H c cl fp) C.nox tg ws g) (ht : ∀ s H c cl fp, JTs (Blk X scope s H c cl fp) C.nox ifs dt) (he : ∀ s H c cl fp, J .s (Blk X scope s H c cl fp) C.nox elt de)
    (hw : ∀ i ∈ ws, i ∈ own.map (·.2)) (hs : ∀ x, foldedSetIterable iter X.env x = pure x := by intro _; rfl) : J .f X C (.ListComp elt [⟨tg, iter, ifs, 0⟩] scope pos) (dLc ti g dt de (own.map (·.2))) := by
  obtain ⟨wi, pi, qi⟩ := hi
  refine ⟨_, pe_lc (g := cnG X.K C.nox ws g) (tt := cnT X.K C.nox dt) (te := cnE .s X.K C.nox de) hc hN pi ok (fun s H c cl fp => (hg s H c cl fp).cn) (fun s H c cl fp => (ht s H c cl fp).cn) (fun s H c cl fp => (he s H c cl fp).cn) hs, fun σ H Pr F ρ m Q Z R S E h k => ?_⟩
  exact lc_all qi hw S E h k
end
end RR

/-! RG: statements over data; a def by its body -/
namespace RR
open PySem PySem.Spec PyProof.Rows L2
structure DE (M : Type) where
  nx : En → M → Prop
  rt : D → M → Prop
  bk : En → M → Prop := fun _ _ => False
  ct : En → M → Prop := fun _ _ => False
  ex : Str → M → Prop := fun _ _ => False
abbrev DS (M : Type) := DE M → En → M → Prop
structure Lk (X : Cx) (C : Cn) (Pr : Addr → Prop) (F : List Addr) (H : Hp) (E : DE C.W.M) (D' : Ends) : Prop where
  nx : ∀ σ' H' ρ' m' Pr' F', SR X.K C Pr' F' σ' ρ' m' H' → Tr Pr F H Pr' F' H' → E.nx ρ' m' → D'.nx σ' H'
  rt : ∀ v H' d m' Pr' F' σ' ρ' H1, SR X.K C Pr' F' σ' ρ' m' H' → Tr Pr F H Pr' F' H' → Dv X.K C .r Pr' F' H1 H' v d → E.rt d m' → D'.rt v H'
  bk : ∀ σ' H' ρ' m' Pr' F', SR X.K C Pr' F' σ' ρ' m' H' → Tr Pr F H Pr' F' H' → E.bk ρ' m' → D'.bk σ' H'
  ct : ∀ σ' H' ρ' m' Pr' F', SR X.K C Pr' F' σ' ρ' m' H' → Tr Pr F H Pr' F' H' → E.ct ρ' m' → D'.ct σ' H'
  ex : ∀ σ' ρ', Ex X C Pr F H σ' ρ' E.ex
theorem Lk.tr {X : Cx} {C : Cn} {Pr Pr1 : Addr → Prop} {F F1 : List Addr} {H H1 : Hp} {E : DE C.W.M} {D' : Ends} (l : Lk X C Pr F H E D') (t : Tr Pr F H Pr1 F1 H1) : Lk X C Pr1 F1 H1 E D' :=
  ⟨fun σ' H' ρ' m' P2 F2 S t2 q => l.nx σ' H' ρ' m' P2 F2 S (t.trans t2) q, fun v H' d m' P2 F2 σ' ρ' H3 S t2 dv q => l.rt v H' d m' P2 F2 σ' ρ' H3 S (t.trans t2) dv q, fun σ' H' ρ' m' P2 F2 S t2 q => l.bk σ' H' ρ' m' P2 F2 S (t.trans t2) q,
    fun σ' H' ρ' m' P2 F2 S t2 q => l.ct σ' H' ρ' m' P2 F2 S (t.trans t2) q, fun σ' ρ' => (l.ex σ' ρ').te t⟩
def JS (X : Cx) (C : Cn) (st : Stmt) (t : DS C.W.M) : Prop := ∃ ts, PS X st ts ∧ ∀ σ H Pr F ρ m E D', SR X.K C Pr F σ ρ m H → Lk X C Pr F H E D' → t E ρ m → ts D' σ H
def JSs (X : Cx) (C : Cn) (st : List Stmt) (t : DS C.W.M) : Prop := ∃ ts, PSs X st ts ∧ ∀ σ H Pr F ρ m E D', SR X.K C Pr F σ ρ m H → Lk X C Pr F H E D' → t E ρ m → ts D' σ H
section
variable {X : Cx} {C : Cn} {e : Expr} {st : Stmt} {rest body els : List Stmt} {pos pos' : Pos} {t u : DS C.W.M}
def dNext {M : Type} : DS M := fun E ρ m => E.nx ρ m
def dThen {M : Type} (t u : DS M) : DS M := fun E ρ m => t { E with nx := u E } ρ m
theorem jss_nil : JSs X C [] dNext := ⟨_, pss_nil, fun σ H Pr F ρ m E D' S l h => l.nx _ _ _ _ _ _ S Tr.refl h⟩
theorem jss_cons (h : JS X C st t) (r : JSs X C rest u) : JSs X C (st :: rest) (dThen t u) := by
  obtain ⟨t1, p1, q1⟩ := h
  obtain ⟨t2, p2, q2⟩ := r
  refine ⟨_, pss_cons p1 p2, fun σ H Pr F ρ m E D' S l h => ?_⟩
  exact q1 σ H Pr F ρ m { E with nx := u E } { D' with nx := t2 D' } S ⟨fun σ' H' ρ' m' P1 F1 S1 t1 q => q2 σ' H' P1 F1 ρ' m' E D' S1 (l.tr t1) q, l.rt, l.bk, l.ct, l.ex⟩ h
theorem jss_one (h : JS X C st t) : JSs X C [st] t := by
  obtain ⟨t1, p1, q1⟩ := h
  exact ⟨_, pss_one p1, q1⟩
theorem js_pass : JS X C (.Pass pos) dNext := ⟨_, ps_pass, fun σ H Pr F ρ m E D' S l h => l.nx _ _ _ _ _ _ S Tr.refl h⟩
theorem js_break : JS X C (.Break pos) (fun E ρ m => E.bk ρ m) := ⟨_, ps_break, fun σ H Pr F ρ m E D' S l h => l.bk _ _ _ _ _ _ S Tr.refl h⟩
theorem js_continue : JS X C (.Continue pos) (fun E ρ m => E.ct ρ m) := ⟨_, ps_continue, fun σ H Pr F ρ m E D' S l h => l.ct _ _ _ _ _ _ S Tr.refl h⟩
def dDrop {M : Type} (t : DT M) : DS M := fun E ρ m => t ρ m (fun _ m' => E.nx ρ m') E.ex
def dRet {M : Type} (t : DT M) : DS M := fun E ρ m => t ρ m E.rt E.ex
theorem js_expr {c : Cl} {te : DT C.W.M} (h : J c X C e te) (hs : swapsWith e none pos.line X.env = pure false := by rfl) : JS X C (.Expr e pos) (dDrop te) := by
  obtain ⟨t1, p, q⟩ := h
  exact ⟨_, ps_expr p hs, fun σ H Pr F ρ m E D' S l h => q σ H Pr F ρ m _ _ _ S (l.ex σ ρ) h fun v H1 ⟨P1, F1, m1, d, S1, t1, dv, z⟩ => l.nx _ _ _ _ _ _ S1 t1.toTr z⟩
theorem js_ret {te : DT C.W.M} (h : J .r X C e te) : JS X C (.Return (some e) pos) (dRet te) := by
  obtain ⟨t1, p, q⟩ := h
  exact ⟨_, ps_ret p, fun σ H Pr F ρ m E D' S l h => q σ H Pr F ρ m _ _ _ S (l.ex σ ρ) h fun v H1 ⟨P1, F1, m1, d, S1, t1, dv, z⟩ => l.rt _ _ d m1 P1 F1 σ ρ H S1 t1.toTr dv z⟩
theorem js_retN : JS X C (.Return none pos) (fun E ρ m => E.rt .non m) :=
  ⟨_, ps_retN, fun σ H Pr F ρ m E D' S l h => l.rt _ _ .non m Pr F σ ρ H S Tr.refl .non h⟩
def dIte {M : Type} (c : DTT M) (t u : DS M) : DS M := fun E ρ m => c ρ m (fun b m1 => if b = true then t E ρ m1 else u E ρ m1) E.ex
theorem js_if {c : Expr} {tc : DTT C.W.M} (hc : JT X C c tc) (h1 : JSs X C body t) (h2 : JSs X C els u) : JS X C (.If c body els pos) (dIte tc t u) := by
  obtain ⟨tt, p, q⟩ := hc
  obtain ⟨t1, p1, q1⟩ := h1
  obtain ⟨t2, p2, q2⟩ := h2
  refine ⟨_, ps_if p p1 p2, fun σ H Pr F ρ m E D' S l h => ?_⟩
  refine q σ H Pr F ρ m _ _ _ S (l.ex σ ρ) h fun b H1 ⟨P1, F1, m1, S1, t1, z⟩ => ?_
  cases b with
  | true => exact iteT (q1 σ H1 P1 F1 ρ m1 E D' S1 (l.tr t1.toTr) z)
  | false => exact iteF (q2 σ H1 P1 F1 ρ m1 E D' S1 (l.tr t1.toTr) z)
def dSet {M : Type} (i : Nat) (t : DT M) : DS M := fun E ρ m => t ρ m (fun d m' => E.nx (ρ.set i (.val d)) m') E.ex
def dSetO {M : Type} (i : Nat) (t : DT M) : DS M := fun E ρ m => t ρ m (fun d m' => match d with | .lst ds => D.nls ds = true ∧ E.nx (ρ.set i (.own ds)) m' | _ => False) E.ex
abbrev LocF (X : Cx) (x : Str) : Prop := X.fn x = true ∨ X.env.scope.names.lookup x = some .local
theorem own_read {σ : L2.St} {H : Hp} {Pr : Addr → Prop} {F : List Addr} {ρ : En} {m : C.W.M} {E : DE C.W.M} {D' : Ends} (i : Nat) (S : SR X.K C Pr F σ ρ m H) (l : Lk X C Pr F H E D') {v : V} {H1 : Hp}
    (h : Post X.K C .f Pr F H σ ρ (fun d m' => match d with | .lst ds => D.nls ds = true ∧ E.nx (ρ.set i (.own ds)) m' | _ => False) v H1) : D'.nx (σ.set i (some v)) H1 := by
  obtain ⟨P1, F1, m1, d, S1, t1, dv, z⟩ := h
  try dsimp only at z
  split at z
  · obtain ⟨p, vs, rfl, hn, np, hp, hd⟩ := dv.2 _ rfl
    obtain ⟨S2, t2⟩ := S.owned t1 S1 i hn hp np hd z.1
    exact l.nx _ _ _ _ _ _ S2 t2.toTr z.2
  · exact z.elim
theorem js_set (i : Nat) {x : Str} {te : DT C.W.M} (hN : X.N.Nodup) (h : J .s X C e te) (hi : X.N[i]? = some x := by rfl) (hx : Loc X.env.scope x := by first | exact .inl rfl | exact .inr rfl) (hf : LocF X x := by first | exact .inl rfl | exact .inr rfl) (hs : swapsWith e (some (.Name x pos')) pos.line X.env = pure false := by rfl) :
    JS X C (.Assign [.Name x pos'] e pos) (dSet i te) := by
  obtain ⟨t1, p, q⟩ := h
  exact ⟨_, ps_set hN hi hx p hs hf, fun σ H Pr F ρ m E D' S l h => q σ H Pr F ρ m _ _ _ S (l.ex σ ρ) h fun v H1 ⟨P1, F1, m1, d, S1, t1, dv, z⟩ => l.nx _ _ _ _ _ _ (S1.set i dv) t1.toTr z⟩
theorem js_setO (i : Nat) {x : Str} {te : DT C.W.M} (hN : X.N.Nodup) (h : J .f X C e te) (hi : X.N[i]? = some x := by rfl) (hx : Loc X.env.scope x := by first | exact .inl rfl | exact .inr rfl) (hf : LocF X x := by first | exact .inl rfl | exact .inr rfl) (hs : swapsWith e (some (.Name x pos')) pos.line X.env = pure false := by rfl) :
    JS X C (.Assign [.Name x pos'] e pos) (dSetO i te) := by
  obtain ⟨t1, p, q⟩ := h
  exact ⟨_, ps_set hN hi hx p hs hf, fun σ H Pr F ρ m E D' S l h => q σ H Pr F ρ m _ _ _ S (l.ex σ ρ) h fun v H1 z => own_read i S l z⟩
/-- name = [..], on one line -/
theorem js_setLc (i : Nat) {x : Str} {py : Pos} {elt tg iter : Expr} {ifs : List Expr} {scope : Scope} {own : List (Str × Nat)} {ti : DTA C.W.M} {g : DG} {dt : DTT C.W.M} {de : DT C.W.M} {ws : List Nat} {lp : Pos} (hc : X.calm = true) (hN : X.N.Nodup) (hi : JI false X C tg iter ti) (ok : BlkOk X.N X.env.scope scope own)
    (hg : ∀ s H c cl fp, JG (Blk X scope s H c cl fp) C.nox tg ws g) (ht : ∀ s H c cl fp, JTs (Blk X scope s H c cl fp) C.nox ifs dt) (he : ∀ s H c cl fp, J .s (Blk X scope s H c cl fp) C.nox elt de)
    (hw : ∀ i ∈ ws, i ∈ own.map (·.2)) (hy : X.N[i]? = some x := by rfl) (hyl : X.env.scope.names.lookup x = some .local := by rfl) (hsw : swapsWith (.ListComp elt [⟨tg, iter, ifs, 0⟩] scope lp) (some (.Name x py)) pos.line X.env = pure true := by exact sw_true rfl rfl rfl (by decide +kernel)) (hs : ∀ z, foldedSetIterable iter X.env z = pure z := by intro _; rfl) :
    JS X C (.Assign [.Name x py] (.ListComp elt [⟨tg, iter, ifs, 0⟩] scope lp) pos) (dSet i (dLc ti g dt de (own.map (·.2)))) := by
  obtain ⟨wi, pi, qi⟩ := hi
  refine ⟨_, ps_setLc (g := cnG X.K C.nox ws g) (tt := cnT X.K C.nox dt) (te := cnE .s X.K C.nox de) hc hN hy hyl hsw pi ok (fun s H c cl fp => (hg s H c cl fp).cn) (fun s H c cl fp => (ht s H c cl fp).cn) (fun s H c cl fp => (he s H c cl fp).cn) hs, fun σ H Pr F ρ m E D' S l h => ?_⟩
  exact lc_all qi hw S (l.ex σ ρ) h fun v H1 ⟨P1, F1, m1, d, S1, t1, dv, z⟩ => l.nx _ _ _ _ _ _ (S1.set i dv.1) t1.toTr z
theorem js_setLcO (i : Nat) {x : Str} {py : Pos} {elt tg iter : Expr} {ifs : List Expr} {scope : Scope} {own : List (Str × Nat)} {ti : DTA C.W.M} {g : DG} {dt : DTT C.W.M} {de : DT C.W.M} {ws : List Nat} {lp : Pos} (hc : X.calm = true) (hN : X.N.Nodup) (hi : JI false X C tg iter ti) (ok : BlkOk X.N X.env.scope scope own)
    (hg : ∀ s H c cl fp, JG (Blk X scope s H c cl fp) C.nox tg ws g) (ht : ∀ s H c cl fp, JTs (Blk X scope s H c cl fp) C.nox ifs dt) (he : ∀ s H c cl fp, J .s (Blk X scope s H c cl fp) C.nox elt de)
    (hw : ∀ i ∈ ws, i ∈ own.map (·.2)) (hy : X.N[i]? = some x := by rfl) (hyl : X.env.scope.names.lookup x = some .local := by rfl) (hsw : swapsWith (.ListComp elt [⟨tg, iter, ifs, 0⟩] scope lp) (some (.Name x py)) pos.line X.env = pure true := by exact sw_true rfl rfl rfl (by decide +kernel)) (hs : ∀ z, foldedSetIterable iter X.env z = pure z := by intro _; rfl) :
    JS X C (.Assign [.Name x py] (.ListComp elt [⟨tg, iter, ifs, 0⟩] scope lp) pos) (dSetO i (dLc ti g dt de (own.map (·.2)))) := by
  obtain ⟨wi, pi, qi⟩ := hi
  refine ⟨_, ps_setLc (g := cnG X.K C.nox ws g) (tt := cnT X.K C.nox dt) (te := cnE .s X.K C.nox de) hc hN hy hyl hsw pi ok (fun s H c cl fp => (hg s H c cl fp).cn) (fun s H c cl fp => (ht s H c cl fp).cn) (fun s H c cl fp => (he s H c cl fp).cn) hs, fun σ H Pr F ρ m E D' S l h => ?_⟩
  exact lc_all qi hw S (l.ex σ ρ) h fun v H1 z => own_read i S l z
/-- (a, b) = e -/
def dAsg {M : Type} (t : DT M) (g : DG) : DS M := fun E ρ m => t ρ m (fun d m' => g d ρ fun ρ' => E.nx ρ' m') E.ex
theorem js_asg {tg : Expr} {ws : List Nat} {g : DG} {te : DT C.W.M} (h : J .s X C e te) (hg : JG X C tg ws g) (hs : swapsWithSole [tg] e pos.line X.env = pure false := by rfl) (hw : swappedStores [tg] e X.env = pure none := by rfl) (h1 : (assignEach [tg] X.env).map (·.2) = [assign tg X.env] := by rfl) : JS X C (.Assign [tg] e pos) (dAsg te g) := by
  obtain ⟨t1, p, q⟩ := h
  obtain ⟨t2, p2, q2⟩ := hg
  exact ⟨_, ps_asg p p2 hs hw h1, fun σ H Pr F ρ m E D' S l h => q σ H Pr F ρ m _ _ _ S (l.ex σ ρ) h fun v H1 ⟨P1, F1, m1, d, S1, t1, dv, z⟩ => q2 σ H1 P1 F1 ρ m1 v d _ _ S1 dv z fun σ' ρ' S2 _ z => l.nx _ _ _ _ _ _ S2 t1.toTr z⟩
/-- a, b = x, y, the names plain locals -/
def dPar {M : Type} (i j : Nat) (t : DTA M) : DS M := fun E ρ m => t ρ m (fun ds m' => match ds with | [x, y] => E.nx ((ρ.set i (.val x)).set j (.val y)) m' | _ => False) E.ex
theorem js_par (i j : Nat) {x y : Str} {a b : Expr} {ta : DTA C.W.M} {px py pt : Pos} {kt k2 pt2} (hc : X.calm = true) (hN : X.N.Nodup) (ha : JA .s X C [a, b] ta) (hw : swappedStores [.Tuple [.Name x px, .Name y py] kt pt] (.Tuple [a, b] k2 pt2) X.env = pure (some [x, y]) := by rfl)
    (hi : X.N[i]? = some x := by rfl) (hj : X.N[j]? = some y := by rfl) (hij : i ≠ j := by decide) (hx : X.env.scope.names.lookup x = some .local := by rfl) (hy : X.env.scope.names.lookup y = some .local := by rfl)
    (hs : swapsWithSole [.Tuple [.Name x px, .Name y py] kt pt] (.Tuple [a, b] k2 pt2) pos.line X.env = pure false := by rfl) : JS X C (.Assign [.Tuple [.Name x px, .Name y py] kt pt] (.Tuple [a, b] k2 pt2) pos) (dPar i j ta) := by
  obtain ⟨t1, p, q⟩ := ha
  refine ⟨_, ps_par hc hN hi hj hij hx hy p hw hs, fun σ H Pr F ρ m E D' S l h => q σ H Pr F ρ m _ _ _ S (l.ex σ ρ) h fun vs H1 ⟨P1, F1, m1, ds, S1, t1, dv, z⟩ => ?_⟩
  have dv : DnA true X.K F1 (sv C.H0 P1 H1) vs ds := dv
  try dsimp only at z
  split at z
  · cases dv with
    | cons h1 r =>
      cases r with
      | cons h2 r =>
        cases r
        exact ⟨_, _, rfl, l.nx _ _ _ _ _ _ ((S1.set i h1).set j h2) t1.toTr z⟩
  · exact z.elim
/-- name op= e, of whole numbers -/
def dAug {M : Type} (i : Nat) (f : Int → Int → Int) (t : DT M) : DS M := fun E ρ m => match ρ[i]? with
  | some (.val (.int x)) => t ρ m (fun y m' => match y with | .int y => E.nx (ρ.set i (.val (.int (f x y)))) m' | _ => False) E.ex
  | _ => False
theorem js_aug (i : Nat) {x : Str} {op : Operator} {f : Int → Int → Int} {te : DT C.W.M} (ho : PIp X op (ipI f)) (hN : X.N.Nodup) (h : J .w X C e te) (hi : X.N[i]? = some x := by rfl) (hx : Loc X.env.scope x := by first | exact .inl rfl | exact .inr rfl) (hf : LocF X x := by first | exact .inl rfl | exact .inr rfl) :
    JS X C (.AugAssign (.Name x pos') op e pos) (dAug i f te) := by
  obtain ⟨t1, p, q⟩ := h
  refine ⟨_, ps_aug hN hi hx p ho hf, fun σ H Pr F ρ m E D' S l h => ?_⟩
  unfold dAug at h
  split at h
  · rename_i z e0
    obtain ⟨v, ev, dz⟩ := S.slot i _ e0
    refine ⟨v, ev, q σ H Pr F ρ m _ _ _ S (l.ex σ ρ) h fun w H1 ⟨P1, F1, m1, d, S1, t1, dv, z⟩ => ?_⟩
    have dv : Dn false X.K F1 (wv F1 H1) w d := dv
    dsimp only at z
    split at z
    · exact ⟨_, _, dz.toInt, dv.toInt, l.nx _ _ _ _ _ _ (S1.set i (.int _)) t1.toTr z⟩
    · exact z.elim
  · exact h.elim
/-- x.append(e), x's own list -/
def dApp {M : Type} (i : Nat) (t : DT M) : DS M := fun E ρ m => match ρ[i]? with
  | some (.own ds) => t ρ m (fun d m' => d.nl = true ∧ ds.length < sizeLine ∧ E.nx (ρ.set i (.own (ds ++ [d]))) m') E.ex
  | _ => False
theorem nls_snoc {ds : List D} {d : D} (h : D.nls ds = true) (h' : d.nl = true) : D.nls (ds ++ [d]) = true := nls_app h (by rw [D.nls, h', Bool.true_and]; rfl)
theorem js_append (i : Nat) {x : Str} {np apos cpos : Pos} {te : DT C.W.M} (h : J .s X C e te) (hN : X.N[i]? = some x := by rfl) (hv : Vis X.env.scope x := by first | exact Or.inl rfl | exact Or.inr (Or.inl rfl) | exact Or.inr (Or.inr rfl)) (hd : (x == ("__debug__" : Str)) = false := by decide) (hcd : (x == ("__classdict__" : Str)) = false := by decide)
    (hfew : ((backTo cpos (starEach [e] X.env)).all (fun x => !x.1) && (backToKw cpos (keywordEach [] X.env)).all (fun x => x.1.isSome) && decide ([e].length + ([] : List Keyword).length + (if ([] : List Keyword).isEmpty then 0 else 1) < 30)) = true := by rfl)
    (hline : (apos.endLine == cpos.line) = true := by rfl) (hs : starEach [e] X.env = (false, eval e X.env) :: starEach [] X.env := by rfl) :
    JS X C (.Expr (.Call (.Attribute (.Name x np) "append" apos) [e] [] cpos) pos) (dApp i te) := by
  obtain ⟨t1, p, q⟩ := h
  refine ⟨_, ps_expr (pe_bm PySem.F.plainAttrs_list PySem.F.slot_list_append PySem.F.type_list_append mt_append (pe_var hN hv hd hcd) (pa_cons p pa_nil hs) rfl hfew hline hs rfl) rfl, fun σ H Pr F ρ m E D' S l h => ?_⟩
  unfold dApp at h
  split at h
  · rename_i ds e0
    obtain ⟨p0, vs, e1, hp, pp, nf, hds, nn⟩ := S.slot i _ e0
    refine ⟨.ref p0, e1, .inl ⟨rfl, vs, SqL.of hp⟩, q σ H Pr F ρ m _ _ _ S (l.ex σ ρ) h fun w H1 ⟨P1, F1, m1, d, S1, t1, dv, z⟩ => ?_⟩
    have dv : Dn true X.K F1 (sv C.H0 P1 H1) w d := dv
    obtain ⟨p1, us, e2, hp1, pp1, nf1, hds1, nn1⟩ := S1.slot i _ e0
    rw [e1] at e2; cases e2
    obtain ⟨S2, t2⟩ := S1.change e0 e1 (hds1.app (.cons dv .nil)) (nls_snoc nn1 z.1)
    exact ⟨p0, us, w, rfl, rfl, hp1, by rw [hds1.length]; exact z.2.1, l.nx _ _ _ _ _ _ S2 (t1.toTr.trans t2) z.2.2⟩
  · exact h.elim
/-- x[k] = e, x's own list -/
def dSetI {M : Type} (i : Nat) (te tk : DT M) : DS M := fun E ρ m => match ρ[i]? with
  | some (.own ds) => te ρ m (fun d m1 => tk ρ m1 (fun k m2 => match k with
    | .int k => (match ixN ds.length k with | some j => d.nl = true ∧ E.nx (ρ.set i (.own (ds.set j d))) m2 | none => False) | _ => False) E.ex) E.ex
  | _ => False
theorem nls_set {ds : List D} {d : D} {j : Nat} (h : D.nls ds = true) (h' : d.nl = true) : D.nls (ds.set j d) = true := nls_all.mpr fun x hx => by
  rcases List.mem_or_eq_of_mem_set hx with z | z
  · exact nls_all.mp h x z
  · rw [z]; exact h'
theorem js_seti (i : Nat) {x : Str} {np sp : Pos} {k : Expr} {te tk : DT C.W.M} (h : J .s X C e te) (hk : J .w X C k tk) (hN : X.N[i]? = some x := by rfl) (hv : Vis X.env.scope x := by first | exact Or.inl rfl | exact Or.inr (Or.inl rfl) | exact Or.inr (Or.inr rfl)) (hd : (x == ("__debug__" : Str)) = false := by decide) (hcd : (x == ("__classdict__" : Str)) = false := by decide)
    (ha : ∀ v, assign (.Subscript (.Name x np) k sp) X.env v = (do
      let ov ← holding [v] (eval (.Name x np) X.env)
      let iv ← holding [v, ov] (eval k X.env)
      standAt sp
      holding [v, ov, iv] (setItem ov iv v)
      release [v, ov, iv] []) := by intro _; rfl)
    (hs : swapsWithSole [.Subscript (.Name x np) k sp] e pos.line X.env = pure false := by rfl) (hw : swappedStores [.Subscript (.Name x np) k sp] e X.env = pure none := by rfl) (h1 : (assignEach [.Subscript (.Name x np) k sp] X.env).map (·.2) = [assign (.Subscript (.Name x np) k sp) X.env] := by rfl) :
    JS X C (.Assign [.Subscript (.Name x np) k sp] e pos) (dSetI i te tk) := by
  obtain ⟨t1, p, q⟩ := h
  obtain ⟨t2, p2, q2⟩ := hk
  refine ⟨_, ps_asg p (pg_sub (pe_var hN hv hd hcd) p2 set_list ha) hs hw h1, fun σ H Pr F ρ m E D' S l h => ?_⟩
  unfold dSetI at h
  split at h
  · rename_i ds e0
    obtain ⟨p0, vs, e1, hp, pp, nf, hds, nn⟩ := S.slot i _ e0
    refine q σ H Pr F ρ m _ _ _ S (l.ex σ ρ) h fun w H1 ⟨P1, F1, m1, d, S1, t1, dv, z⟩ => ?_
    have dv : Dn true X.K F1 (sv C.H0 P1 H1) w d := dv
    refine ⟨.ref p0, e1, q2 σ H1 P1 F1 ρ m1 _ _ _ S1 ((l.ex σ ρ).te t1.toTr) z fun kv H2 ⟨P2, F2, m2, kd, S2, t2, dk, z2⟩ => ?_⟩
    have dk : Dn false X.K F2 (wv F2 H2) kv kd := dk
    dsimp only at z2
    split at z2
    · split at z2
      · rename_i j ej
        obtain ⟨p1, us, e2, hp1, pp1, nf1, hds1, nn1⟩ := S2.slot i _ e0
        rw [e1] at e2; cases e2
        obtain ⟨S3, t3⟩ := S2.change e0 e1 (hds1.set (dv.tr t2.toTr S1.prs) j) (nls_set nn1 z2.1)
        exact ⟨p0, us, _, j, rfl, dk.toInt, hp1, by rw [hds1.length]; exact ej, l.nx _ _ _ _ _ _ S3 ((t1.trans t2).toTr.trans t3) z2.2⟩
      · exact z2.elim
    · exact z2.elim
  · exact h.elim
/-- x[k] += e (or another operator), x's own list of whole numbers -/
def dAugI {M : Type} (i : Nat) (f : Int → Int → Int) (tk te : DT M) : DS M := fun E ρ m => match ρ[i]? with
  | some (.own ds) => tk ρ m (fun k m1 => match k with
    | .int k => (match ixN ds.length k with
      | some j => (match ds[j]? with
        | some (.int x) => te ρ m1 (fun d m2 => match d with | .int y => E.nx (ρ.set i (.own (ds.set j (.int (f x y))))) m2 | _ => False) E.ex
        | _ => False)
      | none => False)
    | _ => False) E.ex
  | _ => False
theorem get_list : PGet X (rIxL X.K) := by
  intro pins s σ H x y v u Q I rx ry h
  obtain ⟨p, xs, i, z, rfl, rfl, hq, he, q⟩ := h
  cases rx
  obtain ⟨t, rfl⟩ := ry
  obtain ⟨its, r, pl, hz⟩ := I.list hq
  obtain ⟨j, h1, h2, h3, h4, h5⟩ := atI_get he
  obtain ⟨w, ew, rw'⟩ := r.get h2
  have hl := r.length
  have hn := line63
  have fin : EP X pins σ Q w s := ⟨z, H, I, rw', q⟩
  by_cases h0 : 0 ≤ i
  · have hj : i.toNat = j := by
      rw [seqIndex_of h0 h5] at h1
      exact Option.some.inj h1
    exact wpAny_getItem_list pl.isList h0 (by omega) (by rw [hj]; simpa using ew) fin
  · have hj : (i + (its.toArray.size : Int)).toNat = j := by
      rw [seqIndex_neg (by omega) h4] at h1
      rw [List.size_toArray, ← hl]
      exact Option.some.inj h1
    exact wpAny_getItem_list_neg pl.isList (by omega) (by rw [List.size_toArray] <;> omega) (by omega) (by rw [hj]; simpa using ew) fin
theorem js_augi (i : Nat) {x : Str} {np sp : Pos} {k : Expr} {op : Operator} {f : Int → Int → Int} {te tk : DT C.W.M} (ho : PIp X op (ipI f)) (hk : J .w X C k tk) (h : J .w X C e te) (hN : X.N[i]? = some x := by rfl) (hv : Vis X.env.scope x := by first | exact Or.inl rfl | exact Or.inr (Or.inl rfl) | exact Or.inr (Or.inr rfl)) (hd : (x == ("__debug__" : Str)) = false := by decide) (hcd : (x == ("__classdict__" : Str)) = false := by decide)
    (ha : ∀ ov iv new, augStore k ov iv new = (do holding [new, ov, iv] (setItem ov iv new); release [new, ov, iv] []; pure .next) := by intros; rfl) :
    JS X C (.AugAssign (.Subscript (.Name x np) k sp) op e pos) (dAugI i f tk te) := by
  obtain ⟨t1, p, q⟩ := h
  obtain ⟨t2, p2, q2⟩ := hk
  refine ⟨_, ps_augS (pe_var hN hv hd hcd) p2 get_list p ho set_list ha, fun σ H Pr F ρ m E D' S l h => ?_⟩
  unfold dAugI at h
  split at h
  · rename_i ds e0
    obtain ⟨p0, vs, e1, hp, pp, nf, hds, nn⟩ := S.slot i _ e0
    refine ⟨.ref p0, e1, q2 σ H Pr F ρ m _ _ _ S (l.ex σ ρ) h fun kv H1 ⟨P1, F1, m1, kd, S1, t1, dk, z⟩ => ?_⟩
    have dk : Dn false X.K F1 (wv F1 H1) kv kd := dk
    dsimp only at z
    split at z
    · split at z
      · rename_i j ej
        split at z
        · rename_i xi exi
          obtain ⟨p1, us, e2, hp1, pp1, nf1, hds1, nn1⟩ := S1.slot i _ e0
          rw [e1] at e2; cases e2
          obtain ⟨u0, eu, du⟩ := hds1.getD exi
          refine ⟨p0, us, _, u0, rfl, dk.toInt, SqL.of hp1, ?_, q σ H1 P1 F1 ρ m1 _ _ _ S1 ((l.ex σ ρ).te t1.toTr) z fun w H2 ⟨P2, F2, m2, d, S2, t2, dv, z2⟩ => ?_⟩
          · unfold atI
            rw [hds1.length, ej]
            exact eu
          · have dv : Dn false X.K F2 (wv F2 H2) w d := dv
            dsimp only at z2
            split at z2
            · obtain ⟨p2', us2, e3, hp2, pp2, nf2, hds2, nn2⟩ := S2.slot i _ e0
              rw [e1] at e3; cases e3
              obtain ⟨S3, t3⟩ := S2.change e0 e1 (hds2.set (.int _) j) (nls_set nn2 rfl)
              exact ⟨_, _, du.toInt, dv.toInt, p0, us2, _, j, rfl, dk.toInt, hp2, by rw [hds2.length]; exact ej, l.nx _ _ _ _ _ _ S3 ((t1.trans t2).toTr.trans t3) z2⟩
            · exact z2.elim
        · exact z.elim
      · exact z.elim
    · exact z.elim
  · exact h.elim
/-! ### loops -/
/-- W: a word of the turns left, the names, the world -/
def dWhile {M : Type} (c : DTT M) (t : DS M) : DS M := fun E ρ m => ∃ W : Nat → En → M → Prop, (∃ n, W n ρ m) ∧ ∀ n ρ m, W n ρ m →
  c ρ m (fun b m1 => if b = true then t { E with nx := fun ρ' m' => ∃ n', n' < n ∧ W n' ρ' m', ct := fun ρ' m' => ∃ n', n' < n ∧ W n' ρ' m', bk := E.nx } ρ m1 else E.nx ρ m1) E.ex
theorem js_while {c : Expr} {tc : DTT C.W.M} (hp : PassesOwn (model X.prog X.w) X.A X.env X.xe) (hc : JT X C c tc) (hb : JSs X C body t) : JS X C (.While c body [] pos) (dWhile tc t) := by
  obtain ⟨tt, p, q⟩ := hc
  obtain ⟨t1, p1, q1⟩ := hb
  refine ⟨_, ps_while hp p p1, fun σ H Pr F ρ m E D' S l h => ?_⟩
  obtain ⟨W, ⟨n0, w0⟩, turn⟩ := h
  refine ⟨fun n σ' H' => ∃ ρ' m' Pr' F', SR X.K C Pr' F' σ' ρ' m' H' ∧ Tr Pr F H Pr' F' H' ∧ W n ρ' m', ⟨n0, ρ, m, Pr, F, S, Tr.refl, w0⟩, ?_⟩
  rintro n σ1 H1 ⟨ρ1, m1, P1, F1, S1, t1, w1⟩
  refine q σ1 H1 P1 F1 ρ1 m1 _ _ _ S1 ((l.ex σ1 ρ1).te t1) (turn n ρ1 m1 w1) fun b H2 ⟨P2, F2, m2, S2, t2, z⟩ => ?_
  have t2 := t1.trans t2.toTr
  cases b with
  | false => exact iteF (l.nx _ _ _ _ _ _ S2 t2 z)
  | true =>
    refine iteT ⟨fun σ' H' => ∃ n', n' < n ∧ ∃ ρ' m' Pr' F', SR X.K C Pr' F' σ' ρ' m' H' ∧ Tr Pr F H Pr' F' H' ∧ W n' ρ' m', fun σ' H' h => h, ?_⟩
    refine q1 σ1 H2 P2 F2 ρ1 m2 { E with nx := fun ρ' m' => ∃ n', n' < n ∧ W n' ρ' m', ct := fun ρ' m' => ∃ n', n' < n ∧ W n' ρ' m', bk := E.nx } _ S2 ⟨fun σ' H' ρ' m' P3 F3 S3 t3 ⟨n', hn, w'⟩ => ⟨n', hn, ρ', m', P3, F3, S3, t2.trans t3, w'⟩, (l.tr t2).rt, (l.tr t2).nx, fun σ' H' ρ' m' P3 F3 S3 t3 ⟨n', hn, w'⟩ => ⟨n', hn, ρ', m', P3, F3, S3, t2.trans t3, w'⟩, (l.tr t2).ex⟩ z
/-- W: a word of the items left, the names, the world -/
def dFor {M : Type} (ti : DTA M) (g : DG) (t : DS M) : DS M := fun E ρ m => ti ρ m (fun items m1 => ∃ W : List D → En → M → Prop, W items ρ m1 ∧ (∀ ρ m, W [] ρ m → E.nx ρ m) ∧
  ∀ x r ρ m, W (x :: r) ρ m → g x ρ fun ρ2 => t { E with nx := W r, ct := W r, bk := E.nx } ρ2 m) E.ex
theorem js_for {tg iter : Expr} {ti : DTA C.W.M} {ws : List Nat} {g : DG} (hp : PassesOwn (model X.prog X.w) X.A X.env X.xe) (hc : X.calm = true) (hi : JI true X C tg iter ti) (hg : JG X C tg ws g) (hb : JSs X C body t) (hs : ∀ x, foldedSetIterable iter X.env x = pure x := by intro _; rfl) :
    JS X C (.For tg iter body [] pos) (dFor ti g t) := by
  obtain ⟨wi, pi, qi⟩ := hi
  obtain ⟨tgt, pg, qg⟩ := hg
  obtain ⟨t1, p1, q1⟩ := hb
  refine ⟨_, ps_for hp hc pi pg p1 hs, fun σ H Pr F ρ m E D' S l h => ?_⟩
  refine qi σ H Pr F ρ m _ _ _ S (l.ex σ ρ) h fun J H1 ⟨P1, F1, m1, items, S1, t1, ⟨G, Y, w, hG⟩, z⟩ => ?_
  obtain ⟨W, w0, wd, turn⟩ := z
  refine for_it w (fun i σ' H' => ∃ ρ' m' Pr' F', SR X.K C Pr' F' σ' ρ' m' H' ∧ Tr P1 F1 H1 Pr' F' H' ∧ W (items.drop i) ρ' m') ⟨ρ, m1, P1, F1, S1, Tr.refl, w0⟩ (fun i σ' H' _ ⟨ρ', m', P2, F2, S2, t2, _⟩ => (hG P2 F2 H' t2).1) (fun i x σ' H' H2 hi ⟨ρ', m', P2, F2, S2, t2, w2⟩ y => ?_) (fun σ' H' ⟨ρ', m', P2, F2, S2, t2, w2⟩ => ?_)
  · obtain ⟨k2, d, ed, hd⟩ := (hG P2 F2 H' t2).2 i x H2 y
    have S3 := S2.grow k2
    have t3 := t2.trans (S2.te k2).toTr
    have ei : items.drop i = d :: items.drop (i + 1) := by
      obtain ⟨hlt, e⟩ := List.getElem?_eq_some_iff.mp ed
      rw [List.drop_eq_getElem_cons hlt, e]
    rw [ei] at w2
    refine qg σ' H2 P2 F2 ρ' m' x d _ _ S3 hd (turn d _ ρ' m' w2) fun σ2 ρ2 S4 _ z => ?_
    have t4 := t1.toTr.trans t3
    exact q1 σ2 H2 P2 F2 ρ2 m' { E with nx := W (items.drop (i + 1)), ct := W (items.drop (i + 1)), bk := E.nx } _ S4 ⟨fun σ5 H5 ρ5 m5 P5 F5 S5 t5 w5 => ⟨ρ5, m5, P5, F5, S5, t3.trans t5, w5⟩, (l.tr t4).rt, (l.tr t4).nx, fun σ5 H5 ρ5 m5 P5 F5 S5 t5 w5 => ⟨ρ5, m5, P5, F5, S5, t3.trans t5, w5⟩, (l.tr t4).ex⟩ z
  · rw [List.drop_length] at w2
    exact l.nx _ _ _ _ _ _ S2 (t1.toTr.trans t2) (wd _ _ w2)
/-- from here on a list of its own is data -/
def dRel {M : Type} (i : Nat) (t : DS M) : DS M := fun E ρ m => match ρ[i]? with | some (.own ds) => t E (ρ.set i (.val (.lst ds))) m | _ => False
theorem jss_rel (i : Nat) {sts : List Stmt} (h : JSs X C sts t) : JSs X C sts (dRel i t) := by
  obtain ⟨t1, p, q⟩ := h
  refine ⟨t1, p, fun σ H Pr F ρ m E D' S l h => ?_⟩
  unfold dRel at h
  split at h
  · rename_i ds e0
    obtain ⟨P1, S1, t1⟩ := S.release e0
    exact q σ H P1 F _ m E D' S1 (l.tr t1) h
  · exact h.elim
/-- raise X("..") -/
def dRaise {M : Type} (x : Str) : DS M := fun E _ m => E.ex x m
/-- an exception class of the program's own over ValueError -/
def ExcF (K : PySem.W.Frag) (mg : Str → Option Value) (x : Str) : Prop := ∃ Cc bmB newId initId, ExcBaseFacts "ValueError" newId initId bmB ∧ mg x = some (.ref Cc) ∧ PySem.W.excIn K Cc bmB newId = true ∧ PySem.W.keepIn K (.ref Cc) = true ∧ PySem.W.subIn K (.ref Cc) (.type "BaseException") = some true ∧ PySem.W.typeIn K (.ref Cc) = some (.type "type")
theorem js_raise {x msg : Str} {j : Nat} {p p2 cp : Pos} (hc : X.calm = true) (tk : Takes X C.wx) (h : ExcF X.K X.mg x) (hg : Gl X x := by rfl) (hdb : (x == ("__debug__" : Str)) = false := by decide) :
    JS X C (.Raise (some (.Call (.Name x p) [.Constant (.str msg) j p2] [] cp)) none pos) (dRaise x) := by
  obtain ⟨Cc, bmB, newId, initId, Fx, gC, qx, kC, r1, r2⟩ := h
  refine ⟨_, ps_raise hc tk (pmk_own Fx qx gC kC (raises_own r1 r2) hg hdb), fun σ H Pr F ρ m E D' S l h => ?_⟩
  exact l.ex σ ρ x (.ref Cc) Pr F m H gC S Tr.refl h
end
end RR

/-! RH: a def's promise by its body; the law's own promise -/
namespace RR
open PySem PySem.Spec PyProof.Rows L2
theorem ncl_w : Cl.w ≠ Cl.f := fun h => nomatch h
theorem ncl_s : Cl.s ≠ Cl.f := fun h => nomatch h
theorem ncl_r : Cl.r ≠ Cl.f := fun h => nomatch h
/-- the names' states at a def's entry; true: borrowed (an argument with lists) -/
def st0 : List Bool → List D → Nat → En
  | b :: ks, d :: ds, n + 1 => (if b = true then .bor d else .val d) :: st0 ks ds n
  | _, _, n => List.replicate n .un
def okK : List Bool → List D → Prop
  | b :: ks, d :: ds => (b = false → d.nl = true) ∧ okK ks ds
  | [], [] => True
  | _, _ => False
theorem st0_len : ∀ {ks : List Bool} {ds : List D} {n : Nat}, (st0 ks ds n).length = n
  | _ :: ks, _ :: ds, n + 1 => congrArg (· + 1) (st0_len (ks := ks) (ds := ds) (n := n))
  | [], _, n => by simp [st0]
  | _ :: _, [], n => by simp [st0]
  | _ :: _, _ :: _, 0 => by simp [st0]
theorem st0_slot {K : PySem.W.Frag} {C : Cn} {F : List Addr} {H : Hp} (hF : C.F0 = F) (hH : C.H0 = H) : ∀ {ks : List Bool} {ds : List D} {vs : List V} {n : Nat}, DnA false K F (wv F H) vs ds → okK ks ds →
    ∀ (i : Nat) (s : Sl), (st0 ks ds n)[i]? = some s → Sk K C (· ∈ F) F H (vs.map some ++ List.replicate (n - vs.length) none)[i]? s
  | [], _, _, n, _, _, i, s, e => by
    have z : s = .un := by
      simp only [st0] at e
      exact (List.mem_replicate.mp (List.mem_of_getElem? e)).2
    subst z; trivial
  | _ :: _, [], _, n, _, _, i, s, e => by
    have z : s = .un := by
      simp only [st0] at e
      exact (List.mem_replicate.mp (List.mem_of_getElem? e)).2
    subst z; trivial
  | _ :: _, _ :: _, _, 0, _, _, i, s, e => by simp [st0] at e
  | b :: ks, d :: ds, _, n + 1, .cons (v := v) (vs := vs) h r, ok, 0, s, e => by
    have e : (if b = true then Sl.bor d else Sl.val d) = s := by simpa [st0] using e
    subst e
    cases b with
    | true =>
      rw [if_pos rfl]
      exact ⟨v, by simp, by rw [hF, hH]; exact h⟩
    | false =>
      rw [if_neg Bool.false_ne_true]
      exact ⟨v, by simp, h.up (ok.1 rfl)⟩
  | b :: ks, d :: ds, _, n + 1, .cons (v := v) (vs := vs) h r, ok, i + 1, s, e => by
    have e : (st0 ks ds n)[i]? = some s := by simpa [st0] using e
    have := st0_slot (n := n) hF hH r ok.2 i s e
    simpa [Nat.add_sub_add_right] using this
theorem st0_own {ks : List Bool} {ds : List D} {n : Nat} : ∀ (i : Nat) (es : List D), (st0 ks ds n)[i]? ≠ some (.own es) := by
  intro i es e
  induction ks generalizing ds n i with
  | nil =>
    simp only [st0] at e
    exact nomatch (List.mem_replicate.mp (List.mem_of_getElem? e)).2
  | cons b ks ih =>
    cases ds with
    | nil =>
      simp only [st0] at e
      exact nomatch (List.mem_replicate.mp (List.mem_of_getElem? e)).2
    | cons d ds =>
      cases n with
      | zero => simp [st0] at e
      | succ n =>
        cases i with
        | zero =>
          simp only [st0, List.getElem?_cons_zero, Option.some.injEq] at e
          split at e <;> cases e
        | succ i => exact ih i (by simpa [st0] using e)
section
variable {P : Program} {w : World} {K : PySem.W.Frag} {mg : Str → Option Value} {base : Heap} {W : Wd}
/-- the state of a def at its entry -/
theorem sr_entry {C : Cn} {F : List Addr} {H : Hp} {m : C.W.M} {ks : List Bool} {ds : List D} {vs : List V} {N : List Str} (hF : C.F0 = F) (hH : C.H0 = H) (rz : C.W.Rz m F H) (dv : DnA false K F (wv F H) vs ds) (ok : okK ks ds) (hl : vs.length ≤ N.length) :
    SR K C (· ∈ F) F (L2.start N vs) (st0 ks ds N.length) m H where
  keep := fun a o _ e => by rw [hH] at e; exact e
  pre := ⟨[], by rw [hF]; simp⟩
  new := fun a h n => absurd h (by rw [hF] at n; exact n)
  prs := fun a h => C.W.there rz a h
  prn := fun a h n => absurd h n
  prf := fun a h => h
  rz := rz
  len := by
    rw [st0_len]
    unfold L2.start
    rw [List.length_append, List.length_map, List.length_replicate]
    omega
  slot := st0_slot hF hH dv ok
  dist := fun i j ds' es p _ e => absurd e (st0_own i ds')
abbrev XOf (P : Program) (w : World) (K : PySem.W.Frag) (mg : Str → Option Value) (base : Heap) (N : List Str) (x : Str) (sc : Scope) (f : Addr) (cdv : Value) (A : Around) (outer : List Env) (s : Shared) (H : Hp) (E : XK) : Cx := cxOf (L2.CX P w) P w K mg base N x sc f cdv A outer s H E
theorem fn_dataR {x : Str} {st : Stmt} {f : Addr} {fd : FuncData} {N ps : List Str} {k : Nat} {sp : DSp W.M} {t : DS W.M} (ks : List Bool)
    (rule : ∀ {sq : Sp}, (∀ vs H Q E, sq vs H Q E → vs.length = ps.length) → (∀ (cdv : Value) (A : Around) (out : List Env) (s : Shared) (H : Hp) (vs : List V) (Q : VK) (E : XK), RoomG k (A.deeper (envOfC x (defScope st) s.heap.objs.size f cdv)) → sq vs H Q E →
      ∃ t, PSs (cxOf (L2.CX P w) P w K mg base N x (defScope st) f cdv A out s H E) (defBody st) t ∧ t { nx := fun _ H1 => Q .non H1, rt := Q } (start N vs) H) → FnG P w K mg base (L2.CX P w) (k + 1) f fd ps sq)
    (len : ∀ ds m Q Z, sp ds m Q Z → ds.length = ps.length) (hn : ps.length ≤ N.length)
    (body : ∀ (cdv : Value) (A : Around) (outer : List Env) (s : Shared) (H : Hp) (E : XK) (F0 : List Addr), RoomG k (A.deeper (envOfC x (defScope st) s.heap.objs.size f cdv)) →
      JSs (XOf P w K mg base N x (defScope st) f cdv A outer s H E) ⟨W, H, F0, fun cls d _ H' => E cls d H'⟩ (defBody st) t)
    (vc : ∀ ds m Q Z, sp ds m Q Z → okK ks ds ∧ t { nx := fun _ m' => Q .non m', rt := Q, ex := Z } (st0 ks ds N.length) m) :
    FnG P w K mg base (L2.CX P w) (k + 1) f fd ps (spD K mg W sp) := by
  have ln : ∀ vs H Q E, spD K mg W sp vs H Q E → vs.length = ps.length := fun vs H Q E h => by
    obtain ⟨F, m, ds, Qd, Zd, rz, dv, q, _⟩ := h
    rw [dv.length]
    exact len _ _ _ _ q
  refine rule ln fun cdv A outer s H vs Q E hr h => ?_
  have lv := ln _ _ _ _ h
  obtain ⟨F0, m, ds, Qd, Zd, rz, dv, q, hq, hz⟩ := h
  obtain ⟨ts, p, r⟩ := body cdv A outer s H E F0 hr
  obtain ⟨ok, v⟩ := vc _ _ _ _ q
  refine ⟨ts, p, r (L2.start N vs) H (· ∈ F0) F0 _ m { nx := fun _ m' => Qd .non m', rt := Qd, ex := Zd } _ (sr_entry (C := ⟨W, H, F0, fun cls d _ H' => E cls d H'⟩) rfl rfl rz dv ok (by omega)) ⟨fun σ' H' ρ' m' P1 F1 S1 t1 q => ?_, fun v H' d m' P1 F1 σ' ρ' H1 S1 t1 dv q => ?_, fun _ _ _ _ _ _ _ _ q => q.elim, fun _ _ _ _ _ _ _ _ q => q.elim, fun σ' ρ' y cls P1 F1 m' H' hm S1 t1 q => ?_⟩ v⟩
  · exact hq .non H' F1 .non m' S1.rz S1.pre (fun a h n => S1.new a h n) (fun a o n e => S1.keep a o n e) .non q
  · exact hq v H' F1 d m' S1.rz S1.pre (fun a h n => S1.new a h n) (fun a o n e => S1.keep a o n e) dv q
  · exact hz y cls H' F1 m' hm S1.rz S1.pre (fun a h n => S1.new a h n) (fun a o n e => S1.keep a o n e) q
theorem fn_data {x : Str} {st : Stmt} {f : Addr} {fd : FuncData} {N ps : List Str} {k : Nat} {sp : DSp W.M} {t : DS W.M} (ks : List Bool) (F : Fun K x x st f fd) (S : FnScope N ps (defScope st))
    (len : ∀ ds m Q Z, sp ds m Q Z → ds.length = ps.length) (hn : ps.length ≤ N.length)
    (body : ∀ (cdv : Value) (A : Around) (outer : List Env) (s : Shared) (H : Hp) (E : XK) (F0 : List Addr), RoomG k (A.deeper (envOfC x (defScope st) s.heap.objs.size f cdv)) →
      JSs (XOf P w K mg base N x (defScope st) f cdv A outer s H E) ⟨W, H, F0, fun cls d _ H' => E cls d H'⟩ (defBody st) t)
    (vc : ∀ ds m Q Z, sp ds m Q Z → okK ks ds ∧ t { nx := fun _ m' => Q .non m', rt := Q, ex := Z } (st0 ks ds N.length) m) :
    FnG P w K mg base (L2.CX P w) (k + 1) f fd ps (spD K mg W sp) := fn_dataR ks (fun ln bd => okG F S ln bd) len hn body vc
/-- a def without defaults -/
theorem fd_of {g x : Str} {st : Stmt} {f : Addr} {fd : FuncData} {N ps : List Str} {k : Nat} {sp : DSp W.M} {t : DS W.M} (ks : List Bool) (F : Fun K x x st f fd) (gf : mg g = some (.ref f)) (b : Binds K fd ps []) (S : FnScope N ps (defScope st))
    (len : ∀ ds m Q Z, sp ds m Q Z → ds.length = ps.length) (hn : ps.length ≤ N.length)
    (body : ∀ (cdv : Value) (A : Around) (outer : List Env) (s : Shared) (H : Hp) (E : XK) (F0 : List Addr), RoomG k (A.deeper (envOfC x (defScope st) s.heap.objs.size f cdv)) →
      JSs (XOf P w K mg base N x (defScope st) f cdv A outer s H E) ⟨W, H, F0, fun cls d _ H' => E cls d H'⟩ (defBody st) t)
    (vc : ∀ ds m Q Z, sp ds m Q Z → okK ks ds ∧ t { nx := fun _ m' => Q .non m', rt := Q, ex := Z } (st0 ks ds N.length) m) : FD P w K mg base W (k + 1) g [] sp :=
  ⟨f, fd, ps, [], [], fn_data ks F S len hn body vc, gf, F.kp, b, .nil, fun _ _ => .nil⟩
/-- a def of the text, as found behind the top -/
structure Dfn (K : PySem.W.Frag) (mg : Str → Option Value) (g x : Str) (st : Stmt) (ps : List Str) : Prop where
  ex : ∃ f fd, Fun K x x st f fd ∧ mg g = some (.ref f) ∧ Binds K fd ps []
/-- what fd_of asks of the body, in short: X and C as they stand -/
abbrev BodyJ (P : Program) (w : World) (K : PySem.W.Frag) (mg : Str → Option Value) (base : Heap) (W : Wd) (k : Nat) (N : List Str) (x : Str) (st : Stmt) (t : DS W.M) : Prop :=
  ∀ (f : Addr) (cdv : Value) (A : Around) (outer : List Env) (s : Shared) (H : Hp) (E : XK) (F0 : List Addr), RoomG k (A.deeper (envOfC x (defScope st) s.heap.objs.size f cdv)) →
      JSs (XOf P w K mg base N x (defScope st) f cdv A outer s H E) ⟨W, H, F0, fun cls d _ H' => E cls d H'⟩ (defBody st) t
theorem Dfn.fd {g x : Str} {st : Stmt} {N ps : List Str} {k : Nat} {sp : DSp W.M} {t : DS W.M} (F : Dfn K mg g x st ps) (ks : List Bool) (S : FnScope N ps (defScope st)) (body : BodyJ P w K mg base W k N x st t)
    (len : ∀ ds m Q Z, sp ds m Q Z → ds.length = ps.length) (vc : ∀ ds m Q Z, sp ds m Q Z → okK ks ds ∧ t { nx := fun _ m' => Q .non m', rt := Q, ex := Z } (st0 ks ds N.length) m) (hn : ps.length ≤ N.length := by decide) : FD P w K mg base W (k + 1) g [] sp := by
  obtain ⟨f, fd, Fn, gf, b⟩ := F.ex
  exact fd_of ks Fn gf b S len hn (body f) vc
theorem FD.mono {j k : Nat} {x : Str} {dds : List D} {sp : DSp W.M} (h : FD P w K mg base W j x dds sp) (l : j ≤ k) : FD P w K mg base W k x dds sp := by
  obtain ⟨f, fd, ps, ds, dvs, F, r⟩ := h
  exact ⟨f, fd, ps, ds, dvs, F.mono l, r⟩
end
/-- the world of nothing -/
def W0 : Wd where
  M := Unit
  Rz := fun _ F _ => F = []
  keep := fun h _ _ => h
  there := fun h a ha => by rw [h] at ha; cases ha
/-- a law's own promise -/
def spLaw (K : PySem.W.Frag) : Sp := fun vs H Q _ => ∃ (a : Addr) (ns : List Int), vs = [.ref a] ∧ SqL K H a (ns.map V.int) ∧ ns.length ≤ 63 ∧ ∀ H', Q (.bl true) H'
theorem ints_dn {s : Bool} {K : PySem.W.Frag} {F : List Addr} {G : Hp} : ∀ ns : List Int, DnA s K F G (ns.map V.int) (ns.map D.int)
  | [] => .nil
  | n :: ns => .cons (.int n) (ints_dn ns)
theorem law_of {P : Program} {w : World} {K : PySem.W.Frag} {mg : Str → Option Value} {base : Heap} {W : Wd} {k : Nat} {f : Addr} {fd : FuncData} {ps : List Str} {sp : DSp W.M} {m0 : W.M} (F : FnG P w K mg base (L2.CX P w) k f fd ps (spD K mg W sp)) (r0 : ∀ H, W.Rz m0 [] H)
    (h : ∀ ns : List Int, ns.length ≤ 63 → sp [.lst (ns.map D.int)] m0 (fun d _ => d = .bl true) (fun _ _ => False)) : FnG P w K mg base (L2.CX P w) k f fd ps (spLaw K) := by
  refine F.imp fun vs H Q E h' => ?_
  obtain ⟨a, ns, rfl, hs, hl, q⟩ := h'
  refine ⟨[], m0, [.lst (ns.map D.int)], _, _, r0 H, .cons (.lst (Ls.mono (s := false) (fun a o e => vw_iff.mpr ⟨e, by simp⟩) (show Ls false K H a _ from hs)) (ints_dn ns)) .nil, h ns hl, fun v H' F' d m' _ _ _ _ dn e => ?_, fun _ _ _ _ _ _ _ _ _ _ z => z.elim⟩
  subst e
  cases dn
  exact q H'
end RR

/-! RH2: defs with whole numbers as defaults -/
namespace RR
open PySem PySem.Spec PyProof.Rows L2
/-- a def of the text with the defaults zs (whole numbers) -/
structure DfD (K : PySem.W.Frag) (mg : Str → Option Value) (g x : Str) (st : Stmt) (ps : List Str) (zs : List Int) : Prop where
  ex : ∃ f fd, FunD K x x (defArgs st) (defBody st) (defScope st) (zs.map V.int) [] f fd ∧ mg g = some (.ref f) ∧ ∀ j, j ≤ zs.length → ∃ ds, Vals ((zs.map V.int).drop j) ds ∧ Binds K fd ps ds
section
variable {P : Program} {w : World} {K : PySem.W.Frag} {mg : Str → Option Value} {base : Heap} {W : Wd}
/-- called with all but the defaults behind the first j -/
theorem DfD.go {g x : Str} {st : Stmt} {N ps : List Str} {zs : List Int} {k : Nat} {sp : DSp W.M} {t : DS W.M} (F : DfD K mg g x st ps zs) (j : Nat) (ks : List Bool) (S : FnScope N ps (defScope st)) (body : BodyJ P w K mg base W k N x st t)
    (vc : ∀ ds m Q Z, sp ds m Q Z → okK ks ds ∧ t { nx := fun _ m' => Q .non m', rt := Q, ex := Z } (st0 ks ds N.length) m) (len : ∀ ds m Q Z, sp ds m Q Z → ds.length = ps.length) (hj : j ≤ zs.length := by decide) (hn : ps.length ≤ N.length := by decide) :
    FD P w K mg base W (k + 1) g ((zs.drop j).map D.int) sp := by
  obtain ⟨f, fd, G, gf, bn⟩ := F.ex
  obtain ⟨ds, vds, bd⟩ := bn j hj
  have kp := G.kp
  obtain ⟨_, _, _, _, _, _, _, cdv, _, _, rfl, lk, cd, _, _⟩ := G.ex
  have ln : ∀ vs H Q E, spD K mg W sp vs H Q E → vs.length = ps.length := fun vs H Q E h => by
    obtain ⟨F0, m, ds, Qd, Zd, rz, dv, q, _⟩ := h
    rw [dv.length]
    exact len _ _ _ _ q
  refine ⟨f, _, ps, ds, (zs.map V.int).drop j, ?_, gf, kp, bd, vds, fun F0 G0 => by rw [← List.map_drop]; exact ints_dn _⟩
  exact fn_dataR (x := x) (st := st) ks (fun ln bd => fnG_mk lk cd S ln fun room asked => bd cdv _ _ _ _ _ _ _ room asked) len hn (body f) vc
end
end RR

/-! RV: what the readings come to: bounds, lists of numbers, comprehensions -/
namespace RR
open PySem PySem.Spec PyProof.Rows L2
/-! ### sizes -/
def bd (n : Nat) (x : Int) : Prop := x.natAbs < 2 ^ n
theorem mulok {i j : Int} {a b : Nat} (ha : bd a i) (hb : bd b j) (h : a + b ≤ 100000000 := by decide) : IntMulOk i j := by
  have l : ∀ {x : Int} {n : Nat}, x.natAbs < 2 ^ n → Builtin.Int.intBits x ≤ n := fun {x n} h => by
    unfold Builtin.Int.intBits
    split
    · exact Nat.zero_le _
    · rename_i h0
      have h0 : x.natAbs ≠ 0 := by simpa using h0
      exact (Nat.log2_lt h0).mpr h
  have h1 := l ha
  have h2 := l hb
  have e : bitsLine = 134217728 := by decide
  intro z
  rw [Bool.and_eq_true] at z
  have z2 := z.2
  unfold Builtin.Int.intTooBig at z2
  have z3 := of_decide_eq_true z2
  rw [e] at z3
  omega
theorem bd_mul {a b : Nat} {x y : Int} (h : bd a x) (h' : bd b y) : bd (a + b) (x * y) := by
  unfold bd at *
  rw [Int.natAbs_mul, Nat.pow_add]
  exact Nat.mul_lt_mul'' h h'
theorem bd_mono {a b : Nat} {x : Int} (h : bd a x) (l : a ≤ b) : bd b x := Nat.lt_of_lt_of_le h (Nat.pow_le_pow_right (by decide) l)
theorem bd_add {a b : Nat} {x y : Int} (h : bd a x) (h' : bd b y) : bd (max a b + 1) (x + y) := by
  have h1 : bd (max a b) x := bd_mono h (by omega)
  have h2 : bd (max a b) y := bd_mono h' (by omega)
  unfold bd at *
  rw [Nat.pow_succ]
  omega
theorem bd_neg {a : Nat} {x : Int} (h : bd a x) : bd a (-x) := by unfold bd at *; omega
theorem bd_sub {a b : Nat} {x y : Int} (h : bd a x) (h' : bd b y) : bd (max a b + 1) (x - y) := by
  have := bd_add h (bd_neg h')
  rwa [← Int.sub_eq_add_neg] at this
theorem bd_lit {n : Nat} {x : Int} (h : x.natAbs < 2 ^ n) : bd n x := h
theorem bd_of {n : Nat} {x b : Int} (h0 : -b < x) (h1 : x < b) (hb : bd n b) : bd n x := by unfold bd at *; omega
theorem bd_fmod {b : Nat} {x y : Int} (h : bd b y) (h0 : 0 < y) : bd b (x.fmod y) := by
  have h1 := Int.fmod_nonneg_of_pos x h0
  have h2 := Int.fmod_lt_of_pos x h0
  unfold bd at *
  omega
theorem bd_abs {a : Nat} {x : Int} (h : bd a x) : bd a (iabs x) := by unfold bd iabs at *; split <;> omega
theorem iabs_eq (x : Int) : iabs x = (x.natAbs : Int) := by unfold iabs; split <;> omega
theorem imax_eq (x y : Int) : imax x y = max x y := by unfold imax; omega
theorem imin_eq (x y : Int) : imin x y = min x y := by unfold imin; omega
theorem nd_small {i j : Int} {b : Nat} (h : j ≠ 0) (hb : bd b j) (l : b ≤ 9000 := by decide) : Nd i j := by
  refine ⟨h, PyProof.noPylong_of_log2 ?_⟩
  have h0 : j.natAbs ≠ 0 := by omega
  have := (Nat.log2_lt h0).mpr hb
  omega
theorem fdiv_pos {i j : Int} (h : 0 ≤ j) : i.fdiv j = i / j := Int.fdiv_eq_ediv_of_nonneg i h
theorem fmod_pos {i j : Int} (h : 0 ≤ j) : i.fmod j = i % j := Int.fmod_eq_emod_of_nonneg i h
theorem small_line {n : Nat} (h : n ≤ 16777216) : n ≤ sizeLine := by rw [sizeLine_eq]; exact h
theorem lt_line {n : Nat} (h : n < 16777216) : n < sizeLine := by rw [sizeLine_eq]; exact h
/-! ### lists of numbers -/
abbrev zz (xs : List Int) : List D := xs.map D.int
theorem nls_ints : ∀ xs : List Int, D.nls (zz xs) = true
  | [] => rfl
  | _ :: xs => nls_ints xs
theorem nl_row (xs : List Int) : D.nl (.tup (zz xs)) = true := nls_ints xs
theorem nls_map {α : Type} {f : α → D} (h : ∀ a, (f a).nl = true) : ∀ xs : List α, D.nls (xs.map f) = true
  | [] => rfl
  | a :: xs => by rw [List.map_cons, D.nls, h a, nls_map h xs]; rfl
theorem q_int {n : Nat} {i : Int} : (D.int i).q n = true := by cases n <;> rfl
theorem q_row {n : Nat} (xs : List Int) : (D.tup (zz xs)).q (n + 1) = true := List.all_eq_true.mpr fun d hd => by
  obtain ⟨i, _, rfl⟩ := List.mem_map.mp hd
  exact q_int
theorem q_lst {n : Nat} (xs : List Int) : (D.lst (zz xs)).q (n + 1) = true := List.all_eq_true.mpr fun d hd => by
  obtain ⟨i, _, rfl⟩ := List.mem_map.mp hd
  exact q_int
theorem eqvs_ints : ∀ xs ys : List Int, D.eqvs (zz xs) (zz ys) = decide (xs = ys)
  | [], [] => rfl
  | [], _ :: _ => rfl
  | _ :: _, [] => rfl
  | x :: xs, y :: ys => by
    show ((D.int x).eqv (.int y) && D.eqvs (zz xs) (zz ys)) = _
    rw [eqvs_ints xs ys]
    show (decide (x = y) && decide (xs = ys)) = _
    rw [Bool.eq_iff_iff]
    simp
theorem eqv_row (xs ys : List Int) : (D.tup (zz xs)).eqv (.tup (zz ys)) = decide (xs = ys) := eqvs_ints xs ys
theorem eqv_lst (xs ys : List Int) : (D.lst (zz xs)).eqv (.lst (zz ys)) = decide (xs = ys) := eqvs_ints xs ys
theorem eqv_int (x y : Int) : (D.int x).eqv (.int y) = decide (x = y) := rfl
theorem atI_pos {α : Type} {xs : List α} {k : Nat} {x : α} (h : xs[k]? = some x) : atI xs (k : Int) = some x := atI_nat h
theorem atI_ints {xs : List Int} {i : Int} : atI (zz xs) i = (atI xs i).map D.int := by
  unfold atI
  rw [List.length_map]
  cases ixN xs.length i with
  | none => rfl
  | some j => simp
theorem atI_at {α : Type} {xs : List α} {i : Int} (h0 : 0 ≤ i) (h1 : i < xs.length) : atI xs i = some (xs[i.toNat]'(by omega)) := by
  unfold atI ixN
  rw [if_pos h0, if_pos h1]
  simp
theorem ixN_at {n : Nat} {i : Int} (h0 : 0 ≤ i) (h1 : i < n) : ixN n i = some i.toNat := by
  unfold ixN
  rw [if_pos h0, if_pos h1]
theorem iota_map (n : Nat) : iota 0 n = (List.range n).map fun k => D.int (k : Nat) := by
  unfold iota
  refine List.map_congr_left fun k _ => ?_
  rw [Int.zero_add]
/-! ### slices of plain bounds -/
theorem cut_upto {ds : List D} {k : Int} (h0 : 0 ≤ k) : cutD ds none (some k) = ds.take k.toNat := by
  unfold cutD
  obtain ⟨n, rfl⟩ := Int.eq_ofNat_of_zero_le h0
  rw [HT.sIx_none, HT.sIx_nat, List.drop_zero, Nat.sub_zero]
  simp only [Int.toNat_natCast]
  rcases Nat.le_total n ds.length with h | h
  · rw [Nat.min_eq_left h]
  · rw [Nat.min_eq_right h, List.take_length, List.take_of_length_le h]
theorem cut_from {ds : List D} {k : Int} (h0 : 0 ≤ k) : cutD ds (some k) none = ds.drop k.toNat := by
  unfold cutD
  obtain ⟨n, rfl⟩ := Int.eq_ofNat_of_zero_le h0
  rw [HT.sIx_none, HT.sIx_nat]
  simp only [Int.toNat_natCast]
  rcases Nat.le_total n ds.length with h | h
  · rw [Nat.min_eq_left h, List.take_of_length_le (by rw [List.length_drop]; omega)]
  · rw [Nat.min_eq_right h, List.drop_length, List.drop_of_length_le h, List.take_nil]
/-! ### comprehensions -/
section
variable {M : Type} {α : Type} {g : DG} {tt : DTT M} {te : DT M} {ρ : En}
/-- items that are kept or not by a known test, the element known -/
theorem lcGo_filter {inj h : α → D} {keep : α → Bool} : ∀ (xs : List α) {acc : List D} {m : M} {Q : List D → M → Prop},
    (∀ a ∈ xs, ∀ m (k : D → M → Prop) (l : M → Prop), (keep a = true → k (h a) m) → (keep a = false → l m) → g (inj a) ρ fun ρ2 => tt ρ2 m (fun b m1 => if b = true then te ρ2 m1 k (fun _ _ => False) else l m1) (fun _ _ => False)) →
    acc.length + xs.length ≤ sizeLine → Q (acc ++ (xs.filter keep).map h) m → lcGo g tt te ρ (xs.map inj) acc m Q
  | [], acc, m, Q, _, _, q => by
    show Q acc m
    simpa using q
  | a :: xs, acc, m, Q, st, hl, q => by
    rw [List.length_cons] at hl
    refine st a List.mem_cons_self m _ _ (fun hk => ⟨by omega, ?_⟩) fun hk => ?_
    · refine lcGo_filter xs (fun b hb => st b (List.mem_cons_of_mem _ hb)) (by rw [List.length_append, List.length_cons, List.length_nil]; omega) ?_
      rw [List.filter_cons_of_pos hk, List.map_cons] at q
      simpa using q
    · refine lcGo_filter xs (fun b hb => st b (List.mem_cons_of_mem _ hb)) (by omega) ?_
      rw [List.filter_cons_of_neg (by simp [hk])] at q
      exact q
theorem lcGo_map {inj h : α → D} (xs : List α) {m : M} {Q : List D → M → Prop}
    (st : ∀ a ∈ xs, ∀ m (k : D → M → Prop) (l : M → Prop), k (h a) m → g (inj a) ρ fun ρ2 => tt ρ2 m (fun b m1 => if b = true then te ρ2 m1 k (fun _ _ => False) else l m1) (fun _ _ => False))
    (hl : xs.length ≤ sizeLine) (q : Q (xs.map h) m) : lcGo g tt te ρ (xs.map inj) [] m Q := by
  refine lcGo_filter (keep := fun _ => true) xs (fun a ha m k l h1 _ => st a ha m k l (h1 rfl)) (by simpa using hl) ?_
  rw [List.filter_eq_self.mpr fun _ _ => rfl]
  simpa using q
/-- elements that turn the world, of which P is known; the world's word S by the number of items left -/
theorem lcGo_any {P : D → Prop} {S : Nat → M → Prop} : ∀ (items : List D) {acc : List D} {m : M} {Q : List D → M → Prop},
    (∀ x ∈ items, ∀ n m (k : D → M → Prop) (l : M → Prop), S (n + 1) m → (∀ y m1, P y → S n m1 → k y m1) → g x ρ fun ρ2 => tt ρ2 m (fun b m1 => if b = true then te ρ2 m1 k (fun _ _ => False) else l m1) (fun _ _ => False)) →
    acc.length + items.length ≤ sizeLine → S items.length m → (∀ ds m1, ds.length = items.length → (∀ d ∈ ds, P d) → S 0 m1 → Q (acc ++ ds) m1) → lcGo g tt te ρ items acc m Q
  | [], acc, m, Q, _, _, s, q => by
    have := q [] m rfl (fun _ h => nomatch h) s
    rw [List.append_nil] at this
    exact this
  | x :: xs, acc, m, Q, st, hl, s, q => by
    rw [List.length_cons] at hl
    refine st x List.mem_cons_self xs.length m _ _ s fun y m1 py s1 => ⟨by omega, ?_⟩
    refine lcGo_any xs (fun b hb => st b (List.mem_cons_of_mem _ hb)) (by rw [List.length_append, List.length_cons, List.length_nil]; omega) s1 fun ds m2 l p s2 => ?_
    have := q (y :: ds) m2 (by rw [List.length_cons, List.length_cons, l]) (fun d hd => (List.mem_cons.mp hd).elim (fun e => e ▸ py) (p d)) s2
    simpa using this
end
/-- whole numbers out of data of which each is one -/
theorem ints_of {P : Int → Prop} : ∀ {ds : List D}, (∀ d ∈ ds, ∃ x, d = .int x ∧ P x) → ∃ xs : List Int, ds = zz xs ∧ ∀ x ∈ xs, P x
  | [], _ => ⟨[], rfl, fun _ h => nomatch h⟩
  | d :: ds, h => by
    obtain ⟨x, rfl, px⟩ := h d List.mem_cons_self
    obtain ⟨xs, rfl, p⟩ := ints_of fun e he => h e (List.mem_cons_of_mem _ he)
    exact ⟨x :: xs, rfl, fun y hy => (List.mem_cons.mp hy).elim (fun e => e ▸ px) (p y)⟩
end RR

/-! RR1: repr of data -/
namespace RR
open PySem PySem.Spec PyProof.Rows L2
def rRep (K : PySem.W.Frag) : List V → Hp → VK → Prop := fun xs H Q => ∃ v d, xs = [v] ∧ Dp K H v d ∧ d.showable = true ∧ d.hasDict = false ∧ d.depth ≤ 60 ∧ d.shown.length ≤ sizeLine ∧ Q (.str d.shown) H
section
variable {X : Cx}
theorem call_repr (gd : X.A.guards = some []) (un : X.A.units + 64 < cLine) : CallR X (.builtin "repr") (rRep X.K) := by
  intro pins s σ H xs us Q I r h
  obtain ⟨v, d, rfl, dp, sh, nd, dep, sz, q⟩ := h
  obtain ⟨u, rfl, rv⟩ := vals1 r
  obtain ⟨as, rd⟩ := Dp.reads I d v u dp rv
  by_cases href : ∃ a, u = .ref a
  · obtain ⟨a, rfl⟩ := href
    exact repr_of_reads' rd sh (PyData.noDict_hsm nd) gd (by omega) (fun _ _ e => e) (fun h' u' tk k => ⟨.str d.shown, H, I.kept k, ⟨_, rfl⟩, q⟩) sz
  · cases rd with
    | none => exact PySem.P.repr_of_none ⟨.str _, H, I.tok _, ⟨_, rfl⟩, by simpa only [PyData.shown] using q⟩
    | bool b => exact PySem.P.repr_of_bool ⟨.str _, H, I.tok _, ⟨_, rfl⟩, by simpa only [PyData.shown] using q⟩
    | int i t => exact PySem.P.repr_of_int (by simpa [PyData.showable] using sh) ⟨.str _, H, I.tok _, ⟨_, rfl⟩, by simpa only [PyData.shown] using q⟩
    | str x t => exact PySem.P.repr_of_str ⟨.str _, H, I.tok _, ⟨_, rfl⟩, by simpa only [PyData.shown] using q⟩ (by simpa only [PyData.shown] using sz)
    | list h1 => exact absurd ⟨_, rfl⟩ href
    | tuple h1 => exact absurd ⟨_, rfl⟩ href
    | dict h1 => exact absurd ⟨_, rfl⟩ href
end
mutual
theorem py_nodict : ∀ d : D, d.py.hasDict = false
  | .non => by simp only [D.py, PyData.hasDict]
  | .bl b => by simp only [D.py, PyData.hasDict]
  | .int i => by simp only [D.py, PyData.hasDict]
  | .str x => by simp only [D.py, PyData.hasDict]
  | .hnd n => by simp only [D.py, PyData.hasDict]
  | .dic => by simp only [D.py, PyData.hasDict]
  | .exc n => by simp only [D.py, PyData.hasDict]
  | .fn n => by simp only [D.py, PyData.hasDict]
  | .ptr n => by simp only [D.py, PyData.hasDict]
  | .tup xs => by simp only [D.py, PyData.hasDict]; exact pys_nodict xs
  | .lst xs => by simp only [D.py, PyData.hasDict]; exact pys_nodict xs
theorem pys_nodict : ∀ ds : List D, PyData.hasDictAll (D.pys ds) = false
  | [] => by simp only [D.pys, PyData.hasDictAll]
  | d :: ds => by simp only [D.pys, PyData.hasDictAll, py_nodict d, pys_nodict ds, Bool.or_self]
end
theorem pys_depth {n : Nat} : ∀ {ds : List D}, (∀ d ∈ ds, d.py.depth ≤ n) → PyData.depthAll (D.pys ds) ≤ n
  | [], _ => by simp only [D.pys, PyData.depthAll]; exact Nat.zero_le _
  | d :: ds, h => by
    simp only [D.pys, PyData.depthAll]
    exact Nat.max_le.mpr ⟨h d List.mem_cons_self, pys_depth fun e he => h e (List.mem_cons_of_mem _ he)⟩
theorem py_depth : ∀ {n : Nat} {d : D}, d.q n = true → d.py.depth ≤ n
  | n, .non, _ => by simp only [D.py, PyData.depth]; exact Nat.zero_le _
  | n, .bl b, _ => by simp only [D.py, PyData.depth]; exact Nat.zero_le _
  | n, .int i, _ => by simp only [D.py, PyData.depth]; exact Nat.zero_le _
  | n, .str x, _ => by simp only [D.py, PyData.depth]; exact Nat.zero_le _
  | n, .hnd x, _ => by simp only [D.py, PyData.depth]; exact Nat.zero_le _
  | n, .dic, _ => by simp only [D.py, PyData.depth]; exact Nat.zero_le _
  | n, .exc x, _ => by simp only [D.py, PyData.depth]; exact Nat.zero_le _
  | n, .fn x, _ => by simp only [D.py, PyData.depth]; exact Nat.zero_le _
  | n, .ptr x, _ => by simp only [D.py, PyData.depth]; exact Nat.zero_le _
  | 0, .tup xs, h => by cases h
  | 0, .lst xs, h => by cases h
  | n + 1, .tup xs, h => by
    simp only [D.py, PyData.depth]
    exact Nat.succ_le_succ (pys_depth fun d hd => py_depth (List.all_eq_true.mp h d hd))
  | n + 1, .lst xs, h => by
    simp only [D.py, PyData.depth]
    exact Nat.succ_le_succ (pys_depth fun d hd => py_depth (List.all_eq_true.mp h d hd))
/-- repr's word -/
def D.rep (d : D) : Str := d.py.shown
/-- repr tells it -/
def D.sho (d : D) : Prop := d.q 8 = true ∧ d.py.showable = true ∧ d.py.shown.length ≤ sizeLine
def gRepr : List D → (D → Prop) → Prop
  | [d], Q => d.sho ∧ Q (.str d.rep)
  | _, _ => False
section
variable {X : Cx} {C : Cn}
theorem ca_repr (gd : X.A.guards = some []) (un : X.A.units + 64 < cLine) : CaOk X C .w (.builtin "repr") gRepr := by
  refine ⟨_, call_repr gd un, fun σ H Pr F ρ m vs ds Q R S dv q k => ?_⟩
  have dv : DnA false X.K F (wv F H) vs ds := dv
  unfold gRepr at q
  split at q
  · obtain ⟨⟨q8, sh, sz⟩, q⟩ := q
    cases dv with
    | cons h r =>
      cases r
      exact ⟨_, _, rfl, h.dp (fun _ _ => wv_le) q8, sh, py_nodict _, Nat.le_trans (py_depth q8) (by decide), sz, k _ _ (post_here S (.str _) (fun _ h => nomatch h) q)⟩
  · exact q.elim
end
end RR

/-! RR2: when repr tells data -/
namespace RR
open PySem PySem.Spec PyProof.Rows L2
theorem q_up : ∀ {n : Nat} {d : D}, d.q n = true → d.q (n + 1) = true
  | n, .non, _ => by cases n <;> rfl
  | n, .bl b, _ => by cases n <;> rfl
  | n, .int i, _ => by cases n <;> rfl
  | n, .str x, h => by cases n <;> exact h
  | n, .hnd x, h => by cases n <;> cases h
  | n, .dic, h => by cases n <;> cases h
  | n, .exc x, h => by cases n <;> cases h
  | n, .fn x, h => by cases n <;> cases h
  | n, .ptr x, h => by cases n <;> cases h
  | 0, .tup xs, h => by cases h
  | 0, .lst xs, h => by cases h
  | n + 1, .tup xs, h => List.all_eq_true.mpr fun d hd => q_up (List.all_eq_true.mp h d hd)
  | n + 1, .lst xs, h => List.all_eq_true.mpr fun d hd => q_up (List.all_eq_true.mp h d hd)
theorem q_le {n k : Nat} {d : D} (h : d.q n = true) (l : n ≤ k) : d.q k = true := by
  induction l with
  | refl => exact h
  | step _ ih => exact q_up ih
/-- at most k deep, shown by at most c signs -/
structure Sh (k c : Nat) (d : D) : Prop where
  q : d.q k = true
  s : d.py.showable = true
  l : d.py.shown.length ≤ c
theorem Sh.le {k k' c c' : Nat} {d : D} (h : Sh k c d) (hk : k ≤ k') (hc : c ≤ c') : Sh k' c' d := ⟨q_le h.q hk, h.s, Nat.le_trans h.l hc⟩
theorem Sh.sho {k c : Nat} {d : D} (h : Sh k c d) (hk : k ≤ 8 := by decide) (hc : c ≤ 16777216 := by decide) : d.sho := ⟨q_le h.q hk, h.s, small_line (Nat.le_trans h.l hc)⟩
theorem log_of_bd {n : Nat} {i : Int} (h : bd n i) (hn : 0 < n) : i.natAbs.log2 < n := by
  by_cases z : i.natAbs = 0
  · rw [z]
    exact Nat.lt_of_le_of_lt (Nat.le_of_eq (by decide : Nat.log2 0 = 0)) hn
  · exact (Nat.log2_lt z).mpr h
theorem sh_int {i : Int} (h : bd 1920 i) : Sh 0 1921 (.int i) := by
  have l := log_of_bd h (by decide)
  refine ⟨rfl, by simp only [D.py, PyData.showable]; exact decide_eq_true l, ?_⟩
  simp only [D.py, PyData.shown]
  have e := int_text_length_le (k := 1920) (by decide) l
  rw [PySem.ofString_length]
  exact e
theorem sh_bl {b : Bool} : Sh 0 8 (.bl b) := by
  refine ⟨rfl, by simp only [D.py, PyData.showable], ?_⟩
  simp only [D.py, PyData.shown]
  cases b <;> decide +kernel
theorem pys_show {ds : List D} (h : ∀ d ∈ ds, d.py.showable = true) : PyData.showableAll (D.pys ds) = true := by
  induction ds with
  | nil => simp only [D.pys, PyData.showableAll]
  | cons d ds ih =>
    simp only [D.pys, PyData.showableAll]
    rw [h d List.mem_cons_self, ih fun e he => h e (List.mem_cons_of_mem _ he)]
    rfl
theorem pys_piled {c : Nat} {ds : List D} (h : ∀ d ∈ ds, d.py.shown.length ≤ c) : piled (PyData.shownAll (D.pys ds)) ≤ ds.length * (c + 2) := by
  induction ds with
  | nil => simp only [D.pys, PyData.shownAll]; exact Nat.zero_le _
  | cons d ds ih =>
    simp only [D.pys, PyData.shownAll]
    rw [piled_cons, List.length_cons, Nat.succ_mul]
    have h1 := h d List.mem_cons_self
    have h2 := ih fun e he => h e (List.mem_cons_of_mem _ he)
    omega
theorem sh_tup {k c n : Nat} {ds : List D} (h : ∀ d ∈ ds, Sh k c d) (hn : ds.length ≤ n) : Sh (k + 1) (n * (c + 2) + 2) (.tup ds) := by
  refine ⟨List.all_eq_true.mpr fun d hd => (h d hd).q, by simp only [D.py, PyData.showable]; exact pys_show fun d hd => (h d hd).s, ?_⟩
  simp only [D.py, PyData.shown]
  have e1 := fmt_text (PyData.shownAll (D.pys ds))
  have e2 := pys_piled (c := c) fun d hd => (h d hd).l
  have e3 : ds.length * (c + 2) ≤ n * (c + 2) := Nat.mul_le_mul_right _ hn
  omega
theorem sh_row {n : Nat} {xs : List Int} (h : ∀ x ∈ xs, bd 1920 x) (hn : xs.length ≤ n) : Sh 1 (n * 1923 + 2) (.tup (zz xs)) :=
  sh_tup (fun d hd => by
    obtain ⟨x, hx, rfl⟩ := List.mem_map.mp hd
    exact sh_int (h x hx)) (by rw [List.length_map]; exact hn)
end RR

/-! RT: try: .. except X as n: y = n, the error held as data -/
namespace RR
open PySem PySem.Spec PyProof.Rows L2
section
variable {X : Cx} {pins : List (Addr × Obj)} {σ : L2.St} {H : Hp} {s : Shared}
/-- an object that is newer than the def's entry is told from now on -/
theorem Inv.told {a : Addr} {o : HO} (I : Inv X pins σ H s) (h0 : X.s_0.heap.get? a = none) (hn : H a = none) (nL : a ≠ X.env.locals) (nC : ∀ x c, X.env.cells.lookup x = some c → c ≠ a) (nP : ∀ p ∈ X.pn ++ pins, p.1 ≠ a)
    (new : ObjOk X.prog X.w (upd H a o) s.heap a o) : Inv X pins σ (upd H a o) s := by
  have ne0 : ∀ {b u}, X.s_0.heap.get? b = some u → b ≠ a := fun e z => by rw [z, h0] at e; cases e
  have neH : ∀ {b u}, H b = some u → b ≠ a := fun e => ne_of_none e hn
  refine ⟨I.ok, I.os, I.bare, ⟨I.base.keep, I.base.slot, fun b u e n hx => ?_, I.base.there, fun b xs e => ?_, fun b u v e => ?_, fun b ps e => ?_⟩, I.loc, I.cell, ?_, fun x c e => ?_, fun p hp => ?_, fun b u e => ?_, I.len⟩
  · rw [upd_ne (ne0 e)]; exact I.base.free b u e n hx
  · have q := I.base.tups b xs e
    rw [upd_ne (neH q)]; exact q
  · have q := I.base.frzs b u v e
    rw [upd_ne (neH q)]; exact q
  · obtain ⟨m, q⟩ := I.base.tbls b ps e
    exact ⟨m, by rw [upd_ne (neH q)]; exact q⟩
  · rw [upd_ne nL.symm]; exact I.free
  · rw [upd_ne (nC x c e)]; exact I.freeC x c e
  · obtain ⟨e1, e2, e3⟩ := I.pin p hp
    exact ⟨e1, by rw [upd_ne (nP p hp)]; exact e2, e3⟩
  · by_cases hb : b = a
    · subst hb
      rw [upd_same] at e; cases e
      exact new
    · rw [upd_ne hb] at e
      exact (I.hok b u e).stay (fun c v _ q => q) (fun c q => by rw [upd_ne (neH q)]; exact q) fun c xs q => by rw [upd_ne (neH q)]; exact q
end
/-- what is wished of an exception within: caught by x, it is held by slot j from then on -/
def wHold (K : PySem.W.Frag) (c : Value) (i j : Nat) (Wout : WX) (D : Ends) : WX := fun cls d σ H =>
  ∃ b, PySem.W.exmOne K cls c = some b ∧ (b = true → d = none ∧ ∃ C, cls = .ref C ∧ ∀ a, H a = none → D.nx (((σ.set i (some (.ref a))).set j (some (.ref a))).set i none) (upd H a (ExI C a))) ∧ (b = false → Wout cls d σ H)
section
variable {X : Cx} {x n y : Str} {c : Value} {i j : Nat} {body : List Stmt} {np n2 yp ap pos pos' : Pos} {tb : WX → TS} {Wout : WX}
theorem ps_hold (hst : X.stack = X.env :: X.outer) (hfm : X.env.frame = some X.env.locals) (hex : X.ex = []) (hN : X.N.Nodup) (hi : X.N[i]? = some n) (hj : X.N[j]? = some y) (hln : X.env.kindOf n = some .local) (hly : X.env.kindOf y = some .local) (hij : i ≠ j) (hc : Names X x c) (tk : Takes X Wout)
    (hb : ∀ (W : WX) (pn : List (Addr × Obj)) (xe : Value → Shared → Prop), Takes (X.tr pn xe) W → PassesOwn (model X.prog X.w) X.A X.env xe → PSs (X.tr pn xe) body (tb W))
    (hsu : ∀ (a : Addr) (oe : Obj) (pn : List (Addr × Obj)), PSs (X.suite a ((a, oe) :: pn)) [.Assign [.Name y yp] (.Name n n2) ap] (tSeq (tAsg (tVar i) (gName j)) tNext)) :
    PS X (.Try body [.ExceptHandler (some (.Name x np)) (some n) [.Assign [.Name y yp] (.Name n n2) ap] pos'] [] [] pos) (fun D σ H => tb (wHold X.K c i j Wout D) D σ H) := by
  constructor
  intro pins s σ H D I asked
  have ok := I.ok
  have frames : X.A.frames = some (X.env :: X.outer) := by rw [ok.frames, hst]
  let handler : List ExceptHandler := [.ExceptHandler (some (.Name x np)) (some n) [.Assign [.Name y yp] (.Name n n2) ap] pos']
  let air : Value → Shared → Prop := fun e t1 => wpAny (model X.prog X.w) X.A (noteFrame e X.env) (fun _ t2 => wpAny (model X.prog X.w) X.A (setFlight e none) (fun _ t3 => wpAny (model X.prog X.w) X.A (handleBy e X.env handler) (SP X pins D) X.xe t3) X.xe t2) X.xe t1
  refine wpAny_Try_except (wpAny_mono ((hb (wHold X.K c i j Wout D) (X.pn ++ pins) air (fun u s' caught => ?_) PassesOwn.looking).run [] s σ H D (I.toTry _) asked) (fun fl s1 end1 => ?_) fun _ _ z => z)
  · obtain ⟨a, B, sI, pins', σ', H', cls, d, rfl, JX, nb, up, sky, na, os, ag, b, isB, yes, no⟩ := caught
    have J : Inv X pins σ' H' sI := JX.ofTry ok
    rw [show X.tr (X.pn ++ pins) air = X.tr (X.pn ++ pins) air from rfl] at sky
    have sky2 : Sky B (X.env :: X.outer) a (Zc cls d) X.env.locals s'.heap := by rw [← hst]; exact sky
    refine Sky.land Zc.steady frames hfm sky2 fun h3 fly up3 => ?_
    have J3 : Inv X pins σ' H' { s' with heap := h3 } := J.landed nb fly.1 (up.trans up3) os ag
    have noFrame : ∀ {h : Heap} {o : Obj} {vs : Array Value}, h.FunFrames B (X.env :: X.outer) → h.get? a = some o → o.data = .fields vs → a ∉ frs (X.env :: X.outer) := fun ff e dd hm => by
      obtain ⟨_, o', e', nofields⟩ := ff.mem hm
      rw [e] at e'; cases e'
      exact nofields _ dd
    obtain ⟨oe3, vs3, at3, z3, dt3⟩ := fly.there
    have nfr := noFrame fly.2.2.1 at3 dt3
    have nL : a ≠ X.env.locals := fun z => nfr (List.mem_filterMap.mpr ⟨X.env, List.mem_cons_self, by rw [hfm, z]⟩)
    have nF : a ∉ X.fs := fun hm => by
      obtain ⟨e, he, q⟩ := List.mem_filterMap.mp hm
      exact nfr (List.mem_filterMap.mpr ⟨e, List.mem_cons_of_mem _ he, q⟩)
    have aI : sI.heap.get? a = none := by
      cases q : sI.heap.get? a with
      | none => rfl
      | some o =>
        have z := nb a o q (by rw [show (X.tr (X.pn ++ pins) air).stack = X.env :: X.outer from hst]; exact nfr)
        rw [fly.2.1] at z; cases z
    have a0 : X.s_0.heap.get? a = none := by
      cases q : X.s_0.heap.get? a with
      | none => rfl
      | some o =>
        obtain ⟨o', z⟩ := J.base.there a o q (by rw [hex]; simp)
        rw [aI] at z; cases z
    have aC : ∀ z c, X.env.cells.lookup z = some c → c ≠ a := fun z c e q => by
      obtain ⟨v, o, ho, _⟩ := J.cell z c e
      rw [q, aI] at ho; cases ho
    have aP : ∀ p ∈ X.pn ++ pins, p.1 ≠ a := fun p hp q => by
      have e1 := (J.pin p hp).1
      rw [q, aI] at e1; cases e1
    have S3 := J3.suite at3 dt3 na nL nF
    refine wpAny_handleBy_cons (codeAny_handlers_test ?_) (by intro q; cases q)
    have typed : PySem.W.Looks (model X.prog X.w) h3 (typeOf (.ref a)) cls := fun A Q E t k q => wpAny_typeOf_ref (k _ _ at3) (by rw [z3.1]; exact q)
    have test : ∀ {Q : Value → Shared → Prop} {E : Value → Shared → Prop}, Q c { s' with heap := h3 } → wpAny (model X.prog X.w) (X.A.mark (some (.ref a))) (eval (.Name x np) X.env) Q E { s' with heap := h3 } := fun q => by
      obtain ⟨hg, hdbg, hm | ⟨hm, hv, hnn⟩⟩ := hc
      · exact ld_glob (X := X.suite a ((a, oe3) :: (X.pn ++ pins))) S3 hg hm q hdbg
      · exact ld_blt (X := X.suite a ((a, oe3) :: (X.pn ++ pins))) S3 hg hm hv q hnn hdbg
    refine test ((PySem.W.exm_one (M := model X.prog X.w) J3.kIn typed isB).here ?_)
    cases b with
    | false =>
      show wpAny _ X.A (handleBy (.ref a) X.env []) _ _ _
      refine wpAny_handleBy_nil ?_
      obtain ⟨_, _, _, oe, vs, T, oT, ts', he, hz, hd, h1, hr⟩ := id fly
      unfold PySem.passOn
      refine wpAny_bind (wpAny_field he hd h1 ?_)
      rw [if_neg (show ¬ ((Value.ref T == Value.none) = true) from by simp)]
      have fin : wpAny (model X.prog X.w) X.A (setFlight (.ref a) X.env.frame) (fun _ t => wpAny (model X.prog X.w) X.A (throw (.ref a) : Sem Flow) (SP X pins D) X.xe t) X.xe { s' with heap := h3 } := by
        rw [hfm]
        refine HandSPX.setFlight_upZ fly fun h4 held up4 => wpAny_throw (tk _ _ ⟨a, B, sI, pins, σ', H', cls, d, rfl, J, nb, (up.trans up3).trans up4, .inr (.inr (by rw [hst]; exact held)), na, os, ag, no rfl⟩)
      first
        | exact wpAny_bind (wpAny_pure (wpAny_bind fin))
        | exact wpAny_bind fin
    | true =>
      obtain ⟨rfl, C, rfl, next⟩ := yes rfl
      refine codeAny_handlers_suite_as (HandSPX.lands_againZ fly fun h4 fly4 up4 => ?_)
      have J4 : Inv X pins σ' H' { s' with heap := h4 } := J.landed nb fly4.1 ((up.trans up3).trans up4) os ag
      obtain ⟨oe4, vs4, at4, z4, dt4⟩ := fly4.there
      have S4 := J4.suite at4 dt4 na nL nF
      refine store_ok (X := X.suite a ((a, oe4) :: (X.pn ++ pins))) (v := .ref a) S4 hN hi (.inl hln) rfl (fun s5 S5 => ?_) (.inr hln)
      let D5 : Ends := { nx := fun σ5 H5 => σ5 = (σ'.set i (some (.ref a))).set j (some (.ref a)) ∧ H5 = H', rt := fun _ _ => False, bk := fun _ _ => False, ct := fun _ _ => False }
      have hlt : i < σ'.length := by rw [J4.len]; exact (List.getElem?_eq_some_iff.mp hi).1
      refine wpAny_mono ((hsu a oe4 (X.pn ++ pins)).run [] s5 _ H' D5 S5 ⟨.ref a, by rw [List.getElem?_set_self hlt], rfl, rfl⟩) (fun fl s6 end6 => ?_) (fun _ _ z => False.elim z)
      cases fl with
      | next =>
        obtain ⟨σ6, H6, S6, rfl, rfl⟩ := end6
        refine gone_ok (X := X.suite a ((a, oe4) :: (X.pn ++ pins))) S6 hN hi hln fun s7 S7 => ?_
        obtain ⟨at7, _⟩ := S7.pin (a, oe4) (by simp)
        have J7 : L2.Inv X pins _ H6 s7 := S7.unsuite ok
        refine ⟨_, upd H6 a (ExI C a), Inv.told J7 a0 na nL aC aP ⟨?_, ⟨oe4, at7⟩, fun g1 g2 w k => ?_⟩, next a na⟩
        · have e : (s7.heap.get? a).getD default = oe4 := by rw [at7]; rfl
          show PySem.W.InstAt s7.heap a ((s7.heap.get? a).getD default) C none
          rw [e]
          obtain ⟨oc, od, oda, osl⟩ := oe4
          obtain ⟨q1, q2⟩ := z4
          dsimp only at q1 q2 dt4
          subst q1 q2 dt4
          exact ⟨at7, rfl, rfl, trivial⟩
        · obtain ⟨w1, w2, w3, w4⟩ := w
          have e := k _ w1
          have e2 : (g2.get? a).getD default = (g1.get? a).getD default := by rw [e]; rfl
          show PySem.W.InstAt g2 a ((g2.get? a).getD default) C none
          rw [e2]
          refine ⟨e, w2, w3, ?_⟩
          cases q : ((g1.get? a).getD default).dict with
          | none => trivial
          | some dx => rw [q] at w4; exact w4.elim
      | brk => obtain ⟨_, _, _, z⟩ := end6; exact z.elim
      | cont => obtain ⟨_, _, _, z⟩ := end6; exact z.elim
      | ret u => obtain ⟨_, _, _, _, _, z⟩ := end6; exact z.elim
  · cases fl with
    | next =>
      obtain ⟨σ', H', J', q⟩ := end1
      exact wpAny_execs_nil ⟨σ', H', J'.ofTry ok, q⟩
    | brk =>
      obtain ⟨σ', H', J', q⟩ := end1
      exact ⟨σ', H', J'.ofTry ok, q⟩
    | cont =>
      obtain ⟨σ', H', J', q⟩ := end1
      exact ⟨σ', H', J'.ofTry ok, q⟩
    | ret u =>
      obtain ⟨v, σ', H', J', r, q⟩ := end1
      exact ⟨v, σ', H', J'.ofTry ok, r, q⟩
end
end RR

/-! R3: further rules over data: calls of none, {}, is of truths, all, any, in, join, items looked at, lists of lists summed, try, isinstance of errors -/
namespace RR
open PySem PySem.Spec PyProof.Rows L2
section
variable {X : Cx} {C : Cn} {e a b : Expr} {es : List Expr} {pos : Pos} {ta tb : DT C.W.M}
/-! ### a call without arguments -/
theorem pe_callG0 {CT : CXT} {k : Nat} {f : Addr} {fd : FuncData} {ps : List Str} {sp : Sp} {ds : List Value} {dvs : List V} {E : L2.St → XK} {x : Str} {p : Pos} (F : FnG X.prog X.w X.K X.mg X.base CT k f fd ps sp) (room : RoomG k X.A) (gl : Gl X x) (gm : X.mg x = some (.ref f)) (kp : PySem.W.keepIn X.K (.ref f) = true) (bn : Binds X.K fd ps ds) (dv : Vals dvs ds)
    (px : ∀ σ, PassesAt CT X σ (E σ)) (db : (x == ("__debug__" : Str)) = false := by decide) : PE X (.Call (.Name x p) [] [] pos) (tCallSD sp dvs E tNil) := by
  constructor
  intro pins s σ H Q I asked
  refine wpAny_Call_Name_kw (ld_glob I gl gm ?_ db)
  refine PySem.W.callWith_K0 I.kIn kp ?_
  have size : ds.length = ps.length := dv.length.symm.trans (F.ln asked)
  refine wpAny_call (codeAny_mono (F.go (args := ⟨[], []⟩) room I.env0 (bn s [] I.kIn size) dv asked) fun r s2 z2 => ?_)
  match r, z2 with
  | .error e, z2 => exact px σ pins H s e s2 I z2
  | .ok (.ret u), z2 => exact I.after z2
  | .ok .next, z2 => exact z2.elim
  | .ok .brk, z2 => exact z2.elim
  | .ok .cont, z2 => exact z2.elim
theorem j_call0 {x : Str} {k : Nat} {dds : List D} {sp : DSp C.W.M} {p : Pos} (h : FD X.prog X.w X.K X.mg X.base C.W k x dds sp) (hr : RoomG k X.A) (tk : Takes X C.wx) (hg : Gl X x) (hdb : (x == ("__debug__" : Str)) = false := by decide) :
    J .f X C (.Call (.Name x p) [] [] pos) (dCall sp dds dNil) := by
  obtain ⟨f, fd, ps, ds, dvs, G, hm, hk, hb, hd, hdd⟩ := h
  refine ⟨_, pe_callG0 (E := fun σ cls d H' => C.wx cls d σ H') G hr hg hm hk hb hd (fun σ => passAt tk σ) hdb, fun σ H Pr F ρ m Q Z R S E z k => ?_⟩
  refine ⟨F, m, dds, Q, Z, S.rz, hdd _ _, z, fun v H' F' d m' rz pre fr kp dn q => ?_, fun x cls H' F' m' hx rz pre fr kp z => ?_⟩
  · obtain ⟨S2, t2⟩ := S.turned rz pre fr kp
    have np : ∀ {a o}, sv H (· ∈ F') H' a = some o → IsL o → ¬ (Pr a ∨ a ∈ F') ∧ C.H0 a = none ∧ H a = none := fun {a o} h l => by
      obtain ⟨e, q⟩ := vw_iff.mp h
      rcases q with q | q
      · exact (IsT.not_L q l).elim
      · exact ⟨fun z => z.elim (S.np q.2.2) q.2.1, S.h0n q.2.2, q.2.2⟩
    have up : ∀ a o, sv H (· ∈ F') H' a = some o → sv C.H0 (fun a => Pr a ∨ a ∈ F') H' a = some o := fun a o h => by
      obtain ⟨e, q⟩ := vw_iff.mp h
      exact vw_iff.mpr ⟨e, q.imp id fun q => ⟨q.1, (np h q.1).1, (np h q.1).2.1⟩⟩
    refine k v H' ⟨_, F', m', d, S2, t2, ⟨dn.mono ⟨[], by simp⟩ up, fun ds e => ?_⟩, q⟩
    subst e
    cases dn with
    | lst h r =>
      rename_i a xs
      have h : sv H (· ∈ F') H' a = some (.lst xs) := h
      obtain ⟨n1, n2, n3⟩ := np h trivial
      exact ⟨a, xs, rfl, n3, n1, (vw_iff.mp h).1, r.mono ⟨[], by simp⟩ up⟩
  · obtain ⟨S2, t2⟩ := S.turned rz pre fr kp
    exact E x cls _ F' m' H' hx S2 t2.toTr z
/-! ### {} -/
theorem j_dic : J .f X C (.Dict [] [] pos) (dC .dic) := by
  refine ⟨_, pe_dnewK, fun σ H Pr F ρ m Q Z R S E q k p hp => k _ _ ?_⟩
  obtain ⟨S2, t2⟩ := S.new1 (o := .dK []) hp
  have np := S.np hp
  exact ⟨Pr, F, m, .dic, S2, t2, ⟨.dic (vw_iff.mpr ⟨upd_same, .inr ⟨trivial, np, S.h0n hp⟩⟩), fun ds e => nomatch e⟩, q⟩
/-! ### is, is not of truths -/
def gIsB : G2 := fun x y Q => match x, y with | .bl i, .bl j => Q (.bl (decide (i = j))) | _, _ => False
def gNotB : G2 := fun x y Q => match x, y with | .bl i, .bl j => Q (.bl (!decide (i = j))) | _, _ => False
theorem ok_isB : OpOk X C (compareOp .Is) gIsB := by
  refine ⟨_, op_isBl, fun σ H Pr F ρ m x y dx dy Q R S hx hy q k => ?_⟩
  unfold gIsB at q
  split at q
  · cases hx; cases hy
    exact ⟨_, _, rfl, rfl, k _ _ (post_here S (.bl _) (fun _ h => nomatch h) q)⟩
  · exact q.elim
theorem ok_notB : OpOk X C (compareOp .IsNot) gNotB := by
  refine ⟨_, op_notBl, fun σ H Pr F ρ m x y dx dy Q R S hx hy q k => ?_⟩
  unfold gNotB at q
  split at q
  · cases hx; cases hy
    exact ⟨_, _, rfl, rfl, k _ _ (post_here S (.bl _) (fun _ h => nomatch h) q)⟩
  · exact q.elim
/-! ### all, any of a list of truths -/
theorem DnA.bls {s : Bool} {K : PySem.W.Frag} {F : List Addr} {G : Hp} : ∀ {vs : List V} {bs : List Bool}, DnA s K F G vs (bs.map D.bl) → vs = bs.map V.bl
  | _, [], h => by cases h; rfl
  | _, b :: bs, h => by
    have h : DnA s K F G _ (.bl b :: bs.map D.bl) := h
    cases h with
    | cons x y => cases x; rw [DnA.bls y, List.map_cons]
theorem DnA.strs {s : Bool} {K : PySem.W.Frag} {F : List Addr} {G : Hp} : ∀ {vs : List V} {bs : List Str}, DnA s K F G vs (bs.map D.str) → vs = bs.map V.str
  | _, [], h => by cases h; rfl
  | _, b :: bs, h => by
    have h : DnA s K F G _ (.str b :: bs.map D.str) := h
    cases h with
    | cons x y => cases x; rw [DnA.strs y, List.map_cons]
def gAll : List D → (D → Prop) → Prop
  | [.lst ds], Q => ∃ bs : List Bool, ds = bs.map D.bl ∧ Q (.bl (bs.all id))
  | _, _ => False
def gAny : List D → (D → Prop) → Prop
  | [.lst ds], Q => ∃ bs : List Bool, ds = bs.map D.bl ∧ Q (.bl (bs.any id))
  | _, _ => False
theorem ca_all (hc : X.calm = true) : CaOk X C .w (.builtin "all") gAll := by
  refine ⟨_, cr_all hc, fun σ H Pr F ρ m vs ds Q R S dv q k => ?_⟩
  have dv : DnA false X.K F (wv F H) vs ds := dv
  unfold gAll at q
  split at q
  · obtain ⟨bs, rfl, q⟩ := q
    cases dv with
    | cons h r =>
      cases r
      obtain ⟨a, us, rfl, hs, hl, hr⟩ := h.sqL (fun _ _ => wv_le)
      rw [hr.bls] at hs
      exact ⟨a, bs, rfl, hs, k _ _ (post_here S (.bl _) (fun _ h => nomatch h) q)⟩
  · exact q.elim
theorem ca_any (hc : X.calm = true) : CaOk X C .w (.builtin "any") gAny := by
  refine ⟨_, cr_any hc, fun σ H Pr F ρ m vs ds Q R S dv q k => ?_⟩
  have dv : DnA false X.K F (wv F H) vs ds := dv
  unfold gAny at q
  split at q
  · obtain ⟨bs, rfl, q⟩ := q
    cases dv with
    | cons h r =>
      cases r
      obtain ⟨a, us, rfl, hs, hl, hr⟩ := h.sqL (fun _ _ => wv_le)
      rw [hr.bls] at hs
      exact ⟨a, bs, rfl, hs, k _ _ (post_here S (.bl _) (fun _ h => nomatch h) q)⟩
  · exact q.elim
/-! ### x in a list -/
def gIn : G2 := fun x y Q => match y with
  | .lst ds => x.q 8 = true ∧ (D.lst ds).q 8 = true ∧ Q (.bl (ds.any fun z => z.eqv x))
  | _ => False
def gNin : G2 := fun x y Q => match y with
  | .lst ds => x.q 8 = true ∧ (D.lst ds).q 8 = true ∧ Q (.bl (!ds.any fun z => z.eqv x))
  | _ => False
theorem pys_map : ∀ ds : List D, D.pys ds = ds.map D.py
  | [] => by simp only [D.pys, List.map_nil]
  | d :: ds => by simp only [D.pys, List.map_cons]; rw [pys_map ds]
theorem q_low : ∀ {n : Nat} {d : D}, d.q n = true → d.q (n + 1) = true := fun h => q_up h
theorem any_py {x : D} (hx : x.q 8 = true) : ∀ {ds : List D}, (∀ d ∈ ds, d.q 8 = true) → ((D.pys ds).any fun z => PyData.eqv z x.py) = ds.any fun z => z.eqv x
  | [], _ => by simp only [D.pys, List.any_nil]
  | d :: ds, h => by
    simp only [D.pys, List.any_cons]
    rw [py_eqv (h d List.mem_cons_self) hx, any_py hx fun y hy => h y (List.mem_cons_of_mem _ hy)]
theorem ok_in (hu : X.A.units + 65 < cLine) : OpOk X C (compareOp .In) gIn := by
  refine ⟨_, op_inD hu, fun σ H Pr F ρ m x y dx dy Q R S hx hy q k => ?_⟩
  unfold gIn at q
  split at q
  · rename_i ds
    obtain ⟨q1, q2, q⟩ := q
    have h2 : ∀ d ∈ ds, d.q 8 = true := fun d hd => q_up (List.all_eq_true.mp q2 d hd)
    refine ⟨_, _, hx.dp (fun _ _ => wv_le) q1, hy.dp (fun _ _ => wv_le) q2, shaped_q q1, shaped_q q2, k _ _ (post_here S (.bl _) (fun _ h => nomatch h) ?_)⟩
    rw [any_py q1 h2]
    exact q
  · exact q.elim
theorem ok_nin (hu : X.A.units + 65 < cLine) : OpOk X C (compareOp .NotIn) gNin := by
  refine ⟨_, op_notInD hu, fun σ H Pr F ρ m x y dx dy Q R S hx hy q k => ?_⟩
  unfold gNin at q
  split at q
  · rename_i ds
    obtain ⟨q1, q2, q⟩ := q
    have h2 : ∀ d ∈ ds, d.q 8 = true := fun d hd => q_up (List.all_eq_true.mp q2 d hd)
    refine ⟨_, _, hx.dp (fun _ _ => wv_le) q1, hy.dp (fun _ _ => wv_le) q2, shaped_q q1, shaped_q q2, k _ _ (post_here S (.bl _) (fun _ h => nomatch h) ?_)⟩
    rw [any_py q1 h2]
    exact q
  · exact q.elim
/-! ### methods of texts -/
def dS1 {M : Type} (g : Str → D → (D → Prop) → Prop) (t u : DT M) : DT M := fun ρ m Q Z => t ρ m (fun x m1 => match x with | .str z => u ρ m1 (fun y m2 => g z y fun d => Q d m2) Z | _ => False) Z
def dS0 {M : Type} (g : Str → (D → Prop) → Prop) (t : DT M) : DT M := fun ρ m Q Z => t ρ m (fun x m1 => match x with | .str z => g z fun d => Q d m1 | _ => False) Z
def gJoin (z : Str) (y : D) (Q : D → Prop) : Prop := match y with
  | .lst ds => ∃ ys : List Str, ds = ys.map D.str ∧ (ys.map (·.length)).sum + ys.length * z.length ≤ 16777216 ∧ Q (.str (Txt.join z ys))
  | _ => False
theorem j_join {apos : Pos} (ha : J .w X C a ta) (hb : J .w X C b tb) (hs : starEach [b] X.env = [(false, eval b X.env)] := by rfl) (hbase : attributeBase a "join" X.env (eval a X.env) = eval a X.env := by rfl) (hline : (apos.endLine == pos.line) = true := by rfl) :
    J .f X C (.Call (.Attribute a "join" apos) [b] [] pos) (dS1 gJoin ta tb) := by
  obtain ⟨te, p, q1⟩ := ha
  obtain ⟨te', p', q2⟩ := hb
  refine ⟨_, pe_join p p' hs hbase hline, fun σ H Pr F ρ m Q Z R S E h k => ?_⟩
  refine q1 σ H Pr F ρ m _ Z _ S E h fun v H1 ⟨P1, F1, m1, d, S1, t1, dv, z⟩ => ?_
  have dv : Dn false X.K F1 (wv F1 H1) v d := dv
  try dsimp only at z
  split at z
  · cases dv
    refine ⟨⟨_, rfl⟩, q2 σ H1 P1 F1 ρ m1 _ Z _ S1 (E.te t1.toTr) z fun w H2 ⟨P2, F2, m2, d2, S2, t2, dv2, z2⟩ => ?_⟩
    have dv2 : Dn false X.K F2 (wv F2 H2) w d2 := dv2
    unfold gJoin at z2
    try dsimp only at z2
    split at z2
    · obtain ⟨ys, rfl, sz, z2⟩ := z2
      obtain ⟨l, us, rfl, hl, _, hr⟩ := dv2.sqL (fun _ _ => wv_le)
      rw [hr.strs] at hl
      exact ⟨_, _, ys, rfl, rfl, .inl hl, sz, k _ _ (((post_here S2 (.str _) (fun _ h => nomatch h) z2).te t2).te t1)⟩
    · exact z2.elim
  · exact z.elim
/-! ### items only looked at -/
theorem j_ixww (ha : J .w X C a ta) (hb : J .w X C b tb) (hs : PlainIx b := by exact fun _ _ => rfl) : J .w X C (.Subscript a b pos) (dBin (gIx false) ta tb) := by
  obtain ⟨te, p, q1⟩ := ha
  obtain ⟨te', p', q2⟩ := hb
  refine ⟨_, pe_ix ix_seq p p' hs, fun σ H Pr F ρ m Q Z R S E h k => ?_⟩
  refine q1 σ H Pr F ρ m _ Z _ S E h fun v H1 ⟨P1, F1, m1, d, S1, t1, dv, z⟩ => ?_
  refine q2 σ H1 P1 F1 ρ m1 _ Z _ S1 (E.te t1.toTr) z fun w H2 ⟨P2, F2, m2, d2, S2, t2, dv2, z2⟩ => ?_
  have dv2 : Dn false X.K F2 (wv F2 H2) w d2 := dv2
  have hw : ∀ i, d2 = .int i → w = .int i := fun i e => by rw [e] at dv2; exact dv2.toInt
  exact ix_core (fun _ _ => wv_le) (Dn.te t2 dv) (.inr hw) hw z2 fun v' d' h n q => k _ _ ⟨P2, F2, m2, d', S2, t1.trans t2, h, q⟩
/-! ### lists with lists within, summed -/
def gAddS : G2 := fun x y Q => match x, y with
  | .lst xs, .lst ys => xs.length + ys.length ≤ sizeLine ∧ Q (.lst (xs ++ ys))
  | _, _ => False
theorem j_addS (ha : J .s X C a ta) (hb : J .s X C b tb) : J .f X C (.BinOp a .Add b pos) (dBin gAddS ta tb) := by
  obtain ⟨te, p, q1⟩ := ha
  obtain ⟨te', p', q2⟩ := hb
  refine ⟨_, pe_op op_cat p p', fun σ H Pr F ρ m Q Z R S E h k => ?_⟩
  refine q1 σ H Pr F ρ m _ Z _ S E h fun v H1 ⟨P1, F1, m1, d, S1, t1, dv, z⟩ => ?_
  refine q2 σ H1 P1 F1 ρ m1 _ Z _ S1 (E.te t1.toTr) z fun w H2 ⟨P2, F2, m2, d2, S2, t2, dv2, z2⟩ => ?_
  have dv : Dn true X.K F2 (sv C.H0 P2 H2) v d := Dn.tr t2.toTr S1.prs dv
  have dv2 : Dn true X.K F2 (sv C.H0 P2 H2) w d2 := dv2
  unfold gAddS at z2
  dsimp only at z2
  split at z2
  · cases dv with
    | lst h1 r1 =>
      cases dv2 with
      | lst h2 r2 =>
        have e1 : H2 _ = some (.lst _) := sv_le h1
        have e2 : H2 _ = some (.lst _) := sv_le h2
        exact ⟨_, _, _, _, rfl, rfl, e1, e2, by rw [r1.length, r2.length]; exact z2.1, fun p hp => k _ _ (((post_new S2 hp (r1.app r2) z2.2).te t2).te t1)⟩
  · exact z2.elim
/-! ### isinstance of an error that is held -/
/-- instances of the class x are such of the class T: b -/
def IsF (K : PySem.W.Frag) (mg : Str → Option Value) (x T : Str) (b : Bool) : Prop := ∃ D, ∃ cv : Value, NsC K x D ∧ ExcC K D ∧ ((∃ a, mg T = some (.ref a) ∧ cv = .ref a) ∨ ∃ t, mg T = none ∧ bootBuiltins T = some (.type t) ∧ T ≠ "__name__" ∧ cv = .type t) ∧ PySem.W.kitOne K (.ref D) cv = some b
def rIsX (K : PySem.W.Frag) (D : Addr) (cv : Value) : List V → Hp → VK → Prop := fun xs H Q => ∃ (a : Addr) (c : V) (b : Bool), xs = [.ref a, c] ∧ H a = some (ExI D a) ∧ (∀ u, RelV c u → u = cv) ∧ PySem.W.kitOne K (.ref D) cv = some b ∧ Q (.bl b) H
theorem call_isX {D : Addr} {cv : Value} (c : ExcC X.K D) : CallR X (.builtin "isinstance") (rIsX X.K D cv) := by
  intro pins s σ H xs us Q I r h
  obtain ⟨a, cc, b, rfl, ha, hcv, e, q⟩ := h
  cases r with
  | cons rx rr =>
    cases rr with
    | cons rt rr =>
      cases rr
      cases rx
      have ec := hcv _ rt
      subst ec
      obtain ⟨at_, _, _⟩ := I.hok a _ ha
      exact PySem.W.kia_one (PySem.W.handS_kitx_exc c.hg c.hk c.hs c.hd c.ha c.hn c.ht c.hm) I.kIn at_ e (fun z => nomatch z) fun tk => ⟨.bl b, H, I.kept (t' := tk) fun _ _ z => z, rfl, q⟩
def dIsE {M : Type} (bs : List (Str × Bool)) (t : DT M) : DT M := fun ρ m Q Z => t ρ m (fun d m1 => match d with | .exc x => (match bs.lookup x with | some b => Q (.bl b) m1 | none => False) | _ => False) Z
theorem nsc_inj {K : PySem.W.Frag} {x : Str} {D D' : Addr} (h : NsC K x D) (h' : NsC K x D') : D = D' := by
  unfold NsC at h h'
  rw [h] at h'
  cases h'; rfl
/-- the class by its name, as a value -/
theorem pe_cls {T : Str} {p : Pos} {cv : Value} (hc : (∃ a, X.mg T = some (.ref a) ∧ cv = .ref a) ∨ ∃ t, X.mg T = none ∧ bootBuiltins T = some (.type t) ∧ T ≠ "__name__" ∧ cv = .type t) (hg : Gl X T) (hdb : (T == ("__debug__" : Str)) = false) :
    ∃ c, (∀ u, RelV c u → u = cv) ∧ PE X (.Name T p) (tC c) := by
  rcases hc with ⟨a, h, rfl⟩ | ⟨t, h, hv, hn, rfl⟩
  · exact ⟨.ref a, fun u r => r, pe_glob hg h rfl hdb⟩
  · exact ⟨.ty t, fun u r => r, pe_bltn hg h hv (v := .ty t) rfl hn hdb⟩
theorem j_isE {T : Str} {p p2 : Pos} {bs : List (Str × Bool)} (hT : ∀ x b, (x, b) ∈ bs → IsF X.K X.mg x T b) (hne : bs ≠ []) (ha : J .w X C a ta) (mi : X.mg "isinstance" = none) (gi : Gl X "isinstance" := by rfl) (gx : Gl X T := by rfl) (hdb : (T == ("__debug__" : Str)) = false := by decide)
    (he : starEach [a, .Name T p2] X.env = (false, eval a X.env) :: starEach [.Name T p2] X.env := by rfl) (hpl : (backTo pos (starEach [.Name T p2] X.env)).any (·.1) = false := by rfl) :
    J .f X C (.Call (.Name "isinstance" p) [a, .Name T p2] [] pos) (dIsE bs ta) := by
  obtain ⟨te, pa, q⟩ := ha
  have one : ∃ cv, ((∃ a, X.mg T = some (.ref a) ∧ cv = Value.ref a) ∨ ∃ t, X.mg T = none ∧ bootBuiltins T = some (.type t) ∧ T ≠ "__name__" ∧ cv = .type t) := by
    cases bs with
    | nil => exact absurd rfl hne
    | cons xb r =>
      obtain ⟨D, cv, _, _, h, _⟩ := hT xb.1 xb.2 List.mem_cons_self
      exact ⟨cv, h⟩
  obtain ⟨cv, hcv⟩ := one
  obtain ⟨c, hc, pc⟩ := pe_cls (p := p2) hcv gx hdb
  have uniq : ∀ {cv'}, ((∃ a, X.mg T = some (.ref a) ∧ cv' = Value.ref a) ∨ ∃ t, X.mg T = none ∧ bootBuiltins T = some (.type t) ∧ T ≠ "__name__" ∧ cv' = .type t) → cv' = cv := fun h => by
    rcases h with ⟨a, h, rfl⟩ | ⟨t, h, hv, _, rfl⟩
    · rcases hcv with ⟨a', h', rfl⟩ | ⟨t', h', _⟩
      · rw [h] at h'; cases h'; rfl
      · rw [h] at h'; cases h'
    · rcases hcv with ⟨a', h', rfl⟩ | ⟨t', h', hv', _, rfl⟩
      · rw [h] at h'; cases h'
      · rw [hv] at hv'; cases hv'; rfl
  have rule : CallR X (.builtin "isinstance") (fun xs H Q => ∃ D, ExcC X.K D ∧ rIsX X.K D cv xs H Q) := fun pins s σ H xs us Q I r ⟨D, e, h⟩ => call_isX e pins s σ H xs us Q I r h
  refine ⟨_, pe_callB rule gi mi (by decide +kernel) (pa_cons pa (pa_cons pc pa_nil) he) (by decide) (by decide) he hpl, fun σ H Pr F ρ m Q Z R S E h k => ?_⟩
  refine q σ H Pr F ρ m _ Z _ S E h fun v H1 ⟨P1, F1, m1, d, S1, t1, dv, z⟩ => ?_
  have dv : Dn false X.K F1 (wv F1 H1) v d := dv
  try dsimp only at z
  split at z
  · split at z
    · rename_i b eb
      obtain ⟨D, cv', nD, eD, hcv', kD⟩ := hT _ b (PySem.mem_of_lookup eb)
      obtain rfl := uniq hcv'
      cases dv with
      | exc hx hn =>
        obtain rfl := nsc_inj nD hn
        exact ⟨D, eD, _, c, b, rfl, wv_le hx, hc, kD, k _ _ ((post_here S1 (.bl _) (fun _ h => nomatch h) z).te t1)⟩
    · exact z.elim
  · exact z.elim
/-! ### try: .. except T as n: y = n -/
/-- a block at whose errors the names stand as at its start -/
def JE (X : Cx) (C : Cn) (st : List Stmt) (t : DS C.W.M) : Prop := ∃ ts, PSs X st ts ∧ ∀ σ H Pr F ρ m (E : DE C.W.M) D', SR X.K C Pr F σ ρ m H → Ex X C Pr F H σ ρ E.ex →
  (∀ σ' H' ρ' m' Pr' F', SR X.K C Pr' F' σ' ρ' m' H' → Tr Pr F H Pr' F' H' → E.nx ρ' m' → D'.nx σ' H') → t E ρ m → ts D' σ H
variable {t u : DS C.W.M} {body els : List Stmt}
theorem je_expr {c : Cl} {te : DT C.W.M} (h : J c X C e te) (hs : swapsWith e none pos.line X.env = pure false := by rfl) : JE X C [.Expr e pos] (dDrop te) := by
  obtain ⟨t1, p, q⟩ := h
  exact ⟨_, pss_one (ps_expr p hs), fun σ H Pr F ρ m E D' S x nx h => q σ H Pr F ρ m _ _ _ S x h fun v H1 ⟨P1, F1, m1, d, S1, t1, dv, z⟩ => nx _ _ _ _ _ _ S1 t1.toTr z⟩
theorem je_set (i : Nat) {x : Str} {p' : Pos} {te : DT C.W.M} (hN : X.N.Nodup) (h : J .s X C e te) (hi : X.N[i]? = some x := by rfl) (hx : Loc X.env.scope x := by first | exact .inl rfl | exact .inr rfl) (hf : LocF X x := by first | exact .inl rfl | exact .inr rfl) (hs : swapsWith e (some (.Name x p')) pos.line X.env = pure false := by rfl) :
    JE X C [.Assign [.Name x p'] e pos] (dSet i te) := by
  obtain ⟨t1, p, q⟩ := h
  exact ⟨_, pss_one (ps_set hN hi hx p hs hf), fun σ H Pr F ρ m E D' S x nx h => q σ H Pr F ρ m _ _ _ S x h fun v H1 ⟨P1, F1, m1, d, S1, t1, dv, z⟩ => nx _ _ _ _ _ _ (S1.set i dv) t1.toTr z⟩
theorem je_if {c : Expr} {tc : DTT C.W.M} (hc : JT X C c tc) (h1 : JE X C body t) (h2 : JE X C els u) : JE X C [.If c body els pos] (dIte tc t u) := by
  obtain ⟨tt, p, q⟩ := hc
  obtain ⟨t1, p1, q1⟩ := h1
  obtain ⟨t2, p2, q2⟩ := h2
  refine ⟨_, pss_one (ps_if p p1 p2), fun σ H Pr F ρ m E D' S x nx h => ?_⟩
  refine q σ H Pr F ρ m _ _ _ S x h fun b H1 ⟨P1, F1, m1, S1, t1, z⟩ => ?_
  cases b with
  | true => exact iteT (q1 σ H1 P1 F1 ρ m1 E D' S1 (x.te t1.toTr) (fun σ' H' ρ' m' P2 F2 S2 t2 => nx σ' H' ρ' m' P2 F2 S2 (t1.toTr.trans t2)) z)
  | false => exact iteF (q2 σ H1 P1 F1 ρ m1 E D' S1 (x.te t1.toTr) (fun σ' H' ρ' m' P2 F2 S2 t2 => nx σ' H' ρ' m' P2 F2 S2 (t1.toTr.trans t2)) z)
/-- the class x is taken by the clause that names T -/
def ErrF (K : PySem.W.Frag) (mg : Str → Option Value) (x T : Str) : Prop := ∃ D DT, mg x = some (.ref D) ∧ NsC K x D ∧ mg T = some (.ref DT) ∧ PySem.W.exmOne K (.ref D) (.ref DT) = some true
def dTry {M : Type} (xs : List Str) (i j : Nat) (t : DS M) : DS M := fun E ρ m => t ⟨E.nx, fun _ _ => False, fun _ _ => False, fun _ _ => False, fun x m' => x ∈ xs ∧ E.nx (((ρ.set i .un).set j (.val (.exc x))).set i .un) m'⟩ ρ m
theorem js_try (i j : Nat) {T n y : Str} {xs : List Str} {np n2 yp ap pos' : Pos} (hN : X.N.Nodup) (hxs : ∀ x ∈ xs, ErrF X.K X.mg x T) (hne : xs ≠ [])
    (hb : ∀ (W : WX) (pn : List (Addr × Obj)) (xe : Value → Shared → Prop), Takes (X.tr pn xe) W → JE (X.tr pn xe) { C with wx := W } body t) (gT : Gl X T := by rfl)
    (hst : X.stack = X.env :: X.outer := by rfl) (hfm : X.env.frame = some X.env.locals := by rfl) (hex : X.ex = [] := by rfl) (hi : X.N[i]? = some n := by rfl) (hj : X.N[j]? = some y := by rfl) (hln : X.env.kindOf n = some .local := by rfl) (hly : X.env.kindOf y = some .local := by rfl) (hij : i ≠ j := by decide)
    (dT : (T == ("__debug__" : Str)) = false := by decide) (dn : (n == ("__debug__" : Str)) = false := by decide) (cn : (n == ("__classdict__" : Str)) = false := by decide)
    (hsw : ∀ a oe pn, swapsWith (.Name n n2) (some (.Name y yp)) ap.line (X.suite a ((a, oe) :: pn)).env = pure false := by intros; rfl) (hvn : ∀ a pn, Vis (X.suite a pn).env.scope n := by intros; exact Or.inl rfl) (hly2 : ∀ a pn, Loc (X.suite a pn).env.scope y := by intros; exact Or.inl rfl) (hfn : ∀ a pn, LocF (X.suite a pn) y := by intros; exact .inl rfl) :
    JS X C (.Try body [.ExceptHandler (some (.Name T np)) (some n) [.Assign [.Name y yp] (.Name n n2) ap] pos'] [] [] pos) (dTry xs i j t) := by
  have one : ∃ DT, X.mg T = some (.ref DT) := by
    cases xs with
    | nil => exact absurd rfl hne
    | cons x r =>
      obtain ⟨D, DT, _, _, h, _⟩ := hxs x List.mem_cons_self
      exact ⟨DT, h⟩
  obtain ⟨DT, hDT⟩ := one
  let tb : WX → TS := fun W D σ H => ∃ Pr F ρ m E, SR X.K C Pr F σ ρ m H ∧ Ex X { C with wx := W } Pr F H σ ρ E.ex ∧ (∀ σ' H' ρ' m' Pr' F', SR X.K C Pr' F' σ' ρ' m' H' → Tr Pr F H Pr' F' H' → E.nx ρ' m' → D.nx σ' H') ∧ t E ρ m
  refine ⟨_, ps_hold (c := .ref DT) (tb := tb) (Wout := fun _ _ _ _ => False) hst hfm hex hN hi hj hln hly hij ⟨gT, dT, .inl hDT⟩ takes0 (fun W pn xe tk _ => ?_) (fun a oe pn => pss_cons (ps_set hN hj (hly2 a _) (pe_var hi (hvn a _) dn cn) (hsw a oe pn) (hfn a _)) pss_nil), fun σ H Pr F ρ m E D' S l h => ?_⟩
  · obtain ⟨ts, p, q⟩ := hb W pn xe tk
    refine ⟨fun pins s σ H D I ⟨Pr, F, ρ, m, E, S, ex, nx, h⟩ => p.run pins s σ H D I (q σ H Pr F ρ m E D ⟨S.keep, S.pre, S.new, S.prs, S.prn, S.prf, S.rz, S.len, S.slot, S.dist⟩ (fun x cls P1 F1 m1 H1 e S1 t1 z => ex x cls P1 F1 m1 H1 e ⟨S1.keep, S1.pre, S1.new, S1.prs, S1.prn, S1.prf, S1.rz, S1.len, S1.slot, S1.dist⟩ t1 z)
      (fun σ' H' ρ' m' P1 F1 S1 t1 z => nx σ' H' ρ' m' P1 F1 ⟨S1.keep, S1.pre, S1.new, S1.prs, S1.prn, S1.prf, S1.rz, S1.len, S1.slot, S1.dist⟩ t1 z) h)⟩
  · refine ⟨Pr, F, ρ, m, ⟨E.nx, fun _ _ => False, fun _ _ => False, fun _ _ => False, fun x m' => x ∈ xs ∧ E.nx (((ρ.set i .un).set j (.val (.exc x))).set i .un) m'⟩, S, fun x cls P1 F1 m1 H1 hx S1 t1 z => ?_, fun σ' H' ρ' m' P1 F1 S1 t1 z => l.nx _ _ _ _ _ _ S1 t1 z, h⟩
    have S1 : SR X.K C P1 F1 σ ρ m1 H1 := ⟨S1.keep, S1.pre, S1.new, S1.prs, S1.prn, S1.prf, S1.rz, S1.len, S1.slot, S1.dist⟩
    obtain ⟨D, DT', e1, e2, e3, e4⟩ := hxs x z.1
    rw [hDT] at e3; cases e3
    rw [e1] at hx; cases hx
    refine ⟨true, e4, fun _ => ⟨rfl, D, rfl, fun a ha => ?_⟩, fun h => nomatch h⟩
    obtain ⟨S2, t2⟩ := S1.new1 (o := ExI D a) ha
    have dv : Dn true X.K F1 (sv C.H0 P1 (upd H1 a (ExI D a))) (.ref a) (.exc x) := .exc (vw_iff.mpr ⟨upd_same, .inl trivial⟩) e2
    exact l.nx _ _ _ _ _ _ (((S2.drop i _).set j dv).drop i none) (t1.trans t2.toTr) z.2
end
end RR
namespace RR
open PySem PySem.Spec PyProof.Rows L2
section
variable {K : PySem.W.Frag} {mg : Str → Option Value} {T x : Str}
theorem isf_nil : ∀ y c, (y, c) ∈ ([] : List (Str × Bool)) → IsF K mg y T c := fun _ _ h => nomatch h
theorem isf_cons {b : Bool} {bs : List (Str × Bool)} (h : IsF K mg x T b) (r : ∀ y c, (y, c) ∈ bs → IsF K mg y T c) : ∀ y c, (y, c) ∈ (x, b) :: bs → IsF K mg y T c := fun y c m => by
  rcases List.mem_cons.mp m with e | e
  · cases e; exact h
  · exact r y c e
theorem err_nil : ∀ y ∈ ([] : List Str), ErrF K mg y T := fun _ h => nomatch h
theorem err_cons {xs : List Str} (h : ErrF K mg x T) (r : ∀ y ∈ xs, ErrF K mg y T) : ∀ y ∈ x :: xs, ErrF K mg y T := fun y m => by
  rcases List.mem_cons.mp m with e | e
  · rw [e]; exact h
  · exact r y e
end
theorem RoomG.u65 {k : Nat} {A : Around} (r : RoomG k A) : A.units + 65 < cLine := by have := r.un; omega
end RR
namespace RR
open PySem PySem.Spec PyProof.Rows L2
section
variable {X : Cx} {C : Cn} {pos : Pos}
/-- a, b, c = x, y, z, the names plain locals -/
def dPar3 {M : Type} (i j l : Nat) (t : DTA M) : DS M := fun E ρ m => t ρ m (fun ds m' => match ds with | [x, y, z] => E.nx (((ρ.set i (.val x)).set j (.val y)).set l (.val z)) m' | _ => False) E.ex
theorem js_par3 (i j l : Nat) {x y z : Str} {a b c : Expr} {ta : DTA C.W.M} {px py pz pt : Pos} {kt k2 pt2} (hc : X.calm = true) (hN : X.N.Nodup) (ha : JA .s X C [a, b, c] ta) (hw : swappedStores [.Tuple [.Name x px, .Name y py, .Name z pz] kt pt] (.Tuple [a, b, c] k2 pt2) X.env = pure (some [x, y, z]) := by rfl)
    (hi : X.N[i]? = some x := by rfl) (hj : X.N[j]? = some y := by rfl) (hl : X.N[l]? = some z := by rfl) (hij : i ≠ j := by decide) (hil : i ≠ l := by decide) (hjl : j ≠ l := by decide) (hx : X.env.scope.names.lookup x = some .local := by rfl) (hy : X.env.scope.names.lookup y = some .local := by rfl) (hz : X.env.scope.names.lookup z = some .local := by rfl)
    (hs : swapsWithSole [.Tuple [.Name x px, .Name y py, .Name z pz] kt pt] (.Tuple [a, b, c] k2 pt2) pos.line X.env = pure false := by rfl) : JS X C (.Assign [.Tuple [.Name x px, .Name y py, .Name z pz] kt pt] (.Tuple [a, b, c] k2 pt2) pos) (dPar3 i j l ta) := by
  obtain ⟨t1, p, q⟩ := ha
  refine ⟨_, ps_par3 hc hN hi hj hl hij hil hjl hx hy hz p hw hs, fun σ H Pr F ρ m E D' S l h => q σ H Pr F ρ m _ _ _ S (l.ex σ ρ) h fun vs H1 ⟨P1, F1, m1, ds, S1, t1, dv, z⟩ => ?_⟩
  have dv : DnA true X.K F1 (sv C.H0 P1 H1) vs ds := dv
  try dsimp only at z
  split at z
  · cases dv with
    | cons h1 r =>
      cases r with
      | cons h2 r =>
        cases r with
        | cons h3 r =>
          cases r
          exact ⟨_, _, _, rfl, l.nx _ _ _ _ _ _ (((S1.set _ h1).set _ h2).set _ h3) t1.toTr z⟩
  · exact z.elim
end
end RR

/-! RN: defs held as data, called by a local name -/
namespace RR
open PySem PySem.Spec PyProof.Rows L2
/-- the module's name y is the def at a -/
def FnF (K : PySem.W.Frag) (mg : Str → Option Value) (y : Str) : Prop := ∃ a, mg y = some (.ref a) ∧ NsC K y a
theorem FnF.cst {K : PySem.W.Frag} {mg : Str → Option Value} {y : Str} (h : FnF K mg y) : Cst K mg y (.fn y) := by
  obtain ⟨a, h1, h2⟩ := h
  exact ⟨.ref a, .ref a, h1, rfl, .fn h2⟩
section
variable {X : Cx} {C : Cn} {e : Expr} {es : List Expr} {pos : Pos} {k : Nat}
/-- what is asked where a def that stands in the slot i is called -/
def tCallV (X : Cx) (k : Nat) (i : Nat) (E : L2.St → XK) (t : TA) : TE := fun σ H Q => ∃ f fd ps ds dvs sp, σ[i]? = some (some (.ref f)) ∧ FnG X.prog X.w X.K X.mg X.base (L2.CX X.prog X.w) k f fd ps sp ∧ PySem.W.keepIn X.K (.ref f) = true ∧ Binds X.K fd ps ds ∧ Vals dvs ds ∧ tCallSD sp dvs E t σ H Q
theorem pe_callV {x : Str} {i : Nat} {E : L2.St → XK} {t : TA} {p : Pos} (room : RoomG k X.A) (px : ∀ σ, PassesAt (L2.CX X.prog X.w) X σ (E σ)) (ha : PA X (e :: es) t) (hN : X.N[i]? = some x) (hv : Vis X.env.scope x)
    (hd : (x == ("__debug__" : Str)) = false) (hcd : (x == ("__classdict__" : Str)) = false) (he : starEach (e :: es) X.env = (false, eval e X.env) :: starEach es X.env) (hpl : (backTo pos (starEach es X.env)).any (·.1) = false) :
    PE X (.Call (.Name x p) (e :: es) [] pos) (tCallV X k i E t) := by
  constructor
  rintro pins s σ H Q I ⟨f, fd, ps, ds, dvs, sp, hs, F, kp, bn, dv, asked⟩
  refine wpAny_Call_Name_kw (thn ((pe_var (pos := p) hN hv hd hcd).run pins s σ H (fun v H1 => v = .ref f ∧ H1 = H) I ⟨.ref f, hs, rfl, rfl⟩) fun u0 s0 z0 => ?_)
  obtain ⟨v0, H0, I0, r0, e1, e2⟩ := z0
  subst e1
  rw [e2] at I0
  obtain rfl : u0 = Value.ref f := r0
  refine PySem.W.callWith_K (h₀ := X.base) I.ok.mod.kin kp (thn (ha.run pos pins s0 σ H _ I0 asked) ?_) he hpl
  rintro us s1 ⟨vs, H1, I1, r, z⟩
  have both : Vals (vs ++ dvs) (us ++ ds) := r.append dv
  have size : (us ++ ds).length = ps.length := both.length.symm.trans (F.ln z)
  refine ⟨I1.kIn, wpAny_call (codeAny_mono (F.go (args := ⟨us, []⟩) room I1.env0 (bn s1 us I1.kIn size) both z) fun r s2 z2 => ?_)⟩
  match r, z2 with
  | .error e, z2 => exact px σ pins H1 s1 e s2 I1 z2
  | .ok (.ret u), z2 => exact I1.after z2
  | .ok .next, z2 => exact z2.elim
  | .ok .brk, z2 => exact z2.elim
  | .ok .cont, z2 => exact z2.elim
abbrev Tab (M : Type) := List (Str × DSp M)
def dCallV {M : Type} (tab : Tab M) (i : Nat) (t : DTA M) : DT M := fun ρ m Q Z => match ρ[i]? with
  | some (.val (.fn y)) => (match tab.lookup y with | some sp => t ρ m (fun ds m1 => sp ds m1 Q Z) Z | none => False)
  | _ => False
/-- what is known of the defs of a table -/
def TabF (X : Cx) (W : Wd) (k : Nat) (tab : Tab W.M) : Prop := ∀ y sp, (y, sp) ∈ tab → FnF X.K X.mg y ∧ FD X.prog X.w X.K X.mg X.base W k y [] sp
theorem tabf_nil {W : Wd} : TabF X W k [] := fun _ _ h => nomatch h
theorem tabf_cons {W : Wd} {y : Str} {sp : DSp W.M} {tab : Tab W.M} (h : FnF X.K X.mg y) (f : FD X.prog X.w X.K X.mg X.base W k y [] sp) (r : TabF X W k tab) : TabF X W k ((y, sp) :: tab) := fun z q m => by
  rcases List.mem_cons.mp m with e | e
  · cases e; exact ⟨h, f⟩
  · exact r z q e
theorem j_callV (i : Nat) {x : Str} {tab : Tab C.W.M} {ta : DTA C.W.M} {p : Pos} (h : TabF X C.W k tab) (hr : RoomG k X.A) (tk : Takes X C.wx) (ha : JA .w X C (e :: es) ta) (hN : X.N[i]? = some x := by rfl) (hv : Vis X.env.scope x := by first | exact Or.inl rfl | exact Or.inr (Or.inl rfl) | exact Or.inr (Or.inr rfl))
    (hd : (x == ("__debug__" : Str)) = false := by decide) (hcd : (x == ("__classdict__" : Str)) = false := by decide)
    (he : starEach (e :: es) X.env = (false, eval e X.env) :: starEach es X.env := by rfl) (hpl : (backTo pos (starEach es X.env)).any (·.1) = false := by rfl) :
    J .f X C (.Call (.Name x p) (e :: es) [] pos) (dCallV tab i ta) := by
  obtain ⟨te, pa, q⟩ := ha
  refine ⟨_, pe_callV (k := k) (i := i) (E := fun σ cls d H' => C.wx cls d σ H') hr (fun σ => passAt tk σ) pa hN hv hd hcd he hpl, fun σ H Pr F ρ m Q Z R S E z kk => ?_⟩
  unfold dCallV at z
  split at z
  · rename_i y ey
    split at z
    · rename_i sp esp
      obtain ⟨⟨a, mga, nsa⟩, f, fd, ps, ds, dvs, G, hm, hk, hb, hdv, hdd⟩ := h y sp (PySem.mem_of_lookup esp)
      obtain ⟨v, ev, dn⟩ := S.slot i _ ey
      have ef : v = .ref f := by
        cases dn with
        | fn hn =>
          rw [nsc_inj hn nsa]
          rw [mga] at hm
          cases hm; rfl
      subst ef
      refine ⟨f, fd, ps, ds, dvs, _, ev, G, hk, hb, hdv, ?_⟩
      refine q σ H Pr F ρ m _ Z _ S E z fun vs H1 z1 => ?_
      obtain ⟨P1, F1, m1, ds1, S1, t1, dv, z⟩ := z1
      have dv : DnA false X.K F1 (wv F1 H1) vs ds1 := dv
      refine ⟨F1, m1, ds1 ++ [], Q, Z, S1.rz, dv.app (hdd _ _), by rw [List.append_nil]; exact z, fun v H' F' d m' rz pre fr kp dn q => ?_, fun x cls H' F' m' hx rz pre fr kp z => ?_⟩
      · obtain ⟨S2, t2⟩ := S1.turned rz pre fr kp
        have np : ∀ {a o}, sv H1 (· ∈ F') H' a = some o → IsL o → ¬ (P1 a ∨ a ∈ F') ∧ C.H0 a = none ∧ H1 a = none := fun {a o} h l => by
          obtain ⟨e, q⟩ := vw_iff.mp h
          rcases q with q | q
          · exact (IsT.not_L q l).elim
          · exact ⟨fun z => z.elim (S1.np q.2.2) q.2.1, S1.h0n q.2.2, q.2.2⟩
        have up : ∀ a o, sv H1 (· ∈ F') H' a = some o → sv C.H0 (fun a => P1 a ∨ a ∈ F') H' a = some o := fun a o h => by
          obtain ⟨e, q⟩ := vw_iff.mp h
          refine vw_iff.mpr ⟨e, q.imp id fun q => ⟨q.1, (np h q.1).1, (np h q.1).2.1⟩⟩
        refine kk v H' ⟨_, F', m', d, S2, t1.trans t2, ⟨dn.mono ⟨[], by simp⟩ up, fun ds e => ?_⟩, q⟩
        subst e
        cases dn with
        | lst h r =>
          rename_i a xs
          have h : sv H1 (· ∈ F') H' a = some (.lst xs) := h
          obtain ⟨n1, n2, n3⟩ := np h trivial
          exact ⟨a, xs, rfl, some_of (t1.stay a) n3, n1, sv_le h, DnA.mono ⟨[], by simp⟩ up r⟩
      · obtain ⟨S2, t2⟩ := S1.turned rz pre fr kp
        exact E x cls _ F' m' H' hx S2 (t1.trans t2).toTr z
    · exact z.elim
  · exact z.elim
end
end RR

/-! RU: x[::-1] of lists and tuples -/
namespace RR
open PySem PySem.Spec PyProof.Rows L2 HT
section
variable {prog : Program} {w : World} {A : Around} {E : Value → Shared → Prop} {s : Shared}
theorem adjust_rev (n : Nat) : Builtin.Slice.sliceAdjust none none (-1) (n : Int) = ((n : Int) - 1, -1) := by
  unfold Builtin.Slice.sliceAdjust
  have h1 : ((-1 : Int) < 0) := by decide
  simp only [h1, if_true]
theorem places_rev (n : Nat) : Builtin.Slice.slicePlaces ((n : Int) - 1) (-1) (-1) = n := by
  unfold Builtin.Slice.slicePlaces
  have h1 : ¬ ((-1 : Int) > 0) := by decide
  have h2 : (- (-1) : Int) = 1 := by decide
  simp only [h1, if_false, h2, Int.ediv_one]
  split <;> omega
theorem pick_rev (xs : Array Value) : ((List.range xs.size).filterMap fun (m : Nat) => xs[(((xs.size : Int) - 1) + (m : Int) * (-1)).toNat]?).toArray = xs.toList.reverse.toArray := by
  have e : (List.range xs.size).map (fun (m : Nat) => (((xs.size : Int) - 1) + (m : Int) * (-1)).toNat) = (List.range xs.size).map fun k => xs.size - 1 - k := by
    refine List.map_congr_left fun k hk => ?_
    have := List.mem_range.mp hk
    omega
  have : (List.range xs.size).filterMap (fun (m : Nat) => xs[(((xs.size : Int) - 1) + (m : Int) * (-1)).toNat]?) = ((List.range xs.size).map (fun (m : Nat) => (((xs.size : Int) - 1) + (m : Int) * (-1)).toNat)).filterMap (xs[·]?) := by
    rw [List.filterMap_map]; rfl
  rw [this, e, PySem.W.krv_range, List.filterMap_reverse, PySem.W.krv_all]
theorem sliceApplied_rev {sl : Addr} {vl vu vs : Value} {n : Nat} {Q : Int × Int × Nat → Shared → Prop} (hs : s.heap.IsSliceOf sl vl vu vs) (pl : IsPart vl none) (pu : IsPart vu none) (ps : IsPart vs (some (-1)))
    (h : Q ((n : Int) - 1, -1, n) s) : wpAny (model prog w) A (Builtin.Slice.sliceApplied (.ref sl) (pure (n : Int))) Q E s := by
  obtain ⟨os, hos, hcs, hds⟩ := id hs
  unfold Builtin.Slice.sliceApplied Builtin.Slice.sliceFields
  refine wpAny_bind (wpAny_bind (wpAny_field hos hds (x := vl) rfl (wpAny_bind (wpAny_field hos hds (x := vu) rfl (wpAny_bind (wpAny_field hos hds (x := vs) rfl (wpAny_pure ?_)))))))
  refine wpAny_bind (slicePart_ ps ?_)
  show wpAny _ _ (if ((-1 : Int) == 0) = true then _ else _) _ _ s
  rw [if_neg (by decide)]
  refine wpAny_bind (slicePart_ pl (wpAny_bind (slicePart_ pu (wpAny_bind (wpAny_pure ?_)))))
  show wpAny _ _ (match Builtin.Slice.sliceAdjust none none (-1) (n : Int) with | (lo, hi) => pure (lo, (-1 : Int), Builtin.Slice.slicePlaces lo hi (-1))) _ _ s
  rw [adjust_rev n]
  show wpAny _ _ (pure ((n : Int) - 1, (-1 : Int), Builtin.Slice.slicePlaces ((n : Int) - 1) (-1) (-1))) _ _ s
  rw [places_rev]
  exact wpAny_pure h
theorem getItem_tuple_rev {t sl : Addr} {items : Array Value} {vl vu vs : Value} {Q : Value → Shared → Prop} (ht : IsTup s.heap t items) (hs : s.heap.IsSliceOf sl vl vu vs) (pl : IsPart vl none) (pu : IsPart vu none) (ps : IsPart vs (some (-1)))
    (h : Q (.ref s.heap.objs.size) { s with heap := s.heap.push { cls := .type "tuple", data := .seq items.toList.reverse.toArray } })
    (hsz : items.size ≤ sizeLine) : wpAny (model prog w) A (getItem (.ref t) (.ref sl)) Q E s := by
  have htake : sizeOk (.seq items.toList.reverse.toArray) := by
    show items.toList.reverse.toArray.size ≤ sizeLine
    rw [List.size_toArray, List.length_reverse, Array.length_toList]
    omega
  obtain ⟨os, hos, hcs, hds⟩ := id hs
  have hTs : s.TypeIs (.ref sl) "slice" := ⟨os, hos, hcs⟩
  unfold getItem
  try with_reducible refine wpAny_holding ?_
  first | refine wpAny_bind (wpAny_pure ?_) | skip
  refine wpAny_bind (wpAny_sequenceKey ht.typeIs (by decide) ?_)
  refine wpAny_bind (wpAny_callSpecial?_slot (name := Str.ofString "__getitem__") ht.typeIs PyProof.Rows.slot_tuple_getitem
    (wpAny_call_entry PyProof.Rows.slot_tuple_getitem ht.typeIs entry_tuple_getitem ?_ (args_tuple_getitem _ _)))
  show wpAny _ _ (Builtin.Tuple.tupleItemsOf (.ref t) >>= _) _ _ s
  refine wpAny_bind (tupleItemsOf_ ht ?_)
  refine wpAny_bind (wpAny_typeOf hTs ?_)
  rw [if_pos (by decide)]
  refine wpAny_bind (sliceApplied_rev hs pl pu ps ?_)
  have hno : ¬ (((items.size : Int) - 1 == 0 && (-1 : Int) == 1 && items.size == items.size) = true) := by
    rw [show ((-1 : Int) == 1) = false by decide, Bool.and_false, Bool.false_and]
    exact Bool.false_ne_true
  show wpAny _ _ (if ((items.size : Int) - 1 == 0 && (-1 : Int) == 1 && items.size == items.size) = true then _ else _) _ _ s
  rw [if_neg hno, pick_rev]
  first
    | exact wpAny_bind (m := Builtin.Tuple.tupleExact _) (wpAny_newObj_type (wpAny_pure ⟨_, rfl, wpAny_pure h⟩) htake)
    | exact wpAny_bind (m := Builtin.Tuple.tupleExact _) (wpAny_newObj_type (wpAny_bind (wpAny_pure (wpAny_pure ⟨_, rfl, wpAny_pure h⟩))) htake)
    | exact wpAny_bind (wpAny_bind (m := Builtin.Tuple.tupleExact _) (wpAny_newObj_type (wpAny_pure (wpAny_pure ⟨_, rfl, wpAny_pure h⟩)) htake))
    | exact wpAny_bind (wpAny_bind (m := Builtin.Tuple.tupleExact _) (wpAny_newObj_type (wpAny_pure ⟨_, rfl, wpAny_pure h⟩) htake))
end
section
variable {X : Cx}
/-- x[::-1] -/
def tRevA (K : PySem.W.Frag) (te : TE) : TE := fun σ H Q => te σ H fun x H1 => (∃ a xs, x = .ref a ∧ SqL K H1 a xs ∧ ∀ p, H1 p = none → Q (.ref p) (upd H1 p (.lst xs.reverse))) ∨ (∃ a xs, x = .ref a ∧ SqT K H1 a xs ∧ ∀ p, H1 p = none → Q (.ref p) (upd H1 p (.tup xs.reverse)))
theorem pe_revA {e : Expr} {te : TE} {k : Nat} {p1 p2 p3 pos : Pos} (he : PE X e te) : PE X (.Subscript e (.Slice none none (some (.UnaryOp .USub (.Constant (.int 1) k p1) p2)) p3) pos) (tRevA X.K te) := by
  refine ⟨fun pins s σ H Q I h => ?_⟩
  refine Subscript_ (thn (he.run pins s σ H _ I h) fun v s1 ⟨x, H1, I1, r1, q1⟩ => ?_)
  have hst : PO X (some (.UnaryOp .USub (.Constant (.int 1) k p1) p2)) (tPart (tUn (rU fun i => .int (-i)) (tC (.int 1)))) := po_some (pe_un un_neg pe_int)
  refine wpAny_Slice (thn (po_none.run pins s1 σ H1 (fun o H2 => o = none ∧ H2 = H1) I1 ⟨rfl, rfl⟩) fun vl s2 ⟨l, H2, I2, pl, el, e2⟩ => ?_)
  subst el e2
  refine thn (po_none.run pins s2 σ H2 (fun o H3 => o = none ∧ H3 = H2) I2 ⟨rfl, rfl⟩) fun vu s3 ⟨u, H3, I3, pu, eu, e3⟩ => ?_
  subst eu e3
  refine thn (hst.run pins s3 σ H3 (fun o H4 => o = some (-1) ∧ H4 = H3) I3 ⟨1, rfl, -1, rfl, rfl, rfl⟩) fun vs s4 ⟨o, H4, I4, ps, eo, e4⟩ => ?_
  subst eo e4
  have I5 : Inv X pins σ H4 { s4 with heap := s4.heap.push { cls := .type "slice", data := .fields #[vl, vu, vs] } } := I4.kept (t' := s4.toks) fun b ob q => Heap.get?_push_of_some _ q
  rcases q1 with ⟨a, xs, ex, hx, q⟩ | ⟨a, xs, ex, hx, q⟩
  · subst ex
    cases r1
    obtain ⟨its, r, ht, hz⟩ := I5.list hx
    have hlen := r.length
    show wpAny (model X.prog X.w) X.A (subscriptTail e (.Slice none none (some (.UnaryOp .USub (.Constant (.int 1) k p1) p2)) p3) (.ref a) (.ref s4.heap.objs.size)) (EP X pins σ Q) X.xe { s4 with heap := s4.heap.push { cls := .type "slice", data := .fields #[vl, vu, vs] } }
    refine tail_any (ops := [.ref a, .ref s4.heap.objs.size]) ht.isList.typeIs (PySem.slot_list_getitem.lookup) ?_ (by with_unfolding_all rfl)
    refine wpAny_getItem_list_slice ht.isList (Heap.IsSliceOf.new _ vl vu vs) pl pu ps (by decide) ?_ (by rw [List.size_toArray]; omega)
    rw [PySem.W.krv_pick]
    refine ⟨.ref _, _, I5.laid (t' := s4.toks) (o := .lst xs.reverse) (fun b ob q => Heap.get?_push_of_some _ q) (Nat.le_refl _) ?_, rfl, q _ (I5.hok.fresh (Nat.le_refl _))⟩
    exact ⟨by rw [List.length_reverse]; exact hz, _, 0, r.reverse, Heap.get?_push_size _ rfl⟩
  · subst ex
    cases r1
    obtain ⟨its, r, ht, hz⟩ := I5.tuple hx
    have hlen := r.length
    show wpAny (model X.prog X.w) X.A (subscriptTail e (.Slice none none (some (.UnaryOp .USub (.Constant (.int 1) k p1) p2)) p3) (.ref a) (.ref s4.heap.objs.size)) (EP X pins σ Q) X.xe { s4 with heap := s4.heap.push { cls := .type "slice", data := .fields #[vl, vu, vs] } }
    refine tail_any (ops := [.ref a, .ref s4.heap.objs.size]) ht.typeIs (PyProof.Rows.slot_tuple_getitem.lookup) ?_ (by with_unfolding_all rfl)
    refine getItem_tuple_rev ht (Heap.IsSliceOf.new _ vl vu vs) pl pu ps ?_ (by rw [List.size_toArray]; omega)
    refine ⟨.ref _, _, I5.laid (t' := s4.toks) (o := .tup xs.reverse) (fun b ob q => Heap.get?_push_of_some _ q) (Nat.le_refl _) ?_, rfl, q _ (I5.hok.fresh (Nat.le_refl _))⟩
    exact ⟨by rw [List.length_reverse]; exact hz, _, r.reverse, IsTup.new _ _⟩
end
theorem dna_rev {s : Bool} {K : PySem.W.Frag} {F : List Addr} {G : Hp} : ∀ {vs : List V} {ds : List D} {vs' : List V} {ds' : List D}, DnA s K F G vs ds → DnA s K F G vs' ds' → DnA s K F G (vs.reverse ++ vs') (ds.reverse ++ ds')
  | _, _, _, _, .nil, h => h
  | _, _, _, _, .cons h r, h' => by
    rw [List.reverse_cons, List.reverse_cons, List.append_assoc, List.append_assoc]
    exact dna_rev r (.cons h h')
theorem nls_rev {ds : List D} (h : D.nls ds = true) : D.nls ds.reverse = true := nls_sub h fun d hd => List.mem_reverse.mp hd
section
variable {X : Cx} {C : Cn} {e : Expr}
def dRvs {M : Type} (t : DT M) : DT M := fun ρ m Q Z => t ρ m (fun x m1 => match x with
  | .lst ds => D.nls ds = true ∧ Q (.lst ds.reverse) m1
  | .tup ds => D.nls ds = true ∧ Q (.tup ds.reverse) m1
  | _ => False) Z
theorem j_rvs {t : DT C.W.M} {k : Nat} {p1 p2 p3 pos : Pos} (ha : J .w X C e t) : J .f X C (.Subscript e (.Slice none none (some (.UnaryOp .USub (.Constant (.int 1) k p1) p2)) p3) pos) (dRvs t) := by
  obtain ⟨te, p, q1⟩ := ha
  refine ⟨_, pe_revA p, fun σ H Pr F ρ m Q Z R S E h k => ?_⟩
  refine q1 σ H Pr F ρ m _ Z _ S E h fun v H1 ⟨P1, F1, m1, d, S1, t1, dv, z⟩ => ?_
  try dsimp only at z
  split at z
  · obtain ⟨a, us, rfl, hs, hl, hd⟩ := dv.sqL (fun _ _ => wv_le)
    have hr := dna_rev hd .nil
    rw [List.append_nil, List.append_nil] at hr
    exact .inl ⟨a, us, rfl, hs, fun p hp => k _ _ ((post_new S1 hp (hr |>.up (nls_rev z.1)) z.2).te t1)⟩
  · obtain ⟨a, us, rfl, hs, hl, hd⟩ := dv.sqT (fun _ _ => wv_le)
    have hr := dna_rev hd .nil
    rw [List.append_nil, List.append_nil] at hr
    exact .inr ⟨a, us, rfl, hs, fun p hp => k _ _ ((post_newT S1 hp (hr |>.up (nls_rev z.1)) z.2).te t1)⟩
  · exact z.elim
end
end RR

/-! RDi: {number: number, ..}.get(x, y); x.extend(list) -/
namespace RR
open PySem PySem.Spec PyProof.Rows L2
def getC (kvs : List (Int × Int)) (i j : Int) : Int := ((kvs.find? fun p => decide (p.1 = i)).map (·.2)).getD j
def kGC {M : Type} (kvs : List (Int × Int)) (Q : D → M → Prop) (x y : D) (m : M) : Prop := match x, y with
  | .int i, .int j => Q (.int (getC kvs i j)) m
  | _, _ => False
def dGetC {M : Type} (kvs : List (Int × Int)) (te tf : DT M) : DT M := fun ρ m Q Z => te ρ m (fun x m1 => tf ρ m1 (fun y m2 => kGC kvs Q x y m2) Z) Z
section
variable {X : Cx} {C : Cn} {e f : Expr} {pos : Pos}
def trI (kvs : List (Int × Int)) : List (TE × TE) := kvs.map fun p => (tC (.int p.1), tC (.int p.2))
def kvI (kvs : List (Int × Int)) : List (Key × V) := kvs.map fun p => (.inl p.1, .int p.2)
theorem pairs_I : ∀ (kvs : List (Int × Int)) {σ : L2.St} {H : Hp} {Q : List (V × V) → Hp → Prop}, Q ((kvI kvs).map fun kv => (kV kv.1, kv.2)) H → tPairs (trI kvs) σ H Q
  | [], _, _, _, h => h
  | p :: r, σ, H, Q, h => pairs_I r (Q := fun ps H3 => Q ((.int p.1, .int p.2) :: ps) H3) h
theorem ppi_nil {p : Pos} : PPs X p [] [] (trI []) := pps_nil
theorem ppi_cons {p p1 p2 : Pos} {a b : Int} {j1 j2} {ks : List (Option Expr)} {vs : List Expr} {kvs : List (Int × Int)} (h : PPs X p ks vs (trI kvs)) : PPs X p (some (.Constant (.int a) j1 p1) :: ks) (.Constant (.int b) j2 p2 :: vs) (trI ((a, b) :: kvs)) := pps_cons pe_int pe_int h
theorem val_I (kvs : List (Int × Int)) (i : Int) : valV (kvI kvs) (.inl i) = ((kvs.find? fun p => decide (p.1 = i)).map (·.2)).map V.int := by
  induction kvs with
  | nil => rfl
  | cons p r ih =>
    by_cases h : p.1 = i
    · rw [show kvI (p :: r) = (.inl p.1, .int p.2) :: kvI r from rfl, valV_pos (by rw [h]), List.find?_cons_of_pos (by simp [h])]; rfl
    · rw [show kvI (p :: r) = (.inl p.1, .int p.2) :: kvI r from rfl, valV_neg (fun z => h (by cases z; rfl)), List.find?_cons_of_neg (by simp [h])]; exact ih
theorem j_getC {keys : List (Option Expr)} {values : List Expr} {kvs : List (Int × Int)} {dpos apos : Pos} {te tf : DT C.W.M} (hu : X.A.units + 65 < cLine) (hp : PPs X dpos keys values (trI kvs)) (ha : J .w X C e te) (hb : J .w X C f tf)
    (hall : keys.all (·.isSome) = true := by rfl) (hl : keys.length = values.length := by rfl) (h0 : keys ≠ [] := by (intro z; cases z)) (h15 : keys.length ≤ 15 := by decide) (hk : kvs.length ≤ 15 := by decide) (hd : mergeK [] (kvI kvs) = kvI kvs := by rfl)
    (hm : M2 X (.Dict keys values dpos) "get" apos e f pos := by exact ⟨rfl, rfl, rfl, rfl⟩) : J .f X C (.Call (.Attribute (.Dict keys values dpos) "get" apos) [e, f] [] pos) (dGetC kvs te tf) := by
  obtain ⟨t1, p1, q1⟩ := ha
  obtain ⟨t2, p2, q2⟩ := hb
  refine ⟨_, pe_dget2 (by omega) (pe_disp hp hall hl h0 h15) p1 p2 hm, fun σ H Pr F ρ m Q Z R S E h k => ?_⟩
  intro p hp
  refine pairs_I kvs ⟨upd_same, kvI kvs, rfl, by unfold kvI; rw [List.length_map]; exact hk, p, rfl, .inl ⟨_, .inl upd_same⟩, ?_⟩
  rw [hd, upd_upd]
  obtain ⟨S1, u1⟩ := S.new1 (o := .dK (kvI kvs)) hp
  have np : p ∉ F := fun z => S.np hp (S.prf p z)
  refine q1 σ _ Pr F ρ m _ Z _ S1 (E.te u1.toTr) h fun v H1 ⟨P1, F1, m1, d, S2, u2, dv, z⟩ => ?_
  refine q2 σ H1 P1 F1 ρ m1 _ Z _ S2 ((E.te u1.toTr).te u2.toTr) z fun w H2 ⟨P2, F2, m2, d2, S3, u3, dv2, z2⟩ => ?_
  have dv : Dn false X.K F1 (wv F1 H1) v d := dv
  have np1 : p ∉ F1 := fun z => by
    have := u2.fn p z np
    rw [upd_same] at this
    cases this
  have e2 : H2 p = some (.dK (kvI kvs)) := u3.all p _ np1 (u2.all p _ np upd_same)
  have dv2 : Dn false X.K F2 (wv F2 H2) w d2 := dv2
  unfold kGC at z2
  try dsimp only at z2
  split at z2
  · rename_i i j q0 q1 q2
    have ev := dv.toInt
    have ew := dv2.toInt
    subst ev; subst ew
    refine ⟨_, .inl ⟨_, .inl i, .inl e2, rfl, rfl⟩, ?_⟩
    have : (valV (kvI kvs) (.inl i)).getD (V.int j) = V.int (getC kvs i j) := by
      rw [val_I]; unfold getC
      cases (kvs.find? fun p => decide (p.1 = i)) <;> rfl
    rw [this]
    exact k _ _ (((post_here S3 (.int _) (fun _ h => nomatch h) z2).te u3).te (u1.trans u2))
  · exact z2.elim
/-- a number in a tuple of numbers -/
def gInT : G2 := fun x y Q => match x, y with
  | .int i, .tup ds => ∃ xs : List Int, ds = zz xs ∧ Q (.bl (decide (i ∈ xs)))
  | _, _ => False
theorem dna_ints {s : Bool} {K : PySem.W.Frag} {F : List Addr} {G : Hp} : ∀ {vs : List V} {ns : List Int}, DnA s K F G vs (zz ns) → vs = ns.map V.int
  | _, [], h => by cases h; rfl
  | _, n :: ns, h => by
    have h : DnA s K F G _ (.int n :: zz ns) := h
    cases h with
    | cons x y => cases x; rw [dna_ints y, List.map_cons]
theorem inV_ints (i : Int) : ∀ xs : List Int, inV (.int i) (xs.map V.int) = decide (i ∈ xs)
  | [] => rfl
  | x :: xs => by
    have ih := inV_ints i xs
    unfold inV at ih ⊢
    rw [List.map_cons, List.any_cons, ih]
    show (x == i || decide (i ∈ xs)) = _
    by_cases h : x = i
    · subst h; simp
    · have : ¬ i = x := fun z => h z.symm
      simp [h, this]
theorem flat_ints : ∀ xs : List Int, (xs.map V.int).all flatV = true
  | [] => rfl
  | x :: xs => by rw [List.map_cons, List.all_cons, flat_ints xs]; rfl
theorem ok_inT : OpOk X C (compareOp .In) gInT := by
  refine ⟨_, op_in_seq, fun σ H Pr F ρ m x y dx dy Q R S hx hy q k => ?_⟩
  unfold gInT at q
  split at q
  · obtain ⟨xs, rfl, q⟩ := q
    have ex := hx.toInt
    subst ex
    obtain ⟨a, us, rfl, hs, hl, hd⟩ := hy.sqT (fun _ _ => wv_le)
    rw [dna_ints hd] at hs
    refine ⟨a, _, rfl, .inr hs, rfl, flat_ints xs, k _ _ (post_here S (.bl _) (fun _ h => nomatch h) ?_)⟩
    rw [if_neg Bool.false_ne_true, inV_ints]
    exact q
  · exact q.elim
def dExt {M : Type} (i : Nat) (te : DT M) : DS M := fun E ρ m => match ρ[i]? with
  | some (.own ds) => te ρ m (fun d m' => match d with | .lst es => D.nls es = true ∧ ds.length + es.length ≤ sizeLine ∧ E.nx (ρ.set i (.own (ds ++ es))) m' | _ => False) E.ex
  | _ => False
theorem js_extend (i : Nat) {x : Str} {np apos cpos : Pos} {te : DT C.W.M} (h : J .s X C e te) (hN : X.N[i]? = some x := by rfl) (hv : Vis X.env.scope x := by first | exact Or.inl rfl | exact Or.inr (Or.inl rfl) | exact Or.inr (Or.inr rfl)) (hd : (x == ("__debug__" : Str)) = false := by decide) (hcd : (x == ("__classdict__" : Str)) = false := by decide)
    (hfew : ((backTo cpos (starEach [e] X.env)).all (fun x => !x.1) && (backToKw cpos (keywordEach [] X.env)).all (fun x => x.1.isSome) && decide ([e].length + ([] : List Keyword).length + (if ([] : List Keyword).isEmpty then 0 else 1) < 30)) = true := by rfl)
    (hline : (apos.endLine == cpos.line) = true := by rfl) (hs : starEach [e] X.env = (false, eval e X.env) :: starEach [] X.env := by rfl) :
    JS X C (.Expr (.Call (.Attribute (.Name x np) "extend" apos) [e] [] cpos) pos) (dExt i te) := by
  obtain ⟨t1, p, q⟩ := h
  refine ⟨_, ps_expr (pe_bm PySem.F.plainAttrs_list PySem.F.slot_list_extend PySem.F.type_list_extend mt_extend (pe_var hN hv hd hcd) (pa_cons p pa_nil hs) rfl hfew hline hs rfl) rfl, fun σ H Pr F ρ m E D' S l h => ?_⟩
  unfold dExt at h
  split at h
  · rename_i ds e0
    obtain ⟨p0, vs, e1, hp, pp, nf, hds, nn⟩ := S.slot i _ e0
    refine ⟨.ref p0, e1, .inl ⟨rfl, vs, SqL.of hp⟩, q σ H Pr F ρ m _ _ _ S (l.ex σ ρ) h fun w H1 ⟨P1, F1, m1, d, S1, t1, dv, z⟩ => ?_⟩
    have dv : Dn true X.K F1 (sv C.H0 P1 H1) w d := dv
    try dsimp only at z
    split at z
    · rename_i es
      obtain ⟨p1, us, e2, hp1, pp1, nf1, hds1, nn1⟩ := S1.slot i _ e0
      rw [e1] at e2; cases e2
      cases dv with
      | lst hl r =>
        rename_i a xs q0
        have hl : sv C.H0 P1 H1 a = some (.lst xs) := hl
        obtain ⟨S2, t2⟩ := S1.change e0 e1 (hds1.app r) (nls_app nn1 z.1)
        exact ⟨p0, a, us, xs, rfl, rfl, hp1, (vw_iff.mp hl).1, by rw [hds1.length, r.length]; exact z.2.1, l.nx _ _ _ _ _ _ S2 (t1.toTr.trans t2) z.2.2⟩
    · exact z.elim
  · exact h.elim
end
section
variable {M : Type} {ρ : En} {m : M} {Q : D → M → Prop} {Z : Str → M → Prop} {nx : En → M → Prop} {rt : D → M → Prop} {bk ct : En → M → Prop} {ex : Str → M → Prop} {ds es : List D}
theorem v_inT {i : Int} {xs : List Int} {q : D → Prop} (h : q (.bl (decide (i ∈ xs)))) : gInT (.int i) (.tup (zz xs)) q := ⟨xs, rfl, h⟩
theorem v_getC {kvs : List (Int × Int)} {te tf : DT M} (h : te ρ m (fun x m1 => tf ρ m1 (fun y m2 => kGC kvs Q x y m2) Z) Z) : dGetC kvs te tf ρ m Q Z := h
theorem v_kGC {kvs : List (Int × Int)} {i j : Int} (h : Q (.int (getC kvs i j)) m) : kGC kvs Q (.int i) (.int j) m := h
theorem v_ext {i : Nat} {te : DT M} (e : ρ[i]? = some (.own ds)) (h : te ρ m (fun d m' => match d with | .lst es => D.nls es = true ∧ ds.length + es.length ≤ sizeLine ∧ nx (ρ.set i (.own (ds ++ es))) m' | _ => False) ex) : dExt i te ⟨nx, rt, bk, ct, ex⟩ ρ m := by
  unfold dExt; rw [e]; exact h
theorem v_extk {A : Prop} (n : D.nls es = true) (l : ds.length + es.length ≤ 16777216) (h : A) : D.nls es = true ∧ ds.length + es.length ≤ sizeLine ∧ A := ⟨n, small_line l, h⟩
end
end RR

/-! RX: the law's drawing state as a world -/
namespace RR
open PySem PySem.Spec PyProof.Rows L2
theorem DnA.ints_inv {s : Bool} {K : PySem.W.Frag} {F : List Addr} {G : Hp} : ∀ {vs : List V} {ns : List Int}, DnA s K F G vs (zz ns) → vs = ns.map V.int
  | _, [], h => by cases h; rfl
  | _, n :: ns, h => by
    have h : DnA s K F G _ (.int n :: zz ns) := h
    cases h with
    | cons a b =>
      cases a
      rw [DnA.ints_inv b, List.map_cons]
/-- the drawing state behind the handle 0: a dict of cells, digits and the place -/
def DrSt (N : Nat) (F : List Addr) (H : Hp) : Prop := ∃ (am ac ad : Addr) (cs ds : List Int) (n : Int), F = [am, ac, ad] ∧ am ≠ ac ∧ am ≠ ad ∧ ac ≠ ad ∧
  H am = some (.dK [(Sum.inr "cells", .ref ac), (Sum.inr "digits", .ref ad), (Sum.inr "at", .int n)]) ∧ H ac = some (.lst (cs.map V.int)) ∧ H ad = some (.lst (ds.map V.int)) ∧
  0 ≤ n ∧ n + (N : Int) ≤ 2 ^ 60 ∧ cs.length = 64 ∧ (∀ c ∈ cs, 0 ≤ c ∧ c < 2147483647) ∧ ds.length < sizeLine
def DrW : Wd where
  M := Option Nat
  Rz := fun m F H => match m with | none => F = [] | some N => DrSt N F H
  keep := fun {m F H H'} h k _ => by
    cases m with
    | none => exact h
    | some N =>
      obtain ⟨am, ac, ad, cs, ds, n, rfl, x1, x2, x3, e1, e2, e3, r⟩ := h
      exact ⟨am, ac, ad, cs, ds, n, rfl, x1, x2, x3, (k _ (by simp)).trans e1, (k _ (by simp)).trans e2, (k _ (by simp)).trans e3, r⟩
  there := fun {m F H} h a ha => by
    cases m with
    | none =>
      have h : F = [] := h
      rw [h] at ha; cases ha
    | some N =>
      obtain ⟨am, ac, ad, cs, ds, n, rfl, x1, x2, x3, e1, e2, e3, r⟩ := h
      simp only [List.mem_cons, List.not_mem_nil, or_false] at ha
      rcases ha with rfl | rfl | rfl
      · exact ⟨_, e1, fun h => h⟩
      · exact ⟨_, e2, fun h => h⟩
      · exact ⟨_, e3, fun h => h⟩
/-! ### what the state's functions promise -/
def s__law_mixed {M : Type} : DSp M := fun ds m Q Z => ∃ c k, ds = [.int c, .int k] ∧ c.natAbs < 2 ^ 70 ∧ 0 ≤ k ∧ k < 2 ^ 62 ∧ ∀ x, 0 ≤ x → x < 2 ^ 30 → Q (.int x) m
def s__law_folded {M : Type} : DSp M := fun ds m Q Z => ∃ ns, ds = [.lst (zz ns)] ∧ ns.length ≤ 63 ∧ ∀ cs : List Int, cs.length = 64 → (∀ c ∈ cs, 0 ≤ c ∧ c < 2147483647) → Q (.lst (zz cs)) m
/-- the place of the drawing state among the world's objects -/
abbrev hdl : Nat := 0
def s__law_draw : DSp (Option Nat) := fun ds m Q Z => ∃ N many, ds = [.hnd hdl, .int many] ∧ m = some (N + 1) ∧ 0 < many ∧ many.natAbs < 2 ^ 8000 ∧ ∀ x, 0 ≤ x → x < many → Q (.int x) (some N)
def s__law_begun : DSp (Option Nat) := fun ds m Q Z => ∃ ns, ds = [.lst (zz ns)] ∧ ns.length ≤ 63 ∧ m = none ∧ Q (.hnd hdl) (some (2 ^ 50))
def s0__law_draw : DSp (Option Nat) := fun ds m Q Z => ∃ N many, ds = [.hnd 0, .int many] ∧ m = some (N + 1) ∧ 0 < many ∧ many.natAbs < 2 ^ 8000 ∧ ∀ x, 0 ≤ x → x < many → Q (.int x) (some N)
def s0__law_begun : DSp (Option Nat) := fun ds m Q Z => ∃ ns, ds = [.lst (zz ns)] ∧ ns.length ≤ 63 ∧ m = none ∧ Q (.hnd 0) (some (2 ^ 50))
/-- the same, for a call by hand -/
def hMix : Sp := fun vs H Q _ => ∃ c k, vs = [.int c, .int k] ∧ c.natAbs < 2 ^ 70 ∧ 0 ≤ k ∧ k < 2 ^ 62 ∧ ∀ x H', 0 ≤ x → x < 2 ^ 30 → Same H H' → Q (.int x) H'
def hFold (K : PySem.W.Frag) : Sp := fun vs H Q _ => ∃ (a : Addr) (ns : List Int), vs = [.ref a] ∧ SqL K H a (ns.map V.int) ∧ ns.length ≤ 63 ∧ ∀ (cs : List Int) p H', Same H H' → H p = none → H' p = some (.lst (cs.map V.int)) → cs.length = 64 → (∀ c ∈ cs, 0 ≤ c ∧ c < 2147483647) → Q (.ref p) H'
section
variable {P : Program} {w : World} {K : PySem.W.Frag} {mg : Str → Option Value} {base : Heap} {k : Nat} {f : Addr} {fd : FuncData} {ps : List Str}
theorem hMix_of (F : FnG P w K mg base (L2.CX P w) k f fd ps (spD K mg W0 s__law_mixed)) : FnG P w K mg base (L2.CX P w) k f fd ps hMix := by
  refine F.imp fun vs H Q E h => ?_
  obtain ⟨c, n, rfl, h1, h2, h3, q⟩ := h
  refine ⟨[], (), [.int c, .int n], fun d _ => ∃ x, d = .int x ∧ 0 ≤ x ∧ x < 2 ^ 30, fun _ _ => False, rfl, .cons (.int c) (.cons (.int n) .nil), ⟨c, n, rfl, h1, h2, h3, fun x a b => ⟨x, rfl, a, b⟩⟩, fun v H' F' d m' _ _ _ kp dn e => ?_, fun _ _ _ _ _ _ _ _ _ _ z => z.elim⟩
  obtain ⟨x, rfl, a, b⟩ := e
  cases dn
  exact q x H' a b fun a o e => kp a o (by simp) e
theorem hFold_of (F : FnG P w K mg base (L2.CX P w) k f fd ps (spD K mg W0 s__law_folded)) : FnG P w K mg base (L2.CX P w) k f fd ps (hFold K) := by
  refine F.imp fun vs H Q E h => ?_
  obtain ⟨a, ns, rfl, hs, hl, q⟩ := h
  refine ⟨[], (), [.lst (zz ns)], fun d _ => ∃ cs : List Int, d = .lst (zz cs) ∧ cs.length = 64 ∧ ∀ c ∈ cs, 0 ≤ c ∧ c < 2147483647, fun _ _ => False, rfl, .cons (.lst (Ls.mono (s := false) (fun a o e => vw_iff.mpr ⟨e, by simp⟩) (show Ls false K H a _ from hs)) (ints_dn ns)) .nil, ⟨ns, rfl, hl, fun cs a b => ⟨cs, rfl, a, b⟩⟩, fun v H' F' d m' _ _ _ kp dn e => ?_, fun _ _ _ _ _ _ _ _ _ _ z => z.elim⟩
  obtain ⟨cs, rfl, c1, c2⟩ := e
  cases dn with
  | lst g r =>
    rename_i p xs
    have g : sv H (· ∈ F') H' p = some (.lst xs) := g
    obtain ⟨e1, e2⟩ := vw_iff.mp g
    rcases e2 with e2 | e2
    · exact e2.elim
    · rw [r.ints_inv] at e1
      exact q cs p H' (fun a o e => kp a o (by simp) e) e2.2.2 e1 c1 c2
end
abbrev drV (ac ad : Addr) (n : Int) : List (L2.Key × V) := [(Sum.inr "cells", .ref ac), (Sum.inr "digits", .ref ad), (Sum.inr "at", .int n)]
theorem drV_put {ac ad : Addr} {n k : Int} : putK (drV ac ad n) (Sum.inr "at") (.int k) = drV ac ad k := rfl
theorem drV_cells {ac ad : Addr} {n : Int} : valV (drV ac ad n) (Sum.inr "cells") = some (.ref ac) := rfl
theorem drV_digits {ac ad : Addr} {n : Int} : valV (drV ac ad n) (Sum.inr "digits") = some (.ref ad) := rfl
theorem drV_at {ac ad : Addr} {n : Int} : valV (drV ac ad n) (Sum.inr "at") = some (.int n) := rfl
abbrev N__law_draw : List Str := ["_law_m", "_law_many", "_law_k", "_law_at", "_law_cell"]
abbrev N__law_begun : List Str := ["_law_script", "_law_m"]
end RR

/-! RY: the readings of the drawing state's two functions -/
namespace RR
open PySem PySem.Spec PyProof.Rows L2
section
variable {K : PySem.W.Frag} {E : L2.St → XK}
abbrev tLen (K : PySem.W.Frag) (t : TA) : TE := tCB (fun xs H Q => ∃ p ys, xs = [V.ref p] ∧ (SqL K H p ys ∨ SqT K H p ys) ∧ Q (V.int ys.length) H) t
abbrev tFld (i : Nat) (x : Str) : TE := tDGet (tVar i) (tC (V.str x))
abbrev tMod (a b : TE) : TE := tOp (rI (fun _ j => j ≠ 0) fun i j => V.int (i.fmod j)) a b
abbrev tDiv (a b : TE) : TE := tOp (rI Nd fun i j => V.int (i.fdiv j)) a b
abbrev tAdd (a b : TE) : TE := tOp (rI0 fun i j => V.int (i + j)) a b
abbrev t_last (K : PySem.W.Frag) (E : L2.St → XK) : TE :=
  tMod (tCallSD hMix [] E (tCons (tCallSD hMix [] E (tCons (tAdd (tOp (rIxL K) (tFld 0 "cells") (tMod (tVar 2) (tC (V.int 64)))) (tOp (rI IntMulOk fun i j => V.int (i * j)) (tC (V.int 31)) (tDiv (tVar 2) (tC (V.int 64))))) (tCons (tVar 2) tNil)))
    (tCons (tAdd (tVar 2) (tC (V.int 7))) tNil))) (tVar 1)
abbrev t_draw (K : PySem.W.Frag) (E : L2.St → XK) : TS :=
  tSeq (tAsg (tFld 0 "at") (gName 2))
    (tSeq (sDPut (tVar 0) (tC (V.str "at")) (tAdd (tVar 2) (tC (V.int 1))))
    (tSeq (tIfS (tTest (tOp (rNeD K) (tFld 0 "digits") (tLst tNil)))
      (tSeq (tAsg (tMod (tVar 2) (tLen K (tCons (tFld 0 "digits") tNil))) (gName 3))
      (tSeq (tAsg (tOp (rIxL K) (tFld 0 "digits") (tVar 3)) (gName 4))
        (tIfS (tTest (tOp (rIn K true) (tVar 4) (tTup (tCons (tC (V.int 0)) (tCons (tUn (rU fun i => V.int (-i)) (tC (V.int 1))) tNil)))))
          (tSeq (tAsg (tDiv (tVar 4) (tVar 1)) (gSub (tFld 0 "digits") (tVar 3) rSetL)) (tRet (tMod (tVar 4) (tVar 1))))
          tNext)))
      tNext)
    (tRet (t_last K E))))
theorem rd_last {am ac ad : Addr} {cs : List Int} {n many : Int} {y3 y4 : Option V} {Q : VK} {H : Hp} (e1 : H am = some (.dK (drV ac ad (n + 1)))) (e2 : H ac = some (.lst (cs.map V.int))) (n0 : 0 ≤ n) (n1 : n < 2 ^ 60)
    (lc : cs.length = 64) (bc : ∀ c ∈ cs, 0 ≤ c ∧ c < 2147483647) (hp : 0 < many) (fin : ∀ H' x, Same H H' → 0 ≤ x → x < many → Q (.int x) H') :
    t_last K E [some (.ref am), some (.int many), some (.int n), y3, y4] H Q := by
  have k0 : 0 ≤ n.fmod 64 := Int.fmod_nonneg_of_pos _ (by decide)
  have k1 : n.fmod 64 < 64 := Int.fmod_lt_of_pos _ (by decide)
  have ci : (n.fmod 64).toNat < cs.length := by omega
  obtain ⟨b0, b1⟩ := bc _ (List.getElem_mem ci)
  have g : atI (cs.map V.int) (n.fmod 64) = some (.int cs[(n.fmod 64).toNat]) := by
    rw [atI_at k0 (by rw [List.length_map, lc]; exact k1), List.getElem_map]
  have d0 : n.fdiv 64 = n / 64 := fdiv_pos (by decide)
  refine ⟨.ref am, rfl, am, .ref ac, rfl, DGet.k (k := Sum.inr "cells") e1,   .int n, rfl, n, 64, rfl, rfl, (by decide : (64 : Int) ≠ 0), ac, _, _, _, rfl, rfl, .inl (.inl e2), g,
    .int n, rfl, n, 64, rfl, rfl, nd_small (b := 8) (by decide) (bd_lit (by decide)), 31, n.fdiv 64, rfl, rfl, mulok (a := 5) (b := 62) (bd_lit (by decide)) ?_, _, _, rfl, rfl, .int n, rfl, _, n, rfl, ?_, n0, by omega, fun x H1 h0 h1 s1 =>
    ⟨.int n, rfl, n, 7, rfl, rfl, x, n + 7, rfl, ?_, by omega, by omega, fun y H2 h2 h3 s2 => ⟨.int many, rfl, y, many, rfl, rfl, by omega, fin H2 _ (s1.trans s2) (Int.fmod_nonneg_of_pos _ hp) (Int.fmod_lt_of_pos _ hp)⟩⟩⟩
  · rw [d0]; unfold bd; omega
  · rw [d0]; omega
  · omega
theorem rd_draw {mg : Str → Option Value} {vs : List V} {H : Hp} {Q : VK} {X : XK} (h : spD K mg DrW s0__law_draw vs H Q X) : t_draw K E { nx := fun _ H' => Q .non H', rt := Q } (L2.start N__law_draw vs) H := by
  obtain ⟨F0, m, ds, Qd, Zd, rz, dv, ⟨N, many, rfl, rfl, hp, hb, q⟩, hq, _⟩ := h
  obtain ⟨am, ac, ad, cs, dg, n, rfl, x1, x2, x3, e1, e2, e3, n0, nN, lc, bc, ld⟩ := rz
  cases dv with
  | cons d1 dv =>
  cases dv with
  | cons d2 dv =>
  cases dv
  cases d1 with
  | hnd e =>
  cases d2
  cases (Option.some.inj e)
  have e1 : H am = some (.dK (drV ac ad n)) := e1
  have nN' : n + N + 1 ≤ 2 ^ 60 := by omega
  have fin : ∀ (H' : Hp) (dg' : List Int) x, H' am = some (.dK (drV ac ad (n + 1))) → H' ac = some (.lst (cs.map V.int)) → H' ad = some (.lst (dg'.map V.int)) → dg'.length = dg.length → (∀ a o, a ∉ [am, ac, ad] → H a = some o → H' a = some o) → 0 ≤ x → x < many → Q (.int x) H' :=
    fun H' dg' x f1 f2 f3 l kp h0 h1 => hq (.int x) H' [am, ac, ad] (.int x) (some N) ⟨am, ac, ad, cs, dg', n + 1, rfl, x1, x2, x3, f1, f2, f3, by omega, by omega, lc, bc, by omega⟩ ⟨[], by simp⟩ (fun a h z => absurd h z) kp (.int x) (q x h0 h1)
  refine ⟨.ref am, rfl, am, .int n, rfl, DGet.k (k := Sum.inr "at") e1, .int n, rfl, n, 1, rfl, rfl, .ref am, rfl, am, upd H am (.dK (drV ac ad (n + 1))), rfl, DPut.k (k := Sum.inr "at") e1 (lt_line (show 3 < 16777216 by decide)), ?_⟩
  have f1 : upd H am (.dK (drV ac ad (n + 1))) am = some (.dK (drV ac ad (n + 1))) := upd_same
  have f2 : upd H am (.dK (drV ac ad (n + 1))) ac = some (.lst (cs.map V.int)) := by rw [upd_ne x1.symm]; exact e2
  have f3 : upd H am (.dK (drV ac ad (n + 1))) ad = some (.lst (dg.map V.int)) := by rw [upd_ne x2.symm]; exact e3
  have kp : ∀ a o, a ∉ [am, ac, ad] → H a = some o → upd H am (.dK (drV ac ad (n + 1))) a = some o := fun a o z e => by
    rw [upd_ne (fun q => z (by rw [q]; simp))]; exact e
  generalize upd H am (.dK (drV ac ad (n + 1))) = H1 at f1 f2 f3 kp ⊢
  have last : ∀ (H' : Hp) (y3 y4 : Option V), Same H1 H' → t_last K E [some (.ref am), some (.int many), some (.int n), y3, y4] H' Q := fun H' y3 y4 s =>
    rd_last (s _ _ f1) (s _ _ f2) n0 (by omega) lc bc hp fun H2 x s2 h0 h1 => fin H2 dg x (s2 _ _ (s _ _ f1)) (s2 _ _ (s _ _ f2)) (s2 _ _ (s _ _ f3)) rfl (fun a o z e => s2 _ _ (s _ _ (kp a o z e))) h0 h1
  refine ⟨.ref am, rfl, am, .ref ad, rfl, DGet.k (k := Sum.inr "digits") f1, Nat.zero_le _, fun p np => ?_⟩
  have s1 : Same H1 (upd H1 p (.lst [])) := fun b o z => by rw [upd_ne (fun q => by rw [q, np] at z; cases z)]; exact z
  have fp : upd H1 p (.lst []) p = some (.lst []) := upd_same
  generalize upd H1 p (.lst []) = H2 at s1 fp ⊢
  have g1 := s1 _ _ f1
  have g2 := s1 _ _ f2
  have g3 := s1 _ _ f3
  have dn : Dn true K [] H2 (.ref ad) (.lst (zz dg)) := .lst (show Ls true K H2 ad _ from g3) (ints_dn dg)
  have dn0 : Dn true K [] H2 (.ref p) (.lst (zz [])) := .lst (show Ls true K H2 p _ from fp) .nil
  refine ⟨_, _, dn.dp (n := 8) (fun _ _ h => h) (q_lst dg), dn0.dp (n := 8) (fun _ _ h => h) (q_lst []), shaped_q (q_lst dg), shaped_q (q_lst []), _, rfl, ?_⟩
  rw [py_eqv (q_lst (n := 7) dg) (q_lst []), eqv_lst]
  by_cases hd : dg = []
  · rw [decide_eq_true hd]
    exact iteF (last H2 none none s1)
  · rw [decide_eq_false hd]
    refine iteT ?_
    have l0 : 0 < dg.length := List.length_pos_iff.mpr hd
    have k0 : 0 ≤ n.fmod dg.length := Int.fmod_nonneg_of_pos _ (by omega)
    have k1 : n.fmod dg.length < dg.length := Int.fmod_lt_of_pos _ (by omega)
    have em : n.fmod ((dg.map V.int).length : Int) = n.fmod dg.length := by rw [List.length_map]
    refine ⟨.int n, rfl, .ref am, rfl, am, .ref ad, rfl, DGet.k (k := Sum.inr "digits") g1, ad, _, rfl, .inl (.inl (.inl g3)), n, _, rfl, rfl, by rw [List.length_map]; omega, ?_⟩
    show gName 3 (.int (n.fmod ((dg.map V.int).length : Int))) _ _ _
    rw [em]
    generalize n.fmod dg.length = j at k0 k1 ⊢
    obtain ⟨c, gj⟩ : ∃ c, atI (dg.map V.int) j = some (.int c) := ⟨dg[j.toNat]'(by omega), by rw [atI_at k0 (by rw [List.length_map]; exact k1), List.getElem_map]⟩
    refine ⟨.ref am, rfl, am, .ref ad, rfl, DGet.k (k := Sum.inr "digits") g1, .int j, rfl, ad, _, _, _, rfl, rfl, .inl (.inl g3), gj, .int c, rfl, 1, rfl, show 2 ≤ sizeLine from small_line (by decide), fun t nt => ?_⟩
    have s2 : Same H2 (upd H2 t (.tup [.int 0, .int (-1)])) := fun b o z => by rw [upd_ne (fun q => by rw [q, nt] at z; cases z)]; exact z
    have ft : upd H2 t (.tup [.int 0, .int (-1)]) t = some (.tup [.int 0, .int (-1)]) := upd_same
    generalize upd H2 t (.tup [.int 0, .int (-1)]) = H3 at s2 ft ⊢
    refine ⟨t, _, rfl, .inr (.inl (.inl ft)), rfl, rfl, _, rfl, ite2 (fun z => ?_) fun z => ?_⟩
    · have nj : ixN (dg.map V.int).length j = some j.toNat := ixN_at k0 (by rw [List.length_map]; exact k1)
      refine ⟨.int c, rfl, .int many, rfl, c, many, rfl, rfl, nd_small (b := 8000) (by omega) hb, .ref am, rfl, am, .ref ad, rfl, DGet.k (k := Sum.inr "digits") (s2 _ _ g1), .int j, rfl, ad, _, j, j.toNat, rfl, rfl, s2 _ _ g3, nj,
        .int c, rfl, .int many, rfl, c, many, rfl, rfl, by omega, ?_⟩
      refine fin _ (dg.set j.toNat (c.fdiv many)) _ ?_ ?_ ?_ (List.length_set ..) (fun a o z e => ?_) (Int.fmod_nonneg_of_pos _ hp) (Int.fmod_lt_of_pos _ hp)
      · rw [upd_ne x2]; exact s2 _ _ g1
      · rw [upd_ne x3]; exact s2 _ _ g2
      · rw [upd_same, List.map_set]
      · rw [upd_ne (fun q => z (by rw [q]; simp))]; exact s2 _ _ (s1 _ _ (kp a o z e))
    · exact last H3 _ _ (s1.trans s2)
abbrev t_begun (K : PySem.W.Frag) (E : L2.St → XK) : TS :=
  tSeq (tAsg (tDisp [(tC (V.str "cells"), tCallSD (hFold K) [] E (tCons (tVar 0) tNil)), (tC (V.str "digits"), tLst tNil), (tC (V.str "at"), tC (V.int 0))]) (gName 1))
    (tSeq (tIfS (tAnd (tTest (tOp (rNeD K) (tVar 0) (tLst tNil))) (tTest (tOp rEq (tMod (tOp (rIxL K) (tVar 0) (tC (V.int 0))) (tC (V.int 2))) (tC (V.int 1)))))
      (sDPut (tVar 1) (tC (V.str "digits")) (tOp rCat (tLst (tCons (tDiv (tOp (rIxL K) (tVar 0) (tC (V.int 0))) (tC (V.int 2))) tNil)) (tSl (rSlL K) (tVar 0) (tPart (tC (V.int 1))) tNoPart)))
      tNext)
    (tRet (tVar 1)))
theorem same_new {H : Hp} {p : Addr} {o : HO} (n : H p = none) : Same H (upd H p o) := fun b x z => by rw [upd_ne (fun q => by rw [q, n] at z; cases z)]; exact z
theorem ne_none {H : Hp} {p q : Addr} {o : HO} (e : H p = some o) (n : H q = none) : p ≠ q := fun z => by rw [z, n] at e; cases e
theorem none_back {H H' : Hp} {a : Addr} (s : Same H H') (n : H' a = none) : H a = none := by
  cases e : H a with
  | none => rfl
  | some o => rw [s _ _ e] at n; cases n
theorem rd_begun {mg : Str → Option Value} {vs : List V} {H : Hp} {Q : VK} {X : XK} (h : spD K mg DrW s0__law_begun vs H Q X) : t_begun K E { nx := fun _ H' => Q .non H', rt := Q } (L2.start N__law_begun vs) H := by
  obtain ⟨F0, m, ds, Qd, Zd, rz, dv, ⟨ns, rfl, hl, rfl, q⟩, hq, _⟩ := h
  have rz : F0 = [] := rz
  subst rz
  cases dv with
  | cons d1 dv =>
  cases dv
  cases d1 with
  | lst hs hr =>
  rename_i a xs
  have hx := hr.ints_inv
  subst hx
  have hs : SqL K H a (ns.map V.int) := Ls.mono (s := false) (fun _ _ => wv_le) hs
  refine fun p np => ⟨.ref a, rfl, a, ns, rfl, (same_new np).seq hs, hl, fun cs c H1 s1 nc ec lc bc => ⟨Nat.zero_le _, fun g ng => ⟨?_, [(Sum.inr "cells", .ref c), (Sum.inr "digits", .ref g), (Sum.inr "at", .int 0)], rfl, (show 3 ≤ 15 by decide), ?_⟩⟩⟩
  · exact same_new ng _ _ (s1 _ _ upd_same)
  show tSeq _ _ _ [some (.ref a), some (.ref p)] (upd (upd H1 g (.lst [])) p (.dK (drV c g 0)))
  have npc : p ≠ c := fun z => by rw [← z, upd_same] at nc; cases nc
  have ncH : H c = none := by rw [upd_ne npc.symm] at nc; exact nc
  have ep1 : H1 p = some (.dK []) := s1 _ _ upd_same
  have npg : p ≠ g := ne_none ep1 ng
  have ncg : c ≠ g := ne_none ec ng
  have sH : ∀ b o, H b = some o → H1 b = some o := fun b o e => s1 _ _ (same_new np _ _ e)
  have ngH : H g = none := none_back sH ng
  have f1 : upd (upd H1 g (.lst [])) p (.dK (drV c g 0)) p = some (.dK (drV c g 0)) := upd_same
  have f2 : upd (upd H1 g (.lst [])) p (.dK (drV c g 0)) c = some (.lst (cs.map V.int)) := by rw [upd_ne npc.symm, upd_ne ncg]; exact ec
  have f3 : upd (upd H1 g (.lst [])) p (.dK (drV c g 0)) g = some (.lst []) := by rw [upd_ne npg.symm, upd_same]
  have s2 : Same H (upd (upd H1 g (.lst [])) p (.dK (drV c g 0))) := fun b o e => by
    rw [upd_ne (fun z => by rw [z, np] at e; cases e), upd_ne (fun z => by rw [z, ngH] at e; cases e)]
    exact sH b o e
  generalize upd (upd H1 g (.lst [])) p (.dK (drV c g 0)) = H2 at f1 f2 f3 s2 ⊢
  have fin : ∀ (H' : Hp) (d : Addr) (dg : List Int), H d = none → d ≠ p → d ≠ c → H' p = some (.dK (drV c d 0)) → H' c = some (.lst (cs.map V.int)) → H' d = some (.lst (dg.map V.int)) → dg.length < sizeLine → Same H H' → Q (.ref p) H' :=
    fun H' d dg nd n1 n2 e1 e2 e3 ld s => hq (.ref p) H' [p, c, d] (.hnd 0) (some (2 ^ 50)) ⟨p, c, d, cs, dg, 0, rfl, npc, n1.symm, n2.symm, e1, e2, e3, by decide, by decide, lc, bc, ld⟩ ⟨[p, c, d], rfl⟩
      (fun x hx _ => by simp only [List.mem_cons, List.not_mem_nil, or_false] at hx; rcases hx with rfl | rfl | rfl <;> assumption) (fun x o _ e => s x o e) (.hnd rfl) q
  have hs2 : SqL K H2 a (ns.map V.int) := s2.seq hs
  refine ⟨.ref a, rfl, Nat.zero_le _, fun t nt => ?_⟩
  have s3 := same_new (o := .lst []) nt
  have et : upd H2 t (.lst []) t = some (.lst []) := upd_same
  generalize upd H2 t (.lst []) = H3 at s3 et ⊢
  have dn : Dn false K [] H3 (.ref a) (.lst (zz ns)) := .lst (show Ls false K H3 a _ from s3.seq hs2) (ints_dn ns)
  have dn0 : Dn true K [] H3 (.ref t) (.lst (zz [])) := .lst (show Ls true K H3 t _ from et) .nil
  refine ⟨_, _, dn.dp (n := 8) (fun _ _ h => h) (q_lst ns), dn0.dp (n := 8) (fun _ _ h => h) (q_lst []), shaped_q (q_lst ns), shaped_q (q_lst []), _, rfl, ?_⟩
  rw [py_eqv (q_lst (n := 7) ns) (q_lst []), eqv_lst]
  have skip : ∀ H', Same H2 H' → Q (.ref p) H' := fun H' s => fin H' g [] ngH npg.symm ncg.symm (s _ _ f1) (s _ _ f2) (s _ _ f3) (lt_line (show 0 < 16777216 by decide)) (s2.trans s)
  by_cases hn : ns = []
  · rw [decide_eq_true hn]
    exact iteF ⟨.ref p, rfl, skip _ s3⟩
  · rw [decide_eq_false hn]
    refine iteT ?_
    obtain ⟨x, r, rfl⟩ := List.exists_cons_of_ne_nil hn
    have hs3 := s3.seq hs2
    have g0 : atI ((x :: r).map V.int) 0 = some (.int x) := atI_nat (j := 0) rfl
    refine ⟨.ref a, rfl, a, _, 0, _, rfl, rfl, hs3, g0, x, 2, rfl, rfl, (by decide : (2 : Int) ≠ 0), rfl, _, rfl, ite2 (fun _ => ?_) fun _ => ⟨.ref p, rfl, skip _ s3⟩⟩
    refine ⟨.ref a, rfl, a, _, 0, _, rfl, rfl, hs3, g0, x, 2, rfl, rfl, nd_small (b := 8) (by decide) (bd_lit (by decide)), show 1 ≤ sizeLine from small_line (by decide), fun u nu => ?_⟩
    have s4 := same_new (o := .lst [.int (x.fdiv 2)]) nu
    have eu : upd H3 u (.lst [.int (x.fdiv 2)]) u = some (.lst [.int (x.fdiv 2)]) := upd_same
    generalize upd H3 u (.lst [.int (x.fdiv 2)]) = H4 at s4 eu ⊢
    refine ⟨.ref a, rfl, 1, rfl, a, _, rfl, s4.seq hs3, fun v nv => ?_⟩
    have s5 := same_new (o := .lst (cutV ((x :: r).map V.int) (some 1) none)) nv
    have ev : upd H4 v (.lst (cutV ((x :: r).map V.int) (some 1) none)) v = some (.lst (cutV ((x :: r).map V.int) (some 1) none)) := upd_same
    generalize upd H4 v (.lst (cutV ((x :: r).map V.int) (some 1) none)) = H5 at s5 ev ⊢
    have lcut := cutV_length ((x :: r).map V.int) (some 1) none
    rw [List.length_map] at lcut
    refine ⟨u, v, _, _, rfl, rfl, s5 _ _ eu, ev, small_line (by rw [List.length_singleton]; omega), fun y ny => ?_⟩
    obtain ⟨more, em, lm⟩ : ∃ more : List Int, cutV ((x :: r).map V.int) (some 1) none = more.map V.int ∧ more.length ≤ 63 := by
      refine ⟨_, show List.take _ (List.drop _ (List.map V.int (x :: r))) = _ by rw [← List.map_drop, ← List.map_take], ?_⟩
      rw [List.length_take, List.length_drop]; omega
    rw [em]
    have s6 := same_new (o := .lst ([V.int (x.fdiv 2)] ++ more.map V.int)) ny
    have ey : upd H5 y (.lst ([V.int (x.fdiv 2)] ++ more.map V.int)) y = some (.lst ([V.int (x.fdiv 2)] ++ more.map V.int)) := upd_same
    have sA := ((s3.trans s4).trans s5)
    have nyH : H2 y = none := none_back sA ny
    generalize upd H5 y (.lst ([V.int (x.fdiv 2)] ++ more.map V.int)) = H6 at s6 ey ⊢
    have sB := sA.trans s6
    have nyp : y ≠ p := (ne_none f1 nyH).symm
    have nyc : y ≠ c := (ne_none f2 nyH).symm
    refine ⟨.ref p, rfl, p, upd H6 p (.dK (drV c y 0)), rfl, DPut.k (k := Sum.inr "digits") (sB _ _ f1) (lt_line (show 3 < 16777216 by decide)), .ref p, rfl, ?_⟩
    refine fin _ y (x.fdiv 2 :: more) (none_back s2 nyH) nyp nyc upd_same ?_ ?_ (lt_line (by rw [List.length_cons]; omega)) fun b o e => ?_
    · rw [upd_ne npc.symm]; exact sB _ _ f2
    · rw [upd_ne nyp]; exact ey
    · rw [upd_ne (fun z => by rw [z, np] at e; cases e)]; exact sB _ _ (s2 _ _ e)
end
/-! ### the parts put together -/
theorem okK_len : ∀ {ks : List Bool} {ds : List D}, okK ks ds → ds.length = ks.length
  | [], [], _ => rfl
  | [], _ :: _, h => h.elim
  | _ :: _, [], h => h.elim
  | _ :: _, _ :: _, h => congrArg (· + 1) (okK_len h.2)
section
variable {P : Program} {w : World} {K : PySem.W.Frag} {mg : Str → Option Value} {base : Heap} {W : Wd}
theorem Dfn.go {g x : Str} {st : Stmt} {N ps : List Str} {k : Nat} {sp : DSp W.M} {t : DS W.M} (F : Dfn K mg g x st ps) (ks : List Bool) (S : FnScope N ps (defScope st)) (body : BodyJ P w K mg base W k N x st t)
    (vc : ∀ ds m Q Z, sp ds m Q Z → okK ks ds ∧ t { nx := fun _ m' => Q .non m', rt := Q, ex := Z } (st0 ks ds N.length) m) (hk : ks.length = ps.length := by rfl) (hn : ps.length ≤ N.length := by decide) : FD P w K mg base W (k + 1) g [] sp :=
  F.fd ks S body (fun ds m Q Z h => by rw [okK_len (vc ds m Q Z h).1, hk]) vc hn
/-- what a law asks of itself -/
def s_law : DSp (Option Nat) := fun ds m Q Z => ∃ ns : List Int, ds = [.lst (zz ns)] ∧ ns.length ≤ 63 ∧ m = none ∧ ∀ m', Q (.bl true) m'
theorem law_go {st : Stmt} {f : Addr} {fd : FuncData} {N ps : List Str} {k : Nat} {t : DS (Option Nat)} (F : Fun K "law" "law" st f fd) (S : FnScope N ps (defScope st)) (body : BodyJ P w K mg base DrW k N "law" st t)
    (vc : ∀ ds m Q Z, s_law ds m Q Z → okK [true] ds ∧ t { nx := fun _ m' => Q .non m', rt := Q, ex := Z } (st0 [true] ds N.length) m) (hk : ps.length = 1 := by rfl) (hn : ps.length ≤ N.length := by decide) : FnG P w K mg base (L2.CX P w) (k + 1) f fd ps (spLaw K) :=
  law_of (W := DrW) (m0 := none) (sp := s_law) (fn_data (W := DrW) [true] F S (fun ds m Q Z h => (okK_len (vc ds m Q Z h).1).trans hk.symm) hn (body f) vc) (fun _ => (rfl : ([] : List Addr) = [])) fun ns hl => ⟨ns, rfl, hl, rfl, fun _ => rfl⟩
end
end RR

/-! VK: plain lists: trailing noughts off, nearest rests -/
namespace RR
open PySem PySem.Spec PyProof.Rows L2
/-- without the noughts at the end -/
def strip (xs : List Int) : List Int := (xs.reverse.dropWhile (· == 0)).reverse
theorem strip_nil : strip [] = [] := rfl
theorem strip_snoc (xs : List Int) (a : Int) : strip (xs ++ [a]) = if a = 0 then strip xs else xs ++ [a] := by
  unfold strip
  rw [List.reverse_append, List.reverse_singleton, List.singleton_append, List.dropWhile_cons]
  by_cases h : a = 0
  · rw [if_pos h, if_pos (by simp [h])]
  · rw [if_neg h, if_neg (by simp [h]), List.reverse_cons, List.reverse_reverse]
theorem strip_ind {P : List Int → Prop} (h0 : P []) (h1 : ∀ xs a, P xs → P (xs ++ [a])) : ∀ xs, P xs := fun xs => by
  have : ∀ ys : List Int, P ys.reverse := fun ys => by
    induction ys with
    | nil => exact h0
    | cons y ys ih => rw [List.reverse_cons]; exact h1 _ _ ih
  have := this xs.reverse
  rwa [List.reverse_reverse] at this
theorem strip_len (xs : List Int) : (strip xs).length ≤ xs.length := by
  induction xs using strip_ind with
  | h0 => exact Nat.le_refl _
  | h1 xs a ih =>
    rw [strip_snoc]
    split
    · rw [List.length_append]; omega
    · exact Nat.le_refl _
theorem strip_mem {xs : List Int} {x : Int} : x ∈ strip xs → x ∈ xs := by
  induction xs using strip_ind with
  | h0 => exact id
  | h1 xs a ih =>
    rw [strip_snoc]
    split
    · exact fun h => List.mem_append_left _ (ih h)
    · exact id
/-- done: no nought at the end -/
def done (xs : List Int) : Prop := strip xs = xs
theorem strip_done (xs : List Int) : strip (strip xs) = strip xs := by
  induction xs using strip_ind with
  | h0 => rfl
  | h1 xs a ih =>
    by_cases h : a = 0
    · rw [strip_snoc, if_pos h]; exact ih
    · rw [strip_snoc, if_neg h, strip_snoc, if_neg h]
theorem take_snoc {xs : List Int} {n : Nat} (h : n < xs.length) : xs.take (n + 1) = xs.take n ++ [xs[n]] := by
  rw [List.take_add_one, List.getElem?_eq_getElem h]; rfl
/-- the loop's step: the last one of the first n is nought -/
theorem strip_step {xs : List Int} {n : Nat} (h : n < xs.length) (z : xs[n] = 0) : strip (xs.take (n + 1)) = strip (xs.take n) := by
  rw [take_snoc h, strip_snoc, if_pos z]
theorem strip_stop {xs : List Int} {n : Nat} (h : n < xs.length) (z : xs[n] ≠ 0) : strip (xs.take (n + 1)) = xs.take (n + 1) := by
  rw [take_snoc h, strip_snoc, if_neg z]
/-- put on: a function that keeps just nought nought -/
theorem strip_map {f : Int → Int} (h : f 0 = 0) (xs : List Int) : strip (xs.map f) = strip ((strip xs).map f) := by
  induction xs using strip_ind with
  | h0 => rfl
  | h1 xs a ih =>
    by_cases e : a = 0
    · rw [strip_snoc, if_pos e, List.map_append, List.map_singleton, strip_snoc, e, h, if_pos rfl]; exact ih
    · rw [strip_snoc xs a, if_neg e]
/-- the nearest rest -/
def near (x m : Int) : Int := if 2 * x.fmod m > m then x.fmod m - m else x.fmod m
theorem near_idem {x m : Int} (h : 0 < m) : near (near x m) m = near x m := by
  have h0 := Int.fmod_nonneg_of_pos x h
  have h1 := Int.fmod_lt_of_pos x h
  unfold near
  generalize x.fmod m = r at h0 h1
  by_cases c : 2 * r > m
  · rw [if_pos c]
    have e : (r - m).fmod m = r := by
      rw [fmod_pos (by omega), show r - m = r + m * (-1) by omega, Int.add_mul_emod_self_left]; exact Int.emod_eq_of_lt h0 h1
    rw [e, if_pos c]
  · rw [if_neg c]
    have e : r.fmod m = r := by rw [fmod_pos (by omega)]; exact Int.emod_eq_of_lt h0 h1
    rw [e, if_neg c]
theorem near0 {m : Int} (h : 0 < m) : near 0 m = 0 := by
  unfold near
  rw [Int.zero_fmod, if_neg (by omega)]
end RR

/-! RS: stepping through a data reading by rules -/
namespace RR
open PySem PySem.Spec PyProof.Rows L2
section
variable {M : Type} {ρ : En} {m : M} {Q : D → M → Prop} {QL : List D → M → Prop} {QB : Bool → M → Prop} {QO : Option Int → M → Prop} {Z ex : Str → M → Prop} {nx bk ct : En → M → Prop} {rt : D → M → Prop} {t u w : DT M} {ta : DTA M} {tt tu : DTT M} {s1 s2 : DS M} {q : D → Prop} {i j : Int} {d x y : D} {xs ys : List Int} {ds es : List D}
theorem v_then (h : s1 ⟨s2 ⟨nx, rt, bk, ct, ex⟩, rt, bk, ct, ex⟩ ρ m) : dThen s1 s2 ⟨nx, rt, bk, ct, ex⟩ ρ m := h
theorem v_next (h : nx ρ m) : dNext ⟨nx, rt, bk, ct, ex⟩ ρ m := h
theorem v_set {i : Nat} (h : t ρ m (fun d m' => nx (ρ.set i (.val d)) m') ex) : dSet i t ⟨nx, rt, bk, ct, ex⟩ ρ m := h
def kO (ρ : En) (i : Nat) (nx : En → M → Prop) : D → M → Prop := fun d m' => match d with | .lst ds => D.nls ds = true ∧ nx (ρ.set i (.own ds)) m' | _ => False
theorem v_setO {i : Nat} (h : t ρ m (kO ρ i nx) ex) : dSetO i t ⟨nx, rt, bk, ct, ex⟩ ρ m := h
theorem v_kO {i : Nat} (n : D.nls ds = true) (h : nx (ρ.set i (.own ds)) m) : kO ρ i nx (.lst ds) m := ⟨n, h⟩
theorem v_ret (h : t ρ m rt ex) : dRet t ⟨nx, rt, bk, ct, ex⟩ ρ m := h
theorem v_drop (h : t ρ m (fun _ m' => nx ρ m') ex) : dDrop t ⟨nx, rt, bk, ct, ex⟩ ρ m := h
theorem v_ite (h : tt ρ m (fun b m1 => if b = true then s1 ⟨nx, rt, bk, ct, ex⟩ ρ m1 else s2 ⟨nx, rt, bk, ct, ex⟩ ρ m1) ex) : dIte tt s1 s2 ⟨nx, rt, bk, ct, ex⟩ ρ m := h
theorem v_ifT {A B : Prop} (h : A) : if true = true then A else B := by rw [if_pos rfl]; exact h
theorem v_ifF {A B : Prop} (h : B) : if false = true then A else B := by rw [if_neg Bool.false_ne_true]; exact h
theorem v_ifd {p : Prop} [Decidable p] {A B : Prop} (h : p → A) (h' : ¬ p → B) : if decide p = true then A else B := by
  by_cases e : p
  · rw [if_pos (decide_eq_true e)]; exact h e
  · rw [if_neg (by simpa using e)]; exact h' e
theorem v_ifn {p : Prop} [Decidable p] {A B : Prop} (h : ¬ p → A) (h' : p → B) : if (!decide p) = true then A else B := by
  by_cases e : p
  · rw [if_neg (by simpa using e)]; exact h' e
  · rw [if_pos (by simpa using e)]; exact h e
theorem v_if {b : Bool} {A B : Prop} (h : b = true → A) (h' : b = false → B) : if b = true then A else B := by
  cases b with
  | true => rw [if_pos rfl]; exact h rfl
  | false => rw [if_neg Bool.false_ne_true]; exact h' rfl
theorem v_var {i : Nat} (e : ρ[i]? = some (.val d)) (h : Q d m) : dVar i ρ m Q Z := by unfold dVar; rw [e]; exact h
theorem v_bor {i : Nat} (e : ρ[i]? = some (.bor d)) (h : Q d m) : dBor i ρ m Q Z := by unfold dBor; rw [e]; exact h
theorem v_own {i : Nat} (e : ρ[i]? = some (.own ds)) (h : Q (.lst ds) m) : dOwn i ρ m Q Z := by unfold dOwn; rw [e]; exact h
theorem v_c (h : Q d m) : dC d ρ m Q Z := h
theorem v_nil (h : QL [] m) : dNil ρ m QL Z := h
theorem v_cons (h : t ρ m (fun d m1 => ta ρ m1 (fun ds m2 => QL (d :: ds) m2) Z) Z) : dCons t ta ρ m QL Z := h
theorem v_tup (h : ta ρ m (fun ds m1 => ds.length ≤ sizeLine ∧ Q (.tup ds) m1) Z) : dTup ta ρ m Q Z := h
theorem v_lst (h : ta ρ m (fun ds m1 => ds.length ≤ sizeLine ∧ Q (.lst ds) m1) Z) : dLst ta ρ m Q Z := h
theorem v_sz {n : Nat} {A : Prop} (e : n ≤ 16777216) (h : A) : n ≤ sizeLine ∧ A := ⟨small_line e, h⟩
theorem v_bin {g : G2} (h : t ρ m (fun x m1 => u ρ m1 (fun y m2 => g x y fun d => Q d m2) Z) Z) : dBin g t u ρ m Q Z := h
theorem v_g0 {f : Int → Int → D} (h : q (f i j)) : g0 f (.int i) (.int j) q := h
theorem v_gII {P : Int → Int → Prop} {f : Int → Int → D} (p : P i j) (h : q (f i j)) : gII P f (.int i) (.int j) q := ⟨p, h⟩
theorem v_gIIz {f : Int → Int → D} (p : j ≠ 0) (h : q (f i j)) : gII Nz f (.int i) (.int j) q := ⟨p, h⟩
theorem v_add (h : q (.int (i + j))) : gAdd (.int i) (.int j) q := h
theorem v_addl (a : ds.length + es.length ≤ 16777216) (b : D.nls ds = true) (c : D.nls es = true) (h : q (.lst (ds ++ es))) : gAdd (.lst ds) (.lst es) q := ⟨small_line a, b, c, h⟩
theorem v_addt (a : ds.length + es.length ≤ 16777216) (b : D.nls ds = true) (c : D.nls es = true) (h : q (.tup (ds ++ es))) : gAdd (.tup ds) (.tup es) q := ⟨small_line a, b, c, h⟩
theorem v_mul (p : IntMulOk i j) (h : q (.int (i * j))) : gMul (.int i) (.int j) q := ⟨p, h⟩
theorem v_repl {k : Int} (a : 0 ≤ k) (b : ds.length * k.toNat ≤ 16777216) (hk : k < 2 ^ 63) (n : D.nls ds = true) (h : q (.lst (rep k ds))) : gMul (.lst ds) (.int k) q := ⟨by omega, hk, small_line b, n, h⟩
theorem v_eqi (h : q (.bl (decide (i = j)))) : gEq (.int i) (.int j) q := .inl ⟨q_int, q_int, h⟩
theorem v_nei (h : q (.bl (!decide (i = j)))) : gNe (.int i) (.int j) q := .inl ⟨q_int, q_int, h⟩
theorem v_eqr (h : q (.bl (decide (xs = ys)))) : gEq (.tup (zz xs)) (.tup (zz ys)) q := .inl ⟨q_row xs, q_row ys, by rw [eqv_row]; exact h⟩
theorem v_ner (h : q (.bl (!decide (xs = ys)))) : gNe (.tup (zz xs)) (.tup (zz ys)) q := .inl ⟨q_row xs, q_row ys, by rw [eqv_row]; exact h⟩
theorem v_eqr0 (h : q (.bl (decide (xs = [])))) : gEq (.tup (zz xs)) (.tup []) q := v_eqr (ys := []) h
theorem v_ner0 (h : q (.bl (!decide (xs = [])))) : gNe (.tup (zz xs)) (.tup []) q := v_ner (ys := []) h
theorem v_eql (h : q (.bl (decide (xs = ys)))) : gEq (.lst (zz xs)) (.lst (zz ys)) q := .inl ⟨q_lst xs, q_lst ys, by rw [eqv_lst]; exact h⟩
theorem v_nel (h : q (.bl (!decide (xs = ys)))) : gNe (.lst (zz xs)) (.lst (zz ys)) q := .inl ⟨q_lst xs, q_lst ys, by rw [eqv_lst]; exact h⟩
theorem v_eql0 (h : q (.bl (decide (xs = [])))) : gEq (.lst (zz xs)) (.lst []) q := v_eql (ys := []) h
theorem v_nel0 (h : q (.bl (!decide (xs = [])))) : gNe (.lst (zz xs)) (.lst []) q := v_nel (ys := []) h
theorem v_eqd (a : x.q 8 = true) (b : y.q 8 = true) (h : q (.bl (x.eqv y))) : gEq x y q := .inl ⟨a, b, h⟩
theorem v_ned (a : x.q 8 = true) (b : y.q 8 = true) (h : q (.bl (!x.eqv y))) : gNe x y q := .inl ⟨a, b, h⟩
theorem v_isN (h : q (.bl x.isN)) : gIsN x .non q := ⟨rfl, h⟩
theorem v_notN (h : q (.bl (!x.isN))) : gNotN x .non q := ⟨rfl, h⟩
/-- the place i from the front, nought behind the end -/
def nth (xs : List Int) (i : Int) : Int := xs.getD i.toNat 0
theorem nth_get {n : Nat} (h : n < xs.length) : nth xs (n : Int) = xs[n] := by unfold nth; simp [List.getD, List.getElem?_eq_getElem h]
theorem nth_mem (h0 : 0 ≤ i) (h1 : i < xs.length) : nth xs i ∈ xs := by
  obtain ⟨n, rfl⟩ := Int.eq_ofNat_of_zero_le h0
  rw [nth_get (by omega)]
  exact List.getElem_mem _
theorem atI_nth (h0 : 0 ≤ i) (h1 : i < xs.length) : atI (zz xs) i = some (.int (nth xs i)) := by
  rw [atI_ints, atI_at h0 h1]
  obtain ⟨n, rfl⟩ := Int.eq_ofNat_of_zero_le h0
  rw [nth_get (by omega)]
  rfl
theorem v_ixl {n : Bool} (h0 : 0 ≤ i) (h1 : i < xs.length) (h : q (.int (nth xs i))) : gIx n (.lst (zz xs)) (.int i) q := by
  unfold gIx; dsimp only; rw [atI_nth h0 h1]; exact ⟨fun _ => rfl, h⟩
theorem v_ixt {n : Bool} (h0 : 0 ≤ i) (h1 : i < xs.length) (h : q (.int (nth xs i))) : gIx n (.tup (zz xs)) (.int i) q := by
  unfold gIx; dsimp only; rw [atI_nth h0 h1]; exact ⟨fun _ => rfl, h⟩
theorem v_ixL {n : Bool} (e : atI ds i = some d) (nl : d.nl = true) (h : q d) : gIx n (.lst ds) (.int i) q := by
  unfold gIx; dsimp only; rw [e]; exact ⟨fun _ => nl, h⟩
theorem v_ixT {n : Bool} (e : atI ds i = some d) (nl : d.nl = true) (h : q d) : gIx n (.tup ds) (.int i) q := by
  unfold gIx; dsimp only; rw [e]; exact ⟨fun _ => nl, h⟩
theorem v_dB {g : List D → (D → Prop) → Prop} (h : ta ρ m (fun ds m1 => g ds fun d => Q d m1) Z) : dB g ta ρ m Q Z := h
theorem v_lent (h : q (.int ds.length)) : gLen [.tup ds] q := h
theorem v_lenl (h : q (.int ds.length)) : gLen [.lst ds] q := h
theorem v_lentz (h : q (.int xs.length)) : gLen [.tup (zz xs)] q := by show q (.int (zz xs).length); rw [show (zz xs).length = xs.length from List.length_map _]; exact h
theorem v_lenlz (h : q (.int xs.length)) : gLen [.lst (zz xs)] q := by show q (.int (zz xs).length); rw [show (zz xs).length = xs.length from List.length_map _]; exact h
theorem v_I1 {f : Int → Int} (h : q (.int (f i))) : gI1 f [.int i] q := h
theorem v_I2 {f : Int → Int → Int} (h : q (.int (f i j))) : gI2 f [.int i, .int j] q := h
theorem v_int (h : q (.int i)) : gInt [.int i] q := h
theorem v_seql {mk : List D → D} (n : D.nls ds = true) (h : q (mk ds)) : gSeq mk [.lst ds] q := ⟨n, h⟩
theorem v_seqt {mk : List D → D} (n : D.nls ds = true) (h : q (mk ds)) : gSeq mk [.tup ds] q := ⟨n, h⟩
theorem v_seqlz {mk : List D → D} (h : q (mk (zz xs))) : gSeq mk [.lst (zz xs)] q := ⟨nls_ints xs, h⟩
theorem v_seqtz {mk : List D → D} (h : q (mk (zz xs))) : gSeq mk [.tup (zz xs)] q := ⟨nls_ints xs, h⟩
/-! slices -/
def kSl (x : D) (l u : Option Int) (Q : D → M → Prop) (m3 : M) : Prop := match x with
  | .lst ds => D.nls ds = true ∧ Q (.lst (cutD ds l u)) m3
  | .tup ds => D.nls ds = true ∧ Q (.tup (cutD ds l u)) m3
  | _ => False
theorem v_sl {lo hi : DTO M} (h : t ρ m (fun x m1 => lo ρ m1 (fun l m2 => hi ρ m2 (fun u m3 => kSl x l u Q m3) Z) Z) Z) : dSl t lo hi ρ m Q Z := h
theorem v_kSll {l u : Option Int} (h : Q (.lst (cutD (zz xs) l u)) m) : kSl (.lst (zz xs)) l u Q m := ⟨nls_ints xs, h⟩
theorem v_kSlt {l u : Option Int} (h : Q (.tup (cutD (zz xs) l u)) m) : kSl (.tup (zz xs)) l u Q m := ⟨nls_ints xs, h⟩
theorem v_kSlL {l u : Option Int} (n : D.nls ds = true) (h : Q (.lst (cutD ds l u)) m) : kSl (.lst ds) l u Q m := ⟨n, h⟩
theorem v_kSlT {l u : Option Int} (n : D.nls ds = true) (h : Q (.tup (cutD ds l u)) m) : kSl (.tup ds) l u Q m := ⟨n, h⟩
theorem v_ono (h : QO none m) : dONone ρ m QO Z := h
def kOS (Q : Option Int → M → Prop) (d : D) (m1 : M) : Prop := match d with | .int i => Q (some i) m1 | _ => False
theorem v_oso (h : t ρ m (fun d m1 => kOS QO d m1) Z) : dOSome t ρ m QO Z := h
theorem v_kOS (h : QO (some i) m) : kOS QO (.int i) m := h
/-! tests -/
def kT (Q : Bool → M → Prop) (d : D) (m' : M) : Prop := match d with | .bl b => Q b m' | _ => False
theorem v_tst (h : t ρ m (fun d m' => kT QB d m') Z) : dTst t ρ m QB Z := h
theorem v_kT {b : Bool} (h : QB b m) : kT QB (.bl b) m := h
def kV (Q : Bool → M → Prop) (d : D) (m' : M) : Prop := match d.tr with | some b => Q b m' | none => False
theorem v_val (h : t ρ m (fun d m' => RR.kV QB d m') Z) : dVal t ρ m QB Z := h
theorem v_kVb {b : Bool} (h : QB b m) : RR.kV QB (.bl b) m := h
theorem v_kVi (h : QB (i != 0) m) : RR.kV QB (.int i) m := h
theorem v_kVt (h : QB (!ds.isEmpty) m) : RR.kV QB (.tup ds) m := h
theorem v_kVl (h : QB (!ds.isEmpty) m) : RR.kV QB (.lst ds) m := h
theorem v_and (h : tt ρ m (fun b m1 => if b = true then tu ρ m1 QB Z else QB false m1) Z) : dAnd tt tu ρ m QB Z := h
theorem v_or (h : tt ρ m (fun b m1 => if b = true then QB true m1 else tu ρ m1 QB Z) Z) : dOr tt tu ρ m QB Z := h
theorem v_not (h : tt ρ m (fun b m1 => QB (!b) m1) Z) : dNot tt ρ m QB Z := h
theorem v_yes (h : QB true m) : dYes ρ m QB Z := h
theorem v_if' (h : tt ρ m (fun b m1 => if b = true then t ρ m1 Q Z else u ρ m1 Q Z) Z) : dIf tt t u ρ m Q Z := h
def kI (T : String) (Q : D → M → Prop) (d : D) (m1 : M) : Prop := match d.ty with | some ty => Q (.bl (isiB ty T)) m1 | none => False
theorem v_isi {T : String} (h : t ρ m (fun d m1 => kI T Q d m1) Z) : dIsi T t ρ m Q Z := h
theorem v_kIii (h : Q (.bl true) m) : kI "int" Q (.int i) m := h
theorem v_kIib (h : Q (.bl false) m) : kI "bool" Q (.int i) m := h
theorem v_kItt (h : Q (.bl true) m) : kI "tuple" Q (.tup ds) m := h
theorem v_kI {T ty : String} {b : Bool} (e : d.ty = some ty) (e2 : isiB ty T = b) (h : Q (.bl b) m) : kI T Q d m := by unfold kI; rw [e]; dsimp only; rw [e2]; exact h
def kAV (A : Prop) (Q : D → M → Prop) (d : D) (m1 : M) : Prop := match d with | .bl true => A | .bl false => Q (.bl false) m1 | _ => False
theorem v_andV (h : t ρ m (fun d m1 => kAV (u ρ m1 Q Z) Q d m1) Z) : dAndV t u ρ m Q Z := by
  unfold dAndV
  refine (?_ : t ρ m _ Z)
  exact h
def kOV (A : Prop) (Q : D → M → Prop) (d : D) (m1 : M) : Prop := match d with | .bl false => A | .bl true => Q (.bl true) m1 | _ => False
theorem v_orV (h : t ρ m (fun d m1 => kOV (u ρ m1 Q Z) Q d m1) Z) : dOrV t u ρ m Q Z := h
theorem v_kAV {b : Bool} {A : Prop} (h : b = true → A) (h' : b = false → Q (.bl false) m) : kAV A Q (.bl b) m := by
  cases b with
  | true => exact h rfl
  | false => exact h' rfl
theorem v_kOV {b : Bool} {A : Prop} (h : b = false → A) (h' : b = true → Q (.bl true) m) : kOV A Q (.bl b) m := by
  cases b with
  | false => exact h rfl
  | true => exact h' rfl
def kNV (Q : D → M → Prop) (d : D) (m1 : M) : Prop := match d with | .bl b => Q (.bl (!b)) m1 | _ => False
theorem v_notV (h : t ρ m (fun d m1 => kNV Q d m1) Z) : dNotV t ρ m Q Z := h
theorem v_kNV {b : Bool} (h : Q (.bl (!b)) m) : kNV Q (.bl b) m := h
def kNeg (Q : D → M → Prop) (d : D) (m1 : M) : Prop := match d with | .int i => Q (.int (-i)) m1 | _ => False
theorem v_neg (h : t ρ m (fun d m1 => kNeg Q d m1) Z) : dNeg t ρ m Q Z := h
theorem v_kNeg (h : Q (.int (-i)) m) : kNeg Q (.int i) m := h
/-! calls, sources, comprehensions, loops -/
theorem v_call {sp : DSp M} {dds : List D} (h : ta ρ m (fun ds m1 => sp (ds ++ dds) m1 Q Z) Z) : dCall sp dds ta ρ m Q Z := h
theorem v_call0 {sp : DSp M} (h : sp ds m Q Z) : sp (ds ++ []) m Q Z := by rw [List.append_nil]; exact h
def kSeq (n : Bool) (Q : List D → M → Prop) (d : D) (m1 : M) : Prop := match d with | .lst ds | .tup ds => (n = true → D.nls ds = true) ∧ Q ds m1 | _ => False
theorem v_seq {n : Bool} (h : t ρ m (fun d m1 => kSeq n QL d m1) Z) : dSeq n t ρ m QL Z := by
  refine (?_ : t ρ m _ Z); exact h
theorem v_kSeql {n : Bool} (h : QL (zz xs) m) : kSeq n QL (.lst (zz xs)) m := ⟨fun _ => nls_ints xs, h⟩
theorem v_kSeqt {n : Bool} (h : QL (zz xs) m) : kSeq n QL (.tup (zz xs)) m := ⟨fun _ => nls_ints xs, h⟩
theorem v_kSeqL (h : QL ds m) : kSeq false QL (.lst ds) m := ⟨fun z => (nomatch z), h⟩
theorem v_kSeqT (h : QL ds m) : kSeq false QL (.tup ds) m := ⟨fun z => (nomatch z), h⟩
theorem v_kSeqLn {n : Bool} (e : D.nls ds = true) (h : QL ds m) : kSeq n QL (.lst ds) m := ⟨fun _ => e, h⟩
theorem v_kSeqTn {n : Bool} (e : D.nls ds = true) (h : QL ds m) : kSeq n QL (.tup ds) m := ⟨fun _ => e, h⟩
def kR1 (Q : List D → M → Prop) (ds : List D) (m1 : M) : Prop := match ds with | [.int j] => -(2 ^ 62) ≤ j ∧ j < 2 ^ 62 ∧ Q (iota 0 j.toNat) m1 | _ => False
theorem v_rng1 (h : ta ρ m (fun ds m1 => kR1 QL ds m1) Z) : dRng1 ta ρ m QL Z := by
  refine (?_ : ta ρ m _ Z); exact h
theorem v_kR1 (a : -(2 ^ 62) ≤ j) (b : j < 2 ^ 62) (h : QL (iota 0 j.toNat) m) : kR1 QL [.int j] m := ⟨a, b, h⟩
def kR2 (Q : List D → M → Prop) (ds : List D) (m1 : M) : Prop := match ds with | [.int i, .int j] => (-(2 ^ 62) ≤ i ∧ i < 2 ^ 62 ∧ -(2 ^ 62) ≤ j ∧ j < 2 ^ 62) ∧ Q (iota i (j - i).toNat) m1 | _ => False
theorem v_rng2 (h : ta ρ m (fun ds m1 => kR2 QL ds m1) Z) : dRng2 ta ρ m QL Z := by
  refine (?_ : ta ρ m _ Z); exact h
theorem v_kR2 (a : -(2 ^ 62) ≤ i) (b : i < 2 ^ 62) (c : -(2 ^ 62) ≤ j) (e : j < 2 ^ 62) (h : QL (iota i (j - i).toNat) m) : kR2 QL [.int i, .int j] m := ⟨⟨a, b, c, e⟩, h⟩
theorem v_enum {n : Bool} (h : dSeq n t ρ m (fun ds m1 => QL (enumD 0 ds) m1) Z) : dEnum n t ρ m QL Z := h
def kRR (Q : List D → M → Prop) (d : D) (m1 : M) : Prop := match d with | .int j => -(2 ^ 62) ≤ j ∧ j < 2 ^ 62 ∧ Q (iota 0 j.toNat).reverse m1 | _ => False
theorem v_revr (h : t ρ m (fun d m1 => kRR QL d m1) Z) : dRevR t ρ m QL Z := h
theorem v_kRR (a : -(2 ^ 62) ≤ j) (b : j < 2 ^ 62) (h : QL (iota 0 j.toNat).reverse m) : kRR QL (.int j) m := ⟨a, b, h⟩
theorem v_rev {n : Bool} (h : dSeq n t ρ m (fun ds m1 => QL ds.reverse m1) Z) : dRev n t ρ m QL Z := h
theorem v_gn {i : Nat} {P : En → Prop} (h : P (ρ.set i (.val d))) : dgN i d ρ P := h
theorem v_gt2 {i j : Nat} {P : En → Prop} (h : P ((ρ.set i (.val x)).set j (.val y))) : dgT 2 (dgCons (dgN i) (dgCons (dgN j) dgNil)) (.tup [x, y]) ρ P := ⟨rfl, h⟩
theorem v_gt3 {i j k : Nat} {P : En → Prop} (h : P (((ρ.set i (.val x)).set j (.val y)).set k (.val d))) : dgT 3 (dgCons (dgN i) (dgCons (dgN j) (dgCons (dgN k) dgNil))) (.tup [x, y, d]) ρ P := ⟨rfl, h⟩
theorem v_lc {g : DG} {vs : List Nat} (h : ta ρ m (fun items m1 => lcGo g tt t (wipeD ρ vs) items [] m1 (fun ds m2 => Q (.lst ds) m2)) Z) : dLc ta g tt t vs ρ m Q Z := h
theorem v_while {c : DTT M} (W : Nat → En → M → Prop) (n : Nat) (h : W n ρ m) (st : ∀ n ρ m, W n ρ m → c ρ m (fun b m1 => if b = true then s1 ⟨fun ρ' m' => ∃ n', n' < n ∧ W n' ρ' m', rt, nx, fun ρ' m' => ∃ n', n' < n ∧ W n' ρ' m', ex⟩ ρ m1 else nx ρ m1) ex) : dWhile c s1 ⟨nx, rt, bk, ct, ex⟩ ρ m := ⟨W, ⟨n, h⟩, st⟩
def kFor (g : DG) (s1 : DS M) (E : DE M) (ρ : En) (items : List D) (m1 : M) : Prop := ∃ W : List D → En → M → Prop, W items ρ m1 ∧ (∀ ρ m, W [] ρ m → E.nx ρ m) ∧
  ∀ x r ρ m, W (x :: r) ρ m → g x ρ fun ρ2 => s1 { E with nx := W r, ct := W r, bk := E.nx } ρ2 m
theorem v_for {g : DG} (h : ta ρ m (fun items m1 => kFor g s1 ⟨nx, rt, bk, ct, ex⟩ ρ items m1) ex) : dFor ta g s1 ⟨nx, rt, bk, ct, ex⟩ ρ m := h
theorem v_kfor {g : DG} (W : List D → En → M → Prop) (h : W ds ρ m) (e : ∀ ρ m, W [] ρ m → nx ρ m) (st : ∀ x r ρ m, W (x :: r) ρ m → g x ρ fun ρ2 => s1 ⟨W r, rt, nx, W r, ex⟩ ρ2 m) : kFor g s1 ⟨nx, rt, bk, ct, ex⟩ ρ ds m := ⟨W, h, e, st⟩
/-- items out of a plain list, by what is left -/
theorem v_kforL {α : Type} {inj : α → D} {g : DG} (W : List α → En → M → Prop) (l : List α) (h : W l ρ m) (e : ∀ ρ m, W [] ρ m → nx ρ m) (st : ∀ x r ρ m, W (x :: r) ρ m → g (inj x) ρ fun ρ2 => s1 ⟨fun ρ m => ∃ r', r.map inj = r'.map inj ∧ W r' ρ m, rt, nx, fun ρ m => ∃ r', r.map inj = r'.map inj ∧ W r' ρ m, ex⟩ ρ2 m) :
    kFor g s1 ⟨nx, rt, bk, ct, ex⟩ ρ (l.map inj) m := by
  refine ⟨fun it ρ m => ∃ r', it = r'.map inj ∧ W r' ρ m, ⟨l, rfl, h⟩, fun ρ m h => ?_, fun x r ρ m h => ?_⟩
  · obtain ⟨r', e1, h⟩ := h
    cases r' with
    | nil => exact e ρ m h
    | cons a r' => cases e1
  · obtain ⟨r', e1, h⟩ := h
    cases r' with
    | nil => cases e1
    | cons a r' =>
      rw [List.map_cons] at e1
      cases e1
      exact st a r' ρ m h
/-! statements about lists of one's own -/
theorem v_app {i : Nat} (e : ρ[i]? = some (.own ds)) (h : t ρ m (fun d m' => d.nl = true ∧ ds.length < sizeLine ∧ nx (ρ.set i (.own (ds ++ [d]))) m') ex) : dApp i t ⟨nx, rt, bk, ct, ex⟩ ρ m := by
  unfold dApp; rw [e]; exact h
theorem v_appk {A : Prop} (n : d.nl = true) (l : ds.length < 16777216) (h : A) : d.nl = true ∧ ds.length < sizeLine ∧ A := ⟨n, lt_line l, h⟩
def kSI (ρ : En) (i : Nat) (ds : List D) (nx : En → M → Prop) (d k : D) (m2 : M) : Prop := match k with
    | .int k => (match ixN ds.length k with | some j => d.nl = true ∧ nx (ρ.set i (.own (ds.set j d))) m2 | none => False) | _ => False
theorem v_setI {i : Nat} (e : ρ[i]? = some (.own ds)) (h : t ρ m (fun d m1 => u ρ m1 (fun k m2 => kSI ρ i ds nx d k m2) ex) ex) : dSetI i t u ⟨nx, rt, bk, ct, ex⟩ ρ m := by
  unfold dSetI; rw [e]; exact h
theorem v_kSI {i : Nat} {k : Int} (h0 : 0 ≤ k) (h1 : k < ds.length) (n : d.nl = true) (h : nx (ρ.set i (.own (ds.set k.toNat d))) m) : kSI ρ i ds nx d (.int k) m := by
  unfold kSI; dsimp only; rw [ixN_at h0 h1]; exact ⟨n, h⟩
theorem v_rel {i : Nat} (e : ρ[i]? = some (.own ds)) (h : s1 ⟨nx, rt, bk, ct, ex⟩ (ρ.set i (.val (.lst ds))) m) : dRel i s1 ⟨nx, rt, bk, ct, ex⟩ ρ m := by
  unfold dRel; rw [e]; exact h
theorem v_raise {x : Str} (h : ex x m) : dRaise x ⟨nx, rt, bk, ct, ex⟩ ρ m := h
def kP (ρ : En) (i j : Nat) (nx : En → M → Prop) (ds : List D) (m' : M) : Prop := match ds with | [x, y] => nx ((ρ.set i (.val x)).set j (.val y)) m' | _ => False
theorem v_par {i j : Nat} (h : ta ρ m (fun ds m' => kP ρ i j nx ds m') ex) : dPar i j ta ⟨nx, rt, bk, ct, ex⟩ ρ m := h
theorem v_kP {i j : Nat} (h : nx ((ρ.set i (.val x)).set j (.val y)) m) : kP ρ i j nx [x, y] m := h
theorem v_asg {g : DG} (h : t ρ m (fun d m' => g d ρ fun ρ' => nx ρ' m') ex) : dAsg t g ⟨nx, rt, bk, ct, ex⟩ ρ m := h
theorem v_aug {i : Nat} {f : Int → Int → Int} {a : Int} (e : ρ[i]? = some (.val (.int a))) (h : t ρ m (fun y m' => kOS (fun o m' => match o with | some y => nx (ρ.set i (.val (.int (f a y)))) m' | none => False) y m') ex) : dAug i f t ⟨nx, rt, bk, ct, ex⟩ ρ m := by
  unfold dAug; rw [e]
  exact h
theorem v_kOSa {f : Int → Prop} {g : Option Int → M → Prop} (e : g (some i) m) : kOS g (.int i) m := e
/-! rows given as a list or a tuple -/
def isRow (d : D) (xs : List Int) : Prop := d = .tup (zz xs) ∨ d = .lst (zz xs)
theorem isRow_t : isRow (.tup (zz xs)) xs := .inl rfl
theorem isRow_l : isRow (.lst (zz xs)) xs := .inr rfl
theorem v_lenr (hd : isRow d xs) (h : q (.int xs.length)) : gLen [d] q := by
  rcases hd with rfl | rfl
  · exact v_lentz h
  · exact v_lenlz h
theorem v_ixr {n : Bool} (hd : isRow d xs) (h0 : 0 ≤ i) (h1 : i < xs.length) (h : q (.int (nth xs i))) : gIx n d (.int i) q := by
  rcases hd with rfl | rfl
  · exact v_ixt h0 h1 h
  · exact v_ixl h0 h1 h
def cutZ (xs : List Int) (lo hi : Option Int) : List Int := (xs.drop (HT.sIx xs.length 0 lo)).take (HT.sIx xs.length xs.length hi - HT.sIx xs.length 0 lo)
theorem cutD_zz {l u : Option Int} : cutD (zz xs) l u = zz (cutZ xs l u) := by
  unfold cutD cutZ zz
  rw [List.length_map, List.map_take, List.map_drop]
theorem zz_inj {xs ys : List Int} (h : zz xs = zz ys) : xs = ys := by
  induction xs generalizing ys with
  | nil => cases ys with
    | nil => rfl
    | cons y ys => cases h
  | cons x xs ih => cases ys with
    | nil => cases h
    | cons y ys =>
      obtain ⟨h1, h2⟩ := List.cons.inj h
      cases h1
      rw [ih h2]
theorem cutZ_to {k : Int} (h0 : 0 ≤ k) : cutZ xs none (some k) = xs.take k.toNat := zz_inj (by rw [← cutD_zz, cut_upto h0]; exact (List.map_take ..).symm)
theorem cutZ_from {k : Int} (h0 : 0 ≤ k) : cutZ xs (some k) none = xs.drop k.toNat := zz_inj (by rw [← cutD_zz, cut_from h0]; exact (List.map_drop ..).symm)
theorem v_kSlr {l u : Option Int} (hd : isRow d xs) (h : ∀ d', isRow d' (cutZ xs l u) → Q d' m) : kSl d l u Q m := by
  rcases hd with rfl | rfl
  · exact ⟨nls_ints xs, h _ (by rw [cutD_zz]; exact isRow_t)⟩
  · exact ⟨nls_ints xs, h _ (by rw [cutD_zz]; exact isRow_l)⟩
theorem v_seqr {mk : List D → D} (hd : isRow d xs) (h : q (mk (zz xs))) : gSeq mk [d] q := by
  rcases hd with rfl | rfl
  · exact v_seqtz h
  · exact v_seqlz h
theorem v_kSeqr {n : Bool} (hd : isRow d xs) (h : QL (zz xs) m) : kSeq n QL d m := by
  rcases hd with rfl | rfl
  · exact v_kSeqt h
  · exact v_kSeql h
/-! comprehensions over whole numbers -/
theorem lc_zz {g : DG} {f : Int → Int} (xs : List Int) (st : ∀ a ∈ xs, ∀ m (k : D → M → Prop) (l : M → Prop), k (.int (f a)) m → g (.int a) ρ fun ρ2 => tt ρ2 m (fun b m1 => if b = true then t ρ2 m1 k (fun _ _ => False) else l m1) (fun _ _ => False))
    (hl : xs.length ≤ 16777216) (h : QL (zz (xs.map f)) m) : lcGo g tt t ρ (zz xs) [] m QL := by
  refine lcGo_map (h := fun a => .int (f a)) xs st (small_line hl) ?_
  rw [show xs.map (fun a => D.int (f a)) = zz (xs.map f) from (List.map_map ..).symm]
  exact h
theorem lc_zd {g : DG} {f : Int → D} (xs : List Int) (st : ∀ a ∈ xs, ∀ m (k : D → M → Prop) (l : M → Prop), k (f a) m → g (.int a) ρ fun ρ2 => tt ρ2 m (fun b m1 => if b = true then t ρ2 m1 k (fun _ _ => False) else l m1) (fun _ _ => False))
    (hl : xs.length ≤ 16777216) (h : QL (xs.map f) m) : lcGo g tt t ρ (zz xs) [] m QL := lcGo_map (h := f) xs st (small_line hl) h
/-- over range(n) -/
theorem lc_rz {g : DG} {f : Nat → Int} (n : Nat) (st : ∀ a, a < n → ∀ m (k : D → M → Prop) (l : M → Prop), k (.int (f a)) m → g (.int a) ρ fun ρ2 => tt ρ2 m (fun b m1 => if b = true then t ρ2 m1 k (fun _ _ => False) else l m1) (fun _ _ => False))
    (hl : n ≤ 16777216) (h : QL (zz ((List.range n).map f)) m) : lcGo g tt t ρ (iota 0 n) [] m QL := by
  rw [iota_map]
  refine lcGo_map (h := fun a => .int (f a)) (List.range n) (fun a ha => st a (List.mem_range.mp ha)) (small_line (by rw [List.length_range]; exact hl)) ?_
  rw [show (List.range n).map (fun a => D.int (f a)) = zz ((List.range n).map f) from (List.map_map ..).symm]
  exact h
/-- over range(n), elements that turn the world and are whole numbers with P -/
theorem lc_rany {g : DG} {P : Int → Prop} {S : Nat → M → Prop} (n : Nat) (st : ∀ j ds m (k : D → M → Prop) (l : M → Prop), S (j + 1) m → (∀ y m1, P y → S j m1 → k (.int y) m1) → g ds ρ fun ρ2 => tt ρ2 m (fun b m1 => if b = true then t ρ2 m1 k (fun _ _ => False) else l m1) (fun _ _ => False))
    (hl : n ≤ 16777216) (s : S n m) (h : ∀ xs m1, xs.length = n → (∀ x ∈ xs, P x) → S 0 m1 → QL (zz xs) m1) : lcGo g tt t ρ (iota 0 n) [] m QL := by
  have ln : (iota 0 n).length = n := by rw [iota_map, List.length_map, List.length_range]
  refine lcGo_any (P := fun d => ∃ x, d = .int x ∧ P x) (S := S) (iota 0 n) (fun x _ j m k l s h => st j x m k l s fun y m1 p s => h _ _ ⟨y, rfl, p⟩ s) (by rw [ln]; exact small_line (by simpa using hl)) (by rw [ln]; exact s) fun ds m1 l p s => ?_
  obtain ⟨xs, rfl, hp⟩ := ints_of p
  rw [List.nil_append]
  exact h xs m1 (by rw [ln] at l; simpa using l) hp s
/-- none is kept -/
theorem lc_none {α : Type} {inj : α → D} {g : DG} (xs : List α) (st : ∀ a ∈ xs, ∀ m (k : D → M → Prop) (l : M → Prop), l m → g (inj a) ρ fun ρ2 => tt ρ2 m (fun b m1 => if b = true then t ρ2 m1 k (fun _ _ => False) else l m1) (fun _ _ => False))
    (hl : xs.length ≤ 16777216) (h : QL [] m) : lcGo g tt t ρ (xs.map inj) [] m QL := by
  refine lcGo_filter (h := inj) (keep := fun _ => false) xs (fun a ha m k l _ h => st a ha m k l (h rfl)) (by simpa using small_line hl) ?_
  rw [List.filter_eq_nil_iff.mpr (fun _ _ => Bool.false_ne_true)]
  exact h
theorem v_kforZ {g : DG} (W : List Int → En → M → Prop) (l : List Int) (h : W l ρ m) (e : ∀ ρ m, W [] ρ m → nx ρ m) (st : ∀ x r ρ m, W (x :: r) ρ m → g (.int x) ρ fun ρ2 => s1 ⟨fun ρ m => W r ρ m, rt, nx, fun ρ m => W r ρ m, ex⟩ ρ2 m) :
    kFor g s1 ⟨nx, rt, bk, ct, ex⟩ ρ (zz l) m := by
  refine ⟨fun it ρ m => ∃ r', it = zz r' ∧ W r' ρ m, ⟨l, rfl, h⟩, fun ρ m h => ?_, fun x r ρ m h => ?_⟩
  · obtain ⟨r', e1, h⟩ := h
    cases r' with
    | nil => exact e ρ m h
    | cons a r' => cases e1
  · obtain ⟨r', e1, h⟩ := h
    cases r' with
    | nil => cases e1
    | cons a r' =>
      cases e1
      have z := st a r' ρ m h
      have f1 : (fun ρ m => ∃ r'', zz r' = zz r'' ∧ W r'' ρ m) = fun ρ m => W r' ρ m := by
        funext ρ m
        refine propext ⟨fun ⟨r'', e, h⟩ => ?_, fun h => ⟨r', rfl, h⟩⟩
        rw [zz_inj e]; exact h
      show g (.int a) ρ fun ρ2 => s1 ⟨fun ρ m => ∃ r'', zz r' = zz r'' ∧ W r'' ρ m, rt, nx, fun ρ m => ∃ r'', zz r' = zz r'' ∧ W r'' ρ m, ex⟩ ρ2 m
      rw [f1]
      exact z
/-- over range(i, i + n), by the number gone -/
theorem v_kforR {g : DG} {i : Int} (n : Nat) (W : Nat → En → M → Prop) (h : W 0 ρ m) (e : ∀ ρ m, W n ρ m → nx ρ m) (st : ∀ k ρ m, k < n → W k ρ m → g (.int (i + k)) ρ fun ρ2 => s1 ⟨fun ρ m => W (k + 1) ρ m, rt, nx, fun ρ m => W (k + 1) ρ m, ex⟩ ρ2 m) :
    kFor g s1 ⟨nx, rt, bk, ct, ex⟩ ρ (iota i n) m := by
  have key : ∀ j, j ≤ n → ∀ it, it = (List.range' j (n - j)).map (fun k : Nat => D.int (i + k)) → True := fun _ _ _ _ => trivial
  refine ⟨fun it ρ m => ∃ j, j ≤ n ∧ it = (List.range' j (n - j)).map (fun k : Nat => D.int (i + k)) ∧ W j ρ m, ⟨0, Nat.zero_le _, ?_, h⟩, fun ρ m h => ?_, fun x r ρ m h => ?_⟩
  · unfold iota; rw [Nat.sub_zero, List.range_eq_range']
  · obtain ⟨j, hj, e1, h⟩ := h
    have : n - j = 0 := by
      have := congrArg List.length e1
      rw [List.length_map, List.length_range'] at this
      exact this.symm
    have : j = n := by omega
    subst this
    exact e ρ m h
  · obtain ⟨j, hj, e1, h⟩ := h
    have hlt : j < n := by
      have := congrArg List.length e1
      rw [List.length_map, List.length_range', List.length_cons] at this
      omega
    obtain ⟨p, hp⟩ : ∃ p, n - j = p + 1 := ⟨n - j - 1, by omega⟩
    rw [hp, List.range'_succ, List.map_cons] at e1
    obtain ⟨e2, e3⟩ := List.cons.inj e1
    subst e2
    have z := st j ρ m hlt h
    have f1 : (fun ρ m => ∃ j', j' ≤ n ∧ r = (List.range' j' (n - j')).map (fun k : Nat => D.int (i + k)) ∧ W j' ρ m) = fun ρ m => W (j + 1) ρ m := by
      funext ρ m
      refine propext ⟨fun ⟨j', h1, h2, h⟩ => ?_, fun h => ⟨j + 1, hlt, by rw [e3, show n - (j + 1) = p by omega], h⟩⟩
      have := congrArg List.length (e3.symm.trans h2)
      rw [List.length_map, List.length_range', List.length_map, List.length_range'] at this
      have : j' = j + 1 := by omega
      subst this
      exact h
    show g _ ρ fun ρ2 => s1 ⟨fun ρ m => ∃ j', j' ≤ n ∧ r = (List.range' j' (n - j')).map (fun k : Nat => D.int (i + k)) ∧ W j' ρ m, rt, nx, fun ρ m => ∃ j', j' ≤ n ∧ r = (List.range' j' (n - j')).map (fun k : Nat => D.int (i + k)) ∧ W j' ρ m, ex⟩ ρ2 m
    rw [f1]
    exact z
theorem v_kforE {g : DG} {i : Nat} (W : Nat → List Int → En → M → Prop) (l : List Int) (h : W i l ρ m) (e : ∀ j ρ m, W j [] ρ m → nx ρ m) (st : ∀ (j : Nat) x r ρ m (N : En → M → Prop), W j (x :: r) ρ m → (∀ ρ m, W (j + 1) r ρ m → N ρ m) → g (.tup [.int j, .int x]) ρ fun ρ2 => s1 ⟨N, rt, nx, N, ex⟩ ρ2 m) :
    kFor g s1 ⟨nx, rt, bk, ct, ex⟩ ρ (enumD i (zz l)) m := by
  refine ⟨fun it ρ m => ∃ j r', it = enumD j (zz r') ∧ W j r' ρ m, ⟨i, l, rfl, h⟩, fun ρ m h => ?_, fun x r ρ m h => ?_⟩
  · obtain ⟨j, r', e1, h⟩ := h
    cases r' with
    | nil => exact e j ρ m h
    | cons a r' => cases e1
  · obtain ⟨j, r', e1, h⟩ := h
    cases r' with
    | nil => cases e1
    | cons a r' =>
      cases e1
      exact st j a r' ρ m _ h fun ρ m h => ⟨_, _, rfl, h⟩
theorem v_kSIz {i : Nat} {k v : Int} (h0 : 0 ≤ k) (h1 : k < xs.length) (h : nx (ρ.set i (.own (zz (xs.set k.toNat v)))) m) : kSI ρ i (zz xs) nx (.int v) (.int k) m := by
  refine v_kSI h0 (by rw [List.length_map]; exact h1) rfl ?_
  rw [show zz (xs.set k.toNat v) = (zz xs).set k.toNat (.int v) from List.map_set ..] at h
  exact h
theorem v_join {s : DS M} (J : En → M → Prop) (h : ∀ ρ m, J ρ m → nx ρ m) (h2 : ∀ nx' : En → M → Prop, (∀ ρ m, J ρ m → nx' ρ m) → s ⟨nx', rt, bk, ct, ex⟩ ρ m) : s ⟨nx, rt, bk, ct, ex⟩ ρ m := h2 nx h
theorem v_pow (a : 0 ≤ j) (b : j ≤ 1000000) (c : i.natAbs < 2 ^ 64) (h : q (.int (i ^ j.toNat))) : gII CPow (fun i j => .int (i ^ j.toNat)) (.int i) (.int j) q := ⟨⟨a, b, c⟩, h⟩
theorem v_draw {N : Nat} {many : Int} {Q : D → Option Nat → Prop} {Z : Str → Option Nat → Prop} (h0 : 0 < many) (hb : many.natAbs < 2 ^ 250) (h : ∀ x, 0 ≤ x → x < many → Q (.int x) (some N)) : s__law_draw [.hnd hdl, .int many] (some (N + 1)) Q Z := ⟨N, many, rfl, rfl, h0, Nat.lt_of_lt_of_le hb (Nat.pow_le_pow_right (by decide) (by decide)), h⟩
end
end RR

/-! PS: formal series over a commutative ring, a commutative ring -/
namespace RR
structure Ser (K : Type) where
  co : Nat → K
namespace Ser
variable {K : Type}
theorem ext {f g : Ser K} (h : ∀ k, f.co k = g.co k) : f = g := by
  cases f; cases g; congr; funext k; exact h k
def tl (f : Ser K) : Ser K := ⟨fun k => f.co (k + 1)⟩
theorem tl_co (f : Ser K) (k : Nat) : f.tl.co k = f.co (k + 1) := rfl
variable [Lean.Grind.CommRing K]
def mulc : Nat → Ser K → Ser K → K
  | 0, f, g => f.co 0 * g.co 0
  | k + 1, f, g => f.co 0 * g.co (k + 1) + mulc k f.tl g
def add (f g : Ser K) : Ser K := ⟨fun k => f.co k + g.co k⟩
def neg (f : Ser K) : Ser K := ⟨fun k => - f.co k⟩
def mul (f g : Ser K) : Ser K := ⟨fun k => mulc k f g⟩
/-- a number -/
def C (c : K) : Ser K := ⟨fun k => if k = 0 then c else 0⟩
instance : Add (Ser K) := ⟨add⟩
instance : Mul (Ser K) := ⟨mul⟩
instance : Neg (Ser K) := ⟨neg⟩
instance : Sub (Ser K) := ⟨fun f g => add f (neg g)⟩
local instance : NatCast K := Lean.Grind.Semiring.natCast
local instance : IntCast K := Lean.Grind.Ring.intCast
instance (n : Nat) : OfNat (Ser K) n := ⟨C (OfNat.ofNat n)⟩
instance : NatCast (Ser K) := ⟨fun n => C (NatCast.natCast n)⟩
instance : IntCast (Ser K) := ⟨fun n => C (IntCast.intCast n)⟩
def pow (f : Ser K) : Nat → Ser K
  | 0 => C 1
  | n + 1 => mul (pow f n) f
instance : HPow (Ser K) Nat (Ser K) := ⟨pow⟩
instance : SMul Nat (Ser K) := ⟨fun n f => ⟨fun k => n • f.co k⟩⟩
instance : SMul Int (Ser K) := ⟨fun n f => ⟨fun k => n • f.co k⟩⟩
theorem add_co (f g : Ser K) (k : Nat) : (f + g).co k = f.co k + g.co k := rfl
theorem neg_co (f : Ser K) (k : Nat) : (-f).co k = - f.co k := rfl
theorem sub_co (f g : Ser K) (k : Nat) : (f - g).co k = f.co k - g.co k := by show f.co k + - g.co k = _; grind
theorem mul_co (f g : Ser K) (k : Nat) : (f * g).co k = mulc k f g := rfl
theorem C_co (c : K) (k : Nat) : (C c).co k = if k = 0 then c else 0 := rfl
theorem mulc_right : ∀ (k : Nat) (f g : Ser K), mulc (k + 1) f g = f.co (k + 1) * g.co 0 + mulc k f g.tl
  | 0, f, g => by show f.co 0 * g.co 1 + f.co 1 * g.co 0 = f.co 1 * g.co 0 + f.co 0 * g.co 1; grind
  | k + 1, f, g => by
    have := mulc_right k f.tl g
    show f.co 0 * g.co (k + 2) + mulc (k + 1) f.tl g = f.co (k + 2) * g.co 0 + (f.co 0 * g.co (k + 2) + mulc k f.tl g.tl)
    rw [this]
    show _ + (f.co (k + 2) * g.co 0 + _) = _
    grind
theorem mulc_comm : ∀ (k : Nat) (f g : Ser K), mulc k f g = mulc k g f
  | 0, f, g => by show f.co 0 * g.co 0 = g.co 0 * f.co 0; grind
  | k + 1, f, g => by
    rw [mulc_right k g f]
    show f.co 0 * g.co (k + 1) + mulc k f.tl g = _
    rw [mulc_comm k f.tl g]; grind
theorem mulc_add : ∀ (k : Nat) (f g h : Ser K), mulc k (f + g) h = mulc k f h + mulc k g h
  | 0, f, g, h => by show (f.co 0 + g.co 0) * h.co 0 = f.co 0 * h.co 0 + g.co 0 * h.co 0; grind
  | k + 1, f, g, h => by
    show (f.co 0 + g.co 0) * h.co (k + 1) + mulc k (f.tl + g.tl) h = f.co 0 * h.co (k + 1) + mulc k f.tl h + (g.co 0 * h.co (k + 1) + mulc k g.tl h)
    rw [mulc_add k f.tl g.tl h]; grind
theorem mulc_scale : ∀ (k : Nat) (c : K) (f h : Ser K), mulc k ⟨fun j => c * f.co j⟩ h = c * mulc k f h
  | 0, c, f, h => by show c * f.co 0 * h.co 0 = c * (f.co 0 * h.co 0); grind
  | k + 1, c, f, h => by
    show (c * f.co 0) * h.co (k + 1) + mulc k ⟨fun j => c * f.tl.co j⟩ h = c * (f.co 0 * h.co (k + 1) + mulc k f.tl h)
    rw [mulc_scale k c f.tl h]; grind
theorem tl_mul (f g : Ser K) : (f * g).tl = (⟨fun j => f.co 0 * g.tl.co j⟩ : Ser K) + f.tl * g := ext fun k => rfl
theorem mulc_assoc : ∀ (k : Nat) (f g h : Ser K), mulc k (f * g) h = mulc k f (g * h)
  | 0, f, g, h => by show f.co 0 * g.co 0 * h.co 0 = f.co 0 * (g.co 0 * h.co 0); grind
  | k + 1, f, g, h => by
    show (f.co 0 * g.co 0) * h.co (k + 1) + mulc k (f * g).tl h = f.co 0 * mulc (k + 1) g h + mulc k f.tl (g * h)
    rw [tl_mul, mulc_add, mulc_assoc k f.tl g h, mulc_scale k (f.co 0) g.tl h]
    show _ = f.co 0 * (g.co 0 * h.co (k + 1) + mulc k g.tl h) + _
    grind
theorem tl_C (c : K) : (C c).tl = C 0 := ext fun j => by
  show (if j + 1 = 0 then c else 0) = if j = 0 then 0 else 0
  rw [if_neg (by omega)]; split <;> rfl
theorem mulc_zero : ∀ (k : Nat) (g : Ser K), mulc k (C 0) g = 0
  | 0, g => by show (if 0 = 0 then (0 : K) else 0) * g.co 0 = 0; rw [if_pos rfl]; grind
  | k + 1, g => by
    show (if 0 = 0 then (0 : K) else 0) * g.co (k + 1) + mulc k (C 0).tl g = 0
    rw [tl_C, mulc_zero k g, if_pos rfl]; grind
theorem mulc_C (k : Nat) (c : K) (g : Ser K) : mulc k (C c) g = c * g.co k := by
  cases k with
  | zero => rfl
  | succ k =>
    show (if 0 = 0 then c else 0) * g.co (k + 1) + mulc k (C c).tl g = c * g.co (k + 1)
    rw [tl_C, mulc_zero, if_pos rfl]; grind
theorem C_mul_co (c : K) (g : Ser K) (k : Nat) : (C c * g).co k = c * g.co k := mulc_C k c g
theorem ofNat_co (n k : Nat) : (OfNat.ofNat n : Ser K).co k = if k = 0 then OfNat.ofNat n else 0 := rfl
instance : Lean.Grind.CommRing (Ser K) where
  add_zero f := ext fun k => by show f.co k + (if k = 0 then (0 : K) else 0) = f.co k; split <;> grind
  add_comm f g := ext fun k => by show f.co k + g.co k = g.co k + f.co k; grind
  add_assoc f g h := ext fun k => by show f.co k + g.co k + h.co k = f.co k + (g.co k + h.co k); grind
  mul_assoc f g h := ext fun k => mulc_assoc k f g h
  mul_one f := ext fun k => by show mulc k f (C 1) = _; rw [mulc_comm, mulc_C]; grind
  one_mul f := ext fun k => by show mulc k (C 1) f = _; rw [mulc_C]; grind
  left_distrib f g h := ext fun k => by show mulc k f (g + h) = mulc k f g + mulc k f h; rw [mulc_comm, mulc_add, mulc_comm k g, mulc_comm k h]
  right_distrib f g h := ext fun k => mulc_add k f g h
  zero_mul f := ext fun k => by show mulc k (C 0) f = _; rw [mulc_C]; show (0 : K) * f.co k = if k = 0 then 0 else 0; split <;> grind
  mul_zero f := ext fun k => by show mulc k f (C 0) = _; rw [mulc_comm, mulc_C]; show (0 : K) * f.co k = if k = 0 then 0 else 0; split <;> grind
  pow_zero f := rfl
  pow_succ f n := rfl
  neg_add_cancel f := ext fun k => by show - f.co k + f.co k = if k = 0 then 0 else 0; split <;> grind
  sub_eq_add_neg f g := rfl
  mul_comm f g := ext fun k => mulc_comm k f g
  nsmul_eq_natCast_mul n f := ext fun k => by show n • f.co k = mulc k (C (NatCast.natCast n)) f; rw [mulc_C]; exact Lean.Grind.Semiring.nsmul_eq_natCast_mul n (f.co k)
  zsmul_natCast_eq_nsmul n f := ext fun k => Lean.Grind.Ring.zsmul_natCast_eq_nsmul n (f.co k)
  ofNat_succ n := ext fun k => by
    show (if k = 0 then (OfNat.ofNat (n + 1) : K) else 0) = (if k = 0 then (OfNat.ofNat n : K) else 0) + (if k = 0 then (1 : K) else 0)
    split
    · exact Lean.Grind.Semiring.ofNat_succ n
    · grind
  ofNat_eq_natCast n := ext fun k => by
    show (if k = 0 then (OfNat.ofNat n : K) else 0) = (if k = 0 then (NatCast.natCast n : K) else 0)
    split
    · exact Lean.Grind.Semiring.ofNat_eq_natCast n
    · rfl
  intCast_ofNat n := ext fun k => by
    show (if k = 0 then (IntCast.intCast (OfNat.ofNat n : Int) : K) else 0) = (if k = 0 then (OfNat.ofNat n : K) else 0)
    split
    · exact Lean.Grind.Ring.intCast_ofNat n
    · rfl
  intCast_neg i := ext fun k => by
    show (if k = 0 then (IntCast.intCast (-i) : K) else 0) = - (if k = 0 then (IntCast.intCast i : K) else 0)
    split
    · exact Lean.Grind.Ring.intCast_neg i
    · grind
  neg_zsmul i f := ext fun k => Lean.Grind.Ring.neg_zsmul i (f.co k)
end Ser
end RR

/-! PG: series: single powers, places, the highest place, quotients and rests -/
namespace RR
section
variable {K : Type} [Lean.Grind.CommRing K]
theorem zero_co (k : Nat) : (0 : Ser K).co k = 0 := by
  show (if k = 0 then (0 : K) else 0) = 0
  split <;> rfl
theorem one_co (k : Nat) : (1 : Ser K).co k = if k = 0 then 1 else 0 := rfl
/-- x to the k -/
def xp (k : Nat) : Ser K := ⟨fun j => if j = k then 1 else 0⟩
theorem xp_co (k j : Nat) : (xp k : Ser K).co j = if j = k then 1 else 0 := rfl
theorem xp0 : (xp 0 : Ser K) = 1 := Ser.ext fun j => rfl
theorem tl_xp (k : Nat) : (xp (k + 1) : Ser K).tl = xp k := Ser.ext fun j => by
  show (if j + 1 = k + 1 then (1 : K) else 0) = if j = k then 1 else 0
  by_cases h : j = k
  · rw [if_pos h, if_pos (by omega)]
  · rw [if_neg h, if_neg (by omega)]
theorem xp_mul_co (k : Nat) (f : Ser K) (j : Nat) : (xp k * f).co j = if k ≤ j then f.co (j - k) else 0 := by
  induction k generalizing j with
  | zero => rw [xp0, Lean.Grind.Semiring.one_mul, if_pos (Nat.zero_le _), Nat.sub_zero]
  | succ k ih =>
    cases j with
    | zero =>
      rw [if_neg (by omega)]
      show (if 0 = k + 1 then (1 : K) else 0) * f.co 0 = 0
      rw [if_neg (by omega)]; grind
    | succ j =>
      show (if 0 = k + 1 then (1 : K) else 0) * f.co (j + 1) + Ser.mulc j (xp (k + 1)).tl f = _
      rw [if_neg (by omega), tl_xp]
      rw [show Ser.mulc j (xp k) f = (xp k * f).co j from rfl, ih]
      by_cases h : k ≤ j
      · rw [if_pos h, if_pos (by omega), show j + 1 - (k + 1) = j - k by omega]; grind
      · rw [if_neg h, if_neg (by omega)]; grind
theorem xp_add (i j : Nat) : (xp (i + j) : Ser K) = xp i * xp j := Ser.ext fun k => by
  rw [xp_mul_co, xp_co, xp_co]
  by_cases h : i ≤ k
  · rw [if_pos h]
    by_cases e : k = i + j
    · rw [if_pos e, if_pos (by omega)]
    · rw [if_neg e, if_neg (by omega)]
  · rw [if_neg h, if_neg (by omega)]
theorem C_add (a b : K) : Ser.C (a + b) = Ser.C a + Ser.C b := Ser.ext fun k => by
  rw [Ser.add_co]; simp only [Ser.C_co]; split <;> grind
theorem C_mul (a b : K) : Ser.C (a * b) = Ser.C a * Ser.C b := Ser.ext fun k => by
  rw [Ser.C_mul_co]; simp only [Ser.C_co]; split <;> grind
theorem C_neg (a : K) : Ser.C (-a) = - Ser.C a := Ser.ext fun k => by rw [Ser.neg_co]; simp only [Ser.C_co]; split <;> grind
theorem C_sub (a b : K) : Ser.C (a - b) = Ser.C a - Ser.C b := Ser.ext fun k => by rw [Ser.sub_co]; simp only [Ser.C_co]; split <;> grind
theorem C_one : Ser.C (1 : K) = 1 := rfl
theorem C_zero : Ser.C (0 : K) = 0 := rfl
theorem C_inj {a b : K} (h : Ser.C a = Ser.C b) : a = b := by
  have := congrArg (fun f => Ser.co f 0) h
  simpa [Ser.C_co] using this
/-- nought from place n on -/
def far (n : Nat) (f : Ser K) : Prop := ∀ k, n ≤ k → f.co k = 0
theorem far_mono {n m : Nat} {f : Ser K} (h : far n f) (l : n ≤ m) : far m f := fun k hk => h k (Nat.le_trans l hk)
theorem far_zero {n : Nat} : far n (0 : Ser K) := fun k _ => zero_co k
theorem far_add {n : Nat} {f g : Ser K} (h : far n f) (h' : far n g) : far n (f + g) := fun k hk => by rw [Ser.add_co, h k hk, h' k hk]; grind
theorem far_sub {n : Nat} {f g : Ser K} (h : far n f) (h' : far n g) : far n (f - g) := fun k hk => by rw [Ser.sub_co, h k hk, h' k hk]; grind
theorem far_neg {n : Nat} {f : Ser K} (h : far n f) : far n (-f) := fun k hk => by rw [Ser.neg_co, h k hk]; grind
theorem far_C {c : K} : far 1 (Ser.C c) := fun k hk => by rw [Ser.C_co, if_neg (by omega)]
theorem far_one : far 1 (1 : Ser K) := fun k hk => by rw [one_co, if_neg (by omega)]
theorem far_scale {n : Nat} {c : K} {f : Ser K} (h : far n f) : far n (Ser.C c * f) := fun k hk => by rw [Ser.C_mul_co, h k hk]; grind
theorem far_xp {n k : Nat} {f : Ser K} (h : far n f) : far (k + n) (xp k * f) := fun j hj => by
  rw [xp_mul_co]; split
  · exact h _ (by omega)
  · rfl
theorem far0 {f : Ser K} (h : far 0 f) : f = 0 := Ser.ext fun j => by rw [h j (Nat.zero_le _), zero_co]
theorem mul_far {n k : Nat} {f g : Ser K} (hf : far n f) (hg : far k g) : ∀ j, n + k ≤ j + 1 → (f * g).co j = 0 := by
  induction n generalizing f with
  | zero =>
    intro j _
    rw [far0 hf, Lean.Grind.Semiring.zero_mul, zero_co]
  | succ n ih =>
    intro j hj
    cases j with
    | zero =>
      show f.co 0 * g.co 0 = 0
      rw [hg 0 (by omega)]; grind
    | succ j =>
      show f.co 0 * g.co (j + 1) + (f.tl * g).co j = 0
      rw [ih (f := f.tl) (fun i hi => hf (i + 1) (by omega)) j (by omega), hg _ (by omega)]
      grind
theorem far_mul {n k : Nat} {f g : Ser K} (hf : far n f) (hg : far k g) : far (n + k - 1) (f * g) := fun j hj => mul_far hf hg j (by omega)
/-- the highest place of a product -/
theorem mul_top {n k : Nat} {f g : Ser K} (hf : far (n + 1) f) (hg : far (k + 1) g) : (f * g).co (n + k) = f.co n * g.co k := by
  induction n generalizing f with
  | zero =>
    cases k with
    | zero => rfl
    | succ k =>
      have e : f.tl = 0 := Ser.ext fun j => by rw [zero_co]; exact hf (j + 1) (by omega)
      rw [Nat.zero_add]
      show f.co 0 * g.co (k + 1) + (f.tl * g).co k = _
      rw [e, Lean.Grind.Semiring.zero_mul, zero_co]; grind
  | succ n ih =>
    rw [show n + 1 + k = (n + k) + 1 by omega]
    show f.co 0 * g.co (n + k + 1) + (f.tl * g).co (n + k) = _
    rw [ih (f := f.tl) (fun i hi => hf (i + 1) (by omega)), hg _ (by omega)]
    show f.co 0 * 0 + f.co (n + 1) * g.co k = _
    grind
/-- f is of degree n -/
def top (n : Nat) (f : Ser K) : Prop := far (n + 1) f ∧ f.co n ≠ 0
theorem top_ne {n : Nat} {f : Ser K} (h : top n f) : f ≠ 0 := fun e => h.2 (by rw [e, zero_co])
theorem top_of {n : Nat} {f : Ser K} (h : far n f) (h0 : f ≠ 0) : ∃ k, k < n ∧ top k f := by
  induction n with
  | zero => exact absurd (far0 h) h0
  | succ n ih =>
    by_cases e : f.co n = 0
    · obtain ⟨k, hk, t⟩ := ih fun j hj => by
        by_cases q : j = n
        · rw [q]; exact e
        · exact h j (by omega)
      exact ⟨k, by omega, t⟩
    · exact ⟨n, by omega, h, e⟩
theorem top_uniq {n k : Nat} {f : Ser K} (h : top n f) (h' : top k f) : n = k := by
  rcases Nat.lt_trichotomy n k with l | l | l
  · exact absurd (h.1 k (by omega)) h'.2
  · exact l
  · exact absurd (h'.1 n (by omega)) h.2
theorem top_lt {n k : Nat} {f : Ser K} (h : top n f) (h' : far k f) : n < k := by
  refine Nat.lt_of_not_le fun l => h.2 (h' n l)
/-- no divisors of nought -/
def Dom (K : Type) [Lean.Grind.CommRing K] : Prop := ∀ a b : K, a * b = 0 → a = 0 ∨ b = 0
theorem top_mul (D : Dom K) {n k : Nat} {f g : Ser K} (h : top n f) (h' : top k g) : top (n + k) (f * g) :=
  ⟨fun j hj => mul_far h.1 h'.1 j (by omega), fun e => by
    rw [mul_top h.1 h'.1] at e
    exact (D _ _ e).elim h.2 h'.2⟩
theorem mul_zero_of (D : Dom K) {n k : Nat} {f g : Ser K} (hf : far n f) (hg : far k g) (e : f * g = 0) : f = 0 ∨ g = 0 := by
  by_cases f0 : f = 0
  · exact .inl f0
  · by_cases g0 : g = 0
    · exact .inr g0
    · obtain ⟨_, _, t⟩ := top_of hf f0
      obtain ⟨_, _, t'⟩ := top_of hg g0
      exact absurd e (top_ne (top_mul D t t'))
theorem cancel (D : Dom K) {n k : Nat} {f g h : Ser K} (hf : far n f) (hg : far k g) (hh : far k h) (f0 : f ≠ 0) (e : f * g = f * h) : g = h := by
  have : f * (g - h) = 0 := by grind
  rcases mul_zero_of D hf (far_sub hg hh) this with z | z
  · exact absurd z f0
  · grind
/-- quotient and rest are the only ones -/
theorem div_uniq (D : Dom K) {n N : Nat} {g q q' r r' : Ser K} (hg : top n g) (hq : far N q) (hq' : far N q') (hr : far n r) (hr' : far n r') (e : q * g + r = q' * g + r') : q = q' ∧ r = r' := by
  have e1 : (q - q') * g = r' - r := by grind
  have e2 : q - q' = 0 := by
    refine Classical.byContradiction fun z => ?_
    obtain ⟨k, _, t⟩ := top_of (far_sub hq hq') z
    have := top_lt (top_mul D t hg) (f := (q - q') * g) (by rw [e1]; exact far_sub hr' hr)
    omega
  have e3 : q = q' := by grind
  subst e3
  exact ⟨rfl, by grind⟩
end
theorem dom_int : Dom Int := fun a b h => Int.mul_eq_zero.mp h
theorem dom_rat : Dom Rat := fun a b h => by
  by_cases e : a = 0
  · exact .inl e
  · refine .inr ?_
    have : b = a⁻¹ * (a * b) := by rw [← Lean.Grind.Semiring.mul_assoc, Rat.inv_mul_cancel a e]; grind
    rw [this, h]; grind
end RR

/-! MA: rows as series; lowest terms -/
namespace RR
open PySem PySem.Spec PyProof.Rows L2
/-! ### rows as series -/
def ser (xs : List Int) : Ser Int := ⟨fun k => xs.getD k 0⟩
theorem ser_co (xs : List Int) (k : Nat) : (ser xs).co k = xs.getD k 0 := rfl
theorem ser_nil : ser [] = 0 := Ser.ext fun k => by
  show (0 : Int) = if k = 0 then ((0 : Nat) : Int) else 0
  split <;> rfl
theorem getD_snoc (xs : List Int) (a : Int) (k : Nat) : (xs ++ [a]).getD k 0 = if k = xs.length then a else xs.getD k 0 := by
  simp only [List.getD_eq_getElem?_getD, List.getElem?_append]
  by_cases h : k < xs.length
  · rw [if_pos h, if_neg (by omega)]
  · rw [if_neg h]
    by_cases e : k = xs.length
    · subst e; simp
    · rw [if_neg e, List.getElem?_eq_none (l := xs) (by omega), List.getElem?_eq_none (by simp; omega)]
theorem getD_far {xs : List Int} {k : Nat} (h : xs.length ≤ k) : xs.getD k 0 = 0 := by
  rw [List.getD_eq_getElem?_getD, List.getElem?_eq_none h]; rfl
theorem ser_strip (xs : List Int) : ser (strip xs) = ser xs := by
  refine Ser.ext fun k => ?_
  show (strip xs).getD k 0 = xs.getD k 0
  induction xs using strip_ind with
  | h0 => rfl
  | h1 xs a ih =>
    rw [strip_snoc]
    by_cases h : a = 0
    · rw [if_pos h, ih, getD_snoc, h]
      split
      · rename_i e; exact getD_far (Nat.le_of_eq e.symm)
      · rfl
    · rw [if_neg h]
theorem done_last {xs : List Int} (h : done xs) (n : xs ≠ []) : xs.getD (xs.length - 1) 0 ≠ 0 := by
  induction xs using strip_ind with
  | h0 => exact absurd rfl n
  | h1 xs a _ =>
    intro z
    rw [List.length_append, List.length_singleton, Nat.add_sub_cancel, getD_snoc, if_pos rfl] at z
    unfold done at h
    rw [strip_snoc, if_pos z] at h
    have := congrArg List.length h
    have := strip_len xs
    rw [List.length_append, List.length_singleton] at *
    omega
theorem done_uniq {xs ys : List Int} (hx : done xs) (hy : done ys) (h : ser xs = ser ys) : xs = ys := by
  have co : ∀ k, xs.getD k 0 = ys.getD k 0 := fun k => congrArg (fun f => Ser.co f k) h
  have le : ∀ {xs ys : List Int}, done xs → (∀ k, xs.getD k 0 = ys.getD k 0) → xs.length ≤ ys.length := fun {xs ys} hx co => by
    refine Nat.le_of_not_lt fun lt => ?_
    have n : xs ≠ [] := fun z => by rw [z] at lt; simp at lt
    exact done_last hx n (by rw [co, getD_far (by omega)])
  have el : xs.length = ys.length := Nat.le_antisymm (le hx co) (le hy fun k => (co k).symm)
  refine List.ext_getElem el fun i h1 h2 => ?_
  have := co i
  rwa [List.getD_eq_getElem?_getD, List.getD_eq_getElem?_getD, List.getElem?_eq_getElem h1, List.getElem?_eq_getElem h2] at this
theorem bd0 {n : Nat} : bd n 0 := by unfold bd; exact Nat.pow_pos (by decide)
/-! the operations, list by list -/
def padTo (n : Nat) (xs : List Int) : List Int := xs ++ List.replicate (n - xs.length) 0
theorem pad_len {n : Nat} {xs : List Int} (h : xs.length ≤ n) : (padTo n xs).length = n := by unfold padTo; rw [List.length_append, List.length_replicate]; omega
theorem pad_co {n : Nat} {xs : List Int} (k : Nat) : (padTo n xs).getD k 0 = xs.getD k 0 := by
  unfold padTo
  simp only [List.getD_eq_getElem?_getD, List.getElem?_append]
  by_cases h : k < xs.length
  · rw [if_pos h]
  · rw [if_neg h, List.getElem?_eq_none (l := xs) (by omega), List.getElem?_replicate]
    split <;> rfl
theorem pad_mem {n : Nat} {xs : List Int} {x : Int} (h : x ∈ padTo n xs) : x ∈ xs ∨ x = 0 := (List.mem_append.mp h).imp id fun h => List.eq_of_mem_replicate h
theorem zip_co {g : Int → Int → Int} (h0 : g 0 0 = 0) {xs ys : List Int} (hl : xs.length = ys.length) (k : Nat) : (List.zipWith g xs ys).getD k 0 = g (xs.getD k 0) (ys.getD k 0) := by
  simp only [List.getD_eq_getElem?_getD]
  rw [List.getElem?_zipWith]
  by_cases h : k < xs.length
  · rw [List.getElem?_eq_getElem h, List.getElem?_eq_getElem (hl ▸ h)]; rfl
  · rw [List.getElem?_eq_none (Nat.le_of_not_lt h), List.getElem?_eq_none (by omega)]
    exact h0.symm
theorem zip_bd {a b c : Nat} {g : Int → Int → Int} {xs ys : List Int} (hx : ∀ x ∈ xs, bd a x) (hy : ∀ x ∈ ys, bd b x) (hg : ∀ x y, bd a x → bd b y → bd c (g x y)) : ∀ z ∈ List.zipWith g xs ys, bd c z := fun z hz => by
  obtain ⟨i, hi, rfl⟩ := List.mem_iff_getElem.mp hz
  rw [List.getElem_zipWith]
  exact hg _ _ (hx _ (List.getElem_mem _)) (hy _ (List.getElem_mem _))
theorem bd_add' {a : Nat} {x y : Int} (h : bd a x) (h' : bd a y) : bd (a + 1) (x + y) := by
  have := bd_add h h'
  rwa [Nat.max_self] at this
theorem map_co {g : Int → Int} (h0 : g 0 = 0) (xs : List Int) (k : Nat) : (xs.map g).getD k 0 = g (xs.getD k 0) := by
  simp only [List.getD_eq_getElem?_getD, List.getElem?_map]
  cases xs[k]? with
  | none => exact h0.symm
  | some x => rfl
theorem ser_scale (c : Int) (xs : List Int) : ser (xs.map fun x => c * x) = Ser.C c * ser xs := Ser.ext fun k => by rw [ser_co, map_co (by simp), Ser.C_mul_co]; rfl
theorem ser_scale' (c : Int) (xs : List Int) : ser (xs.map fun x => x * c) = Ser.C c * ser xs := by rw [← ser_scale]; simp only [Int.mul_comm]
theorem map_bd {a c : Nat} {g : Int → Int} {xs : List Int} (hx : ∀ x ∈ xs, bd a x) (hg : ∀ x, bd a x → bd c (g x)) : ∀ z ∈ xs.map g, bd c z := fun z hz => by
  obtain ⟨x, h, rfl⟩ := List.mem_map.mp hz
  exact hg x (hx x h)
theorem ser_cons (a : Int) (xs : List Int) : ser (a :: xs) = Ser.C a + xp 1 * ser xs := Ser.ext fun k => by
  rw [Ser.add_co, xp_mul_co]
  cases k with
  | zero => simp [ser, Ser.C]
  | succ k => simp [ser, Ser.C]
theorem ser_snoc (xs : List Int) (a : Int) : ser (xs ++ [a]) = ser xs + Ser.C a * xp xs.length := Ser.ext fun k => by
  rw [ser_co, getD_snoc, Ser.add_co, Ser.C_mul_co, xp_co, ser_co]
  by_cases h : k = xs.length
  · rw [if_pos h, if_pos h, getD_far (by omega)]; simp
  · rw [if_neg h, if_neg h]; simp
theorem ser_set {xs : List Int} {i : Nat} {v : Int} (h : i < xs.length) : ser (xs.set i v) = ser xs + Ser.C (v - xs.getD i 0) * xp i := Ser.ext fun k => by
  rw [ser_co, Ser.add_co, Ser.C_mul_co, xp_co, ser_co]
  simp only [List.getD_eq_getElem?_getD]
  by_cases e : k = i
  · subst e
    rw [List.getElem?_set_self h, List.getElem?_eq_getElem h]; simp; omega
  · rw [List.getElem?_set_ne (Ne.symm e), if_neg e]; simp
theorem ser_zeros (n : Nat) : ser (List.replicate n 0) = 0 := Ser.ext fun k => by
  rw [zero_co, ser_co, List.getD_eq_getElem?_getD, List.getElem?_replicate]
  split <;> rfl
theorem C_cancel {c : Int} {f g : Ser Int} (hc : c ≠ 0) (h : Ser.C c * f = Ser.C c * g) : f = g := Ser.ext fun k => by
  have := congrArg (fun f => Ser.co f k) h
  simp only [Ser.C_mul_co] at this
  exact Int.eq_of_mul_eq_mul_left hc this
/-! ### rows by their series, their sizes apart -/
structure R (f : Ser Int) (r : List Int) : Prop where
  dn : done r
  sr : ser r = f
/-- below n places, of at most a bits -/
structure B (n a : Nat) (f : Ser Int) : Prop where
  far : ∀ k, n ≤ k → f.co k = 0
  bd : ∀ k, RR.bd a (f.co k)
theorem R.uniq {f : Ser Int} {r r' : List Int} (h : R f r) (h' : R f r') : r = r' := done_uniq h.dn h'.dn (h.sr.trans h'.sr.symm)
theorem R.of {f : Ser Int} {xs : List Int} (e : ser xs = f) : R f (strip xs) := ⟨strip_done xs, (ser_strip xs).trans e⟩
theorem R.cong {f g : Ser Int} {r : List Int} (h : R f r) (e : f = g) : R g r := e ▸ h
theorem R.nil : R 0 [] := ⟨rfl, ser_nil⟩
theorem R.get {f : Ser Int} {r : List Int} (h : R f r) (k : Nat) : r.getD k 0 = f.co k := by rw [← h.sr]; rfl
theorem R.zero {f : Ser Int} {r : List Int} (h : R f r) : r = [] ↔ f = 0 := ⟨fun e => by rw [← h.sr, e, ser_nil], fun e => done_uniq h.dn rfl (by rw [h.sr, e, ser_nil])⟩
theorem R.len {n a : Nat} {f : Ser Int} {r : List Int} (h : R f r) (b : B n a f) : r.length ≤ n := by
  refine Nat.le_of_not_lt fun lt => ?_
  have n0 : r ≠ [] := fun z => by rw [z] at lt; simp at lt
  exact done_last h.dn n0 (by rw [h.get, b.far _ (by omega)])
theorem R.bds {n a : Nat} {f : Ser Int} {r : List Int} (h : R f r) (b : B n a f) : ∀ x ∈ r, RR.bd a x := fun x hx => by
  obtain ⟨i, hi, rfl⟩ := List.mem_iff_getElem.mp hx
  have := b.bd i
  rw [← h.get, List.getD_eq_getElem?_getD, List.getElem?_eq_getElem hi] at this
  exact this
theorem R.far {f : Ser Int} {r : List Int} (h : R f r) {k : Nat} (hk : r.length ≤ k) : f.co k = 0 := by rw [← h.get, getD_far hk]
theorem R.last {f : Ser Int} {r : List Int} (h : R f r) (n : r ≠ []) : f.co (r.length - 1) ≠ 0 := by rw [← h.get]; exact done_last h.dn n
theorem B.of {n a : Nat} {xs : List Int} (hl : xs.length ≤ n) (hb : ∀ x ∈ xs, RR.bd a x) : B n a (ser xs) := ⟨fun k hk => by rw [ser_co, getD_far (by omega)], fun k => by
  rw [ser_co]
  by_cases hk : k < xs.length
  · rw [List.getD_eq_getElem?_getD, List.getElem?_eq_getElem hk]; exact hb _ (List.getElem_mem hk)
  · rw [getD_far (by omega)]; exact bd0⟩
theorem B.ofR {n a : Nat} {f : Ser Int} {r : List Int} (h : R f r) (hl : r.length ≤ n) (hb : ∀ x ∈ r, RR.bd a x) : B n a f := h.sr ▸ B.of hl hb
theorem B.mono {n a n' a' : Nat} {f : Ser Int} (h : B n a f) (hn : n ≤ n') (ha : a ≤ a') : B n' a' f := ⟨fun k hk => h.far k (by omega), fun k => bd_mono (h.bd k) ha⟩
theorem B.cong {n a : Nat} {f g : Ser Int} (h : B n a f) (e : f = g) : B n a g := e ▸ h
theorem B.zero {n a : Nat} : B n a 0 := ⟨fun k _ => zero_co k, fun k => by rw [zero_co]; exact bd0⟩
theorem B.add {n a k b : Nat} {f g : Ser Int} (h : B n a f) (h' : B k b g) : B (max n k) (max a b + 1) (f + g) := ⟨fun j hj => by rw [Ser.add_co, h.far j (by omega), h'.far j (by omega)]; rfl, fun j => by rw [Ser.add_co]; exact bd_add (h.bd j) (h'.bd j)⟩
theorem B.add' {n a : Nat} {f g : Ser Int} (h : B n a f) (h' : B n a g) : B n (a + 1) (f + g) := by
  have := h.add h'
  rwa [Nat.max_self, Nat.max_self] at this
theorem B.neg {n a : Nat} {f : Ser Int} (h : B n a f) : B n a (-f) := ⟨fun j hj => by rw [Ser.neg_co, h.far j hj]; rfl, fun j => by rw [Ser.neg_co]; exact bd_neg (h.bd j)⟩
theorem B.sub' {n a : Nat} {f g : Ser Int} (h : B n a f) (h' : B n a g) : B n (a + 1) (f - g) := by
  rw [Lean.Grind.Ring.sub_eq_add_neg]; exact h.add' h'.neg
theorem B.scale {n a c : Nat} {q : Int} {f : Ser Int} (hq : RR.bd c q) (h : B n a f) : B n (c + a) (Ser.C q * f) := ⟨fun j hj => by rw [Ser.C_mul_co, h.far j hj, Int.mul_zero], fun j => by rw [Ser.C_mul_co]; exact bd_mul hq (h.bd j)⟩
theorem B.shift {n a k : Nat} {f : Ser Int} (h : B n a f) : B (k + n) a (xp k * f) := ⟨fun j hj => by
  rw [xp_mul_co]; split
  · exact h.far _ (by omega)
  · rfl, fun j => by
  rw [xp_mul_co]; split
  · exact h.bd _
  · exact bd0⟩
theorem B.xp {k : Nat} : B (k + 1) 1 (RR.xp k : Ser Int) := ⟨fun j hj => by rw [xp_co, if_neg (by omega)], fun j => by rw [xp_co]; split <;> (unfold RR.bd; decide)⟩
theorem B.C {a : Nat} {c : Int} (h : RR.bd a c) : B 1 a (Ser.C c) := ⟨fun j hj => by rw [Ser.C_co, if_neg (by omega)], fun j => by
  rw [Ser.C_co]; split
  · exact h
  · exact bd0⟩
theorem bd_sum {n a : Nat} {x : Int} : x.natAbs ≤ n * 2 ^ a → x.natAbs < (n + 1) * 2 ^ a := fun h => by
  have := Nat.pow_pos (n := a) (show 0 < 2 by decide)
  rw [Nat.add_mul]; omega
theorem mulc_le {a b : Nat} : ∀ (k n : Nat) (f g : Ser Int), (∀ j, n ≤ j → f.co j = 0) → (∀ j, (f.co j).natAbs ≤ 2 ^ a) → (∀ j, (g.co j).natAbs ≤ 2 ^ b) → (Ser.mulc k f g).natAbs ≤ n * 2 ^ (a + b)
  | k, 0, f, g, hf, ha, hb => by
    have e : f = 0 := Ser.ext fun j => by rw [hf j (Nat.zero_le _), zero_co]
    rw [e, show Ser.mulc k 0 g = 0 from Ser.mulc_zero k g]
    simp
  | 0, n + 1, f, g, hf, ha, hb => by
    show (f.co 0 * g.co 0).natAbs ≤ _
    rw [Int.natAbs_mul, Nat.pow_add]
    have := Nat.mul_le_mul (ha 0) (hb 0)
    rw [Nat.succ_mul]; omega
  | k + 1, n + 1, f, g, hf, ha, hb => by
    show (f.co 0 * g.co (k + 1) + Ser.mulc k f.tl g).natAbs ≤ _
    have h1 := mulc_le k n f.tl g (fun j hj => hf (j + 1) (by omega)) (fun j => ha (j + 1)) hb
    have h2 : (f.co 0 * g.co (k + 1)).natAbs ≤ 2 ^ (a + b) := by
      rw [Int.natAbs_mul, Nat.pow_add]; exact Nat.mul_le_mul (ha 0) (hb (k + 1))
    rw [Nat.succ_mul]; omega
theorem two_pow_ge (n : Nat) : n ≤ 2 ^ n := Nat.le_of_lt n.lt_two_pow_self
theorem B.mul {n a k b : Nat} {f g : Ser Int} (h : B n a f) (h' : B k b g) : B (n + k) (a + b + n) (f * g) := ⟨fun j hj => mul_far h.far h'.far j (by omega), fun j => by
  have ha : ∀ j, (f.co j).natAbs ≤ 2 ^ a := fun j => Nat.le_of_lt (h.bd j)
  have hb : ∀ j, (g.co j).natAbs ≤ 2 ^ b := fun j => Nat.le_of_lt (h'.bd j)
  cases n with
  | zero =>
    have e : f = 0 := Ser.ext fun j => by rw [h.far j (Nat.zero_le _), zero_co]
    rw [e, Lean.Grind.Semiring.zero_mul, zero_co]; exact bd0
  | succ n =>
    have := mulc_le j (n + 1) f g h.far ha hb
    rw [Ser.mul_co]
    unfold RR.bd
    refine Nat.lt_of_le_of_lt this ?_
    rw [Nat.pow_add 2 (a + b), Nat.mul_comm]
    exact Nat.mul_lt_mul_of_pos_left (Nat.lt_two_pow_self) (Nat.pow_pos (by decide))⟩
theorem bd_pow {a : Nat} {d : Int} (h : bd a d) : ∀ k : Nat, bd (k * a + 1) (d ^ k)
  | 0 => by unfold bd; simp
  | k + 1 => by
    rw [Int.pow_succ]
    refine bd_mono (bd_mul (bd_pow h k) h) ?_
    rw [Nat.succ_mul]; omega
end RR

/-! RS2: more rules for stepping -/
namespace RR
open PySem PySem.Spec PyProof.Rows L2
section
variable {M : Type} {ρ : En} {m : M} {Q : D → M → Prop} {QL : List D → M → Prop} {QB : Bool → M → Prop} {Z ex : Str → M → Prop} {nx bk ct : En → M → Prop} {rt : D → M → Prop} {t u w : DT M} {ta : DTA M} {tt tu : DTT M} {s1 s2 : DS M} {q : D → Prop} {i j : Int} {d x y : D} {xs ys : List Int} {ds es : List D}
/-! places of written tuples -/
theorem v_ix0 (h : q x) : gIx false (.tup (x :: ds)) (.int 0) q := by
  unfold gIx; dsimp only
  rw [show atI (x :: ds) 0 = some x from by unfold atI ixN; rw [if_pos (by decide), if_pos (by rw [List.length_cons]; omega)]; rfl]
  exact ⟨(fun z => nomatch z), h⟩
theorem v_ix1 (h : q y) : gIx false (.tup (x :: y :: ds)) (.int 1) q := by
  unfold gIx; dsimp only
  rw [show atI (x :: y :: ds) 1 = some y from by unfold atI ixN; rw [if_pos (by decide), if_pos (by rw [List.length_cons, List.length_cons]; omega)]; rfl]
  exact ⟨(fun z => nomatch z), h⟩
theorem v_ix2 {z : D} (h : q z) : gIx false (.tup (x :: y :: z :: ds)) (.int 2) q := by
  unfold gIx; dsimp only
  rw [show atI (x :: y :: z :: ds) 2 = some z from by unfold atI ixN; rw [if_pos (by decide), if_pos (by simp only [List.length_cons]; omega)]; rfl]
  exact ⟨(fun z => nomatch z), h⟩
/-- the last one -/
theorem v_ixm {n : Bool} (h0 : xs ≠ []) (h : q (.int (xs.getD (xs.length - 1) 0))) : gIx n (.tup (zz xs)) (.int (-1)) q := by
  have l0 := List.length_pos_iff.mpr h0
  unfold gIx; dsimp only
  have e : atI (zz xs) (-1) = some (.int (xs.getD (xs.length - 1) 0)) := by
    unfold atI ixN
    rw [List.length_map, if_neg (by decide), if_pos (by omega)]
    have e2 : (-1 + (xs.length : Int)).toNat = xs.length - 1 := by omega
    first
      | (rw [Option.bind_some, e2, List.getElem?_map, List.getElem?_eq_getElem (by omega), List.getD_eq_getElem?_getD, List.getElem?_eq_getElem (by omega)]; rfl)
      | (simp only [e2, List.getElem?_map, List.getD_eq_getElem?_getD]; rw [List.getElem?_eq_getElem (by omega)]; rfl)
  rw [e]
  exact ⟨fun _ => rfl, h⟩
/-! products, quotients of what is known to be small -/
theorem v_mulb {a b : Nat} (ha : bd a i) (hb : bd b j) (l : a + b ≤ 100000000) (h : q (.int (i * j))) : gMul (.int i) (.int j) q := v_mul (mulok ha hb l) h
theorem v_fdivb {b : Nat} (h0 : j ≠ 0) (hb : bd b j) (l : b ≤ 9000) (h : q (.int (i.fdiv j))) : gII Nd (fun i j => .int (i.fdiv j)) (.int i) (.int j) q := v_gII (nd_small h0 hb l) h
/-- no number of more than 13400 bits comes by another way of dividing -/
theorem nd_big {i j : Int} (h : j ≠ 0) (hi : bd 13400 i) : Nd i j := by
  refine ⟨h, ?_⟩
  have e : Builtin.divisionGoesByPylong i j = (decide ((if j == 0 then 0 else j.natAbs.log2 / 30 + 1) > 300) && decide ((if i == 0 then 0 else i.natAbs.log2 / 30 + 1) > (if j == 0 then 0 else j.natAbs.log2 / 30 + 1) + 150)) := rfl
  rw [e]
  by_cases i0 : i = 0
  · subst i0
    rw [if_pos (by rfl : ((0 : Int) == 0) = true)]
    rw [Bool.and_eq_false_iff]
    exact .inr (decide_eq_false (by omega))
  · have hl := (Nat.log2_lt (show i.natAbs ≠ 0 by omega)).mpr hi
    have h2 : (if i == 0 then 0 else i.natAbs.log2 / 30 + 1) ≤ 447 := by split <;> omega
    rw [Bool.and_eq_false_iff]
    by_cases q : (if j == 0 then 0 else j.natAbs.log2 / 30 + 1) > 300
    · exact .inr (decide_eq_false (by omega))
    · exact .inl (decide_eq_false q)
theorem v_fdivs (h0 : j ≠ 0) (hb : bd 9000 j ∨ bd 13400 i) (h : q (.int (i.fdiv j))) : gII Nd (fun i j => .int (i.fdiv j)) (.int i) (.int j) q := v_gII (hb.elim (fun hb => nd_small h0 hb (Nat.le_refl _)) fun hb => nd_big h0 hb) h
/-- rows and what they are divided by, little enough -/
def Sm (xs : List Int) (d : Int) : Prop := bd 9000 d ∨ (bd 13400 d ∧ ∀ x ∈ xs, bd 13400 x)
theorem Sm.of {xs : List Int} {d : Int} {k j : Nat} (h : bd k d) (hx : ∀ x ∈ xs, bd j x) (l : k ≤ 9000 ∨ (k ≤ 13400 ∧ j ≤ 13400)) : Sm xs d := by
  rcases l with l | ⟨l, l'⟩
  · exact .inl (bd_mono h l)
  · exact .inr ⟨bd_mono h l, fun x m => bd_mono (hx x m) l'⟩
theorem Sm.le {xs : List Int} {d e : Int} (h : Sm xs d) (l : ∀ k, bd k d → bd k e) : (∀ x ∈ d :: xs, bd 9000 e ∨ bd 13400 x) := fun x hx => by
  rcases h with h | ⟨h, h'⟩
  · exact .inl (l _ h)
  · rcases List.mem_cons.mp hx with rfl | hx
    · exact .inr h
    · exact .inr (h' x hx)
/-- [v] * k -/
theorem v_repl1 {v : Int} {k : Int} (h1 : k ≤ 16777216) (hm : -16777216 ≤ k) (h : q (.lst (zz (List.replicate k.toNat v)))) : gMul (.lst [.int v]) (.int k) q := by
  by_cases h0 : 0 ≤ k
  · refine v_repl h0 (by simp; omega) (by omega) rfl ?_
    unfold rep
    rw [show (List.replicate k.toNat [D.int v]).flatten = zz (List.replicate k.toNat v) from by
      simp only [zz, List.map_replicate]
      induction k.toNat with
      | zero => rfl
      | succ n ih => rw [List.replicate_succ, List.replicate_succ, List.flatten_cons, ih]; rfl]
    exact h
  · refine ⟨by omega, by omega, small_line (by rw [show k.toNat = 0 by omega]; simp), rfl, ?_⟩
    unfold rep
    rw [show k.toNat = 0 by omega] at h ⊢
    exact h
theorem zz_app : zz xs ++ zz ys = zz (xs ++ ys) := (List.map_append ..).symm
theorem v_addlz (a : xs.length + ys.length ≤ 16777216) (h : q (.lst (zz (xs ++ ys)))) : gAdd (.lst (zz xs)) (.lst (zz ys)) q := by
  refine v_addl (by simpa using a) (nls_ints _) (nls_ints _) ?_
  rw [zz_app]; exact h
theorem v_addtz (a : xs.length + ys.length ≤ 16777216) (h : q (.tup (zz (xs ++ ys)))) : gAdd (.tup (zz xs)) (.tup (zz ys)) q := by
  refine v_addt (by simpa using a) (nls_ints _) (nls_ints _) ?_
  rw [zz_app]; exact h
/-- x[k] += v of a list of whole numbers -/
def kAI (ρ : En) (i : Nat) (f : Int → Int → Int) (ds : List D) (nx : En → M → Prop) (te : DT M) (ex : Str → M → Prop) (k : D) (m1 : M) : Prop := match k with
    | .int k => (match ixN ds.length k with
      | some j => (match ds[j]? with
        | some (.int x) => te ρ m1 (fun d m2 => match d with | .int y => nx (ρ.set i (.own (ds.set j (.int (f x y))))) m2 | _ => False) ex
        | _ => False)
      | none => False)
    | _ => False
theorem v_augI {i : Nat} {f : Int → Int → Int} (e : ρ[i]? = some (.own ds)) (h : t ρ m (fun k m1 => kAI ρ i f ds nx u ex k m1) ex) : dAugI i f t u ⟨nx, rt, bk, ct, ex⟩ ρ m := by
  unfold dAugI; rw [e]; exact h
theorem v_kAI {i : Nat} {f : Int → Int → Int} {k : Int} (h0 : 0 ≤ k) (h1 : k < xs.length) (h : u ρ m (fun d m2 => kOS (fun o m2 => match o with | some y => nx (ρ.set i (.own (zz (xs.set k.toNat (f (xs.getD k.toNat 0) y))))) m2 | none => False) d m2) ex) : kAI ρ i f (zz xs) nx u ex (.int k) m := by
  unfold kAI; dsimp only
  rw [ixN_at h0 (by rw [List.length_map]; exact h1)]
  dsimp only
  have lt : k.toNat < xs.length := by omega
  rw [List.getElem?_map, List.getElem?_eq_getElem lt]
  dsimp only [Option.map_some]
  have e : (fun (d : D) (m2 : M) => kOS (fun o m2 => match o with | some y => nx (ρ.set i (.own (zz (xs.set k.toNat (f (xs.getD k.toNat 0) y))))) m2 | none => False) d m2) = (fun d m2 => match d with | .int y => nx (ρ.set i (.own ((zz xs).set k.toNat (.int (f xs[k.toNat] y))))) m2 | _ => False) := by
    funext d m2
    cases d <;> try rfl
    show nx _ m2 = nx _ m2
    simp only [zz, List.map_set, List.getD_eq_getElem?_getD, List.getElem?_eq_getElem lt]
    rfl
  rw [← e]
  exact h
/-! sources -/
theorem v_kSIr {i : Nat} {k v : Int} (h0 : 0 ≤ k) (h1 : k < xs.length) (h : nx (ρ.set i (.own (zz (xs.set k.toNat v)))) m) : kSI ρ i (zz xs) nx (.int v) (.int k) m := v_kSIz h0 h1 h
def kZip (n : Bool) (Q : List D → M → Prop) (x y : D) (m2 : M) : Prop := match x, y with
  | .lst xs, .lst ys | .tup xs, .tup ys => (n = true → D.nls xs = true ∧ D.nls ys = true) ∧ Q (zipD xs ys) m2
  | _, _ => False
theorem v_zip {n : Bool} (h : t ρ m (fun x m1 => u ρ m1 (fun y m2 => kZip n QL x y m2) Z) Z) : dZip n t u ρ m QL Z := by
  refine (?_ : t ρ m _ Z); exact h
abbrev pr2 (p : Int × Int) : D := .tup [.int p.1, .int p.2]
theorem zipD_zz : ∀ {xs ys : List Int}, zipD (zz xs) (zz ys) = (List.zip xs ys).map pr2
  | [], _ => by simp [zipD]
  | _ :: _, [] => by simp [zipD]
  | x :: xs, y :: ys => by
    show D.tup [.int x, .int y] :: zipD (zz xs) (zz ys) = _
    rw [zipD_zz, List.zip_cons_cons, List.map_cons]
theorem v_kZl {n : Bool} (h : QL ((List.zip xs ys).map pr2) m) : kZip n QL (.lst (zz xs)) (.lst (zz ys)) m := ⟨fun _ => ⟨nls_ints _, nls_ints _⟩, by rw [zipD_zz]; exact h⟩
theorem v_kZt {n : Bool} (h : QL ((List.zip xs ys).map pr2) m) : kZip n QL (.tup (zz xs)) (.tup (zz ys)) m := ⟨fun _ => ⟨nls_ints _, nls_ints _⟩, by rw [zipD_zz]; exact h⟩
theorem v_kZL {n : Bool} (e : n = true → D.nls ds = true ∧ D.nls es = true) (h : QL (zipD ds es) m) : kZip n QL (.lst ds) (.lst es) m := ⟨e, h⟩
theorem v_kZT {n : Bool} (e : n = true → D.nls ds = true ∧ D.nls es = true) (h : QL (zipD ds es) m) : kZip n QL (.tup ds) (.tup es) m := ⟨e, h⟩
/-- numbers out of pairs of numbers -/
theorem lc_zip {g : DG} {f : Int → Int → Int} (st : ∀ a ∈ xs, ∀ b ∈ ys, ∀ m (k : D → M → Prop) (l : M → Prop), k (.int (f a b)) m → g (.tup [.int a, .int b]) ρ fun ρ2 => tt ρ2 m (fun b m1 => if b = true then t ρ2 m1 k (fun _ _ => False) else l m1) (fun _ _ => False))
    (hl : xs.length ≤ 16777216) (q : QL (zz (List.zipWith f xs ys)) m) : lcGo g tt t ρ ((List.zip xs ys).map pr2) [] m QL := by
  refine lcGo_map (h := fun p => .int (f p.1 p.2)) (List.zip xs ys) (fun p hp m k l hk => ?_) (small_line (by rw [List.length_zip]; omega)) ?_
  · obtain ⟨h1, h2⟩ := List.of_mem_zip (show (p.1, p.2) ∈ _ from hp)
    exact st _ h1 _ h2 m k l hk
  · rw [show (List.zip xs ys).map (fun p => D.int (f p.1 p.2)) = zz (List.zipWith f xs ys) from by
      rw [List.zip, List.map_zipWith]
      exact (List.map_zipWith ..).symm]
    exact q
/-- a reversed range walked: i gone, n - 1 - i the number -/
theorem v_kforRR {g : DG} (n : Nat) (W : Nat → En → M → Prop) (h : W n ρ m) (e : ∀ ρ m, W 0 ρ m → nx ρ m) (st : ∀ k ρ m, k < n → W (k + 1) ρ m → g (.int k) ρ fun ρ2 => s1 ⟨fun ρ m => W k ρ m, rt, nx, fun ρ m => W k ρ m, ex⟩ ρ2 m) :
    kFor g s1 ⟨nx, rt, bk, ct, ex⟩ ρ (iota 0 n).reverse m := by
  have len : ∀ j : Nat, (iota 0 j).reverse.length = j := fun j => by unfold iota; simp
  refine ⟨fun it ρ m => ∃ j, j ≤ n ∧ it = (iota 0 j).reverse ∧ W j ρ m, ⟨n, Nat.le_refl _, rfl, h⟩, fun ρ m h => ?_, fun x r ρ m h => ?_⟩
  · obtain ⟨j, hj, e1, h⟩ := h
    have := congrArg List.length e1
    rw [len, List.length_nil] at this
    subst this
    exact e ρ m h
  · obtain ⟨j, hj, e1, h⟩ := h
    cases j with
    | zero => unfold iota at e1; simp at e1
    | succ j =>
      have e2 : (iota 0 (j + 1)).reverse = D.int (j : Nat) :: (iota 0 j).reverse := by
        unfold iota
        rw [List.range_succ, List.map_append, List.reverse_append]
        simp
      rw [e2] at e1
      obtain ⟨rfl, rfl⟩ := List.cons.inj e1
      have z := st j ρ m hj h
      have f1 : (fun ρ m => ∃ j', j' ≤ n ∧ (iota 0 j).reverse = (iota 0 j').reverse ∧ W j' ρ m) = fun ρ m => W j ρ m := by
        funext ρ m
        refine propext ⟨fun ⟨j', h1, h2, h⟩ => ?_, fun h => ⟨j, Nat.le_of_succ_le hj, rfl, h⟩⟩
        have := congrArg List.length h2
        rw [len, len] at this
        subst this
        exact h
      show g _ ρ fun ρ2 => s1 ⟨fun ρ m => ∃ j', j' ≤ n ∧ (iota 0 j).reverse = (iota 0 j').reverse ∧ W j' ρ m, rt, nx, fun ρ m => ∃ j', j' ≤ n ∧ (iota 0 j).reverse = (iota 0 j').reverse ∧ W j' ρ m, ex⟩ ρ2 m
      rw [f1]
      exact z
theorem zz_rev : (zz xs).reverse = zz xs.reverse := (List.map_reverse ..).symm
theorem v_kforZr {g : DG} (W : List Int → En → M → Prop) (h : W xs.reverse ρ m) (e : ∀ ρ m, W [] ρ m → nx ρ m) (st : ∀ x r ρ m, W (x :: r) ρ m → g (.int x) ρ fun ρ2 => s1 ⟨fun ρ m => W r ρ m, rt, nx, fun ρ m => W r ρ m, ex⟩ ρ2 m) :
    kFor g s1 ⟨nx, rt, bk, ct, ex⟩ ρ (zz xs).reverse m := by
  rw [zz_rev]; exact v_kforZ W xs.reverse h e st
/-! try, texts, truths -/
theorem v_try {es : List Str} {i j : Nat} (h : s1 ⟨nx, fun _ _ => False, fun _ _ => False, fun _ _ => False, fun x m' => x ∈ es ∧ nx (((ρ.set i .un).set j (.val (.exc x))).set i .un) m'⟩ ρ m) : dTry es i j s1 ⟨nx, rt, bk, ct, ex⟩ ρ m := h
def kIE (bs : List (Str × Bool)) (Q : D → M → Prop) (d : D) (m1 : M) : Prop := match d with | .exc x => (match bs.lookup x with | some b => Q (.bl b) m1 | none => False) | _ => False
theorem v_isE {bs : List (Str × Bool)} (h : t ρ m (fun d m1 => kIE bs Q d m1) Z) : dIsE bs t ρ m Q Z := h
theorem v_kIE {bs : List (Str × Bool)} {x : Str} {b : Bool} (e : bs.lookup x = some b) (h : Q (.bl b) m) : kIE bs Q (.exc x) m := by unfold kIE; dsimp only; rw [e]; exact h
theorem v_isBt {b : Bool} (h : q (.bl (decide (b = true)))) : gIsB (.bl b) (.bl true) q := h
theorem v_isB {a b : Bool} (h : q (.bl (decide (a = b)))) : gIsB (.bl a) (.bl b) q := h
theorem v_notB {a b : Bool} (h : q (.bl (!decide (a = b)))) : gNotB (.bl a) (.bl b) q := h
theorem v_all {bs : List Bool} (h : q (.bl (bs.all id))) : gAll [.lst (bs.map D.bl)] q := ⟨bs, rfl, h⟩
theorem v_addS (a : ds.length + es.length ≤ 16777216) (h : q (.lst (ds ++ es))) : gAddS (.lst ds) (.lst es) q := ⟨small_line a, h⟩
/-- x[::-1] -/
def kRv (Q : D → M → Prop) (x : D) (m1 : M) : Prop := match x with
  | .lst ds => D.nls ds = true ∧ Q (.lst ds.reverse) m1
  | .tup ds => D.nls ds = true ∧ Q (.tup ds.reverse) m1
  | _ => False
theorem v_rvs (h : t ρ m (fun x m1 => kRv Q x m1) Z) : dRvs t ρ m Q Z := h
theorem v_kRvl (h : Q (.lst (zz xs.reverse)) m) : kRv Q (.lst (zz xs)) m := ⟨nls_ints xs, by rw [zz_rev]; exact h⟩
theorem v_kRvt (h : Q (.tup (zz xs.reverse)) m) : kRv Q (.tup (zz xs)) m := ⟨nls_ints xs, by rw [zz_rev]; exact h⟩
theorem v_kRvL (n : D.nls ds = true) (h : Q (.lst ds.reverse) m) : kRv Q (.lst ds) m := ⟨n, h⟩
theorem v_par3 {i j l : Nat} (h : ta ρ m (fun ds m' => match ds with | [x, y, z] => nx (((ρ.set i (.val x)).set j (.val y)).set l (.val z)) m' | _ => False) ex) : dPar3 i j l ta ⟨nx, rt, bk, ct, ex⟩ ρ m := h
theorem v_repr (s : d.sho) (h : q (.str d.rep)) : gRepr [d] q := ⟨s, h⟩
theorem v_nes {x y : Str} (h : q (.bl (!decide (x = y)))) : gNe (.str x) (.str y) q := .inr ⟨_, _, rfl, rfl, h⟩
theorem v_eqs {x y : Str} (h : q (.bl (decide (x = y)))) : gEq (.str x) (.str y) q := .inr ⟨_, _, rfl, rfl, h⟩
theorem rep_ne (h : q (.bl false)) : gNe (.str d.rep) (.str d.rep) q := v_nes (by rw [decide_eq_true rfl]; exact h)
theorem rep_eq (h : q (.bl true)) : gEq (.str d.rep) (.str d.rep) q := v_eqs (by rw [decide_eq_true rfl]; exact h)
theorem v_ifnT {A E : Prop} (h : E) : if (!true) = true then A else E := h
theorem v_ifnF {A E : Prop} (h : A) : if (!false) = true then A else E := h
end
end RR

/-! VD: what the drawing state's two plain functions compute -/
namespace RR
open PySem PySem.Spec PyProof.Rows L2
local macro_rules | `(tactic| walk_at "bd") => `(tactic| first | assumption | exact bd_lit (by decide) | (with_reducible refine bd_mul ?_ ?_ <;> walk_at "bd") | (with_reducible refine bd_add ?_ ?_ <;> walk_at "bd") | (with_reducible refine bd_sub ?_ ?_ <;> walk_at "bd") | (with_reducible refine bd_neg ?_ <;> walk_at "bd"))
local macro_rules | `(tactic| walk_at "s") => `(tactic| with_reducible first
  | refine v_then ?_ | refine v_set ?_ | (apply v_var; · with_unfolding_all exact rfl) | refine v_bin ?_ | refine v_c ?_ | refine v_g0 ?_ | refine v_add ?_ | refine v_cons ?_ | refine v_nil ?_ | refine v_call ?_ | refine v_dB ?_ | refine v_next ?_ | refine v_ret ?_
  | refine v_ite ?_ | refine v_tst ?_ | refine v_kT ?_ | refine v_eqi ?_ | refine v_nei ?_ | refine v_eqr ?_ | refine v_ner ?_ | refine v_eqr0 ?_ | refine v_ner0 ?_ | refine v_eql ?_ | refine v_nel ?_ | refine v_eql0 ?_ | refine v_nel0 ?_ | refine v_isN ?_ | refine v_notN ?_
  | (apply v_bor; · with_unfolding_all exact rfl) | (apply v_own; · with_unfolding_all exact rfl) | refine v_tup ?_ | refine v_lst ?_ | (refine v_sz ?_ ?_; (· with_unfolding_all exact Nat.le_of_ble_eq_true rfl)) | (refine v_gIIz ?_ ?_; (· first | decide | omega))
  | refine v_lentz ?_ | refine v_lenlz ?_ | refine v_lent ?_ | refine v_lenl ?_ | refine v_I1 ?_ | refine v_I2 ?_ | refine v_int ?_ | refine v_seqlz ?_ | refine v_seqtz ?_ | refine v_sl ?_ | refine v_kSll ?_ | refine v_kSlt ?_ | refine v_ono ?_ | refine v_oso ?_ | refine v_kOS ?_
  | refine v_val ?_ | refine v_kVb ?_ | refine v_kVi ?_ | refine v_kVt ?_ | refine v_kVl ?_ | refine v_and ?_ | refine v_or ?_ | refine v_not ?_ | refine v_yes ?_ | refine v_if' ?_ | refine v_isi ?_ | refine v_kIii ?_ | refine v_kIib ?_ | refine v_kItt ?_
  | refine v_andV ?_ | refine v_orV ?_ | refine v_notV ?_ | refine v_kNV ?_ | refine v_neg ?_ | refine v_kNeg ?_ | refine v_seq ?_ | refine v_kSeql ?_ | refine v_kSeqt ?_ | refine v_rng1 ?_ | refine v_rng2 ?_ | refine v_enum ?_ | refine v_revr ?_ | refine v_rev ?_
  | (refine v_kR1 ?_ ?_ ?_; (· decide); (· decide))
  | (refine v_kR2 ?_ ?_ ?_ ?_ ?_; (· decide); (· decide); (· decide); (· decide))
  | refine v_gn ?_ | refine v_gt2 ?_ | refine v_gt3 ?_ | refine v_lc ?_ | refine v_for ?_ | refine v_setO ?_ | refine v_drop ?_ | (apply v_app; · with_unfolding_all exact rfl) | (apply v_setI; · with_unfolding_all exact rfl) | (apply v_rel; · with_unfolding_all exact rfl) | refine v_raise ?_ | refine v_par ?_ | refine v_kP ?_ | refine v_asg ?_
  | (apply v_aug; · with_unfolding_all exact rfl) | refine v_ifT ?_ | refine v_ifF ?_ | (refine v_pow ?_ ?_ ?_ ?_; (· decide); (· decide); (· decide)) | refine v_call0 ?_ | (apply v_lenr; · assumption) | (apply v_seqr; · assumption) | (apply v_kSeqr; · assumption) | (apply v_kSlr; · assumption))
def b__law_mixed {M : Type} : DS M :=
    (dThen (dSet 2 (dBin gAdd (dBin gAdd (dBin (gII Nz fun i j => .int (i.fmod j)) (dBin gMul (dBin gMul (dVar 0) (dBin gAdd (dC (.int 1)) (dBin gMul (dC (.int 2)) (dVar 1)))) (dC (.int 48271))) (dC (.int 2147483647))) (dBin gMul (dBin gMul (dC (.int 7919)) (dVar 1)) (dVar 1))) (dBin gMul (dC (.int 104729)) (dVar 1))))
    (dRet (dBin (gII Nd fun i j => .int (i.fdiv j)) (dBin (gII Nz fun i j => .int (i.fmod j)) (dBin gMul (dVar 2) (dC (.int 69621))) (dC (.int 2147483629))) (dC (.int 7)))))

theorem vc__law_mixed {M : Type} : ∀ ds (m : M) Q Z, s__law_mixed ds m Q Z → okK [false, false] ds ∧ b__law_mixed { nx := fun _ m' => Q .non m', rt := Q, ex := Z } (st0 [false, false] ds 3) m := by
  rintro ds m Q Z ⟨c, k, rfl, hc, k0, k1, q⟩
  refine ⟨⟨fun _ => rfl, fun _ => rfl, trivial⟩, ?_⟩
  have bc : bd 70 c := hc
  have bk : bd 62 k := by unfold bd; omega
  unfold b__law_mixed
  repeat walk_at "s"
  refine v_mul (mulok (bd_lit (n := 2) (by decide)) bk) ?_
  repeat walk_at "s"
  have b1 : bd 64 (1 + 2 * k) := by unfold bd; omega
  refine v_mul (mulok bc b1) ?_
  repeat walk_at "s"
  refine v_mul (mulok (bd_mul bc b1) (bd_lit (n := 16) (by decide))) ?_
  repeat walk_at "s"
  refine v_mul (mulok (bd_lit (n := 13) (by decide)) bk) ?_
  repeat walk_at "s"
  refine v_mul (mulok (bd_mul (bd_lit (n := 13) (by decide)) bk) bk) ?_
  repeat walk_at "s"
  refine v_mul (mulok (bd_lit (n := 17) (by decide)) bk) ?_
  repeat walk_at "s"
  have b2 : bd 31 ((c * (1 + 2 * k) * 48271).fmod 2147483647) := bd_fmod (bd_lit (by decide)) (by decide)
  have b3 := bd_add (bd_add b2 (bd_mul (bd_mul (bd_lit (n := 13) (x := 7919) (by decide)) bk) bk)) (bd_mul (bd_lit (n := 17) (x := 104729) (by decide)) bk)
  refine v_mul (mulok b3 (bd_lit (n := 17) (by decide))) ?_
  repeat walk_at "s"
  refine v_gII (nd_small (b := 8) (by decide) (bd_lit (by decide))) ?_
  have h0 := Int.fmod_nonneg_of_pos (((c * (1 + 2 * k) * 48271).fmod 2147483647 + 7919 * k * k + 104729 * k) * 69621) (show (0 : Int) < 2147483629 by decide)
  have h1 := Int.fmod_lt_of_pos (((c * (1 + 2 * k) * 48271).fmod 2147483647 + 7919 * k * k + 104729 * k) * 69621) (show (0 : Int) < 2147483629 by decide)
  refine q _ ?_ ?_
  · rw [fdiv_pos (by decide)]; omega
  · rw [fdiv_pos (by decide)]; omega
def b__law_folded {M : Type} : DS M :=
    (dThen (dSetO 1 (dLc (dRng1 (dCons (dC (.int 64)) dNil)) (dgN 2) dYes (dBin gAdd (dC (.int 17)) (dVar 2)) [2]))
    (dThen (dFor (dEnum true (dBor 0)) (dgT 2 (dgCons (dgN 2) (dgCons (dgN 3) dgNil)))
      (dSetI 1 (dBin (gII Nz fun i j => .int (i.fmod j)) (dBin gAdd (dBin gMul (dBin (gIx true) (dOwn 1) (dBin (gII Nz fun i j => .int (i.fmod j)) (dVar 2) (dC (.int 64)))) (dC (.int 48271))) (dVar 3)) (dC (.int 2147483647))) (dBin (gII Nz fun i j => .int (i.fmod j)) (dVar 2) (dC (.int 64)))))
    (dThen (dFor (dRng2 (dCons (dC (.int 1)) (dCons (dC (.int 64)) dNil))) (dgN 2)
      (dSetI 1 (dBin (gII Nz fun i j => .int (i.fmod j)) (dBin gAdd (dBin (gIx true) (dOwn 1) (dVar 2)) (dBin gMul (dBin (gIx true) (dOwn 1) (dBin (g0 fun i j => .int (i - j)) (dVar 2) (dC (.int 1)))) (dC (.int 16807)))) (dC (.int 2147483647))) (dVar 2)))
    (dRet (dOwn 1)))))

theorem fold_set {cs : List Int} {j : Nat} {v : Int} (l : cs.length = 64) (h : ∀ c ∈ cs, 0 ≤ c ∧ c < 2147483647) (h0 : 0 ≤ v) (h1 : v < 2147483647) : (cs.set j v).length = 64 ∧ ∀ c ∈ cs.set j v, 0 ≤ c ∧ c < 2147483647 :=
  ⟨by rw [List.length_set]; exact l, fun c hc => (List.mem_or_eq_of_mem_set hc).elim (h c) fun e => by rw [e]; exact ⟨h0, h1⟩⟩
theorem vc__law_folded {M : Type} : ∀ ds (m : M) Q Z, s__law_folded ds m Q Z → okK [true] ds ∧ b__law_folded { nx := fun _ m' => Q .non m', rt := Q, ex := Z } (st0 [true] ds 4) m := by
  rintro ds m Q Z ⟨ns, rfl, hl, q⟩
  refine ⟨⟨fun h => (nomatch h), trivial⟩, ?_⟩
  unfold b__law_folded
  repeat walk_at "s"
  refine lc_rz (f := fun j => 17 + (j : Int)) 64 (fun a _ m1 k l hk => ?_) (by decide) ?_
  · repeat walk_at "s"
    exact hk
  have c0 : ∀ c ∈ (List.range 64).map (fun j : Nat => 17 + (j : Int)), 0 ≤ c ∧ c < 2147483647 := fun c hc => by
    obtain ⟨j, hj, rfl⟩ := List.mem_map.mp hc
    have := List.mem_range.mp hj
    omega
  have l0 : ((List.range 64).map (fun j : Nat => 17 + (j : Int))).length = 64 := by rw [List.length_map, List.length_range]
  generalize (List.range 64).map (fun j : Nat => 17 + (j : Int)) = cs at c0 l0 ⊢
  refine v_kO (nls_ints cs) ?_
  repeat walk_at "s"
  refine v_kforE (fun j r ρ m' => ∃ a2 a3 cs, ρ = [.bor (.lst (zz ns)), .own (zz cs), a2, a3] ∧ m' = m ∧ cs.length = 64 ∧ ∀ c ∈ cs, 0 ≤ c ∧ c < 2147483647) ns ⟨_, _, _, rfl, rfl, l0, c0⟩ (fun j ρ m' h => ?_) fun j x r ρ m' N h hN => ?_
  · obtain ⟨a2, a3, cs, rfl, rfl, lc, hc⟩ := h
    repeat walk_at "s"
    refine v_kforR 63 (fun k ρ m1 => ∃ a2 a3 cs, ρ = [.bor (.lst (zz ns)), .own (zz cs), a2, a3] ∧ m1 = m' ∧ cs.length = 64 ∧ ∀ c ∈ cs, 0 ≤ c ∧ c < 2147483647) ⟨_, _, _, rfl, rfl, lc, hc⟩ (fun ρ m' h => ?_) fun k ρ m' hk h => ?_
    · obtain ⟨a2, a3, cs, rfl, rfl, lc, hc⟩ := h
      repeat walk_at "s"
      exact q cs lc hc
    obtain ⟨a2, a3, cs, rfl, rfl, lc, hc⟩ := h
    repeat walk_at "s"
    refine v_ixl (by omega) (by omega) ?_
    obtain ⟨y0, y1⟩ := hc _ (nth_mem (xs := cs) (i := 1 + (k : Int)) (by omega) (by omega))
    generalize nth cs (1 + (k : Int)) = y at y0 y1 ⊢
    repeat walk_at "s"
    refine v_ixl (by omega) (by omega) ?_
    obtain ⟨z0, z1⟩ := hc _ (nth_mem (xs := cs) (i := 1 + (k : Int) - 1) (by omega) (by omega))
    generalize nth cs (1 + (k : Int) - 1) = z at z0 z1 ⊢
    have bz : bd 31 z := by unfold bd; omega
    repeat walk_at "s"
    refine v_mul (mulok bz (bd_lit (n := 15) (by decide))) ?_
    repeat walk_at "s"
    have v0 := Int.fmod_nonneg_of_pos (y + z * 16807) (show (0 : Int) < 2147483647 by decide)
    have v1 := Int.fmod_lt_of_pos (y + z * 16807) (show (0 : Int) < 2147483647 by decide)
    refine v_kSIz (by omega) (by omega) ?_
    obtain ⟨p1, p2⟩ := fold_set (j := (1 + (k : Int)).toNat) lc hc v0 v1
    exact ⟨_, _, _, rfl, rfl, p1, p2⟩
  · obtain ⟨a2, a3, cs, rfl, rfl, lc, hc⟩ := h
    have k0 := Int.fmod_nonneg_of_pos (j : Int) (show (0 : Int) < 64 by decide)
    have k1 := Int.fmod_lt_of_pos (j : Int) (show (0 : Int) < 64 by decide)
    repeat walk_at "s"
    refine v_ixl k0 (by omega) ?_
    obtain ⟨z0, z1⟩ := hc _ (nth_mem (xs := cs) k0 (by omega))
    generalize nth cs ((j : Int).fmod 64) = z at z0 z1 ⊢
    have bz : bd 31 z := by unfold bd; omega
    repeat walk_at "s"
    refine v_mul (mulok bz (bd_lit (n := 16) (by decide))) ?_
    repeat walk_at "s"
    have v0 := Int.fmod_nonneg_of_pos (z * 48271 + x) (show (0 : Int) < 2147483647 by decide)
    have v1 := Int.fmod_lt_of_pos (z * 48271 + x) (show (0 : Int) < 2147483647 by decide)
    refine v_kSIz k0 (by omega) ?_
    obtain ⟨p1, p2⟩ := fold_set (j := ((j : Int).fmod 64).toNat) lc hc v0 v1
    exact hN _ _ ⟨_, _, _, rfl, rfl, p1, p2⟩
end RR

namespace RR
open PySem PySem.Spec PyProof.Rows L2
def topS (i : Nat) : Stmt := PySem.Challenge.pw_rootring_k25_rows_without_factors.main.body.getD i (.Pass ⟨0, 0, 0, 0⟩)
end RR
/-! VN: whole numbers and fractions -/
namespace RR
open PySem PySem.Spec PyProof.Rows L2
local macro_rules | `(tactic| walk_at "bd") => `(tactic| first | assumption | exact bd_lit (by decide) | (with_reducible refine bd_mul ?_ ?_ <;> walk_at "bd") | (with_reducible refine bd_add ?_ ?_ <;> walk_at "bd") | (with_reducible refine bd_sub ?_ ?_ <;> walk_at "bd") | (with_reducible refine bd_neg ?_ <;> walk_at "bd"))
local macro_rules | `(tactic| walk_at "s") => `(tactic| with_reducible first
  | refine v_then ?_ | refine v_set ?_ | (apply v_var; · with_unfolding_all exact rfl) | refine v_bin ?_ | refine v_c ?_ | refine v_g0 ?_ | refine v_add ?_ | refine v_cons ?_ | refine v_nil ?_ | refine v_call ?_ | refine v_dB ?_ | refine v_next ?_ | refine v_ret ?_
  | refine v_ite ?_ | refine v_tst ?_ | refine v_kT ?_ | refine v_eqi ?_ | refine v_nei ?_ | refine v_eqr ?_ | refine v_ner ?_ | refine v_eqr0 ?_ | refine v_ner0 ?_ | refine v_eql ?_ | refine v_nel ?_ | refine v_eql0 ?_ | refine v_nel0 ?_ | refine v_isN ?_ | refine v_notN ?_
  | (apply v_bor; · with_unfolding_all exact rfl) | (apply v_own; · with_unfolding_all exact rfl) | refine v_tup ?_ | refine v_lst ?_ | (refine v_sz ?_ ?_; (· with_unfolding_all exact Nat.le_of_ble_eq_true rfl)) | (refine v_gIIz ?_ ?_; (· first | decide | omega))
  | refine v_lentz ?_ | refine v_lenlz ?_ | refine v_lent ?_ | refine v_lenl ?_ | refine v_I1 ?_ | refine v_I2 ?_ | refine v_int ?_ | refine v_seqlz ?_ | refine v_seqtz ?_ | refine v_sl ?_ | refine v_kSll ?_ | refine v_kSlt ?_ | refine v_ono ?_ | refine v_oso ?_ | refine v_kOS ?_
  | refine v_val ?_ | refine v_kVb ?_ | refine v_kVi ?_ | refine v_kVt ?_ | refine v_kVl ?_ | refine v_and ?_ | refine v_or ?_ | refine v_not ?_ | refine v_yes ?_ | refine v_if' ?_ | refine v_isi ?_ | refine v_kIii ?_ | refine v_kIib ?_ | refine v_kItt ?_
  | refine v_andV ?_ | refine v_orV ?_ | refine v_notV ?_ | refine v_kNV ?_ | refine v_neg ?_ | refine v_kNeg ?_ | refine v_seq ?_ | refine v_kSeql ?_ | refine v_kSeqt ?_ | refine v_rng1 ?_ | refine v_rng2 ?_ | refine v_enum ?_ | refine v_revr ?_ | refine v_rev ?_
  | (refine v_kR1 ?_ ?_ ?_; (· decide); (· decide))
  | (refine v_kR2 ?_ ?_ ?_ ?_ ?_; (· decide); (· decide); (· decide); (· decide))
  | refine v_gn ?_ | refine v_gt2 ?_ | refine v_gt3 ?_ | refine v_lc ?_ | refine v_for ?_ | refine v_setO ?_ | refine v_drop ?_ | (apply v_app; · with_unfolding_all exact rfl) | (apply v_setI; · with_unfolding_all exact rfl) | (apply v_rel; · with_unfolding_all exact rfl) | refine v_raise ?_ | refine v_par ?_ | refine v_kP ?_ | refine v_asg ?_
  | (apply v_aug; · with_unfolding_all exact rfl) | refine v_ifT ?_ | refine v_ifF ?_ | (refine v_pow ?_ ?_ ?_ ?_; (· decide); (· decide); (· decide)) | refine v_call0 ?_ | (apply v_lenr; · assumption) | (apply v_seqr; · assumption) | (apply v_kSeqr; · assumption) | (apply v_kSlr; · assumption)
  | refine v_ix0 ?_ | refine v_ix1 ?_ | refine v_ix2 ?_ | refine v_zip ?_ | refine v_kZl ?_ | refine v_kZt ?_ | (apply v_augI; · with_unfolding_all exact rfl) | refine v_try ?_ | refine v_isE ?_ | (refine v_kIE ?_ ?_; (· with_unfolding_all exact rfl)) | refine v_isB ?_ | refine v_notB ?_ | refine v_all ?_ | refine v_par3 ?_ | refine v_ifnT ?_ | refine v_ifnF ?_ | refine v_eqs ?_ | refine v_nes ?_ | refine v_rvs ?_ | refine v_kRvl ?_ | refine v_kRvt ?_
  | (refine v_mulb (a := ?a) (b := ?b) ?ha ?hb ?l ?h; (case ha => assumption); (case hb => assumption); (case l => omega)) | (refine v_fdivb (b := ?b) ?h0 ?hb ?l ?h; (case h0 => assumption); (case hb => assumption); (case l => omega)))
theorem gcd_step {x y : Int} (h0 : 0 ≤ x) (h1 : 0 < y) : Int.gcd y (x.fmod y) = Int.gcd x y := by
  rw [Int.fmod_eq_emod_of_nonneg x (Int.le_of_lt h1)]
  obtain ⟨a, rfl⟩ := Int.eq_ofNat_of_zero_le h0
  obtain ⟨b, rfl⟩ := Int.eq_ofNat_of_zero_le (Int.le_of_lt h1)
  rw [← Int.natCast_emod]
  show Nat.gcd _ _ = Nat.gcd _ _
  simp only [Int.natAbs_natCast]
  rw [Nat.gcd_comm, ← Nat.gcd_rec, Nat.gcd_comm]
theorem gcd_abs (x y : Int) : Int.gcd (iabs x) (iabs y) = Int.gcd x y := by
  rw [iabs_eq, iabs_eq]; unfold Int.gcd; simp
theorem gcd_zero {x : Int} (h : 0 ≤ x) : (Int.gcd x 0 : Int) = x := by rw [Int.gcd_zero]; omega
def b_numbers_common {M : Type} : DS M :=
    (dThen (dPar 0 1 (dCons (dB (gI1 iabs) (dCons (dVar 0) dNil)) (dCons (dB (gI1 iabs) (dCons (dVar 1) dNil)) dNil)))
    (dThen (dWhile (dTst (dBin gGt (dVar 1) (dC (.int 0))))
      (dPar 0 1 (dCons (dVar 1) (dCons (dBin (gII Nz fun i j => .int (i.fmod j)) (dVar 0) (dVar 1)) dNil))))
    (dRet (dVar 0))))

def s_numbers_common {M : Type} : DSp M := fun ds m Q Z => ∃ x y, ds = [.int x, .int y] ∧ Q (.int (Int.gcd x y)) m
theorem vc_numbers_common {M : Type} : ∀ ds (m : M) Q Z, s_numbers_common ds m Q Z → okK [false, false] ds ∧ b_numbers_common { nx := fun _ m' => Q .non m', rt := Q, ex := Z } (st0 [false, false] ds 2) m := by
  rintro ds m Q Z ⟨x, y, rfl, q⟩
  refine ⟨⟨fun _ => rfl, fun _ => rfl, trivial⟩, ?_⟩
  unfold b_numbers_common
  repeat walk_at "s"
  refine v_while (fun n ρ m' => m' = m ∧ ∃ a b : Int, ρ = [.val (.int a), .val (.int b)] ∧ 0 ≤ a ∧ 0 ≤ b ∧ n = b.toNat ∧ Int.gcd a b = Int.gcd x y) _ ⟨rfl, _, _, rfl, by rw [iabs_eq]; omega, by rw [iabs_eq]; omega, rfl, gcd_abs x y⟩ fun n ρ m' h => ?_
  obtain ⟨rfl, a, b, rfl, ha, hb, rfl, e⟩ := h
  repeat walk_at "s"
  refine v_ifd (fun h => ?_) fun h => ?_
  · have h1 := Int.fmod_nonneg_of_pos a h
    have h2 := Int.fmod_lt_of_pos a h
    repeat walk_at "s"
    exact ⟨_, by omega, rfl, _, _, rfl, hb, h1, rfl, by rw [gcd_step ha h]; exact e⟩
  · repeat walk_at "s"
    obtain rfl : b = 0 := by omega
    rw [← e, gcd_zero ha] at q
    exact q
/-- the greatest that divides all -/
def gcdL (xs : List Int) : Nat := xs.foldl (fun g x => Int.gcd g x) 0
def b__law_common {M : Type} : DS M :=
    (dThen (dSet 1 (dC (.int 0)))
    (dThen (dFor (dSeq true (dBor 0)) (dgN 2)
      (dThen (dPar 3 4 (dCons (dVar 1) (dCons (dB (gI1 iabs) (dCons (dVar 2) dNil)) dNil)))
    (dThen (dWhile (dTst (dBin gGt (dVar 4) (dC (.int 0))))
      (dPar 3 4 (dCons (dVar 4) (dCons (dBin (gII Nz fun i j => .int (i.fmod j)) (dVar 3) (dVar 4)) dNil))))
    (dSet 1 (dVar 3)))))
    (dRet (dVar 1))))

def s__law_common {M : Type} : DSp M := fun ds m Q Z => ∃ xs, ds = [.lst (zz xs)] ∧ Q (.int (gcdL xs)) m
theorem vc__law_common {M : Type} : ∀ ds (m : M) Q Z, s__law_common ds m Q Z → okK [true] ds ∧ b__law_common { nx := fun _ m' => Q .non m', rt := Q, ex := Z } (st0 [true] ds 5) m := by
  rintro ds m Q Z ⟨xs, rfl, q⟩
  refine ⟨⟨fun z => (nomatch z), trivial⟩, ?_⟩
  unfold b__law_common
  repeat walk_at "s"
  refine v_kforZ (fun r ρ m' => m' = m ∧ ∃ (g : Nat) (a2 a3 a4 : Sl), ρ = [.bor (.lst (zz xs)), .val (.int g), a2, a3, a4] ∧ r.foldl (fun g x => Int.gcd g x) g = gcdL xs) xs ⟨rfl, 0, _, _, _, rfl, rfl⟩ (fun ρ m' h => ?_) fun x r ρ m' h => ?_
  · obtain ⟨rfl, g, _, _, _, rfl, e⟩ := h
    repeat walk_at "s"
    rw [← e] at q
    exact q
  · obtain ⟨rfl, g, _, _, _, rfl, e⟩ := h
    repeat walk_at "s"
    refine v_while (fun n ρ m1 => m1 = m' ∧ ∃ a b : Int, ρ = [.bor (.lst (zz xs)), .val (.int g), .val (.int x), .val (.int a), .val (.int b)] ∧ 0 ≤ a ∧ 0 ≤ b ∧ n = b.toNat ∧ Int.gcd a b = Int.gcd g x) _ ⟨rfl, _, _, rfl, by omega, by rw [iabs_eq]; omega, rfl, by rw [iabs_eq]; unfold Int.gcd; simp⟩ fun n ρ m' h => ?_
    obtain ⟨rfl, a, b, rfl, ha, hb, rfl, e2⟩ := h
    repeat walk_at "s"
    refine v_ifd (fun h => ?_) fun h => ?_
    · have h1 := Int.fmod_nonneg_of_pos a h
      have h2 := Int.fmod_lt_of_pos a h
      repeat walk_at "s"
      exact ⟨_, by omega, rfl, _, _, rfl, hb, h1, rfl, by rw [gcd_step ha h]; exact e2⟩
    · repeat walk_at "s"
      obtain rfl : b = 0 := by omega
      rw [gcd_zero ha |>.symm, e2]
      exact ⟨rfl, Int.gcd g x, _, _, _, rfl, e⟩
/-! ### fractions -/
/-- a fraction -/
abbrev pq (r : Rat) : D := .tup [.int r.num, .int r.den]
theorem pq_inj {r s : Rat} (h : pq r = pq s) : r = s := by
  have h1 : r.num = s.num := by injection h with h; injection h with h1 h2; injection h1
  have h2 : (r.den : Int) = s.den := by injection h with h; injection h with h1 h2; injection h2 with h3 _; injection h3
  exact Rat.ext h1 (by omega)
def part (n d : Int) : Int := if 0 < d then (Int.gcd n d : Int) else 0 - (Int.gcd n d : Int)
theorem part_ne {n d : Int} (hd : d ≠ 0) : part n d ≠ 0 := by
  have : Int.gcd n d ≠ 0 := fun e => hd (Int.gcd_eq_zero_iff.mp e).2
  unfold part; split <;> omega
theorem part_bd {n d : Int} {b : Nat} (hd : d ≠ 0) (h : bd b d) : bd b (part n d) := by
  have h1 : Int.gcd n d ≤ d.natAbs := Nat.le_of_dvd (by omega) (Nat.gcd_dvd_right _ _)
  unfold bd at *
  unfold part; split <;> omega
theorem low_num {n d : Int} (hd : d ≠ 0) : n.fdiv (part n d) = ((n : Rat) / (d : Rat)).num := by
  rw [← Rat.divInt_eq_div, Rat.num_divInt]
  have g0 : Int.gcd n d ≠ 0 := fun e => hd (Int.gcd_eq_zero_iff.mp e).2
  obtain ⟨k, hk⟩ : ((Int.gcd n d : Nat) : Int) ∣ n := Int.gcd_dvd_left ..
  rw [Int.gcd_comm d n]
  unfold part
  generalize hg : Int.gcd n d = g at *
  have gp : (0 : Int) < g := by omega
  by_cases h : 0 < d
  · rw [if_pos h, Int.sign_eq_one_of_pos h, Int.one_mul, fdiv_pos (by omega)]
  · rw [if_neg h, Int.sign_eq_neg_one_of_neg (by omega), hk]
    rw [show -1 * ((g : Int) * k) = g * (-k) by rw [Int.mul_neg]; omega, Int.mul_ediv_cancel_left _ (by omega), show (0 : Int) - g = -g by omega]
    rw [show (g : Int) * k = (-g) * (-k) by rw [Int.neg_mul_neg], Int.mul_fdiv_cancel_left _ (by omega)]
theorem low_den {n d : Int} (hd : d ≠ 0) : d.fdiv (part n d) = (((n : Rat) / (d : Rat)).den : Int) := by
  rw [← Rat.divInt_eq_div, Rat.den_divInt, if_neg hd]
  have g0 : Int.gcd n d ≠ 0 := fun e => hd (Int.gcd_eq_zero_iff.mp e).2
  obtain ⟨k, hk⟩ : ((Int.gcd n d : Nat) : Int) ∣ d := Int.gcd_dvd_right ..
  rw [Int.gcd_comm d n, Int.natCast_ediv]
  unfold part
  generalize hg : Int.gcd n d = g at *
  have gp : (0 : Int) < g := by omega
  by_cases h : 0 < d
  · rw [if_pos h, fdiv_pos (by omega), Int.natAbs_of_nonneg (by omega)]
  · rw [if_neg h, Int.ofNat_natAbs_of_nonpos (by omega)]
    rw [hk, show (0 : Int) - g = -g by omega, show -((g : Int) * k) = g * (-k) by rw [Int.mul_neg], Int.mul_ediv_cancel_left _ (by omega)]
    rw [show (g : Int) * k = (-g) * (-k) by rw [Int.neg_mul_neg], Int.mul_fdiv_cancel_left _ (by omega)]
def b_fractions_fraction {M : Type} : DS M :=
    (dThen (dIte (dTst (dBin gEq (dVar 1) (dC (.int 0))))
      (dRaise "ByNought")
      dNext)
    (dThen (dSet 2 (dCall s_numbers_common [] (dCons (dVar 0) (dCons (dVar 1) dNil))))
    (dThen (dSet 2 (dIf (dTst (dBin gGt (dVar 1) (dC (.int 0)))) (dVar 2) (dBin (g0 fun i j => .int (i - j)) (dC (.int 0)) (dVar 2))))
    (dRet (dTup (dCons (dBin (gII Nd fun i j => .int (i.fdiv j)) (dVar 0) (dVar 2)) (dCons (dBin (gII Nd fun i j => .int (i.fdiv j)) (dVar 1) (dVar 2)) dNil)))))))

/-- by nought, else the fraction -/
def s_fractions_fraction {M : Type} : DSp M := fun ds m Q Z => ∃ n d, ds = [.int n, .int d] ∧ (d = 0 → Z "ByNought" m) ∧ (d ≠ 0 → Sm [n] d ∧ Q (pq ((n : Rat) / (d : Rat))) m)
theorem vc_fractions_fraction {M : Type} : ∀ ds (m : M) Q Z, s_fractions_fraction ds m Q Z → okK [false, false] ds ∧ b_fractions_fraction { nx := fun _ m' => Q .non m', rt := Q, ex := Z } (st0 [false, false] ds 3) m := by
  rintro ds m Q Z ⟨n, d, rfl, z, q⟩
  refine ⟨⟨fun _ => rfl, fun _ => rfl, trivial⟩, ?_⟩
  unfold b_fractions_fraction
  repeat walk_at "s"
  refine v_ifd (fun h => ?_) fun h => ?_
  · repeat walk_at "s"
    exact z h
  obtain ⟨hb, q⟩ := q h
  repeat walk_at "s"
  refine ⟨n, d, rfl, ?_⟩
  have pn := part_ne (n := n) h
  have pb := Sm.le hb fun _ z => part_bd (n := n) h z
  repeat walk_at "s"
  have fin : ∀ p, p = part n d → (dRet (dTup (dCons (dBin (gII Nd fun i j => .int (i.fdiv j)) (dVar 0) (dVar 2)) (dCons (dBin (gII Nd fun i j => .int (i.fdiv j)) (dVar 1) (dVar 2)) dNil))) : DS M)
      { nx := fun _ m' => Q .non m', rt := Q, ex := Z } [.val (.int n), .val (.int d), .val (.int p)] m := fun p e => by
    subst e
    repeat walk_at "s"
    refine v_fdivs pn (pb n (by simp)) ?_
    repeat walk_at "s"
    refine v_fdivs pn (pb d (by simp)) ?_
    repeat walk_at "s"
    rw [low_num h, low_den h]
    exact q
  refine v_ifd (fun h => ?_) fun h => ?_
  · repeat walk_at "s"
    exact fin _ (by unfold part; rw [if_pos h])
  · repeat walk_at "s"
    exact fin _ (by unfold part; rw [if_neg h])
def b__law_lowest {M : Type} : DS M :=
    (dThen (dSet 2 (dCall s__law_common [] (dCons (dLst (dCons (dVar 0) (dCons (dVar 1) dNil))) dNil)))
    (dThen (dSet 2 (dIf (dTst (dBin gGt (dVar 1) (dC (.int 0)))) (dVar 2) (dBin (g0 fun i j => .int (i - j)) (dC (.int 0)) (dVar 2))))
    (dRet (dTup (dCons (dBin (gII Nd fun i j => .int (i.fdiv j)) (dVar 0) (dVar 2)) (dCons (dBin (gII Nd fun i j => .int (i.fdiv j)) (dVar 1) (dVar 2)) dNil))))))

def s__law_lowest {M : Type} : DSp M := fun ds m Q Z => ∃ n d, ds = [.int n, .int d] ∧ d ≠ 0 ∧ bd 9000 d ∧ Q (pq ((n : Rat) / (d : Rat))) m
theorem gcdL_two (n d : Int) : gcdL [n, d] = Int.gcd n d := by
  unfold gcdL
  simp [Int.gcd]
theorem vc__law_lowest {M : Type} : ∀ ds (m : M) Q Z, s__law_lowest ds m Q Z → okK [false, false] ds ∧ b__law_lowest { nx := fun _ m' => Q .non m', rt := Q, ex := Z } (st0 [false, false] ds 3) m := by
  rintro ds m Q Z ⟨n, d, rfl, h, hb, q⟩
  refine ⟨⟨fun _ => rfl, fun _ => rfl, trivial⟩, ?_⟩
  unfold b__law_lowest
  repeat walk_at "s"
  refine ⟨[n, d], rfl, ?_⟩
  rw [gcdL_two]
  have pn := part_ne (n := n) h
  have pb := part_bd (n := n) h hb
  repeat walk_at "s"
  have fin : ∀ p, p = part n d → (dRet (dTup (dCons (dBin (gII Nd fun i j => .int (i.fdiv j)) (dVar 0) (dVar 2)) (dCons (dBin (gII Nd fun i j => .int (i.fdiv j)) (dVar 1) (dVar 2)) dNil))) : DS M)
      { nx := fun _ m' => Q .non m', rt := Q, ex := Z } [.val (.int n), .val (.int d), .val (.int p)] m := fun p e => by
    subst e
    repeat walk_at "s"
    rw [low_num h, low_den h]
    exact q
  refine v_ifd (fun h => ?_) fun h => ?_
  · repeat walk_at "s"
    exact fin _ (by unfold part; rw [if_pos h])
  · repeat walk_at "s"
    exact fin _ (by unfold part; rw [if_neg h])
end RR

/-! VR: rows -/
namespace RR
open PySem PySem.Spec PyProof.Rows L2
local macro_rules | `(tactic| walk_at "bd") => `(tactic| first | assumption | exact bd_lit (by decide) | (with_reducible refine bd_mul ?_ ?_ <;> walk_at "bd") | (with_reducible refine bd_add ?_ ?_ <;> walk_at "bd") | (with_reducible refine bd_sub ?_ ?_ <;> walk_at "bd") | (with_reducible refine bd_neg ?_ <;> walk_at "bd"))
local macro_rules | `(tactic| walk_at "s") => `(tactic| with_reducible first
  | refine v_then ?_ | refine v_set ?_ | (apply v_var; · with_unfolding_all exact rfl) | refine v_bin ?_ | refine v_c ?_ | refine v_g0 ?_ | refine v_add ?_ | refine v_cons ?_ | refine v_nil ?_ | refine v_call ?_ | refine v_dB ?_ | refine v_next ?_ | refine v_ret ?_
  | refine v_ite ?_ | refine v_tst ?_ | refine v_kT ?_ | refine v_eqi ?_ | refine v_nei ?_ | refine v_eqr ?_ | refine v_ner ?_ | refine v_eqr0 ?_ | refine v_ner0 ?_ | refine v_eql ?_ | refine v_nel ?_ | refine v_eql0 ?_ | refine v_nel0 ?_ | refine v_isN ?_ | refine v_notN ?_
  | (apply v_bor; · with_unfolding_all exact rfl) | (apply v_own; · with_unfolding_all exact rfl) | refine v_tup ?_ | refine v_lst ?_ | (refine v_sz ?_ ?_; (· with_unfolding_all exact Nat.le_of_ble_eq_true rfl)) | (refine v_gIIz ?_ ?_; (· first | decide | omega))
  | refine v_lentz ?_ | refine v_lenlz ?_ | refine v_lent ?_ | refine v_lenl ?_ | refine v_I1 ?_ | refine v_I2 ?_ | refine v_int ?_ | refine v_seqlz ?_ | refine v_seqtz ?_ | refine v_sl ?_ | refine v_kSll ?_ | refine v_kSlt ?_ | refine v_ono ?_ | refine v_oso ?_ | refine v_kOS ?_
  | refine v_val ?_ | refine v_kVb ?_ | refine v_kVi ?_ | refine v_kVt ?_ | refine v_kVl ?_ | refine v_and ?_ | refine v_or ?_ | refine v_not ?_ | refine v_yes ?_ | refine v_if' ?_ | refine v_isi ?_ | refine v_kIii ?_ | refine v_kIib ?_ | refine v_kItt ?_
  | refine v_andV ?_ | refine v_orV ?_ | refine v_notV ?_ | refine v_kNV ?_ | refine v_neg ?_ | refine v_kNeg ?_ | refine v_seq ?_ | refine v_kSeql ?_ | refine v_kSeqt ?_ | refine v_rng1 ?_ | refine v_rng2 ?_ | refine v_enum ?_ | refine v_revr ?_ | refine v_rev ?_
  | (refine v_kR1 ?_ ?_ ?_; (· decide); (· decide))
  | (refine v_kR2 ?_ ?_ ?_ ?_ ?_; (· decide); (· decide); (· decide); (· decide))
  | refine v_gn ?_ | refine v_gt2 ?_ | refine v_gt3 ?_ | refine v_lc ?_ | refine v_for ?_ | refine v_setO ?_ | refine v_drop ?_ | (apply v_app; · with_unfolding_all exact rfl) | (apply v_setI; · with_unfolding_all exact rfl) | (apply v_rel; · with_unfolding_all exact rfl) | refine v_raise ?_ | refine v_par ?_ | refine v_kP ?_ | refine v_asg ?_
  | (apply v_aug; · with_unfolding_all exact rfl) | refine v_ifT ?_ | refine v_ifF ?_ | (refine v_pow ?_ ?_ ?_ ?_; (· decide); (· decide); (· decide)) | refine v_call0 ?_ | (apply v_lenr; · assumption) | (apply v_seqr; · assumption) | (apply v_kSeqr; · assumption) | (apply v_kSlr; · assumption)
  | refine v_ix0 ?_ | refine v_ix1 ?_ | refine v_ix2 ?_ | refine v_zip ?_ | refine v_kZl ?_ | refine v_kZt ?_ | (apply v_augI; · with_unfolding_all exact rfl) | refine v_try ?_ | refine v_isE ?_ | (refine v_kIE ?_ ?_; (· with_unfolding_all exact rfl)) | refine v_isB ?_ | refine v_notB ?_ | refine v_all ?_ | refine v_par3 ?_ | refine v_ifnT ?_ | refine v_ifnF ?_ | refine v_eqs ?_ | refine v_nes ?_ | refine v_rvs ?_ | refine v_kRvl ?_ | refine v_kRvt ?_
  | (refine v_mulb (a := ?a) (b := ?b) ?ha ?hb ?l ?h; (case ha => assumption); (case hb => assumption); (case l => omega)) | (refine v_fdivb (b := ?b) ?h0 ?hb ?l ?h; (case h0 => assumption); (case hb => assumption); (case l => omega)))
theorem rep0 (k : Int) : zz (List.replicate k.toNat 0) = zz (List.replicate k.toNat 0) := rfl
/-! ### noughts at the end -/
def b_rows_row_of {M : Type} : DS M :=
    (dThen (dSet 1 (dB gLen (dCons (dBor 0) dNil)))
    (dThen (dWhile (dAnd (dTst (dBin gGt (dVar 1) (dC (.int 0)))) (dTst (dBin gEq (dBin (gIx true) (dBor 0) (dBin (g0 fun i j => .int (i - j)) (dVar 1) (dC (.int 1)))) (dC (.int 0)))))
      (dAug 1 (fun i j => i - j) (dC (.int 1))))
    (dRet (dB (gSeq .tup) (dCons (dSl (dBor 0) dONone (dOSome (dVar 1))) dNil)))))

def s_rows_row_of {M : Type} : DSp M := fun ds m Q Z => ∃ d xs, ds = [d] ∧ isRow d xs ∧ xs.length ≤ 16000000 ∧ ∀ r, R (ser xs) r → Q (.tup (zz r)) m
theorem vc_rows_row_of {M : Type} : ∀ ds (m : M) Q Z, s_rows_row_of ds m Q Z → okK [true] ds ∧ b_rows_row_of { nx := fun _ m' => Q .non m', rt := Q, ex := Z } (st0 [true] ds 2) m := by
  rintro ds m Q Z ⟨d, xs, rfl, hd, hl, q⟩
  have q := q (strip xs) (R.of rfl)
  refine ⟨⟨fun h => (nomatch h), trivial⟩, ?_⟩
  unfold b_rows_row_of
  repeat walk_at "s"
  refine v_while (fun n ρ m' => m' = m ∧ ρ = [.bor d, .val (.int n)] ∧ n ≤ xs.length ∧ strip (xs.take n) = strip xs) xs.length ⟨rfl, rfl, Nat.le_refl _, by rw [List.take_length]⟩ fun n ρ m' h => ?_
  obtain ⟨rfl, rfl, hn, hs⟩ := h
  repeat walk_at "s"
  refine v_ifd (fun h => ?_) fun h => ?_
  · repeat walk_at "s"
    refine v_ixr hd (by omega) (by omega) ?_
    repeat walk_at "s"
    obtain ⟨k, rfl⟩ : ∃ k, n = k + 1 := ⟨n - 1, by omega⟩
    have e : ((k + 1 : Nat) : Int) - 1 = k := by omega
    rw [e, nth_get (by omega)]
    refine v_ifd (fun z => ?_) fun z => ?_
    · repeat walk_at "s"
      exact ⟨k, by omega, rfl, by rw [e]; rfl, by omega, by rw [← strip_step (by omega) z]; exact hs⟩
    · repeat walk_at "s"
      intro d' hd'
      rw [cutZ_to (by omega)] at hd'
      repeat walk_at "s"
      rw [Int.toNat_natCast, ← strip_stop (by omega) z, hs]
      exact q
  · repeat walk_at "s"
    intro d' hd'
    rw [cutZ_to (by omega)] at hd'
    repeat walk_at "s"
    have e : n = 0 := by omega
    subst e
    rw [← hs] at q
    exact q
def b__law_cut {M : Type} : DS M :=
    (dThen (dSet 1 (dB gLen (dCons (dBor 0) dNil)))
    (dThen (dWhile (dAnd (dTst (dBin gGt (dVar 1) (dC (.int 0)))) (dTst (dBin gEq (dBin (gIx true) (dBor 0) (dBin (g0 fun i j => .int (i - j)) (dVar 1) (dC (.int 1)))) (dC (.int 0)))))
      (dSet 1 (dBin (g0 fun i j => .int (i - j)) (dVar 1) (dC (.int 1)))))
    (dRet (dB (gSeq .tup) (dCons (dSl (dBor 0) dONone (dOSome (dVar 1))) dNil)))))

def s__law_cut {M : Type} : DSp M := s_rows_row_of
theorem vc__law_cut {M : Type} : ∀ ds (m : M) Q Z, s__law_cut ds m Q Z → okK [true] ds ∧ b__law_cut { nx := fun _ m' => Q .non m', rt := Q, ex := Z } (st0 [true] ds 2) m := by
  rintro ds m Q Z ⟨d, xs, rfl, hd, hl, q⟩
  have q := q (strip xs) (R.of rfl)
  refine ⟨⟨fun h => (nomatch h), trivial⟩, ?_⟩
  unfold b__law_cut
  repeat walk_at "s"
  refine v_while (fun n ρ m' => m' = m ∧ ρ = [.bor d, .val (.int n)] ∧ n ≤ xs.length ∧ strip (xs.take n) = strip xs) xs.length ⟨rfl, rfl, Nat.le_refl _, by rw [List.take_length]⟩ fun n ρ m' h => ?_
  obtain ⟨rfl, rfl, hn, hs⟩ := h
  repeat walk_at "s"
  refine v_ifd (fun h => ?_) fun h => ?_
  · repeat walk_at "s"
    refine v_ixr hd (by omega) (by omega) ?_
    repeat walk_at "s"
    obtain ⟨k, rfl⟩ : ∃ k, n = k + 1 := ⟨n - 1, by omega⟩
    have e : ((k + 1 : Nat) : Int) - 1 = k := by omega
    rw [e, nth_get (by omega)]
    refine v_ifd (fun z => ?_) fun z => ?_
    · repeat walk_at "s"
      exact ⟨k, by omega, rfl, by rw [e]; rfl, by omega, by rw [← strip_step (by omega) z]; exact hs⟩
    · repeat walk_at "s"
      intro d' hd'
      rw [cutZ_to (by omega)] at hd'
      repeat walk_at "s"
      rw [Int.toNat_natCast, ← strip_stop (by omega) z, hs]
      exact q
  · repeat walk_at "s"
    intro d' hd'
    rw [cutZ_to (by omega)] at hd'
    repeat walk_at "s"
    have e : n = 0 := by omega
    subst e
    rw [← hs] at q
    exact q
/-! ### sums -/
def b_rows_at_size {M : Type} : DS M :=
    (dRet (dBin gAdd (dB (gSeq .lst) (dCons (dVar 0) dNil)) (dBin gMul (dLst (dCons (dC (.int 0)) dNil)) (dBin (g0 fun i j => .int (i - j)) (dVar 1) (dB gLen (dCons (dVar 0) dNil))))))

def s_rows_at_size {M : Type} : DSp M := fun ds m Q Z => ∃ xs n, ds = [.tup (zz xs), .int n] ∧ xs.length ≤ n ∧ n ≤ 8000000 ∧ Q (.lst (zz (padTo n.toNat xs))) m
theorem pad_toNat {xs : List Int} {n : Int} : xs ++ List.replicate (n - (xs.length : Int)).toNat 0 = padTo n.toNat xs := by
  unfold padTo
  rw [show (n - (xs.length : Int)).toNat = n.toNat - xs.length by omega]
theorem vc_rows_at_size {M : Type} : ∀ ds (m : M) Q Z, s_rows_at_size ds m Q Z → okK [false, false] ds ∧ b_rows_at_size { nx := fun _ m' => Q .non m', rt := Q, ex := Z } (st0 [false, false] ds 2) m := by
  rintro ds m Q Z ⟨xs, n, rfl, h1, h2, q⟩
  refine ⟨⟨fun _ => nl_row xs, fun _ => rfl, trivial⟩, ?_⟩
  unfold b_rows_at_size
  repeat walk_at "s"
  refine v_repl1 (by omega) (by omega) ?_
  refine v_addlz (by rw [List.length_replicate]; omega) ?_
  rw [pad_toNat]
  exact q
def b_rows_plus {M : Type} : DS M :=
    (dThen (dSet 2 (dB (gI2 imax) (dCons (dB gLen (dCons (dVar 0) dNil)) (dCons (dB gLen (dCons (dVar 1) dNil)) dNil))))
    (dRet (dCall s_rows_row_of [] (dCons (dLc (dZip false (dCall s_rows_at_size [] (dCons (dVar 0) (dCons (dVar 2) dNil))) (dCall s_rows_at_size [] (dCons (dVar 1) (dCons (dVar 2) dNil)))) (dgT 2 (dgCons (dgN 3) (dgCons (dgN 4) dgNil))) dYes (dBin gAdd (dVar 3) (dVar 4)) [3, 4]) dNil))))

def s_rows_plus {M : Type} : DSp M := fun ds m Q Z => ∃ xs ys, ds = [.tup (zz xs), .tup (zz ys)] ∧ xs.length ≤ 1000000 ∧ ys.length ≤ 1000000 ∧ ∀ r, R (ser xs + ser ys) r → Q (.tup (zz r)) m
theorem ser_zip {q : Int} {k : Nat} {xs ys : List Int} (h1 : xs.length ≤ k) (h2 : ys.length ≤ k) : ser (List.zipWith (fun x y => x + q * y) (padTo k xs) (padTo k ys)) = ser xs + Ser.C q * ser ys := Ser.ext fun j => by
  rw [ser_co, zip_co (by simp) (by rw [pad_len h1, pad_len h2]), pad_co, pad_co, Ser.add_co, Ser.C_mul_co]; rfl
theorem ser_zip1 {k : Nat} {xs ys : List Int} (h1 : xs.length ≤ k) (h2 : ys.length ≤ k) : ser (List.zipWith (fun x y => x + y) (padTo k xs) (padTo k ys)) = ser xs + ser ys := Ser.ext fun j => by
  rw [ser_co, zip_co rfl (by rw [pad_len h1, pad_len h2]), pad_co, pad_co, Ser.add_co]; rfl
theorem vc_rows_plus {M : Type} : ∀ ds (m : M) Q Z, s_rows_plus ds m Q Z → okK [false, false] ds ∧ b_rows_plus { nx := fun _ m' => Q .non m', rt := Q, ex := Z } (st0 [false, false] ds 5) m := by
  rintro ds m Q Z ⟨xs, ys, rfl, h1, h2, q⟩
  refine ⟨⟨fun _ => nl_row xs, fun _ => nl_row ys, trivial⟩, ?_⟩
  unfold b_rows_plus
  repeat walk_at "s"
  rw [imax_eq]
  refine ⟨xs, _, rfl, by omega, by omega, ?_⟩
  repeat walk_at "s"
  refine ⟨ys, _, rfl, by omega, by omega, ?_⟩
  have e : (max (xs.length : Int) (ys.length : Int)).toNat = max xs.length ys.length := by omega
  rw [e]
  have p1 : (padTo (max xs.length ys.length) xs).length = max xs.length ys.length := pad_len (by omega)
  have p2 : (padTo (max xs.length ys.length) ys).length = max xs.length ys.length := pad_len (by omega)
  repeat walk_at "s"
  refine lc_zip (f := fun x y => x + y) (fun a _ b _ m k l hk => ?_) (by omega) ?_
  · repeat walk_at "s"
    exact hk
  repeat walk_at "s"
  refine ⟨_, _, rfl, isRow_l, by rw [List.length_zipWith]; omega, fun r hr => q r ?_⟩
  rw [ser_zip1 (by omega) (by omega)] at hr
  exact hr
def b__law_sum {M : Type} : DS M :=
    (dThen (dSet 3 (dB (gI2 imax) (dCons (dB gLen (dCons (dVar 0) dNil)) (dCons (dB gLen (dCons (dVar 1) dNil)) dNil))))
    (dThen (dSet 4 (dBin gAdd (dB (gSeq .lst) (dCons (dVar 0) dNil)) (dBin gMul (dLst (dCons (dC (.int 0)) dNil)) (dBin (g0 fun i j => .int (i - j)) (dVar 3) (dB gLen (dCons (dVar 0) dNil))))))
    (dThen (dSet 5 (dBin gAdd (dB (gSeq .lst) (dCons (dVar 1) dNil)) (dBin gMul (dLst (dCons (dC (.int 0)) dNil)) (dBin (g0 fun i j => .int (i - j)) (dVar 3) (dB gLen (dCons (dVar 1) dNil))))))
    (dRet (dCall s__law_cut [] (dCons (dLc (dZip false (dVar 4) (dVar 5)) (dgT 2 (dgCons (dgN 6) (dgCons (dgN 7) dgNil))) dYes (dBin gAdd (dVar 6) (dBin gMul (dVar 2) (dVar 7))) [6, 7]) dNil))))))

def s__law_sum {M : Type} : DSp M := fun ds m Q Z => ∃ xs ys q a b, ds = [.tup (zz xs), .tup (zz ys), .int q] ∧ xs.length ≤ 1000000 ∧ ys.length ≤ 1000000 ∧ bd a q ∧ (∀ y ∈ ys, bd b y) ∧ a + b ≤ 100000000 ∧ ∀ r, R (ser xs + Ser.C q * ser ys) r → Q (.tup (zz r)) m
theorem vc__law_sum {M : Type} : ∀ ds (m : M) Q Z, s__law_sum ds m Q Z → okK [false, false, false] ds ∧ b__law_sum { nx := fun _ m' => Q .non m', rt := Q, ex := Z } (st0 [false, false, false] ds 8) m := by
  rintro ds m Q Z ⟨xs, ys, f, a, b, rfl, h1, h2, ha, hb, hab, q⟩
  refine ⟨⟨fun _ => nl_row xs, fun _ => nl_row ys, fun _ => rfl, trivial⟩, ?_⟩
  unfold b__law_sum
  repeat walk_at "s"
  rw [imax_eq]
  refine v_repl1 (by omega) (by omega) ?_
  refine v_addlz (by rw [List.length_replicate]; omega) ?_
  repeat walk_at "s"
  refine v_repl1 (by omega) (by omega) ?_
  refine v_addlz (by rw [List.length_replicate]; omega) ?_
  rw [pad_toNat, pad_toNat]
  have e : (max (xs.length : Int) (ys.length : Int)).toNat = max xs.length ys.length := by omega
  rw [e]
  have p1 : (padTo (max xs.length ys.length) xs).length = max xs.length ys.length := pad_len (by omega)
  have p2 : (padTo (max xs.length ys.length) ys).length = max xs.length ys.length := pad_len (by omega)
  repeat walk_at "s"
  refine lc_zip (f := fun x y => x + f * y) (fun x _ y hy m k l hk => ?_) (by omega) ?_
  · have by_ : bd b y := (pad_mem hy).elim (hb y) fun e => by rw [e]; exact bd0
    repeat walk_at "s"
    exact hk
  repeat walk_at "s"
  refine ⟨_, _, rfl, isRow_l, by rw [List.length_zipWith]; omega, fun r hr => q r ?_⟩
  rw [ser_zip (by omega) (by omega)] at hr
  exact hr
/-! ### products -/
def Lx (xs ys : List Int) : Int := imax 0 ((xs.length : Int) + ys.length - 1)
theorem prod_step {xs ys cs r r2 : List Int} {i j : Nat} {x y : Int} (hi : i + r.length + 1 = xs.length) (hj : j + (r2.length + 1) = ys.length) (hc : (cs.length : Int) = Lx xs ys) :
    0 ≤ (i : Int) + j ∧ (i : Int) + j < cs.length := by
  unfold Lx at hc; rw [imax_eq] at hc
  omega
theorem prod_ser {xs ys cs r r2 : List Int} {i j : Nat} {x y v : Int} (h : i + j < cs.length) (hv : v = cs.getD (i + j) 0 + x * y)
    (e : ser cs + xp (i + j) * Ser.C x * ser (y :: r2) + xp (i + 1) * ser r * ser ys = ser xs * ser ys) :
    ser (cs.set (i + j) v) + xp (i + (j + 1)) * Ser.C x * ser r2 + xp (i + 1) * ser r * ser ys = ser xs * ser ys := by
  rw [ser_set h, ← e, ser_cons, hv, show cs.getD (i + j) 0 + x * y - cs.getD (i + j) 0 = x * y by omega, C_mul, ← Nat.add_assoc, xp_add (i + j) 1]
  grind
def b_rows_times {M : Type} : DS M :=
    (dThen (dSetO 2 (dBin gMul (dLst (dCons (dC (.int 0)) dNil)) (dB (gI2 imax) (dCons (dC (.int 0)) (dCons (dBin (g0 fun i j => .int (i - j)) (dBin gAdd (dB gLen (dCons (dVar 0) dNil)) (dB gLen (dCons (dVar 1) dNil))) (dC (.int 1))) dNil)))))
    (dThen (dFor (dEnum false (dVar 0)) (dgT 2 (dgCons (dgN 3) (dgCons (dgN 4) dgNil)))
      (dFor (dEnum false (dVar 1)) (dgT 2 (dgCons (dgN 5) (dgCons (dgN 6) dgNil)))
      (dAugI 2 (fun i j => i + j) (dBin gAdd (dVar 3) (dVar 5)) (dBin gMul (dVar 4) (dVar 6)))))
    (dRet (dCall s_rows_row_of [] (dCons (dOwn 2) dNil)))))

def s_rows_times {M : Type} : DSp M := fun ds m Q Z => ∃ xs ys a b, ds = [.tup (zz xs), .tup (zz ys)] ∧ xs.length ≤ 100000 ∧ ys.length ≤ 100000 ∧ (∀ x ∈ xs, bd a x) ∧ (∀ y ∈ ys, bd b y) ∧ a + b ≤ 100000000 ∧ ∀ r, R (ser xs * ser ys) r → Q (.tup (zz r)) m
theorem vc_rows_times {M : Type} : ∀ ds (m : M) Q Z, s_rows_times ds m Q Z → okK [false, false] ds ∧ b_rows_times { nx := fun _ m' => Q .non m', rt := Q, ex := Z } (st0 [false, false] ds 7) m := by
  rintro ds m Q Z ⟨xs, ys, a, b, rfl, h1, h2, ha, hb, hab, q⟩
  refine ⟨⟨fun _ => nl_row xs, fun _ => nl_row ys, trivial⟩, ?_⟩
  unfold b_rows_times
  repeat walk_at "s"
  refine v_repl1 (by rw [imax_eq]; omega) (by rw [imax_eq]; omega) ?_
  refine v_kO (nls_ints _) ?_
  repeat walk_at "s"
  refine v_kforE (fun i r ρ m' => m' = m ∧ ∃ cs a3 a4 a5 a6, ρ = [.val (.tup (zz xs)), .val (.tup (zz ys)), .own (zz cs), a3, a4, a5, a6] ∧ (cs.length : Int) = Lx xs ys ∧ i + r.length = xs.length ∧ (∀ x ∈ r, bd a x) ∧ ser cs + xp i * ser r * ser ys = ser xs * ser ys) xs
    ⟨rfl, _, _, _, _, _, rfl, by rw [List.length_replicate]; unfold Lx; rw [imax_eq]; omega, by omega, ha, by rw [ser_zeros, xp0]; grind⟩ (fun i ρ m' h => ?_) fun i x r ρ m' N h hN => ?_
  · obtain ⟨rfl, cs, _, _, _, _, rfl, hc, hi, _, e⟩ := h
    repeat walk_at "s"
    refine ⟨_, cs, rfl, isRow_l, by unfold Lx at hc; rw [imax_eq] at hc; omega, fun s hs => q s ?_⟩
    rw [ser_nil] at e
    refine hs.cong ?_
    rw [← e]; grind
  · obtain ⟨rfl, cs, _, _, _, _, rfl, hc, hi, hx, e⟩ := h
    rw [List.length_cons] at hi
    have bx : bd a x := hx x List.mem_cons_self
    repeat walk_at "s"
    refine v_kforE (fun j r2 ρ m1 => m1 = m' ∧ ∃ cs a5 a6, ρ = [.val (.tup (zz xs)), .val (.tup (zz ys)), .own (zz cs), .val (.int i), .val (.int x), a5, a6] ∧ (cs.length : Int) = Lx xs ys ∧ j + r2.length = ys.length ∧ (∀ y ∈ r2, bd b y) ∧
      ser cs + xp (i + j) * Ser.C x * ser r2 + xp (i + 1) * ser r * ser ys = ser xs * ser ys) ys ⟨rfl, _, _, _, rfl, hc, by omega, hb, by rw [← e, ser_cons, xp_add]; rw [xp_add, xp0]; grind⟩ (fun j ρ m1 h => ?_) fun j y r2 ρ m1 N2 h hN2 => ?_
    · obtain ⟨rfl, cs, _, _, rfl, hc, hj, _, e⟩ := h
      repeat walk_at "s"
      refine hN _ _ ⟨rfl, cs, _, _, _, _, rfl, hc, by omega, fun z hz => hx z (List.mem_cons_of_mem _ hz), ?_⟩
      rw [ser_nil] at e
      rw [← e]; grind
    · obtain ⟨rfl, cs, _, _, rfl, hc, hj, hy, e⟩ := h
      rw [List.length_cons] at hj
      have by_ : bd b y := hy y List.mem_cons_self
      have hp := prod_step (x := x) (y := y) (by omega) hj hc
      repeat walk_at "s"
      refine v_kAI hp.1 hp.2 ?_
      repeat walk_at "s"
      have et : ((i : Int) + j).toNat = i + j := by omega
      rw [et]
      exact hN2 _ _ ⟨rfl, _, _, _, rfl, by rw [List.length_set]; exact hc, by omega, fun z hz => hy z (List.mem_cons_of_mem _ hz), prod_ser (by omega) rfl e⟩
def b__law_product {M : Type} : DS M :=
    (dThen (dSetO 2 (dBin gMul (dLst (dCons (dC (.int 0)) dNil)) (dB (gI2 imax) (dCons (dC (.int 0)) (dCons (dBin (g0 fun i j => .int (i - j)) (dBin gAdd (dB gLen (dCons (dVar 0) dNil)) (dB gLen (dCons (dVar 1) dNil))) (dC (.int 1))) dNil)))))
    (dThen (dFor (dEnum false (dVar 0)) (dgT 2 (dgCons (dgN 3) (dgCons (dgN 4) dgNil)))
      (dFor (dEnum false (dVar 1)) (dgT 2 (dgCons (dgN 5) (dgCons (dgN 6) dgNil)))
      (dSetI 2 (dBin gAdd (dBin (gIx true) (dOwn 2) (dBin gAdd (dVar 3) (dVar 5))) (dBin gMul (dVar 4) (dVar 6))) (dBin gAdd (dVar 3) (dVar 5)))))
    (dRet (dCall s__law_cut [] (dCons (dOwn 2) dNil)))))

def s__law_product {M : Type} : DSp M := s_rows_times
theorem vc__law_product {M : Type} : ∀ ds (m : M) Q Z, s__law_product ds m Q Z → okK [false, false] ds ∧ b__law_product { nx := fun _ m' => Q .non m', rt := Q, ex := Z } (st0 [false, false] ds 7) m := by
  rintro ds m Q Z ⟨xs, ys, a, b, rfl, h1, h2, ha, hb, hab, q⟩
  refine ⟨⟨fun _ => nl_row xs, fun _ => nl_row ys, trivial⟩, ?_⟩
  unfold b__law_product
  repeat walk_at "s"
  refine v_repl1 (by rw [imax_eq]; omega) (by rw [imax_eq]; omega) ?_
  refine v_kO (nls_ints _) ?_
  repeat walk_at "s"
  refine v_kforE (fun i r ρ m' => m' = m ∧ ∃ cs a3 a4 a5 a6, ρ = [.val (.tup (zz xs)), .val (.tup (zz ys)), .own (zz cs), a3, a4, a5, a6] ∧ (cs.length : Int) = Lx xs ys ∧ i + r.length = xs.length ∧ (∀ x ∈ r, bd a x) ∧ ser cs + xp i * ser r * ser ys = ser xs * ser ys) xs
    ⟨rfl, _, _, _, _, _, rfl, by rw [List.length_replicate]; unfold Lx; rw [imax_eq]; omega, by omega, ha, by rw [ser_zeros, xp0]; grind⟩ (fun i ρ m' h => ?_) fun i x r ρ m' N h hN => ?_
  · obtain ⟨rfl, cs, _, _, _, _, rfl, hc, hi, _, e⟩ := h
    repeat walk_at "s"
    refine ⟨_, cs, rfl, isRow_l, by unfold Lx at hc; rw [imax_eq] at hc; omega, fun s hs => q s ?_⟩
    rw [ser_nil] at e
    refine hs.cong ?_
    rw [← e]; grind
  · obtain ⟨rfl, cs, _, _, _, _, rfl, hc, hi, hx, e⟩ := h
    rw [List.length_cons] at hi
    have bx : bd a x := hx x List.mem_cons_self
    repeat walk_at "s"
    refine v_kforE (fun j r2 ρ m1 => m1 = m' ∧ ∃ cs a5 a6, ρ = [.val (.tup (zz xs)), .val (.tup (zz ys)), .own (zz cs), .val (.int i), .val (.int x), a5, a6] ∧ (cs.length : Int) = Lx xs ys ∧ j + r2.length = ys.length ∧ (∀ y ∈ r2, bd b y) ∧
      ser cs + xp (i + j) * Ser.C x * ser r2 + xp (i + 1) * ser r * ser ys = ser xs * ser ys) ys ⟨rfl, _, _, _, rfl, hc, by omega, hb, by rw [← e, ser_cons, xp_add]; rw [xp_add, xp0]; grind⟩ (fun j ρ m1 h => ?_) fun j y r2 ρ m1 N2 h hN2 => ?_
    · obtain ⟨rfl, cs, _, _, rfl, hc, hj, _, e⟩ := h
      repeat walk_at "s"
      refine hN _ _ ⟨rfl, cs, _, _, _, _, rfl, hc, by omega, fun z hz => hx z (List.mem_cons_of_mem _ hz), ?_⟩
      rw [ser_nil] at e
      rw [← e]; grind
    · obtain ⟨rfl, cs, _, _, rfl, hc, hj, hy, e⟩ := h
      rw [List.length_cons] at hj
      have by_ : bd b y := hy y List.mem_cons_self
      have hp := prod_step (x := x) (y := y) (by omega) hj hc
      repeat walk_at "s"
      refine v_ixl hp.1 hp.2 ?_
      repeat walk_at "s"
      refine v_kSIz hp.1 hp.2 ?_
      have et : ((i : Int) + j).toNat = i + j := by omega
      rw [et]
      exact hN2 _ _ ⟨rfl, _, _, _, rfl, by rw [List.length_set]; exact hc, by omega, fun z hz => hy z (List.mem_cons_of_mem _ hz), prod_ser (by omega) (by unfold nth; rw [et]) e⟩
end RR

/-! VL: what laws draw -/
namespace RR
open PySem PySem.Spec PyProof.Rows L2
local macro_rules | `(tactic| walk_at "bd") => `(tactic| first | assumption | exact bd_lit (by decide) | (with_reducible refine bd_mul ?_ ?_ <;> walk_at "bd") | (with_reducible refine bd_add ?_ ?_ <;> walk_at "bd") | (with_reducible refine bd_sub ?_ ?_ <;> walk_at "bd") | (with_reducible refine bd_neg ?_ <;> walk_at "bd"))
local macro_rules | `(tactic| walk_at "s") => `(tactic| with_reducible first
  | refine v_then ?_ | refine v_set ?_ | (apply v_var; · with_unfolding_all exact rfl) | refine v_bin ?_ | refine v_c ?_ | refine v_g0 ?_ | refine v_add ?_ | refine v_cons ?_ | refine v_nil ?_ | refine v_call ?_ | refine v_dB ?_ | refine v_next ?_ | refine v_ret ?_
  | refine v_ite ?_ | refine v_tst ?_ | refine v_kT ?_ | refine v_eqi ?_ | refine v_nei ?_ | refine v_eqr ?_ | refine v_ner ?_ | refine v_eqr0 ?_ | refine v_ner0 ?_ | refine v_eql ?_ | refine v_nel ?_ | refine v_eql0 ?_ | refine v_nel0 ?_ | refine v_isN ?_ | refine v_notN ?_
  | (apply v_bor; · with_unfolding_all exact rfl) | (apply v_own; · with_unfolding_all exact rfl) | refine v_tup ?_ | refine v_lst ?_ | (refine v_sz ?_ ?_; (· with_unfolding_all exact Nat.le_of_ble_eq_true rfl)) | (refine v_gIIz ?_ ?_; (· first | decide | omega))
  | refine v_lentz ?_ | refine v_lenlz ?_ | refine v_lent ?_ | refine v_lenl ?_ | refine v_I1 ?_ | refine v_I2 ?_ | refine v_int ?_ | refine v_seqlz ?_ | refine v_seqtz ?_ | refine v_sl ?_ | refine v_kSll ?_ | refine v_kSlt ?_ | refine v_ono ?_ | refine v_oso ?_ | refine v_kOS ?_
  | refine v_val ?_ | refine v_kVb ?_ | refine v_kVi ?_ | refine v_kVt ?_ | refine v_kVl ?_ | refine v_and ?_ | refine v_or ?_ | refine v_not ?_ | refine v_yes ?_ | refine v_if' ?_ | refine v_isi ?_ | refine v_kIii ?_ | refine v_kIib ?_ | refine v_kItt ?_
  | refine v_andV ?_ | refine v_orV ?_ | refine v_notV ?_ | refine v_kNV ?_ | refine v_neg ?_ | refine v_kNeg ?_ | refine v_seq ?_ | refine v_kSeql ?_ | refine v_kSeqt ?_ | refine v_rng1 ?_ | refine v_rng2 ?_ | refine v_enum ?_ | refine v_revr ?_ | refine v_rev ?_
  | (refine v_kR1 ?_ ?_ ?_; (· decide); (· decide))
  | (refine v_kR2 ?_ ?_ ?_ ?_ ?_; (· decide); (· decide); (· decide); (· decide))
  | refine v_gn ?_ | refine v_gt2 ?_ | refine v_gt3 ?_ | refine v_lc ?_ | refine v_for ?_ | refine v_setO ?_ | refine v_drop ?_ | (apply v_app; · with_unfolding_all exact rfl) | (apply v_setI; · with_unfolding_all exact rfl) | (apply v_rel; · with_unfolding_all exact rfl) | refine v_raise ?_ | refine v_par ?_ | refine v_kP ?_ | refine v_asg ?_
  | (apply v_aug; · with_unfolding_all exact rfl) | refine v_ifT ?_ | refine v_ifF ?_ | (refine v_pow ?_ ?_ ?_ ?_; (· decide); (· decide); (· decide)) | refine v_call0 ?_ | (apply v_lenr; · assumption) | (apply v_seqr; · assumption) | (apply v_kSeqr; · assumption) | (apply v_kSlr; · assumption)
  | refine v_ix0 ?_ | refine v_ix1 ?_ | refine v_ix2 ?_ | refine v_zip ?_ | refine v_kZl ?_ | refine v_kZt ?_ | (apply v_augI; · with_unfolding_all exact rfl) | refine v_try ?_ | refine v_isE ?_ | (refine v_kIE ?_ ?_; (· with_unfolding_all exact rfl)) | refine v_isB ?_ | refine v_notB ?_ | refine v_all ?_ | refine v_par3 ?_ | refine v_ifnT ?_ | refine v_ifnF ?_ | refine v_eqs ?_ | refine v_nes ?_ | refine v_rvs ?_ | refine v_kRvl ?_ | refine v_kRvt ?_
  | (refine v_mulb (a := ?a) (b := ?b) ?ha ?hb ?l ?h; (case ha => assumption); (case hb => assumption); (case l => omega)) | (refine v_fdivb (b := ?b) ?h0 ?hb ?l ?h; (case h0 => assumption); (case hb => assumption); (case l => omega)))
theorem v_drawN {N : Nat} {many : Int} {Q : D → Option Nat → Prop} {Z : Str → Option Nat → Prop} (hN : 1 ≤ N) (h0 : 0 < many) (hb : many.natAbs < 2 ^ 250) (h : ∀ x, 0 ≤ x → x < many → Q (.int x) (some (N - 1))) : s__law_draw [.hnd hdl, .int many] (some N) Q Z := by
  obtain ⟨k, rfl⟩ : ∃ k, N = k + 1 := ⟨N - 1, by omega⟩
  exact v_draw h0 hb h
/-- a list drawn item by item, each with at most c draws -/
theorem lc_drawn {g : DG} {tt : DTT (Option Nat)} {t : DT (Option Nat)} {ρ : En} {QL : List D → Option Nat → Prop} {P : Int → Prop} (n c N : Nat) (hN : n * c ≤ N)
    (st : ∀ ds N' (k : D → Option Nat → Prop) (l : Option Nat → Prop), c ≤ N' → (∀ y N'', P y → N' - c ≤ N'' → k (.int y) (some N'')) → g ds ρ fun ρ2 => tt ρ2 (some N') (fun b m1 => if b = true then t ρ2 m1 k (fun _ _ => False) else l m1) (fun _ _ => False))
    (hl : n ≤ 16777216) (q : ∀ xs N', xs.length = n → (∀ x ∈ xs, P x) → N - n * c ≤ N' → QL (zz xs) (some N')) : lcGo g tt t ρ (iota 0 n) [] (some N) QL := by
  refine lc_rany (P := P) (S := fun j m => ∃ N', m = some N' ∧ j * c + (N - n * c) ≤ N') n (fun j d m k l s hk => ?_) hl ⟨N, rfl, by omega⟩ fun xs m1 lx px s1 => ?_
  · obtain ⟨N', rfl, h⟩ := s
    rw [Nat.succ_mul] at h
    exact st d N' k l (by omega) fun y N'' hy hn => hk y _ hy ⟨N'', rfl, by omega⟩
  · obtain ⟨N', rfl, h⟩ := s1
    exact q xs N' lx px (by omega)
def b__law_whole : DS (Option Nat) :=
    (dThen (dSet 1 (dBin (gIx false) (dLst (dCons (dC (.int 1)) (dCons (dC (.int 7)) (dCons (dC (.int 7)) (dCons (dC (.int 30)) (dCons (dC (.int 5000)) (dCons (dBin (gII CPow fun i j => .int (i ^ j.toNat)) (dC (.int 10)) (dC (.int 12))) (dCons (dBin (gII CPow fun i j => .int (i ^ j.toNat)) (dC (.int 10)) (dC (.int 60))) dNil)))))))) (dCall s__law_draw [] (dCons (dVar 0) (dCons (dC (.int 7)) dNil)))))
    (dRet (dBin (g0 fun i j => .int (i - j)) (dCall s__law_draw [] (dCons (dVar 0) (dCons (dBin gAdd (dBin gMul (dC (.int 2)) (dVar 1)) (dC (.int 1))) dNil))) (dVar 1))))

def s__law_whole : DSp (Option Nat) := fun ds m Q Z => ∃ N, ds = [.hnd hdl] ∧ m = some N ∧ 2 ≤ N ∧ ∀ x N', bd 201 x → N - 2 ≤ N' → Q (.int x) (some N')
theorem vc__law_whole : ∀ ds (m : Option Nat) Q Z, s__law_whole ds m Q Z → okK [false] ds ∧ b__law_whole { nx := fun _ m' => Q .non m', rt := Q, ex := Z } (st0 [false] ds 2) m := by
  rintro ds m Q Z ⟨N, rfl, rfl, hN, q⟩
  refine ⟨⟨fun _ => rfl, trivial⟩, ?_⟩
  unfold b__law_whole
  repeat walk_at "s"
  refine v_drawN (by omega) (by decide) (by decide) fun x h0 h1 => ?_
  refine v_ixl (xs := [1, 7, 7, 30, 5000, 10 ^ (12 : Int).toNat, 10 ^ (60 : Int).toNat]) h0 h1 ?_
  have hm : ∀ s ∈ [1, 7, 7, 30, 5000, 10 ^ (12 : Int).toNat, 10 ^ (60 : Int).toNat], (1 : Int) ≤ s ∧ s ≤ 10 ^ 60 := by decide
  obtain ⟨s1, s2⟩ := hm _ (nth_mem h0 h1)
  have sb : bd 200 (nth [1, 7, 7, 30, 5000, 10 ^ (12 : Int).toNat, 10 ^ (60 : Int).toNat] x) := by
    have : (10 : Int) ^ 60 < 2 ^ 200 := by decide
    unfold bd; omega
  generalize nth [1, 7, 7, 30, 5000, 10 ^ (12 : Int).toNat, 10 ^ (60 : Int).toNat] x = s at s1 s2 sb ⊢
  repeat walk_at "s"
  refine v_mul (mulok (bd_lit (n := 2) (by decide)) sb) ?_
  repeat walk_at "s"
  refine v_drawN (by omega) (by omega) (by unfold bd at sb; omega) fun y h2 h3 => ?_
  repeat walk_at "s"
  refine q _ _ ?_ (by omega)
  unfold bd at sb ⊢; omega
def b__law_row : DS (Option Nat) :=
    (dRet (dCall s__law_cut [] (dCons (dLc (dRng1 (dCons (dCall s__law_draw [] (dCons (dVar 0) (dCons (dBin gAdd (dVar 1) (dC (.int 1))) dNil))) dNil)) (dgN 2) dYes (dCall s__law_whole [] (dCons (dVar 0) dNil)) [2]) dNil)))

def s__law_row : DSp (Option Nat) := fun ds m Q Z => ∃ (N : Nat) (most : Int), ds = [.hnd hdl, .int most] ∧ m = some N ∧ 0 ≤ most ∧ most ≤ 1000 ∧ 2 * most + 1 ≤ N ∧ ∀ (xs : List Int) (N' : Nat), done xs → xs.length ≤ most → (∀ x ∈ xs, bd 201 x) → N - (2 * most + 1) ≤ N' → Q (.tup (zz xs)) (some N')
theorem vc__law_row : ∀ ds (m : Option Nat) Q Z, s__law_row ds m Q Z → okK [false, false] ds ∧ b__law_row { nx := fun _ m' => Q .non m', rt := Q, ex := Z } (st0 [false, false] ds 3) m := by
  rintro ds m Q Z ⟨N, most, rfl, rfl, h0, h1, hN, q⟩
  refine ⟨⟨fun _ => rfl, fun _ => rfl, trivial⟩, ?_⟩
  unfold b__law_row
  repeat walk_at "s"
  refine v_drawN (by omega) (by omega) (by omega) fun x x0 x1 => ?_
  repeat walk_at "s"
  refine v_kR1 (by omega) (by omega) ?_
  refine lc_drawn (P := bd 201) x.toNat 2 (N - 1) (by omega) (fun d N' k l hc hk => ?_) (by omega) fun xs N' lx px hN' => ?_
  · repeat walk_at "s"
    exact ⟨_, rfl, rfl, hc, hk⟩
  repeat walk_at "s"
  refine ⟨_, xs, rfl, isRow_l, by omega, fun r hr => ?_⟩
  have e : r = strip xs := hr.uniq (R.of rfl)
  subst e
  have := strip_len xs
  exact q _ N' hr.dn (by omega) (fun z hz => px z (strip_mem hz)) (by omega)
end RR

/-! MP: polynomials with fractions, in lowest terms -/
namespace RR
open PySem PySem.Spec PyProof.Rows L2
/-- whole numbers as fractions -/
def qs (f : Ser Int) : Ser Rat := ⟨fun k => (f.co k : Rat)⟩
theorem qs_co (f : Ser Int) (k : Nat) : (qs f).co k = (f.co k : Rat) := rfl
theorem qs_inj {f g : Ser Int} (h : qs f = qs g) : f = g := Ser.ext fun k => Rat.intCast_inj.mp (congrArg (fun f => Ser.co f k) h)
theorem qs_add (f g : Ser Int) : qs (f + g) = qs f + qs g := Ser.ext fun k => by rw [qs_co, Ser.add_co, Ser.add_co, Rat.intCast_add]; rfl
theorem qs_sub (f g : Ser Int) : qs (f - g) = qs f - qs g := Ser.ext fun k => by rw [qs_co, Ser.sub_co, Ser.sub_co, Rat.intCast_sub]; rfl
theorem qs_C (c : Int) : qs (Ser.C c) = Ser.C (c : Rat) := Ser.ext fun k => by
  rw [qs_co, Ser.C_co, Ser.C_co]; split <;> rfl
theorem qs_mulc : ∀ (k : Nat) (f g : Ser Int), ((Ser.mulc k f g : Int) : Rat) = Ser.mulc k (qs f) (qs g)
  | 0, f, g => by show ((f.co 0 * g.co 0 : Int) : Rat) = _; rw [Rat.intCast_mul]; rfl
  | k + 1, f, g => by
    show ((f.co 0 * g.co (k + 1) + Ser.mulc k f.tl g : Int) : Rat) = (f.co 0 : Rat) * (g.co (k + 1) : Rat) + Ser.mulc k (qs f).tl (qs g)
    rw [Rat.intCast_add, Rat.intCast_mul, qs_mulc k f.tl g]; rfl
theorem qs_mul (f g : Ser Int) : qs (f * g) = qs f * qs g := Ser.ext fun k => qs_mulc k f g
theorem qs_xp (k : Nat) : qs (xp k) = xp k := Ser.ext fun j => by rw [qs_co, xp_co, xp_co]; split <;> rfl
theorem qs_zero : qs 0 = 0 := Ser.ext fun k => by rw [qs_co, zero_co, zero_co]; rfl
theorem qs_one : qs 1 = 1 := Ser.ext fun k => by rw [qs_co, one_co, one_co]; split <;> rfl
theorem qs_far {n : Nat} {f : Ser Int} (h : far n f) : far n (qs f) := fun k hk => by rw [qs_co, h k hk]; rfl
theorem far_qs {n : Nat} {f : Ser Int} (h : far n (qs f)) : far n f := fun k hk => by
  have := h k hk
  rw [qs_co] at this
  exact Rat.intCast_inj.mp this
theorem cne {d : Int} (h : d ≠ 0) : (d : Rat) ≠ 0 := fun e => h (Rat.intCast_inj.mp e)
theorem Cq_cancel {c : Rat} {f g : Ser Rat} (hc : c ≠ 0) (h : Ser.C c * f = Ser.C c * g) : f = g := Ser.ext fun k => by
  have := congrArg (fun f => Ser.co f k) h
  simp only [Ser.C_mul_co] at this
  have e : c⁻¹ * (c * f.co k) = c⁻¹ * (c * g.co k) := by rw [this]
  rw [← Lean.Grind.Semiring.mul_assoc, ← Lean.Grind.Semiring.mul_assoc, Rat.inv_mul_cancel c hc] at e
  grind
theorem C_inv {c : Rat} (hc : c ≠ 0) : Ser.C c * Ser.C c⁻¹ = 1 := by
  rw [← C_mul, Rat.mul_inv_cancel c hc]; rfl
/-! ### the common part of a row's numbers -/
theorem gcd_fold_dvd : ∀ (xs : List Int) (g : Nat), (xs.foldl (fun g x => Int.gcd g x) g) ∣ g ∧ ∀ x ∈ xs, ((xs.foldl (fun g x => Int.gcd g x) g : Nat) : Int) ∣ x
  | [], g => ⟨Nat.dvd_refl _, fun _ h => nomatch h⟩
  | x :: xs, g => by
    obtain ⟨h1, h2⟩ := gcd_fold_dvd xs (Int.gcd g x)
    have a : Int.gcd g x ∣ g := by have := Int.gcd_dvd_natAbs_left (g : Int) x; simpa using this
    have b : ((Int.gcd g x : Nat) : Int) ∣ x := Int.gcd_dvd_right ..
    refine ⟨Nat.dvd_trans h1 a, fun y hy => ?_⟩
    rcases List.mem_cons.mp hy with rfl | hy
    · exact Int.dvd_trans (Int.natCast_dvd_natCast.mpr h1) b
    · exact h2 y hy
theorem gcdL_dvd {xs : List Int} {x : Int} (h : x ∈ xs) : ((gcdL xs : Nat) : Int) ∣ x := (gcd_fold_dvd xs 0).2 x h
theorem gcd_fold_great : ∀ (xs : List Int) (g k : Nat), k ∣ g → (∀ x ∈ xs, (k : Int) ∣ x) → k ∣ xs.foldl (fun g x => Int.gcd g x) g
  | [], g, k, h, _ => h
  | x :: xs, g, k, h, hx => gcd_fold_great xs _ k (Int.natCast_dvd_natCast.mp (Int.dvd_coe_gcd (Int.natCast_dvd_natCast.mpr h) (hx x List.mem_cons_self))) fun y hy => hx y (List.mem_cons_of_mem _ hy)
theorem gcdL_great {xs : List Int} {k : Nat} (h : ∀ x ∈ xs, (k : Int) ∣ x) : k ∣ gcdL xs := gcd_fold_great xs 0 k (Nat.dvd_zero k) h
/-! ### lowest terms -/
/-- f is the row r by d, in lowest terms -/
structure P (f : Ser Rat) (r : List Int) (d : Int) : Prop where
  pos : 0 < d
  dn : done r
  low : Int.gcd (gcdL r) d = 1
  eq : Ser.C (d : Rat) * f = qs (ser r)
theorem dvd_of_all {r : List Int} {d e : Int} (h : Int.gcd (gcdL r) d = 1) (a : ∀ x ∈ r, d ∣ x * e) : d ∣ e := by
  have fold : ∀ (xs : List Int) (g : Nat), (d ∣ (g : Int) * e) → (∀ x ∈ xs, d ∣ x * e) → d ∣ ((xs.foldl (fun g x => Int.gcd g x) g : Nat) : Int) * e := by
    intro xs
    induction xs with
    | nil => exact fun g h _ => h
    | cons x xs ih =>
      intro g hg hx
      refine ih _ ?_ fun y hy => hx y (List.mem_cons_of_mem _ hy)
      have := Int.dvd_coe_gcd hg (hx x List.mem_cons_self)
      rw [Int.gcd_mul_right] at this
      have e2 : ((Int.gcd g x : Int) * e).natAbs = Int.gcd g x * e.natAbs := by rw [Int.natAbs_mul]; simp
      exact Int.dvd_natAbs.mp (by rw [e2]; exact this)
  have h1 := fold r 0 (by simp) a
  have h1 : d ∣ (gcdL r : Int) * e := h1
  have h2 : d ∣ d * e := Int.dvd_mul_right ..
  have h3 := Int.dvd_coe_gcd h1 h2
  rw [Int.gcd_mul_right, h, Nat.one_mul] at h3
  exact Int.dvd_natAbs.mp h3
theorem P.get {f : Ser Rat} {r : List Int} {d : Int} (h : P f r d) (k : Nat) : (d : Rat) * f.co k = (r.getD k 0 : Int) := by
  have := congrArg (fun f => Ser.co f k) h.eq
  simp only [Ser.C_mul_co, qs_co, ser_co] at this
  exact this
theorem P.dq {f : Ser Rat} {r : List Int} {d : Int} (h : P f r d) : (d : Rat) ≠ 0 := cne (by have := h.pos; omega)
theorem P.uniq {f : Ser Rat} {r r' : List Int} {d d' : Int} (h : P f r d) (h' : P f r' d') : r = r' ∧ d = d' := by
  have cross : ∀ k, r.getD k 0 * d' = r'.getD k 0 * d := fun k => by
    have e1 := h.get k
    have e2 := h'.get k
    refine Rat.intCast_inj.mp ?_
    rw [Rat.intCast_mul, Rat.intCast_mul, ← e1, ← e2]; grind
  have dv : ∀ {r r' : List Int} {d d' : Int}, Int.gcd (gcdL r) d = 1 → (∀ k, r.getD k 0 * d' = r'.getD k 0 * d) → d ∣ d' := fun {r r' d d'} g c => dvd_of_all g fun x hx => by
    obtain ⟨i, hi, rfl⟩ := List.mem_iff_getElem.mp hx
    have := c i
    rw [List.getD_eq_getElem?_getD, List.getElem?_eq_getElem hi] at this
    exact ⟨r'.getD i 0, by rw [Int.mul_comm d]; exact this⟩
  have e : d = d' := Int.dvd_antisymm (Int.le_of_lt h.pos) (Int.le_of_lt h'.pos) (dv h.low cross) (dv h'.low fun k => (cross k).symm)
  subst e
  refine ⟨done_uniq h.dn h'.dn (Ser.ext fun k => ?_), rfl⟩
  have := cross k
  have d0 := h.pos
  exact Int.eq_of_mul_eq_mul_right (by omega) this
theorem P.inj {f g : Ser Rat} {r : List Int} {d : Int} (h : P f r d) (h' : P g r d) : f = g := Cq_cancel h.dq (h.eq.trans h'.eq.symm)
theorem P.cong {f g : Ser Rat} {r : List Int} {d : Int} (h : P f r d) (e : f = g) : P g r d := e ▸ h
theorem P.far {f : Ser Rat} {r : List Int} {d : Int} (h : P f r d) : RR.far r.length f := fun k hk => by
  have := h.get k
  rw [getD_far hk, Rat.intCast_zero] at this
  have e : (d : Rat)⁻¹ * ((d : Rat) * f.co k) = (d : Rat)⁻¹ * 0 := by rw [this]
  rw [← Lean.Grind.Semiring.mul_assoc, Rat.inv_mul_cancel _ h.dq] at e
  grind
theorem P.top {f : Ser Rat} {r : List Int} {d : Int} (h : P f r d) (n : r ≠ []) : RR.top (r.length - 1) f := by
  have l0 := List.length_pos_iff.mpr n
  refine ⟨fun k hk => h.far k (by omega), fun e => done_last h.dn n ?_⟩
  have := h.get (r.length - 1)
  rw [e, Lean.Grind.Semiring.mul_zero] at this
  exact Rat.intCast_inj.mp this.symm
theorem P.nil : P 0 [] 1 := ⟨by decide, rfl, by decide, by rw [ser_nil, qs_zero]; grind⟩
theorem P.zero {f : Ser Rat} {r : List Int} {d : Int} (h : P f r d) : f = 0 ↔ (r = [] ∧ d = 1) := by
  refine ⟨fun e => ?_, fun ⟨e, e'⟩ => ?_⟩
  · subst e; exact h.uniq P.nil
  · subst e e'; exact h.inj P.nil
theorem P.nil_iff {f : Ser Rat} {r : List Int} {d : Int} (h : P f r d) : f = 0 ↔ r = [] := by
  refine ⟨fun e => (h.zero.mp e).1, fun e => ?_⟩
  subst e
  have := h.far
  exact far0 this
/-- the row and the number by which a row by a number is told -/
def lowR (xs : List Int) (d : Int) : List Int := xs.map fun x => x.fdiv (part (gcdL xs) d)
def lowD (xs : List Int) (d : Int) : Int := d.fdiv (part (gcdL xs) d)
theorem part_dvd {n d : Int} : part n d ∣ n ∧ part n d ∣ d := by
  have h1 : ((Int.gcd n d : Nat) : Int) ∣ n := Int.gcd_dvd_left ..
  have h2 : ((Int.gcd n d : Nat) : Int) ∣ d := Int.gcd_dvd_right ..
  unfold part; split
  · exact ⟨h1, h2⟩
  · rw [show (0 : Int) - (Int.gcd n d : Int) = -(Int.gcd n d : Int) by omega]
    exact ⟨Int.neg_dvd.mpr h1, Int.neg_dvd.mpr h2⟩
theorem lowR_mul {xs : List Int} {d : Int} (hd : d ≠ 0) : xs = (lowR xs d).map fun x => part (gcdL xs) d * x := by
  unfold lowR
  rw [List.map_map]
  refine (List.map_id xs).symm.trans (List.map_congr_left fun x hx => ?_)
  have p0 := part_ne (n := (gcdL xs : Int)) hd
  obtain ⟨k, hk⟩ := Int.dvd_trans (part_dvd (n := (gcdL xs : Int)) (d := d)).1 (gcdL_dvd hx)
  show x = part (gcdL xs) d * x.fdiv (part (gcdL xs) d)
  generalize part (gcdL xs) d = p at *
  rw [hk, Int.mul_fdiv_cancel_left _ p0]
theorem lowD_mul {xs : List Int} {d : Int} (hd : d ≠ 0) : d = part (gcdL xs) d * lowD xs d := by
  unfold lowD
  have p0 := part_ne (n := (gcdL xs : Int)) hd
  obtain ⟨k, hk⟩ := (part_dvd (n := (gcdL xs : Int)) (d := d)).2
  generalize hp : part (gcdL xs) d = p at *
  rw [hk, Int.mul_fdiv_cancel_left _ p0]
theorem lowD_pos {xs : List Int} {d : Int} (hd : d ≠ 0) : 0 < lowD xs d := by
  have e := lowD_mul (xs := xs) hd
  have g0 : Int.gcd (gcdL xs) d ≠ 0 := fun e => hd (Int.gcd_eq_zero_iff.mp e).2
  have p : (0 < d → 0 < part (gcdL xs) d) ∧ (¬ 0 < d → part (gcdL xs) d < 0) := by
    unfold part; refine ⟨fun h => ?_, fun h => ?_⟩
    · rw [if_pos h]; omega
    · rw [if_neg h]; omega
  generalize part (gcdL xs) d = q at *
  generalize lowD xs d = l at *
  refine Classical.byContradiction fun nl => ?_
  by_cases h : 0 < d
  · have := Int.mul_nonneg (Int.le_of_lt (p.1 h)) (show 0 ≤ -l by omega)
    rw [Int.mul_neg] at this; omega
  · have := Int.mul_nonneg (show 0 ≤ -q by have := p.2 h; omega) (show 0 ≤ -l by omega)
    rw [Int.neg_mul_neg] at this; omega
theorem low_gcd {xs : List Int} {d : Int} (hd : d ≠ 0) : Int.gcd (gcdL (lowR xs d)) (lowD xs d) = 1 := by
  have g0 : Int.gcd (gcdL xs) d ≠ 0 := fun e => hd (Int.gcd_eq_zero_iff.mp e).2
  generalize hk : Int.gcd (gcdL (lowR xs d)) (lowD xs d) = k
  have k1 : ((k : Nat) : Int) ∣ (gcdL (lowR xs d) : Int) := hk ▸ Int.gcd_dvd_left ..
  have k2 : ((k : Nat) : Int) ∣ lowD xs d := hk ▸ Int.gcd_dvd_right ..
  have pn : (part (gcdL xs) d).natAbs = Int.gcd (gcdL xs) d := by unfold part; split <;> omega
  -- k times the part divides all of xs and d
  have h1 : (part (gcdL xs) d).natAbs * k ∣ gcdL xs := gcdL_great fun x hx => by
    rw [lowR_mul (xs := xs) hd] at hx
    obtain ⟨y, hy, rfl⟩ := List.mem_map.mp hx
    have := Int.dvd_trans k1 (gcdL_dvd hy)
    rw [Int.natCast_mul]
    refine Int.mul_dvd_mul ?_ this
    exact Int.natAbs_dvd.mpr (Int.dvd_refl _)
  have h2 : (((part (gcdL xs) d).natAbs * k : Nat) : Int) ∣ d := by
    have e := lowD_mul (xs := xs) hd
    generalize hpp : part (gcdL xs) d = p at *
    rw [e, Int.natCast_mul]
    exact Int.mul_dvd_mul (Int.natAbs_dvd.mpr (Int.dvd_refl _)) k2
  have h3 : (part (gcdL xs) d).natAbs * k ∣ Int.gcd (gcdL xs) d := Int.natCast_dvd_natCast.mp (Int.dvd_coe_gcd (Int.natCast_dvd_natCast.mpr h1) h2)
  rw [pn] at h3
  have h4 := Nat.le_of_dvd (by omega) h3
  have h5 : k ≠ 0 := fun e => by rw [e, Nat.mul_zero] at h3; exact g0 (Nat.eq_zero_of_zero_dvd h3)
  refine Classical.byContradiction fun n => ?_
  have : Int.gcd (gcdL xs) d * 2 ≤ Int.gcd (gcdL xs) d * k := Nat.mul_le_mul_left _ (by omega)
  omega
theorem strip_map_ne {g : Int → Int} {xs : List Int} (h : done xs) (hg : ∀ x ∈ xs, x ≠ 0 → g x ≠ 0) : done (xs.map g) := by
  unfold done at *
  induction xs using strip_ind with
  | h0 => rfl
  | h1 xs a _ =>
    rw [strip_snoc] at h
    by_cases e : a = 0
    · rw [if_pos e] at h
      have := congrArg List.length h
      have := strip_len xs
      rw [List.length_append, List.length_singleton] at *
      omega
    · rw [List.map_append, List.map_singleton, strip_snoc, if_neg (hg a (by simp) e)]
theorem lowR_done {xs : List Int} {d : Int} (hd : d ≠ 0) (h : done xs) : done (lowR xs d) := by
  refine strip_map_ne h fun x hx x0 e => x0 ?_
  have p0 := part_ne (n := (gcdL xs : Int)) hd
  obtain ⟨k, hk⟩ := Int.dvd_trans (part_dvd (n := (gcdL xs : Int)) (d := d)).1 (gcdL_dvd hx)
  generalize part (gcdL xs) d = p at *
  rw [hk, Int.mul_fdiv_cancel_left _ p0] at e
  rw [hk, e, Int.mul_zero]
theorem low_P {f : Ser Rat} {xs : List Int} {d : Int} (hd : d ≠ 0) (h : done xs) (e : Ser.C (d : Rat) * f = qs (ser xs)) : P f (lowR xs d) (lowD xs d) := by
  refine ⟨lowD_pos hd, lowR_done hd h, low_gcd hd, ?_⟩
  have p0 := cne (part_ne (n := (gcdL xs : Int)) hd)
  refine Cq_cancel p0 ?_
  have e1 : Ser.C (d : Rat) = Ser.C ((part (gcdL xs) d : Int) : Rat) * Ser.C ((lowD xs d : Int) : Rat) := by
    rw [← C_mul, ← Rat.intCast_mul, ← lowD_mul hd]
  have e2 : qs (ser xs) = Ser.C ((part (gcdL xs) d : Int) : Rat) * qs (ser (lowR xs d)) := by
    conv => lhs; rw [lowR_mul (xs := xs) hd]
    rw [ser_scale, qs_mul, qs_C]
  rw [← Lean.Grind.Semiring.mul_assoc, ← e1, e, e2]
theorem abs_part {n x : Int} {d : Int} (hd : d ≠ 0) (h : part n d ∣ x) : (x.fdiv (part n d)).natAbs ≤ x.natAbs := by
  have p0 := part_ne (n := n) hd
  obtain ⟨k, hk⟩ := h
  generalize part n d = p at *
  rw [hk, Int.mul_fdiv_cancel_left _ p0, Int.natAbs_mul]
  exact Nat.le_mul_of_pos_left _ (by omega)
theorem lowR_bd {xs : List Int} {d : Int} {a : Nat} (hd : d ≠ 0) (h : ∀ x ∈ xs, bd a x) : ∀ x ∈ lowR xs d, bd a x := fun y hy => by
  obtain ⟨x, hx, rfl⟩ := List.mem_map.mp hy
  have := abs_part hd (Int.dvd_trans (part_dvd (n := (gcdL xs : Int)) (d := d)).1 (gcdL_dvd hx))
  have := h x hx
  unfold bd at *; omega
theorem lowD_bd {xs : List Int} {d : Int} {a : Nat} (hd : d ≠ 0) (h : bd a d) : bd a (lowD xs d) := by
  have := abs_part hd (part_dvd (n := (gcdL xs : Int)) (d := d)).2
  unfold lowD bd at *; omega
theorem lowR_len {xs : List Int} {d : Int} : (lowR xs d).length = xs.length := by unfold lowR; rw [List.length_map]
/-- sizes of a told polynomial -/
structure PB (n a : Nat) (r : List Int) (d : Int) : Prop where
  ln : r.length ≤ n
  bd : ∀ x ∈ r, RR.bd a x
  dd : RR.bd a d
/-- .. by any way it can be put -/
theorem P.PB {f : Ser Rat} {r xs : List Int} {d e : Int} {n a : Nat} (h : P f r d) (e0 : e ≠ 0) (eq : Ser.C (e : Rat) * f = qs (ser xs)) (ln : xs.length ≤ n) (b1 : ∀ x ∈ xs, RR.bd a x) (b2 : RR.bd a e) : RR.PB n a r d := by
  have dn := strip_done xs
  have h' := low_P e0 dn (by rw [ser_strip]; exact eq)
  obtain ⟨rfl, rfl⟩ := h.uniq h'
  exact ⟨by rw [lowR_len]; exact Nat.le_trans (strip_len xs) ln, lowR_bd e0 fun x hx => b1 x (strip_mem hx), lowD_bd e0 b2⟩
theorem PB.mono {n a n' a' : Nat} {r : List Int} {d : Int} (h : PB n a r d) (hn : n ≤ n') (ha : a ≤ a') : PB n' a' r d := ⟨Nat.le_trans h.ln hn, fun x hx => bd_mono (h.bd x hx) ha, bd_mono h.dd ha⟩
abbrev pd (r : List Int) (d : Int) : D := .tup [.tup (zz r), .int d]
end RR

/-! VP: polynomials told, drawn, summed, multiplied -/
namespace RR
open PySem PySem.Spec PyProof.Rows L2
local macro_rules | `(tactic| walk_at "bd") => `(tactic| first | assumption | exact bd_lit (by decide) | (with_reducible refine bd_mul ?_ ?_ <;> walk_at "bd") | (with_reducible refine bd_add ?_ ?_ <;> walk_at "bd") | (with_reducible refine bd_sub ?_ ?_ <;> walk_at "bd") | (with_reducible refine bd_neg ?_ <;> walk_at "bd"))
local macro_rules | `(tactic| walk_at "s") => `(tactic| with_reducible first
  | refine v_then ?_ | refine v_set ?_ | (apply v_var; · with_unfolding_all exact rfl) | refine v_bin ?_ | refine v_c ?_ | refine v_g0 ?_ | refine v_add ?_ | refine v_cons ?_ | refine v_nil ?_ | refine v_call ?_ | refine v_dB ?_ | refine v_next ?_ | refine v_ret ?_
  | refine v_ite ?_ | refine v_tst ?_ | refine v_kT ?_ | refine v_eqi ?_ | refine v_nei ?_ | refine v_eqr ?_ | refine v_ner ?_ | refine v_eqr0 ?_ | refine v_ner0 ?_ | refine v_eql ?_ | refine v_nel ?_ | refine v_eql0 ?_ | refine v_nel0 ?_ | refine v_isN ?_ | refine v_notN ?_
  | (apply v_bor; · with_unfolding_all exact rfl) | (apply v_own; · with_unfolding_all exact rfl) | refine v_tup ?_ | refine v_lst ?_ | (refine v_sz ?_ ?_; (· with_unfolding_all exact Nat.le_of_ble_eq_true rfl)) | (refine v_gIIz ?_ ?_; (· first | decide | omega))
  | refine v_lentz ?_ | refine v_lenlz ?_ | refine v_lent ?_ | refine v_lenl ?_ | refine v_I1 ?_ | refine v_I2 ?_ | refine v_int ?_ | refine v_seqlz ?_ | refine v_seqtz ?_ | refine v_sl ?_ | refine v_kSll ?_ | refine v_kSlt ?_ | refine v_ono ?_ | refine v_oso ?_ | refine v_kOS ?_
  | refine v_val ?_ | refine v_kVb ?_ | refine v_kVi ?_ | refine v_kVt ?_ | refine v_kVl ?_ | refine v_and ?_ | refine v_or ?_ | refine v_not ?_ | refine v_yes ?_ | refine v_if' ?_ | refine v_isi ?_ | refine v_kIii ?_ | refine v_kIib ?_ | refine v_kItt ?_
  | refine v_andV ?_ | refine v_orV ?_ | refine v_notV ?_ | refine v_kNV ?_ | refine v_neg ?_ | refine v_kNeg ?_ | refine v_seq ?_ | refine v_kSeql ?_ | refine v_kSeqt ?_ | refine v_rng1 ?_ | refine v_rng2 ?_ | refine v_enum ?_ | refine v_revr ?_ | refine v_rev ?_
  | (refine v_kR1 ?_ ?_ ?_; (· decide); (· decide))
  | (refine v_kR2 ?_ ?_ ?_ ?_ ?_; (· decide); (· decide); (· decide); (· decide))
  | refine v_gn ?_ | refine v_gt2 ?_ | refine v_gt3 ?_ | refine v_lc ?_ | refine v_for ?_ | refine v_setO ?_ | refine v_drop ?_ | (apply v_app; · with_unfolding_all exact rfl) | (apply v_setI; · with_unfolding_all exact rfl) | (apply v_rel; · with_unfolding_all exact rfl) | refine v_raise ?_ | refine v_par ?_ | refine v_kP ?_ | refine v_asg ?_
  | (apply v_aug; · with_unfolding_all exact rfl) | refine v_ifT ?_ | refine v_ifF ?_ | (refine v_pow ?_ ?_ ?_ ?_; (· decide); (· decide); (· decide)) | refine v_call0 ?_ | (apply v_lenr; · assumption) | (apply v_seqr; · assumption) | (apply v_kSeqr; · assumption) | (apply v_kSlr; · assumption)
  | refine v_ix0 ?_ | refine v_ix1 ?_ | refine v_ix2 ?_ | refine v_zip ?_ | refine v_kZl ?_ | refine v_kZt ?_ | (apply v_augI; · with_unfolding_all exact rfl) | refine v_try ?_ | refine v_isE ?_ | (refine v_kIE ?_ ?_; (· with_unfolding_all exact rfl)) | refine v_isB ?_ | refine v_notB ?_ | refine v_all ?_ | refine v_par3 ?_ | refine v_ifnT ?_ | refine v_ifnF ?_ | refine v_eqs ?_ | refine v_nes ?_ | refine v_rvs ?_ | refine v_kRvl ?_ | refine v_kRvt ?_
  | (refine v_mulb (a := ?a) (b := ?b) ?ha ?hb ?l ?h; (case ha => assumption); (case hb => assumption); (case l => omega)) | (refine v_fdivb (b := ?b) ?h0 ?hb ?l ?h; (case h0 => assumption); (case hb => assumption); (case l => omega)))
/-! ### told polynomials compared -/
theorem eqv_pd {r r' : List Int} {d d' : Int} : (pd r d).eqv (pd r' d') = decide (r = r' ∧ d = d') := by
  show ((D.tup (zz r)).eqv (.tup (zz r')) && ((D.int d).eqv (.int d') && true)) = _
  rw [eqv_row, eqv_int, Bool.and_true, Bool.eq_iff_iff]
  simp
theorem q_pd {n : Nat} {r : List Int} {d : Int} : (pd r d).q (n + 2) = true := by
  simp only [D.q, List.all_cons, List.all_nil, Bool.and_true]
  exact List.all_eq_true.mpr fun x hx => by obtain ⟨i, _, rfl⟩ := List.mem_map.mp hx; exact q_int
section
variable {q : D → Prop} {r r' : List Int} {d d' : Int}
theorem v_eqpd (h : q (.bl (decide (r = r' ∧ d = d')))) : gEq (pd r d) (pd r' d') q := .inl ⟨q_pd, q_pd, by rw [eqv_pd]; exact h⟩
theorem v_nepd (h : q (.bl (!decide (r = r' ∧ d = d')))) : gNe (pd r d) (pd r' d') q := .inl ⟨q_pd, q_pd, by rw [eqv_pd]; exact h⟩
theorem v_eqpd0 (h : q (.bl (decide (r = [] ∧ d = d')))) : gEq (pd r d) (.tup [.tup [], .int d']) q := v_eqpd (r' := []) h
theorem v_nepd0 (h : q (.bl (!decide (r = [] ∧ d = d')))) : gNe (pd r d) (.tup [.tup [], .int d']) q := v_nepd (r' := []) h
theorem nl_pd : (pd r d).nl = true := by
  show (D.nls (zz r) && true) = true
  rw [nls_ints]; rfl
end
theorem sho_pd {r : List Int} {d : Int} {n : Nat} (h : ∀ x ∈ r, bd 1920 x) (hd : bd 1920 d) (hn : r.length ≤ n) : Sh 2 (2 * (n * 1923 + 1921 + 2) + 2) (pd r d) := by
  refine sh_tup (k := 1) (c := n * 1923 + 1921) (fun x hx => ?_) (by simp)
  simp only [List.mem_cons, List.not_mem_nil, or_false] at hx
  rcases hx with rfl | rfl
  · exact (sh_row h hn).le (Nat.le_refl _) (by omega)
  · exact (sh_int hd).le (by decide) (by omega)
/-! ### content, poly -/
def b_rows_content {M : Type} : DS M :=
    (dThen (dSet 1 (dC (.int 0)))
    (dThen (dFor (dSeq false (dVar 0)) (dgN 2)
      (dSet 1 (dCall s_numbers_common [] (dCons (dVar 1) (dCons (dVar 2) dNil)))))
    (dRet (dVar 1))))

def s_rows_content {M : Type} : DSp M := fun ds m Q Z => ∃ xs, ds = [.tup (zz xs)] ∧ Q (.int (gcdL xs)) m
theorem vc_rows_content {M : Type} : ∀ ds (m : M) Q Z, s_rows_content ds m Q Z → okK [false] ds ∧ b_rows_content { nx := fun _ m' => Q .non m', rt := Q, ex := Z } (st0 [false] ds 3) m := by
  rintro ds m Q Z ⟨xs, rfl, q⟩
  refine ⟨⟨fun _ => nl_row xs, trivial⟩, ?_⟩
  unfold b_rows_content
  repeat walk_at "s"
  refine v_kforZ (fun r ρ m' => m' = m ∧ ∃ (g : Nat) (a2 : Sl), ρ = [.val (.tup (zz xs)), .val (.int g), a2] ∧ r.foldl (fun g x => Int.gcd g x) g = gcdL xs) xs ⟨rfl, 0, _, rfl, rfl⟩ (fun ρ m' h => ?_) fun x r ρ m' h => ?_
  · obtain ⟨rfl, g, _, rfl, e⟩ := h
    repeat walk_at "s"
    rw [← e] at q
    exact q
  · obtain ⟨rfl, g, _, rfl, e⟩ := h
    repeat walk_at "s"
    refine ⟨_, _, rfl, ?_⟩
    repeat walk_at "s"
    exact ⟨rfl, Int.gcd g x, _, rfl, e⟩
def b_polys_poly {M : Type} : DS M :=
    (dThen (dIte (dTst (dBin gEq (dVar 1) (dC (.int 0))))
      (dRaise "ByNought")
      dNext)
    (dThen (dSet 2 (dCall s_numbers_common [] (dCons (dCall s_rows_content [] (dCons (dVar 0) dNil)) (dCons (dVar 1) dNil))))
    (dThen (dSet 2 (dIf (dTst (dBin gGt (dVar 1) (dC (.int 0)))) (dVar 2) (dBin (g0 fun i j => .int (i - j)) (dC (.int 0)) (dVar 2))))
    (dRet (dTup (dCons (dB (gSeq .tup) (dCons (dLc (dSeq false (dVar 0)) (dgN 3) dYes (dBin (gII Nd fun i j => .int (i.fdiv j)) (dVar 3) (dVar 2)) [3]) dNil)) (dCons (dBin (gII Nd fun i j => .int (i.fdiv j)) (dVar 1) (dVar 2)) dNil)))))))

def s_polys_poly {M : Type} : DSp M := fun ds m Q Z => ∃ xs d, ds = [.tup (zz xs), .int d] ∧ xs.length ≤ 1000000 ∧ (d = 0 → Z "ByNought" m) ∧ (d ≠ 0 → Sm xs d ∧ Q (pd (lowR xs d) (lowD xs d)) m)
theorem vc_polys_poly {M : Type} : ∀ ds (m : M) Q Z, s_polys_poly ds m Q Z → okK [false, false] ds ∧ b_polys_poly { nx := fun _ m' => Q .non m', rt := Q, ex := Z } (st0 [false, false] ds 4) m := by
  rintro ds m Q Z ⟨xs, d, rfl, hl, z, q⟩
  refine ⟨⟨fun _ => nl_row xs, fun _ => rfl, trivial⟩, ?_⟩
  unfold b_polys_poly
  repeat walk_at "s"
  refine v_ifd (fun h => ?_) fun h => ?_
  · repeat walk_at "s"
    exact z h
  obtain ⟨hb, q⟩ := q h
  have pn := part_ne (n := (gcdL xs : Int)) h
  have pb := Sm.le hb fun _ z => part_bd (n := (gcdL xs : Int)) h z
  have e1 : 0 < d → (Int.gcd (gcdL xs) d : Int) = part (gcdL xs) d := fun h0 => by unfold part; rw [if_pos h0]
  have e2 : ¬ 0 < d → 0 - (Int.gcd (gcdL xs) d : Int) = part (gcdL xs) d := fun h0 => by unfold part; rw [if_neg h0]
  repeat walk_at "s"
  refine ⟨xs, rfl, ?_⟩
  repeat walk_at "s"
  refine ⟨_, d, rfl, ?_⟩
  repeat walk_at "s"
  refine v_ifd (fun h0 => ?_) fun h0 => ?_
  · repeat walk_at "s"
    rw [e1 h0]
    refine lc_zz (f := fun x => x.fdiv (part (gcdL xs) d)) xs (fun a ha m1 k l hk => ?_) (by omega) ?_
    · repeat walk_at "s"
      refine v_fdivs pn (pb a (List.mem_cons_of_mem _ ha)) ?_
      repeat walk_at "s"
      exact hk
    repeat walk_at "s"
    refine v_fdivs pn (pb d List.mem_cons_self) ?_
    repeat walk_at "s"
    exact q
  · repeat walk_at "s"
    rw [e2 h0]
    refine lc_zz (f := fun x => x.fdiv (part (gcdL xs) d)) xs (fun a ha m1 k l hk => ?_) (by omega) ?_
    · repeat walk_at "s"
      refine v_fdivs pn (pb a (List.mem_cons_of_mem _ ha)) ?_
      repeat walk_at "s"
      exact hk
    repeat walk_at "s"
    refine v_fdivs pn (pb d List.mem_cons_self) ?_
    repeat walk_at "s"
    exact q
def b__law_poly {M : Type} : DS M :=
    (dThen (dSet 2 (dIf (dTst (dBin gNe (dVar 0) (dTup dNil))) (dCall s__law_common [] (dCons (dBin gAdd (dB (gSeq .lst) (dCons (dVar 0) dNil)) (dLst (dCons (dVar 1) dNil))) dNil)) (dB (gI1 iabs) (dCons (dVar 1) dNil))))
    (dThen (dSet 2 (dIf (dTst (dBin gGt (dVar 1) (dC (.int 0)))) (dVar 2) (dBin (g0 fun i j => .int (i - j)) (dC (.int 0)) (dVar 2))))
    (dRet (dTup (dCons (dB (gSeq .tup) (dCons (dLc (dSeq false (dVar 0)) (dgN 3) dYes (dBin (gII Nd fun i j => .int (i.fdiv j)) (dVar 3) (dVar 2)) [3]) dNil)) (dCons (dBin (gII Nd fun i j => .int (i.fdiv j)) (dVar 1) (dVar 2)) dNil))))))

def s__law_poly {M : Type} : DSp M := fun ds m Q Z => ∃ xs d, ds = [.tup (zz xs), .int d] ∧ xs.length ≤ 1000000 ∧ d ≠ 0 ∧ Sm xs d ∧ Q (pd (lowR xs d) (lowD xs d)) m
theorem gcdL_snoc (xs : List Int) (d : Int) : gcdL (xs ++ [d]) = Int.gcd (gcdL xs) d := by
  unfold gcdL; rw [List.foldl_append]; rfl
theorem vc__law_poly {M : Type} : ∀ ds (m : M) Q Z, s__law_poly ds m Q Z → okK [false, false] ds ∧ b__law_poly { nx := fun _ m' => Q .non m', rt := Q, ex := Z } (st0 [false, false] ds 4) m := by
  rintro ds m Q Z ⟨xs, d, rfl, hl, h, hb, q⟩
  refine ⟨⟨fun _ => nl_row xs, fun _ => rfl, trivial⟩, ?_⟩
  unfold b__law_poly
  have pn := part_ne (n := (gcdL xs : Int)) h
  have pb := Sm.le hb fun _ z => part_bd (n := (gcdL xs : Int)) h z
  have e1 : 0 < d → (Int.gcd (gcdL xs) d : Int) = part (gcdL xs) d := fun h0 => by unfold part; rw [if_pos h0]
  have e2 : ¬ 0 < d → 0 - (Int.gcd (gcdL xs) d : Int) = part (gcdL xs) d := fun h0 => by unfold part; rw [if_neg h0]
  have fin : ∀ a2 a3 : Sl, (dThen (dSet 2 (dIf (dTst (dBin gGt (dVar 1) (dC (.int 0)))) (dVar 2) (dBin (g0 fun i j => .int (i - j)) (dC (.int 0)) (dVar 2))))
    (dRet (dTup (dCons (dB (gSeq .tup) (dCons (dLc (dSeq false (dVar 0)) (dgN 3) dYes (dBin (gII Nd fun i j => .int (i.fdiv j)) (dVar 3) (dVar 2)) [3]) dNil)) (dCons (dBin (gII Nd fun i j => .int (i.fdiv j)) (dVar 1) (dVar 2)) dNil)))) : DS M)
      { nx := fun _ m' => Q .non m', rt := Q, ex := Z } [.val (.tup (zz xs)), .val (.int d), .val (.int (Int.gcd (gcdL xs) d)), a3] m := fun a2 a3 => by
    repeat walk_at "s"
    refine v_ifd (fun h0 => ?_) fun h0 => ?_
    · repeat walk_at "s"
      rw [e1 h0]
      refine lc_zz (f := fun x => x.fdiv (part (gcdL xs) d)) xs (fun a ha m1 k l hk => ?_) (by omega) ?_
      · repeat walk_at "s"
        refine v_fdivs pn (pb a (List.mem_cons_of_mem _ ha)) ?_
        repeat walk_at "s"
        exact hk
      repeat walk_at "s"
      refine v_fdivs pn (pb d List.mem_cons_self) ?_
      repeat walk_at "s"
      exact q
    · repeat walk_at "s"
      rw [e2 h0]
      refine lc_zz (f := fun x => x.fdiv (part (gcdL xs) d)) xs (fun a ha m1 k l hk => ?_) (by omega) ?_
      · repeat walk_at "s"
        refine v_fdivs pn (pb a (List.mem_cons_of_mem _ ha)) ?_
        repeat walk_at "s"
        exact hk
      repeat walk_at "s"
      refine v_fdivs pn (pb d List.mem_cons_self) ?_
      repeat walk_at "s"
      exact q
  repeat walk_at "s"
  refine v_ifn (fun h0 => ?_) fun h0 => ?_
  · repeat walk_at "s"
    refine v_addlz (ys := [d]) (by simp; omega) ?_
    repeat walk_at "s"
    refine ⟨_, rfl, ?_⟩
    rw [gcdL_snoc]
    exact fin .un .un
  · repeat walk_at "s"
    subst h0
    have := fin .un .un
    rw [show ((Int.gcd (gcdL []) d : Nat) : Int) = iabs d by rw [iabs_eq]; unfold gcdL; simp] at this
    exact this
/-! ### sums, products by the law -/
def b__law_plus {M : Type} : DS M :=
    (dThen (dSet 3 (dB (gSeq .tup) (dCons (dLc (dSeq false (dBin (gIx false) (dVar 0) (dC (.int 0)))) (dgN 5) dYes (dBin gMul (dVar 5) (dBin (gIx false) (dVar 1) (dC (.int 1)))) [5]) dNil)))
    (dThen (dSet 4 (dB (gSeq .tup) (dCons (dLc (dSeq false (dBin (gIx false) (dVar 1) (dC (.int 0)))) (dgN 5) dYes (dBin gMul (dVar 5) (dBin (gIx false) (dVar 0) (dC (.int 1)))) [5]) dNil)))
    (dRet (dCall s__law_poly [] (dCons (dCall s__law_sum [] (dCons (dVar 3) (dCons (dVar 4) (dCons (dVar 2) dNil)))) (dCons (dBin gMul (dBin (gIx false) (dVar 0) (dC (.int 1))) (dBin (gIx false) (dVar 1) (dC (.int 1)))) dNil))))))

def s__law_plus {M : Type} : DSp M := fun ds m Q Z => ∃ f g r d r' d' k n a n' b c, ds = [pd r d, pd r' d', .int k] ∧ P f r d ∧ P g r' d' ∧ PB n a r d ∧ PB n' b r' d' ∧ n ≤ 1000000 ∧ n' ≤ 1000000 ∧ bd c k ∧ c ≤ 1000000 ∧ (a + b ≤ 9000 ∨ a + b + c + 1 ≤ 13400) ∧
  ∀ r'' d'', P (f + Ser.C (k : Rat) * g) r'' d'' → PB (max n n') (a + b + c + 1) r'' d'' → Q (pd r'' d'') m
theorem vc__law_plus {M : Type} : ∀ ds (m : M) Q Z, s__law_plus ds m Q Z → okK [false, false, false] ds ∧ b__law_plus { nx := fun _ m' => Q .non m', rt := Q, ex := Z } (st0 [false, false, false] ds 6) m := by
  rintro ds m Q Z ⟨f, g, r, d, r', d', k, n, a, n', b, c, rfl, hf, hg, pf, pg, hn, hn', hk, hc, hab, q⟩
  refine ⟨⟨fun _ => nl_pd, fun _ => nl_pd, fun _ => rfl, trivial⟩, ?_⟩
  unfold b__law_plus
  have ln := pf.ln
  have ln' := pg.ln
  have bd1 := pf.dd
  have bd2 := pg.dd
  repeat walk_at "s"
  refine lc_zz (f := fun x => x * d') r (fun x hx m1 k l hk => ?_) (by omega) ?_
  · have bx := pf.bd x hx
    repeat walk_at "s"
    exact hk
  repeat walk_at "s"
  refine lc_zz (f := fun x => x * d) r' (fun x hx m1 k l hk => ?_) (by omega) ?_
  · have bx := pg.bd x hx
    repeat walk_at "s"
    exact hk
  repeat walk_at "s"
  have b1 : ∀ x ∈ r.map (fun x => x * d'), bd (a + b) x := map_bd pf.bd fun x h => bd_mul h bd2
  have b2 : ∀ x ∈ r'.map (fun x => x * d), bd (b + a) x := map_bd pg.bd fun x h => bd_mul h bd1
  refine ⟨_, _, k, c, _, rfl, by rw [List.length_map]; omega, by rw [List.length_map]; omega, hk, b2, by omega, fun s hs => ?_⟩
  rw [ser_scale', ser_scale'] at hs
  have dp := hf.pos
  have dp' := hg.pos
  have d0 : d * d' ≠ 0 := Int.mul_ne_zero (by omega) (by omega)
  have eq : Ser.C ((d * d' : Int) : Rat) * (f + Ser.C (k : Rat) * g) = qs (ser s) := by
    have e1 := hf.eq
    have e2 := hg.eq
    rw [hs.sr, qs_add, qs_mul, qs_mul, qs_mul, qs_C, qs_C, qs_C, ← e1, ← e2, Rat.intCast_mul, C_mul]
    grind
  have sB : B (max n n') (a + b + c + 1) (ser s) := by
    rw [hs.sr]
    refine ((B.scale bd2 (B.of (n := n) ln pf.bd)).add (B.scale hk (B.scale bd1 (B.of (n := n') ln' pg.bd)))).mono (Nat.le_refl _) (by omega)
  have ls : s.length ≤ max n n' := (R.mk hs.dn rfl).len sB
  repeat walk_at "s"
  refine ⟨s, d * d', rfl, by omega, d0, Sm.of (bd_mul bd1 bd2) ((R.mk hs.dn rfl).bds sB) (by omega), ?_⟩
  have hP := low_P d0 hs.dn eq
  exact q _ _ hP (hP.PB d0 eq ls ((R.mk hs.dn rfl).bds sB) (bd_mono (bd_mul bd1 bd2) (by omega)))
def b__law_times {M : Type} : DS M :=
    (dRet (dCall s__law_poly [] (dCons (dCall s__law_product [] (dCons (dBin (gIx false) (dVar 0) (dC (.int 0))) (dCons (dBin (gIx false) (dVar 1) (dC (.int 0))) dNil))) (dCons (dBin gMul (dBin (gIx false) (dVar 0) (dC (.int 1))) (dBin (gIx false) (dVar 1) (dC (.int 1)))) dNil))))

def s__law_times {M : Type} : DSp M := fun ds m Q Z => ∃ f g r d r' d' n a n' b, ds = [pd r d, pd r' d'] ∧ P f r d ∧ P g r' d' ∧ PB n a r d ∧ PB n' b r' d' ∧ n ≤ 100000 ∧ n' ≤ 100000 ∧ (a + b ≤ 9000 ∨ a + b + n ≤ 13400) ∧
  ∀ r'' d'', P (f * g) r'' d'' → PB (n + n') (a + b + n) r'' d'' → Q (pd r'' d'') m
theorem times_P {f g : Ser Rat} {r r' s : List Int} {d d' : Int} (hf : P f r d) (hg : P g r' d') (hs : ser s = ser r * ser r') : Ser.C ((d * d' : Int) : Rat) * (f * g) = qs (ser s) := by
  have e1 := hf.eq
  have e2 := hg.eq
  rw [hs, qs_mul, ← e1, ← e2, Rat.intCast_mul, C_mul]
  grind
theorem vc__law_times {M : Type} : ∀ ds (m : M) Q Z, s__law_times ds m Q Z → okK [false, false] ds ∧ b__law_times { nx := fun _ m' => Q .non m', rt := Q, ex := Z } (st0 [false, false] ds 2) m := by
  rintro ds m Q Z ⟨f, g, r, d, r', d', n, a, n', b, rfl, hf, hg, pf, pg, hn, hn', hab, q⟩
  refine ⟨⟨fun _ => nl_pd, fun _ => nl_pd, trivial⟩, ?_⟩
  unfold b__law_times
  have ln := pf.ln
  have ln' := pg.ln
  have bd1 := pf.dd
  have bd2 := pg.dd
  repeat walk_at "s"
  refine ⟨r, r', a, b, rfl, by omega, by omega, pf.bd, pg.bd, by omega, fun s hs => ?_⟩
  have dp := hf.pos
  have dp' := hg.pos
  have d0 : d * d' ≠ 0 := Int.mul_ne_zero (by omega) (by omega)
  have eq := times_P hf hg hs.sr
  have sB : B (n + n') (a + b + n) (ser s) := by
    rw [hs.sr]
    exact (B.of (n := n) ln pf.bd).mul (B.of (n := n') ln' pg.bd)
  have ls : s.length ≤ n + n' := (R.mk hs.dn rfl).len sB
  repeat walk_at "s"
  refine ⟨s, d * d', rfl, by omega, d0, Sm.of (bd_mul bd1 bd2) ((R.mk hs.dn rfl).bds sB) (by omega), ?_⟩
  have hP := low_P d0 hs.dn eq
  exact q _ _ hP (hP.PB d0 eq ls ((R.mk hs.dn rfl).bds sB) (bd_mono (bd_mul bd1 bd2) (by omega)))
/-! ### drawn ones -/
def b__law_drawn : DS (Option Nat) :=
    (dRet (dCall s__law_poly [] (dCons (dCall s__law_row [] (dCons (dVar 0) (dCons (dVar 1) dNil))) (dCons (dBin (gIx false) (dLst (dCons (dC (.int 1)) (dCons (dC (.int 1)) (dCons (dC (.int 2)) (dCons (dC (.int 6)) (dCons (dBin gAdd (dC (.int 1)) (dCall s__law_draw [] (dCons (dVar 0) (dCons (dC (.int 1000)) dNil)))) dNil)))))) (dCall s__law_draw [] (dCons (dVar 0) (dCons (dC (.int 5)) dNil)))) dNil))))

def s__law_drawn : DSp (Option Nat) := fun ds m Q Z => ∃ (N : Nat) (most : Int), ds = [.hnd hdl, .int most] ∧ m = some N ∧ 0 ≤ most ∧ most ≤ 1000 ∧ 2 * most + 3 ≤ N ∧
  ∀ (f : Ser Rat) (r : List Int) (d : Int) (N' : Nat), P f r d → PB most.toNat 201 r d → N - (2 * most + 3) ≤ N' → Q (pd r d) (some N')
theorem ser_of {xs : List Int} {d : Int} (hd : d ≠ 0) : Ser.C (d : Rat) * (Ser.C (d : Rat)⁻¹ * qs (ser xs)) = qs (ser xs) := by
  rw [← Lean.Grind.Semiring.mul_assoc, C_inv (cne hd), Lean.Grind.Semiring.one_mul]
theorem vc__law_drawn : ∀ ds (m : Option Nat) Q Z, s__law_drawn ds m Q Z → okK [false, false] ds ∧ b__law_drawn { nx := fun _ m' => Q .non m', rt := Q, ex := Z } (st0 [false, false] ds 2) m := by
  rintro ds m Q Z ⟨N, most, rfl, rfl, h0, h1, hN, q⟩
  refine ⟨⟨fun _ => rfl, fun _ => rfl, trivial⟩, ?_⟩
  unfold b__law_drawn
  repeat walk_at "s"
  refine ⟨N, most, rfl, rfl, h0, h1, by omega, fun xs N1 dx lx bx hN1 => ?_⟩
  repeat walk_at "s"
  refine v_drawN (by omega) (by decide) (by decide) fun a ha0 ha1 => ?_
  repeat walk_at "s"
  refine v_drawN (by omega) (by decide) (by decide) fun c hc0 hc1 => ?_
  refine v_ixl (xs := [1, 1, 2, 6, 1 + a]) hc0 hc1 ?_
  have hm : ∀ s ∈ [1, 1, 2, 6, 1 + a], (1 : Int) ≤ s ∧ s ≤ 1000 := by
    intro s hs; simp at hs; rcases hs with rfl | rfl | rfl | rfl <;> omega
  obtain ⟨d1, d2⟩ := hm _ (nth_mem hc0 hc1)
  generalize nth [1, 1, 2, 6, 1 + a] c = d at d1 d2 ⊢
  have bd_ : bd 201 d := by
    have : (1000 : Int) < 2 ^ 201 := by decide
    unfold bd; omega
  have d0 : d ≠ 0 := by omega
  repeat walk_at "s"
  refine ⟨xs, d, rfl, by omega, d0, .inl (bd_mono bd_ (by decide)), ?_⟩
  have hP := low_P d0 dx (ser_of d0)
  exact q _ _ _ _ hP (hP.PB d0 (ser_of d0) (by omega) bx bd_) (by omega)
def b__law_of_degree : DS (Option Nat) :=
    (dThen (dSet 2 (dCall s__law_drawn [] (dCons (dVar 0) (dCons (dVar 1) dNil))))
    (dRet (dIf (dTst (dBin gNe (dVar 2) (dTup (dCons (dTup dNil) (dCons (dC (.int 1)) dNil))))) (dVar 2) (dTup (dCons (dTup (dCons (dBin gAdd (dC (.int 1)) (dCall s__law_draw [] (dCons (dVar 0) (dCons (dC (.int 9)) dNil)))) dNil)) (dCons (dC (.int 1)) dNil))))))

def s__law_of_degree : DSp (Option Nat) := fun ds m Q Z => ∃ (N : Nat) (most : Int), ds = [.hnd hdl, .int most] ∧ m = some N ∧ 1 ≤ most ∧ most ≤ 1000 ∧ 2 * most + 4 ≤ N ∧
  ∀ (f : Ser Rat) (r : List Int) (d : Int) (N' : Nat), P f r d → r ≠ [] → PB most.toNat 201 r d → N - (2 * most + 4) ≤ N' → Q (pd r d) (some N')
theorem vc__law_of_degree : ∀ ds (m : Option Nat) Q Z, s__law_of_degree ds m Q Z → okK [false, false] ds ∧ b__law_of_degree { nx := fun _ m' => Q .non m', rt := Q, ex := Z } (st0 [false, false] ds 3) m := by
  rintro ds m Q Z ⟨N, most, rfl, rfl, h0, h1, hN, q⟩
  refine ⟨⟨fun _ => rfl, fun _ => rfl, trivial⟩, ?_⟩
  unfold b__law_of_degree
  repeat walk_at "s"
  refine ⟨N, most, rfl, rfl, by omega, h1, by omega, fun f r d N1 hf pf hN1 => ?_⟩
  repeat walk_at "s"
  refine v_nepd0 ?_
  repeat walk_at "s"
  refine v_ifn (fun h => ?_) fun h => ?_
  · repeat walk_at "s"
    exact q f r d N1 hf (fun e => h (hf.zero.mp (hf.nil_iff.mpr e))) pf (by omega)
  · repeat walk_at "s"
    refine v_drawN (by omega) (by decide) (by decide) fun a ha0 ha1 => ?_
    repeat walk_at "s"
    have bd_ : bd 201 (1 + a) := by
      have : (10 : Int) < 2 ^ 201 := by decide
      unfold bd; omega
    refine q (qs (ser [1 + a])) [1 + a] 1 _ ⟨by decide, ?_, ?_, ?_⟩ (by simp) ⟨by simp; omega, by simp; exact bd_, bd_lit (by decide)⟩ (by omega)
    · show strip [1 + a] = [1 + a]
      have := strip_snoc [] (1 + a)
      rw [List.nil_append, if_neg (by omega)] at this
      exact this
    · simp
    · show Ser.C (1 : Rat) * _ = _
      rw [C_one]; grind
end RR

/-! VQ: quotients and rests -/
namespace RR
open PySem PySem.Spec PyProof.Rows L2
local macro_rules | `(tactic| walk_at "bd") => `(tactic| first | assumption | exact bd_lit (by decide) | (with_reducible refine bd_mul ?_ ?_ <;> walk_at "bd") | (with_reducible refine bd_add ?_ ?_ <;> walk_at "bd") | (with_reducible refine bd_sub ?_ ?_ <;> walk_at "bd") | (with_reducible refine bd_neg ?_ <;> walk_at "bd"))
local macro_rules | `(tactic| walk_at "s") => `(tactic| with_reducible first
  | refine v_then ?_ | refine v_set ?_ | (apply v_var; · with_unfolding_all exact rfl) | refine v_bin ?_ | refine v_c ?_ | refine v_g0 ?_ | refine v_add ?_ | refine v_cons ?_ | refine v_nil ?_ | refine v_call ?_ | refine v_dB ?_ | refine v_next ?_ | refine v_ret ?_
  | refine v_ite ?_ | refine v_tst ?_ | refine v_kT ?_ | refine v_eqi ?_ | refine v_nei ?_ | refine v_eqr ?_ | refine v_ner ?_ | refine v_eqr0 ?_ | refine v_ner0 ?_ | refine v_eql ?_ | refine v_nel ?_ | refine v_eql0 ?_ | refine v_nel0 ?_ | refine v_isN ?_ | refine v_notN ?_
  | (apply v_bor; · with_unfolding_all exact rfl) | (apply v_own; · with_unfolding_all exact rfl) | refine v_tup ?_ | refine v_lst ?_ | (refine v_sz ?_ ?_; (· with_unfolding_all exact Nat.le_of_ble_eq_true rfl)) | (refine v_gIIz ?_ ?_; (· first | decide | omega))
  | refine v_lentz ?_ | refine v_lenlz ?_ | refine v_lent ?_ | refine v_lenl ?_ | refine v_I1 ?_ | refine v_I2 ?_ | refine v_int ?_ | refine v_seqlz ?_ | refine v_seqtz ?_ | refine v_sl ?_ | refine v_kSll ?_ | refine v_kSlt ?_ | refine v_ono ?_ | refine v_oso ?_ | refine v_kOS ?_
  | refine v_val ?_ | refine v_kVb ?_ | refine v_kVi ?_ | refine v_kVt ?_ | refine v_kVl ?_ | refine v_and ?_ | refine v_or ?_ | refine v_not ?_ | refine v_yes ?_ | refine v_if' ?_ | refine v_isi ?_ | refine v_kIii ?_ | refine v_kIib ?_ | refine v_kItt ?_
  | refine v_andV ?_ | refine v_orV ?_ | refine v_notV ?_ | refine v_kNV ?_ | refine v_neg ?_ | refine v_kNeg ?_ | refine v_seq ?_ | refine v_kSeql ?_ | refine v_kSeqt ?_ | refine v_rng1 ?_ | refine v_rng2 ?_ | refine v_enum ?_ | refine v_revr ?_ | refine v_rev ?_
  | (refine v_kR1 ?_ ?_ ?_; (· decide); (· decide))
  | (refine v_kR2 ?_ ?_ ?_ ?_ ?_; (· decide); (· decide); (· decide); (· decide))
  | refine v_gn ?_ | refine v_gt2 ?_ | refine v_gt3 ?_ | refine v_lc ?_ | refine v_for ?_ | refine v_setO ?_ | refine v_drop ?_ | (apply v_app; · with_unfolding_all exact rfl) | (apply v_setI; · with_unfolding_all exact rfl) | (apply v_rel; · with_unfolding_all exact rfl) | refine v_raise ?_ | refine v_par ?_ | refine v_kP ?_ | refine v_asg ?_
  | (apply v_aug; · with_unfolding_all exact rfl) | refine v_ifT ?_ | refine v_ifF ?_ | (refine v_pow ?_ ?_ ?_ ?_; (· decide); (· decide); (· decide)) | refine v_call0 ?_ | (apply v_lenr; · assumption) | (apply v_seqr; · assumption) | (apply v_kSeqr; · assumption) | (apply v_kSlr; · assumption)
  | refine v_ix0 ?_ | refine v_ix1 ?_ | refine v_ix2 ?_ | refine v_zip ?_ | refine v_kZl ?_ | refine v_kZt ?_ | (apply v_augI; · with_unfolding_all exact rfl) | refine v_try ?_ | refine v_isE ?_ | (refine v_kIE ?_ ?_; (· with_unfolding_all exact rfl)) | refine v_isB ?_ | refine v_notB ?_ | refine v_all ?_ | refine v_par3 ?_ | refine v_ifnT ?_ | refine v_ifnF ?_ | refine v_eqs ?_ | refine v_nes ?_ | refine v_rvs ?_ | refine v_kRvl ?_ | refine v_kRvt ?_
  | (refine v_mulb (a := ?a) (b := ?b) ?ha ?hb ?l ?h; (case ha => assumption); (case hb => assumption); (case l => omega)) | (refine v_fdivb (b := ?b) ?h0 ?hb ?l ?h; (case h0 => assumption); (case hb => assumption); (case l => omega)))
/-- rest, and what was taken off of it, at a places left -/
structure DivI (F G : List Int) (l sc : Int) (n a : Nat) (W : Ser Int) (rs : List Int) : Prop where
  eq : ser rs + W * ser G = Ser.C sc * ser F
  hi : ∀ k, a + n ≤ k + 1 → rs.getD k 0 = 0
  dv : ∀ k, l ^ a ∣ rs.getD k 0
theorem div_step {F G rs rs' : List Int} {l sc t : Int} {n a : Nat} {W : Ser Int} (h : DivI F G l sc n (a + 1) W rs) (hl : l ≠ 0) (hn : G.length = n) (n0 : 0 < n) (hg : G.getD (n - 1) 0 = l) (ht : t = (rs.getD (a + n - 1) 0).fdiv l)
    (e : ser rs' + Ser.C t * xp a * ser G = ser rs) : DivI F G l sc n a (W + Ser.C t * xp a) rs' ∧ l ^ a ∣ t := by
  obtain ⟨k, hk⟩ := h.dv (a + n - 1)
  have tk : t = l ^ a * k := by
    rw [ht, hk, Int.pow_succ, show l ^ a * l * k = l * (l ^ a * k) by grind, Int.mul_fdiv_cancel_left _ hl]
  have tl : t * l = rs.getD (a + n - 1) 0 := by rw [tk, hk, Int.pow_succ]; grind
  have co : ∀ j, rs'.getD j 0 = rs.getD j 0 - t * (if a ≤ j then G.getD (j - a) 0 else 0) := fun j => by
    have := congrArg (fun f => Ser.co f j) e
    rw [show Ser.C t * xp a * ser G = Ser.C t * (xp a * ser G) by grind] at this
    simp only [Ser.add_co, Ser.C_mul_co, xp_mul_co, ser_co] at this
    rw [← this]; omega
  refine ⟨⟨?_, fun j hj => ?_, fun j => ?_⟩, ⟨k, tk⟩⟩
  · rw [← h.eq, ← e]; grind
  · rw [co]
    by_cases q : j = a + n - 1
    · subst q
      rw [if_pos (by omega), show a + n - 1 - a = n - 1 by omega, hg, tl]; omega
    · rw [h.hi j (by omega)]
      split
      · rw [getD_far (by omega)]; simp
      · simp
  · rw [co]
    refine Int.dvd_sub ?_ ?_
    · exact Int.dvd_trans (by rw [Int.pow_succ]; exact Int.dvd_mul_right ..) (h.dv j)
    · exact Int.dvd_trans ⟨k, tk⟩ (Int.dvd_mul_right ..)
def b_quotients_divided {M : Type} : DS M :=
    (dThen (dIte (dTst (dBin gEq (dVar 1) (dC (.tup [(.tup []), (.int 1)]))))
      (dRaise "ByNought")
      dNext)
    (dThen (dAsg (dVar 1) (dgT 2 (dgCons (dgN 2) (dgCons (dgN 3) dgNil))))
    (dThen (dSet 4 (dB (gI2 imax) (dCons (dC (.int 0)) (dCons (dBin gAdd (dBin (g0 fun i j => .int (i - j)) (dB gLen (dCons (dBin (gIx false) (dVar 0) (dC (.int 0))) dNil)) (dB gLen (dCons (dVar 2) dNil))) (dC (.int 1))) dNil))))
    (dThen (dSet 5 (dC (.int 1)))
    (dThen (dFor (dRng1 (dCons (dVar 4) dNil)) (dgN 6)
      (dSet 5 (dBin gMul (dVar 5) (dBin (gIx false) (dVar 2) (dNeg (dC (.int 1)))))))
    (dThen (dSetO 7 (dLc (dSeq false (dBin (gIx false) (dVar 0) (dC (.int 0)))) (dgN 12) dYes (dBin gMul (dVar 12) (dVar 5)) [12]))
    (dThen (dSetO 8 (dBin gMul (dLst (dCons (dC (.int 0)) dNil)) (dVar 4)))
    (dThen (dFor (dRevR (dVar 4)) (dgN 9)
      (dThen (dSet 10 (dBin (gII Nd fun i j => .int (i.fdiv j)) (dBin (gIx true) (dOwn 7) (dBin (g0 fun i j => .int (i - j)) (dBin gAdd (dVar 9) (dB gLen (dCons (dVar 2) dNil))) (dC (.int 1)))) (dBin (gIx false) (dVar 2) (dNeg (dC (.int 1))))))
    (dThen (dSetI 8 (dBin gMul (dVar 10) (dVar 3)) (dVar 9))
    (dFor (dEnum false (dVar 2)) (dgT 2 (dgCons (dgN 11) (dgCons (dgN 12) dgNil)))
      (dSetI 7 (dBin (g0 fun i j => .int (i - j)) (dBin (gIx true) (dOwn 7) (dBin gAdd (dVar 9) (dVar 11))) (dBin gMul (dVar 10) (dVar 12))) (dBin gAdd (dVar 9) (dVar 11)))))))
    (dRet (dTup (dCons (dCall s_polys_poly [] (dCons (dCall s_rows_row_of [] (dCons (dOwn 8) dNil)) (dCons (dBin gMul (dVar 5) (dBin (gIx false) (dVar 0) (dC (.int 1)))) dNil))) (dCons (dCall s_polys_poly [] (dCons (dCall s_rows_row_of [] (dCons (dOwn 7) dNil)) (dCons (dBin gMul (dVar 5) (dBin (gIx false) (dVar 0) (dC (.int 1)))) dNil))) dNil))))))))))))

/-- many times -/
def dmany (N n : Nat) : Nat := N + 1 - n
/-- bits of what is divided, at a places left -/
def dbits (a b c : Nat) : Nat := a + c * (b + 1)
def s_quotients_divided {M : Type} : DSp M := fun ds m Q Z => ∃ f g r d r' d' n a n' b M', ds = [pd r d, pd r' d'] ∧ P f r d ∧ P g r' d' ∧ PB n a r d ∧ PB n' b r' d' ∧ n ≤ 2000 ∧ n' ≤ 2000 ∧ b ≤ 4000 ∧ r.length + 1 ≤ r'.length + M' ∧ a + M' * (b + 1) + 2 + b ≤ 13400 ∧ (r' = [] → Z "ByNought" m) ∧
  (r' ≠ [] → ∀ q t r1 d1 r2 d2, P q r1 d1 → P t r2 d2 → f = q * g + t → far (r'.length - 1) t → far (n + 1) q →
    PB (n + 1) (a + M' * (b + 1) + 2 + b) r1 d1 → PB n (a + M' * (b + 1) + 2) r2 d2 → Q (.tup [pd r1 d1, pd r2 d2]) m)
theorem nth_last {G : List Int} (h : G ≠ []) : nth G ((G.length : Int) - 1) = G.getD (G.length - 1) 0 := by
  unfold nth
  rw [show ((G.length : Int) - 1).toNat = G.length - 1 by omega]
theorem vc_quotients_divided {M : Type} : ∀ ds (m : M) Q Z, s_quotients_divided ds m Q Z → okK [false, false] ds ∧ b_quotients_divided { nx := fun _ m' => Q .non m', rt := Q, ex := Z } (st0 [false, false] ds 13) m := by
  rintro ds m Q Z ⟨f, g, F, d, G, d', n, a, n', b, M', rfl, hf, hg, pf, pg, hn, hn', hb, hM, hab, z, k⟩
  refine ⟨⟨fun _ => nl_pd, fun _ => nl_pd, trivial⟩, ?_⟩
  unfold b_quotients_divided
  have lF := pf.ln
  have lG := pg.ln
  have bdd := pf.dd
  have bdd' := pg.dd
  repeat walk_at "s"
  refine v_eqpd0 ?_
  repeat walk_at "s"
  refine v_ifd (fun h => ?_) fun h => ?_
  · repeat walk_at "s"
    exact z h.1
  have G0 : G ≠ [] := fun e => h (hg.zero.mp (hg.nil_iff.mpr e))
  have k := k G0
  have g1 := List.length_pos_iff.mpr G0
  obtain ⟨l, hl⟩ : ∃ l, l = G.getD (G.length - 1) 0 := ⟨_, rfl⟩
  have l0 : l ≠ 0 := by rw [hl]; exact done_last hg.dn G0
  have bl : bd b l := by
    rw [hl, List.getD_eq_getElem?_getD, List.getElem?_eq_getElem (by omega)]
    exact pg.bd _ (List.getElem_mem _)
  obtain ⟨mn, hmn⟩ : ∃ mn : Nat, mn = F.length + 1 - G.length := ⟨_, rfl⟩
  have emn : imax 0 ((F.length : Int) - G.length + 1) = mn := by rw [imax_eq]; omega
  have mle : mn ≤ n := by omega
  have mmul : mn * (b + 1) ≤ M' * (b + 1) := Nat.mul_le_mul_right _ (by omega)
  have bpow : ∀ i, i ≤ mn → bd (mn * (b + 1) + 1) (l ^ i) := fun i hi => by
    refine bd_mono (bd_pow bl i) ?_
    have : i * b ≤ mn * (b + 1) := Nat.mul_le_mul hi (by omega)
    omega
  repeat walk_at "s"
  rw [emn]
  refine v_kR1 (by omega) (by omega) ?_
  rw [Int.toNat_natCast]
  refine v_kforR mn (fun i ρ m' => m' = m ∧ ∃ a6 a7 a8 a9 a10 a11 a12, ρ = [.val (pd F d), .val (pd G d'), .val (.tup (zz G)), .val (.int d'), .val (.int mn), .val (.int (l ^ i)), a6, a7, a8, a9, a10, a11, a12] ∧ i ≤ mn) ⟨rfl, _, _, _, _, _, _, _, by rw [Int.pow_zero]; rfl, by omega⟩ (fun ρ m' h => ?_) fun i ρ m' hi h => ?_
  case refine_2 =>
    obtain ⟨rfl, a6, a7, a8, a9, a10, a11, a12, rfl, hi'⟩ := h
    have bp := bpow i hi'
    repeat walk_at "s"
    refine v_ixm G0 ?_
    rw [← hl]
    repeat walk_at "s"
    exact ⟨rfl, _, _, _, _, _, _, _, by rw [Int.pow_succ]; rfl, by omega⟩
  obtain ⟨rfl, a6, a7, a8, a9, a10, a11, a12, rfl, _⟩ := h
  obtain ⟨sc, hsc⟩ : ∃ sc, sc = l ^ mn := ⟨_, rfl⟩
  have bsc : bd (mn * (b + 1) + 1) sc := hsc ▸ bpow mn (Nat.le_refl _)
  rw [← hsc]
  have sc0 : sc ≠ 0 := by rw [hsc]; exact Int.pow_ne_zero l0
  repeat walk_at "s"
  refine lc_zz (f := fun x => x * sc) F (fun x hx m1 k l hk => ?_) (by omega) ?_
  · have bx := pf.bd x hx
    repeat walk_at "s"
    exact hk
  refine v_kO (nls_ints _) ?_
  repeat walk_at "s"
  refine v_repl1 (by omega) (by omega) ?_
  rw [Int.toNat_natCast]
  refine v_kO (nls_ints _) ?_
  repeat walk_at "s"
  refine v_kRR (by omega) (by omega) ?_
  rw [Int.toNat_natCast]
  -- the places, from the highest down
  have start : DivI F G l sc G.length mn 0 (F.map fun x => x * sc) := by
    refine ⟨by rw [ser_scale']; grind, fun k hk => ?_, fun k => ?_⟩
    · rw [map_co (by simp), getD_far (by omega)]; simp
    · rw [map_co (by simp), hsc]; exact Int.dvd_mul_left ..
  have B0 : B n (a + (mn * (b + 1) + 1)) (ser (F.map fun x => x * sc)) := B.of (by rw [List.length_map]; omega) (map_bd pf.bd fun x h => bd_mul h bsc)
  refine v_kforRR mn (fun i ρ m1 => m1 = m' ∧ ∃ (W : Ser Int) (rs ws : List Int) (a9 a10 a11 a12 : Sl), ρ = [.val (pd F d), .val (pd G d'), .val (.tup (zz G)), .val (.int d'), .val (.int mn), .val (.int sc), a6, .own (zz rs), .own (zz ws), a9, a10, a11, a12] ∧
      rs.length = F.length ∧ ws.length = mn ∧ i ≤ mn ∧ DivI F G l sc G.length i W rs ∧ ser ws = Ser.C d' * W ∧ far mn W ∧ (∀ j, j < i → W.co j = 0) ∧ (∃ w, ser rs = Ser.C (l ^ i) * w ∧ B n (a + (mn - i) * (b + 1)) w) ∧ B mn (a + mn * (b + 1)) W)
    ⟨rfl, 0, _, _, _, _, _, _, rfl, by rw [List.length_map], by rw [List.length_replicate], Nat.le_refl _, start, by rw [ser_zeros]; grind, far_zero, fun j _ => zero_co j, ⟨ser F, by rw [ser_scale', hsc], by rw [Nat.sub_self, Nat.zero_mul]; exact B.of lF pf.bd⟩, B.zero⟩ (fun ρ m1 h => ?_) fun i ρ m1 hi h => ?_
  case refine_2 =>
    obtain ⟨rfl, W, rs, ws, _, _, _, _, rfl, lr, lw, hi', hD, eW, fW, zW, ⟨w, ew, hw⟩, hBW⟩ := h
    have k0 : (0 : Int) ≤ (i : Int) + G.length - 1 := by omega
    have k1 : (i : Int) + G.length - 1 < rs.length := by rw [lr]; omega
    repeat walk_at "s"
    refine v_ixl k0 k1 ?_
    repeat walk_at "s"
    refine v_ixm G0 ?_
    rw [← hl]
    have bl' : bd b l := bl
    repeat walk_at "s"
    obtain ⟨t, ht⟩ : ∃ t, t = (rs.getD (i + G.length - 1) 0).fdiv l := ⟨_, rfl⟩
    have en : nth rs ((i : Int) + G.length - 1) = rs.getD (i + G.length - 1) 0 := by unfold nth; rw [show ((i : Int) + G.length - 1).toNat = i + G.length - 1 by omega]
    rw [en, ← ht]
    have tw : t = l ^ i * w.co (i + G.length - 1) := by
      have := congrArg (fun f => Ser.co f (i + G.length - 1)) ew
      simp only [ser_co, Ser.C_mul_co] at this
      rw [ht, this, Int.pow_succ, show l ^ i * l * w.co (i + G.length - 1) = l * (l ^ i * w.co (i + G.length - 1)) by grind, Int.mul_fdiv_cancel_left _ l0]
    have bli : bd (i * b + 1) (l ^ i) := bd_pow bl i
    have ib : i * b + (mn - (i + 1)) * (b + 1) + (b + 1) ≤ mn * (b + 1) := by
      have h1 : i * b ≤ i * (b + 1) := Nat.mul_le_mul_left _ (by omega)
      have h2 : mn * (b + 1) = i * (b + 1) + (mn - (i + 1)) * (b + 1) + (b + 1) := by
        rw [← Nat.add_mul, ← Nat.succ_mul]; congr 1; omega
      omega
    have bt : bd (a + mn * (b + 1)) t := by
      rw [tw]
      exact bd_mono (bd_mul bli (hw.bd _)) (by omega)
    have mi : (mn - (i + 1)) * (b + 1) ≤ mn * (b + 1) := Nat.mul_le_mul_right _ (by omega)
    have mi2 : (mn - i) * (b + 1) = (mn - (i + 1)) * (b + 1) + (b + 1) := by rw [show mn - i = (mn - (i + 1)) + 1 by omega, Nat.succ_mul]
    repeat walk_at "s"
    refine v_kSIz (by omega) (by omega) ?_
    rw [Int.toNat_natCast]
    repeat walk_at "s"
    refine v_kforE (fun j r2 ρ m2 => m2 = m1 ∧ ∃ (rs' : List Int) (a11 a12 : Sl), ρ = [.val (pd F d), .val (pd G d'), .val (.tup (zz G)), .val (.int d'), .val (.int mn), .val (.int sc), a6, .own (zz rs'), .own (zz (ws.set i (t * d'))), .val (.int i), .val (.int t), a11, a12] ∧
        rs'.length = F.length ∧ j + r2.length = G.length ∧ (∀ y ∈ r2, bd b y) ∧ ser rs' + Ser.C t * xp i * ser G = ser rs + Ser.C t * xp (i + j) * ser r2) G ⟨rfl, _, _, _, rfl, lr, by omega, pg.bd, by rw [Nat.add_zero]⟩ (fun j ρ m2 h => ?_) fun j y r2 ρ m2 N2 h hN2 => ?_
    · obtain ⟨rfl, rs', _, _, rfl, lr', hj, _, e⟩ := h
      rw [ser_nil] at e
      have e : ser rs' + Ser.C t * xp i * ser G = ser rs := by rw [e]; grind
      obtain ⟨hD', _⟩ := div_step hD l0 rfl g1 hl.symm ht e
      repeat walk_at "s"
      refine ⟨rfl, _, rs', _, _, _, _, _, rfl, lr', by rw [List.length_set]; exact lw, by omega, hD', ?_, ?_, fun j hj => ?_, ?_, ?_⟩
      · rw [ser_set (by omega), eW]
        have : ws.getD i 0 = 0 := by
          have := congrArg (fun f => Ser.co f i) eW
          simp only [ser_co, Ser.C_mul_co] at this
          rw [this, zW i (by omega), Int.mul_zero]
        rw [this, show t * d' - 0 = t * d' by omega, C_mul]; grind
      · refine far_add fW (far_mono ?_ (show i + 1 ≤ mn by omega))
        intro j hj
        rw [Ser.C_mul_co, xp_co, if_neg (by omega), Int.mul_zero]
      · rw [Ser.add_co, zW j (by omega), Ser.C_mul_co, xp_co, if_neg (by omega)]; simp
      · have e2 : ser rs' = ser rs - Ser.C t * (xp i * ser G) := by rw [← e]; grind
        have e3 : ser rs' = Ser.C (l ^ i) * (Ser.C l * w - Ser.C (w.co (i + G.length - 1)) * (xp i * ser G)) := by
          rw [e2, ew, tw, C_mul, Int.pow_succ, C_mul]; grind
        have B3 : B (i + n') b (xp i * ser G) := B.shift (k := i) (B.of (n := n') lG pg.bd)
        refine ⟨_, e3, fun j hj => ?_, fun j => ?_⟩
        · have : (ser rs').co j = 0 := by rw [ser_co, getD_far (by omega)]
          rw [e3, Ser.C_mul_co] at this
          rcases Int.mul_eq_zero.mp this with z | z
          · exact absurd z (Int.pow_ne_zero l0)
          · exact z
        · rw [Ser.sub_co, Ser.C_mul_co, Ser.C_mul_co]
          refine bd_mono (bd_sub (bd_mul bl (hw.bd j)) (bd_mul (hw.bd (i + G.length - 1)) (B3.bd j))) ?_
          rw [mi2]; omega
      · refine ⟨far_add fW (far_mono (n := i + 1) (fun j hj => ?_) (by omega)), fun j => ?_⟩
        · rw [Ser.C_mul_co, xp_co, if_neg (by omega), Int.mul_zero]
        · rw [Ser.add_co, Ser.C_mul_co, xp_co]
          by_cases q : j = i
          · rw [if_pos q, q, zW i (by omega), Int.mul_one, Int.zero_add]
            exact bd_mono bt (by omega)
          · rw [if_neg q, Int.mul_zero, Int.add_zero]; exact hBW.bd j
    · obtain ⟨rfl, rs', _, _, rfl, lr', hj, hy, e⟩ := h
      rw [List.length_cons] at hj
      have by_ : bd b y := hy y List.mem_cons_self
      have p0 : (0 : Int) ≤ (i : Int) + j := by omega
      have p1 : (i : Int) + j < rs'.length := by rw [lr']; omega
      repeat walk_at "s"
      refine v_ixl p0 p1 ?_
      repeat walk_at "s"
      refine v_kSIz p0 p1 ?_
      have et : ((i : Int) + j).toNat = i + j := by omega
      rw [et]
      refine hN2 _ _ ⟨rfl, _, _, _, rfl, by rw [List.length_set]; exact lr', by omega, fun z hz => hy z (List.mem_cons_of_mem _ hz), ?_⟩
      rw [ser_set (by omega)]
      have en : nth rs' ((i : Int) + j) = rs'.getD (i + j) 0 := by unfold nth; rw [et]
      rw [en, show rs'.getD (i + j) 0 - t * y - rs'.getD (i + j) 0 = -(t * y) by omega, C_neg, C_mul]
      rw [ser_cons] at e
      rw [← Nat.add_assoc, xp_add (i + j) 1]
      grind
  obtain ⟨rfl, W, rs, ws, _, _, _, _, rfl, lr, lw, _, hD, eW, fW, zW, ⟨w, ew, hB⟩, hBW⟩ := h
  rw [Int.pow_zero, C_one, show (1 : Ser Int) * w = w by grind] at ew
  rw [← ew] at hB
  have dp := hf.pos
  have D0 : sc * d ≠ 0 := Int.mul_ne_zero sc0 (by omega)
  have bD : bd (mn * (b + 1) + 1 + a) (sc * d) := bd_mul bsc bdd
  have m2 : (mn - 0) * (b + 1) = mn * (b + 1) := rfl
  rw [m2] at hB
  repeat walk_at "s"
  refine ⟨_, ws, rfl, isRow_l, by omega, fun u hu => ?_⟩
  repeat walk_at "s"
  have ub : ∀ x ∈ u, bd (a + M' * (b + 1) + 2 + b) x := fun x hx => bd_mono (hu.bds (by rw [eW]; exact B.scale bdd' hBW) x hx) (by omega)
  have ul : u.length ≤ mn := hu.len (by rw [eW]; exact B.scale bdd' hBW)
  refine ⟨u, sc * d, rfl, by omega, fun z => absurd z D0, fun _ => ⟨Sm.of bD ub (by omega), ?_⟩⟩
  repeat walk_at "s"
  refine ⟨_, rs, rfl, isRow_l, by omega, fun v hv => ?_⟩
  repeat walk_at "s"
  have vb : ∀ x ∈ v, bd (a + M' * (b + 1) + 2) x := fun x hx => bd_mono (hv.bds hB x hx) (by omega)
  have vl : v.length ≤ n := hv.len hB
  refine ⟨v, sc * d, rfl, by omega, fun z => absurd z D0, fun _ => ⟨Sm.of bD vb (by omega), ?_⟩⟩
  repeat walk_at "s"
  have e1 : Ser.C ((sc * d : Int) : Rat) * (Ser.C ((sc * d : Int) : Rat)⁻¹ * qs (ser u)) = qs (ser u) := ser_of D0
  have e2 : Ser.C ((sc * d : Int) : Rat) * (Ser.C ((sc * d : Int) : Rat)⁻¹ * qs (ser v)) = qs (ser v) := ser_of D0
  have hP1 := low_P D0 hu.dn e1
  have hP2 := low_P D0 hv.dn e2
  refine k _ _ _ _ _ _ hP1 hP2 ?_ ?_ ?_ (hP1.PB D0 e1 (by omega) ub (bd_mono bD (by omega))) (hP2.PB D0 e2 (by omega) vb (bd_mono bD (by omega)))
  · refine Cq_cancel (cne D0) ?_
    have e3 : Ser.C ((sc * d : Int) : Rat) * (Ser.C ((sc * d : Int) : Rat)⁻¹ * qs (ser u) * g + Ser.C ((sc * d : Int) : Rat)⁻¹ * qs (ser v)) = qs (ser u) * g + qs (ser v) := by
      have := C_inv (cne D0)
      grind
    rw [e3, Rat.intCast_mul, C_mul, Lean.Grind.Semiring.mul_assoc, hf.eq, hu.sr, hv.sr, eW, qs_mul, qs_C]
    have e4 := congrArg qs hD.eq
    rw [qs_add, qs_mul, qs_mul, qs_C] at e4
    rw [← e4, ← hg.eq]; grind
  · refine far_scale (qs_far fun k hk => ?_)
    rw [hv.sr, ser_co]
    exact hD.hi k (by omega)
  · refine far_scale (qs_far fun k hk => ?_)
    rw [hu.sr, eW, Ser.C_mul_co, fW k (by omega), Int.mul_zero]
def b_quotients_divides {M : Type} : DS M :=
    (dThen (dIte (dTst (dBin gEq (dVar 0) (dC (.tup [(.tup []), (.int 1)]))))
      (dRet (dBin gEq (dVar 1) (dC (.tup [(.tup []), (.int 1)]))))
      dNext)
    (dRet (dBin gEq (dBin (gIx false) (dCall s_quotients_divided [] (dCons (dVar 1) (dCons (dVar 0) dNil))) (dC (.int 1))) (dC (.tup [(.tup []), (.int 1)])))))

/-- is f some polynomial times g -/
def s_quotients_divides {M : Type} : DSp M := fun ds m Q Z => ∃ f g r d r' d' n a n' b M', ds = [pd r' d', pd r d] ∧ P f r d ∧ P g r' d' ∧ PB n a r d ∧ PB n' b r' d' ∧ n ≤ 2000 ∧ n' ≤ 2000 ∧ b ≤ 4000 ∧ r.length + 1 ≤ r'.length + M' ∧ a + M' * (b + 1) + 2 + b ≤ 13400 ∧
  ∀ c : Bool, (c = true ↔ ∃ N q, far N q ∧ f = q * g) → Q (.bl c) m
theorem vc_quotients_divides {M : Type} : ∀ ds (m : M) Q Z, s_quotients_divides ds m Q Z → okK [false, false] ds ∧ b_quotients_divides { nx := fun _ m' => Q .non m', rt := Q, ex := Z } (st0 [false, false] ds 2) m := by
  rintro ds m Q Z ⟨f, g, F, d, G, d', n, a, n', b, M', rfl, hf, hg, pf, pg, hn, hn', hb, hM, hab, k⟩
  refine ⟨⟨fun _ => nl_pd, fun _ => nl_pd, trivial⟩, ?_⟩
  unfold b_quotients_divides
  repeat walk_at "s"
  refine v_eqpd0 ?_
  repeat walk_at "s"
  refine v_ifd (fun h => ?_) fun h => ?_
  · have g0 := hg.zero.mpr h
    repeat walk_at "s"
    refine v_eqpd0 (k _ ?_)
    rw [decide_eq_true_eq, ← hf.zero, g0]
    exact ⟨fun e => ⟨0, 0, far_zero, by rw [e]; grind⟩, fun ⟨_, q, _, e⟩ => by rw [e]; grind⟩
  · have G0 : G ≠ [] := fun e => h (hg.zero.mp (hg.nil_iff.mpr e))
    repeat walk_at "s"
    refine ⟨f, g, F, d, G, d', n, a, n', b, M', rfl, hf, hg, pf, pg, hn, hn', hb, hM, hab, fun e => absurd e G0, fun _ q t r1 d1 r2 d2 h1 h2 e ft fq _ _ => ?_⟩
    repeat walk_at "s"
    refine v_eqpd0 (k _ ?_)
    rw [decide_eq_true_eq, ← h2.zero]
    refine ⟨fun z => ⟨_, q, fq, by rw [e, z]; grind⟩, fun ⟨N, q', fq', e'⟩ => ?_⟩
    have tp := hg.top G0
    exact (div_uniq dom_rat tp (far_mono fq (Nat.le_max_left (n + 1) N)) (far_mono fq' (Nat.le_max_right (n + 1) N)) ft far_zero (by rw [← e, e']; grind)).2
/-- any row -/
theorem row_of {n : Nat} {f : Ser Int} (h : far n f) : ∃ xs : List Int, xs.length = n ∧ ser xs = f := by
  refine ⟨(List.range n).map f.co, by simp, Ser.ext fun k => ?_⟩
  rw [ser_co, List.getD_eq_getElem?_getD, List.getElem?_map]
  by_cases hk : k < n
  · rw [List.getElem?_range hk]; rfl
  · rw [List.getElem?_eq_none (by simp; omega), h k (by omega)]; rfl
/-- a told product's size -/
theorem PB.prod {f g : Ser Rat} {r r' s : List Int} {d d' e : Int} {n a n' b : Nat} (h : P (f * g) s e) (hf : P f r d) (hg : P g r' d') (pf : PB n a r d) (pg : PB n' b r' d') : PB (n + n') (a + b + n) s e := by
  have hB := (B.of pf.ln pf.bd).mul (B.of pg.ln pg.bd)
  obtain ⟨xs, lx, ex⟩ := row_of (f := ser r * ser r') hB.far
  have := hf.pos
  have := hg.pos
  refine h.PB (Int.mul_ne_zero (by omega) (by omega)) (times_P hf hg ex) (by omega) (fun x hx => ?_) (bd_mono (bd_mul pf.dd pg.dd) (by omega))
  obtain ⟨i, hi, rfl⟩ := List.mem_iff_getElem.mp hx
  have := hB.bd i
  rw [← ex, ser_co, List.getD_eq_getElem?_getD, List.getElem?_eq_getElem hi] at this
  exact this
theorem P.int {f : Ser Int} {r : List Int} (h : R f r) : P (qs f) r 1 := ⟨by decide, h.dn, Int.gcd_one, by rw [h.sr, show ((1 : Int) : Rat) = 1 from rfl, C_one]; grind⟩
theorem PB.dec {n a : Nat} {r : List Int} {d : Int} (h : (decide (r.length ≤ n) && r.all (fun x => decide (x.natAbs < 2 ^ a)) && decide (d.natAbs < 2 ^ a)) = true) : PB n a r d := by
  simp only [Bool.and_eq_true, List.all_eq_true, decide_eq_true_eq] at h
  exact ⟨h.1.1, fun x hx => h.1.2 x hx, h.2⟩
end RR

/-! V05: polynomials reckoned (law k05) -/
namespace RR
open PySem PySem.Spec PyProof.Rows L2
local macro_rules | `(tactic| walk_at "bd") => `(tactic| first | assumption | exact bd_lit (by decide) | (with_reducible refine bd_mul ?_ ?_ <;> walk_at "bd") | (with_reducible refine bd_add ?_ ?_ <;> walk_at "bd") | (with_reducible refine bd_sub ?_ ?_ <;> walk_at "bd") | (with_reducible refine bd_neg ?_ <;> walk_at "bd"))
local macro_rules | `(tactic| walk_at "s") => `(tactic| with_reducible first
  | refine v_then ?_ | refine v_set ?_ | (apply v_var; · with_unfolding_all exact rfl) | refine v_bin ?_ | refine v_c ?_ | refine v_g0 ?_ | refine v_add ?_ | refine v_cons ?_ | refine v_nil ?_ | refine v_call ?_ | refine v_dB ?_ | refine v_next ?_ | refine v_ret ?_
  | refine v_ite ?_ | refine v_tst ?_ | refine v_kT ?_ | refine v_eqi ?_ | refine v_nei ?_ | refine v_eqr ?_ | refine v_ner ?_ | refine v_eqr0 ?_ | refine v_ner0 ?_ | refine v_eql ?_ | refine v_nel ?_ | refine v_eql0 ?_ | refine v_nel0 ?_ | refine v_isN ?_ | refine v_notN ?_
  | (apply v_bor; · with_unfolding_all exact rfl) | (apply v_own; · with_unfolding_all exact rfl) | refine v_tup ?_ | refine v_lst ?_ | (refine v_sz ?_ ?_; (· with_unfolding_all exact Nat.le_of_ble_eq_true rfl)) | (refine v_gIIz ?_ ?_; (· first | decide | omega))
  | refine v_lentz ?_ | refine v_lenlz ?_ | refine v_lent ?_ | refine v_lenl ?_ | refine v_I1 ?_ | refine v_I2 ?_ | refine v_int ?_ | refine v_seqlz ?_ | refine v_seqtz ?_ | refine v_sl ?_ | refine v_kSll ?_ | refine v_kSlt ?_ | refine v_ono ?_ | refine v_oso ?_ | refine v_kOS ?_
  | refine v_val ?_ | refine v_kVb ?_ | refine v_kVi ?_ | refine v_kVt ?_ | refine v_kVl ?_ | refine v_and ?_ | refine v_or ?_ | refine v_not ?_ | refine v_yes ?_ | refine v_if' ?_ | refine v_isi ?_ | refine v_kIii ?_ | refine v_kIib ?_ | refine v_kItt ?_
  | refine v_andV ?_ | refine v_orV ?_ | refine v_notV ?_ | refine v_kNV ?_ | refine v_neg ?_ | refine v_kNeg ?_ | refine v_seq ?_ | refine v_kSeql ?_ | refine v_kSeqt ?_ | refine v_rng1 ?_ | refine v_rng2 ?_ | refine v_enum ?_ | refine v_revr ?_ | refine v_rev ?_
  | (refine v_kR1 ?_ ?_ ?_; (· decide); (· decide))
  | (refine v_kR2 ?_ ?_ ?_ ?_ ?_; (· decide); (· decide); (· decide); (· decide))
  | refine v_gn ?_ | refine v_gt2 ?_ | refine v_gt3 ?_ | refine v_lc ?_ | refine v_for ?_ | refine v_setO ?_ | refine v_drop ?_ | (apply v_app; · with_unfolding_all exact rfl) | (apply v_setI; · with_unfolding_all exact rfl) | (apply v_rel; · with_unfolding_all exact rfl) | refine v_raise ?_ | refine v_par ?_ | refine v_kP ?_ | refine v_asg ?_
  | (apply v_aug; · with_unfolding_all exact rfl) | refine v_ifT ?_ | refine v_ifF ?_ | (refine v_pow ?_ ?_ ?_ ?_; (· decide); (· decide); (· decide)) | refine v_call0 ?_ | (apply v_lenr; · assumption) | (apply v_seqr; · assumption) | (apply v_kSeqr; · assumption) | (apply v_kSlr; · assumption)
  | refine v_ix0 ?_ | refine v_ix1 ?_ | refine v_ix2 ?_ | refine v_zip ?_ | refine v_kZl ?_ | refine v_kZt ?_ | (apply v_augI; · with_unfolding_all exact rfl) | refine v_try ?_ | refine v_isE ?_ | (refine v_kIE ?_ ?_; (· with_unfolding_all exact rfl)) | refine v_isB ?_ | refine v_notB ?_ | refine v_all ?_ | refine v_par3 ?_ | refine v_ifnT ?_ | refine v_ifnF ?_ | refine v_eqs ?_ | refine v_nes ?_ | refine v_rvs ?_ | refine v_kRvl ?_ | refine v_kRvt ?_
  | (refine v_mulb (a := ?a) (b := ?b) ?ha ?hb ?l ?h; (case ha => assumption); (case hb => assumption); (case l => omega)) | (refine v_fdivb (b := ?b) ?h0 ?hb ?l ?h; (case h0 => assumption); (case hb => assumption); (case l => omega)))
theorem v_nns {x y : Str} {q : D → Prop} (h : q (.bl (!decide (x = y)))) : gNe (.str x) (.str y) q := v_nes h
def b__law_is {M : Type} : DS M :=
    (dRet (dAndV (dIsi "tuple" (dVar 0)) (dBin gEq (dB gRepr (dCons (dVar 0) dNil)) (dB gRepr (dCons (dVar 1) dNil)))))

def s__law_is {M : Type} : DSp M := fun ds m Q Z => ∃ xs, ds = [.tup xs, .tup xs] ∧ (D.tup xs).nl = true ∧ (D.tup xs).sho ∧ Q (.bl true) m
theorem vc__law_is {M : Type} : ∀ ds (m : M) Q Z, s__law_is ds m Q Z → okK [false, false] ds ∧ b__law_is { nx := fun _ m' => Q .non m', rt := Q, ex := Z } (st0 [false, false] ds 2) m := by
  rintro ds m Q Z ⟨xs, rfl, n, s, q⟩
  refine ⟨⟨fun _ => n, fun _ => n, trivial⟩, ?_⟩
  unfold b__law_is
  repeat walk_at "s"
  refine v_kAV (fun _ => ?_) fun h => (nomatch h)
  repeat walk_at "s"
  refine v_repr s ?_
  repeat walk_at "s"
  refine v_repr s ?_
  exact rep_eq q
def b_rows_scaled {M : Type} : DS M :=
    (dRet (dCall s_rows_row_of [] (dCons (dLc (dSeq false (dVar 0)) (dgN 2) dYes (dBin gMul (dVar 1) (dVar 2)) [2]) dNil)))

def s_rows_scaled {M : Type} : DSp M := fun ds m Q Z => ∃ xs k a b, ds = [.tup (zz xs), .int k] ∧ xs.length ≤ 1000000 ∧ (∀ x ∈ xs, bd a x) ∧ bd b k ∧ a + b ≤ 100000000 ∧ ∀ r, R (Ser.C k * ser xs) r → Q (.tup (zz r)) m
theorem vc_rows_scaled {M : Type} : ∀ ds (m : M) Q Z, s_rows_scaled ds m Q Z → okK [false, false] ds ∧ b_rows_scaled { nx := fun _ m' => Q .non m', rt := Q, ex := Z } (st0 [false, false] ds 3) m := by
  rintro ds m Q Z ⟨xs, k, a, b, rfl, hl, hx, hk, hab, q⟩
  refine ⟨⟨fun _ => nl_row xs, fun _ => rfl, trivial⟩, ?_⟩
  unfold b_rows_scaled
  repeat walk_at "s"
  refine lc_zz (f := fun x => k * x) xs (fun x hx' m1 k l hk => ?_) (by omega) ?_
  · have bx := hx x hx'
    repeat walk_at "s"
    exact hk
  repeat walk_at "s"
  refine ⟨_, _, rfl, isRow_l, by rw [List.length_map]; omega, fun r hr => q r ?_⟩
  rw [ser_scale] at hr
  exact hr
def b_polys_plus {M : Type} : DS M :=
    (dRet (dCall s_polys_poly [] (dCons (dCall s_rows_plus [] (dCons (dCall s_rows_scaled [] (dCons (dBin (gIx false) (dVar 0) (dC (.int 0))) (dCons (dBin (gIx false) (dVar 1) (dC (.int 1))) dNil))) (dCons (dCall s_rows_scaled [] (dCons (dBin (gIx false) (dVar 1) (dC (.int 0))) (dCons (dBin (gIx false) (dVar 0) (dC (.int 1))) dNil))) dNil))) (dCons (dBin gMul (dBin (gIx false) (dVar 0) (dC (.int 1))) (dBin (gIx false) (dVar 1) (dC (.int 1)))) dNil))))

def s_polys_plus {M : Type} : DSp M := fun ds m Q Z => ∃ f g r d r' d' n a n' b, ds = [pd r d, pd r' d'] ∧ P f r d ∧ P g r' d' ∧ PB n a r d ∧ PB n' b r' d' ∧ n ≤ 1000000 ∧ n' ≤ 1000000 ∧ a + b ≤ 13399 ∧
  ∀ r'' d'', P (f + g) r'' d'' → PB (max n n') (a + b + 1) r'' d'' → Q (pd r'' d'') m
theorem vc_polys_plus {M : Type} : ∀ ds (m : M) Q Z, s_polys_plus ds m Q Z → okK [false, false] ds ∧ b_polys_plus { nx := fun _ m' => Q .non m', rt := Q, ex := Z } (st0 [false, false] ds 2) m := by
  rintro ds m Q Z ⟨f, g, r, d, r', d', n, a, n', b, rfl, hf, hg, pf, pg, hn, hn', hab, q⟩
  refine ⟨⟨fun _ => nl_pd, fun _ => nl_pd, trivial⟩, ?_⟩
  unfold b_polys_plus
  have ln := pf.ln
  have ln' := pg.ln
  have bd1 := pf.dd
  have bd2 := pg.dd
  repeat walk_at "s"
  refine ⟨r, d', a, b, rfl, by omega, pf.bd, bd2, by omega, fun s1 hs1 => ?_⟩
  have B1 : B n (a + b) (ser s1) := by rw [hs1.sr]; exact (B.scale bd2 (B.of ln pf.bd)).mono (Nat.le_refl _) (by omega)
  have l1 := (R.mk hs1.dn rfl).len B1
  repeat walk_at "s"
  refine ⟨r', d, b, a, rfl, by omega, pg.bd, bd1, by omega, fun s2 hs2 => ?_⟩
  have B2 : B n' (a + b) (ser s2) := by rw [hs2.sr]; exact B.scale bd1 (B.of ln' pg.bd)
  have l2 := (R.mk hs2.dn rfl).len B2
  repeat walk_at "s"
  refine ⟨s1, s2, rfl, by omega, by omega, fun s hs => ?_⟩
  have dp := hf.pos
  have dp' := hg.pos
  have d0 : d * d' ≠ 0 := Int.mul_ne_zero (by omega) (by omega)
  have eq : Ser.C ((d * d' : Int) : Rat) * (f + g) = qs (ser s) := by
    have e1 := hf.eq
    have e2 := hg.eq
    rw [hs.sr, hs1.sr, hs2.sr, qs_add, qs_mul, qs_mul, qs_C, qs_C, ← e1, ← e2, Rat.intCast_mul, C_mul]
    grind
  have sB : B (max n n') (a + b + 1) (ser s) := by
    rw [hs.sr]
    exact (B1.add B2).mono (Nat.le_refl _) (by omega)
  have ls : s.length ≤ max n n' := (R.mk hs.dn rfl).len sB
  repeat walk_at "s"
  refine ⟨s, d * d', rfl, by omega, fun z => absurd z d0, fun _ => ⟨Sm.of (bd_mul bd1 bd2) ((R.mk hs.dn rfl).bds sB) (by omega), ?_⟩⟩
  have hP := low_P d0 hs.dn eq
  exact q _ _ hP (hP.PB d0 eq ls ((R.mk hs.dn rfl).bds sB) (bd_mono (bd_mul bd1 bd2) (by omega)))
def b_polys_scaled {M : Type} : DS M :=
    (dRet (dCall s_polys_poly [] (dCons (dCall s_rows_scaled [] (dCons (dBin (gIx false) (dVar 0) (dC (.int 0))) (dCons (dBin (gIx false) (dVar 1) (dC (.int 0))) dNil))) (dCons (dBin gMul (dBin (gIx false) (dVar 0) (dC (.int 1))) (dBin (gIx false) (dVar 1) (dC (.int 1)))) dNil))))

/-- scaled by u / v, as lowR, lowD tell it -/
def s_polys_scaled {M : Type} : DSp M := fun ds m Q Z => ∃ f r d u v n a b, ds = [pd r d, .tup [.int u, .int v]] ∧ v ≠ 0 ∧ P f r d ∧ PB n a r d ∧ n ≤ 1000000 ∧ bd b u ∧ bd b v ∧ a + b ≤ 13400 ∧
  ∀ s, R (Ser.C u * ser r) s → (∀ g, Ser.C (v : Rat) * g = Ser.C (u : Rat) * f → P g (lowR s (d * v)) (lowD s (d * v))) → PB n (a + b) (lowR s (d * v)) (lowD s (d * v)) → Q (pd (lowR s (d * v)) (lowD s (d * v))) m
theorem vc_polys_scaled {M : Type} : ∀ ds (m : M) Q Z, s_polys_scaled ds m Q Z → okK [false, false] ds ∧ b_polys_scaled { nx := fun _ m' => Q .non m', rt := Q, ex := Z } (st0 [false, false] ds 2) m := by
  rintro ds m Q Z ⟨f, r, d, u, v, n, a, b, rfl, v0, hf, pf, hn, hu, hv, hab, q⟩
  refine ⟨⟨fun _ => nl_pd, fun _ => rfl, trivial⟩, ?_⟩
  unfold b_polys_scaled
  have ln := pf.ln
  have bd1 := pf.dd
  repeat walk_at "s"
  refine ⟨r, u, a, b, rfl, by omega, pf.bd, hu, by omega, fun s hs => ?_⟩
  have sB : B n (a + b) (ser s) := by rw [hs.sr]; exact (B.scale hu (B.of ln pf.bd)).mono (Nat.le_refl _) (by omega)
  have ls := (R.mk hs.dn rfl).len sB
  have dp := hf.pos
  have d0 : d * v ≠ 0 := Int.mul_ne_zero (by omega) v0
  repeat walk_at "s"
  refine ⟨s, d * v, rfl, by omega, fun z => absurd z d0, fun _ => ⟨Sm.of (bd_mul bd1 hv) ((R.mk hs.dn rfl).bds sB) (by omega), ?_⟩⟩
  refine q s hs (fun g hg => low_P d0 hs.dn ?_) ⟨by rw [lowR_len]; exact ls, lowR_bd d0 ((R.mk hs.dn rfl).bds sB), lowD_bd d0 (bd_mul bd1 hv)⟩
  have e1 := hf.eq
  rw [hs.sr, qs_mul, qs_C, ← e1, Rat.intCast_mul, C_mul]
  grind
def b_polys_less {M : Type} : DS M :=
    (dRet (dCall s_polys_plus [] (dCons (dVar 0) (dCons (dCall s_polys_scaled [] (dCons (dVar 1) (dCons (dTup (dCons (dNeg (dC (.int 1))) (dCons (dC (.int 1)) dNil))) dNil))) dNil))))

def s_polys_less {M : Type} : DSp M := fun ds m Q Z => ∃ f g r d r' d' n a n' b, ds = [pd r d, pd r' d'] ∧ P f r d ∧ P g r' d' ∧ PB n a r d ∧ PB n' b r' d' ∧ n ≤ 1000000 ∧ n' ≤ 1000000 ∧ a + b ≤ 13000 ∧
  ∀ r'' d'', P (f - g) r'' d'' → PB (max n n') (a + b + 2) r'' d'' → Q (pd r'' d'') m
theorem vc_polys_less {M : Type} : ∀ ds (m : M) Q Z, s_polys_less ds m Q Z → okK [false, false] ds ∧ b_polys_less { nx := fun _ m' => Q .non m', rt := Q, ex := Z } (st0 [false, false] ds 2) m := by
  rintro ds m Q Z ⟨f, g, r, d, r', d', n, a, n', b, rfl, hf, hg, pf, pg, hn, hn', hab, q⟩
  refine ⟨⟨fun _ => nl_pd, fun _ => nl_pd, trivial⟩, ?_⟩
  unfold b_polys_less
  repeat walk_at "s"
  refine ⟨g, r', d', -1, 1, n', b, 1, rfl, by decide, hg, pg, hn', bd_lit (by decide), bd_lit (by decide), by omega, fun s _ hP hB => ?_⟩
  have hP := hP (-g) (by rw [show ((1 : Int) : Rat) = 1 from rfl, show ((-1 : Int) : Rat) = -1 from rfl, C_neg, C_one]; grind)
  repeat walk_at "s"
  refine ⟨f, -g, r, d, _, _, n, a, n', b + 1, rfl, hf, hP, pf, hB, hn, hn', by omega, fun r'' d'' h1 h2 => q r'' d'' (h1.cong (by grind)) (h2.mono (Nat.le_refl _) (by omega))⟩
def b_polys_times {M : Type} : DS M :=
    (dRet (dCall s_polys_poly [] (dCons (dCall s_rows_times [] (dCons (dBin (gIx false) (dVar 0) (dC (.int 0))) (dCons (dBin (gIx false) (dVar 1) (dC (.int 0))) dNil))) (dCons (dBin gMul (dBin (gIx false) (dVar 0) (dC (.int 1))) (dBin (gIx false) (dVar 1) (dC (.int 1)))) dNil))))

def s_polys_times {M : Type} : DSp M := fun ds m Q Z => ∃ f g r d r' d' n a n' b, ds = [pd r d, pd r' d'] ∧ P f r d ∧ P g r' d' ∧ PB n a r d ∧ PB n' b r' d' ∧ n ≤ 100000 ∧ n' ≤ 100000 ∧ (a + b ≤ 9000 ∨ a + b + n ≤ 13400) ∧
  ∀ r'' d'', P (f * g) r'' d'' → PB (n' + n) (b + a + n') r'' d'' → Q (pd r'' d'') m
theorem vc_polys_times {M : Type} : ∀ ds (m : M) Q Z, s_polys_times ds m Q Z → okK [false, false] ds ∧ b_polys_times { nx := fun _ m' => Q .non m', rt := Q, ex := Z } (st0 [false, false] ds 2) m := by
  rintro ds m Q Z ⟨f, g, r, d, r', d', n, a, n', b, rfl, hf, hg, pf, pg, hn, hn', hab, q⟩
  refine ⟨⟨fun _ => nl_pd, fun _ => nl_pd, trivial⟩, ?_⟩
  unfold b_polys_times
  have ln := pf.ln
  have ln' := pg.ln
  have bd1 := pf.dd
  have bd2 := pg.dd
  repeat walk_at "s"
  refine ⟨r, r', a, b, rfl, by omega, by omega, pf.bd, pg.bd, by omega, fun s hs => ?_⟩
  have dp := hf.pos
  have dp' := hg.pos
  have d0 : d * d' ≠ 0 := Int.mul_ne_zero (by omega) (by omega)
  have eq := times_P hf hg hs.sr
  have sB : B (n + n') (a + b + n) (ser s) := by
    rw [hs.sr]
    exact (B.of (n := n) ln pf.bd).mul (B.of (n := n') ln' pg.bd)
  have ls : s.length ≤ n + n' := (R.mk hs.dn rfl).len sB
  repeat walk_at "s"
  refine ⟨s, d * d', rfl, by omega, fun z => absurd z d0, fun _ => ⟨Sm.of (bd_mul bd1 bd2) ((R.mk hs.dn rfl).bds sB) (by omega), ?_⟩⟩
  have hP := low_P d0 hs.dn eq
  exact q _ _ hP (PB.prod (hP.cong (by grind)) hg hf pg pf)
def b_polys_power {M : Type} : DS M :=
    (dThen (dSet 2 (dC (.tup [(.tup [(.int 1)]), (.int 1)])))
    (dThen (dFor (dRng1 (dCons (dVar 1) dNil)) (dgN 3)
      (dSet 2 (dCall s_polys_times [] (dCons (dVar 2) (dCons (dVar 0) dNil)))))
    (dRet (dVar 2))))

/-- room for a power -/
def pwB (n a k : Nat) : Nat × Nat := (k * n + 1, k * (a + n) + 1)
def s_polys_power {M : Type} : DSp M := fun ds m Q Z => ∃ f r d n a, ∃ k : Nat, ds = [pd r d, .int k] ∧ P f r d ∧ PB n a r d ∧ k * n + n ≤ 90000 ∧ k * (a + n) + a + 1 ≤ 9000 ∧ k ≤ 1000 ∧
  ∀ r'' d'', P (f ^ k) r'' d'' → PB (k * n + 1) (k * (a + n) + 1) r'' d'' → Q (pd r'' d'') m
theorem P.one : P 1 [1] 1 := (P.int (r := [1]) ⟨rfl, by
  rw [ser_cons, ser_nil, C_one]
  exact (by grind : (1 : Ser Int) + xp 1 * 0 = 1)⟩).cong qs_one
theorem PB.one : PB 1 1 [1] 1 := PB.dec (by decide)
theorem pow_next {f : Ser Rat} {r r1 s : List Int} {d d1 e : Int} {n a k : Nat} (hf : P f r d) (pf : PB n a r d) (h : P (f ^ k) r1 d1) (p : PB (k * n + 1) (k * (a + n) + 1) r1 d1) (h2 : P (f ^ k * f) s e) : P (f ^ (k + 1)) s e ∧ PB ((k + 1) * n + 1) ((k + 1) * (a + n) + 1) s e := by
  refine ⟨h2.cong (Lean.Grind.Semiring.pow_succ f k).symm, ?_⟩
  refine (PB.prod (h2.cong (by grind)) hf h pf p).mono ?_ ?_
  · rw [Nat.succ_mul]; omega
  · rw [Nat.succ_mul]; omega
theorem vc_polys_power {M : Type} : ∀ ds (m : M) Q Z, s_polys_power ds m Q Z → okK [false, false] ds ∧ b_polys_power { nx := fun _ m' => Q .non m', rt := Q, ex := Z } (st0 [false, false] ds 4) m := by
  rintro ds m Q Z ⟨f, r, d, n, a, k, rfl, hf, pf, h1, h2, hk, q⟩
  refine ⟨⟨fun _ => nl_pd, fun _ => rfl, trivial⟩, ?_⟩
  unfold b_polys_power
  repeat walk_at "s"
  refine v_kR1 (by omega) (by omega) ?_
  rw [Int.toNat_natCast]
  refine v_kforR k (fun j ρ m' => m' = m ∧ ∃ r1 d1 a3, ρ = [.val (pd r d), .val (.int k), .val (pd r1 d1), a3] ∧ P (f ^ j) r1 d1 ∧ PB (j * n + 1) (j * (a + n) + 1) r1 d1) ⟨rfl, [1], 1, _, rfl, by rw [Lean.Grind.Semiring.pow_zero]; exact P.one, by simpa using PB.one⟩ (fun ρ m' h => ?_) fun j ρ m' hj h => ?_
  · obtain ⟨rfl, r1, d1, _, rfl, hp, pp⟩ := h
    repeat walk_at "s"
    exact q r1 d1 hp pp
  · obtain ⟨rfl, r1, d1, _, rfl, hp, pp⟩ := h
    have l1 : j * n ≤ k * n := Nat.mul_le_mul_right n (by omega)
    have l2 : j * (a + n) ≤ k * (a + n) := Nat.mul_le_mul_right _ (by omega)
    repeat walk_at "s"
    refine ⟨_, f, r1, d1, r, d, _, _, n, a, rfl, hp, hf, pp, pf, by omega, by omega, by omega, fun r2 d2 h3 _ => ?_⟩
    obtain ⟨h4, p4⟩ := pow_next hf pf hp pp h3
    repeat walk_at "s"
    exact ⟨rfl, r2, d2, _, rfl, h4, p4⟩
end RR

/-! V05b: derived, monic, is_poly -/
namespace RR
open PySem PySem.Spec PyProof.Rows L2
local macro_rules | `(tactic| walk_at "bd") => `(tactic| first | assumption | exact bd_lit (by decide) | (with_reducible refine bd_mul ?_ ?_ <;> walk_at "bd") | (with_reducible refine bd_add ?_ ?_ <;> walk_at "bd") | (with_reducible refine bd_sub ?_ ?_ <;> walk_at "bd") | (with_reducible refine bd_neg ?_ <;> walk_at "bd"))
local macro_rules | `(tactic| walk_at "s") => `(tactic| with_reducible first
  | refine v_then ?_ | refine v_set ?_ | (apply v_var; · with_unfolding_all exact rfl) | refine v_bin ?_ | refine v_c ?_ | refine v_g0 ?_ | refine v_add ?_ | refine v_cons ?_ | refine v_nil ?_ | refine v_call ?_ | refine v_dB ?_ | refine v_next ?_ | refine v_ret ?_
  | refine v_ite ?_ | refine v_tst ?_ | refine v_kT ?_ | refine v_eqi ?_ | refine v_nei ?_ | refine v_eqr ?_ | refine v_ner ?_ | refine v_eqr0 ?_ | refine v_ner0 ?_ | refine v_eql ?_ | refine v_nel ?_ | refine v_eql0 ?_ | refine v_nel0 ?_ | refine v_isN ?_ | refine v_notN ?_
  | (apply v_bor; · with_unfolding_all exact rfl) | (apply v_own; · with_unfolding_all exact rfl) | refine v_tup ?_ | refine v_lst ?_ | (refine v_sz ?_ ?_; (· with_unfolding_all exact Nat.le_of_ble_eq_true rfl)) | (refine v_gIIz ?_ ?_; (· first | decide | omega))
  | refine v_lentz ?_ | refine v_lenlz ?_ | refine v_lent ?_ | refine v_lenl ?_ | refine v_I1 ?_ | refine v_I2 ?_ | refine v_int ?_ | refine v_seqlz ?_ | refine v_seqtz ?_ | refine v_sl ?_ | refine v_kSll ?_ | refine v_kSlt ?_ | refine v_ono ?_ | refine v_oso ?_ | refine v_kOS ?_
  | refine v_val ?_ | refine v_kVb ?_ | refine v_kVi ?_ | refine v_kVt ?_ | refine v_kVl ?_ | refine v_and ?_ | refine v_or ?_ | refine v_not ?_ | refine v_yes ?_ | refine v_if' ?_ | refine v_isi ?_ | refine v_kIii ?_ | refine v_kIib ?_ | refine v_kItt ?_
  | refine v_andV ?_ | refine v_orV ?_ | refine v_notV ?_ | refine v_kNV ?_ | refine v_neg ?_ | refine v_kNeg ?_ | refine v_seq ?_ | refine v_kSeql ?_ | refine v_kSeqt ?_ | refine v_rng1 ?_ | refine v_rng2 ?_ | refine v_enum ?_ | refine v_revr ?_ | refine v_rev ?_
  | (refine v_kR1 ?_ ?_ ?_; (· decide); (· decide))
  | (refine v_kR2 ?_ ?_ ?_ ?_ ?_; (· decide); (· decide); (· decide); (· decide))
  | refine v_gn ?_ | refine v_gt2 ?_ | refine v_gt3 ?_ | refine v_lc ?_ | refine v_for ?_ | refine v_setO ?_ | refine v_drop ?_ | (apply v_app; · with_unfolding_all exact rfl) | (apply v_setI; · with_unfolding_all exact rfl) | (apply v_rel; · with_unfolding_all exact rfl) | refine v_raise ?_ | refine v_par ?_ | refine v_kP ?_ | refine v_asg ?_
  | (apply v_aug; · with_unfolding_all exact rfl) | refine v_ifT ?_ | refine v_ifF ?_ | (refine v_pow ?_ ?_ ?_ ?_; (· decide); (· decide); (· decide)) | refine v_call0 ?_ | (apply v_lenr; · assumption) | (apply v_seqr; · assumption) | (apply v_kSeqr; · assumption) | (apply v_kSlr; · assumption)
  | refine v_ix0 ?_ | refine v_ix1 ?_ | refine v_ix2 ?_ | refine v_zip ?_ | refine v_kZl ?_ | refine v_kZt ?_ | (apply v_augI; · with_unfolding_all exact rfl) | refine v_try ?_ | refine v_isE ?_ | (refine v_kIE ?_ ?_; (· with_unfolding_all exact rfl)) | refine v_isB ?_ | refine v_notB ?_ | refine v_all ?_ | refine v_par3 ?_ | refine v_ifnT ?_ | refine v_ifnF ?_ | refine v_eqs ?_ | refine v_nes ?_ | refine v_rvs ?_ | refine v_kRvl ?_ | refine v_kRvt ?_
  | (refine v_mulb (a := ?a) (b := ?b) ?ha ?hb ?l ?h; (case ha => assumption); (case hb => assumption); (case l => omega)) | (refine v_fdivb (b := ?b) ?h0 ?hb ?l ?h; (case h0 => assumption); (case hb => assumption); (case l => omega)))
theorem enum_zz : ∀ (l : List Int) (i : Nat), enumD i (zz l) = (List.range l.length).map fun k => D.tup [.int ((i + k : Nat) : Int), .int (nth l k)]
  | [], i => rfl
  | a :: l, i => by
    show D.tup [.int (i : Int), .int a] :: enumD (i + 1) (zz l) = _
    rw [enum_zz l (i + 1), List.length_cons, List.range_succ_eq_map, List.map_cons, List.map_map]
    refine congr (congrArg List.cons rfl) (List.map_congr_left fun k _ => ?_)
    show D.tup [.int ((i + 1 + k : Nat) : Int), .int (nth l k)] = .tup [.int ((i + (k + 1) : Nat) : Int), .int (nth (a :: l) ((k + 1 : Nat) : Int))]
    rw [show i + 1 + k = i + (k + 1) by omega]
    congr 3
section
variable {M : Type} {ρ : En} {QL : List D → M → Prop} {tt : DTT M} {t : DT M}
theorem lc_enum {g : DG} {f : Nat → Int → Int} {m : M} (xs : List Int) (st : ∀ k, k < xs.length → ∀ m (K : D → M → Prop) (l : M → Prop), K (.int (f k (nth xs k))) m → g (.tup [.int k, .int (nth xs k)]) ρ fun ρ2 => tt ρ2 m (fun b m1 => if b = true then t ρ2 m1 K (fun _ _ => False) else l m1) (fun _ _ => False))
    (hl : xs.length ≤ 16777216) (h : QL (zz ((List.range xs.length).map fun k => f k (nth xs k))) m) : lcGo g tt t ρ (enumD 0 (zz xs)) [] m QL := by
  rw [enum_zz]
  refine lcGo_map (h := fun k => .int (f k (nth xs k))) (List.range xs.length) (fun k hk m K l hK => ?_) (small_line (by rw [List.length_range]; exact hl)) ?_
  · rw [Nat.zero_add]
    exact st k (List.mem_range.mp hk) m K l hK
  · rw [show (List.range xs.length).map (fun k : Nat => D.int (f k (nth xs k))) = zz ((List.range xs.length).map fun k => f k (nth xs k)) from (List.map_map ..).symm]
    exact h
/-- over range(i, ..) -/
theorem lc_rzi {g : DG} {f : Nat → Int} {i : Int} {m : M} (n : Nat) (st : ∀ a, a < n → ∀ m (k : D → M → Prop) (l : M → Prop), k (.int (f a)) m → g (.int (i + a)) ρ fun ρ2 => tt ρ2 m (fun b m1 => if b = true then t ρ2 m1 k (fun _ _ => False) else l m1) (fun _ _ => False))
    (hl : n ≤ 16777216) (h : QL (zz ((List.range n).map f)) m) : lcGo g tt t ρ (iota i n) [] m QL := by
  unfold iota
  refine lcGo_map (h := fun a => .int (f a)) (List.range n) (fun a ha => st a (List.mem_range.mp ha)) (small_line (by rw [List.length_range]; exact hl)) ?_
  rw [show (List.range n).map (fun a => D.int (f a)) = zz ((List.range n).map f) from (List.map_map ..).symm]
  exact h
end
/-- the slope's row, noughts not cut -/
def slope (r : List Int) : List Int := (List.range (r.length - 1)).map fun k : Nat => ((1 : Int) + k) * nth r (1 + k)
theorem slope_len (r : List Int) : (slope r).length = r.length - 1 := by unfold slope; rw [List.length_map, List.length_range]
theorem slope_drop (r : List Int) : ((List.range r.length).map fun k : Nat => (k : Int) * nth r k).drop 1 = slope r := by
  unfold slope
  cases h : r.length with
  | zero => rfl
  | succ n =>
    rw [List.range_succ_eq_map, List.map_cons, List.drop_succ_cons, List.drop_zero, List.map_map]
    refine List.map_congr_left fun k _ => ?_
    show ((k + 1 : Nat) : Int) * nth r ((k + 1 : Nat) : Int) = _
    rw [Int.add_comm 1, show ((k + 1 : Nat) : Int) = (k : Int) + 1 from rfl]
theorem slope_bd {a : Nat} {r : List Int} (h : ∀ x ∈ r, bd a x) (hl : r.length ≤ 1000000) : ∀ x ∈ slope r, bd (20 + a) x := fun x hx => by
  unfold slope at hx
  obtain ⟨k, hk, rfl⟩ := List.mem_map.mp hx
  have := List.mem_range.mp hk
  refine bd_mul (a := 20) ?_ (h _ (nth_mem (by omega) (by omega)))
  unfold bd; omega
def b_rows_derived {M : Type} : DS M :=
    (dRet (dCall s_rows_row_of [] (dCons (dSl (dLc (dEnum false (dVar 0)) (dgT 2 (dgCons (dgN 1) (dgCons (dgN 2) dgNil))) dYes (dBin gMul (dVar 1) (dVar 2)) [1, 2]) (dOSome (dC (.int 1))) dONone) dNil)))

def s_rows_derived {M : Type} : DSp M := fun ds m Q Z => ∃ xs a, ds = [.tup (zz xs)] ∧ xs.length ≤ 1000000 ∧ (∀ x ∈ xs, bd a x) ∧ a ≤ 1000000 ∧ ∀ r, R (ser (slope xs)) r → Q (.tup (zz r)) m
theorem vc_rows_derived {M : Type} : ∀ ds (m : M) Q Z, s_rows_derived ds m Q Z → okK [false] ds ∧ b_rows_derived { nx := fun _ m' => Q .non m', rt := Q, ex := Z } (st0 [false] ds 3) m := by
  rintro ds m Q Z ⟨xs, a, rfl, hl, hx, ha, q⟩
  refine ⟨⟨fun _ => nl_row xs, trivial⟩, ?_⟩
  unfold b_rows_derived
  repeat walk_at "s"
  refine lc_enum (f := fun k x => k * x) xs (fun k hk m1 K l hK => ?_) (by omega) ?_
  · have bx : bd a (nth xs k) := hx _ (nth_mem (by omega) (by omega))
    have bk : bd 20 (k : Int) := by unfold bd; omega
    repeat walk_at "s"
    exact hK
  repeat walk_at "s"
  rw [cutD_zz, cutZ_from (by decide), show (1 : Int).toNat = 1 from rfl, slope_drop]
  refine ⟨_, _, rfl, isRow_l, by rw [slope_len]; omega, q⟩
def b_polys_derived {M : Type} : DS M :=
    (dRet (dCall s_polys_poly [] (dCons (dCall s_rows_derived [] (dCons (dBin (gIx false) (dVar 0) (dC (.int 0))) dNil)) (dCons (dBin (gIx false) (dVar 0) (dC (.int 1))) dNil))))

def s_polys_derived {M : Type} : DSp M := fun ds m Q Z => ∃ r d a, ds = [pd r d] ∧ r.length ≤ 1000000 ∧ (∀ x ∈ r, bd a x) ∧ a ≤ 9000 ∧ d ≠ 0 ∧ bd 9000 d ∧ ∀ s, R (ser (slope r)) s → Q (pd (lowR s d) (lowD s d)) m
theorem vc_polys_derived {M : Type} : ∀ ds (m : M) Q Z, s_polys_derived ds m Q Z → okK [false] ds ∧ b_polys_derived { nx := fun _ m' => Q .non m', rt := Q, ex := Z } (st0 [false] ds 1) m := by
  rintro ds m Q Z ⟨r, d, a, rfl, hl, hr, ha, d0, hd, q⟩
  refine ⟨⟨fun _ => nl_pd, trivial⟩, ?_⟩
  unfold b_polys_derived
  repeat walk_at "s"
  refine ⟨r, a, rfl, hl, hr, by omega, fun s hs => ?_⟩
  repeat walk_at "s"
  refine ⟨s, d, rfl, ?_, fun z => absurd z d0, fun _ => ⟨.inl hd, q s hs⟩⟩
  have := hs.len (B.of (n := r.length) (by rw [slope_len]; omega) (slope_bd hr hl))
  omega
def b_polys_monic {M : Type} : DS M :=
    (dRet (dIf (dTst (dBin gEq (dBin (gIx false) (dVar 0) (dC (.int 0))) (dTup dNil))) (dVar 0) (dCall s_polys_poly [] (dCons (dBin (gIx false) (dVar 0) (dC (.int 0))) (dCons (dBin (gIx false) (dBin (gIx false) (dVar 0) (dC (.int 0))) (dNeg (dC (.int 1)))) dNil)))))

def s_polys_monic {M : Type} : DSp M := fun ds m Q Z => ∃ r d, ds = [pd r d] ∧ r.length ≤ 1000000 ∧ (r = [] → Q (pd r d) m) ∧ (r ≠ [] → r.getD (r.length - 1) 0 ≠ 0 ∧ Sm r (r.getD (r.length - 1) 0) ∧ Q (pd (lowR r (r.getD (r.length - 1) 0)) (lowD r (r.getD (r.length - 1) 0))) m)
theorem vc_polys_monic {M : Type} : ∀ ds (m : M) Q Z, s_polys_monic ds m Q Z → okK [false] ds ∧ b_polys_monic { nx := fun _ m' => Q .non m', rt := Q, ex := Z } (st0 [false] ds 1) m := by
  rintro ds m Q Z ⟨r, d, rfl, hl, q1, q2⟩
  refine ⟨⟨fun _ => nl_pd, trivial⟩, ?_⟩
  unfold b_polys_monic
  repeat walk_at "s"
  refine v_ifd (fun h => ?_) fun h => ?_
  · repeat walk_at "s"
    exact q1 h
  · obtain ⟨l0, bl, q⟩ := q2 h
    repeat walk_at "s"
    refine v_ixm h ?_
    repeat walk_at "s"
    exact ⟨r, _, rfl, hl, fun z => absurd z l0, fun _ => ⟨bl, q⟩⟩
/-! ### is_poly -/
def b_numbers_is_whole {M : Type} : DS M :=
    (dRet (dAndV (dIsi "int" (dBor 0)) (dNotV (dIsi "bool" (dBor 0)))))

/-- whether a whole number, by the kind -/
def whT (t : String) : Bool := isiB t "int" && !isiB t "bool"
def s_numbers_is_whole {M : Type} : DSp M := fun ds m Q Z => ∃ d t, ds = [d] ∧ d.ty = some t ∧ Q (.bl (whT t)) m
theorem vc_numbers_is_whole {M : Type} : ∀ ds (m : M) Q Z, s_numbers_is_whole ds m Q Z → okK [true] ds ∧ b_numbers_is_whole { nx := fun _ m' => Q .non m', rt := Q, ex := Z } (st0 [true] ds 1) m := by
  rintro ds m Q Z ⟨d, t, rfl, ht, q⟩
  refine ⟨⟨fun h => (nomatch h), trivial⟩, ?_⟩
  unfold b_numbers_is_whole
  unfold whT at q
  repeat walk_at "s"
  refine v_kI ht rfl ?_
  refine v_kAV (fun h => ?_) fun h => ?_
  · rw [h, Bool.true_and] at q
    repeat walk_at "s"
    refine v_kI ht rfl ?_
    repeat walk_at "s"
    exact q
  · rw [h, Bool.false_and] at q
    exact q
def b_rows_is_row {M : Type} : DS M :=
    (dThen (dIte (dOr (dNot (dVal (dIsi "tuple" (dBor 0)))) (dNot (dVal (dB gAll (dCons (dLc (dSeq true (dBor 0)) (dgN 1) dYes (dCall s_numbers_is_whole [] (dCons (dVar 1) dNil)) [1]) dNil)))))
      (dRet (dC (.bl false)))
      dNext)
    (dRet (dOrV (dBin gEq (dBor 0) (dTup dNil)) (dBin gNe (dBin (gIx false) (dBor 0) (dNeg (dC (.int 1)))) (dC (.int 0))))))

def whD (d : D) : Bool := match d.ty with | some t => whT t | none => false
def NoRow (y : D) : Prop := (∃ t, y.ty = some t ∧ isiB t "tuple" = false) ∨ (∃ ys, y = .tup ys ∧ ys.length ≤ 1000 ∧ D.nls ys = true ∧ (∀ z ∈ ys, ∃ t, z.ty = some t) ∧ ∃ z ∈ ys, whD z = false)
def s_rows_is_row {M : Type} : DSp M := fun ds m Q Z => ∃ y, ds = [y] ∧ ((∃ xs, y = .tup (zz xs) ∧ xs.length ≤ 1000000 ∧ Q (.bl (decide (xs = []) || !decide (xs.getD (xs.length - 1) 0 = 0))) m) ∨ (NoRow y ∧ Q (.bl false) m))
theorem vc_rows_is_row {M : Type} : ∀ ds (m : M) Q Z, s_rows_is_row ds m Q Z → okK [true] ds ∧ b_rows_is_row { nx := fun _ m' => Q .non m', rt := Q, ex := Z } (st0 [true] ds 2) m := by
  rintro ds m Q Z ⟨y, rfl, h⟩
  refine ⟨⟨fun h => (nomatch h), trivial⟩, ?_⟩
  unfold b_rows_is_row
  rcases h with ⟨xs, rfl, hl, q⟩ | ⟨⟨t, ht, hi⟩ | ⟨ys, rfl, hl, hn, hty, z, hz, hw⟩, q⟩
  · repeat walk_at "s"
    try ((with_reducible show @ite _ _ _ _ _); refine v_ifF ?_)
    repeat walk_at "s"
    refine lc_zd (f := fun _ => .bl true) xs (fun a ha m1 k l hk => ?_) (by omega) ?_
    · repeat walk_at "s"
      refine ⟨.int a, "int", rfl, rfl, ?_⟩
      repeat walk_at "s"
      exact hk
    repeat walk_at "s"
    rw [show xs.map (fun _ => D.bl true) = (xs.map fun _ => true).map D.bl from by rw [List.map_map]; rfl]
    refine v_all ?_
    rw [show (xs.map fun _ => true).all id = true from List.all_eq_true.mpr fun x hx => by obtain ⟨_, _, rfl⟩ := List.mem_map.mp hx; rfl]
    repeat walk_at "s"
    try ((with_reducible show @ite _ _ _ _ _); refine v_ifF ?_)
    repeat walk_at "s"
    refine v_kOV (fun h => ?_) fun h => ?_
    · rw [h, Bool.false_or] at q
      repeat walk_at "s"
      refine v_ixm (of_decide_eq_false h) ?_
      repeat walk_at "s"
      exact q
    · rw [h, Bool.true_or] at q
      exact q
  · repeat walk_at "s"
    refine v_kI ht hi ?_
    repeat walk_at "s"
    exact q
  · repeat walk_at "s"
    try ((with_reducible show @ite _ _ _ _ _); refine v_ifF ?_)
    repeat walk_at "s"
    refine v_kSeqTn hn ?_
    have e : ys = ys.map id := (List.map_id ys).symm
    rw [e]
    refine lcGo_map (h := fun z => .bl (whD z)) ys (fun z hz m1 k l hk => ?_) (small_line (by omega)) ?_
    · obtain ⟨t, ht⟩ := hty z hz
      repeat walk_at "s"
      refine ⟨z, t, rfl, ht, ?_⟩
      unfold whD at hk
      rw [ht] at hk
      repeat walk_at "s"
      exact hk
    repeat walk_at "s"
    rw [show ys.map (fun z => D.bl (whD z)) = (ys.map whD).map D.bl from by rw [List.map_map]; rfl]
    refine v_all ?_
    rw [show (ys.map whD).all id = false from List.all_eq_false.mpr ⟨whD z, List.mem_map.mpr ⟨z, hz, rfl⟩, by rw [hw]; decide⟩]
    repeat walk_at "s"
    exact q
def b_polys_is_poly {M : Type} : DS M :=
    (dThen (dIte (dOr (dNot (dVal (dIsi "tuple" (dBor 0)))) (dOr (dTst (dBin gNe (dB gLen (dCons (dBor 0) dNil)) (dC (.int 2)))) (dOr (dNot (dVal (dCall s_rows_is_row [] (dCons (dBin (gIx false) (dBor 0) (dC (.int 0))) dNil)))) (dNot (dVal (dCall s_numbers_is_whole [] (dCons (dBin (gIx false) (dBor 0) (dC (.int 1))) dNil)))))))
      (dRet (dC (.bl false)))
      dNext)
    (dRet (dAndV (dBin gGt (dBin (gIx false) (dBor 0) (dC (.int 1))) (dC (.int 0))) (dBin gEq (dCall s_numbers_common [] (dCons (dCall s_rows_content [] (dCons (dBin (gIx false) (dBor 0) (dC (.int 0))) dNil)) (dCons (dBin (gIx false) (dBor 0) (dC (.int 1))) dNil))) (dC (.int 1))))))

def isPd (r : List Int) (d : Int) : Bool := (decide (r = []) || !decide (r.getD (r.length - 1) 0 = 0)) && (decide (0 < d) && decide (((Int.gcd (gcdL r) d : Nat) : Int) = 1))
def NoPoly (x : D) : Prop := (∃ t, x.ty = some t ∧ isiB t "tuple" = false) ∨ (∃ ys, x = .tup ys ∧ ys.length ≠ 2) ∨ (∃ y z, x = .tup [y, z] ∧ NoRow y) ∨ (∃ xs z t, x = .tup [.tup (zz xs), z] ∧ xs.length ≤ 1000 ∧ z.ty = some t ∧ whT t = false)
def s_polys_is_poly {M : Type} : DSp M := fun ds m Q Z => ∃ x, ds = [x] ∧ ((∃ r d, x = pd r d ∧ r.length ≤ 1000000 ∧ Q (.bl (isPd r d)) m) ∨ (NoPoly x ∧ Q (.bl false) m))
theorem vc_polys_is_poly {M : Type} : ∀ ds (m : M) Q Z, s_polys_is_poly ds m Q Z → okK [true] ds ∧ b_polys_is_poly { nx := fun _ m' => Q .non m', rt := Q, ex := Z } (st0 [true] ds 1) m := by
  rintro ds m Q Z ⟨y, rfl, h⟩
  refine ⟨⟨fun h => (nomatch h), trivial⟩, ?_⟩
  unfold b_polys_is_poly
  rcases h with ⟨r, d, rfl, hl, q⟩ | ⟨⟨t, ht, hi⟩ | ⟨ys, rfl, h2⟩ | ⟨y, z, rfl, hn⟩ | ⟨xs, z, t, rfl, hl, ht, hw⟩, q⟩
  · unfold isPd at q
    repeat walk_at "s"
    try ((with_reducible show @ite _ _ _ _ _); refine v_ifF ?_)
    repeat walk_at "s"
    try ((with_reducible show @ite _ _ _ _ _); refine v_ifF ?_)
    repeat walk_at "s"
    refine ⟨.tup (zz r), rfl, .inl ⟨r, rfl, hl, ?_⟩⟩
    repeat walk_at "s"
    generalize (decide (r = []) || !decide (r.getD (r.length - 1) 0 = 0)) = c at q ⊢
    cases c with
    | false => repeat walk_at "s"; exact q
    | true =>
      repeat walk_at "s"
      try ((with_reducible show @ite _ _ _ _ _); refine v_ifF ?_)
      repeat walk_at "s"
      refine ⟨_, "int", rfl, rfl, ?_⟩
      repeat walk_at "s"
      try ((with_reducible show @ite _ _ _ _ _); refine v_ifF ?_)
      repeat walk_at "s"
      refine v_kAV (fun h => ?_) fun h => ?_
      · rw [h, Bool.true_and, Bool.true_and] at q
        repeat walk_at "s"
        refine ⟨r, rfl, ?_⟩
        repeat walk_at "s"
        refine ⟨_, _, rfl, ?_⟩
        repeat walk_at "s"
        exact q
      · rw [h, Bool.false_and, Bool.and_false] at q
        exact q
  · repeat walk_at "s"
    refine v_kI ht hi ?_
    repeat walk_at "s"
    exact q
  · repeat walk_at "s"
    try ((with_reducible show @ite _ _ _ _ _); refine v_ifF ?_)
    repeat walk_at "s"
    rw [show (!decide ((ys.length : Int) = 2)) = true from by rw [decide_eq_false (by omega)]; rfl]
    repeat walk_at "s"
    exact q
  · repeat walk_at "s"
    try ((with_reducible show @ite _ _ _ _ _); refine v_ifF ?_)
    repeat walk_at "s"
    try ((with_reducible show @ite _ _ _ _ _); refine v_ifF ?_)
    repeat walk_at "s"
    refine ⟨y, rfl, .inr ⟨hn, ?_⟩⟩
    repeat walk_at "s"
    exact q
  · repeat walk_at "s"
    try ((with_reducible show @ite _ _ _ _ _); refine v_ifF ?_)
    repeat walk_at "s"
    try ((with_reducible show @ite _ _ _ _ _); refine v_ifF ?_)
    repeat walk_at "s"
    refine ⟨.tup (zz xs), rfl, .inl ⟨xs, rfl, by omega, ?_⟩⟩
    repeat walk_at "s"
    generalize (decide (xs = []) || !decide (xs.getD (xs.length - 1) 0 = 0)) = c
    cases c with
    | false => repeat walk_at "s"; exact q
    | true =>
      repeat walk_at "s"
      try ((with_reducible show @ite _ _ _ _ _); refine v_ifF ?_)
      repeat walk_at "s"
      refine ⟨_, t, rfl, ht, ?_⟩
      rw [hw]
      repeat walk_at "s"
      exact q
end RR

/-! V05c: the law k05 -/
namespace RR
open PySem PySem.Spec PyProof.Rows L2
local macro_rules | `(tactic| walk_at "bd") => `(tactic| first | assumption | exact bd_lit (by decide) | (with_reducible refine bd_mul ?_ ?_ <;> walk_at "bd") | (with_reducible refine bd_add ?_ ?_ <;> walk_at "bd") | (with_reducible refine bd_sub ?_ ?_ <;> walk_at "bd") | (with_reducible refine bd_neg ?_ <;> walk_at "bd"))
local macro_rules | `(tactic| walk_at "s") => `(tactic| with_reducible first
  | refine v_then ?_ | refine v_set ?_ | (apply v_var; · with_unfolding_all exact rfl) | refine v_bin ?_ | refine v_c ?_ | refine v_g0 ?_ | refine v_add ?_ | refine v_cons ?_ | refine v_nil ?_ | refine v_call ?_ | refine v_dB ?_ | refine v_next ?_ | refine v_ret ?_
  | refine v_ite ?_ | refine v_tst ?_ | refine v_kT ?_ | refine v_eqi ?_ | refine v_nei ?_ | refine v_eqr ?_ | refine v_ner ?_ | refine v_eqr0 ?_ | refine v_ner0 ?_ | refine v_eql ?_ | refine v_nel ?_ | refine v_eql0 ?_ | refine v_nel0 ?_ | refine v_isN ?_ | refine v_notN ?_
  | (apply v_bor; · with_unfolding_all exact rfl) | (apply v_own; · with_unfolding_all exact rfl) | refine v_tup ?_ | refine v_lst ?_ | (refine v_sz ?_ ?_; (· with_unfolding_all exact Nat.le_of_ble_eq_true rfl)) | (refine v_gIIz ?_ ?_; (· first | decide | omega))
  | refine v_lentz ?_ | refine v_lenlz ?_ | refine v_lent ?_ | refine v_lenl ?_ | refine v_I1 ?_ | refine v_I2 ?_ | refine v_int ?_ | refine v_seqlz ?_ | refine v_seqtz ?_ | refine v_sl ?_ | refine v_kSll ?_ | refine v_kSlt ?_ | refine v_ono ?_ | refine v_oso ?_ | refine v_kOS ?_
  | refine v_val ?_ | refine v_kVb ?_ | refine v_kVi ?_ | refine v_kVt ?_ | refine v_kVl ?_ | refine v_and ?_ | refine v_or ?_ | refine v_not ?_ | refine v_yes ?_ | refine v_if' ?_ | refine v_isi ?_ | refine v_kIii ?_ | refine v_kIib ?_ | refine v_kItt ?_
  | refine v_andV ?_ | refine v_orV ?_ | refine v_notV ?_ | refine v_kNV ?_ | refine v_neg ?_ | refine v_kNeg ?_ | refine v_seq ?_ | refine v_kSeql ?_ | refine v_kSeqt ?_ | refine v_rng1 ?_ | refine v_rng2 ?_ | refine v_enum ?_ | refine v_revr ?_ | refine v_rev ?_
  | (refine v_kR1 ?_ ?_ ?_; (· decide); (· decide))
  | (refine v_kR2 ?_ ?_ ?_ ?_ ?_; (· decide); (· decide); (· decide); (· decide))
  | refine v_gn ?_ | refine v_gt2 ?_ | refine v_gt3 ?_ | refine v_lc ?_ | refine v_for ?_ | refine v_setO ?_ | refine v_drop ?_ | (apply v_app; · with_unfolding_all exact rfl) | (apply v_setI; · with_unfolding_all exact rfl) | (apply v_rel; · with_unfolding_all exact rfl) | refine v_raise ?_ | refine v_par ?_ | refine v_kP ?_ | refine v_asg ?_
  | (apply v_aug; · with_unfolding_all exact rfl) | refine v_ifT ?_ | refine v_ifF ?_ | (refine v_pow ?_ ?_ ?_ ?_; (· decide); (· decide); (· decide)) | refine v_call0 ?_ | (apply v_lenr; · assumption) | (apply v_seqr; · assumption) | (apply v_kSeqr; · assumption) | (apply v_kSlr; · assumption)
  | refine v_ix0 ?_ | refine v_ix1 ?_ | refine v_ix2 ?_ | refine v_zip ?_ | refine v_kZl ?_ | refine v_kZt ?_ | (apply v_augI; · with_unfolding_all exact rfl) | refine v_try ?_ | refine v_isE ?_ | (refine v_kIE ?_ ?_; (· with_unfolding_all exact rfl)) | refine v_isB ?_ | refine v_notB ?_ | refine v_all ?_ | refine v_par3 ?_ | refine v_ifnT ?_ | refine v_ifnF ?_ | refine v_eqs ?_ | refine v_nes ?_ | refine v_rvs ?_ | refine v_kRvl ?_ | refine v_kRvt ?_
  | (refine v_mulb (a := ?a) (b := ?b) ?ha ?hb ?l ?h; (case ha => assumption); (case hb => assumption); (case l => omega)) | (refine v_fdivb (b := ?b) ?h0 ?hb ?l ?h; (case h0 => assumption); (case hb => assumption); (case l => omega)))
theorem v_kIE1 {M : Type} {Q : D → M → Prop} {m : M} {x : Str} {b : Bool} (h : Q (.bl b) m) : kIE [(x, b)] Q (.exc x) m := v_kIE (by unfold List.lookup; rw [beq_self_eq_true]) h
local macro_rules | `(tactic| walk_at "s") => `(tactic| with_reducible refine v_kIE1 ?_)
theorem pd_sho {n : Nat} {r : List Int} {d : Int} (p : PB n 1920 r d) (hn : n ≤ 1000) : (pd r d).sho := (sho_pd p.bd p.dd p.ln).sho (by decide) (by omega)
def b__law_one_right {M : Type} : DS M :=
    (dThen (dSet 1 (dCall s__law_cut [] (dCons (dLc (dRng2 (dCons (dC (.int 1)) (dCons (dB gLen (dCons (dBin (gIx false) (dVar 0) (dC (.int 0))) dNil)) dNil))) (dgN 3) dYes (dBin gMul (dVar 3) (dBin (gIx false) (dBin (gIx false) (dVar 0) (dC (.int 0))) (dVar 3))) [3]) dNil)))
    (dThen (dIte (dNot (dVal (dCall s__law_is [] (dCons (dCall s_polys_derived [] (dCons (dVar 0) dNil)) (dCons (dCall s__law_poly [] (dCons (dVar 1) (dCons (dBin (gIx false) (dVar 0) (dC (.int 1))) dNil))) dNil)))))
      (dRet (dC (.bl false)))
      dNext)
    (dThen (dSet 2 (dIf (dTst (dBin gEq (dBin (gIx false) (dVar 0) (dC (.int 0))) (dTup dNil))) (dVar 0) (dCall s__law_poly [] (dCons (dBin (gIx false) (dVar 0) (dC (.int 0))) (dCons (dBin (gIx false) (dBin (gIx false) (dVar 0) (dC (.int 0))) (dNeg (dC (.int 1)))) dNil)))))
    (dRet (dAndV (dCall s__law_is [] (dCons (dCall s_polys_monic [] (dCons (dVar 0) dNil)) (dCons (dVar 2) dNil))) (dBin gIsB (dCall s_polys_is_poly [] (dCons (dVar 0) dNil)) (dC (.bl true))))))))

def s__law_one_right {M : Type} : DSp M := fun ds m Q Z => ∃ f r d, ds = [pd r d] ∧ P f r d ∧ PB 6 201 r d ∧ Q (.bl true) m
theorem isPd_P {f : Ser Rat} {r : List Int} {d : Int} (h : P f r d) : isPd r d = true := by
  unfold isPd
  rw [decide_eq_true h.pos, decide_eq_true (show ((Int.gcd (gcdL r) d : Nat) : Int) = 1 by rw [h.low]; rfl)]
  by_cases e : r = []
  · rw [decide_eq_true e]; rfl
  · rw [decide_eq_false (done_last h.dn e), decide_eq_false e]; rfl
theorem low_PB {xs : List Int} {d : Int} {n a : Nat} (d0 : d ≠ 0) (ln : xs.length ≤ n) (b1 : ∀ x ∈ xs, bd a x) (b2 : bd a d) : PB n a (lowR xs d) (lowD xs d) := ⟨by rw [lowR_len]; exact ln, lowR_bd d0 b1, lowD_bd d0 b2⟩
theorem vc__law_one_right {M : Type} : ∀ ds (m : M) Q Z, s__law_one_right ds m Q Z → okK [false] ds ∧ b__law_one_right { nx := fun _ m' => Q .non m', rt := Q, ex := Z } (st0 [false] ds 4) m := by
  rintro ds m Q Z ⟨f, r, d, rfl, hf, pf, q⟩
  refine ⟨⟨fun _ => nl_pd, trivial⟩, ?_⟩
  unfold b__law_one_right
  have ln := pf.ln
  have dp := hf.pos
  have bd1 : bd 9000 d := bd_mono pf.dd (by decide)
  repeat walk_at "s"
  refine v_kR2 (by omega) (by omega) (by omega) (by omega) ?_
  refine lc_rzi (f := fun k => ((1 : Int) + k) * nth r (1 + k)) _ (fun k hk m1 K l hK => ?_) (by omega) ?_
  · repeat walk_at "s"
    refine v_ixt (by omega) (by omega) ?_
    have b1 : bd 20 ((1 : Int) + k) := by unfold bd; omega
    have b2 : bd 201 (nth r (1 + k)) := pf.bd _ (nth_mem (by omega) (by omega))
    repeat walk_at "s"
    exact hK
  repeat walk_at "s"
  rw [show ((r.length : Int) - 1).toNat = r.length - 1 by omega]
  refine ⟨_, slope r, rfl, isRow_l, by rw [slope_len]; omega, fun s hs => ?_⟩
  have sB : B 6 221 (ser (slope r)) := B.of (by rw [slope_len]; omega) (slope_bd pf.bd (by omega))
  have ls := hs.len sB
  repeat walk_at "s"
  refine ⟨r, d, 201, rfl, by omega, pf.bd, by decide, by omega, bd1, fun s' hs' => ?_⟩
  obtain rfl := hs'.uniq hs
  repeat walk_at "s"
  refine ⟨s', d, rfl, by omega, by omega, .inl bd1, ?_⟩
  repeat walk_at "s"
  have PS : PB 6 1920 (lowR s' d) (lowD s' d) := low_PB (by omega) ls (fun x hx => bd_mono (hs.bds sB x hx) (by decide)) (bd_mono pf.dd (by decide))
  refine ⟨_, rfl, nl_pd, pd_sho PS (by decide), ?_⟩
  repeat walk_at "s"
  have fin : ∀ (r1 : List Int) (d1 : Int) (a3 : Sl), PB 6 1920 r1 d1 → (r = [] → r1 = r ∧ d1 = d) → (r ≠ [] → r1 = lowR r (r.getD (r.length - 1) 0) ∧ d1 = lowD r (r.getD (r.length - 1) 0)) →
      dRet (dAndV (dCall s__law_is [] (dCons (dCall s_polys_monic [] (dCons (dVar 0) dNil)) (dCons (dVar 2) dNil))) (dBin gIsB (dCall s_polys_is_poly [] (dCons (dVar 0) dNil)) (dC (.bl true))))
        { nx := fun _ m' => Q .non m', rt := Q, ex := Z } [.val (pd r d), .val (.tup (zz s')), .val (pd r1 d1), a3] m := fun r1 d1 a3 p1 e1 e2 => by
    repeat walk_at "s"
    refine ⟨r, d, rfl, by omega, fun e => ?_, fun e => ⟨done_last hf.dn e, ?_, ?_⟩⟩
    · obtain ⟨rfl, rfl⟩ := e1 e
      repeat walk_at "s"
      refine ⟨_, rfl, nl_pd, pd_sho p1 (by decide), ?_⟩
      refine v_kAV (fun _ => ?_) fun h => (nomatch h)
      repeat walk_at "s"
      refine ⟨_, rfl, .inl ⟨_, _, rfl, by omega, ?_⟩⟩
      rw [isPd_P hf]
      repeat walk_at "s"
      exact q
    · refine .inl (bd_mono (pf.bd (r.getD (r.length - 1) 0) ?_) (by decide))
      have := List.length_pos_iff.mpr e
      rw [List.getD_eq_getElem?_getD, List.getElem?_eq_getElem (by omega)]
      exact List.getElem_mem _
    · obtain ⟨rfl, rfl⟩ := e2 e
      repeat walk_at "s"
      refine ⟨_, rfl, nl_pd, pd_sho p1 (by decide), ?_⟩
      refine v_kAV (fun _ => ?_) fun h => (nomatch h)
      repeat walk_at "s"
      refine ⟨_, rfl, .inl ⟨_, _, rfl, by omega, ?_⟩⟩
      rw [isPd_P hf]
      repeat walk_at "s"
      exact q
  refine v_ifd (fun h => ?_) fun h => ?_
  · repeat walk_at "s"
    exact fin r d _ (pf.mono (by decide) (by decide)) (fun _ => ⟨rfl, rfl⟩) fun e => absurd h e
  · have bl : bd 201 (r.getD (r.length - 1) 0) := by
      refine pf.bd (r.getD (r.length - 1) 0) ?_
      have := List.length_pos_iff.mpr h
      rw [List.getD_eq_getElem?_getD, List.getElem?_eq_getElem (by omega)]
      exact List.getElem_mem _
    have l0 := done_last hf.dn h
    repeat walk_at "s"
    refine v_ixm h ?_
    repeat walk_at "s"
    refine ⟨r, _, rfl, by omega, l0, .inl (bd_mono bl (by decide)), ?_⟩
    repeat walk_at "s"
    exact fin _ _ _ (low_PB l0 ln (fun x hx => bd_mono (pf.bd x hx) (by decide)) (bd_mono bl (by decide))) (fun e => absurd e h) fun _ => ⟨rfl, rfl⟩
def b__law_refused {M : Type} : DS M :=
    (dThen (dSet 1 (dC .non))
    (dThen (dTry ["ByNought"] 2 1 (dDrop (dCall s_polys_poly [] (dCons (dVar 0) (dCons (dC (.int 0)) dNil)))))
    (dThen (dIte (dTst (dBin gIsN (dVar 1) (dC .non)))
      (dRet (dC (.bl false)))
      dNext)
    (dThen (dSetO 3 (dLst (dCons (dIsE [("ByNought", false)] (dVar 1)) (dCons (dIsE [("ByNought", false)] (dVar 1)) (dCons (dIsE [("ByNought", false)] (dVar 1)) dNil)))))
    (dThen (dSetO 3 (dBin gAdd (dOwn 3) (dLst (dCons (dIsE [("ByNought", false)] (dVar 1)) (dCons (dIsE [("ByNought", false)] (dVar 1)) (dCons (dIsE [("ByNought", false)] (dVar 1)) dNil))))))
    (dThen (dApp 3 (dIsE [("ByNought", false)] (dVar 1)))
    (dRet (dAndV (dIsE [("ByNought", true)] (dVar 1)) (dAndV (dIsE [("ByNought", true)] (dVar 1)) (dBin gNin (dC (.bl true)) (dOwn 3)))))))))))

def s__law_refused {M : Type} : DSp M := fun ds m Q Z => ∃ xs, ds = [.tup (zz xs)] ∧ xs.length ≤ 1000000 ∧ Q (.bl true) m
theorem vc__law_refused {M : Type} : ∀ ds (m : M) Q Z, s__law_refused ds m Q Z → okK [false] ds ∧ b__law_refused { nx := fun _ m' => Q .non m', rt := Q, ex := Z } (st0 [false] ds 4) m := by
  rintro ds m Q Z ⟨xs, rfl, hl, q⟩
  refine ⟨⟨fun _ => nl_row xs, trivial⟩, ?_⟩
  unfold b__law_refused
  repeat walk_at "s"
  refine ⟨xs, 0, rfl, hl, fun _ => ⟨by decide, ?_⟩, fun z => absurd rfl z⟩
  repeat walk_at "s"
  refine v_ifF ?_
  repeat walk_at "s"
  refine v_kO (by rfl) ?_
  repeat walk_at "s"
  refine v_addl (by decide) (by rfl) (by rfl) ?_
  refine v_kO (by rfl) ?_
  repeat walk_at "s"
  refine v_appk (by rfl) (by decide) ?_
  repeat walk_at "s"
  refine v_kAV (fun _ => ?_) fun h => (nomatch h)
  repeat walk_at "s"
  refine v_kAV (fun _ => ?_) fun h => (nomatch h)
  repeat walk_at "s"
  exact ⟨rfl, rfl, q⟩
def b__law_odd : DS (Option Nat) :=
    (dThen (dSet 2 (dLst (dCons (dC .non) (dCons (dC (.int 5)) (dCons (dC (.bl true)) (dCons (dC (.str "x")) (dCons (dTup (dCons (dC (.int 1)) (dCons (dC (.int 2)) dNil))) (dCons (dTup (dCons (dTup (dCons (dC (.int 1)) dNil)) dNil)) (dCons (dLst (dCons (dTup (dCons (dC (.int 1)) dNil)) (dCons (dC (.int 1)) dNil))) (dCons (dTup (dCons (dTup (dCons (dC (.int 2)) dNil)) (dCons (dC (.int 2)) dNil))) (dCons (dTup (dCons (dTup (dCons (dC (.int 1)) dNil)) (dCons (dC (.int 0)) dNil))) (dCons (dTup (dCons (dTup (dCons (dC (.int 1)) dNil)) (dCons (dNeg (dC (.int 1))) dNil))) (dCons (dTup (dCons (dTup dNil) (dCons (dC (.int 2)) dNil))) (dCons (dTup (dCons (dTup (dCons (dC (.int 1)) (dCons (dC (.int 0)) dNil))) (dCons (dC (.int 1)) dNil))) dNil))))))))))))))
    (dThen (dSet 2 (dBin gAddS (dVar 2) (dLst (dCons (dTup (dCons (dTup (dCons (dC (.bl true)) dNil)) (dCons (dC (.int 1)) dNil))) (dCons (dTup (dCons (dTup (dCons (dC (.int 1)) dNil)) (dCons (dC (.bl true)) dNil))) (dCons (dTup (dCons (dLst (dCons (dC (.int 1)) dNil)) (dCons (dC (.int 1)) dNil))) (dCons (dTup (dCons (dBin (gIx false) (dVar 1) (dC (.int 0))) (dCons (dBin (g0 fun i j => .int (i - j)) (dC (.int 0)) (dBin (gIx false) (dVar 1) (dC (.int 1)))) dNil))) (dCons (dBin gAdd (dVar 1) (dTup (dCons (dC (.int 1)) dNil))) (dCons (dTup (dCons (dTup (dCons (dC (.int 2)) (dCons (dC (.int 4)) dNil))) (dCons (dC (.int 2)) dNil))) (dCons (dC .dic) (dCons (dTup (dCons (dVar 1) (dCons (dC (.int 1)) dNil))) dNil)))))))))))
    (dRet (dBin (gIx false) (dVar 2) (dCall s__law_draw [] (dCons (dVar 0) (dCons (dC (.int 20)) dNil)))))))

def IsOdd (x : D) : Prop := NoPoly x ∨ ∃ r d, x = pd r d ∧ r.length ≤ 1000000 ∧ isPd r d = false
theorem v_ixmem {ds : List D} {i : Int} {q : D → Prop} (h0 : 0 ≤ i) (h1 : i < ds.length) (h : ∀ d ∈ ds, q d) : gIx false (.lst ds) (.int i) q := by
  unfold gIx
  dsimp only
  rw [atI_at h0 h1]
  exact ⟨fun z => (nomatch z), h _ (List.getElem_mem _)⟩
def s__law_odd : DSp (Option Nat) := fun ds m Q Z => ∃ N r d, ds = [.hnd hdl, pd r d] ∧ m = some N ∧ 1 ≤ N ∧ 0 < d ∧ r.length ≤ 1000 ∧ ∀ x, IsOdd x → Q x (some (N - 1))
theorem vc__law_odd : ∀ ds (m : Option Nat) Q Z, s__law_odd ds m Q Z → okK [false, false] ds ∧ b__law_odd { nx := fun _ m' => Q .non m', rt := Q, ex := Z } (st0 [false, false] ds 3) m := by
  rintro ds m Q Z ⟨N, r, d, rfl, rfl, hN, hd, hl, q⟩
  refine ⟨⟨fun _ => rfl, fun _ => nl_pd, trivial⟩, ?_⟩
  unfold b__law_odd
  repeat walk_at "s"
  refine v_addt (ds := [.tup (zz r), .int d]) (Nat.le_of_ble_eq_true rfl) nl_pd (by rfl) ?_
  repeat walk_at "s"
  refine v_addS (Nat.le_of_ble_eq_true rfl) ?_
  repeat walk_at "s"
  refine v_drawN hN (by decide) (by decide) fun i h0 h1 => ?_
  refine v_ixmem h0 (by simpa using h1) fun x hx => q x ?_
  simp only [List.cons_append, List.nil_append, List.mem_cons, List.not_mem_nil, or_false] at hx
  have A : ∀ {x : D} {t : String}, x.ty = some t → isiB t "tuple" = false → IsOdd x := fun h e => .inl (.inl ⟨_, h, e⟩)
  have R1 : ∀ {y z : D} {t : String}, y.ty = some t → isiB t "tuple" = false → IsOdd (.tup [y, z]) := fun h e => .inl (.inr (.inr (.inl ⟨_, _, rfl, .inl ⟨_, h, e⟩⟩)))
  have L : ∀ {ys : List D}, ys.length ≠ 2 → IsOdd (.tup ys) := fun h => .inl (.inr (.inl ⟨_, rfl, h⟩))
  have E : ∀ {r : List Int} {d : Int}, r.length ≤ 1000000 → isPd r d = false → IsOdd (pd r d) := fun h e => .inr ⟨_, _, rfl, h, e⟩
  have N1 : ∀ {ys : List D} {z : D}, ys.length ≤ 1000 → D.nls ys = true → (∀ z ∈ ys, ∃ t, z.ty = some t) → (∃ z ∈ ys, whD z = false) → IsOdd (.tup [.tup ys, z]) := fun h1 h2 h3 h4 => .inl (.inr (.inr (.inl ⟨_, _, rfl, .inr ⟨_, rfl, h1, h2, h3, h4⟩⟩)))
  rcases hx with rfl | rfl | rfl | rfl | rfl | rfl | rfl | rfl | rfl | rfl | rfl | rfl | rfl | rfl | rfl | rfl | rfl | rfl | rfl | rfl
  · exact A rfl (by decide)
  · exact A rfl (by decide)
  · exact A rfl (by decide)
  · exact A rfl (by decide)
  · exact R1 rfl (by decide)
  · exact L (by decide)
  · exact A rfl (by decide)
  · exact E (r := [2]) (d := 2) (by decide) (by decide)
  · exact E (r := [1]) (d := 0) (by decide) (by decide)
  · exact E (r := [1]) (d := -1) (by decide) (by decide)
  · exact E (r := []) (d := 2) (by decide) (by decide)
  · exact E (r := [1, 0]) (d := 1) (by decide) (by decide)
  · exact N1 (by decide) rfl (by simp [D.ty]) ⟨_, List.mem_cons_self, by decide⟩
  · exact .inl (.inr (.inr (.inr ⟨[1], _, _, rfl, by decide, rfl, by decide⟩)))
  · exact R1 rfl (by decide)
  · refine E (r := r) (d := 0 - d) (by omega) ?_
    unfold isPd
    rw [decide_eq_false (show ¬ 0 < 0 - d by omega), Bool.false_and, Bool.and_false]
  · exact L (by simp)
  · exact E (r := [2, 4]) (d := 2) (by decide) (by decide)
  · exact A rfl (by decide)
  · exact N1 (ys := [.tup (zz r), .int d]) (by simp) nl_pd (by simp [D.ty]) ⟨_, List.mem_cons_self, rfl⟩
def b__law_two_right {M : Type} : DS M :=
    (dThen (dSet 4 (dTup (dCons (dTup (dCons (dC (.int 1)) dNil)) (dCons (dC (.int 1)) dNil))))
    (dThen (dFor (dRng1 (dCons (dVar 3) dNil)) (dgN 5)
      (dSet 4 (dCall s__law_times [] (dCons (dVar 4) (dCons (dVar 0) dNil)))))
    (dThen (dSet 6 (dB (gSeq .tup) (dCons (dLc (dSeq false (dBin (gIx false) (dVar 0) (dC (.int 0)))) (dgN 9) dYes (dBin gMul (dBin (gIx false) (dVar 2) (dC (.int 0))) (dVar 9)) [9]) dNil)))
    (dThen (dSet 7 (dLst (dCons (dCall s_polys_plus [] (dCons (dVar 0) (dCons (dVar 1) dNil))) (dCons (dCall s_polys_less [] (dCons (dVar 0) (dCons (dVar 1) dNil))) (dCons (dCall s_polys_times [] (dCons (dVar 0) (dCons (dVar 1) dNil))) (dCons (dCall s_polys_scaled [] (dCons (dVar 0) (dCons (dVar 2) dNil))) (dCons (dCall s_polys_power [] (dCons (dVar 0) (dCons (dVar 3) dNil))) dNil)))))))
    (dThen (dSet 8 (dLst (dCons (dCall s__law_plus [] (dCons (dVar 0) (dCons (dVar 1) (dCons (dC (.int 1)) dNil)))) (dCons (dCall s__law_plus [] (dCons (dVar 0) (dCons (dVar 1) (dCons (dNeg (dC (.int 1))) dNil)))) (dCons (dCall s__law_times [] (dCons (dVar 0) (dCons (dVar 1) dNil))) dNil)))))
    (dThen (dSet 8 (dBin gAdd (dVar 8) (dLst (dCons (dCall s__law_poly [] (dCons (dCall s__law_cut [] (dCons (dVar 6) dNil)) (dCons (dBin gMul (dBin (gIx false) (dVar 0) (dC (.int 1))) (dBin (gIx false) (dVar 2) (dC (.int 1)))) dNil))) (dCons (dVar 4) dNil)))))
    (dRet (dB gAll (dCons (dLc (dZip false (dVar 7) (dVar 8)) (dgT 2 (dgCons (dgN 10) (dgCons (dgN 11) dgNil))) dYes (dCall s__law_is [] (dCons (dVar 10) (dCons (dVar 11) dNil))) [10, 11]) dNil)))))))))

def s__law_two_right {M : Type} : DSp M := fun ds m Q Z => ∃ f g r d r' d' u v, ∃ n : Int, ds = [pd r d, pd r' d', .tup [.int u, .int v], .int n] ∧ P f r d ∧ P g r' d' ∧ PB 6 201 r d ∧ PB 6 201 r' d' ∧ v ≠ 0 ∧ bd 201 u ∧ bd 201 v ∧ 0 ≤ n ∧ n < 4 ∧ Q (.bl true) m
theorem zipD_self : ∀ xs : List D, zipD xs xs = xs.map fun x => .tup [x, x]
  | [] => rfl
  | x :: xs => by
    show D.tup [x, x] :: zipD xs xs = _
    rw [zipD_self xs, List.map_cons]
theorem vc__law_two_right {M : Type} : ∀ ds (m : M) Q Z, s__law_two_right ds m Q Z → okK [false, false, false, false] ds ∧ b__law_two_right { nx := fun _ m' => Q .non m', rt := Q, ex := Z } (st0 [false, false, false, false] ds 12) m := by
  rintro ds m Q Z ⟨f, g, r, d, r', d', u, v, n, rfl, hf, hg, pf, pg, v0, bu, bv, n0, n1, q⟩
  refine ⟨⟨fun _ => nl_pd, fun _ => nl_pd, fun _ => rfl, fun _ => rfl, trivial⟩, ?_⟩
  obtain ⟨k, rfl⟩ := Int.eq_ofNat_of_zero_le n0
  unfold b__law_two_right
  have ln := pf.ln
  have ln' := pg.ln
  repeat walk_at "s"
  refine v_kR1 (by omega) (by omega) ?_
  rw [Int.toNat_natCast]
  refine v_kforR k (fun j ρ m' => m' = m ∧ ∃ r1 d1 a5, ρ = [.val (pd r d), .val (pd r' d'), .val (.tup [.int u, .int v]), .val (.int k), .val (pd r1 d1), a5, .un, .un, .un, .un, .un, .un] ∧ P (f ^ j) r1 d1 ∧ PB (j * 6 + 1) (j * (201 + 6) + 1) r1 d1) ⟨rfl, [1], 1, _, rfl, by rw [Lean.Grind.Semiring.pow_zero]; exact P.one, PB.one⟩ (fun ρ m' h => ?_) fun j ρ m' hj h => ?_
  case refine_2 =>
    obtain ⟨rfl, r1, d1, _, rfl, hp, pp⟩ := h
    repeat walk_at "s"
    refine ⟨_, f, r1, d1, r, d, _, _, 6, 201, rfl, hp, hf, pp, pf, by omega, by omega, by omega, fun r2 d2 h3 _ => ?_⟩
    obtain ⟨h4, p4⟩ := pow_next hf pf hp pp h3
    repeat walk_at "s"
    exact ⟨rfl, r2, d2, _, rfl, h4, p4⟩
  obtain ⟨rfl, r1, d1, _, rfl, hp, pp⟩ := h
  have pp : PB 1000 1920 r1 d1 := pp.mono (by omega) (by omega)
  repeat walk_at "s"
  refine lc_zz (f := fun x => u * x) r (fun x hx m1 k l hk => ?_) (by omega) ?_
  · have bx := pf.bd x hx
    repeat walk_at "s"
    exact hk
  repeat walk_at "s"
  refine ⟨f, g, r, d, r', d', 6, 201, 6, 201, rfl, hf, hg, pf, pg, by decide, by decide, by decide, fun r2 d2 h2 p2 => ?_⟩
  repeat walk_at "s"
  refine ⟨f, g, r, d, r', d', 6, 201, 6, 201, rfl, hf, hg, pf, pg, by decide, by decide, by decide, fun r3 d3 h3 p3 => ?_⟩
  repeat walk_at "s"
  refine ⟨f, g, r, d, r', d', 6, 201, 6, 201, rfl, hf, hg, pf, pg, by decide, by decide, by decide, fun r4 d4 h4 p4 => ?_⟩
  repeat walk_at "s"
  refine ⟨f, r, d, u, v, 6, 201, 201, rfl, v0, hf, pf, by decide, bu, bv, by decide, fun s hs _ p5 => ?_⟩
  repeat walk_at "s"
  refine ⟨f, r, d, 6, 201, k, rfl, hf, pf, by omega, by omega, by omega, fun r6 d6 h6 _ => ?_⟩
  obtain ⟨rfl, rfl⟩ := h6.uniq hp
  repeat walk_at "s"
  refine ⟨f, g, r, d, r', d', 1, 6, 201, 6, 201, 1, rfl, hf, hg, pf, pg, by decide, by decide, bd_lit (by decide), by decide, by decide, fun r2' d2' h2' _ => ?_⟩
  obtain ⟨rfl, rfl⟩ := (h2'.cong (show _ = f + g by rw [show ((1 : Int) : Rat) = 1 from rfl, C_one]; grind)).uniq h2
  repeat walk_at "s"
  refine ⟨f, g, r, d, r', d', -1, 6, 201, 6, 201, 1, rfl, hf, hg, pf, pg, by decide, by decide, bd_lit (by decide), by decide, by decide, fun r3' d3' h3' _ => ?_⟩
  obtain ⟨rfl, rfl⟩ := (h3'.cong (show _ = f - g by rw [show ((-1 : Int) : Rat) = -1 from rfl, C_neg, C_one]; grind)).uniq h3
  repeat walk_at "s"
  refine ⟨f, g, r, d, r', d', 6, 201, 6, 201, rfl, hf, hg, pf, pg, by decide, by decide, by decide, fun r4' d4' h4' _ => ?_⟩
  obtain ⟨rfl, rfl⟩ := h4'.uniq h4
  repeat walk_at "s"
  refine ⟨_, _, rfl, isRow_t, by rw [List.length_map]; omega, fun s' hs' => ?_⟩
  rw [ser_scale] at hs'
  obtain rfl := hs'.uniq hs
  have dp := hf.pos
  have d0 : d * v ≠ 0 := Int.mul_ne_zero (by omega) v0
  have bdv : bd (201 + 201) (d * v) := bd_mul pf.dd bv
  have b1 := pf.dd
  have lS : s'.length ≤ 6 := by have := p5.ln; rw [lowR_len] at this; exact this
  repeat walk_at "s"
  refine ⟨s', d * v, rfl, by omega, d0, .inl (bd_mono bdv (by decide)), ?_⟩
  repeat walk_at "s"
  have nl5 : D.nls [pd r2' d2', pd r3' d3', pd r4' d4'] = true := by
    show ((pd r2' d2').nl && ((pd r3' d3').nl && ((pd r4' d4').nl && true))) = true
    rw [nl_pd, nl_pd, nl_pd]; rfl
  have nl2 : D.nls [pd (lowR s' (d * v)) (lowD s' (d * v)), pd r6 d6] = true := by
    show ((pd _ _).nl && ((pd r6 d6).nl && true)) = true
    rw [nl_pd, nl_pd]; rfl
  refine v_addl (by simp) nl5 nl2 ?_
  repeat walk_at "s"
  refine v_kZL (fun z => (nomatch z)) ?_
  show lcGo _ _ _ _ (zipD [pd r2' d2', pd r3' d3', pd r4' d4', pd (lowR s' (d * v)) (lowD s' (d * v)), pd r6 d6] [pd r2' d2', pd r3' d3', pd r4' d4', pd (lowR s' (d * v)) (lowD s' (d * v)), pd r6 d6]) _ _ _
  rw [zipD_self]
  have all : ∀ x ∈ [pd r2' d2', pd r3' d3', pd r4' d4', pd (lowR s' (d * v)) (lowD s' (d * v)), pd r6 d6], ∃ rr dd, x = pd rr dd ∧ PB 1000 1920 rr dd := fun x hx => by
    simp only [List.mem_cons, List.not_mem_nil, or_false] at hx
    rcases hx with rfl | rfl | rfl | rfl | rfl
    · exact ⟨_, _, rfl, p2.mono (by omega) (by omega)⟩
    · exact ⟨_, _, rfl, p3.mono (by omega) (by omega)⟩
    · exact ⟨_, _, rfl, p4.mono (by omega) (by omega)⟩
    · exact ⟨_, _, rfl, p5.mono (by omega) (by omega)⟩
    · exact ⟨_, _, rfl, pp⟩
  refine lcGo_map (h := fun _ => .bl true) _ (fun x hx m1 K l hK => ?_) (small_line (by simp)) ?_
  · obtain ⟨rr, dd, rfl, px⟩ := all x hx
    repeat walk_at "s"
    refine ⟨_, rfl, nl_pd, pd_sho px (by decide), ?_⟩
    repeat walk_at "s"
    exact hK
  repeat walk_at "s"
  exact ⟨[true, true, true, true, true], rfl, q⟩
end RR

/-! VZ: primes -/
namespace RR
open PySem PySem.Spec PyProof.Rows L2
local macro_rules | `(tactic| walk_at "bd") => `(tactic| first | assumption | exact bd_lit (by decide) | (with_reducible refine bd_mul ?_ ?_ <;> walk_at "bd") | (with_reducible refine bd_add ?_ ?_ <;> walk_at "bd") | (with_reducible refine bd_sub ?_ ?_ <;> walk_at "bd") | (with_reducible refine bd_neg ?_ <;> walk_at "bd"))
local macro_rules | `(tactic| walk_at "s") => `(tactic| with_reducible first
  | refine v_then ?_ | refine v_set ?_ | (apply v_var; · with_unfolding_all exact rfl) | refine v_bin ?_ | refine v_c ?_ | refine v_g0 ?_ | refine v_add ?_ | refine v_cons ?_ | refine v_nil ?_ | refine v_call ?_ | refine v_dB ?_ | refine v_next ?_ | refine v_ret ?_
  | refine v_ite ?_ | refine v_tst ?_ | refine v_kT ?_ | refine v_eqi ?_ | refine v_nei ?_ | refine v_eqr ?_ | refine v_ner ?_ | refine v_eqr0 ?_ | refine v_ner0 ?_ | refine v_eql ?_ | refine v_nel ?_ | refine v_eql0 ?_ | refine v_nel0 ?_ | refine v_isN ?_ | refine v_notN ?_
  | (apply v_bor; · with_unfolding_all exact rfl) | (apply v_own; · with_unfolding_all exact rfl) | refine v_tup ?_ | refine v_lst ?_ | (refine v_sz ?_ ?_; (· with_unfolding_all exact Nat.le_of_ble_eq_true rfl)) | (refine v_gIIz ?_ ?_; (· first | decide | omega))
  | refine v_lentz ?_ | refine v_lenlz ?_ | refine v_lent ?_ | refine v_lenl ?_ | refine v_I1 ?_ | refine v_I2 ?_ | refine v_int ?_ | refine v_seqlz ?_ | refine v_seqtz ?_ | refine v_sl ?_ | refine v_kSll ?_ | refine v_kSlt ?_ | refine v_ono ?_ | refine v_oso ?_ | refine v_kOS ?_
  | refine v_val ?_ | refine v_kVb ?_ | refine v_kVi ?_ | refine v_kVt ?_ | refine v_kVl ?_ | refine v_and ?_ | refine v_or ?_ | refine v_not ?_ | refine v_yes ?_ | refine v_if' ?_ | refine v_isi ?_ | refine v_kIii ?_ | refine v_kIib ?_ | refine v_kItt ?_
  | refine v_andV ?_ | refine v_orV ?_ | refine v_notV ?_ | refine v_kNV ?_ | refine v_neg ?_ | refine v_kNeg ?_ | refine v_seq ?_ | refine v_kSeql ?_ | refine v_kSeqt ?_ | refine v_rng1 ?_ | refine v_rng2 ?_ | refine v_enum ?_ | refine v_revr ?_ | refine v_rev ?_
  | (refine v_kR1 ?_ ?_ ?_; (· decide); (· decide))
  | (refine v_kR2 ?_ ?_ ?_ ?_ ?_; (· decide); (· decide); (· decide); (· decide))
  | refine v_gn ?_ | refine v_gt2 ?_ | refine v_gt3 ?_ | refine v_lc ?_ | refine v_for ?_ | refine v_setO ?_ | refine v_drop ?_ | (apply v_app; · with_unfolding_all exact rfl) | (apply v_setI; · with_unfolding_all exact rfl) | (apply v_rel; · with_unfolding_all exact rfl) | refine v_raise ?_ | refine v_par ?_ | refine v_kP ?_ | refine v_asg ?_
  | (apply v_aug; · with_unfolding_all exact rfl) | refine v_ifT ?_ | refine v_ifF ?_ | (refine v_pow ?_ ?_ ?_ ?_; (· decide); (· decide); (· decide)) | refine v_call0 ?_ | (apply v_lenr; · assumption) | (apply v_seqr; · assumption) | (apply v_kSeqr; · assumption) | (apply v_kSlr; · assumption)
  | refine v_ix0 ?_ | refine v_ix1 ?_ | refine v_ix2 ?_ | refine v_zip ?_ | refine v_kZl ?_ | refine v_kZt ?_ | (apply v_augI; · with_unfolding_all exact rfl) | refine v_try ?_ | refine v_isE ?_ | (refine v_kIE ?_ ?_; (· with_unfolding_all exact rfl)) | refine v_isB ?_ | refine v_notB ?_ | refine v_all ?_ | refine v_par3 ?_ | refine v_ifnT ?_ | refine v_ifnF ?_ | refine v_eqs ?_ | refine v_nes ?_ | refine v_rvs ?_ | refine v_kRvl ?_ | refine v_kRvt ?_
  | (refine v_mulb (a := ?a) (b := ?b) ?ha ?hb ?l ?h; (case ha => assumption); (case hb => assumption); (case l => omega)) | (refine v_fdivb (b := ?b) ?h0 ?hb ?l ?h; (case h0 => assumption); (case hb => assumption); (case l => omega)))
section
variable {M : Type} {Q : D → M → Prop} {Z : Str → M → Prop} {m : M} {ρ : En} {t u w : DT M}
theorem v_chain {g g' : G2} (h : t ρ m (fun x m1 => u ρ m1 (fun y m2 => g x y fun d => match d with | .bl true => w ρ m2 (fun z m3 => g' y z fun d => Q d m3) Z | .bl false => Q (.bl false) m2 | _ => False) Z) Z) : dChain g g' t u w ρ m Q Z := h
theorem v_chb {b : Bool} {A B : Prop} (h : b = true → A) (h' : b = false → B) : (match (D.bl b) with | .bl true => A | .bl false => B | _ => False) := by
  cases b
  · exact h' rfl
  · exact h rfl
end
/-- a prime, by trial -/
def Pr (n : Int) : Prop := 2 ≤ n ∧ ∀ k : Int, 2 ≤ k → k * k ≤ n → n.fmod k ≠ 0
theorem sq_lt {i k n : Int} (hi : 0 ≤ k) (h : i * i ≤ n) (h2 : n < k * k) : i < k := by
  refine Int.not_le.mp fun z => ?_
  have := Int.mul_le_mul z z hi (by omega)
  omega
theorem bd_n {n : Int} (h : n.natAbs < 2 ^ 60) : bd 60 n := h
def b_numbers_is_prime {M : Type} : DS M :=
    (dThen (dIte (dTst (dBin gLt (dVar 0) (dC (.int 2))))
      (dRet (dC (.bl false)))
      dNext)
    (dThen (dSet 1 (dC (.int 2)))
    (dThen (dWhile (dTst (dBin gLe (dBin gMul (dVar 1) (dVar 1)) (dVar 0)))
      (dThen (dIte (dTst (dBin gEq (dBin (gII Nz fun i j => .int (i.fmod j)) (dVar 0) (dVar 1)) (dC (.int 0))))
      (dRet (dC (.bl false)))
      dNext)
    (dAug 1 (fun i j => i + j) (dC (.int 1)))))
    (dRet (dC (.bl true))))))

def s_numbers_is_prime {M : Type} : DSp M := fun ds m Q Z => ∃ n, ds = [.int n] ∧ n ≤ 2 ^ 50 ∧ ∀ c : Bool, (c = true ↔ Pr n) → Q (.bl c) m
theorem vc_numbers_is_prime {M : Type} : ∀ ds (m : M) Q Z, s_numbers_is_prime ds m Q Z → okK [false] ds ∧ b_numbers_is_prime { nx := fun _ m' => Q .non m', rt := Q, ex := Z } (st0 [false] ds 2) m := by
  rintro ds m Q Z ⟨n, rfl, hn, q⟩
  refine ⟨⟨fun _ => rfl, trivial⟩, ?_⟩
  unfold b_numbers_is_prime
  repeat walk_at "s"
  refine v_ifd (fun h => ?_) fun h2 => ?_
  · repeat walk_at "s"
    refine q false ⟨fun z => (nomatch z), fun z => ?_⟩
    have := z.1; omega
  repeat walk_at "s"
  refine v_while (fun j ρ m' => m' = m ∧ ∃ k : Int, ρ = [.val (.int n), .val (.int k)] ∧ 2 ≤ k ∧ k ≤ n + 1 ∧ j = (n + 2 - k).toNat ∧ ∀ i, 2 ≤ i → i < k → n.fmod i ≠ 0) _ ⟨rfl, _, rfl, by omega, by omega, rfl, fun i h1 h2 => by omega⟩ fun j ρ m' h => ?_
  obtain ⟨rfl, k, rfl, k2, kn, rfl, hk⟩ := h
  have bk : bd 60 k := bd_n (by omega)
  repeat walk_at "s"
  refine v_ifd (fun h => ?_) fun h => ?_
  · have kn : k ≤ n := by
      have := Int.mul_le_mul_of_nonneg_right (show (1 : Int) ≤ k by omega) (show (0 : Int) ≤ k by omega)
      omega
    repeat walk_at "s"
    refine v_ifd (fun h0 => ?_) fun h0 => ?_
    · repeat walk_at "s"
      exact q false ⟨fun z => (nomatch z), fun z => absurd h0 (z.2 k k2 h)⟩
    · repeat walk_at "s"
      refine ⟨_, ?_, rfl, _, rfl, by omega, by omega, rfl, fun i h1 h3 => ?_⟩
      · omega
      · by_cases e : i = k
        · rw [e]; exact h0
        · exact hk i h1 (by omega)
  · repeat walk_at "s"
    exact q true ⟨fun _ => ⟨by omega, fun i h1 h3 => hk i h1 (sq_lt (by omega) h3 (by omega))⟩, fun _ => rfl⟩
def b__law_small_prime {M : Type} : DS M :=
    (dThen (dSet 1 (dC (.int 2)))
    (dThen (dWhile (dTst (dBin gLe (dBin gMul (dVar 1) (dVar 1)) (dVar 0)))
      (dThen (dIte (dTst (dBin gEq (dBin (gII Nz fun i j => .int (i.fmod j)) (dVar 0) (dVar 1)) (dC (.int 0))))
      (dRet (dC (.bl false)))
      dNext)
    (dSet 1 (dBin gAdd (dVar 1) (dC (.int 1))))))
    (dRet (dBin gGt (dVar 0) (dC (.int 1))))))

def s__law_small_prime {M : Type} : DSp M := fun ds m Q Z => ∃ n, ds = [.int n] ∧ 0 ≤ n ∧ n ≤ 2 ^ 50 ∧ ∀ c : Bool, (c = true ↔ Pr n) → Q (.bl c) m
theorem vc__law_small_prime {M : Type} : ∀ ds (m : M) Q Z, s__law_small_prime ds m Q Z → okK [false] ds ∧ b__law_small_prime { nx := fun _ m' => Q .non m', rt := Q, ex := Z } (st0 [false] ds 2) m := by
  rintro ds m Q Z ⟨n, rfl, h0, hn, q⟩
  refine ⟨⟨fun _ => rfl, trivial⟩, ?_⟩
  unfold b__law_small_prime
  repeat walk_at "s"
  refine v_while (fun j ρ m' => m' = m ∧ ∃ k : Int, ρ = [.val (.int n), .val (.int k)] ∧ 2 ≤ k ∧ k ≤ n + 2 ∧ j = (n + 2 - k).toNat ∧ ∀ i, 2 ≤ i → i < k → n.fmod i ≠ 0) _ ⟨rfl, _, rfl, by omega, by omega, rfl, fun i h1 h2 => by omega⟩ fun j ρ m' h => ?_
  obtain ⟨rfl, k, rfl, k2, kn, rfl, hk⟩ := h
  have bk : bd 60 k := bd_n (by omega)
  repeat walk_at "s"
  refine v_ifd (fun h => ?_) fun h => ?_
  · have kn : k ≤ n := by
      have := Int.mul_le_mul_of_nonneg_right (show (1 : Int) ≤ k by omega) (show (0 : Int) ≤ k by omega)
      omega
    repeat walk_at "s"
    refine v_ifd (fun h0 => ?_) fun h0 => ?_
    · repeat walk_at "s"
      exact q false ⟨fun z => (nomatch z), fun z => absurd h0 (z.2 k k2 h)⟩
    · repeat walk_at "s"
      refine ⟨_, ?_, rfl, _, rfl, by omega, by omega, rfl, fun i h1 h3 => ?_⟩
      · omega
      · by_cases e : i = k
        · rw [e]; exact h0
        · exact hk i h1 (by omega)
  · repeat walk_at "s"
    refine q _ ?_
    rw [decide_eq_true_eq]
    exact ⟨fun _ => ⟨by omega, fun i h1 h3 => hk i h1 (sq_lt (by omega) h3 (by omega))⟩, fun z => by have := z.1; omega⟩
def b_numbers_need_prime {M : Type} : DS M :=
    (dIte (dOr (dNot (dVal (dCall s_numbers_is_whole [] (dCons (dBor 0) dNil)))) (dOr (dNot (dTst (dChain gLe gLe (dC (.int 2)) (dBor 0) (dC (.int 9973))))) (dNot (dVal (dCall s_numbers_is_prime [] (dCons (dBor 0) dNil))))))
      (dRaise "BadPrime")
      dNext)

def s_numbers_need_prime {M : Type} : DSp M := fun ds m Q Z => ∃ x, ds = [x] ∧ ((∃ n, x = .int n ∧ (Pr n → n ≤ 9973 → Q .non m) ∧ (¬(Pr n ∧ n ≤ 9973) → Z "BadPrime" m)) ∨ (∃ t, x.ty = some t ∧ whT t = false ∧ Z "BadPrime" m))
theorem vc_numbers_need_prime {M : Type} : ∀ ds (m : M) Q Z, s_numbers_need_prime ds m Q Z → okK [true] ds ∧ b_numbers_need_prime { nx := fun _ m' => Q .non m', rt := Q, ex := Z } (st0 [true] ds 1) m := by
  rintro ds m Q Z ⟨x, rfl, h⟩
  refine ⟨⟨fun h => (nomatch h), trivial⟩, ?_⟩
  unfold b_numbers_need_prime
  rcases h with ⟨n, rfl, q, z⟩ | ⟨t, ht, hw, z⟩
  · repeat walk_at "s"
    refine ⟨_, "int", rfl, rfl, ?_⟩
    repeat walk_at "s"
    rw [show (!whT "int") = false by decide]
    repeat walk_at "s"
    refine v_chain ?_
    repeat walk_at "s"
    refine v_chb (fun h => ?_) fun h => ?_
    · have h := of_decide_eq_true h
      repeat walk_at "s"
      by_cases h9 : n ≤ 9973
      · rw [decide_eq_true h9]
        repeat walk_at "s"
        refine ⟨n, rfl, by omega, fun c hc => ?_⟩
        repeat walk_at "s"
        cases c with
        | false =>
          repeat walk_at "s"
          exact z fun h => Bool.false_ne_true (hc.mpr h.1)
        | true =>
          repeat walk_at "s"
          exact q (hc.mp rfl) h9
      · rw [decide_eq_false h9]
        repeat walk_at "s"
        exact z fun h => h9 h.2
    · have h := of_decide_eq_false h
      repeat walk_at "s"
      exact z fun z => h z.1.1
  · repeat walk_at "s"
    refine ⟨_, t, rfl, ht, ?_⟩
    rw [hw]
    repeat walk_at "s"
    exact z
end RR

/-! V01: the law k01 -/
namespace RR
open PySem PySem.Spec PyProof.Rows L2
local macro_rules | `(tactic| walk_at "bd") => `(tactic| first | assumption | exact bd_lit (by decide) | (with_reducible refine bd_mul ?_ ?_ <;> walk_at "bd") | (with_reducible refine bd_add ?_ ?_ <;> walk_at "bd") | (with_reducible refine bd_sub ?_ ?_ <;> walk_at "bd") | (with_reducible refine bd_neg ?_ <;> walk_at "bd"))
local macro_rules | `(tactic| walk_at "s") => `(tactic| with_reducible first
  | refine v_then ?_ | refine v_set ?_ | (apply v_var; · with_unfolding_all exact rfl) | refine v_bin ?_ | refine v_c ?_ | refine v_g0 ?_ | refine v_add ?_ | refine v_cons ?_ | refine v_nil ?_ | refine v_call ?_ | refine v_dB ?_ | refine v_next ?_ | refine v_ret ?_
  | refine v_ite ?_ | refine v_tst ?_ | refine v_kT ?_ | refine v_eqi ?_ | refine v_nei ?_ | refine v_eqr ?_ | refine v_ner ?_ | refine v_eqr0 ?_ | refine v_ner0 ?_ | refine v_eql ?_ | refine v_nel ?_ | refine v_eql0 ?_ | refine v_nel0 ?_ | refine v_isN ?_ | refine v_notN ?_
  | (apply v_bor; · with_unfolding_all exact rfl) | (apply v_own; · with_unfolding_all exact rfl) | refine v_tup ?_ | refine v_lst ?_ | (refine v_sz ?_ ?_; (· with_unfolding_all exact Nat.le_of_ble_eq_true rfl)) | (refine v_gIIz ?_ ?_; (· first | decide | omega))
  | refine v_lentz ?_ | refine v_lenlz ?_ | refine v_lent ?_ | refine v_lenl ?_ | refine v_I1 ?_ | refine v_I2 ?_ | refine v_int ?_ | refine v_seqlz ?_ | refine v_seqtz ?_ | refine v_sl ?_ | refine v_kSll ?_ | refine v_kSlt ?_ | refine v_ono ?_ | refine v_oso ?_ | refine v_kOS ?_
  | refine v_val ?_ | refine v_kVb ?_ | refine v_kVi ?_ | refine v_kVt ?_ | refine v_kVl ?_ | refine v_and ?_ | refine v_or ?_ | refine v_not ?_ | refine v_yes ?_ | refine v_if' ?_ | refine v_isi ?_ | refine v_kIii ?_ | refine v_kIib ?_ | refine v_kItt ?_
  | refine v_andV ?_ | refine v_orV ?_ | refine v_notV ?_ | refine v_kNV ?_ | refine v_neg ?_ | refine v_kNeg ?_ | refine v_seq ?_ | refine v_kSeql ?_ | refine v_kSeqt ?_ | refine v_rng1 ?_ | refine v_rng2 ?_ | refine v_enum ?_ | refine v_revr ?_ | refine v_rev ?_
  | (refine v_kR1 ?_ ?_ ?_; (· decide); (· decide))
  | (refine v_kR2 ?_ ?_ ?_ ?_ ?_; (· decide); (· decide); (· decide); (· decide))
  | refine v_gn ?_ | refine v_gt2 ?_ | refine v_gt3 ?_ | refine v_lc ?_ | refine v_for ?_ | refine v_setO ?_ | refine v_drop ?_ | (apply v_app; · with_unfolding_all exact rfl) | (apply v_setI; · with_unfolding_all exact rfl) | (apply v_rel; · with_unfolding_all exact rfl) | refine v_raise ?_ | refine v_par ?_ | refine v_kP ?_ | refine v_asg ?_
  | (apply v_aug; · with_unfolding_all exact rfl) | refine v_ifT ?_ | refine v_ifF ?_ | (refine v_pow ?_ ?_ ?_ ?_; (· decide); (· decide); (· decide)) | refine v_call0 ?_ | (apply v_lenr; · assumption) | (apply v_seqr; · assumption) | (apply v_kSeqr; · assumption) | (apply v_kSlr; · assumption)
  | refine v_ix0 ?_ | refine v_ix1 ?_ | refine v_ix2 ?_ | refine v_zip ?_ | refine v_kZl ?_ | refine v_kZt ?_ | (apply v_augI; · with_unfolding_all exact rfl) | refine v_try ?_ | refine v_isE ?_ | (refine v_kIE ?_ ?_; (· with_unfolding_all exact rfl)) | refine v_isB ?_ | refine v_notB ?_ | refine v_all ?_ | refine v_par3 ?_ | refine v_ifnT ?_ | refine v_ifnF ?_ | refine v_eqs ?_ | refine v_nes ?_ | refine v_rvs ?_ | refine v_kRvl ?_ | refine v_kRvt ?_
  | (refine v_mulb (a := ?a) (b := ?b) ?ha ?hb ?l ?h; (case ha => assumption); (case hb => assumption); (case l => omega)) | (refine v_fdivb (b := ?b) ?h0 ?hb ?l ?h; (case h0 => assumption); (case hb => assumption); (case l => omega)))
theorem fm_nat (n k : Nat) : Int.fmod (n : Int) (k : Int) = ((n % k : Nat) : Int) := by rw [Int.fmod_eq_emod_of_nonneg _ (Int.natCast_nonneg k)]; rfl
theorem fd_nat (n k : Nat) : Int.fdiv (n : Int) (k : Int) = ((n / k : Nat) : Int) := by rw [Int.fdiv_eq_ediv_of_nonneg _ (Int.natCast_nonneg k)]; rfl
theorem fm_dvd {n k : Nat} : Int.fmod (n : Int) (k : Int) = 0 ↔ k ∣ n := by
  rw [fm_nat]
  exact ⟨fun h => Nat.dvd_of_mod_eq_zero (by omega), fun h => by rw [Nat.mod_eq_zero_of_dvd h]; rfl⟩
/-! ### multipliers -/
def b_numbers_multipliers {M : Type} : DS M :=
    (dThen (dSet 2 (dTup (dCons (dB (gI1 iabs) (dCons (dVar 0) dNil)) (dCons (dIf (dTst (dBin gGe (dVar 0) (dC (.int 0)))) (dC (.int 1)) (dNeg (dC (.int 1)))) (dCons (dC (.int 0)) dNil)))))
    (dThen (dSet 3 (dTup (dCons (dB (gI1 iabs) (dCons (dVar 1) dNil)) (dCons (dC (.int 0)) (dCons (dIf (dTst (dBin gGe (dVar 1) (dC (.int 0)))) (dC (.int 1)) (dNeg (dC (.int 1)))) dNil)))))
    (dThen (dWhile (dTst (dBin gGt (dBin (gIx false) (dVar 3) (dC (.int 0))) (dC (.int 0))))
      (dThen (dSet 4 (dBin (gII Nd fun i j => .int (i.fdiv j)) (dBin (gIx false) (dVar 2) (dC (.int 0))) (dBin (gIx false) (dVar 3) (dC (.int 0)))))
    (dPar 2 3 (dCons (dVar 3) (dCons (dB (gSeq .tup) (dCons (dLc (dZip false (dVar 2) (dVar 3)) (dgT 2 (dgCons (dgN 5) (dgCons (dgN 6) dgNil))) dYes (dBin (g0 fun i j => .int (i - j)) (dVar 5) (dBin gMul (dVar 4) (dVar 6))) [5, 6]) dNil)) dNil)))))
    (dRet (dVar 2)))))

def s_numbers_multipliers {M : Type} : DSp M := fun ds m Q Z => ∃ n d, ds = [.int n, .int d] ∧ bd 1000 n ∧ bd 1000 d ∧ ∀ x y : Int, (Int.gcd n d : Int) = x * n + y * d → bd 1001 x → bd 1001 y → Q (.tup (zz [(Int.gcd n d : Int), x, y])) m
theorem mult_step {A B X U U' D : Nat} (hB : 0 < B) (h : X * B + U * A ≤ D) (hU : U' ≤ X + A / B * U) : U * (A % B) + U' * B ≤ D ∧ U' ≤ D := by
  have e := Nat.div_add_mod A B
  have h1 : U' * B ≤ X * B + A / B * U * B := by rw [← Nat.add_mul]; exact Nat.mul_le_mul_right B hU
  have h2 : U * A = U * (B * (A / B)) + U * (A % B) := by rw [← Nat.mul_add, e]
  have h3 : A / B * U * B = U * (B * (A / B)) := by rw [Nat.mul_comm (A / B) U, Nat.mul_assoc, Nat.mul_comm (A / B) B]
  have h4 : U' ≤ U' * B := Nat.le_mul_of_pos_right _ hB
  omega
theorem vc_numbers_multipliers {M : Type} : ∀ ds (m : M) Q Z, s_numbers_multipliers ds m Q Z → okK [false, false] ds ∧ b_numbers_multipliers { nx := fun _ m' => Q .non m', rt := Q, ex := Z } (st0 [false, false] ds 7) m := by
  rintro ds m Q Z ⟨n, d, rfl, hn, hd, q⟩
  refine ⟨⟨fun _ => rfl, fun _ => rfl, trivial⟩, ?_⟩
  unfold b_numbers_multipliers
  have go : ∀ (s t : Int) (a4 a5 a6 : Sl), s.natAbs = 1 → t.natAbs = 1 → s * n = (n.natAbs : Int) → t * d = (d.natAbs : Int) →
      (dThen (dWhile (dTst (dBin gGt (dBin (gIx false) (dVar 3) (dC (.int 0))) (dC (.int 0))))
      (dThen (dSet 4 (dBin (gII Nd fun i j => .int (i.fdiv j)) (dBin (gIx false) (dVar 2) (dC (.int 0))) (dBin (gIx false) (dVar 3) (dC (.int 0)))))
    (dPar 2 3 (dCons (dVar 3) (dCons (dB (gSeq .tup) (dCons (dLc (dZip false (dVar 2) (dVar 3)) (dgT 2 (dgCons (dgN 5) (dgCons (dgN 6) dgNil))) dYes (dBin (g0 fun i j => .int (i - j)) (dVar 5) (dBin gMul (dVar 4) (dVar 6))) [5, 6]) dNil)) dNil)))))
    (dRet (dVar 2)) : DS M) { nx := fun _ m' => Q .non m', rt := Q, ex := Z } [.val (.int n), .val (.int d), .val (.tup (zz [(n.natAbs : Int), s, 0])), .val (.tup (zz [(d.natAbs : Int), 0, t])), a4, a5, a6] m := fun s t a4 a5 a6 hs ht es et => by
    repeat walk_at "s"
    refine v_while (fun j ρ m' => m' = m ∧ ∃ (A B : Nat) (x y u v : Int) (a4 a5 a6 : Sl), ρ = [.val (.int n), .val (.int d), .val (.tup (zz [(A : Int), x, y])), .val (.tup (zz [(B : Int), u, v])), a4, a5, a6] ∧ B = j ∧ A < 2 ^ 1000 ∧ B < 2 ^ 1000 ∧
      (A : Int) = x * n + y * d ∧ (B : Int) = u * n + v * d ∧ Nat.gcd A B = Int.gcd n d ∧ x.natAbs * B + u.natAbs * A ≤ d.natAbs ∧ y.natAbs * B + v.natAbs * A ≤ n.natAbs ∧ x.natAbs ≤ d.natAbs + 1 ∧ u.natAbs ≤ d.natAbs + 1 ∧ y.natAbs ≤ n.natAbs + 1 ∧ v.natAbs ≤ n.natAbs + 1) _
      ⟨rfl, _, _, _, _, _, _, _, _, _, rfl, rfl, hn, hd, by rw [es]; omega, by rw [et]; omega, rfl, by simp [hs], by simp [ht], by omega, by simp, by simp, by omega⟩ fun j ρ m' h => ?_
    obtain ⟨rfl, A, B, x, y, u, v, _, _, _, rfl, rfl, hA, hB, eA, eB, eg, i1, i2, bx, bu, by_, bv⟩ := h
    have big : (2 : Nat) ^ 1000 + 1 < 2 ^ 1001 := by decide
    unfold bd at hn hd
    repeat walk_at "s"
    refine v_ixt (by decide) (by simp) ?_
    rw [show nth [(B : Int), u, v] 0 = (B : Int) from rfl]
    repeat walk_at "s"
    refine v_ifd (fun h => ?_) fun h => ?_
    · have h : 0 < B := by omega
      repeat walk_at "s"
      refine v_ixt (by decide) (by simp) ?_
      rw [show nth [(A : Int), x, y] 0 = (A : Int) from rfl]
      repeat walk_at "s"
      refine v_ixt (by decide) (by simp) ?_
      rw [show nth [(B : Int), u, v] 0 = (B : Int) from rfl]
      have B0 : (B : Int) ≠ 0 := by omega
      have bB : bd 1001 (B : Int) := by unfold bd; omega
      repeat walk_at "s"
      rw [fd_nat]
      have hq : A / B ≤ A := Nat.div_le_self ..
      have bq : bd 1001 ((A / B : Nat) : Int) := by unfold bd; rw [Int.natAbs_natCast]; omega
      have bu' : bd 1001 u := by unfold bd; omega
      have bv' : bd 1001 v := by unfold bd; omega
      repeat walk_at "s"
      refine lc_zip (f := fun i j => i - ((A / B : Nat) : Int) * j) (fun i _ j hj m k l hk => ?_) (by simp) ?_
      · have bj : bd 1001 j := by
          simp only [List.mem_cons, List.not_mem_nil, or_false] at hj
          rcases hj with rfl | rfl | rfl
          · exact bB
          · exact bu'
          · exact bv'
        repeat walk_at "s"
        exact hk
      repeat walk_at "s"
      have am : (A : Int) - ((A / B : Nat) : Int) * B = ((A % B : Nat) : Int) := by
        have e : ((B * (A / B) + A % B : Nat) : Int) = A := by rw [Nat.div_add_mod]
        rw [Int.natCast_add, Int.natCast_mul] at e
        rw [← e]; grind
      have nb : ∀ {i j : Int}, (i - ((A / B : Nat) : Int) * j).natAbs ≤ i.natAbs + A / B * j.natAbs := fun {i j} => by
        refine Nat.le_trans (Int.natAbs_sub_le _ _) ?_
        rw [Int.natAbs_mul, Int.natAbs_natCast]
        exact Nat.le_refl _
      obtain ⟨p1, p2⟩ := mult_step h i1 nb
      obtain ⟨p3, p4⟩ := mult_step h i2 nb
      have lt := Nat.mod_lt A h
      exact ⟨A % B, lt, rfl, B, A % B, u, v, x - ((A / B : Nat) : Int) * u, y - ((A / B : Nat) : Int) * v, _, _, _, by rw [← am]; rfl, rfl, hB, by omega, eB, by rw [← am, eA, eB]; grind, by rw [← eg, Nat.gcd_comm A B, Nat.gcd_rec B A, Nat.gcd_comm], p1, p3, bu, by omega, bv, by omega⟩
    · obtain rfl : B = 0 := by omega
      repeat walk_at "s"
      rw [Nat.gcd_zero_right] at eg
      subst eg
      exact q x y eA (by unfold bd; omega) (by unfold bd; omega)
  repeat walk_at "s"
  rw [iabs_eq]
  have s1 : 0 ≤ n → (1 : Int) * n = (n.natAbs : Int) := fun h => by omega
  have s2 : ¬ 0 ≤ n → (-1 : Int) * n = (n.natAbs : Int) := fun h => by omega
  have t1 : 0 ≤ d → (1 : Int) * d = (d.natAbs : Int) := fun h => by omega
  have t2 : ¬ 0 ≤ d → (-1 : Int) * d = (d.natAbs : Int) := fun h => by omega
  refine v_ifd (fun h => ?_) fun h => ?_
  · repeat walk_at "s"
    rw [iabs_eq]
    refine v_ifd (fun h' => ?_) fun h' => ?_
    · repeat walk_at "s"
      exact go 1 1 _ _ _ rfl rfl (s1 h) (t1 h')
    · repeat walk_at "s"
      exact go 1 (-1) _ _ _ rfl rfl (s1 h) (t2 h')
  · repeat walk_at "s"
    rw [iabs_eq]
    refine v_ifd (fun h' => ?_) fun h' => ?_
    · repeat walk_at "s"
      exact go (-1) 1 _ _ _ rfl rfl (s2 h) (t1 h')
    · repeat walk_at "s"
      exact go (-1) (-1) _ _ _ rfl rfl (s2 h) (t2 h')
def b__law_pair_right {M : Type} : DS M :=
    (dThen (dSet 2 (dCall s__law_common [] (dCons (dLst (dCons (dVar 0) (dCons (dVar 1) dNil))) dNil)))
    (dThen (dIte (dOr (dTst (dBin gNe (dCall s_numbers_common [] (dCons (dVar 0) (dCons (dVar 1) dNil))) (dVar 2))) (dOr (dTst (dBin gNe (dCall s_numbers_common [] (dCons (dVar 1) (dCons (dVar 0) dNil))) (dVar 2))) (dVal (dIsi "bool" (dCall s_numbers_common [] (dCons (dVar 0) (dCons (dVar 1) dNil)))))))
      (dRet (dC (.bl false)))
      dNext)
    (dThen (dSet 3 (dCall s_numbers_multipliers [] (dCons (dVar 0) (dCons (dVar 1) dNil))))
    (dThen (dIte (dOr (dNot (dVal (dIsi "tuple" (dVar 3)))) (dOr (dTst (dBin gNe (dB gLen (dCons (dVar 3) dNil)) (dC (.int 3)))) (dTst (dBin gIn (dC (.bl true)) (dLc (dSeq false (dVar 3)) (dgN 4) dYes (dIsi "bool" (dVar 4)) [4])))))
      (dRet (dC (.bl false)))
      dNext)
    (dRet (dAndV (dBin gEq (dBin (gIx false) (dVar 3) (dC (.int 0))) (dVar 2)) (dBin gEq (dBin gAdd (dBin gMul (dBin (gIx false) (dVar 3) (dC (.int 1))) (dVar 0)) (dBin gMul (dBin (gIx false) (dVar 3) (dC (.int 2))) (dVar 1))) (dVar 2))))))))

def s__law_pair_right {M : Type} : DSp M := fun ds m Q Z => ∃ n d, ds = [.int n, .int d] ∧ bd 1000 n ∧ bd 1000 d ∧ Q (.bl true) m
theorem vc__law_pair_right {M : Type} : ∀ ds (m : M) Q Z, s__law_pair_right ds m Q Z → okK [false, false] ds ∧ b__law_pair_right { nx := fun _ m' => Q .non m', rt := Q, ex := Z } (st0 [false, false] ds 5) m := by
  rintro ds m Q Z ⟨n, d, rfl, hn, hd, q⟩
  refine ⟨⟨fun _ => rfl, fun _ => rfl, trivial⟩, ?_⟩
  unfold b__law_pair_right
  repeat walk_at "s"
  refine ⟨[n, d], rfl, ?_⟩
  rw [gcdL_two]
  repeat walk_at "s"
  refine ⟨n, d, rfl, ?_⟩
  repeat walk_at "s"
  rw [decide_eq_true rfl]
  repeat walk_at "s"
  try ((with_reducible show @ite _ _ _ _ _); refine v_ifF ?_)
  repeat walk_at "s"
  refine ⟨d, n, rfl, ?_⟩
  repeat walk_at "s"
  rw [decide_eq_true (show (Int.gcd d n : Int) = Int.gcd n d by rw [Int.gcd_comm])]
  repeat walk_at "s"
  try ((with_reducible show @ite _ _ _ _ _); refine v_ifF ?_)
  repeat walk_at "s"
  refine ⟨n, d, rfl, ?_⟩
  repeat walk_at "s"
  refine ⟨n, d, rfl, hn, hd, fun x y e bx by_ => ?_⟩
  repeat walk_at "s"
  try ((with_reducible show @ite _ _ _ _ _); refine v_ifF ?_)
  repeat walk_at "s"
  refine lc_zd (f := fun _ => .bl false) _ (fun a ha m1 k l hk => ?_) (by simp) ?_
  · repeat walk_at "s"
    exact hk
  repeat walk_at "s"
  refine ⟨rfl, rfl, ?_⟩
  repeat walk_at "s"
  try ((with_reducible show @ite _ _ _ _ _); refine v_ifF ?_)
  repeat walk_at "s"
  refine v_ixt (by decide) (by simp) ?_
  rw [show nth [(Int.gcd n d : Int), x, y] 0 = (Int.gcd n d : Int) from rfl]
  repeat walk_at "s"
  rw [decide_eq_true rfl]
  refine v_kAV (fun _ => ?_) fun h => (nomatch h)
  repeat walk_at "s"
  refine v_ixt (by decide) (by simp) ?_
  rw [show nth [(Int.gcd n d : Int), x, y] 1 = x from rfl]
  repeat walk_at "s"
  refine v_ixt (by decide) (by simp) ?_
  rw [show nth [(Int.gcd n d : Int), x, y] 2 = y from rfl]
  repeat walk_at "s"
  rw [decide_eq_true e.symm]
  exact q
def b__law_is_prime {M : Type} : DS M :=
    (dThen (dSet 1 (dLc (dRng2 (dCons (dC (.int 2)) (dCons (dC (.int 101)) dNil))) (dgN 2) (dAnd (dTst (dBin gLt (dVar 2) (dVar 0))) (dTst (dBin gEq (dBin (gII Nz fun i j => .int (i.fmod j)) (dVar 0) (dVar 2)) (dC (.int 0))))) (dVar 2) [2]))
    (dRet (dAndV (dBin gGt (dVar 0) (dC (.int 1))) (dBin gEq (dVar 1) (dLst dNil)))))

def s__law_is_prime {M : Type} : DSp M := fun ds m Q Z => ∃ n, ds = [.int n] ∧ 0 ≤ n ∧ n ≤ 9999 ∧ ∀ c : Bool, (c = true ↔ Pr n) → Q (.bl c) m
theorem trial {n : Int} (h1 : 1 < n) (hn : n ≤ 9999) : (∀ k : Int, 2 ≤ k → k ≤ 100 → k < n → n.fmod k ≠ 0) ↔ Pr n := by
  constructor
  · intro h
    refine ⟨by omega, fun k k2 kn => ?_⟩
    have : k < 100 := sq_lt (n := n) (by decide) kn (by omega)
    refine h k k2 (by omega) ?_
    have : 2 * k ≤ k * k := Int.mul_le_mul_of_nonneg_right k2 (by omega)
    omega
  · intro ⟨_, h⟩ k k2 k100 kn e
    have e2 := Int.mul_fdiv_add_fmod n k
    rw [e, Int.add_zero] at e2
    obtain ⟨j, hj⟩ : ∃ j, j = n.fdiv k := ⟨_, rfl⟩
    rw [← hj] at e2
    have j2 : 2 ≤ j := by
      refine Int.not_lt.mp fun z => ?_
      have : k * j ≤ k * 1 := Int.mul_le_mul_of_nonneg_left (by omega) (by omega)
      omega
    by_cases z : k ≤ j
    · refine h k k2 ?_ e
      have : k * k ≤ k * j := Int.mul_le_mul_of_nonneg_left z (by omega)
      omega
    · refine h j j2 ?_ ?_
      · have : j * j ≤ k * j := Int.mul_le_mul_of_nonneg_right (by omega) (by omega)
        omega
      · rw [← e2, Int.mul_fmod_left]
theorem vc__law_is_prime {M : Type} : ∀ ds (m : M) Q Z, s__law_is_prime ds m Q Z → okK [false] ds ∧ b__law_is_prime { nx := fun _ m' => Q .non m', rt := Q, ex := Z } (st0 [false] ds 3) m := by
  rintro ds m Q Z ⟨n, rfl, h0, hn, q⟩
  refine ⟨⟨fun _ => rfl, trivial⟩, ?_⟩
  unfold b__law_is_prime
  repeat walk_at "s"
  unfold iota
  refine lcGo_filter (h := fun k : Nat => D.int (2 + (k : Nat))) (keep := fun k : Nat => decide (2 + (k : Int) < n) && decide (n.fmod (2 + (k : Int)) = 0)) _ (fun k hk m1 K l h1 h2 => ?_) (small_line (by simp)) ?_
  · repeat walk_at "s"
    by_cases c1 : 2 + (k : Int) < n
    · rw [decide_eq_true c1] at h1 h2 ⊢
      rw [Bool.true_and] at h1 h2
      repeat walk_at "s"
      refine v_ifd (fun h => ?_) fun h => ?_
      · repeat walk_at "s"
        exact h1 (decide_eq_true h)
      · exact h2 (decide_eq_false h)
    · rw [decide_eq_false c1] at h1 h2 ⊢
      rw [Bool.false_and] at h1 h2
      repeat walk_at "s"
      exact h2 rfl
  rw [List.nil_append, show ∀ ks : List Nat, ks.map (fun k : Nat => D.int (2 + (k : Nat))) = zz (ks.map fun k : Nat => 2 + (k : Int)) from fun ks => (List.map_map ..).symm]
  repeat walk_at "s"
  by_cases g1 : 1 < n
  · rw [decide_eq_true g1]
    refine v_kAV (fun _ => ?_) fun h => (nomatch h)
    repeat walk_at "s"
    refine q _ ?_
    rw [← trial g1 hn, decide_eq_true_eq, List.map_eq_nil_iff, List.filter_eq_nil_iff]
    constructor
    · intro h k k2 k100 kn e
      obtain ⟨j, hj⟩ := Int.eq_ofNat_of_zero_le (show 0 ≤ k - 2 by omega)
      refine h j (List.mem_range.mpr (by omega)) ?_
      rw [show 2 + (j : Int) = k by omega, decide_eq_true kn, decide_eq_true e]; rfl
    · intro h j hj z
      have := List.mem_range.mp hj
      rw [Bool.and_eq_true, decide_eq_true_eq, decide_eq_true_eq] at z
      exact h (2 + (j : Int)) (by omega) (by omega) z.1 z.2
  · rw [decide_eq_false g1]
    refine v_kAV (fun h => (nomatch h)) fun _ => ?_
    exact q false ⟨fun z => (nomatch z), fun z => by have := z.1; omega⟩
end RR

/-! VM: rows modulo p = q + 1 -/
namespace RR
open PySem PySem.Spec PyProof.Rows L2
open Lean.Grind (CommRing IsCharP)
abbrev Kp (q : Nat) := Fin (q + 1)
section
variable {q : Nat}
/-- a whole number modulo q + 1 -/
def zc (z : Int) : Kp q := (Lean.Grind.Ring.intCast (α := Kp q)).intCast z
theorem zc_mul (a b : Int) : (zc (a * b) : Kp q) = zc a * zc b := Lean.Grind.Ring.intCast_mul a b
theorem zc_add (a b : Int) : (zc (a + b) : Kp q) = zc a + zc b := Lean.Grind.Ring.intCast_add a b
theorem zc_neg (a : Int) : (zc (-a) : Kp q) = - zc a := Lean.Grind.Ring.intCast_neg a
theorem zc_sub (a b : Int) : (zc (a - b) : Kp q) = zc a - zc b := Lean.Grind.Ring.intCast_sub a b
theorem zc_zero : (zc 0 : Kp q) = 0 := Lean.Grind.Ring.intCast_zero
theorem zc_one : (zc 1 : Kp q) = 1 := Lean.Grind.Ring.intCast_one
theorem zc_ext {a b : Int} : (zc a : Kp q) = zc b ↔ a % ((q + 1 : Nat) : Int) = b % ((q + 1 : Nat) : Int) := IsCharP.intCast_ext_iff (q + 1)
theorem zc_eq0 {a : Int} : (zc a : Kp q) = 0 ↔ a % ((q + 1 : Nat) : Int) = 0 := IsCharP.intCast_eq_zero_iff (q + 1) a
theorem zc_inj {a b : Int} (ha : 0 ≤ a ∧ a < ((q + 1 : Nat) : Int)) (hb : 0 ≤ b ∧ b < ((q + 1 : Nat) : Int)) (h : (zc a : Kp q) = zc b) : a = b := by
  rw [zc_ext, Int.emod_eq_of_lt ha.1 ha.2, Int.emod_eq_of_lt hb.1 hb.2] at h
  exact h
theorem fm_em {a : Int} {p : Nat} : a.fmod (p : Int) = a % (p : Int) := Int.fmod_eq_emod_of_nonneg _ (Int.natCast_nonneg p)
theorem zc_fm {a : Int} : (zc (a.fmod ((q + 1 : Nat) : Int)) : Kp q) = zc a := by
  rw [zc_ext, fm_em, Int.emod_emod_of_dvd _ (Int.dvd_refl _)]
theorem fm_rg (a : Int) : 0 ≤ a.fmod ((q + 1 : Nat) : Int) ∧ a.fmod ((q + 1 : Nat) : Int) < ((q + 1 : Nat) : Int) :=
  ⟨Int.fmod_nonneg_of_pos _ (by omega), Int.fmod_lt_of_pos _ (by omega)⟩
theorem zc_val (x : Kp q) : zc (x.val : Int) = x := by
  have : (zc (x.val : Int) : Kp q) = (Lean.Grind.Semiring.natCast (α := Kp q)).natCast x.val := Lean.Grind.Ring.intCast_natCast x.val
  rw [this]
  exact Fin.ext (Nat.mod_eq_of_lt x.isLt)
/-- a series of whole numbers modulo q + 1 -/
def zs (f : Ser Int) : Ser (Kp q) := ⟨fun k => zc (f.co k)⟩
theorem zs_co (f : Ser Int) (k : Nat) : (zs f : Ser (Kp q)).co k = zc (f.co k) := rfl
theorem zs_add (f g : Ser Int) : (zs (f + g) : Ser (Kp q)) = zs f + zs g := Ser.ext fun k => by rw [zs_co, Ser.add_co, Ser.add_co, zc_add]; rfl
theorem zs_sub (f g : Ser Int) : (zs (f - g) : Ser (Kp q)) = zs f - zs g := Ser.ext fun k => by rw [zs_co, Ser.sub_co, Ser.sub_co, zc_sub]; rfl
theorem zs_mulc : ∀ (k : Nat) (f g : Ser Int), (zc (Ser.mulc k f g) : Kp q) = Ser.mulc k (zs f) (zs g)
  | 0, f, g => by
    show (zc (f.co 0 * g.co 0) : Kp q) = zc (f.co 0) * zc (g.co 0)
    exact zc_mul _ _
  | k + 1, f, g => by
    show (zc (f.co 0 * g.co (k + 1) + Ser.mulc k f.tl g) : Kp q) = zc (f.co 0) * zc (g.co (k + 1)) + Ser.mulc k (zs f).tl (zs g)
    rw [zc_add, zc_mul, zs_mulc k f.tl g]; rfl
theorem zs_mul (f g : Ser Int) : (zs (f * g) : Ser (Kp q)) = zs f * zs g := Ser.ext fun k => zs_mulc k f g
theorem zs_C (c : Int) : (zs (Ser.C c) : Ser (Kp q)) = Ser.C (zc c) := Ser.ext fun k => by
  rw [zs_co, Ser.C_co, Ser.C_co]; split
  · rfl
  · exact zc_zero
theorem zs_xp (k : Nat) : (zs (xp k) : Ser (Kp q)) = xp k := Ser.ext fun j => by
  rw [zs_co, xp_co, xp_co]; split
  · exact zc_one
  · exact zc_zero
theorem zs_zero : (zs 0 : Ser (Kp q)) = 0 := Ser.ext fun k => by rw [zs_co, zero_co, zero_co]; exact zc_zero
theorem zs_one : (zs 1 : Ser (Kp q)) = 1 := Ser.ext fun k => by
  rw [zs_co, one_co, one_co]; split
  · exact zc_one
  · exact zc_zero
theorem zs_far {n : Nat} {f : Ser Int} (h : far n f) : far n (zs f : Ser (Kp q)) := fun k hk => by rw [zs_co, h k hk]; exact zc_zero
/-- within 0 .. q -/
def rg (q : Nat) (x : Int) : Prop := 0 ≤ x ∧ x < ((q + 1 : Nat) : Int)
/-- r is the row of f -/
structure Mo (f : Ser (Kp q)) (r : List Int) : Prop where
  dn : done r
  lt : ∀ x ∈ r, rg q x
  eq : zs (ser r) = f
theorem rg0 : rg q 0 := ⟨by omega, by omega⟩
theorem rg_get {r : List Int} (h : ∀ x ∈ r, rg q x) (k : Nat) : rg q (r.getD k 0) := by
  rw [List.getD_eq_getElem?_getD]
  by_cases hk : k < r.length
  · rw [List.getElem?_eq_getElem hk]; exact h _ (List.getElem_mem hk)
  · rw [List.getElem?_eq_none (by omega)]; exact rg0
theorem Mo.get {f : Ser (Kp q)} {r : List Int} (h : Mo f r) (k : Nat) : zc (r.getD k 0) = f.co k := by rw [← h.eq]; rfl
theorem Mo.uniq {f : Ser (Kp q)} {r r' : List Int} (h : Mo f r) (h' : Mo f r') : r = r' := done_uniq h.dn h'.dn (Ser.ext fun k => zc_inj (rg_get h.lt k) (rg_get h'.lt k) ((h.get k).trans (h'.get k).symm))
theorem Mo.inj {f g : Ser (Kp q)} {r : List Int} (h : Mo f r) (h' : Mo g r) : f = g := h.eq.symm.trans h'.eq
theorem Mo.cong {f g : Ser (Kp q)} {r : List Int} (h : Mo f r) (e : f = g) : Mo g r := e ▸ h
theorem Mo.nil : Mo (0 : Ser (Kp q)) [] := ⟨rfl, fun _ h => (nomatch h), by rw [ser_nil, zs_zero]⟩
theorem Mo.nil_iff {f : Ser (Kp q)} {r : List Int} (h : Mo f r) : f = 0 ↔ r = [] := ⟨fun e => (h.cong e).uniq Mo.nil, fun e => by subst e; exact h.inj Mo.nil⟩
theorem Mo.far {f : Ser (Kp q)} {r : List Int} (h : Mo f r) : RR.far r.length f := fun k hk => by rw [← h.get, getD_far hk, zc_zero]
theorem Mo.last {f : Ser (Kp q)} {r : List Int} (h : Mo f r) (n : r ≠ []) : f.co (r.length - 1) ≠ 0 := fun e => by
  rw [← h.get, ← zc_zero] at e
  exact done_last h.dn n (zc_inj (rg_get h.lt _) rg0 e)
theorem Mo.top {f : Ser (Kp q)} {r : List Int} (h : Mo f r) (n : r ≠ []) : RR.top (r.length - 1) f := ⟨by
  have := List.length_pos_iff.mpr n
  rw [show r.length - 1 + 1 = r.length by omega]
  exact h.far, h.last n⟩
/-- the row modulo q + 1 -/
def fmr (q : Nat) (xs : List Int) : List Int := xs.map fun x => x.fmod ((q + 1 : Nat) : Int)
theorem fmr_zs (xs : List Int) : (zs (ser (fmr q xs)) : Ser (Kp q)) = zs (ser xs) := Ser.ext fun k => by
  rw [zs_co, zs_co, ser_co, ser_co]
  unfold fmr
  rw [map_co (by simp), zc_fm]
theorem fmr_rg (xs : List Int) : ∀ x ∈ fmr q xs, rg q x := fun x hx => by
  obtain ⟨y, _, rfl⟩ := List.mem_map.mp hx
  exact fm_rg y
theorem Mo.of {f : Ser (Kp q)} {xs : List Int} {r : List Int} (h : R (ser xs) r) (l : ∀ x ∈ xs, rg q x) (e : zs (ser xs) = f) : Mo f r := by
  obtain rfl : r = strip xs := h.uniq (R.of rfl)
  exact ⟨strip_done xs, fun x hx => l x (strip_mem hx), by rw [ser_strip]; exact e⟩
/-- each number but nought has its power q - 1 for its inverse -/
def Fer (q : Nat) : Prop := 1 ≤ q ∧ ∀ x : Kp q, x ≠ 0 → x ^ (q - 1) * x = 1
theorem Fer.dom (h : Fer q) : Dom (Kp q) := fun a b e => by
  by_cases z : a = 0
  · exact .inl z
  · have := h.2 a z
    refine .inr ?_
    have e2 : a ^ (q - 1) * (a * b) = b := by rw [← Lean.Grind.Semiring.mul_assoc, this, Lean.Grind.Semiring.one_mul]
    rw [← e2, e, Lean.Grind.Semiring.mul_zero]
/-- by trial, in whole numbers -/
def ferB (q : Nat) : Bool := decide (1 ≤ q) && (List.range q).all fun x => decide ((x + 1) ^ (q - 1) * (x + 1) % (q + 1) = 1)
theorem zc_pow (a : Int) (n : Nat) : (zc (a ^ n) : Kp q) = zc a ^ n := by
  induction n with
  | zero => rw [Int.pow_zero, Lean.Grind.Semiring.pow_zero, zc_one]
  | succ n ih => rw [Int.pow_succ, Lean.Grind.Semiring.pow_succ, zc_mul, ih]
theorem ferB_ok (h : ferB q = true) : Fer q := by
  unfold ferB at h
  rw [Bool.and_eq_true, decide_eq_true_eq, List.all_eq_true] at h
  refine ⟨h.1, fun x x0 => ?_⟩
  obtain ⟨v, hv⟩ : ∃ v, x.val = v + 1 := ⟨x.val - 1, by
    have : x.val ≠ 0 := fun e => x0 (Fin.ext e)
    omega⟩
  have := of_decide_eq_true (h.2 v (List.mem_range.mpr (by have := x.isLt; omega)))
  rw [← zc_val x, ← zc_pow, ← zc_mul, ← zc_one, zc_ext, hv]
  have e : (((v + 1) ^ (q - 1) * (v + 1) % (q + 1) : Nat) : Int) = ((1 : Nat) : Int) := by rw [this]
  rw [Int.natCast_emod, Int.natCast_mul, Int.natCast_pow] at e
  rw [e]
  exact (Int.emod_eq_of_lt (by decide) (by omega)).symm
end
theorem fer2 : Fer 1 := ferB_ok (by decide +kernel)
theorem fer3 : Fer 2 := ferB_ok (by decide +kernel)
theorem fer5 : Fer 4 := ferB_ok (by decide +kernel)
theorem fer7 : Fer 6 := ferB_ok (by decide +kernel)
theorem fer11 : Fer 10 := ferB_ok (by decide +kernel)
theorem fer13 : Fer 12 := ferB_ok (by decide +kernel)
theorem fer97 : Fer 96 := ferB_ok (by decide +kernel)
theorem fer1009 : Fer 1008 := ferB_ok (by decide +kernel)
theorem fer9973 : Fer 9972 := ferB_ok (by decide +kernel)
end RR

/-! VMR: rows modulo a prime, reckoned -/
namespace RR
open PySem PySem.Spec PyProof.Rows L2
local macro_rules | `(tactic| walk_at "bd") => `(tactic| first | assumption | exact bd_lit (by decide) | (with_reducible refine bd_mul ?_ ?_ <;> walk_at "bd") | (with_reducible refine bd_add ?_ ?_ <;> walk_at "bd") | (with_reducible refine bd_sub ?_ ?_ <;> walk_at "bd") | (with_reducible refine bd_neg ?_ <;> walk_at "bd"))
local macro_rules | `(tactic| walk_at "s") => `(tactic| with_reducible first
  | refine v_then ?_ | refine v_set ?_ | (apply v_var; · with_unfolding_all exact rfl) | refine v_bin ?_ | refine v_c ?_ | refine v_g0 ?_ | refine v_add ?_ | refine v_cons ?_ | refine v_nil ?_ | refine v_call ?_ | refine v_dB ?_ | refine v_next ?_ | refine v_ret ?_
  | refine v_ite ?_ | refine v_tst ?_ | refine v_kT ?_ | refine v_eqi ?_ | refine v_nei ?_ | refine v_eqr ?_ | refine v_ner ?_ | refine v_eqr0 ?_ | refine v_ner0 ?_ | refine v_eql ?_ | refine v_nel ?_ | refine v_eql0 ?_ | refine v_nel0 ?_ | refine v_isN ?_ | refine v_notN ?_
  | (apply v_bor; · with_unfolding_all exact rfl) | (apply v_own; · with_unfolding_all exact rfl) | refine v_tup ?_ | refine v_lst ?_ | (refine v_sz ?_ ?_; (· with_unfolding_all exact Nat.le_of_ble_eq_true rfl)) | (refine v_gIIz ?_ ?_; (· first | decide | omega))
  | refine v_lentz ?_ | refine v_lenlz ?_ | refine v_lent ?_ | refine v_lenl ?_ | refine v_I1 ?_ | refine v_I2 ?_ | refine v_int ?_ | refine v_seqlz ?_ | refine v_seqtz ?_ | refine v_sl ?_ | refine v_kSll ?_ | refine v_kSlt ?_ | refine v_ono ?_ | refine v_oso ?_ | refine v_kOS ?_
  | refine v_val ?_ | refine v_kVb ?_ | refine v_kVi ?_ | refine v_kVt ?_ | refine v_kVl ?_ | refine v_and ?_ | refine v_or ?_ | refine v_not ?_ | refine v_yes ?_ | refine v_if' ?_ | refine v_isi ?_ | refine v_kIii ?_ | refine v_kIib ?_ | refine v_kItt ?_
  | refine v_andV ?_ | refine v_orV ?_ | refine v_notV ?_ | refine v_kNV ?_ | refine v_neg ?_ | refine v_kNeg ?_ | refine v_seq ?_ | refine v_kSeql ?_ | refine v_kSeqt ?_ | refine v_rng1 ?_ | refine v_rng2 ?_ | refine v_enum ?_ | refine v_revr ?_ | refine v_rev ?_
  | (refine v_kR1 ?_ ?_ ?_; (· decide); (· decide))
  | (refine v_kR2 ?_ ?_ ?_ ?_ ?_; (· decide); (· decide); (· decide); (· decide))
  | refine v_gn ?_ | refine v_gt2 ?_ | refine v_gt3 ?_ | refine v_lc ?_ | refine v_for ?_ | refine v_setO ?_ | refine v_drop ?_ | (apply v_app; · with_unfolding_all exact rfl) | (apply v_setI; · with_unfolding_all exact rfl) | (apply v_rel; · with_unfolding_all exact rfl) | refine v_raise ?_ | refine v_par ?_ | refine v_kP ?_ | refine v_asg ?_
  | (apply v_aug; · with_unfolding_all exact rfl) | refine v_ifT ?_ | refine v_ifF ?_ | (refine v_pow ?_ ?_ ?_ ?_; (· decide); (· decide); (· decide)) | refine v_call0 ?_ | (apply v_lenr; · assumption) | (apply v_seqr; · assumption) | (apply v_kSeqr; · assumption) | (apply v_kSlr; · assumption)
  | refine v_ix0 ?_ | refine v_ix1 ?_ | refine v_ix2 ?_ | refine v_zip ?_ | refine v_kZl ?_ | refine v_kZt ?_ | (apply v_augI; · with_unfolding_all exact rfl) | refine v_try ?_ | refine v_isE ?_ | (refine v_kIE ?_ ?_; (· with_unfolding_all exact rfl)) | refine v_isB ?_ | refine v_notB ?_ | refine v_all ?_ | refine v_par3 ?_ | refine v_ifnT ?_ | refine v_ifnF ?_ | refine v_eqs ?_ | refine v_nes ?_ | refine v_rvs ?_ | refine v_kRvl ?_ | refine v_kRvt ?_
  | (refine v_mulb (a := ?a) (b := ?b) ?ha ?hb ?l ?h; (case ha => assumption); (case hb => assumption); (case l => omega)) | (refine v_fdivb (b := ?b) ?h0 ?hb ?l ?h; (case h0 => assumption); (case hb => assumption); (case l => omega)))
theorem rg_bd {q : Nat} {x : Int} (hq : q ≤ 9999) (h : rg q x) : bd 20 x := by
  obtain ⟨a, b⟩ := h
  unfold bd; omega
def b_modrows_rest_row {M : Type} : DS M :=
    (dRet (dCall s__law_cut [] (dCons (dLc (dSeq true (dBor 0)) (dgN 2) dYes (dBin (gII Nz fun i j => .int (i.fmod j)) (dVar 2) (dVar 1)) [2]) dNil)))

def s_modrows_rest_row {M : Type} : DSp M := fun ds m Q Z => ∃ (q : Nat) (d : D) (xs : List Int), ds = [d, .int ((q + 1 : Nat) : Int)] ∧ isRow d xs ∧ xs.length ≤ 8000000 ∧ ∀ r, Mo (zs (ser xs) : Ser (Kp q)) r → Q (.tup (zz r)) m
theorem vc_modrows_rest_row {M : Type} : ∀ ds (m : M) Q Z, s_modrows_rest_row ds m Q Z → okK [true, false] ds ∧ b_modrows_rest_row { nx := fun _ m' => Q .non m', rt := Q, ex := Z } (st0 [true, false] ds 3) m := by
  rintro ds m Q Z ⟨q, d, xs, rfl, hd, hl, k⟩
  refine ⟨⟨fun h => (nomatch h), fun _ => rfl, trivial⟩, ?_⟩
  unfold b_modrows_rest_row
  have p0 : ((q + 1 : Nat) : Int) ≠ 0 := by omega
  repeat walk_at "s"
  refine lc_zz (f := fun x => x.fmod ((q + 1 : Nat) : Int)) xs (fun a ha m1 k l hk => ?_) (by omega) ?_
  · repeat walk_at "s"
    exact hk
  repeat walk_at "s"
  refine ⟨_, fmr q xs, rfl, isRow_l, by unfold fmr; rw [List.length_map]; omega, fun r hr => k r (Mo.of hr (fmr_rg xs) (fmr_zs xs))⟩
def b__law_rest {M : Type} : DS M :=
    (dRet (dCall s__law_cut [] (dCons (dLc (dSeq false (dVar 0)) (dgN 2) dYes (dBin (gII Nz fun i j => .int (i.fmod j)) (dVar 2) (dVar 1)) [2]) dNil)))

def s__law_rest {M : Type} : DSp M := fun ds m Q Z => ∃ (q : Nat) (xs : List Int), ds = [.tup (zz xs), .int ((q + 1 : Nat) : Int)] ∧ xs.length ≤ 8000000 ∧ ∀ r, Mo (zs (ser xs) : Ser (Kp q)) r → Q (.tup (zz r)) m
theorem vc__law_rest {M : Type} : ∀ ds (m : M) Q Z, s__law_rest ds m Q Z → okK [false, false] ds ∧ b__law_rest { nx := fun _ m' => Q .non m', rt := Q, ex := Z } (st0 [false, false] ds 3) m := by
  rintro ds m Q Z ⟨q, xs, rfl, hl, k⟩
  refine ⟨⟨fun _ => nl_row xs, fun _ => rfl, trivial⟩, ?_⟩
  unfold b__law_rest
  have p0 : ((q + 1 : Nat) : Int) ≠ 0 := by omega
  repeat walk_at "s"
  refine lc_zz (f := fun x => x.fmod ((q + 1 : Nat) : Int)) xs (fun a ha m1 k l hk => ?_) (by omega) ?_
  · repeat walk_at "s"
    exact hk
  repeat walk_at "s"
  refine ⟨_, fmr q xs, rfl, isRow_l, by unfold fmr; rw [List.length_map]; omega, fun r hr => k r (Mo.of hr (fmr_rg xs) (fmr_zs xs))⟩
def b_modrows_inverse {M : Type} : DS M :=
    (dThen (dSet 2 (dC (.int 1)))
    (dThen (dSet 3 (dBin (gII Nz fun i j => .int (i.fmod j)) (dVar 0) (dVar 1)))
    (dThen (dSet 4 (dBin (g0 fun i j => .int (i - j)) (dVar 1) (dC (.int 2))))
    (dThen (dWhile (dTst (dBin gGt (dVar 4) (dC (.int 0))))
      (dThen (dIte (dTst (dBin gEq (dBin (gII Nz fun i j => .int (i.fmod j)) (dVar 4) (dC (.int 2))) (dC (.int 1))))
      (dSet 2 (dBin (gII Nz fun i j => .int (i.fmod j)) (dBin gMul (dVar 2) (dVar 3)) (dVar 1)))
      dNext)
    (dThen (dSet 3 (dBin (gII Nz fun i j => .int (i.fmod j)) (dBin gMul (dVar 3) (dVar 3)) (dVar 1)))
    (dSet 4 (dBin (gII Nd fun i j => .int (i.fdiv j)) (dVar 4) (dC (.int 2)))))))
    (dRet (dVar 2))))))

def s_modrows_inverse {M : Type} : DSp M := fun ds m Q Z => ∃ (q : Nat) (a : Int), ds = [.int a, .int ((q + 1 : Nat) : Int)] ∧ Fer q ∧ q ≤ 9999 ∧ (zc a : Kp q) ≠ 0 ∧ ∀ u, rg q u → (zc u : Kp q) * zc a = 1 → Q (.int u) m
theorem sq_pow {K : Type} [Lean.Grind.CommRing K] (x : K) : ∀ k : Nat, (x * x) ^ k = x ^ (2 * k)
  | 0 => by rw [Nat.mul_zero, Lean.Grind.Semiring.pow_zero, Lean.Grind.Semiring.pow_zero]
  | k + 1 => by
    rw [Lean.Grind.Semiring.pow_succ, sq_pow x k, show 2 * (k + 1) = 2 * k + 1 + 1 by omega, Lean.Grind.Semiring.pow_succ, Lean.Grind.Semiring.pow_succ, Lean.Grind.Semiring.mul_assoc]
theorem vc_modrows_inverse {M : Type} : ∀ ds (m : M) Q Z, s_modrows_inverse ds m Q Z → okK [false, false] ds ∧ b_modrows_inverse { nx := fun _ m' => Q .non m', rt := Q, ex := Z } (st0 [false, false] ds 5) m := by
  rintro ds m Q Z ⟨q, a, rfl, hF, hq, a0, k⟩
  refine ⟨⟨fun _ => rfl, fun _ => rfl, trivial⟩, ?_⟩
  unfold b_modrows_inverse
  have q1 := hF.1
  have p0 : ((q + 1 : Nat) : Int) ≠ 0 := by omega
  repeat walk_at "s"
  refine v_while (fun j ρ m' => m' = m ∧ ∃ (l : Nat) (u b : Int), ρ = [.val (.int a), .val (.int ((q + 1 : Nat) : Int)), .val (.int u), .val (.int b), .val (.int l)] ∧ l = j ∧ rg q u ∧ rg q b ∧ (zc u : Kp q) * zc b ^ l = zc a ^ (q - 1)) _
    ⟨rfl, q - 1, 1, _, by rw [show ((q + 1 : Nat) : Int) - 2 = ((q - 1 : Nat) : Int) by omega]; rfl, rfl, ⟨by omega, by omega⟩, fm_rg a, by rw [zc_fm, zc_one, Lean.Grind.Semiring.one_mul]⟩ fun j ρ m' h => ?_
  obtain ⟨rfl, l, u, b, rfl, rfl, hu, hb, e⟩ := h
  have bu := rg_bd hq hu
  have bb := rg_bd hq hb
  have z2 : (2 : Int) ≠ 0 := by decide
  have b2 : bd 2 (2 : Int) := bd_lit (by decide)
  repeat walk_at "s"
  refine v_ifd (fun h => ?_) fun h => ?_
  · repeat walk_at "s"
    rw [show Int.fmod (l : Int) 2 = ((l % 2 : Nat) : Int) from fm_nat l 2]
    refine v_ifd (fun h1 => ?_) fun h1 => ?_
    · repeat walk_at "s"
      rw [show Int.fdiv (l : Int) 2 = ((l / 2 : Nat) : Int) from fd_nat l 2]
      refine ⟨l / 2, by omega, rfl, l / 2, _, _, rfl, rfl, fm_rg _, fm_rg _, ?_⟩
      rw [zc_fm, zc_fm, zc_mul, zc_mul, sq_pow, ← e, Lean.Grind.Semiring.mul_assoc]
      have : (zc b : Kp q) ^ l = zc b ^ (2 * (l / 2)) * zc b := by rw [← Lean.Grind.Semiring.pow_succ]; congr 1; omega
      rw [this]; grind
    · repeat walk_at "s"
      rw [show Int.fdiv (l : Int) 2 = ((l / 2 : Nat) : Int) from fd_nat l 2]
      refine ⟨l / 2, by omega, rfl, l / 2, _, _, rfl, rfl, hu, fm_rg _, ?_⟩
      rw [zc_fm, zc_mul, sq_pow, ← e]
      congr 2; omega
  · obtain rfl : l = 0 := by omega
    rw [Lean.Grind.Semiring.pow_zero, Lean.Grind.Semiring.mul_one] at e
    repeat walk_at "s"
    exact k u hu (by rw [e]; exact hF.2 _ a0)
def b_modrows_scaled_by {M : Type} : DS M :=
    (dRet (dCall s_modrows_rest_row [] (dCons (dLc (dSeq false (dVar 0)) (dgN 3) dYes (dBin gMul (dVar 1) (dVar 3)) [3]) (dCons (dVar 2) dNil))))

def s_modrows_scaled_by {M : Type} : DSp M := fun ds m Q Z => ∃ (q : Nat) (xs : List Int) (k : Int) (a b : Nat), ds = [.tup (zz xs), .int k, .int ((q + 1 : Nat) : Int)] ∧ xs.length ≤ 1000000 ∧ (∀ x ∈ xs, bd a x) ∧ bd b k ∧ a + b ≤ 1000000 ∧ ∀ r, Mo (Ser.C (zc k) * zs (ser xs) : Ser (Kp q)) r → Q (.tup (zz r)) m
theorem vc_modrows_scaled_by {M : Type} : ∀ ds (m : M) Q Z, s_modrows_scaled_by ds m Q Z → okK [false, false, false] ds ∧ b_modrows_scaled_by { nx := fun _ m' => Q .non m', rt := Q, ex := Z } (st0 [false, false, false] ds 4) m := by
  rintro ds m Q Z ⟨q, xs, k, a, b, rfl, hl, hx, hk, hab, c⟩
  refine ⟨⟨fun _ => nl_row xs, fun _ => rfl, fun _ => rfl, trivial⟩, ?_⟩
  unfold b_modrows_scaled_by
  repeat walk_at "s"
  refine lc_zz (f := fun x => k * x) xs (fun x hx' m1 k l hk => ?_) (by omega) ?_
  · have bx := hx x hx'
    repeat walk_at "s"
    exact hk
  repeat walk_at "s"
  refine ⟨q, _, _, rfl, isRow_l, by rw [List.length_map]; omega, fun r hr => c r (hr.cong ?_)⟩
  rw [ser_scale, zs_mul, zs_C]
def b_modrows_sum_by {M : Type} : DS M :=
    (dThen (dSetO 3 (dBin gMul (dLst (dCons (dC (.int 0)) dNil)) (dB (gI2 imax) (dCons (dB gLen (dCons (dVar 0) dNil)) (dCons (dB gLen (dCons (dVar 1) dNil)) dNil)))))
    (dThen (dFor (dSeq false (dTup (dCons (dVar 0) (dCons (dVar 1) dNil)))) (dgN 4)
      (dFor (dEnum false (dVar 4)) (dgT 2 (dgCons (dgN 5) (dgCons (dgN 6) dgNil)))
      (dSetI 3 (dBin gAdd (dBin (gIx true) (dOwn 3) (dVar 5)) (dVar 6)) (dVar 5))))
    (dRet (dCall s_modrows_rest_row [] (dCons (dOwn 3) (dCons (dVar 2) dNil))))))

def s_modrows_sum_by {M : Type} : DSp M := fun ds m Q Z => ∃ (q : Nat) (xs ys : List Int), ds = [.tup (zz xs), .tup (zz ys), .int ((q + 1 : Nat) : Int)] ∧ xs.length ≤ 1000000 ∧ ys.length ≤ 1000000 ∧ ∀ r, Mo (zs (ser xs) + zs (ser ys) : Ser (Kp q)) r → Q (.tup (zz r)) m
theorem nth_nat (xs : List Int) (i : Nat) : nth xs (i : Int) = xs.getD i 0 := rfl
theorem vc_modrows_sum_by {M : Type} : ∀ ds (m : M) Q Z, s_modrows_sum_by ds m Q Z → okK [false, false, false] ds ∧ b_modrows_sum_by { nx := fun _ m' => Q .non m', rt := Q, ex := Z } (st0 [false, false, false] ds 7) m := by
  rintro ds m Q Z ⟨q, xs, ys, rfl, hl, hl', c⟩
  refine ⟨⟨fun _ => nl_row xs, fun _ => nl_row ys, fun _ => rfl, trivial⟩, ?_⟩
  unfold b_modrows_sum_by
  repeat walk_at "s"
  rw [imax_eq]
  refine v_repl1 (by omega) (by omega) ?_
  refine v_kO (nls_ints _) ?_
  obtain ⟨n, hn⟩ : ∃ n, n = (max (xs.length : Int) ys.length).toNat := ⟨_, rfl⟩
  rw [← hn]
  have nx : xs.length ≤ n := by omega
  have ny : ys.length ≤ n := by omega
  repeat walk_at "s"
  refine v_kSeqT ?_
  refine v_kfor (fun its ρ m' => m' = m ∧ ∃ (cs : List Int) (a4 a5 a6 : Sl), ρ = [.val (.tup (zz xs)), .val (.tup (zz ys)), .val (.int ((q + 1 : Nat) : Int)), .own (zz cs), a4, a5, a6] ∧ cs.length = n ∧
      ((its = [.tup (zz xs), .tup (zz ys)] ∧ ser cs = 0) ∨ (its = [.tup (zz ys)] ∧ ser cs = ser xs) ∨ (its = [] ∧ ser cs = ser xs + ser ys))) ⟨rfl, _, _, _, _, rfl, by rw [List.length_replicate], .inl ⟨rfl, ser_zeros _⟩⟩ (fun ρ m' h => ?_) fun x r ρ m' h => ?_
  · obtain ⟨rfl, cs, a4, a5, a6, rfl, hc, h⟩ := h
    rcases h with ⟨h, _⟩ | ⟨h, _⟩ | ⟨_, h⟩
    · cases h
    · cases h
    repeat walk_at "s"
    refine ⟨q, _, cs, rfl, isRow_l, by omega, fun r hr => c r (hr.cong ?_)⟩
    rw [h, zs_add]
  · obtain ⟨rfl, cs, a4, a5, a6, rfl, hc, h⟩ := h
    obtain ⟨zs', ex, lz, nxt⟩ : ∃ us : List Int, x = .tup (zz us) ∧ us.length ≤ n ∧ ∀ cs' : List Int, ser cs' = ser cs + ser us → ((r = [.tup (zz xs), .tup (zz ys)] ∧ ser cs' = 0) ∨ (r = [.tup (zz ys)] ∧ ser cs' = ser xs) ∨ (r = [] ∧ ser cs' = ser xs + ser ys)) := by
      rcases h with ⟨h, e⟩ | ⟨h, e⟩ | ⟨h, _⟩
      · cases h
        exact ⟨xs, rfl, nx, fun cs' e' => .inr (.inl ⟨rfl, by rw [e', e]; grind⟩)⟩
      · cases h
        exact ⟨ys, rfl, ny, fun cs' e' => .inr (.inr ⟨rfl, by rw [e', e]⟩)⟩
      · cases h
    subst ex
    repeat walk_at "s"
    refine v_kforE (fun i l ρ m1 => m1 = m' ∧ ∃ (cs' : List Int) (a5 a6 : Sl), ρ = [.val (.tup (zz xs)), .val (.tup (zz ys)), .val (.int ((q + 1 : Nat) : Int)), .own (zz cs'), .val (.tup (zz zs')), a5, a6] ∧ cs'.length = n ∧ i + l.length = zs'.length ∧ ser cs' + xp i * ser l = ser cs + ser zs') zs'
      ⟨rfl, cs, _, _, rfl, hc, by omega, by rw [xp0]; grind⟩ (fun i ρ m1 h => ?_) fun i y l ρ m1 N h hN => ?_
    · obtain ⟨rfl, cs', _, _, rfl, hc', hi, e⟩ := h
      refine ⟨rfl, cs', _, _, _, rfl, hc', nxt cs' ?_⟩
      rw [ser_nil] at e
      rw [← e]; grind
    · obtain ⟨rfl, cs', _, _, rfl, hc', hi, e⟩ := h
      rw [List.length_cons] at hi
      repeat walk_at "s"
      refine v_ixl (by omega) (by omega) ?_
      repeat walk_at "s"
      refine v_kSIz (by omega) (by omega) ?_
      rw [Int.toNat_natCast, nth_nat]
      refine hN _ _ ⟨rfl, _, _, _, rfl, by rw [List.length_set]; exact hc', by omega, ?_⟩
      rw [ser_set (by omega), ← e, ser_cons, xp_add i 1, show cs'.getD i 0 + y - cs'.getD i 0 = y by omega]
      grind
def b_modrows_less_by {M : Type} : DS M :=
    (dRet (dCall s_modrows_sum_by [] (dCons (dVar 0) (dCons (dCall s_modrows_scaled_by [] (dCons (dVar 1) (dCons (dNeg (dC (.int 1))) (dCons (dVar 2) dNil)))) (dCons (dVar 2) dNil)))))

def s_modrows_less_by {M : Type} : DSp M := fun ds m Q Z => ∃ (q : Nat) (xs ys : List Int) (a : Nat), ds = [.tup (zz xs), .tup (zz ys), .int ((q + 1 : Nat) : Int)] ∧ xs.length ≤ 1000000 ∧ ys.length ≤ 1000000 ∧ (∀ y ∈ ys, bd a y) ∧ a ≤ 1000 ∧ ∀ r, Mo (zs (ser xs) - zs (ser ys) : Ser (Kp q)) r → Q (.tup (zz r)) m
theorem vc_modrows_less_by {M : Type} : ∀ ds (m : M) Q Z, s_modrows_less_by ds m Q Z → okK [false, false, false] ds ∧ b_modrows_less_by { nx := fun _ m' => Q .non m', rt := Q, ex := Z } (st0 [false, false, false] ds 3) m := by
  rintro ds m Q Z ⟨q, xs, ys, a, rfl, hl, hl', hy, ha, c⟩
  refine ⟨⟨fun _ => nl_row xs, fun _ => nl_row ys, fun _ => rfl, trivial⟩, ?_⟩
  unfold b_modrows_less_by
  repeat walk_at "s"
  refine ⟨q, ys, -1, a, 1, rfl, hl', hy, bd_lit (by decide), by omega, fun s hs => ?_⟩
  have ls : s.length ≤ ys.length := by
    by_cases e : s = []
    · subst e; simp
    · have := top_lt (hs.top e) (far_scale (zs_far (fun k hk => by rw [ser_co, getD_far hk] : far ys.length (ser ys))))
      omega
  repeat walk_at "s"
  refine ⟨q, xs, s, rfl, hl, by omega, fun r hr => c r (hr.cong ?_)⟩
  rw [hs.eq, zc_neg, zc_one, C_neg, C_one]; grind
end RR

/-! VMR2: products, quotients modulo a prime -/
namespace RR
open PySem PySem.Spec PyProof.Rows L2
local macro_rules | `(tactic| walk_at "bd") => `(tactic| first | assumption | exact bd_lit (by decide) | (with_reducible refine bd_mul ?_ ?_ <;> walk_at "bd") | (with_reducible refine bd_add ?_ ?_ <;> walk_at "bd") | (with_reducible refine bd_sub ?_ ?_ <;> walk_at "bd") | (with_reducible refine bd_neg ?_ <;> walk_at "bd"))
local macro_rules | `(tactic| walk_at "s") => `(tactic| with_reducible first
  | refine v_then ?_ | refine v_set ?_ | (apply v_var; · with_unfolding_all exact rfl) | refine v_bin ?_ | refine v_c ?_ | refine v_g0 ?_ | refine v_add ?_ | refine v_cons ?_ | refine v_nil ?_ | refine v_call ?_ | refine v_dB ?_ | refine v_next ?_ | refine v_ret ?_
  | refine v_ite ?_ | refine v_tst ?_ | refine v_kT ?_ | refine v_eqi ?_ | refine v_nei ?_ | refine v_eqr ?_ | refine v_ner ?_ | refine v_eqr0 ?_ | refine v_ner0 ?_ | refine v_eql ?_ | refine v_nel ?_ | refine v_eql0 ?_ | refine v_nel0 ?_ | refine v_isN ?_ | refine v_notN ?_
  | (apply v_bor; · with_unfolding_all exact rfl) | (apply v_own; · with_unfolding_all exact rfl) | refine v_tup ?_ | refine v_lst ?_ | (refine v_sz ?_ ?_; (· with_unfolding_all exact Nat.le_of_ble_eq_true rfl)) | (refine v_gIIz ?_ ?_; (· first | decide | omega))
  | refine v_lentz ?_ | refine v_lenlz ?_ | refine v_lent ?_ | refine v_lenl ?_ | refine v_I1 ?_ | refine v_I2 ?_ | refine v_int ?_ | refine v_seqlz ?_ | refine v_seqtz ?_ | refine v_sl ?_ | refine v_kSll ?_ | refine v_kSlt ?_ | refine v_ono ?_ | refine v_oso ?_ | refine v_kOS ?_
  | refine v_val ?_ | refine v_kVb ?_ | refine v_kVi ?_ | refine v_kVt ?_ | refine v_kVl ?_ | refine v_and ?_ | refine v_or ?_ | refine v_not ?_ | refine v_yes ?_ | refine v_if' ?_ | refine v_isi ?_ | refine v_kIii ?_ | refine v_kIib ?_ | refine v_kItt ?_
  | refine v_andV ?_ | refine v_orV ?_ | refine v_notV ?_ | refine v_kNV ?_ | refine v_neg ?_ | refine v_kNeg ?_ | refine v_seq ?_ | refine v_kSeql ?_ | refine v_kSeqt ?_ | refine v_rng1 ?_ | refine v_rng2 ?_ | refine v_enum ?_ | refine v_revr ?_ | refine v_rev ?_
  | (refine v_kR1 ?_ ?_ ?_; (· decide); (· decide))
  | (refine v_kR2 ?_ ?_ ?_ ?_ ?_; (· decide); (· decide); (· decide); (· decide))
  | refine v_gn ?_ | refine v_gt2 ?_ | refine v_gt3 ?_ | refine v_lc ?_ | refine v_for ?_ | refine v_setO ?_ | refine v_drop ?_ | (apply v_app; · with_unfolding_all exact rfl) | (apply v_setI; · with_unfolding_all exact rfl) | (apply v_rel; · with_unfolding_all exact rfl) | refine v_raise ?_ | refine v_par ?_ | refine v_kP ?_ | refine v_asg ?_
  | (apply v_aug; · with_unfolding_all exact rfl) | refine v_ifT ?_ | refine v_ifF ?_ | (refine v_pow ?_ ?_ ?_ ?_; (· decide); (· decide); (· decide)) | refine v_call0 ?_ | (apply v_lenr; · assumption) | (apply v_seqr; · assumption) | (apply v_kSeqr; · assumption) | (apply v_kSlr; · assumption)
  | refine v_ix0 ?_ | refine v_ix1 ?_ | refine v_ix2 ?_ | refine v_zip ?_ | refine v_kZl ?_ | refine v_kZt ?_ | (apply v_augI; · with_unfolding_all exact rfl) | refine v_try ?_ | refine v_isE ?_ | (refine v_kIE ?_ ?_; (· with_unfolding_all exact rfl)) | refine v_isB ?_ | refine v_notB ?_ | refine v_all ?_ | refine v_par3 ?_ | refine v_ifnT ?_ | refine v_ifnF ?_ | refine v_eqs ?_ | refine v_nes ?_ | refine v_rvs ?_ | refine v_kRvl ?_ | refine v_kRvt ?_
  | (refine v_mulb (a := ?a) (b := ?b) ?ha ?hb ?l ?h; (case ha => assumption); (case hb => assumption); (case l => omega)) | (refine v_fdivb (b := ?b) ?h0 ?hb ?l ?h; (case h0 => assumption); (case hb => assumption); (case l => omega)))
def b_modrows_product_by {M : Type} : DS M :=
    (dThen (dSetO 3 (dBin gMul (dLst (dCons (dC (.int 0)) dNil)) (dBin gAdd (dB gLen (dCons (dVar 0) dNil)) (dB gLen (dCons (dVar 1) dNil)))))
    (dThen (dFor (dEnum false (dVar 0)) (dgT 2 (dgCons (dgN 4) (dgCons (dgN 5) dgNil)))
      (dFor (dEnum false (dVar 1)) (dgT 2 (dgCons (dgN 6) (dgCons (dgN 7) dgNil)))
      (dSetI 3 (dBin gAdd (dBin (gIx true) (dOwn 3) (dBin gAdd (dVar 4) (dVar 6))) (dBin gMul (dVar 5) (dVar 7))) (dBin gAdd (dVar 4) (dVar 6)))))
    (dRet (dCall s_modrows_rest_row [] (dCons (dOwn 3) (dCons (dVar 2) dNil))))))

def s_modrows_product_by {M : Type} : DSp M := fun ds m Q Z => ∃ (q : Nat) (xs ys : List Int) (a b : Nat), ds = [.tup (zz xs), .tup (zz ys), .int ((q + 1 : Nat) : Int)] ∧ xs.length ≤ 1000000 ∧ ys.length ≤ 1000000 ∧ (∀ x ∈ xs, bd a x) ∧ (∀ y ∈ ys, bd b y) ∧ a + b ≤ 1000000 ∧ ∀ r, Mo (zs (ser xs) * zs (ser ys) : Ser (Kp q)) r → Q (.tup (zz r)) m
theorem vc_modrows_product_by {M : Type} : ∀ ds (m : M) Q Z, s_modrows_product_by ds m Q Z → okK [false, false, false] ds ∧ b_modrows_product_by { nx := fun _ m' => Q .non m', rt := Q, ex := Z } (st0 [false, false, false] ds 8) m := by
  rintro ds m Q Z ⟨q, xs, ys, a, b, rfl, h1, h2, ha, hb, hab, k⟩
  refine ⟨⟨fun _ => nl_row xs, fun _ => nl_row ys, fun _ => rfl, trivial⟩, ?_⟩
  unfold b_modrows_product_by
  repeat walk_at "s"
  refine v_repl1 (by omega) (by omega) ?_
  refine v_kO (nls_ints _) ?_
  repeat walk_at "s"
  refine v_kforE (fun i r ρ m' => m' = m ∧ ∃ cs a4 a5 a6 a7, ρ = [.val (.tup (zz xs)), .val (.tup (zz ys)), .val (.int ((q + 1 : Nat) : Int)), .own (zz cs), a4, a5, a6, a7] ∧ cs.length = xs.length + ys.length ∧ i + r.length = xs.length ∧ (∀ x ∈ r, bd a x) ∧ ser cs + xp i * ser r * ser ys = ser xs * ser ys) xs
    ⟨rfl, _, _, _, _, _, rfl, by rw [List.length_replicate]; omega, by omega, ha, by rw [ser_zeros, xp0]; grind⟩ (fun i ρ m' h => ?_) fun i x r ρ m' N h hN => ?_
  · obtain ⟨rfl, cs, _, _, _, _, rfl, hc, hi, _, e⟩ := h
    repeat walk_at "s"
    refine ⟨q, _, cs, rfl, isRow_l, by omega, fun s hs => k s (hs.cong ?_)⟩
    rw [ser_nil] at e
    rw [← zs_mul, ← e]; congr 1; grind
  · obtain ⟨rfl, cs, _, _, _, _, rfl, hc, hi, hx, e⟩ := h
    rw [List.length_cons] at hi
    have bx : bd a x := hx x List.mem_cons_self
    repeat walk_at "s"
    refine v_kforE (fun j r2 ρ m1 => m1 = m' ∧ ∃ cs a6 a7, ρ = [.val (.tup (zz xs)), .val (.tup (zz ys)), .val (.int ((q + 1 : Nat) : Int)), .own (zz cs), .val (.int i), .val (.int x), a6, a7] ∧ cs.length = xs.length + ys.length ∧ j + r2.length = ys.length ∧ (∀ y ∈ r2, bd b y) ∧
      ser cs + xp (i + j) * Ser.C x * ser r2 + xp (i + 1) * ser r * ser ys = ser xs * ser ys) ys ⟨rfl, _, _, _, rfl, hc, by omega, hb, by rw [← e, ser_cons, xp_add]; rw [xp_add, xp0]; grind⟩ (fun j ρ m1 h => ?_) fun j y r2 ρ m1 N2 h hN2 => ?_
    · obtain ⟨rfl, cs, _, _, rfl, hc, hj, _, e⟩ := h
      refine hN _ _ ⟨rfl, cs, _, _, _, _, rfl, hc, by omega, fun z hz => hx z (List.mem_cons_of_mem _ hz), ?_⟩
      rw [ser_nil] at e
      rw [← e]; grind
    · obtain ⟨rfl, cs, _, _, rfl, hc, hj, hy, e⟩ := h
      rw [List.length_cons] at hj
      have by_ : bd b y := hy y List.mem_cons_self
      have p0 : (0 : Int) ≤ (i : Int) + j := by omega
      have p1 : (i : Int) + j < cs.length := by omega
      repeat walk_at "s"
      refine v_ixl p0 p1 ?_
      repeat walk_at "s"
      refine v_kSIz p0 p1 ?_
      have et : ((i : Int) + j).toNat = i + j := by omega
      rw [et, show nth cs ((i : Int) + j) = cs.getD (i + j) 0 by unfold nth; rw [et]]
      exact hN2 _ _ ⟨rfl, _, _, _, rfl, by rw [List.length_set]; exact hc, by omega, fun z hz => hy z (List.mem_cons_of_mem _ hz), prod_ser (by omega) rfl e⟩
theorem R_len {xs r : List Int} (h : R (ser xs) r) : r.length ≤ xs.length := by
  obtain rfl : r = strip xs := h.uniq (R.of rfl)
  exact strip_len xs
/-- taking so much of g off of the rest makes its place n nought -/
theorem take_off {q n a : Nat} {f g : Ser (Kp q)} {rs rs' : List Int} {t b : Int} (rr : ∀ x ∈ rs', rg q x) (hg : far n g) (n0 : 0 < n) (hi : ∀ k, a + 1 + n ≤ k + 1 → rs.getD k 0 = 0) (hb : (zc b : Kp q) * g.co (n - 1) = 1)
    (ht : (zc t : Kp q) = zc (rs.getD (a + n - 1) 0) * zc b) (e : zs (ser rs') + Ser.C (zc t) * xp a * g = zs (ser rs)) : ∀ k, a + n ≤ k + 1 → rs'.getD k 0 = 0 := fun k hk => by
  refine zc_inj (rg_get rr k) rg0 ?_
  rw [zc_zero]
  have := congrArg (fun f => Ser.co f k) e
  rw [show Ser.C (zc t) * xp a * g = Ser.C (zc t) * (xp a * g) by grind] at this
  simp only [Ser.add_co, Ser.C_mul_co, xp_mul_co, zs_co, ser_co] at this
  rw [if_pos (by omega)] at this
  by_cases z : k = a + n - 1
  · subst z
    rw [show a + n - 1 - a = n - 1 by omega, ht, Lean.Grind.Semiring.mul_assoc, hb] at this
    grind
  · rw [hi k (by omega), hg (k - a) (by omega), zc_zero] at this
    grind
def b_modrows_parted_by {M : Type} : DS M :=
    (dThen (dSet 3 (dCall s_modrows_inverse [] (dCons (dBin (gIx false) (dVar 1) (dNeg (dC (.int 1)))) (dCons (dVar 2) dNil))))
    (dThen (dSetO 4 (dB (gSeq .lst) (dCons (dVar 0) dNil)))
    (dThen (dSetO 5 (dBin gMul (dLst (dCons (dC (.int 0)) dNil)) (dB (gI2 imax) (dCons (dC (.int 0)) (dCons (dBin gAdd (dBin (g0 fun i j => .int (i - j)) (dB gLen (dCons (dVar 0) dNil)) (dB gLen (dCons (dVar 1) dNil))) (dC (.int 1))) dNil)))))
    (dThen (dFor (dRevR (dB gLen (dCons (dOwn 5) dNil))) (dgN 6)
      (dThen (dSet 7 (dBin (gII Nz fun i j => .int (i.fmod j)) (dBin gMul (dBin (gIx true) (dOwn 4) (dBin (g0 fun i j => .int (i - j)) (dBin gAdd (dVar 6) (dB gLen (dCons (dVar 1) dNil))) (dC (.int 1)))) (dVar 3)) (dVar 2)))
    (dThen (dSetI 5 (dVar 7) (dVar 6))
    (dFor (dEnum false (dVar 1)) (dgT 2 (dgCons (dgN 8) (dgCons (dgN 9) dgNil)))
      (dSetI 4 (dBin (gII Nz fun i j => .int (i.fmod j)) (dBin (g0 fun i j => .int (i - j)) (dBin (gIx true) (dOwn 4) (dBin gAdd (dVar 6) (dVar 8))) (dBin gMul (dVar 7) (dVar 9))) (dVar 2)) (dBin gAdd (dVar 6) (dVar 8)))))))
    (dRet (dTup (dCons (dCall s__law_cut [] (dCons (dOwn 5) dNil)) (dCons (dCall s__law_cut [] (dCons (dOwn 4) dNil)) dNil))))))))

def s_modrows_parted_by {M : Type} : DSp M := fun ds m Q Z => ∃ (q : Nat) (f g : Ser (Kp q)) (F G : List Int), ds = [.tup (zz F), .tup (zz G), .int ((q + 1 : Nat) : Int)] ∧ Fer q ∧ q ≤ 9999 ∧ Mo f F ∧ Mo g G ∧ G ≠ [] ∧ F.length ≤ 100000 ∧ G.length ≤ 100000 ∧
  ∀ (u v : List Int) (a r : Ser (Kp q)), Mo a u → Mo r v → f = a * g + r → far (G.length - 1) r → u.length ≤ F.length → v.length ≤ F.length → Q (.tup [.tup (zz u), .tup (zz v)]) m
theorem vc_modrows_parted_by {M : Type} : ∀ ds (m : M) Q Z, s_modrows_parted_by ds m Q Z → okK [false, false, false] ds ∧ b_modrows_parted_by { nx := fun _ m' => Q .non m', rt := Q, ex := Z } (st0 [false, false, false] ds 10) m := by
  rintro ds m Q Z ⟨q, f, g, F, G, rfl, hF, hq, hf, hg, G0, lF, lG, k⟩
  refine ⟨⟨fun _ => nl_row F, fun _ => nl_row G, fun _ => rfl, trivial⟩, ?_⟩
  unfold b_modrows_parted_by
  have g1 := List.length_pos_iff.mpr G0
  have p0 : ((q + 1 : Nat) : Int) ≠ 0 := by omega
  repeat walk_at "s"
  refine v_ixm G0 ?_
  repeat walk_at "s"
  refine ⟨q, _, rfl, hF, hq, by rw [hg.get]; exact hg.last G0, fun b rb hb => ?_⟩
  have hb : (zc b : Kp q) * g.co (G.length - 1) = 1 := by rw [← hg.get]; exact hb
  have bb := rg_bd hq rb
  repeat walk_at "s"
  refine v_kO (nls_ints _) ?_
  obtain ⟨mn, hmn⟩ : ∃ mn : Nat, mn = F.length + 1 - G.length := ⟨_, rfl⟩
  have emn : imax 0 ((F.length : Int) - G.length + 1) = mn := by rw [imax_eq]; omega
  repeat walk_at "s"
  rw [emn]
  refine v_repl1 (by omega) (by omega) ?_
  rw [Int.toNat_natCast]
  refine v_kO (nls_ints _) ?_
  repeat walk_at "s"
  rw [List.length_replicate]
  refine v_kRR (by omega) (by omega) ?_
  rw [Int.toNat_natCast]
  refine v_kforRR mn (fun i ρ m1 => m1 = m ∧ ∃ (rs ws : List Int) (a6 a7 a8 a9 : Sl), ρ = [.val (.tup (zz F)), .val (.tup (zz G)), .val (.int ((q + 1 : Nat) : Int)), .val (.int b), .own (zz rs), .own (zz ws), a6, a7, a8, a9] ∧ i ≤ mn ∧
      rs.length = F.length ∧ ws.length = mn ∧ (∀ x ∈ rs, rg q x) ∧ (∀ x ∈ ws, rg q x) ∧ zs (ser rs) + zs (ser ws) * g = f ∧ (∀ j, j < i → ws.getD j 0 = 0) ∧ (∀ k, i + G.length ≤ k + 1 → rs.getD k 0 = 0))
    ⟨rfl, _, _, _, _, _, _, rfl, Nat.le_refl _, rfl, by rw [List.length_replicate], hf.lt, fun x hx => by rw [List.eq_of_mem_replicate hx]; exact rg0, by rw [ser_zeros, zs_zero, hf.eq]; grind, fun j _ => ?_, fun k hk => getD_far (by omega)⟩ (fun ρ m1 h => ?_) fun i ρ m1 hi h => ?_
  · have := congrArg (fun f => Ser.co f j) (ser_zeros mn)
    rw [ser_co, zero_co] at this
    exact this
  · obtain ⟨rfl, rs, ws, _, _, _, _, rfl, _, lr, lw, gr, gw, e, _, hi⟩ := h
    repeat walk_at "s"
    refine ⟨_, ws, rfl, isRow_l, by omega, fun u hu => ?_⟩
    repeat walk_at "s"
    refine ⟨_, rs, rfl, isRow_l, by omega, fun v hv => ?_⟩
    repeat walk_at "s"
    refine k u v _ _ (Mo.of hu gw rfl) (Mo.of hv gr rfl) (by rw [← e]; grind) (zs_far fun j hj => ?_) (by have := R_len hu; omega) (by have := R_len hv; omega)
    rw [ser_co]
    exact hi j (by omega)
  · obtain ⟨rfl, rs, ws, _, _, _, _, rfl, hi', lr, lw, gr, gw, e, zw, hz⟩ := h
    have k0 : (0 : Int) ≤ (i : Int) + G.length - 1 := by omega
    have k1 : (i : Int) + G.length - 1 < rs.length := by rw [lr]; omega
    have et0 : ((i : Int) + G.length - 1).toNat = i + G.length - 1 := by omega
    repeat walk_at "s"
    refine v_ixl k0 k1 ?_
    have bn := rg_bd hq (rg_get gr (i + G.length - 1))
    rw [show nth rs ((i : Int) + G.length - 1) = rs.getD (i + G.length - 1) 0 by unfold nth; rw [et0]]
    repeat walk_at "s"
    obtain ⟨t, ht⟩ : ∃ t, t = Int.fmod (rs.getD (i + G.length - 1) 0 * b) ((q + 1 : Nat) : Int) := ⟨_, rfl⟩
    rw [← ht]
    have gt : rg q t := ht ▸ fm_rg _
    have bt := rg_bd hq gt
    have zt : (zc t : Kp q) = zc (rs.getD (i + G.length - 1) 0) * zc b := by rw [ht, zc_fm, zc_mul]
    repeat walk_at "s"
    refine v_kSIz (by omega) (by omega) ?_
    rw [Int.toNat_natCast]
    repeat walk_at "s"
    refine v_kforE (fun j r2 ρ m2 => m2 = m1 ∧ ∃ (rs' : List Int) (a8 a9 : Sl), ρ = [.val (.tup (zz F)), .val (.tup (zz G)), .val (.int ((q + 1 : Nat) : Int)), .val (.int b), .own (zz rs'), .own (zz (ws.set i t)), .val (.int i), .val (.int t), a8, a9] ∧
        rs'.length = F.length ∧ j + r2.length = G.length ∧ (∀ y ∈ r2, rg q y) ∧ (∀ x ∈ rs', rg q x) ∧ zs (ser rs') + Ser.C (zc t) * xp i * g = zs (ser rs) + Ser.C (zc t) * xp (i + j) * zs (ser r2)) G ⟨rfl, _, _, _, rfl, lr, by omega, hg.lt, gr, by rw [Nat.add_zero i, hg.eq]⟩ (fun j ρ m2 h => ?_) fun j y r2 ρ m2 N2 h hN2 => ?_
    · obtain ⟨rfl, rs', _, _, rfl, lr', hj, _, gr', e2⟩ := h
      rw [ser_nil, zs_zero] at e2
      have e2 : zs (ser rs') + Ser.C (zc t) * xp i * g = zs (ser rs) := by rw [e2]; grind
      have wz : ws.getD i 0 = 0 := zw i (by omega)
      refine ⟨rfl, rs', _, _, _, _, _, rfl, by omega, lr', by rw [List.length_set]; exact lw, gr', fun x hx => ?_, ?_, fun j hj => ?_, take_off (f := f) gr' hg.far g1 hz hb zt e2⟩
      · rcases List.mem_or_eq_of_mem_set hx with h | rfl
        · exact gw x h
        · exact gt
      · rw [ser_set (by omega), wz, show t - 0 = t by omega, zs_add, zs_mul, zs_C, zs_xp, ← e, ← e2]; grind
      · rw [List.getD_eq_getElem?_getD, List.getElem?_set_ne (by omega), ← List.getD_eq_getElem?_getD]
        exact zw j (by omega)
    · obtain ⟨rfl, rs', _, _, rfl, lr', hj, hy, gr', e2⟩ := h
      rw [List.length_cons] at hj
      have by_ := rg_bd hq (hy y List.mem_cons_self)
      have s0 : (0 : Int) ≤ (i : Int) + j := by omega
      have s1 : (i : Int) + j < rs'.length := by rw [lr']; omega
      have et : ((i : Int) + j).toNat = i + j := by omega
      repeat walk_at "s"
      refine v_ixl s0 s1 ?_
      rw [show nth rs' ((i : Int) + j) = rs'.getD (i + j) 0 by unfold nth; rw [et]]
      repeat walk_at "s"
      refine v_kSIz s0 s1 ?_
      rw [et]
      refine hN2 _ _ ⟨rfl, _, _, _, rfl, by rw [List.length_set]; exact lr', by omega, fun z hz => hy z (List.mem_cons_of_mem _ hz), fun x hx => ?_, ?_⟩
      · rcases List.mem_or_eq_of_mem_set hx with h | rfl
        · exact gr' x h
        · exact fm_rg _
      · rw [ser_set (by omega), zs_add, zs_mul, zs_C, zs_xp, zc_sub, zc_fm, zc_sub, zc_mul, C_sub, C_sub, C_mul]
        rw [ser_cons, zs_add, zs_mul, zs_C, zs_xp] at e2
        rw [← Nat.add_assoc, xp_add (i + j) 1]
        grind
def b__law_is_modrow {M : Type} : DS M :=
    (dThen (dIte (dOr (dNot (dVal (dIsi "tuple" (dVar 0)))) (dTst (dBin gNe (dVar 0) (dCall s__law_cut [] (dCons (dVar 0) dNil)))))
      (dRet (dC (.bl false)))
      dNext)
    (dRet (dB gAll (dCons (dLc (dSeq false (dVar 0)) (dgN 2) dYes (dAndV (dIsi "int" (dVar 2)) (dAndV (dNotV (dIsi "bool" (dVar 2))) (dChain gLe gLt (dC (.int 0)) (dVar 2) (dVar 1)))) [2]) dNil))))

def s__law_is_modrow {M : Type} : DSp M := fun ds m Q Z => ∃ (q : Nat) (r : List Int), ds = [.tup (zz r), .int ((q + 1 : Nat) : Int)] ∧ done r ∧ (∀ x ∈ r, rg q x) ∧ r.length ≤ 1000000 ∧ Q (.bl true) m
theorem vc__law_is_modrow {M : Type} : ∀ ds (m : M) Q Z, s__law_is_modrow ds m Q Z → okK [false, false] ds ∧ b__law_is_modrow { nx := fun _ m' => Q .non m', rt := Q, ex := Z } (st0 [false, false] ds 3) m := by
  rintro ds m Q Z ⟨q, r, rfl, dn, gr, hl, k⟩
  refine ⟨⟨fun _ => nl_row r, fun _ => rfl, trivial⟩, ?_⟩
  unfold b__law_is_modrow
  repeat walk_at "s"
  refine ⟨_, r, rfl, isRow_t, by omega, fun s hs => ?_⟩
  obtain rfl := hs.uniq ⟨dn, rfl⟩
  repeat walk_at "s"
  rw [decide_eq_true rfl]
  repeat walk_at "s"
  try ((with_reducible show @ite _ _ _ _ _); refine v_ifF ?_)
  repeat walk_at "s"
  refine lc_zd (f := fun _ => .bl true) s (fun a ha m1 K l hk => ?_) (by omega) ?_
  · have ga := gr a ha
    repeat walk_at "s"
    refine v_kAV (fun _ => ?_) fun h => absurd h (by decide)
    repeat walk_at "s"
    refine v_kAV (fun _ => ?_) fun h => absurd h (by decide)
    refine v_chain ?_
    repeat walk_at "s"
    refine v_chb (fun _ => ?_) fun h => absurd ga.1 (of_decide_eq_false h)
    repeat walk_at "s"
    rw [decide_eq_true ga.2]
    exact hk
  repeat walk_at "s"
  rw [show s.map (fun _ => D.bl true) = (s.map fun _ => true).map D.bl from by rw [List.map_map]; rfl]
  refine v_all ?_
  rw [show (s.map fun _ => true).all id = true from List.all_eq_true.mpr fun x hx => by obtain ⟨_, _, rfl⟩ := List.mem_map.mp hx; rfl]
  exact k
end RR

/-! VMR3: common parts modulo a prime -/
namespace RR
open PySem PySem.Spec PyProof.Rows L2
local macro_rules | `(tactic| walk_at "bd") => `(tactic| first | assumption | exact bd_lit (by decide) | (with_reducible refine bd_mul ?_ ?_ <;> walk_at "bd") | (with_reducible refine bd_add ?_ ?_ <;> walk_at "bd") | (with_reducible refine bd_sub ?_ ?_ <;> walk_at "bd") | (with_reducible refine bd_neg ?_ <;> walk_at "bd"))
local macro_rules | `(tactic| walk_at "s") => `(tactic| with_reducible first
  | refine v_then ?_ | refine v_set ?_ | (apply v_var; · with_unfolding_all exact rfl) | refine v_bin ?_ | refine v_c ?_ | refine v_g0 ?_ | refine v_add ?_ | refine v_cons ?_ | refine v_nil ?_ | refine v_call ?_ | refine v_dB ?_ | refine v_next ?_ | refine v_ret ?_
  | refine v_ite ?_ | refine v_tst ?_ | refine v_kT ?_ | refine v_eqi ?_ | refine v_nei ?_ | refine v_eqr ?_ | refine v_ner ?_ | refine v_eqr0 ?_ | refine v_ner0 ?_ | refine v_eql ?_ | refine v_nel ?_ | refine v_eql0 ?_ | refine v_nel0 ?_ | refine v_isN ?_ | refine v_notN ?_
  | (apply v_bor; · with_unfolding_all exact rfl) | (apply v_own; · with_unfolding_all exact rfl) | refine v_tup ?_ | refine v_lst ?_ | (refine v_sz ?_ ?_; (· with_unfolding_all exact Nat.le_of_ble_eq_true rfl)) | (refine v_gIIz ?_ ?_; (· first | decide | omega))
  | refine v_lentz ?_ | refine v_lenlz ?_ | refine v_lent ?_ | refine v_lenl ?_ | refine v_I1 ?_ | refine v_I2 ?_ | refine v_int ?_ | refine v_seqlz ?_ | refine v_seqtz ?_ | refine v_sl ?_ | refine v_kSll ?_ | refine v_kSlt ?_ | refine v_ono ?_ | refine v_oso ?_ | refine v_kOS ?_
  | refine v_val ?_ | refine v_kVb ?_ | refine v_kVi ?_ | refine v_kVt ?_ | refine v_kVl ?_ | refine v_and ?_ | refine v_or ?_ | refine v_not ?_ | refine v_yes ?_ | refine v_if' ?_ | refine v_isi ?_ | refine v_kIii ?_ | refine v_kIib ?_ | refine v_kItt ?_
  | refine v_andV ?_ | refine v_orV ?_ | refine v_notV ?_ | refine v_kNV ?_ | refine v_neg ?_ | refine v_kNeg ?_ | refine v_seq ?_ | refine v_kSeql ?_ | refine v_kSeqt ?_ | refine v_rng1 ?_ | refine v_rng2 ?_ | refine v_enum ?_ | refine v_revr ?_ | refine v_rev ?_
  | (refine v_kR1 ?_ ?_ ?_; (· decide); (· decide))
  | (refine v_kR2 ?_ ?_ ?_ ?_ ?_; (· decide); (· decide); (· decide); (· decide))
  | refine v_gn ?_ | refine v_gt2 ?_ | refine v_gt3 ?_ | refine v_lc ?_ | refine v_for ?_ | refine v_setO ?_ | refine v_drop ?_ | (apply v_app; · with_unfolding_all exact rfl) | (apply v_setI; · with_unfolding_all exact rfl) | (apply v_rel; · with_unfolding_all exact rfl) | refine v_raise ?_ | refine v_par ?_ | refine v_kP ?_ | refine v_asg ?_
  | (apply v_aug; · with_unfolding_all exact rfl) | refine v_ifT ?_ | refine v_ifF ?_ | (refine v_pow ?_ ?_ ?_ ?_; (· decide); (· decide); (· decide)) | refine v_call0 ?_ | (apply v_lenr; · assumption) | (apply v_seqr; · assumption) | (apply v_kSeqr; · assumption) | (apply v_kSlr; · assumption)
  | refine v_ix0 ?_ | refine v_ix1 ?_ | refine v_ix2 ?_ | refine v_zip ?_ | refine v_kZl ?_ | refine v_kZt ?_ | (apply v_augI; · with_unfolding_all exact rfl) | refine v_try ?_ | refine v_isE ?_ | (refine v_kIE ?_ ?_; (· with_unfolding_all exact rfl)) | refine v_isB ?_ | refine v_notB ?_ | refine v_all ?_ | refine v_par3 ?_ | refine v_ifnT ?_ | refine v_ifnF ?_ | refine v_eqs ?_ | refine v_nes ?_ | refine v_rvs ?_ | refine v_kRvl ?_ | refine v_kRvt ?_
  | (refine v_mulb (a := ?a) (b := ?b) ?ha ?hb ?l ?h; (case ha => assumption); (case hb => assumption); (case l => omega)) | (refine v_fdivb (b := ?b) ?h0 ?hb ?l ?h; (case h0 => assumption); (case hb => assumption); (case l => omega)))
section
variable {M : Type} {ρ : En} {QL : List D → M → Prop} {tt : DTT M} {t : DT M} {m : M}
theorem lc_cons {g : DG} {x : D} {r acc : List D} (h : g x ρ fun ρ2 => tt ρ2 m (fun b m1 => if b = true then t ρ2 m1 (fun y m2 => acc.length < sizeLine ∧ lcGo g tt t ρ r (acc ++ [y]) m2 QL) (fun _ _ => False) else lcGo g tt t ρ r acc m1 QL) (fun _ _ => False)) : lcGo g tt t ρ (x :: r) acc m QL := h
theorem lc_end {g : DG} {acc : List D} (h : QL acc m) : lcGo g tt t ρ [] acc m QL := h
end
/-! ### the law's own inverse and rest -/
def b__law_back {M : Type} : DS M :=
    (dThen (dPar 2 3 (dCons (dVar 0) (dCons (dVar 1) dNil)))
    (dThen (dSet 4 (dLst (dCons (dC (.int 1)) (dCons (dC (.int 0)) dNil))))
    (dThen (dWhile (dTst (dBin gGt (dVar 3) (dC (.int 0))))
      (dThen (dSet 4 (dLst (dCons (dBin (gIx false) (dVar 4) (dC (.int 1))) (dCons (dBin (g0 fun i j => .int (i - j)) (dBin (gIx false) (dVar 4) (dC (.int 0))) (dBin gMul (dBin (gII Nd fun i j => .int (i.fdiv j)) (dVar 2) (dVar 3)) (dBin (gIx false) (dVar 4) (dC (.int 1))))) dNil))))
    (dPar 2 3 (dCons (dVar 3) (dCons (dBin (gII Nz fun i j => .int (i.fmod j)) (dVar 2) (dVar 3)) dNil)))))
    (dRet (dBin (gII Nz fun i j => .int (i.fmod j)) (dBin (gIx false) (dVar 4) (dC (.int 0))) (dVar 1))))))

def s__law_back {M : Type} : DSp M := fun ds m Q Z => ∃ (q : Nat) (a : Int), ds = [.int a, .int ((q + 1 : Nat) : Int)] ∧ Fer q ∧ q ≤ 9999 ∧ rg q a ∧ (zc a : Kp q) ≠ 0 ∧ ∀ u, rg q u → (zc u : Kp q) * zc a = 1 → Q (.int u) m
theorem fer_gcd {q a : Nat} (hF : Fer q) (a0 : (zc (a : Int) : Kp q) ≠ 0) : Nat.gcd a (q + 1) = 1 := by
  obtain ⟨w, hw⟩ : ∃ w : Kp q, w * zc (a : Int) = 1 := ⟨_, hF.2 _ a0⟩
  rw [← zc_val w, ← zc_mul, ← zc_one, zc_ext] at hw
  have d1 : ((Nat.gcd a (q + 1) : Nat) : Int) ∣ (w.val : Int) * (a : Int) := Int.dvd_trans (Int.ofNat_dvd.mpr (Nat.gcd_dvd_left ..)) (Int.dvd_mul_left ..)
  have d2 : ((Nat.gcd a (q + 1) : Nat) : Int) ∣ ((q + 1 : Nat) : Int) := Int.ofNat_dvd.mpr (Nat.gcd_dvd_right ..)
  have d3 : ((q + 1 : Nat) : Int) ∣ (w.val : Int) * (a : Int) - 1 := Int.dvd_of_emod_eq_zero (Int.emod_eq_emod_iff_emod_sub_eq_zero.mp hw)
  have d4 : ((Nat.gcd a (q + 1) : Nat) : Int) ∣ 1 := by
    have := Int.dvd_sub d1 (Int.dvd_trans d2 d3)
    rwa [show (w.val : Int) * (a : Int) - ((w.val : Int) * (a : Int) - 1) = 1 by omega] at this
  exact Nat.dvd_one.mp (Int.ofNat_dvd.mp d4)
theorem vc__law_back {M : Type} : ∀ ds (m : M) Q Z, s__law_back ds m Q Z → okK [false, false] ds ∧ b__law_back { nx := fun _ m' => Q .non m', rt := Q, ex := Z } (st0 [false, false] ds 5) m := by
  rintro ds m Q Z ⟨q, a, rfl, hF, hq, ga, a0, k⟩
  refine ⟨⟨fun _ => rfl, fun _ => rfl, trivial⟩, ?_⟩
  obtain ⟨n, rfl⟩ := Int.eq_ofNat_of_zero_le ga.1
  have gn := ga.2
  unfold b__law_back
  repeat walk_at "s"
  refine v_while (fun j ρ m' => m' = m ∧ ∃ (A B : Nat) (x y : Int), ρ = [.val (.int n), .val (.int ((q + 1 : Nat) : Int)), .val (.int A), .val (.int B), .val (.lst (zz [x, y]))] ∧ B = j ∧ A ≤ q + 1 ∧ B ≤ q + 1 ∧
    (zc (A : Int) : Kp q) = zc x * zc (n : Int) ∧ (zc (B : Int) : Kp q) = zc y * zc (n : Int) ∧ Nat.gcd A B = Nat.gcd n (q + 1) ∧ x.natAbs * B + y.natAbs * A ≤ q + 1 ∧ x.natAbs ≤ q + 1 ∧ y.natAbs ≤ q + 1) _
    ⟨rfl, n, q + 1, 1, 0, rfl, rfl, by omega, Nat.le_refl _, by rw [zc_one, Lean.Grind.Semiring.one_mul], by rw [zc_zero, Lean.Grind.Semiring.zero_mul, zc_eq0]; exact Int.emod_self, rfl, by simp, by simp, by simp⟩ fun j ρ m' h => ?_
  obtain ⟨rfl, A, B, x, y, rfl, rfl, hA, hB, eA, eB, eg, i1, bx, by_⟩ := h
  repeat walk_at "s"
  refine v_ifd (fun h => ?_) fun h => ?_
  · have hB0 : 0 < B := by omega
    have B0 : (B : Int) ≠ 0 := by omega
    have bB : bd 20 (B : Int) := by unfold bd; rw [Int.natAbs_natCast]; omega
    have bY : bd 20 y := by unfold bd; omega
    repeat walk_at "s"
    refine v_ixl (by decide) (by simp) ?_
    rw [show nth [x, y] 1 = y from rfl]
    repeat walk_at "s"
    refine v_ixl (by decide) (by simp) ?_
    rw [show nth [x, y] 0 = x from rfl]
    repeat walk_at "s"
    rw [fd_nat]
    repeat walk_at "s"
    refine v_ixl (by decide) (by simp) ?_
    rw [show nth [x, y] 1 = y from rfl]
    have hqq : A / B ≤ A := Nat.div_le_self ..
    have bq : bd 20 ((A / B : Nat) : Int) := by unfold bd; rw [Int.natAbs_natCast]; omega
    repeat walk_at "s"
    rw [fm_nat]
    have am : (A : Int) - ((A / B : Nat) : Int) * B = ((A % B : Nat) : Int) := by
      have e : ((B * (A / B) + A % B : Nat) : Int) = A := by rw [Nat.div_add_mod]
      rw [Int.natCast_add, Int.natCast_mul] at e
      rw [← e]; grind
    have nb : (x - ((A / B : Nat) : Int) * y).natAbs ≤ x.natAbs + A / B * y.natAbs := by
      refine Nat.le_trans (Int.natAbs_sub_le _ _) ?_
      rw [Int.natAbs_mul, Int.natAbs_natCast]
      exact Nat.le_refl _
    obtain ⟨p1, p2⟩ := mult_step hB0 i1 nb
    have lt := Nat.mod_lt A hB0
    refine ⟨A % B, lt, rfl, B, A % B, y, x - ((A / B : Nat) : Int) * y, rfl, rfl, hB, by omega, eB, ?_, by rw [← eg, Nat.gcd_comm A B, Nat.gcd_rec B A, Nat.gcd_comm], p1, by_, p2⟩
    rw [← am, zc_sub, zc_mul, eA, eB, zc_sub, zc_mul]; grind
  · obtain rfl : B = 0 := by omega
    rw [Nat.gcd_zero_right, fer_gcd hF a0] at eg
    subst eg
    have p0 : ((q + 1 : Nat) : Int) ≠ 0 := by omega
    repeat walk_at "s"
    refine v_ixl (by decide) (by simp) ?_
    rw [show nth [x, y] 0 = x from rfl]
    repeat walk_at "s"
    exact k _ (fm_rg x) (by rw [zc_fm, ← eA]; exact zc_one)
def b__law_rest_by {M : Type} : DS M :=
    (dThen (dSetO 3 (dLc (dSeq false (dVar 0)) (dgN 8) dYes (dBin (gII Nz fun i j => .int (i.fmod j)) (dVar 8) (dVar 2)) [8]))
    (dThen (dSet 4 (dCall s__law_back [] (dCons (dBin (gIx false) (dVar 1) (dNeg (dC (.int 1)))) (dCons (dVar 2) dNil))))
    (dThen (dWhile (dTst (dBin gGe (dB gLen (dCons (dOwn 3) dNil)) (dB gLen (dCons (dVar 1) dNil))))
      (dThen (dSet 5 (dBin (gII Nz fun i j => .int (i.fmod j)) (dBin gMul (dBin (gIx true) (dOwn 3) (dNeg (dC (.int 1)))) (dVar 4)) (dVar 2)))
    (dThen (dSet 6 (dBin (g0 fun i j => .int (i - j)) (dB gLen (dCons (dOwn 3) dNil)) (dB gLen (dCons (dVar 1) dNil))))
    (dThen (dFor (dEnum false (dVar 1)) (dgT 2 (dgCons (dgN 7) (dgCons (dgN 8) dgNil)))
      (dSetI 3 (dBin (gII Nz fun i j => .int (i.fmod j)) (dBin (g0 fun i j => .int (i - j)) (dBin (gIx true) (dOwn 3) (dBin gAdd (dVar 6) (dVar 7))) (dBin gMul (dVar 5) (dVar 8))) (dVar 2)) (dBin gAdd (dVar 6) (dVar 7))))
    (dSetO 3 (dSl (dOwn 3) dONone (dOSome (dNeg (dC (.int 1))))))))))
    (dRet (dCall s__law_cut [] (dCons (dOwn 3) dNil))))))

theorem v_ixml {xs : List Int} {n : Bool} {q : D → Prop} (h0 : xs ≠ []) (h : q (.int (xs.getD (xs.length - 1) 0))) : gIx n (.lst (zz xs)) (.int (-1)) q := v_ixm (xs := xs) h0 h
theorem cutZ_init (xs : List Int) : cutZ xs none (some (-1)) = xs.take (xs.length - 1) := by
  unfold cutZ HT.sIx
  rw [List.drop_zero]
  congr 1
  simp only
  split <;> omega
theorem ser_init {xs : List Int} (h : xs.getD (xs.length - 1) 0 = 0) : ser (xs.take (xs.length - 1)) = ser xs := Ser.ext fun k => by
  rw [ser_co, ser_co]
  by_cases z : k < xs.length - 1
  · rw [List.getD_eq_getElem?_getD, List.getD_eq_getElem?_getD, List.getElem?_take_of_lt z]
  · rw [getD_far (xs := xs.take _) (by rw [List.length_take]; omega)]
    by_cases z2 : k = xs.length - 1
    · rw [z2, h]
    · rw [getD_far (by omega)]
def s__law_rest_by {M : Type} : DSp M := fun ds m Q Z => ∃ (q : Nat) (g : Ser (Kp q)) (F G : List Int), ds = [.tup (zz F), .tup (zz G), .int ((q + 1 : Nat) : Int)] ∧ Fer q ∧ q ≤ 9999 ∧ Mo g G ∧ G ≠ [] ∧ F.length ≤ 100000 ∧ G.length ≤ 100000 ∧
  ∀ (v : List Int) (a r : Ser (Kp q)) (N : Nat), Mo r v → zs (ser F) = a * g + r → far (G.length - 1) r → far N a → Q (.tup (zz v)) m
theorem vc__law_rest_by {M : Type} : ∀ ds (m : M) Q Z, s__law_rest_by ds m Q Z → okK [false, false, false] ds ∧ b__law_rest_by { nx := fun _ m' => Q .non m', rt := Q, ex := Z } (st0 [false, false, false] ds 9) m := by
  rintro ds m Q Z ⟨q, g, F, G, rfl, hF, hq, hg, G0, lF, lG, k⟩
  refine ⟨⟨fun _ => nl_row F, fun _ => nl_row G, fun _ => rfl, trivial⟩, ?_⟩
  unfold b__law_rest_by
  have g1 := List.length_pos_iff.mpr G0
  have p0 : ((q + 1 : Nat) : Int) ≠ 0 := by omega
  have lG' : G.getD (G.length - 1) 0 ∈ G := by
    rw [List.getD_eq_getElem?_getD, List.getElem?_eq_getElem (by omega)]
    exact List.getElem_mem _
  repeat walk_at "s"
  refine lc_zz (f := fun x => x.fmod ((q + 1 : Nat) : Int)) F (fun a ha m1 k l hk => ?_) (by omega) ?_
  · repeat walk_at "s"
    exact hk
  refine v_kO (nls_ints _) ?_
  repeat walk_at "s"
  refine v_ixm G0 ?_
  repeat walk_at "s"
  refine ⟨q, _, rfl, hF, hq, hg.lt _ lG', by rw [hg.get]; exact hg.last G0, fun b rb hb => ?_⟩
  have hb : (zc b : Kp q) * g.co (G.length - 1) = 1 := by rw [← hg.get]; exact hb
  have bb := rg_bd hq rb
  repeat walk_at "s"
  refine v_while (fun j ρ m1 => m1 = m ∧ ∃ (cs : List Int) (W : Ser (Kp q)) (a5 a6 a7 a8 : Sl), ρ = [.val (.tup (zz F)), .val (.tup (zz G)), .val (.int ((q + 1 : Nat) : Int)), .own (zz cs), .val (.int b), a5, a6, a7, a8] ∧ cs.length = j ∧ cs.length ≤ F.length ∧ (∀ x ∈ cs, rg q x) ∧ zs (ser F) = W * g + zs (ser cs) ∧ far F.length W) _
    ⟨rfl, fmr q F, 0, _, _, _, _, rfl, rfl, by unfold fmr; rw [List.length_map]; exact Nat.le_refl _, fmr_rg F, by rw [fmr_zs]; grind, far_zero⟩ fun j ρ m1 h => ?_
  obtain ⟨rfl, cs, W, _, _, _, _, rfl, rfl, lc, gc, e, fW⟩ := h
  repeat walk_at "s"
  refine v_ifd (fun h => ?_) fun h => ?_
  · have h : G.length ≤ cs.length := by omega
    have c0 : cs ≠ [] := List.length_pos_iff.mp (by omega)
    repeat walk_at "s"
    refine v_ixml c0 ?_
    have bl := rg_bd hq (rg_get gc (cs.length - 1))
    repeat walk_at "s"
    obtain ⟨t, ht⟩ : ∃ t, t = Int.fmod (cs.getD (cs.length - 1) 0 * b) ((q + 1 : Nat) : Int) := ⟨_, rfl⟩
    rw [← ht]
    have gt : rg q t := ht ▸ fm_rg _
    have bt := rg_bd hq gt
    obtain ⟨s, hs⟩ : ∃ s : Nat, s = cs.length - G.length := ⟨_, rfl⟩
    have es : (cs.length : Int) - G.length = (s : Int) := by omega
    have zt : (zc t : Kp q) = zc (cs.getD (s + G.length - 1) 0) * zc b := by rw [ht, zc_fm, zc_mul, show s + G.length - 1 = cs.length - 1 by omega]
    repeat walk_at "s"
    rw [es]
    repeat walk_at "s"
    refine v_kforE (fun j r2 ρ m2 => m2 = m1 ∧ ∃ (rs' : List Int) (a7 a8 : Sl), ρ = [.val (.tup (zz F)), .val (.tup (zz G)), .val (.int ((q + 1 : Nat) : Int)), .own (zz rs'), .val (.int b), .val (.int t), .val (.int s), a7, a8] ∧
        rs'.length = cs.length ∧ j + r2.length = G.length ∧ (∀ y ∈ r2, rg q y) ∧ (∀ x ∈ rs', rg q x) ∧ zs (ser rs') + Ser.C (zc t) * xp s * g = zs (ser cs) + Ser.C (zc t) * xp (s + j) * zs (ser r2)) G ⟨rfl, _, _, _, rfl, rfl, by omega, hg.lt, gc, by rw [Nat.add_zero s, hg.eq]⟩ (fun j ρ m2 h => ?_) fun j y r2 ρ m2 N2 h hN2 => ?_
    · obtain ⟨rfl, rs', _, _, rfl, lr', hj, _, gr', e2⟩ := h
      rw [ser_nil, zs_zero] at e2
      have e2 : zs (ser rs') + Ser.C (zc t) * xp s * g = zs (ser cs) := by rw [e2]; grind
      have z := take_off (f := g) gr' hg.far g1 (fun k hk => getD_far (by omega)) hb zt e2 (rs'.length - 1) (by omega)
      repeat walk_at "s"
      rw [cutD_zz, cutZ_init]
      refine v_kO (nls_ints _) ?_
      refine ⟨_, ?_, rfl, rs'.take (rs'.length - 1), W + Ser.C (zc t) * xp s, _, _, _, _, rfl, rfl, by rw [List.length_take]; omega, fun x hx => gr' x (List.mem_of_mem_take hx), ?_, ?_⟩
      · rw [List.length_take]; omega
      · rw [ser_init z, e, ← e2]; grind
      · refine far_add fW (far_mono (n := s + 1) (fun j hj => ?_) (by omega))
        rw [Ser.C_mul_co, xp_co, if_neg (by omega)]; grind
    · obtain ⟨rfl, rs', _, _, rfl, lr', hj, hy, gr', e2⟩ := h
      rw [List.length_cons] at hj
      have by_ := rg_bd hq (hy y List.mem_cons_self)
      have s0 : (0 : Int) ≤ (s : Int) + j := by omega
      have s1 : (s : Int) + j < rs'.length := by rw [lr']; omega
      have et : ((s : Int) + j).toNat = s + j := by omega
      repeat walk_at "s"
      refine v_ixl s0 s1 ?_
      rw [show nth rs' ((s : Int) + j) = rs'.getD (s + j) 0 by unfold nth; rw [et]]
      repeat walk_at "s"
      refine v_kSIz s0 s1 ?_
      rw [et]
      refine hN2 _ _ ⟨rfl, _, _, _, rfl, by rw [List.length_set]; exact lr', by omega, fun z hz => hy z (List.mem_cons_of_mem _ hz), fun x hx => ?_, ?_⟩
      · rcases List.mem_or_eq_of_mem_set hx with h | rfl
        · exact gr' x h
        · exact fm_rg _
      · rw [ser_set (by omega), zs_add, zs_mul, zs_C, zs_xp, zc_sub, zc_fm, zc_sub, zc_mul, C_sub, C_sub, C_mul]
        rw [ser_cons, zs_add, zs_mul, zs_C, zs_xp] at e2
        rw [← Nat.add_assoc, xp_add (s + j) 1]
        grind
  · have h : cs.length < G.length := by omega
    repeat walk_at "s"
    refine ⟨_, cs, rfl, isRow_l, by omega, fun v hv => ?_⟩
    repeat walk_at "s"
    exact k v W (zs (ser cs)) _ (Mo.of hv gc rfl) e (zs_far fun j hj => by rw [ser_co, getD_far (by omega)]) fW
end RR

/-! V01b: the law k01 -/
namespace RR
open PySem PySem.Spec PyProof.Rows L2
local macro_rules | `(tactic| walk_at "bd") => `(tactic| first | assumption | exact bd_lit (by decide) | (with_reducible refine bd_mul ?_ ?_ <;> walk_at "bd") | (with_reducible refine bd_add ?_ ?_ <;> walk_at "bd") | (with_reducible refine bd_sub ?_ ?_ <;> walk_at "bd") | (with_reducible refine bd_neg ?_ <;> walk_at "bd"))
local macro_rules | `(tactic| walk_at "s") => `(tactic| with_reducible first
  | refine v_then ?_ | refine v_set ?_ | (apply v_var; · with_unfolding_all exact rfl) | refine v_bin ?_ | refine v_c ?_ | refine v_g0 ?_ | refine v_add ?_ | refine v_cons ?_ | refine v_nil ?_ | refine v_call ?_ | refine v_dB ?_ | refine v_next ?_ | refine v_ret ?_
  | refine v_ite ?_ | refine v_tst ?_ | refine v_kT ?_ | refine v_eqi ?_ | refine v_nei ?_ | refine v_eqr ?_ | refine v_ner ?_ | refine v_eqr0 ?_ | refine v_ner0 ?_ | refine v_eql ?_ | refine v_nel ?_ | refine v_eql0 ?_ | refine v_nel0 ?_ | refine v_isN ?_ | refine v_notN ?_
  | (apply v_bor; · with_unfolding_all exact rfl) | (apply v_own; · with_unfolding_all exact rfl) | refine v_tup ?_ | refine v_lst ?_ | (refine v_sz ?_ ?_; (· with_unfolding_all exact Nat.le_of_ble_eq_true rfl)) | (refine v_gIIz ?_ ?_; (· first | decide | omega))
  | refine v_lentz ?_ | refine v_lenlz ?_ | refine v_lent ?_ | refine v_lenl ?_ | refine v_I1 ?_ | refine v_I2 ?_ | refine v_int ?_ | refine v_seqlz ?_ | refine v_seqtz ?_ | refine v_sl ?_ | refine v_kSll ?_ | refine v_kSlt ?_ | refine v_ono ?_ | refine v_oso ?_ | refine v_kOS ?_
  | refine v_val ?_ | refine v_kVb ?_ | refine v_kVi ?_ | refine v_kVt ?_ | refine v_kVl ?_ | refine v_and ?_ | refine v_or ?_ | refine v_not ?_ | refine v_yes ?_ | refine v_if' ?_ | refine v_isi ?_ | refine v_kIii ?_ | refine v_kIib ?_ | refine v_kItt ?_
  | refine v_andV ?_ | refine v_orV ?_ | refine v_notV ?_ | refine v_kNV ?_ | refine v_neg ?_ | refine v_kNeg ?_ | refine v_seq ?_ | refine v_kSeql ?_ | refine v_kSeqt ?_ | refine v_rng1 ?_ | refine v_rng2 ?_ | refine v_enum ?_ | refine v_revr ?_ | refine v_rev ?_
  | (refine v_kR1 ?_ ?_ ?_; (· decide); (· decide))
  | (refine v_kR2 ?_ ?_ ?_ ?_ ?_; (· decide); (· decide); (· decide); (· decide))
  | refine v_gn ?_ | refine v_gt2 ?_ | refine v_gt3 ?_ | refine v_lc ?_ | refine v_for ?_ | refine v_setO ?_ | refine v_drop ?_ | (apply v_app; · with_unfolding_all exact rfl) | (apply v_setI; · with_unfolding_all exact rfl) | (apply v_rel; · with_unfolding_all exact rfl) | refine v_raise ?_ | refine v_par ?_ | refine v_kP ?_ | refine v_asg ?_
  | (apply v_aug; · with_unfolding_all exact rfl) | refine v_ifT ?_ | refine v_ifF ?_ | (refine v_pow ?_ ?_ ?_ ?_; (· decide); (· decide); (· decide)) | refine v_call0 ?_ | (apply v_lenr; · assumption) | (apply v_seqr; · assumption) | (apply v_kSeqr; · assumption) | (apply v_kSlr; · assumption)
  | refine v_ix0 ?_ | refine v_ix1 ?_ | refine v_ix2 ?_ | refine v_zip ?_ | refine v_kZl ?_ | refine v_kZt ?_ | (apply v_augI; · with_unfolding_all exact rfl) | refine v_try ?_ | refine v_isE ?_ | (refine v_kIE ?_ ?_; (· with_unfolding_all exact rfl)) | refine v_isB ?_ | refine v_notB ?_ | refine v_all ?_ | refine v_par3 ?_ | refine v_ifnT ?_ | refine v_ifnF ?_ | refine v_eqs ?_ | refine v_nes ?_ | refine v_rvs ?_ | refine v_kRvl ?_ | refine v_kRvt ?_
  | (refine v_mulb (a := ?a) (b := ?b) ?ha ?hb ?l ?h; (case ha => assumption); (case hb => assumption); (case l => omega)) | (refine v_fdivb (b := ?b) ?h0 ?hb ?l ?h; (case h0 => assumption); (case hb => assumption); (case l => omega)))
local macro_rules | `(tactic| walk_at "s") => `(tactic| with_reducible refine v_kIE1 ?_)
def Refd (x : D) : Prop := (∃ n, x = .int n ∧ ¬(Pr n ∧ n ≤ 9973)) ∨ (∃ t, x.ty = some t ∧ whT t = false)
def b__law_refused_k01 {M : Type} : DS M :=
    (dThen (dSet 1 (dC .non))
    (dThen (dTry ["BadPrime"] 2 1 (dDrop (dCall s_numbers_need_prime [] (dCons (dBor 0) dNil))))
    (dThen (dIte (dTst (dBin gIsN (dVar 1) (dC .non)))
      (dRet (dC (.bl false)))
      dNext)
    (dThen (dSetO 3 (dLst (dCons (dIsE [("BadPrime", false)] (dVar 1)) (dCons (dIsE [("BadPrime", false)] (dVar 1)) (dCons (dIsE [("BadPrime", false)] (dVar 1)) dNil)))))
    (dThen (dSetO 3 (dBin gAdd (dOwn 3) (dLst (dCons (dIsE [("BadPrime", false)] (dVar 1)) (dCons (dIsE [("BadPrime", false)] (dVar 1)) (dCons (dIsE [("BadPrime", false)] (dVar 1)) dNil))))))
    (dThen (dApp 3 (dIsE [("BadPrime", false)] (dVar 1)))
    (dRet (dAndV (dIsE [("BadPrime", true)] (dVar 1)) (dAndV (dIsE [("BadPrime", true)] (dVar 1)) (dBin gNin (dC (.bl true)) (dOwn 3)))))))))))

def s__law_refused_k01 {M : Type} : DSp M := fun ds m Q Z => ∃ x, ds = [x] ∧ Refd x ∧ Q (.bl true) m
theorem vc__law_refused_k01 {M : Type} : ∀ ds (m : M) Q Z, s__law_refused_k01 ds m Q Z → okK [true] ds ∧ b__law_refused_k01 { nx := fun _ m' => Q .non m', rt := Q, ex := Z } (st0 [true] ds 4) m := by
  rintro ds m Q Z ⟨x, rfl, hx, q⟩
  refine ⟨⟨fun h => (nomatch h), trivial⟩, ?_⟩
  unfold b__law_refused_k01
  repeat walk_at "s"
  refine ⟨x, rfl, ?_⟩
  rcases hx with ⟨n, rfl, hp⟩ | ⟨t, ht, hw⟩
  · refine .inl ⟨n, rfl, fun h1 h2 => absurd ⟨h1, h2⟩ hp, fun _ => ⟨by decide, ?_⟩⟩
    repeat walk_at "s"
    try ((with_reducible show @ite _ _ _ _ _); refine v_ifF ?_)
    repeat walk_at "s"
    try ((with_reducible show @ite _ _ _ _ _); refine v_ifF ?_)
    repeat walk_at "s"
    refine v_kO (by rfl) ?_
    repeat walk_at "s"
    refine v_addl (by decide) (by rfl) (by rfl) ?_
    refine v_kO (by rfl) ?_
    repeat walk_at "s"
    refine v_appk (by rfl) (by decide) ?_
    repeat walk_at "s"
    refine v_kAV (fun _ => ?_) fun h => (nomatch h)
    repeat walk_at "s"
    refine v_kAV (fun _ => ?_) fun h => (nomatch h)
    repeat walk_at "s"
    exact ⟨rfl, rfl, q⟩
  · refine .inr ⟨t, ht, hw, by decide, ?_⟩
    repeat walk_at "s"
    try ((with_reducible show @ite _ _ _ _ _); refine v_ifF ?_)
    repeat walk_at "s"
    try ((with_reducible show @ite _ _ _ _ _); refine v_ifF ?_)
    repeat walk_at "s"
    refine v_kO (by rfl) ?_
    repeat walk_at "s"
    refine v_addl (by decide) (by rfl) (by rfl) ?_
    refine v_kO (by rfl) ?_
    repeat walk_at "s"
    refine v_appk (by rfl) (by decide) ?_
    repeat walk_at "s"
    refine v_kAV (fun _ => ?_) fun h => (nomatch h)
    repeat walk_at "s"
    refine v_kAV (fun _ => ?_) fun h => (nomatch h)
    repeat walk_at "s"
    exact ⟨rfl, rfl, q⟩
/-! ### the primes that divide -/
/-- n without its factors k -/
inductive Sd (k : Nat) : Nat → Nat → Prop
  | done {n : Nat} : ¬ k ∣ n → Sd k n n
  | step {n n' : Nat} : k ∣ n → Sd k (n / k) n' → Sd k n n'
theorem Sd.uniq {k n a : Nat} (h : Sd k n a) : ∀ {b : Nat}, Sd k n b → a = b := by
  induction h with
  | done h0 => intro b h'; cases h' with
    | done _ => rfl
    | step h1 _ => exact absurd h1 h0
  | step h0 _ ih => intro b h'; cases h' with
    | done h1 => exact absurd h0 h1
    | step _ h2 => exact ih h2
/-- the primes from k on that divide n, as trial finds them -/
inductive PF : Nat → Nat → List Int → Prop
  | small {k n : Nat} : n < k * k → PF k n (if 1 < n then [(n : Int)] else [])
  | no {k n : Nat} {xs : List Int} : k * k ≤ n → ¬ k ∣ n → PF (k + 1) n xs → PF k n xs
  | yes {k n n' : Nat} {xs : List Int} : k * k ≤ n → k ∣ n → Sd k n n' → PF (k + 1) n' xs → PF k n ((k : Int) :: xs)
theorem PF.uniq {k n : Nat} {xs : List Int} (h : PF k n xs) : ∀ {ys : List Int}, PF k n ys → xs = ys := by
  induction h with
  | small h0 => intro ys h'; cases h' with
    | small _ => rfl
    | no h1 _ _ => omega
    | yes h1 _ _ _ => omega
  | no h0 h1 _ ih => intro ys h'; cases h' with
    | small h2 => omega
    | no _ _ h2 => exact ih h2
    | yes _ h2 _ _ => exact absurd h2 h1
  | yes h0 h1 s _ ih => intro ys h'; cases h' with
    | small h2 => omega
    | no _ h2 _ => exact absurd h1 h2
    | yes _ _ s2 h2 => rw [s.uniq s2] at ih; rw [ih h2]
theorem zz_snoc {xs : List Int} {a : Int} : zz xs ++ [.int a] = zz (xs ++ [a]) := zz_app (ys := [a])
theorem sqle {k n : Nat} (h : k * k ≤ n) (h2 : 2 ≤ k) : k ≤ n := Nat.le_trans (Nat.le_mul_of_pos_left k (by omega)) h
theorem cast_sq {k n : Nat} : (k : Int) * (k : Int) ≤ (n : Int) ↔ k * k ≤ n := by rw [← Int.natCast_mul]; omega
theorem cast_sq2 {k n : Nat} : (n : Int) < (k : Int) * (k : Int) ↔ n < k * k := by rw [← Int.natCast_mul]; omega
def b_numbers_primes_of {M : Type} : DS M :=
    (dThen (dSetO 1 (dLst dNil))
    (dThen (dSet 2 (dC (.int 2)))
    (dThen (dWhile (dTst (dBin gGt (dVar 0) (dC (.int 1))))
      (dThen (dIte (dTst (dBin gGt (dBin gMul (dVar 2) (dVar 2)) (dVar 0)))
      (dSet 2 (dVar 0))
      dNext)
    (dThen (dIte (dTst (dBin gEq (dBin (gII Nz fun i j => .int (i.fmod j)) (dVar 0) (dVar 2)) (dC (.int 0))))
      (dApp 1 (dVar 2))
      dNext)
    (dThen (dWhile (dTst (dBin gEq (dBin (gII Nz fun i j => .int (i.fmod j)) (dVar 0) (dVar 2)) (dC (.int 0))))
      (dSet 0 (dBin (gII Nd fun i j => .int (i.fdiv j)) (dVar 0) (dVar 2))))
    (dAug 2 (fun i j => i + j) (dC (.int 1)))))))
    (dRet (dOwn 1)))))

def s_numbers_primes_of {M : Type} : DSp M := fun ds m Q Z => ∃ N : Nat, ds = [.int N] ∧ 1 ≤ N ∧ N ≤ 10000000 ∧ ∀ xs, PF 2 N xs → xs.length ≤ 10000000 → Q (.lst (zz xs)) m
theorem vc_numbers_primes_of {M : Type} : ∀ ds (m : M) Q Z, s_numbers_primes_of ds m Q Z → okK [false] ds ∧ b_numbers_primes_of { nx := fun _ m' => Q .non m', rt := Q, ex := Z } (st0 [false] ds 3) m := by
  rintro ds m Q Z ⟨N, rfl, N1, hN, q⟩
  refine ⟨⟨fun _ => rfl, trivial⟩, ?_⟩
  unfold b_numbers_primes_of
  repeat walk_at "s"
  refine v_kO (by rfl) ?_
  repeat walk_at "s"
  refine v_while (fun j ρ m' => m' = m ∧ ∃ (n k : Nat) (acc : List Int), ρ = [.val (.int n), .own (zz acc), .val (.int k)] ∧ n * (N + 2) + (N + 1 - k) = j ∧ 1 ≤ n ∧ n ≤ N ∧ 2 ≤ k ∧ k ≤ N + 1 ∧ acc.length + n ≤ N ∧ ∀ xs, PF k n xs → PF 2 N (acc ++ xs)) _ ⟨rfl, N, 2, [], rfl, rfl, N1, by omega, by omega, by omega, by simp, fun _ h => h⟩ fun j ρ m' h => ?_
  obtain ⟨rfl, n, k, acc, rfl, rfl, n1, nN, k2, kN, al, cl⟩ := h
  have bk : bd 60 (k : Int) := bd_n (by omega)
  repeat walk_at "s"
  refine v_ifd (fun h1 => ?_) fun h1 => ?_
  rotate_left
  · obtain rfl : n = 1 := by omega
    have := cl [] (PF.small (k := k) (n := 1) (by have := Nat.mul_le_mul k2 k2; omega))
    rw [List.append_nil] at this
    repeat walk_at "s"
    exact q acc this (by omega)
  have n2 : 2 ≤ n := by omega
  have less : ∀ n' k' : Nat, n' < n → n' * (N + 2) + (N + 1 - k') < n * (N + 2) + (N + 1 - k) := fun n' k' h => by
    have := Nat.mul_le_mul_right (N + 2) (show n' + 1 ≤ n from h)
    rw [Nat.succ_mul] at this
    omega
  repeat walk_at "s"
  refine v_ifd (fun h2 => ?_) fun h2 => ?_
  · have h2 := cast_sq2.mp h2
    obtain ⟨k0, hk0⟩ : ∃ k0, k0 = k := ⟨_, rfl⟩
    have cl1 : PF 2 N (acc ++ [(n : Int)]) := by
      have := cl _ (PF.small h2)
      rw [if_pos (by omega)] at this
      exact this
    have kmono : k ≤ N + 1 := kN
    repeat walk_at "s"
    rw [decide_eq_true (show Int.fmod (n : Int) (n : Int) = 0 from fm_dvd.mpr (Nat.dvd_refl n))]
    repeat walk_at "s"
    refine v_appk (by rfl) (by rw [zz, List.length_map]; omega) ?_
    rw [zz_snoc]
    repeat walk_at "s"
    refine v_while (fun j ρ m1 => m1 = m' ∧ ∃ n1 : Nat, ρ = [.val (.int n1), .own (zz (acc ++ [(n : Int)])), .val (.int n)] ∧ n1 = j ∧ 1 ≤ n1 ∧ n1 ≤ n ∧ ∀ n', Sd n n1 n' → Sd n n n') n ⟨rfl, n, rfl, rfl, by omega, by omega, fun _ h => h⟩ fun j ρ m1 h => ?_
    obtain ⟨rfl, n1, rfl, rfl, n11, n1n, hs⟩ := h
    repeat walk_at "s"
    refine v_ifd (fun hd => ?_) fun hd => ?_
    · have hd := fm_dvd.mp hd
      have z0 : ((n : Nat) : Int) ≠ 0 := by omega
      have zb : bd 60 ((n : Nat) : Int) := bd_n (by omega)
      repeat walk_at "s"
      rw [fd_nat]
      have lt : n1 / n < n1 := Nat.div_lt_self (by omega) (by omega)
      have pos : 0 < n1 / n := Nat.div_pos (Nat.le_of_dvd (by omega) hd) (by omega)
      exact ⟨n1 / n, lt, rfl, n1 / n, rfl, rfl, by omega, by omega, fun n' h => hs n' (.step hd h)⟩
    have sd : Sd n n n1 := hs n1 (.done fun h => hd (fm_dvd.mpr h))
    repeat walk_at "s"
    have e1 : n1 = 1 := by
      cases sd with
      | done h => exact absurd (Nat.dvd_refl n) h
      | step _ h =>
        rw [Nat.div_self (by omega)] at h
        cases h with
        | done _ => rfl
        | step h _ => have := Nat.le_of_dvd (by decide) h; omega
    subst e1
    refine ⟨_, less 1 (n + 1) (by omega), rfl, 1, n + 1, acc ++ [(n : Int)], rfl, rfl, by omega, by omega, by omega, by omega, by rw [List.length_append]; simp; omega, fun xs hx => ?_⟩
    obtain rfl : xs = [] := hx.uniq (PF.small (k := n + 1) (n := 1) (by have := Nat.mul_le_mul (show 2 ≤ n + 1 by omega) (show 2 ≤ n + 1 by omega); omega))
    rw [List.append_nil]
    exact cl1
  · have h2 : k * k ≤ n := cast_sq.mp (by omega)
    have kn := sqle h2 k2
    repeat walk_at "s"
    refine v_ifd (fun h3 => ?_) fun h3 => ?_
    · have h3 := fm_dvd.mp h3
      repeat walk_at "s"
      refine v_appk (by rfl) (by rw [zz, List.length_map]; omega) ?_
      rw [zz_snoc]
      repeat walk_at "s"
      refine v_while (fun j ρ m1 => m1 = m' ∧ ∃ n1 : Nat, ρ = [.val (.int n1), .own (zz (acc ++ [(k : Int)])), .val (.int k)] ∧ n1 = j ∧ 1 ≤ n1 ∧ n1 ≤ n ∧ ∀ n', Sd k n1 n' → Sd k n n') n ⟨rfl, n, rfl, rfl, by omega, by omega, fun _ h => h⟩ fun j ρ m1 h => ?_
      obtain ⟨rfl, n1, rfl, rfl, n11, n1n, hs⟩ := h
      repeat walk_at "s"
      refine v_ifd (fun hd => ?_) fun hd => ?_
      · have hd := fm_dvd.mp hd
        have z0 : ((k : Nat) : Int) ≠ 0 := by omega
        have zb : bd 60 ((k : Nat) : Int) := bd_n (by omega)
        repeat walk_at "s"
        rw [fd_nat]
        have lt : n1 / k < n1 := Nat.div_lt_self (by omega) (by omega)
        have pos : 0 < n1 / k := Nat.div_pos (Nat.le_of_dvd (by omega) hd) (by omega)
        exact ⟨n1 / k, lt, rfl, n1 / k, rfl, rfl, by omega, by omega, fun n' h => hs n' (.step hd h)⟩
      have sd : Sd k n n1 := hs n1 (.done fun h => hd (fm_dvd.mpr h))
      repeat walk_at "s"
      have lt : n1 < n := by
        cases sd with
        | done h => exact absurd h3 h
        | step _ h => exact Nat.lt_of_le_of_ne n1n fun e => hd (by rw [e]; exact fm_dvd.mpr h3)
      refine ⟨_, less n1 (k + 1) lt, rfl, n1, k + 1, acc ++ [(k : Int)], rfl, rfl, n11, by omega, by omega, by omega, by rw [List.length_append]; simp; omega, fun xs hx => ?_⟩
      rw [List.append_assoc]
      exact cl _ (PF.yes h2 h3 sd hx)
    · have h3' : ¬ k ∣ n := fun h => h3 (fm_dvd.mpr h)
      repeat walk_at "s"
      refine v_while (fun j ρ m1 => m1 = m' ∧ ρ = [.val (.int n), .own (zz acc), .val (.int k)]) 0 ⟨rfl, rfl⟩ fun j ρ m1 h => ?_
      obtain ⟨rfl, rfl⟩ := h
      repeat walk_at "s"
      rw [decide_eq_false h3]
      repeat walk_at "s"
      exact ⟨_, by omega, rfl, n, k + 1, acc, rfl, rfl, n1, nN, by omega, by omega, by omega, fun xs hx => cl xs (PF.no h2 h3' hx)⟩
end RR

/-! VMR4: common parts with multipliers modulo a prime -/
namespace RR
open PySem PySem.Spec PyProof.Rows L2
local macro_rules | `(tactic| walk_at "bd") => `(tactic| first | assumption | exact bd_lit (by decide) | (with_reducible refine bd_mul ?_ ?_ <;> walk_at "bd") | (with_reducible refine bd_add ?_ ?_ <;> walk_at "bd") | (with_reducible refine bd_sub ?_ ?_ <;> walk_at "bd") | (with_reducible refine bd_neg ?_ <;> walk_at "bd"))
local macro_rules | `(tactic| walk_at "s") => `(tactic| with_reducible first
  | refine v_then ?_ | refine v_set ?_ | (apply v_var; · with_unfolding_all exact rfl) | refine v_bin ?_ | refine v_c ?_ | refine v_g0 ?_ | refine v_add ?_ | refine v_cons ?_ | refine v_nil ?_ | refine v_call ?_ | refine v_dB ?_ | refine v_next ?_ | refine v_ret ?_
  | refine v_ite ?_ | refine v_tst ?_ | refine v_kT ?_ | refine v_eqi ?_ | refine v_nei ?_ | refine v_eqr ?_ | refine v_ner ?_ | refine v_eqr0 ?_ | refine v_ner0 ?_ | refine v_eql ?_ | refine v_nel ?_ | refine v_eql0 ?_ | refine v_nel0 ?_ | refine v_isN ?_ | refine v_notN ?_
  | (apply v_bor; · with_unfolding_all exact rfl) | (apply v_own; · with_unfolding_all exact rfl) | refine v_tup ?_ | refine v_lst ?_ | (refine v_sz ?_ ?_; (· with_unfolding_all exact Nat.le_of_ble_eq_true rfl)) | (refine v_gIIz ?_ ?_; (· first | decide | omega))
  | refine v_lentz ?_ | refine v_lenlz ?_ | refine v_lent ?_ | refine v_lenl ?_ | refine v_I1 ?_ | refine v_I2 ?_ | refine v_int ?_ | refine v_seqlz ?_ | refine v_seqtz ?_ | refine v_sl ?_ | refine v_kSll ?_ | refine v_kSlt ?_ | refine v_ono ?_ | refine v_oso ?_ | refine v_kOS ?_
  | refine v_val ?_ | refine v_kVb ?_ | refine v_kVi ?_ | refine v_kVt ?_ | refine v_kVl ?_ | refine v_and ?_ | refine v_or ?_ | refine v_not ?_ | refine v_yes ?_ | refine v_if' ?_ | refine v_isi ?_ | refine v_kIii ?_ | refine v_kIib ?_ | refine v_kItt ?_
  | refine v_andV ?_ | refine v_orV ?_ | refine v_notV ?_ | refine v_kNV ?_ | refine v_neg ?_ | refine v_kNeg ?_ | refine v_seq ?_ | refine v_kSeql ?_ | refine v_kSeqt ?_ | refine v_rng1 ?_ | refine v_rng2 ?_ | refine v_enum ?_ | refine v_revr ?_ | refine v_rev ?_
  | (refine v_kR1 ?_ ?_ ?_; (· decide); (· decide))
  | (refine v_kR2 ?_ ?_ ?_ ?_ ?_; (· decide); (· decide); (· decide); (· decide))
  | refine v_gn ?_ | refine v_gt2 ?_ | refine v_gt3 ?_ | refine v_lc ?_ | refine v_for ?_ | refine v_setO ?_ | refine v_drop ?_ | (apply v_app; · with_unfolding_all exact rfl) | (apply v_setI; · with_unfolding_all exact rfl) | (apply v_rel; · with_unfolding_all exact rfl) | refine v_raise ?_ | refine v_par ?_ | refine v_kP ?_ | refine v_asg ?_
  | (apply v_aug; · with_unfolding_all exact rfl) | refine v_ifT ?_ | refine v_ifF ?_ | (refine v_pow ?_ ?_ ?_ ?_; (· decide); (· decide); (· decide)) | refine v_call0 ?_ | (apply v_lenr; · assumption) | (apply v_seqr; · assumption) | (apply v_kSeqr; · assumption) | (apply v_kSlr; · assumption)
  | refine v_ix0 ?_ | refine v_ix1 ?_ | refine v_ix2 ?_ | refine v_zip ?_ | refine v_kZl ?_ | refine v_kZt ?_ | (apply v_augI; · with_unfolding_all exact rfl) | refine v_try ?_ | refine v_isE ?_ | (refine v_kIE ?_ ?_; (· with_unfolding_all exact rfl)) | refine v_isB ?_ | refine v_notB ?_ | refine v_all ?_ | refine v_par3 ?_ | refine v_ifnT ?_ | refine v_ifnF ?_ | refine v_eqs ?_ | refine v_nes ?_ | refine v_rvs ?_ | refine v_kRvl ?_ | refine v_kRvt ?_
  | (refine v_mulb (a := ?a) (b := ?b) ?ha ?hb ?l ?h; (case ha => assumption); (case hb => assumption); (case l => omega)) | (refine v_fdivb (b := ?b) ?h0 ?hb ?l ?h; (case h0 => assumption); (case hb => assumption); (case l => omega)))
section
variable {K : Type} [Lean.Grind.CommRing K]
/-- Euclid's going, with multipliers -/
inductive Join : Ser K → Ser K → Ser K → Ser K → Ser K → Ser K → Ser K → Ser K → Ser K → Prop
  | stop {a s0 t0 s1 t1 : Ser K} : Join a 0 s0 t0 s1 t1 a s0 t0
  | step {a b s0 t0 s1 t1 u r g s t : Ser K} {n N : Nat} : top n b → far n r → far N u → a = u * b + r → Join b r s1 t1 (s0 - u * s1) (t0 - u * t1) g s t → Join a b s0 t0 s1 t1 g s t
theorem Join.uniq (D : Dom K) {a b s0 t0 s1 t1 g s t : Ser K} (h : Join a b s0 t0 s1 t1 g s t) : ∀ {g' s' t' : Ser K}, Join a b s0 t0 s1 t1 g' s' t' → g = g' ∧ s = s' ∧ t = t' := by
  induction h with
  | stop => intro g' s' t' h'; cases h' with
    | stop => exact ⟨rfl, rfl, rfl⟩
    | step h1 _ _ _ _ => exact absurd rfl (top_ne h1)
  | @step a b s0 t0 s1 t1 u r g s t n N h1 h2 h3 h4 _ ih => intro g' s' t' h'; cases h' with
    | stop => exact absurd rfl (top_ne h1)
    | @step _ _ _ _ _ _ u' r' _ _ _ n' N' k1 k2 k3 k4 k5 =>
      obtain rfl := top_uniq h1 k1
      obtain ⟨rfl, rfl⟩ := div_uniq D h1 (far_mono h3 (Nat.le_max_left N N')) (far_mono k3 (Nat.le_max_right N N')) h2 k2 (h4.symm.trans k4)
      exact ih k5
theorem Join.good {a b s0 t0 s1 t1 g s t : Ser K} (h : Join a b s0 t0 s1 t1 g s t) : ∀ A B : Ser K, a = s0 * A + t0 * B → b = s1 * A + t1 * B → g = s * A + t * B ∧ ∃ x y N, far N x ∧ far N y ∧ a = x * g ∧ b = y * g := by
  induction h with
  | @stop a s0 t0 s1 t1 =>
    intro A B h1 h2
    exact ⟨h1, 1, 0, 1, far_one, far_zero, by grind, by grind⟩
  | @step a b s0 t0 s1 t1 u r g s t n N h1 h2 h3 h4 _ ih =>
    intro A B e1 e2
    obtain ⟨e3, x, y, N2, f1, f2, e4, e5⟩ := ih A B e2 (by rw [show r = a - u * b by rw [h4]; grind, e1, e2]; grind)
    refine ⟨e3, u * x + y, x, N + N2, ?_, far_mono f1 (by omega), by rw [h4, e5]; rw [e4]; grind, e4⟩
    exact far_add (far_mono (far_mul h3 f1) (by omega)) (far_mono f2 (by omega))
/-- the common part, made monic, and its multipliers -/
def Comm (f g G S T : Ser K) : Prop := (f = 0 ∧ g = 0 ∧ G = 0 ∧ S = 0 ∧ T = 0) ∨ ∃ (g0 s0 t0 : Ser K) (n : Nat) (u : K), Join f g 1 0 0 1 g0 s0 t0 ∧ top n g0 ∧ u * g0.co n = 1 ∧ G = Ser.C u * g0 ∧ S = Ser.C u * s0 ∧ T = Ser.C u * t0
theorem join_zero {g s t : Ser K} {s0 t0 s1 t1 : Ser K} (h : Join 0 0 s0 t0 s1 t1 g s t) : g = 0 := by
  cases h with
  | stop => rfl
  | step h1 _ _ _ _ => exact absurd rfl (top_ne h1)
theorem Comm.uniq (D : Dom K) {f g G S T G' S' T' : Ser K} (h : Comm f g G S T) (h' : Comm f g G' S' T') : G = G' ∧ S = S' ∧ T = T' := by
  rcases h with ⟨rfl, rfl, rfl, rfl, rfl⟩ | ⟨g0, s0, t0, n, u, j, t, e, rfl, rfl, rfl⟩ <;> rcases h' with ⟨h1, h2, h3, h4, h5⟩ | ⟨g1, s1, t1, n', u', j', t', e', rfl, rfl, rfl⟩
  · exact ⟨h3.symm, h4.symm, h5.symm⟩
  · exact absurd (join_zero j') (top_ne t')
  · subst h1 h2; exact absurd (join_zero j) (top_ne t)
  · obtain ⟨rfl, rfl, rfl⟩ := j.uniq D j'
    obtain rfl := top_uniq t t'
    obtain rfl : u = u' := by
      have : u * (u' * g0.co n) = u' := by rw [show u * (u' * g0.co n) = u' * (u * g0.co n) by grind, e]; grind
      rw [← this, e']; grind
    exact ⟨rfl, rfl, rfl⟩
theorem Comm.good {f g G S T : Ser K} (h : Comm f g G S T) : G = S * f + T * g ∧ ((f = 0 ∧ g = 0 ∧ G = 0) ∨ ((∃ n, top n G ∧ G.co n = 1) ∧ ∃ x y N, far N x ∧ far N y ∧ f = x * G ∧ g = y * G)) := by
  rcases h with ⟨rfl, rfl, rfl, rfl, rfl⟩ | ⟨g0, s0, t0, n, u, j, t, e, rfl, rfl, rfl⟩
  · exact ⟨by grind, .inl ⟨rfl, rfl, rfl⟩⟩
  · obtain ⟨e1, x, y, N, f1, f2, e2, e3⟩ := j.good f g (by grind) (by grind)
    have cu : Ser.C u * Ser.C (g0.co n) = 1 := by rw [← C_mul, e, C_one]
    have cn : (Ser.C u * g0).co n = 1 := by rw [Ser.C_mul_co]; exact e
    refine ⟨by rw [e1]; grind, .inr ⟨⟨n, ⟨far_scale t.1, fun z => ?_⟩, cn⟩, Ser.C (g0.co n) * x, Ser.C (g0.co n) * y, N, far_scale f1, far_scale f2, ?_, ?_⟩⟩
    · rw [cn] at z
      refine t.2 ?_
      rw [show g0.co n = 1 * g0.co n by grind, z]; grind
    · rw [e2]; rw [show Ser.C (g0.co n) * x * (Ser.C u * g0) = (Ser.C u * Ser.C (g0.co n)) * (x * g0) by grind, cu]; grind
    · rw [e3]; rw [show Ser.C (g0.co n) * y * (Ser.C u * g0) = (Ser.C u * Ser.C (g0.co n)) * (y * g0) by grind, cu]; grind
/-- monic ones that divide each other are alike -/
theorem monic_eq (D : Dom K) {G G' w w' : Ser K} {n n' N : Nat} (hG : top n G) (c : G.co n = 1) (hG' : top n' G') (c' : G'.co n' = 1) (fw : far N w) (fw' : far N w') (e : G' = w * G) (e' : G = w' * G') : G = G' := by
  have w0 : w ≠ 0 := fun z => top_ne hG' (by rw [e, z]; grind)
  have w0' : w' ≠ 0 := fun z => top_ne hG (by rw [e', z]; grind)
  obtain ⟨k, _, tk⟩ := top_of fw w0
  obtain ⟨k', _, tk'⟩ := top_of fw' w0'
  have t1 := top_mul D tk hG
  rw [← e] at t1
  have t2 := top_mul D tk' hG'
  rw [← e'] at t2
  have q1 := top_uniq t1 hG'
  have q2 := top_uniq t2 hG
  obtain rfl : k = 0 := by omega
  have wc : w = Ser.C (w.co 0) := Ser.ext fun j => by
    rw [Ser.C_co]
    split
    · rename_i h; rw [h]
    · exact tk.1 j (by omega)
  have : w.co 0 * G.co n = G'.co n := by rw [e, wc, Ser.C_mul_co, Ser.C_co, if_pos rfl]
  rw [show n = n' by omega] at this c
  rw [c, c'] at this
  rw [e, wc, show w.co 0 = 1 by rw [← this]; grind, C_one]; grind
theorem Comm.swap (D : Dom K) {f g G S T G' S' T' : Ser K} {N : Nat} (h : Comm f g G S T) (h' : Comm g f G' S' T') (fS : far N S) (fT : far N T) (fS' : far N S') (fT' : far N T') : G = G' := by
  obtain ⟨e, h⟩ := h.good
  obtain ⟨e', h'⟩ := h'.good
  rcases h with ⟨rfl, rfl, rfl⟩ | ⟨⟨n, t, c⟩, x, y, N1, f1, f2, e1, e2⟩
  · rw [e']; grind
  · rcases h' with ⟨rfl, rfl, rfl⟩ | ⟨⟨n', t', c'⟩, x', y', N2, f1', f2', e1', e2'⟩
    · rw [e]; grind
    · refine monic_eq D (w := S' * y + T' * x) (w' := S * y' + T * x') (N := N + N1 + N2) t c t' c' ?_ ?_ ?_ ?_
      · exact far_add (far_mono (far_mul fS' f2) (by omega)) (far_mono (far_mul fT' f1) (by omega))
      · exact far_add (far_mono (far_mul fS f2') (by omega)) (far_mono (far_mul fT f1') (by omega))
      · rw [show (S' * y + T' * x) * G = S' * (y * G) + T' * (x * G) by grind, ← e1, ← e2]; exact e'
      · rw [show (S * y' + T * x') * G' = S * (y' * G') + T * (x' * G') by grind, ← e1', ← e2']; exact e
end
theorem mo_bd {q : Nat} {f : Ser (Kp q)} {r : List Int} (hq : q ≤ 9999) (h : Mo f r) : ∀ x ∈ r, bd 20 x := fun x hx => rg_bd hq (h.lt x hx)
theorem mo_len {q n : Nat} {f : Ser (Kp q)} {r : List Int} (h : Mo f r) (hf : far n f) : r.length ≤ n := by
  by_cases e : r = []
  · subst e; simp
  · have := top_lt (h.top e) hf; omega
def b_modrows_joined_by {M : Type} : DS M :=
    (dThen (dSet 3 (dTup (dCons (dTup (dCons (dC (.int 1)) dNil)) (dCons (dTup dNil) dNil))))
    (dThen (dSet 4 (dTup (dCons (dTup dNil) (dCons (dTup (dCons (dC (.int 1)) dNil)) dNil))))
    (dThen (dWhile (dTst (dBin gNe (dVar 1) (dTup dNil)))
      (dThen (dAsg (dCall s_modrows_parted_by [] (dCons (dVar 0) (dCons (dVar 1) (dCons (dVar 2) dNil)))) (dgT 2 (dgCons (dgN 5) (dgCons (dgN 6) dgNil))))
    (dThen (dPar 0 1 (dCons (dVar 1) (dCons (dVar 6) dNil)))
    (dThen (dSet 7 (dB (gSeq .tup) (dCons (dLc (dZip false (dVar 3) (dVar 4)) (dgT 2 (dgCons (dgN 9) (dgCons (dgN 10) dgNil))) dYes (dCall s_modrows_less_by [] (dCons (dVar 9) (dCons (dCall s_modrows_product_by [] (dCons (dVar 5) (dCons (dVar 10) (dCons (dVar 2) dNil)))) (dCons (dVar 2) dNil)))) [9, 10]) dNil)))
    (dPar 3 4 (dCons (dVar 4) (dCons (dVar 7) dNil)))))))
    (dThen (dIte (dTst (dBin gEq (dVar 0) (dTup dNil)))
      (dRet (dTup (dCons (dTup dNil) (dCons (dTup dNil) (dCons (dTup dNil) dNil)))))
      dNext)
    (dThen (dSet 8 (dCall s_modrows_inverse [] (dCons (dBin (gIx false) (dVar 0) (dNeg (dC (.int 1)))) (dCons (dVar 2) dNil))))
    (dRet (dTup (dCons (dCall s_modrows_scaled_by [] (dCons (dVar 0) (dCons (dVar 8) (dCons (dVar 2) dNil)))) (dCons (dCall s_modrows_scaled_by [] (dCons (dBin (gIx false) (dVar 3) (dC (.int 0))) (dCons (dVar 8) (dCons (dVar 2) dNil)))) (dCons (dCall s_modrows_scaled_by [] (dCons (dBin (gIx false) (dVar 3) (dC (.int 1))) (dCons (dVar 8) (dCons (dVar 2) dNil)))) dNil))))))))))

def s_modrows_joined_by {M : Type} : DSp M := fun ds m Q Z => ∃ (q : Nat) (f g : Ser (Kp q)) (F G : List Int), ds = [.tup (zz F), .tup (zz G), .int ((q + 1 : Nat) : Int)] ∧ Fer q ∧ q ≤ 9999 ∧ Mo f F ∧ Mo g G ∧ F.length ≤ 100 ∧ G.length ≤ 100 ∧
  ∀ (a s t : Ser (Kp q)) (A S T : List Int), Comm f g a s t → Mo a A → Mo s S → Mo t T → A.length ≤ 100 → S.length ≤ 20000 → T.length ≤ 20000 → Q (.tup [.tup (zz A), .tup (zz S), .tup (zz T)]) m
theorem vc_modrows_joined_by {M : Type} : ∀ ds (m : M) Q Z, s_modrows_joined_by ds m Q Z → okK [false, false, false] ds ∧ b_modrows_joined_by { nx := fun _ m' => Q .non m', rt := Q, ex := Z } (st0 [false, false, false] ds 11) m := by
  rintro ds m Q Z ⟨q, f, g, F, G, rfl, hF, hq, hf, hg, lF, lG, k⟩
  refine ⟨⟨fun _ => nl_row F, fun _ => nl_row G, fun _ => rfl, trivial⟩, ?_⟩
  unfold b_modrows_joined_by
  have q1 := hF.1
  have M1 : Mo (1 : Ser (Kp q)) [1] := ⟨rfl, fun x hx => by obtain rfl := List.mem_singleton.mp hx; exact ⟨by omega, by omega⟩, by
    rw [ser_cons, ser_nil, C_one, show (1 : Ser Int) + xp 1 * 0 = 1 by grind, zs_one]⟩
  repeat walk_at "s"
  refine v_while (fun j ρ m1 => m1 = m ∧ ∃ (a b s0 t0 s1 t1 : Ser (Kp q)) (A B S0 T0 S1 T1 : List Int) (a5 a6 a7 a8 a9 a10 : Sl), ρ = [.val (.tup (zz A)), .val (.tup (zz B)), .val (.int ((q + 1 : Nat) : Int)), .val (.tup [.tup (zz S0), .tup (zz T0)]), .val (.tup [.tup (zz S1), .tup (zz T1)]), a5, a6, a7, a8, a9, a10] ∧
      B.length = j ∧ Mo a A ∧ Mo b B ∧ Mo s0 S0 ∧ Mo t0 T0 ∧ Mo s1 S1 ∧ Mo t1 T1 ∧ A.length ≤ 100 ∧ B.length ≤ 100 ∧ S0.length ≤ (101 - B.length) * 101 + 1 ∧ T0.length ≤ (101 - B.length) * 101 + 1 ∧ S1.length ≤ (101 - B.length) * 101 + 1 ∧ T1.length ≤ (101 - B.length) * 101 + 1 ∧
      (∀ x y z, Join a b s0 t0 s1 t1 x y z → Join f g 1 0 0 1 x y z)) _
    ⟨rfl, f, g, 1, 0, 0, 1, F, G, [1], [], [], [1], _, _, _, _, _, _, rfl, rfl, hf, hg, M1, Mo.nil, Mo.nil, M1, lF, lG, by simp, by simp, by simp, by simp, fun _ _ _ h => h⟩ fun j ρ m1 h => ?_
  obtain ⟨rfl, a, b, s0, t0, s1, t1, A, B, S0, T0, S1, T1, _, _, _, _, _, _, rfl, rfl, ha, hb, hs0, ht0, hs1, ht1, lA, lB, lS0, lT0, lS1, lT1, cl⟩ := h
  have m0 : (101 - B.length) * 101 ≤ 101 * 101 := Nat.mul_le_mul_right 101 (by omega)
  repeat walk_at "s"
  refine v_ifn (fun h => ?_) fun h => ?_
  · have b1 := List.length_pos_iff.mpr h
    repeat walk_at "s"
    refine ⟨q, a, b, A, B, rfl, hF, hq, ha, hb, h, by omega, by omega, fun U V u v hu hv e fv lU lV => ?_⟩
    repeat walk_at "s"
    have lV' : V.length ≤ B.length - 1 := mo_len hv fv
    refine v_kZT (fun z => (nomatch z)) ?_
    refine lc_cons ?_
    repeat walk_at "s"
    refine ⟨q, U, S1, 20, 20, rfl, by omega, by omega, mo_bd hq hu, mo_bd hq hs1, by decide, fun P1 hP1 => ?_⟩
    have lP1 : P1.length ≤ U.length + S1.length := mo_len hP1 (by
      rw [hu.eq, hs1.eq]; exact far_mono (far_mul hu.far hs1.far) (by omega))
    repeat walk_at "s"
    refine ⟨q, S0, P1, 20, rfl, by omega, by omega, mo_bd hq hP1, by decide, fun S2 hS2 => ?_⟩
    rw [hs0.eq, hP1.eq, hu.eq, hs1.eq] at hS2
    have lS2 : S2.length ≤ max S0.length (U.length + S1.length) := mo_len hS2 (far_sub (far_mono hs0.far (by omega)) (far_mono (far_mul hu.far hs1.far) (by omega)))
    refine ⟨by unfold sizeLine; simp, ?_⟩
    refine lc_cons ?_
    repeat walk_at "s"
    refine ⟨q, U, T1, 20, 20, rfl, by omega, by omega, mo_bd hq hu, mo_bd hq ht1, by decide, fun P2 hP2 => ?_⟩
    have lP2 : P2.length ≤ U.length + T1.length := mo_len hP2 (by
      rw [hu.eq, ht1.eq]; exact far_mono (far_mul hu.far ht1.far) (by omega))
    repeat walk_at "s"
    refine ⟨q, T0, P2, 20, rfl, by omega, by omega, mo_bd hq hP2, by decide, fun T2 hT2 => ?_⟩
    rw [ht0.eq, hP2.eq, hu.eq, ht1.eq] at hT2
    have lT2 : T2.length ≤ max T0.length (U.length + T1.length) := mo_len hT2 (far_sub (far_mono ht0.far (by omega)) (far_mono (far_mul hu.far ht1.far) (by omega)))
    refine ⟨by unfold sizeLine; simp, ?_⟩
    refine lc_end ?_
    repeat walk_at "s"
    refine v_seql (by show ((D.tup (zz S2)).nl && ((D.tup (zz T2)).nl && true)) = true; rw [nl_row, nl_row]; rfl) ?_
    repeat walk_at "s"
    have mm : (101 - B.length) * 101 + 101 ≤ (101 - V.length) * 101 := by
      have := Nat.mul_le_mul_right 101 (show (101 - B.length) + 1 ≤ 101 - V.length by omega)
      rw [Nat.succ_mul] at this
      exact this
    exact ⟨V.length, by omega, rfl, b, v, s1, t1, s0 - u * s1, t0 - u * t1, B, V, S1, T1, S2, T2, _, _, _, _, _, _, rfl, rfl, hb, hv, hs1, ht1, hS2, hT2, lB, by omega, by omega, by omega, by omega, by omega, fun x y z hJ => cl x y z (.step (hb.top h) fv hu.far e hJ)⟩
  · subst h
    have b0 : b = 0 := hb.nil_iff.mpr rfl
    subst b0
    have J := cl _ _ _ .stop
    obtain ⟨_, x, y, N, _, _, ex, ey⟩ := J.good f g (by grind) (by grind)
    repeat walk_at "s"
    refine v_ifd (fun h => ?_) fun h => ?_
    · have a0 : a = 0 := ha.nil_iff.mpr h
      subst a0
      repeat walk_at "s"
      exact k 0 0 0 [] [] [] (.inl ⟨by rw [ex]; grind, by rw [ey]; grind, rfl, rfl, rfl⟩) Mo.nil Mo.nil Mo.nil (by simp) (by simp) (by simp)
    · repeat walk_at "s"
      refine v_ixm h ?_
      repeat walk_at "s"
      refine ⟨q, _, rfl, hF, hq, by rw [ha.get]; exact ha.last h, fun u ru hu => ?_⟩
      rw [ha.get] at hu
      have bu := rg_bd hq ru
      have cm : Comm f g (Ser.C (zc u) * a) (Ser.C (zc u) * s0) (Ser.C (zc u) * t0) := .inr ⟨a, s0, t0, _, zc u, J, ha.top h, hu, rfl, rfl, rfl⟩
      repeat walk_at "s"
      refine ⟨q, A, u, 20, 20, rfl, by omega, mo_bd hq ha, bu, by decide, fun A' hA' => ?_⟩
      rw [ha.eq] at hA'
      have l1 := mo_len hA' (far_scale ha.far)
      repeat walk_at "s"
      refine ⟨q, S0, u, 20, 20, rfl, by omega, mo_bd hq hs0, bu, by decide, fun S' hS' => ?_⟩
      rw [hs0.eq] at hS'
      have l2 := mo_len hS' (far_scale hs0.far)
      repeat walk_at "s"
      refine ⟨q, T0, u, 20, 20, rfl, by omega, mo_bd hq ht0, bu, by decide, fun T' hT' => ?_⟩
      rw [ht0.eq] at hT'
      have l3 := mo_len hT' (far_scale ht0.far)
      repeat walk_at "s"
      exact k _ _ _ A' S' T' cm hA' hS' hT' (by omega) (by omega) (by omega)
def b_modrows_mod_common {M : Type} : DS M :=
    (dThen (dDrop (dCall s_numbers_need_prime [] (dCons (dBor 2) dNil)))
    (dRet (dCall s_modrows_joined_by [] (dCons (dVar 0) (dCons (dVar 1) (dCons (dBor 2) dNil))))))

def s_modrows_mod_common {M : Type} : DSp M := fun ds m Q Z => (∃ (q : Nat) (f g : Ser (Kp q)) (F G : List Int), ds = [.tup (zz F), .tup (zz G), .int ((q + 1 : Nat) : Int)] ∧ Fer q ∧ q ≤ 9972 ∧ Pr ((q + 1 : Nat) : Int) ∧ Mo f F ∧ Mo g G ∧ F.length ≤ 100 ∧ G.length ≤ 100 ∧
  ∀ (a s t : Ser (Kp q)) (A S T : List Int), Comm f g a s t → Mo a A → Mo s S → Mo t T → A.length ≤ 100 → S.length ≤ 20000 → T.length ≤ 20000 → Q (.tup [.tup (zz A), .tup (zz S), .tup (zz T)]) m) ∨
  ∃ (F G : List Int) (x : D), ds = [.tup (zz F), .tup (zz G), x] ∧ Refd x ∧ Z "BadPrime" m
theorem vc_modrows_mod_common {M : Type} : ∀ ds (m : M) Q Z, s_modrows_mod_common ds m Q Z → okK [false, false, true] ds ∧ b_modrows_mod_common { nx := fun _ m' => Q .non m', rt := Q, ex := Z } (st0 [false, false, true] ds 3) m := by
  rintro ds m Q Z (⟨q, f, g, F, G, rfl, hF, hq, hp, hf, hg, lF, lG, k⟩ | ⟨F, G, x, rfl, hx, k⟩)
  · refine ⟨⟨fun _ => nl_row F, fun _ => nl_row G, fun h => (nomatch h), trivial⟩, ?_⟩
    unfold b_modrows_mod_common
    repeat walk_at "s"
    refine ⟨_, rfl, .inl ⟨_, rfl, fun _ _ => ?_, fun z => absurd ⟨hp, by omega⟩ z⟩⟩
    repeat walk_at "s"
    exact ⟨q, f, g, F, G, rfl, hF, by omega, hf, hg, lF, lG, k⟩
  · refine ⟨⟨fun _ => nl_row F, fun _ => nl_row G, fun h => (nomatch h), trivial⟩, ?_⟩
    unfold b_modrows_mod_common
    repeat walk_at "s"
    rcases hx with ⟨n, rfl, h⟩ | ⟨t, h1, h2⟩
    · exact ⟨_, rfl, .inl ⟨_, rfl, fun a b => absurd ⟨a, b⟩ h, fun _ => k⟩⟩
    · exact ⟨_, rfl, .inr ⟨t, h1, h2, k⟩⟩
end RR

/-! VMR7: the laws' primes, rows; is_common -/
namespace RR
open PySem PySem.Spec PyProof.Rows L2
local macro_rules | `(tactic| walk_at "bd") => `(tactic| first | assumption | exact bd_lit (by decide) | (with_reducible refine bd_mul ?_ ?_ <;> walk_at "bd") | (with_reducible refine bd_add ?_ ?_ <;> walk_at "bd") | (with_reducible refine bd_sub ?_ ?_ <;> walk_at "bd") | (with_reducible refine bd_neg ?_ <;> walk_at "bd"))
local macro_rules | `(tactic| walk_at "s") => `(tactic| with_reducible first
  | refine v_then ?_ | refine v_set ?_ | (apply v_var; · with_unfolding_all exact rfl) | refine v_bin ?_ | refine v_c ?_ | refine v_g0 ?_ | refine v_add ?_ | refine v_cons ?_ | refine v_nil ?_ | refine v_call ?_ | refine v_dB ?_ | refine v_next ?_ | refine v_ret ?_
  | refine v_ite ?_ | refine v_tst ?_ | refine v_kT ?_ | refine v_eqi ?_ | refine v_nei ?_ | refine v_eqr ?_ | refine v_ner ?_ | refine v_eqr0 ?_ | refine v_ner0 ?_ | refine v_eql ?_ | refine v_nel ?_ | refine v_eql0 ?_ | refine v_nel0 ?_ | refine v_isN ?_ | refine v_notN ?_
  | (apply v_bor; · with_unfolding_all exact rfl) | (apply v_own; · with_unfolding_all exact rfl) | refine v_tup ?_ | refine v_lst ?_ | (refine v_sz ?_ ?_; (· with_unfolding_all exact Nat.le_of_ble_eq_true rfl)) | (refine v_gIIz ?_ ?_; (· first | decide | omega))
  | refine v_lentz ?_ | refine v_lenlz ?_ | refine v_lent ?_ | refine v_lenl ?_ | refine v_I1 ?_ | refine v_I2 ?_ | refine v_int ?_ | refine v_seqlz ?_ | refine v_seqtz ?_ | refine v_sl ?_ | refine v_kSll ?_ | refine v_kSlt ?_ | refine v_ono ?_ | refine v_oso ?_ | refine v_kOS ?_
  | refine v_val ?_ | refine v_kVb ?_ | refine v_kVi ?_ | refine v_kVt ?_ | refine v_kVl ?_ | refine v_and ?_ | refine v_or ?_ | refine v_not ?_ | refine v_yes ?_ | refine v_if' ?_ | refine v_isi ?_ | refine v_kIii ?_ | refine v_kIib ?_ | refine v_kItt ?_
  | refine v_andV ?_ | refine v_orV ?_ | refine v_notV ?_ | refine v_kNV ?_ | refine v_neg ?_ | refine v_kNeg ?_ | refine v_seq ?_ | refine v_kSeql ?_ | refine v_kSeqt ?_ | refine v_rng1 ?_ | refine v_rng2 ?_ | refine v_enum ?_ | refine v_revr ?_ | refine v_rev ?_
  | (refine v_kR1 ?_ ?_ ?_; (· decide); (· decide))
  | (refine v_kR2 ?_ ?_ ?_ ?_ ?_; (· decide); (· decide); (· decide); (· decide))
  | refine v_gn ?_ | refine v_gt2 ?_ | refine v_gt3 ?_ | refine v_lc ?_ | refine v_for ?_ | refine v_setO ?_ | refine v_drop ?_ | (apply v_app; · with_unfolding_all exact rfl) | (apply v_setI; · with_unfolding_all exact rfl) | (apply v_rel; · with_unfolding_all exact rfl) | refine v_raise ?_ | refine v_par ?_ | refine v_kP ?_ | refine v_asg ?_
  | (apply v_aug; · with_unfolding_all exact rfl) | refine v_ifT ?_ | refine v_ifF ?_ | (refine v_pow ?_ ?_ ?_ ?_; (· decide); (· decide); (· decide)) | refine v_call0 ?_ | (apply v_lenr; · assumption) | (apply v_seqr; · assumption) | (apply v_kSeqr; · assumption) | (apply v_kSlr; · assumption)
  | refine v_ix0 ?_ | refine v_ix1 ?_ | refine v_ix2 ?_ | refine v_zip ?_ | refine v_kZl ?_ | refine v_kZt ?_ | (apply v_augI; · with_unfolding_all exact rfl) | refine v_try ?_ | refine v_isE ?_ | (refine v_kIE ?_ ?_; (· with_unfolding_all exact rfl)) | refine v_isB ?_ | refine v_notB ?_ | refine v_all ?_ | refine v_par3 ?_ | refine v_ifnT ?_ | refine v_ifnF ?_ | refine v_eqs ?_ | refine v_nes ?_ | refine v_rvs ?_ | refine v_kRvl ?_ | refine v_kRvt ?_
  | (refine v_mulb (a := ?a) (b := ?b) ?ha ?hb ?l ?h; (case ha => assumption); (case hb => assumption); (case l => omega)) | (refine v_fdivb (b := ?b) ?h0 ?hb ?l ?h; (case h0 => assumption); (case hb => assumption); (case l => omega)))
theorem pr_small (n : Nat) (h : (decide (1 < n) && decide (n ≤ 9999) && (List.range 99).all fun j => decide (n % (2 + j) = 0 → n ≤ 2 + j)) = true) : Pr (n : Int) := by
  rw [Bool.and_eq_true, Bool.and_eq_true, decide_eq_true_eq, decide_eq_true_eq, List.all_eq_true] at h
  refine (trial (by omega) (by omega)).mp fun k k2 k100 kn e => ?_
  obtain ⟨j, hj⟩ := Int.eq_ofNat_of_zero_le (show 0 ≤ k - 2 by omega)
  have ek : k = ((2 + j : Nat) : Int) := by omega
  have := of_decide_eq_true (h.2 j (List.mem_range.mpr (by omega)))
  rw [ek, fm_nat] at e
  have := this (by omega)
  omega
def told9 : List Int := [2, 3, 5, 7, 11, 13, 97, 1009, 9973]
theorem told9_ok : ∀ x ∈ told9, ∃ q : Nat, x = ((q + 1 : Nat) : Int) ∧ Fer q ∧ q ≤ 9972 ∧ Pr ((q + 1 : Nat) : Int) := by
  intro x hx
  simp only [told9, List.mem_cons, List.not_mem_nil, or_false] at hx
  rcases hx with rfl | rfl | rfl | rfl | rfl | rfl | rfl | rfl | rfl
  · exact ⟨1, rfl, fer2, by decide, pr_small 2 (by decide +kernel)⟩
  · exact ⟨2, rfl, fer3, by decide, pr_small 3 (by decide +kernel)⟩
  · exact ⟨4, rfl, fer5, by decide, pr_small 5 (by decide +kernel)⟩
  · exact ⟨6, rfl, fer7, by decide, pr_small 7 (by decide +kernel)⟩
  · exact ⟨10, rfl, fer11, by decide, pr_small 11 (by decide +kernel)⟩
  · exact ⟨12, rfl, fer13, by decide, pr_small 13 (by decide +kernel)⟩
  · exact ⟨96, rfl, fer97, by decide, pr_small 97 (by decide +kernel)⟩
  · exact ⟨1008, rfl, fer1009, by decide, pr_small 1009 (by decide +kernel)⟩
  · exact ⟨9972, rfl, fer9973, by decide, pr_small 9973 (by decide +kernel)⟩
def b__law_prime : DS (Option Nat) :=
    (dThen (dSet 2 (dLc (dSeq false (dLst (dCons (dC (.int 2)) (dCons (dC (.int 3)) (dCons (dC (.int 5)) (dCons (dC (.int 7)) (dCons (dC (.int 11)) (dCons (dC (.int 13)) (dCons (dC (.int 97)) (dCons (dC (.int 1009)) (dCons (dC (.int 9973)) dNil))))))))))) (dgN 3) (dTst (dBin gLe (dVar 3) (dVar 1))) (dVar 3) [3]))
    (dRet (dBin (gIx false) (dVar 2) (dCall s__law_draw [] (dCons (dVar 0) (dCons (dB gLen (dCons (dVar 2) dNil)) dNil))))))

def s__law_prime : DSp (Option Nat) := fun ds m Q Z => ∃ (N : Nat) (most : Int), ds = [.hnd hdl, .int most] ∧ m = some N ∧ 1 ≤ N ∧ 2 ≤ most ∧ ∀ q : Nat, Fer q → q ≤ 9972 → Pr ((q + 1 : Nat) : Int) → ((q + 1 : Nat) : Int) ≤ most → Q (.int ((q + 1 : Nat) : Int)) (some (N - 1))
theorem vc__law_prime : ∀ ds (m : Option Nat) Q Z, s__law_prime ds m Q Z → okK [false, false] ds ∧ b__law_prime { nx := fun _ m' => Q .non m', rt := Q, ex := Z } (st0 [false, false] ds 4) m := by
  rintro ds m Q Z ⟨N, most, rfl, rfl, hN, hm, k⟩
  refine ⟨⟨fun _ => rfl, fun _ => rfl, trivial⟩, ?_⟩
  unfold b__law_prime
  repeat walk_at "s"
  refine v_kSeqL ?_
  show lcGo _ _ _ _ (told9.map D.int) _ _ _
  refine lcGo_filter (h := D.int) (keep := fun a => decide (a ≤ most)) told9 (fun a ha m1 K l hk hl => ?_) (small_line (by decide)) ?_
  · repeat walk_at "s"
    refine v_ifd (fun z => ?_) fun z => ?_
    · repeat walk_at "s"
      exact hk (decide_eq_true z)
    · exact hl (decide_eq_false z)
  rw [List.nil_append]
  rw [show (told9.filter fun a => decide (a ≤ most)).map D.int = zz (told9.filter fun a => decide (a ≤ most)) from rfl]
  have mem : (2 : Int) ∈ told9.filter fun a => decide (a ≤ most) := List.mem_filter.mpr ⟨by decide, decide_eq_true hm⟩
  have ln : (told9.filter fun a => decide (a ≤ most)).length ≤ 9 := List.length_filter_le ..
  have l0 : 0 < (told9.filter fun a => decide (a ≤ most)).length := List.length_pos_iff.mpr fun z => by rw [z] at mem; cases mem
  have ok : ∀ x ∈ told9.filter fun a => decide (a ≤ most), ∃ q : Nat, x = ((q + 1 : Nat) : Int) ∧ Fer q ∧ q ≤ 9972 ∧ Pr ((q + 1 : Nat) : Int) ∧ x ≤ most := fun x hx => by
    obtain ⟨h1, h2⟩ := List.mem_filter.mp hx
    obtain ⟨q, a, b, c, d⟩ := told9_ok x h1
    exact ⟨q, a, b, c, d, of_decide_eq_true h2⟩
  generalize (told9.filter fun a => decide (a ≤ most)) = L at ln l0 ok
  repeat walk_at "s"
  refine v_drawN hN (by omega) (by omega) fun i h0 h1 => ?_
  refine v_ixl h0 h1 ?_
  obtain ⟨q, e, hF, hq, hp, hl⟩ := ok _ (nth_mem h0 h1)
  rw [e]
  rw [e] at hl
  exact k q hF hq hp hl
def b__law_modrow : DS (Option Nat) :=
    (dThen (dSetO 3 (dLst dNil))
    (dThen (dFor (dRng1 (dCons (dCall s__law_draw [] (dCons (dVar 0) (dCons (dBin gAdd (dVar 2) (dC (.int 1))) dNil))) dNil)) (dgN 4)
      (dApp 3 (dBin (gIx false) (dLst (dCons (dC (.int 0)) (dCons (dC (.int 1)) (dCons (dBin (g0 fun i j => .int (i - j)) (dVar 1) (dC (.int 1))) (dCons (dCall s__law_draw [] (dCons (dVar 0) (dCons (dVar 1) dNil))) dNil))))) (dCall s__law_draw [] (dCons (dVar 0) (dCons (dC (.int 4)) dNil))))))
    (dRet (dCall s__law_cut [] (dCons (dOwn 3) dNil)))))

def s__law_modrow : DSp (Option Nat) := fun ds m Q Z => ∃ (N q : Nat) (most : Int), ds = [.hnd hdl, .int ((q + 1 : Nat) : Int), .int most] ∧ m = some N ∧ 1 ≤ q ∧ q ≤ 9999 ∧ 0 ≤ most ∧ most ≤ 1000 ∧ 2 * most + 1 ≤ N ∧ ∀ (f : Ser (Kp q)) (r : List Int) (N' : Nat), Mo f r → r.length ≤ most → N - (2 * most + 1) ≤ N' → Q (.tup (zz r)) (some N')
theorem vc__law_modrow : ∀ ds (m : Option Nat) Q Z, s__law_modrow ds m Q Z → okK [false, false, false] ds ∧ b__law_modrow { nx := fun _ m' => Q .non m', rt := Q, ex := Z } (st0 [false, false, false] ds 5) m := by
  rintro ds m Q Z ⟨N, q, most, rfl, rfl, hq1, hq, m0, m1, hN, k⟩
  refine ⟨⟨fun _ => rfl, fun _ => rfl, fun _ => rfl, trivial⟩, ?_⟩
  unfold b__law_modrow
  repeat walk_at "s"
  refine v_kO (by rfl) ?_
  repeat walk_at "s"
  refine v_drawN (by omega) (by omega) (by omega) fun x x0 x1 => ?_
  repeat walk_at "s"
  refine v_kR1 (by omega) (by omega) ?_
  refine v_kforR x.toNat (fun j ρ m => ∃ (acc : List Int) (a4 : Sl) (N' : Nat), ρ = [.val (.hnd hdl), .val (.int ((q + 1 : Nat) : Int)), .val (.int most), .own (zz acc), a4] ∧ m = some N' ∧ acc.length = j ∧ (∀ x ∈ acc, rg q x) ∧ N - 1 ≤ N' + 2 * j) ⟨[], _, N - 1, rfl, rfl, rfl, fun _ h => (nomatch h), by omega⟩ (fun ρ m h => ?_) fun j ρ m hj h => ?_
  · obtain ⟨acc, _, N', rfl, rfl, la, ga, hN'⟩ := h
    repeat walk_at "s"
    refine ⟨_, acc, rfl, isRow_l, by omega, fun r hr => k _ r N' (Mo.of hr ga rfl) (by have := R_len hr; omega) (by omega)⟩
  · obtain ⟨acc, _, N', rfl, rfl, la, ga, hN'⟩ := h
    repeat walk_at "s"
    refine v_drawN (by omega) (by omega) (by omega) fun y y0 y1 => ?_
    repeat walk_at "s"
    refine v_drawN (by omega) (by decide) (by decide) fun i i0 i1 => ?_
    refine v_ixl (xs := [0, 1, ((q + 1 : Nat) : Int) - 1, y]) i0 i1 ?_
    have hm : ∀ s ∈ [0, 1, ((q + 1 : Nat) : Int) - 1, y], rg q s := by
      intro s hs
      simp only [List.mem_cons, List.not_mem_nil, or_false] at hs
      rcases hs with rfl | rfl | rfl | rfl <;> exact ⟨by omega, by omega⟩
    have gv := hm _ (nth_mem i0 i1)
    generalize nth [0, 1, ((q + 1 : Nat) : Int) - 1, y] i = v at gv ⊢
    refine v_appk (by rfl) (by rw [zz, List.length_map]; omega) ?_
    rw [show zz acc ++ [.int v] = zz (acc ++ [v]) from zz_app (ys := [v])]
    refine ⟨acc ++ [v], _, N' - 1 - 1, rfl, rfl, by rw [List.length_append]; simp; omega, fun x hx => ?_, by omega⟩
    rcases List.mem_append.mp hx with h | h
    · exact ga x h
    · rw [List.mem_singleton.mp h]; exact gv
def b__law_is_common {M : Type} : DS M :=
    (dThen (dIte (dOr (dNot (dVal (dIsi "tuple" (dVar 0)))) (dOr (dTst (dBin gNe (dB gLen (dCons (dVar 0) dNil)) (dC (.int 3)))) (dNot (dVal (dB gAll (dCons (dLc (dSeq false (dVar 0)) (dgN 7) dYes (dCall s__law_is_modrow [] (dCons (dVar 7) (dCons (dVar 3) dNil))) [7]) dNil))))))
      (dRet (dC (.bl false)))
      dNext)
    (dThen (dAsg (dVar 0) (dgT 3 (dgCons (dgN 4) (dgCons (dgN 5) (dgCons (dgN 6) dgNil)))))
    (dThen (dIte (dAnd (dTst (dBin gEq (dVar 1) (dTup dNil))) (dTst (dBin gEq (dVar 2) (dTup dNil))))
      (dRet (dBin gEq (dVar 4) (dTup dNil)))
      dNext)
    (dThen (dIte (dOr (dTst (dBin gEq (dVar 4) (dTup dNil))) (dOr (dTst (dBin gNe (dBin (gIx false) (dVar 4) (dNeg (dC (.int 1)))) (dC (.int 1)))) (dOr (dTst (dBin gNe (dCall s__law_rest_by [] (dCons (dVar 1) (dCons (dVar 4) (dCons (dVar 3) dNil)))) (dTup dNil))) (dTst (dBin gNe (dCall s__law_rest_by [] (dCons (dVar 2) (dCons (dVar 4) (dCons (dVar 3) dNil)))) (dTup dNil))))))
      (dRet (dC (.bl false)))
      dNext)
    (dRet (dBin gEq (dCall s__law_rest [] (dCons (dCall s__law_sum [] (dCons (dCall s__law_product [] (dCons (dVar 5) (dCons (dVar 1) dNil))) (dCons (dCall s__law_product [] (dCons (dVar 6) (dCons (dVar 2) dNil))) (dCons (dC (.int 1)) dNil)))) (dCons (dVar 3) dNil))) (dVar 4)))))))

def s__law_is_common {M : Type} : DSp M := fun ds m Q Z => ∃ (q : Nat) (f g a s t : Ser (Kp q)) (F G A S T : List Int), ds = [.tup [.tup (zz A), .tup (zz S), .tup (zz T)], .tup (zz F), .tup (zz G), .int ((q + 1 : Nat) : Int)] ∧ Fer q ∧ q ≤ 9972 ∧ Mo f F ∧ Mo g G ∧ F.length ≤ 100 ∧ G.length ≤ 100 ∧
  Comm f g a s t ∧ Mo a A ∧ Mo s S ∧ Mo t T ∧ A.length ≤ 100 ∧ S.length ≤ 20000 ∧ T.length ≤ 20000 ∧ Q (.bl true) m
theorem vc__law_is_common {M : Type} : ∀ ds (m : M) Q Z, s__law_is_common ds m Q Z → okK [false, false, false, false] ds ∧ b__law_is_common { nx := fun _ m' => Q .non m', rt := Q, ex := Z } (st0 [false, false, false, false] ds 8) m := by
  rintro ds m Q Z ⟨q, f, g, a, s, t, F, G, A, S, T, rfl, hF, hq, hf, hg, lF, lG, cm, ha, hs, ht, lA, lS, lT, k⟩
  refine ⟨⟨fun _ => by show ((D.tup (zz A)).nl && ((D.tup (zz S)).nl && ((D.tup (zz T)).nl && true))) = true; rw [nl_row, nl_row, nl_row]; rfl, fun _ => nl_row F, fun _ => nl_row G, fun _ => rfl, trivial⟩, ?_⟩
  unfold b__law_is_common
  have q1 := hF.1
  have D := hF.dom
  obtain ⟨eq, alt⟩ := cm.good
  repeat walk_at "s"
  try ((with_reducible show @ite _ _ _ _ _); refine v_ifF ?_)
  repeat walk_at "s"
  try ((with_reducible show @ite _ _ _ _ _); refine v_ifF ?_)
  repeat walk_at "s"
  refine v_kSeqT ?_
  refine lc_cons ?_
  repeat walk_at "s"
  refine ⟨q, A, rfl, ha.dn, ha.lt, by omega, ?_⟩
  refine ⟨by unfold sizeLine; simp, ?_⟩
  refine lc_cons ?_
  repeat walk_at "s"
  refine ⟨q, S, rfl, hs.dn, hs.lt, by omega, ?_⟩
  refine ⟨by unfold sizeLine; simp, ?_⟩
  refine lc_cons ?_
  repeat walk_at "s"
  refine ⟨q, T, rfl, ht.dn, ht.lt, by omega, ?_⟩
  refine ⟨by unfold sizeLine; simp, ?_⟩
  refine lc_end ?_
  repeat walk_at "s"
  refine ⟨[true, true, true], rfl, ?_⟩
  repeat walk_at "s"
  try ((with_reducible show @ite _ _ _ _ _); refine v_ifF ?_)
  repeat walk_at "s"
  by_cases z : f = 0 ∧ g = 0
  · obtain ⟨f0, g0⟩ := z
    have F0 := hf.nil_iff.mp f0
    have G0 := hg.nil_iff.mp g0
    have A0 : A = [] := by
      rcases alt with ⟨_, _, h⟩ | ⟨⟨n, tn, cn⟩, _⟩
      · exact ha.nil_iff.mp h
      · refine absurd (show a = 0 by rw [eq, f0, g0]; grind) (top_ne tn)
    rw [decide_eq_true F0]
    repeat walk_at "s"
    rw [decide_eq_true G0]
    repeat walk_at "s"
    rw [decide_eq_true A0]
    exact k
  rcases alt with ⟨h1, h2, _⟩ | ⟨⟨n, tn, cn⟩, x, y, N, fx, fy, ex, ey⟩
  · exact absurd ⟨h1, h2⟩ z
  have A0 : A ≠ [] := fun e => top_ne tn (ha.nil_iff.mpr e)
  have en : n = A.length - 1 := top_uniq tn (ha.top A0)
  have last : A.getD (A.length - 1) 0 = 1 := by
    refine zc_inj (q := q) (rg_get ha.lt _) ⟨by omega, by omega⟩ ?_
    rw [ha.get, ← en, cn, zc_one]
  have tail : ∀ a7 : Sl, dThen (dIte (dOr (dTst (dBin gEq (dVar 4) (dTup dNil))) (dOr (dTst (dBin gNe (dBin (gIx false) (dVar 4) (dNeg (dC (.int 1)))) (dC (.int 1)))) (dOr (dTst (dBin gNe (dCall s__law_rest_by [] (dCons (dVar 1) (dCons (dVar 4) (dCons (dVar 3) dNil)))) (dTup dNil))) (dTst (dBin gNe (dCall s__law_rest_by [] (dCons (dVar 2) (dCons (dVar 4) (dCons (dVar 3) dNil)))) (dTup dNil))))))
      (dRet (dC (.bl false)))
      dNext)
    (dRet (dBin gEq (dCall s__law_rest [] (dCons (dCall s__law_sum [] (dCons (dCall s__law_product [] (dCons (dVar 5) (dCons (dVar 1) dNil))) (dCons (dCall s__law_product [] (dCons (dVar 6) (dCons (dVar 2) dNil))) (dCons (dC (.int 1)) dNil)))) (dCons (dVar 3) dNil))) (dVar 4)))
      { nx := fun _ m' => Q .non m', rt := Q, ex := Z } [.val (.tup [.tup (zz A), .tup (zz S), .tup (zz T)]), .val (.tup (zz F)), .val (.tup (zz G)), .val (.int ((q + 1 : Nat) : Int)), .val (.tup (zz A)), .val (.tup (zz S)), .val (.tup (zz T)), a7] m := fun a7 => by
    repeat walk_at "s"
    rw [decide_eq_false A0]
    repeat walk_at "s"
    refine v_ixm A0 ?_
    rw [last]
    repeat walk_at "s"
    rw [decide_eq_true rfl]
    repeat walk_at "s"
    try ((with_reducible show @ite _ _ _ _ _); refine v_ifF ?_)
    repeat walk_at "s"
    refine ⟨q, a, F, A, rfl, hF, by omega, ha, A0, by omega, by omega, fun v b r N2 hv e fr fb => ?_⟩
    obtain ⟨_, r0⟩ := div_uniq D (ha.top A0) (far_mono fb (Nat.le_max_left N2 N)) (far_mono fx (Nat.le_max_right N2 N)) fr far_zero (by rw [← e, hf.eq, ex]; grind)
    obtain rfl := hv.nil_iff.mp r0
    repeat walk_at "s"
    try ((with_reducible show @ite _ _ _ _ _); refine v_ifF ?_)
    repeat walk_at "s"
    refine ⟨q, a, G, A, rfl, hF, by omega, ha, A0, by omega, by omega, fun v b r N2 hv e fr fb => ?_⟩
    obtain ⟨_, r0⟩ := div_uniq D (ha.top A0) (far_mono fb (Nat.le_max_left N2 N)) (far_mono fy (Nat.le_max_right N2 N)) fr far_zero (by rw [← e, hg.eq, ey]; grind)
    obtain rfl := hv.nil_iff.mp r0
    repeat walk_at "s"
    try ((with_reducible show @ite _ _ _ _ _); refine v_ifF ?_)
    repeat walk_at "s"
    refine ⟨S, F, 20, 20, rfl, by omega, by omega, mo_bd (by omega) hs, mo_bd (by omega) hf, by decide, fun P1 hP1 => ?_⟩
    have B1 : B (S.length + F.length) (20 + 20 + S.length) (ser P1) := by rw [hP1.sr]; exact (B.of (Nat.le_refl _) (mo_bd (by omega) hs)).mul (B.of (Nat.le_refl _) (mo_bd (by omega) hf))
    have l1 := (R.mk hP1.dn rfl).len B1
    repeat walk_at "s"
    refine ⟨T, G, 20, 20, rfl, by omega, by omega, mo_bd (by omega) ht, mo_bd (by omega) hg, by decide, fun P2 hP2 => ?_⟩
    have B2 : B (T.length + G.length) (20 + 20 + T.length) (ser P2) := by rw [hP2.sr]; exact (B.of (Nat.le_refl _) (mo_bd (by omega) ht)).mul (B.of (Nat.le_refl _) (mo_bd (by omega) hg))
    have l2 := (R.mk hP2.dn rfl).len B2
    repeat walk_at "s"
    refine ⟨P1, P2, 1, 1, 20 + 20 + T.length, rfl, by omega, by omega, bd_lit (by decide), (R.mk hP2.dn rfl).bds B2, by omega, fun P3 hP3 => ?_⟩
    have l3 : P3.length ≤ max P1.length P2.length := (R.mk hP3.dn rfl).len (a := 100000 + 1) (by
      rw [hP3.sr]
      refine (B.add (B.of (n := P1.length) (a := 50000) (Nat.le_refl _) fun x hx => bd_mono ((R.mk hP1.dn rfl).bds B1 x hx) (by omega)) (B.scale (c := 1) (bd_lit (by decide)) (B.of (n := P2.length) (a := 50000) (Nat.le_refl _) fun x hx => bd_mono ((R.mk hP2.dn rfl).bds B2 x hx) (by omega)))).mono (by omega) (by omega))
    repeat walk_at "s"
    refine ⟨q, P3, rfl, by omega, fun r hr => ?_⟩
    obtain rfl : r = A := hr.uniq (ha.cong (by
      rw [hP3.sr, hP1.sr, hP2.sr, zs_add, zs_mul, zs_mul, zs_mul, zs_C, zc_one, C_one, hs.eq, hf.eq, ht.eq, hg.eq, eq]; grind))
    repeat walk_at "s"
    rw [decide_eq_true rfl]
    exact k
  by_cases z1 : F = []
  · rw [decide_eq_true z1]
    have z2 : G ≠ [] := fun e => z ⟨hf.nil_iff.mpr z1, hg.nil_iff.mpr e⟩
    repeat walk_at "s"
    rw [decide_eq_false z2]
    exact tail _
  · rw [decide_eq_false z1]
    exact tail _
end RR

/-! VMR5: divided, powers modulo a prime; what is refused -/
namespace RR
open PySem PySem.Spec PyProof.Rows L2
local macro_rules | `(tactic| walk_at "bd") => `(tactic| first | assumption | exact bd_lit (by decide) | (with_reducible refine bd_mul ?_ ?_ <;> walk_at "bd") | (with_reducible refine bd_add ?_ ?_ <;> walk_at "bd") | (with_reducible refine bd_sub ?_ ?_ <;> walk_at "bd") | (with_reducible refine bd_neg ?_ <;> walk_at "bd"))
local macro_rules | `(tactic| walk_at "s") => `(tactic| with_reducible first
  | refine v_then ?_ | refine v_set ?_ | (apply v_var; · with_unfolding_all exact rfl) | refine v_bin ?_ | refine v_c ?_ | refine v_g0 ?_ | refine v_add ?_ | refine v_cons ?_ | refine v_nil ?_ | refine v_call ?_ | refine v_dB ?_ | refine v_next ?_ | refine v_ret ?_
  | refine v_ite ?_ | refine v_tst ?_ | refine v_kT ?_ | refine v_eqi ?_ | refine v_nei ?_ | refine v_eqr ?_ | refine v_ner ?_ | refine v_eqr0 ?_ | refine v_ner0 ?_ | refine v_eql ?_ | refine v_nel ?_ | refine v_eql0 ?_ | refine v_nel0 ?_ | refine v_isN ?_ | refine v_notN ?_
  | (apply v_bor; · with_unfolding_all exact rfl) | (apply v_own; · with_unfolding_all exact rfl) | refine v_tup ?_ | refine v_lst ?_ | (refine v_sz ?_ ?_; (· with_unfolding_all exact Nat.le_of_ble_eq_true rfl)) | (refine v_gIIz ?_ ?_; (· first | decide | omega))
  | refine v_lentz ?_ | refine v_lenlz ?_ | refine v_lent ?_ | refine v_lenl ?_ | refine v_I1 ?_ | refine v_I2 ?_ | refine v_int ?_ | refine v_seqlz ?_ | refine v_seqtz ?_ | refine v_sl ?_ | refine v_kSll ?_ | refine v_kSlt ?_ | refine v_ono ?_ | refine v_oso ?_ | refine v_kOS ?_
  | refine v_val ?_ | refine v_kVb ?_ | refine v_kVi ?_ | refine v_kVt ?_ | refine v_kVl ?_ | refine v_and ?_ | refine v_or ?_ | refine v_not ?_ | refine v_yes ?_ | refine v_if' ?_ | refine v_isi ?_ | refine v_kIii ?_ | refine v_kIib ?_ | refine v_kItt ?_
  | refine v_andV ?_ | refine v_orV ?_ | refine v_notV ?_ | refine v_kNV ?_ | refine v_neg ?_ | refine v_kNeg ?_ | refine v_seq ?_ | refine v_kSeql ?_ | refine v_kSeqt ?_ | refine v_rng1 ?_ | refine v_rng2 ?_ | refine v_enum ?_ | refine v_revr ?_ | refine v_rev ?_
  | (refine v_kR1 ?_ ?_ ?_; (· decide); (· decide))
  | (refine v_kR2 ?_ ?_ ?_ ?_ ?_; (· decide); (· decide); (· decide); (· decide))
  | refine v_gn ?_ | refine v_gt2 ?_ | refine v_gt3 ?_ | refine v_lc ?_ | refine v_for ?_ | refine v_setO ?_ | refine v_drop ?_ | (apply v_app; · with_unfolding_all exact rfl) | (apply v_setI; · with_unfolding_all exact rfl) | (apply v_rel; · with_unfolding_all exact rfl) | refine v_raise ?_ | refine v_par ?_ | refine v_kP ?_ | refine v_asg ?_
  | (apply v_aug; · with_unfolding_all exact rfl) | refine v_ifT ?_ | refine v_ifF ?_ | (refine v_pow ?_ ?_ ?_ ?_; (· decide); (· decide); (· decide)) | refine v_call0 ?_ | (apply v_lenr; · assumption) | (apply v_seqr; · assumption) | (apply v_kSeqr; · assumption) | (apply v_kSlr; · assumption)
  | refine v_ix0 ?_ | refine v_ix1 ?_ | refine v_ix2 ?_ | refine v_zip ?_ | refine v_kZl ?_ | refine v_kZt ?_ | (apply v_augI; · with_unfolding_all exact rfl) | refine v_try ?_ | refine v_isE ?_ | (refine v_kIE ?_ ?_; (· with_unfolding_all exact rfl)) | refine v_isB ?_ | refine v_notB ?_ | refine v_all ?_ | refine v_par3 ?_ | refine v_ifnT ?_ | refine v_ifnF ?_ | refine v_eqs ?_ | refine v_nes ?_ | refine v_rvs ?_ | refine v_kRvl ?_ | refine v_kRvt ?_
  | (refine v_mulb (a := ?a) (b := ?b) ?ha ?hb ?l ?h; (case ha => assumption); (case hb => assumption); (case l => omega)) | (refine v_fdivb (b := ?b) ?h0 ?hb ?l ?h; (case h0 => assumption); (case hb => assumption); (case l => omega)))
theorem v_kIEh {M : Type} {Q : D → M → Prop} {m : M} {x : Str} {b : Bool} {r : List (Str × Bool)} (h : Q (.bl b) m) : kIE ((x, b) :: r) Q (.exc x) m := v_kIE (by unfold List.lookup; rw [beq_self_eq_true]) h
theorem v_kIE2 {M : Type} {Q : D → M → Prop} {m : M} {x y : Str} {b c : Bool} {r : List (Str × Bool)} (n : (y == x) = false) (h : Q (.bl c) m) : kIE ((x, b) :: (y, c) :: r) Q (.exc y) m := v_kIE (by unfold List.lookup; rw [n]; unfold List.lookup; rw [beq_self_eq_true]) h
local macro_rules | `(tactic| walk_at "s") => `(tactic| with_reducible first | refine v_kIEh ?_ | (refine v_kIE2 ?_ ?_; (· decide)))
theorem v_S1 {M : Type} {ρ : En} {m : M} {Q : D → M → Prop} {Z : Str → M → Prop} {g : Str → D → (D → Prop) → Prop} {z : Str} {u : DT M} (h : u ρ m (fun y m2 => g z y fun d => Q d m2) Z) : dS1 g (dC (.str z)) u ρ m Q Z := h
def b__law_word {M : Type} : DS M :=
    (dThen (dSet 1 (dLst (dCons (dTup (dCons (dC (.str "nought")) (dCons (dIsE [("BadPrime", false), ("ByNought", true)] (dVar 0)) dNil))) (dCons (dTup (dCons (dC (.str "prime")) (dCons (dIsE [("BadPrime", true), ("ByNought", false)] (dVar 0)) dNil))) dNil))))
    (dThen (dSet 1 (dBin gAdd (dVar 1) (dLst (dCons (dTup (dCons (dC (.str "text")) (dCons (dIsE [("BadPrime", false), ("ByNought", false)] (dVar 0)) dNil))) (dCons (dTup (dCons (dC (.str "great")) (dCons (dIsE [("BadPrime", false), ("ByNought", false)] (dVar 0)) dNil))) dNil)))))
    (dThen (dSet 1 (dBin gAdd (dVar 1) (dLst (dCons (dTup (dCons (dC (.str "row")) (dCons (dIsE [("BadPrime", false), ("ByNought", false)] (dVar 0)) dNil))) (dCons (dTup (dCons (dC (.str "other")) (dCons (dNotV (dIsE [("BadPrime", true), ("ByNought", true)] (dVar 0))) dNil))) dNil)))))
    (dRet (dS1 gJoin (dC (.str " ")) (dLc (dSeq false (dVar 1)) (dgT 2 (dgCons (dgN 2) (dgCons (dgN 3) dgNil))) (dVal (dVar 3)) (dVar 2) [2, 3]))))))

def s__law_word {M : Type} : DSp M := fun ds m Q Z => ∃ x, ds = [.exc x] ∧ ((x = "BadPrime" ∧ Q (.str "prime") m) ∨ (x = "ByNought" ∧ Q (.str "nought") m))
theorem join_one (z x : Str) : Txt.join z [x] = x := by
  unfold Txt.join
  rfl
theorem vc__law_word {M : Type} : ∀ ds (m : M) Q Z, s__law_word ds m Q Z → okK [false] ds ∧ b__law_word { nx := fun _ m' => Q .non m', rt := Q, ex := Z } (st0 [false] ds 4) m := by
  rintro ds m Q Z ⟨x, rfl, h⟩
  refine ⟨⟨fun _ => rfl, trivial⟩, ?_⟩
  unfold b__law_word
  rcases h with ⟨rfl, k⟩ | ⟨rfl, k⟩
  · repeat walk_at "s"
    refine v_addl (by simp) (by rfl) (by rfl) ?_
    repeat walk_at "s"
    refine v_addl (by simp) (by rfl) (by rfl) ?_
    refine v_ret ?_
    refine v_S1 ?_
    repeat walk_at "s"
    refine v_kSeqL ?_
    refine lc_cons ?_
    repeat walk_at "s"
    refine lc_cons ?_
    repeat walk_at "s"
    refine ⟨by unfold sizeLine; simp, ?_⟩
    refine lc_cons ?_
    repeat walk_at "s"
    refine lc_cons ?_
    repeat walk_at "s"
    refine lc_cons ?_
    repeat walk_at "s"
    refine lc_cons ?_
    repeat walk_at "s"
    refine lc_end ?_
    refine ⟨["prime"], rfl, by decide, ?_⟩
    rw [join_one]
    exact k
  · repeat walk_at "s"
    refine v_addl (by simp) (by rfl) (by rfl) ?_
    repeat walk_at "s"
    refine v_addl (by simp) (by rfl) (by rfl) ?_
    refine v_ret ?_
    refine v_S1 ?_
    repeat walk_at "s"
    refine v_kSeqL ?_
    refine lc_cons ?_
    repeat walk_at "s"
    refine ⟨by unfold sizeLine; simp, ?_⟩
    refine lc_cons ?_
    repeat walk_at "s"
    refine lc_cons ?_
    repeat walk_at "s"
    refine lc_cons ?_
    repeat walk_at "s"
    refine lc_cons ?_
    repeat walk_at "s"
    refine lc_cons ?_
    repeat walk_at "s"
    refine lc_end ?_
    refine ⟨["nought"], rfl, by decide, ?_⟩
    rw [join_one]
    exact k
def b_modrows_need_other {M : Type} : DS M :=
    (dIte (dTst (dBin gEq (dVar 0) (dTup dNil)))
      (dRaise "ByNought")
      dNext)

def s_modrows_need_other {M : Type} : DSp M := fun ds m Q Z => ∃ xs, ds = [.tup (zz xs)] ∧ (xs = [] → Z "ByNought" m) ∧ (xs ≠ [] → Q .non m)
theorem vc_modrows_need_other {M : Type} : ∀ ds (m : M) Q Z, s_modrows_need_other ds m Q Z → okK [false] ds ∧ b_modrows_need_other { nx := fun _ m' => Q .non m', rt := Q, ex := Z } (st0 [false] ds 1) m := by
  rintro ds m Q Z ⟨xs, rfl, z, k⟩
  refine ⟨⟨fun _ => nl_row xs, trivial⟩, ?_⟩
  unfold b_modrows_need_other
  repeat walk_at "s"
  refine v_ifd (fun h => ?_) fun h => ?_
  · repeat walk_at "s"
    exact z h
  · repeat walk_at "s"
    exact k h
/-- what need_prime says: a prime let by, or refused -/
def GoodP (q : Nat) (x : D) : Prop := x = .int ((q + 1 : Nat) : Int) ∧ Fer q ∧ q ≤ 9972 ∧ Pr ((q + 1 : Nat) : Int)
theorem need_good {M : Type} {q : Nat} {x : D} {m : M} {Q : D → M → Prop} {Z : Str → M → Prop} (h : GoodP q x) (k : Q .non m) : s_numbers_need_prime [x] m Q Z := by
  obtain ⟨rfl, _, h, hp⟩ := h
  exact ⟨_, rfl, .inl ⟨_, rfl, fun _ _ => k, fun z => absurd ⟨hp, by omega⟩ z⟩⟩
theorem need_bad {M : Type} {x : D} {m : M} {Q : D → M → Prop} {Z : Str → M → Prop} (h : Refd x) (k : Z "BadPrime" m) : s_numbers_need_prime [x] m Q Z := by
  rcases h with ⟨n, rfl, h⟩ | ⟨t, h1, h2⟩
  · exact ⟨_, rfl, .inl ⟨_, rfl, fun a b => absurd ⟨a, b⟩ h, fun _ => k⟩⟩
  · exact ⟨_, rfl, .inr ⟨t, h1, h2, k⟩⟩
def b_modrows_mod_divided {M : Type} : DS M :=
    (dThen (dDrop (dCall s_numbers_need_prime [] (dCons (dBor 2) dNil)))
    (dThen (dDrop (dCall s_modrows_need_other [] (dCons (dVar 1) dNil)))
    (dRet (dCall s_modrows_parted_by [] (dCons (dVar 0) (dCons (dVar 1) (dCons (dBor 2) dNil)))))))

def s_modrows_mod_divided {M : Type} : DSp M := fun ds m Q Z => ∃ (F G : List Int) (x : D), ds = [.tup (zz F), .tup (zz G), x] ∧ ((Refd x ∧ Z "BadPrime" m) ∨ ∃ (q : Nat) (f g : Ser (Kp q)), GoodP q x ∧ Mo f F ∧ Mo g G ∧ F.length ≤ 100000 ∧ G.length ≤ 100000 ∧ (G = [] → Z "ByNought" m) ∧
  (G ≠ [] → ∀ (u v : List Int) (a r : Ser (Kp q)), Mo a u → Mo r v → f = a * g + r → far (G.length - 1) r → u.length ≤ F.length → v.length ≤ F.length → Q (.tup [.tup (zz u), .tup (zz v)]) m))
theorem vc_modrows_mod_divided {M : Type} : ∀ ds (m : M) Q Z, s_modrows_mod_divided ds m Q Z → okK [false, false, true] ds ∧ b_modrows_mod_divided { nx := fun _ m' => Q .non m', rt := Q, ex := Z } (st0 [false, false, true] ds 3) m := by
  rintro ds m Q Z ⟨F, G, x, rfl, h⟩
  refine ⟨⟨fun _ => nl_row F, fun _ => nl_row G, fun h => (nomatch h), trivial⟩, ?_⟩
  unfold b_modrows_mod_divided
  rcases h with ⟨hx, k⟩ | ⟨q, f, g, hx, hf, hg, lF, lG, z, k⟩
  · repeat walk_at "s"
    exact need_bad hx k
  · repeat walk_at "s"
    refine need_good hx ?_
    obtain ⟨rfl, hF, hq, hp⟩ := hx
    repeat walk_at "s"
    refine ⟨G, rfl, z, fun G0 => ?_⟩
    repeat walk_at "s"
    exact ⟨q, f, g, F, G, rfl, hF, by omega, hf, hg, G0, lF, lG, k G0⟩
def b_modrows_power_by {M : Type} : DS M :=
    (dThen (dSet 4 (dBin (gIx false) (dCall s_modrows_parted_by [] (dCons (dTup (dCons (dC (.int 1)) dNil)) (dCons (dVar 2) (dCons (dVar 3) dNil)))) (dC (.int 1))))
    (dThen (dSet 5 (dBin (gIx false) (dCall s_modrows_parted_by [] (dCons (dVar 0) (dCons (dVar 2) (dCons (dVar 3) dNil)))) (dC (.int 1))))
    (dThen (dWhile (dTst (dBin gGt (dVar 1) (dC (.int 0))))
      (dThen (dIte (dTst (dBin gEq (dBin (gII Nz fun i j => .int (i.fmod j)) (dVar 1) (dC (.int 2))) (dC (.int 1))))
      (dSet 4 (dBin (gIx false) (dCall s_modrows_parted_by [] (dCons (dCall s_modrows_product_by [] (dCons (dVar 4) (dCons (dVar 5) (dCons (dVar 3) dNil)))) (dCons (dVar 2) (dCons (dVar 3) dNil)))) (dC (.int 1))))
      dNext)
    (dThen (dSet 5 (dBin (gIx false) (dCall s_modrows_parted_by [] (dCons (dCall s_modrows_product_by [] (dCons (dVar 5) (dCons (dVar 5) (dCons (dVar 3) dNil)))) (dCons (dVar 2) (dCons (dVar 3) dNil)))) (dC (.int 1))))
    (dSet 1 (dBin (gII Nd fun i j => .int (i.fdiv j)) (dVar 1) (dC (.int 2)))))))
    (dRet (dVar 4)))))

def s_modrows_power_by {M : Type} : DSp M := fun ds m Q Z => ∃ (q : Nat) (f g : Ser (Kp q)) (F G : List Int) (n : Nat), ds = [.tup (zz F), .int n, .tup (zz G), .int ((q + 1 : Nat) : Int)] ∧ Fer q ∧ q ≤ 9999 ∧ Mo f F ∧ Mo g G ∧ G ≠ [] ∧ F.length ≤ 1000 ∧ G.length ≤ 1000 ∧
  ∀ (v : List Int) (a r : Ser (Kp q)) (N : Nat), Mo r v → f ^ n = a * g + r → far (G.length - 1) r → far N a → Q (.tup (zz v)) m
/-- alike up to so often g -/
def Cg {K : Type} [Lean.Grind.CommRing K] (g a b : Ser K) : Prop := ∃ (u : Ser K) (N : Nat), far N u ∧ a = u * g + b
section
variable {K : Type} [Lean.Grind.CommRing K] {g a b c d : Ser K}
theorem Cg.refl : Cg g a a := ⟨0, 0, far_zero, by grind⟩
theorem Cg.trans (h : Cg g a b) (h' : Cg g b c) : Cg g a c := by
  obtain ⟨u, N, fu, e⟩ := h
  obtain ⟨v, N', fv, e'⟩ := h'
  exact ⟨u + v, N + N', far_add (far_mono fu (by omega)) (far_mono fv (by omega)), by rw [e, e']; grind⟩
theorem Cg.mul {n k : Nat} (h : Cg g a b) (h' : Cg g c d) (fb : far n b) (fc : far k c) : Cg g (a * c) (b * d) := by
  obtain ⟨u, N, fu, e⟩ := h
  obtain ⟨v, N', fv, e'⟩ := h'
  exact ⟨u * c + b * v, N + k + n + N', far_add (far_mono (far_mul fu fc) (by omega)) (far_mono (far_mul fb fv) (by omega)), by
    rw [e, show (u * g + b) * c = u * g * c + b * c by grind]
    rw [show b * c = b * (v * g + d) by rw [← e']]; grind⟩
theorem far_pow {n : Nat} (h : far n a) : ∀ k : Nat, ∃ N, far N (a ^ k)
  | 0 => ⟨1, by rw [Lean.Grind.Semiring.pow_zero]; exact far_one⟩
  | k + 1 => by
    obtain ⟨N, hN⟩ := far_pow h k
    exact ⟨N + n, by rw [Lean.Grind.Semiring.pow_succ]; exact far_mono (far_mul hN h) (by omega)⟩
end
end RR

/-! VMR6: powers modulo a prime -/
namespace RR
open PySem PySem.Spec PyProof.Rows L2
local macro_rules | `(tactic| walk_at "bd") => `(tactic| first | assumption | exact bd_lit (by decide) | (with_reducible refine bd_mul ?_ ?_ <;> walk_at "bd") | (with_reducible refine bd_add ?_ ?_ <;> walk_at "bd") | (with_reducible refine bd_sub ?_ ?_ <;> walk_at "bd") | (with_reducible refine bd_neg ?_ <;> walk_at "bd"))
local macro_rules | `(tactic| walk_at "s") => `(tactic| with_reducible first
  | refine v_then ?_ | refine v_set ?_ | (apply v_var; · with_unfolding_all exact rfl) | refine v_bin ?_ | refine v_c ?_ | refine v_g0 ?_ | refine v_add ?_ | refine v_cons ?_ | refine v_nil ?_ | refine v_call ?_ | refine v_dB ?_ | refine v_next ?_ | refine v_ret ?_
  | refine v_ite ?_ | refine v_tst ?_ | refine v_kT ?_ | refine v_eqi ?_ | refine v_nei ?_ | refine v_eqr ?_ | refine v_ner ?_ | refine v_eqr0 ?_ | refine v_ner0 ?_ | refine v_eql ?_ | refine v_nel ?_ | refine v_eql0 ?_ | refine v_nel0 ?_ | refine v_isN ?_ | refine v_notN ?_
  | (apply v_bor; · with_unfolding_all exact rfl) | (apply v_own; · with_unfolding_all exact rfl) | refine v_tup ?_ | refine v_lst ?_ | (refine v_sz ?_ ?_; (· with_unfolding_all exact Nat.le_of_ble_eq_true rfl)) | (refine v_gIIz ?_ ?_; (· first | decide | omega))
  | refine v_lentz ?_ | refine v_lenlz ?_ | refine v_lent ?_ | refine v_lenl ?_ | refine v_I1 ?_ | refine v_I2 ?_ | refine v_int ?_ | refine v_seqlz ?_ | refine v_seqtz ?_ | refine v_sl ?_ | refine v_kSll ?_ | refine v_kSlt ?_ | refine v_ono ?_ | refine v_oso ?_ | refine v_kOS ?_
  | refine v_val ?_ | refine v_kVb ?_ | refine v_kVi ?_ | refine v_kVt ?_ | refine v_kVl ?_ | refine v_and ?_ | refine v_or ?_ | refine v_not ?_ | refine v_yes ?_ | refine v_if' ?_ | refine v_isi ?_ | refine v_kIii ?_ | refine v_kIib ?_ | refine v_kItt ?_
  | refine v_andV ?_ | refine v_orV ?_ | refine v_notV ?_ | refine v_kNV ?_ | refine v_neg ?_ | refine v_kNeg ?_ | refine v_seq ?_ | refine v_kSeql ?_ | refine v_kSeqt ?_ | refine v_rng1 ?_ | refine v_rng2 ?_ | refine v_enum ?_ | refine v_revr ?_ | refine v_rev ?_
  | (refine v_kR1 ?_ ?_ ?_; (· decide); (· decide))
  | (refine v_kR2 ?_ ?_ ?_ ?_ ?_; (· decide); (· decide); (· decide); (· decide))
  | refine v_gn ?_ | refine v_gt2 ?_ | refine v_gt3 ?_ | refine v_lc ?_ | refine v_for ?_ | refine v_setO ?_ | refine v_drop ?_ | (apply v_app; · with_unfolding_all exact rfl) | (apply v_setI; · with_unfolding_all exact rfl) | (apply v_rel; · with_unfolding_all exact rfl) | refine v_raise ?_ | refine v_par ?_ | refine v_kP ?_ | refine v_asg ?_
  | (apply v_aug; · with_unfolding_all exact rfl) | refine v_ifT ?_ | refine v_ifF ?_ | (refine v_pow ?_ ?_ ?_ ?_; (· decide); (· decide); (· decide)) | refine v_call0 ?_ | (apply v_lenr; · assumption) | (apply v_seqr; · assumption) | (apply v_kSeqr; · assumption) | (apply v_kSlr; · assumption)
  | refine v_ix0 ?_ | refine v_ix1 ?_ | refine v_ix2 ?_ | refine v_zip ?_ | refine v_kZl ?_ | refine v_kZt ?_ | (apply v_augI; · with_unfolding_all exact rfl) | refine v_try ?_ | refine v_isE ?_ | (refine v_kIE ?_ ?_; (· with_unfolding_all exact rfl)) | refine v_isB ?_ | refine v_notB ?_ | refine v_all ?_ | refine v_par3 ?_ | refine v_ifnT ?_ | refine v_ifnF ?_ | refine v_eqs ?_ | refine v_nes ?_ | refine v_rvs ?_ | refine v_kRvl ?_ | refine v_kRvt ?_
  | (refine v_mulb (a := ?a) (b := ?b) ?ha ?hb ?l ?h; (case ha => assumption); (case hb => assumption); (case l => omega)) | (refine v_fdivb (b := ?b) ?h0 ?hb ?l ?h; (case h0 => assumption); (case hb => assumption); (case l => omega)))
theorem Cg.pow {K : Type} [Lean.Grind.CommRing K] {g a b : Ser K} {n k : Nat} (h : Cg g a b) (fa : far n a) (fb : far k b) : ∀ j : Nat, Cg g (a ^ j) (b ^ j)
  | 0 => by rw [Lean.Grind.Semiring.pow_zero, Lean.Grind.Semiring.pow_zero]; exact .refl
  | j + 1 => by
    obtain ⟨N, hN⟩ := far_pow fb j
    rw [Lean.Grind.Semiring.pow_succ, Lean.Grind.Semiring.pow_succ]
    exact (Cg.pow h fa fb j).mul h hN fa
theorem mo_one {q : Nat} (q1 : 1 ≤ q) : Mo (1 : Ser (Kp q)) [1] := ⟨rfl, fun x hx => by obtain rfl := List.mem_singleton.mp hx; exact ⟨by omega, by omega⟩, by
    rw [ser_cons, ser_nil, C_one, show (1 : Ser Int) + xp 1 * 0 = 1 by grind, zs_one]⟩
theorem vc_modrows_power_by {M : Type} : ∀ ds (m : M) Q Z, s_modrows_power_by ds m Q Z → okK [false, false, false, false] ds ∧ b_modrows_power_by { nx := fun _ m' => Q .non m', rt := Q, ex := Z } (st0 [false, false, false, false] ds 6) m := by
  rintro ds m Q Z ⟨q, f, g, F, G, n, rfl, hF, hq, hf, hg, G0, lF, lG, k⟩
  refine ⟨⟨fun _ => nl_row F, fun _ => rfl, fun _ => nl_row G, fun _ => rfl, trivial⟩, ?_⟩
  unfold b_modrows_power_by
  have g1 := List.length_pos_iff.mpr G0
  repeat walk_at "s"
  refine ⟨q, 1, g, [1], G, rfl, hF, by omega, mo_one hF.1, hg, G0, by simp, by omega, fun u v a r ha hr e fr _ lv => ?_⟩
  repeat walk_at "s"
  refine ⟨q, f, g, F, G, rfl, hF, by omega, hf, hg, G0, by omega, by omega, fun u2 v2 a2 r2 ha2 hr2 e2 fr2 _ lv2 => ?_⟩
  repeat walk_at "s"
  refine v_while (fun j ρ m' => m' = m ∧ ∃ (l : Nat) (x y : Ser (Kp q)) (X Y : List Int), ρ = [.val (.tup (zz F)), .val (.int l), .val (.tup (zz G)), .val (.int ((q + 1 : Nat) : Int)), .val (.tup (zz X)), .val (.tup (zz Y))] ∧ l = j ∧ Mo x X ∧ Mo y Y ∧ far (G.length - 1) x ∧ far (G.length - 1) y ∧ Cg g (f ^ n) (x * y ^ l)) n
    ⟨rfl, n, r, r2, v, v2, rfl, rfl, hr, hr2, fr, fr2, by
      have c1 : Cg g 1 r := ⟨a, _, ha.far, e⟩
      have c2 : Cg g f r2 := ⟨a2, _, ha2.far, e2⟩
      obtain ⟨N, hN⟩ := far_pow hf.far n
      have := c1.mul (c2.pow hf.far hr2.far n) hr.far hN
      rwa [show (1 : Ser (Kp q)) * f ^ n = f ^ n by grind] at this⟩ fun j ρ m' h => ?_
  obtain ⟨rfl, l, x, y, X, Y, rfl, rfl, hx, hy, fx, fy, c⟩ := h
  have z2 : (2 : Int) ≠ 0 := by decide
  have b2 : bd 2 (2 : Int) := bd_lit (by decide)
  have lX := mo_len hx fx
  have lY := mo_len hy fy
  repeat walk_at "s"
  refine v_ifd (fun h => ?_) fun h => ?_
  · repeat walk_at "s"
    rw [show Int.fmod (l : Int) 2 = ((l % 2 : Nat) : Int) from fm_nat l 2]
    have sq : ∀ {y2 a3 : Ser (Kp q)} {N3 : Nat}, far N3 a3 → y * y = a3 * g + y2 → Cg g ((y * y) ^ (l / 2)) (y2 ^ (l / 2)) := fun {y2 a3 N3} fa e3 => by
      have f2 : far (Y.length + Y.length) (y * y) := far_mono (far_mul hy.far hy.far) (by omega)
      have f3 : far (max (Y.length + Y.length) (N3 + G.length)) y2 := by
        rw [show y2 = y * y - a3 * g by rw [e3]; grind]
        exact far_sub (far_mono f2 (by omega)) (far_mono (far_mul fa hg.far) (by omega))
      exact Cg.pow ⟨a3, _, fa, e3⟩ f2 f3 _
    refine v_ifd (fun h1 => ?_) fun h1 => ?_
    · repeat walk_at "s"
      refine ⟨q, X, Y, 20, 20, rfl, by omega, by omega, mo_bd (by omega) hx, mo_bd (by omega) hy, by decide, fun P1 hP1 => ?_⟩
      rw [hx.eq, hy.eq] at hP1
      have lP := mo_len hP1 (far_mul hx.far hy.far)
      repeat walk_at "s"
      refine ⟨q, _, g, P1, G, rfl, hF, by omega, hP1, hg, G0, by omega, by omega, fun _ X2 a1 x2 ha1 hx2 e1 fx2 _ _ => ?_⟩
      repeat walk_at "s"
      refine ⟨q, Y, Y, 20, 20, rfl, by omega, by omega, mo_bd (by omega) hy, mo_bd (by omega) hy, by decide, fun P2 hP2 => ?_⟩
      rw [hy.eq] at hP2
      have lP2 := mo_len hP2 (far_mul hy.far hy.far)
      repeat walk_at "s"
      refine ⟨q, _, g, P2, G, rfl, hF, by omega, hP2, hg, G0, by omega, by omega, fun _ Y2 a3 y2 ha3 hy2 e3 fy2 _ _ => ?_⟩
      repeat walk_at "s"
      rw [show Int.fdiv (l : Int) 2 = ((l / 2 : Nat) : Int) from fd_nat l 2]
      refine ⟨l / 2, by omega, rfl, l / 2, x2, y2, X2, Y2, rfl, rfl, hx2, hy2, fx2, fy2, c.trans ?_⟩
      obtain ⟨N, hN⟩ := far_pow (far_mul hy.far hy.far) (l / 2)
      have := (show Cg g (x * y) x2 from ⟨a1, _, ha1.far, e1⟩).mul (sq ha3.far e3) hx2.far hN
      rw [sq_pow] at this
      rwa [show x * y * y ^ (2 * (l / 2)) = x * y ^ l by
        rw [show l = 2 * (l / 2) + 1 by omega, Lean.Grind.Semiring.pow_succ, show (2 * (l / 2) + 1) / 2 = l / 2 by omega]; grind] at this
    · repeat walk_at "s"
      refine ⟨q, Y, Y, 20, 20, rfl, by omega, by omega, mo_bd (by omega) hy, mo_bd (by omega) hy, by decide, fun P2 hP2 => ?_⟩
      rw [hy.eq] at hP2
      have lP2 := mo_len hP2 (far_mul hy.far hy.far)
      repeat walk_at "s"
      refine ⟨q, _, g, P2, G, rfl, hF, by omega, hP2, hg, G0, by omega, by omega, fun _ Y2 a3 y2 ha3 hy2 e3 fy2 _ _ => ?_⟩
      repeat walk_at "s"
      rw [show Int.fdiv (l : Int) 2 = ((l / 2 : Nat) : Int) from fd_nat l 2]
      refine ⟨l / 2, by omega, rfl, l / 2, x, y2, X, Y2, rfl, rfl, hx, hy2, fx, fy2, c.trans ?_⟩
      obtain ⟨N, hN⟩ := far_pow (far_mul hy.far hy.far) (l / 2)
      have := (show Cg g x x from .refl).mul (sq ha3.far e3) hx.far hN
      rw [sq_pow] at this
      rwa [show 2 * (l / 2) = l by omega] at this
  · obtain rfl : l = 0 := by omega
    repeat walk_at "s"
    rw [Lean.Grind.Semiring.pow_zero, Lean.Grind.Semiring.mul_one] at c
    obtain ⟨u3, N, fu, e3⟩ := c
    exact k X u3 x N hx e3 fx fu
def b_modrows_mod_power {M : Type} : DS M :=
    (dThen (dDrop (dCall s_numbers_need_prime [] (dCons (dBor 3) dNil)))
    (dThen (dDrop (dCall s_modrows_need_other [] (dCons (dVar 2) dNil)))
    (dRet (dCall s_modrows_power_by [] (dCons (dVar 0) (dCons (dVar 1) (dCons (dVar 2) (dCons (dBor 3) dNil))))))))

def s_modrows_mod_power {M : Type} : DSp M := fun ds m Q Z => ∃ (F G : List Int) (n : Nat) (p : D), ds = [.tup (zz F), .int n, .tup (zz G), p] ∧ ((Refd p ∧ Z "BadPrime" m) ∨ ∃ (q : Nat) (f g : Ser (Kp q)), GoodP q p ∧ Mo f F ∧ Mo g G ∧ F.length ≤ 1000 ∧ G.length ≤ 1000 ∧ (G = [] → Z "ByNought" m) ∧
  (G ≠ [] → ∀ (v : List Int) (a r : Ser (Kp q)) (N : Nat), Mo r v → f ^ n = a * g + r → far (G.length - 1) r → far N a → Q (.tup (zz v)) m))
theorem vc_modrows_mod_power {M : Type} : ∀ ds (m : M) Q Z, s_modrows_mod_power ds m Q Z → okK [false, false, false, true] ds ∧ b_modrows_mod_power { nx := fun _ m' => Q .non m', rt := Q, ex := Z } (st0 [false, false, false, true] ds 4) m := by
  rintro ds m Q Z ⟨F, G, n, x, rfl, h⟩
  refine ⟨⟨fun _ => nl_row F, fun _ => rfl, fun _ => nl_row G, fun h => (nomatch h), trivial⟩, ?_⟩
  unfold b_modrows_mod_power
  rcases h with ⟨hx, k⟩ | ⟨q, f, g, hx, hf, hg, lF, lG, z, k⟩
  · repeat walk_at "s"
    exact need_bad hx k
  · repeat walk_at "s"
    refine need_good hx ?_
    obtain ⟨rfl, hF, hq, hp⟩ := hx
    repeat walk_at "s"
    refine ⟨G, rfl, z, fun G0 => ?_⟩
    repeat walk_at "s"
    exact ⟨q, f, g, F, G, n, rfl, hF, by omega, hf, hg, G0, lF, lG, k G0⟩
end RR

/-! VFF: rows modulo a prime up to multiples of a row without factors: a field with so many elements -/
namespace RR
section
variable {K : Type} [Lean.Grind.CommRing K]
/-- bounded -/
def Bo (a : Ser K) : Prop := ∃ N, far N a
theorem Bo.of {n : Nat} {a : Ser K} (h : far n a) : Bo a := ⟨n, h⟩
theorem Bo.add {a b : Ser K} (h : Bo a) (h' : Bo b) : Bo (a + b) := by
  obtain ⟨n, h⟩ := h; obtain ⟨k, h'⟩ := h'
  exact ⟨n + k, far_add (far_mono h (by omega)) (far_mono h' (by omega))⟩
theorem Bo.sub {a b : Ser K} (h : Bo a) (h' : Bo b) : Bo (a - b) := by
  obtain ⟨n, h⟩ := h; obtain ⟨k, h'⟩ := h'
  exact ⟨n + k, far_sub (far_mono h (by omega)) (far_mono h' (by omega))⟩
theorem Bo.neg {a : Ser K} (h : Bo a) : Bo (-a) := by obtain ⟨n, h⟩ := h; exact ⟨n, far_neg h⟩
theorem Bo.mul {a b : Ser K} (h : Bo a) (h' : Bo b) : Bo (a * b) := by
  obtain ⟨n, h⟩ := h; obtain ⟨k, h'⟩ := h'
  exact ⟨n + k - 1, far_mul h h'⟩
theorem Bo.pow {a : Ser K} (h : Bo a) (k : Nat) : Bo (a ^ k) := by obtain ⟨n, h⟩ := h; exact far_pow h k
theorem Bo.zero : Bo (0 : Ser K) := ⟨0, far_zero⟩
theorem Bo.one : Bo (1 : Ser K) := ⟨1, far_one⟩
theorem Bo.C {c : K} : Bo (Ser.C c) := ⟨1, far_C⟩
theorem far_xp1 (k : Nat) : far (k + 1) (xp k : Ser K) := fun j hj => by rw [xp_co, if_neg (by omega)]
theorem Bo.xp {k : Nat} : Bo (xp k : Ser K) := ⟨k + 1, far_xp1 k⟩
/-- a multiple -/
def Mu (f a : Ser K) : Prop := ∃ u, Bo u ∧ a = u * f
theorem Mu.zero {f : Ser K} : Mu f 0 := ⟨0, .zero, by grind⟩
theorem Mu.self {f : Ser K} : Mu f f := ⟨1, .one, by grind⟩
theorem Mu.add {f a b : Ser K} (h : Mu f a) (h' : Mu f b) : Mu f (a + b) := by
  obtain ⟨u, bu, rfl⟩ := h; obtain ⟨v, bv, rfl⟩ := h'
  exact ⟨u + v, bu.add bv, by grind⟩
theorem Mu.sub {f a b : Ser K} (h : Mu f a) (h' : Mu f b) : Mu f (a - b) := by
  obtain ⟨u, bu, rfl⟩ := h; obtain ⟨v, bv, rfl⟩ := h'
  exact ⟨u - v, bu.sub bv, by grind⟩
theorem Mu.mul {f a : Ser K} {b : Ser K} (h : Mu f a) (hb : Bo b) : Mu f (b * a) := by
  obtain ⟨u, bu, rfl⟩ := h
  exact ⟨b * u, hb.mul bu, by grind⟩
theorem Mu.trans {f g a : Ser K} (h : Mu f g) (h' : Mu g a) : Mu f a := by
  obtain ⟨u, bu, rfl⟩ := h; obtain ⟨v, bv, rfl⟩ := h'
  exact ⟨v * u, bv.mul bu, by grind⟩
theorem Cg.mu {g a b : Ser K} (h : Cg g a b) : Mu g (a - b) := by
  obtain ⟨u, N, fu, e⟩ := h
  exact ⟨u, ⟨N, fu⟩, by rw [e]; grind⟩
theorem Mu.cg {g a b : Ser K} (h : Mu g (a - b)) : Cg g a b := by
  obtain ⟨u, ⟨N, fu⟩, e⟩ := h
  exact ⟨u, N, fu, by rw [← e]; grind⟩
theorem Cg.symm {g a b : Ser K} (h : Cg g a b) : Cg g b a := by
  obtain ⟨u, N, fu, e⟩ := h
  exact ⟨-u, N, far_neg fu, by rw [e]; grind⟩
theorem Cg.mulB {g a b c d : Ser K} (h : Cg g a b) (h' : Cg g c d) (fb : Bo b) (fc : Bo c) : Cg g (a * c) (b * d) := by
  obtain ⟨n, fb⟩ := fb; obtain ⟨k, fc⟩ := fc
  exact h.mul h' fb fc
theorem Cg.powB {g a b : Ser K} (h : Cg g a b) (fa : Bo a) (fb : Bo b) (k : Nat) : Cg g (a ^ k) (b ^ k) := by
  obtain ⟨n, fa⟩ := fa; obtain ⟨m, fb⟩ := fb
  exact h.pow fa fb k
theorem Cg.sub {g a b c d : Ser K} (h : Cg g a b) (h' : Cg g c d) : Cg g (a - c) (b - d) := by
  have := h.mu.sub h'.mu
  exact Mu.cg (by rw [show a - c - (b - d) = a - b - (c - d) by grind]; exact this)
theorem Cg.add {g a b c d : Ser K} (h : Cg g a b) (h' : Cg g c d) : Cg g (a + c) (b + d) := by
  have := h.mu.add h'.mu
  exact Mu.cg (by rw [show a + c - (b + d) = a - b + (c - d) by grind]; exact this)
theorem Cg.of_mu {f g a b : Ser K} (h : Cg g a b) (d : Mu f g) : Cg f a b := (d.trans h.mu).cg
/-- monic, of degree n -/
structure Mc (n : Nat) (f : Ser K) : Prop where
  far : far (n + 1) f
  co : f.co n = 1
theorem Mc.ne {n : Nat} {f : Ser K} (h : Mc n f) (z : (1 : K) ≠ 0) : f ≠ 0 := fun e => by
  have := h.co
  rw [e, zero_co] at this
  exact z this.symm
theorem Mc.top {n : Nat} {f : Ser K} (h : Mc n f) (z : (1 : K) ≠ 0) : RR.top n f := ⟨h.far, by rw [h.co]; exact z⟩
/-- quotient and rest -/
theorem Mc.div {n : Nat} {f : Ser K} (h : Mc n f) : ∀ (N : Nat) (y : Ser K), RR.far N y → ∃ u r, Bo u ∧ RR.far n r ∧ y = u * f + r
  | N, y, hy => by
    by_cases l : N ≤ n
    · exact ⟨0, y, .zero, far_mono hy l, by grind⟩
    · obtain ⟨k, rfl⟩ : ∃ k, N = k + 1 := ⟨N - 1, by omega⟩
      have hz : RR.far k (y - Ser.C (y.co k) * xp (k - n) * f) := fun j hj => by
        have e : Ser.C (y.co k) * xp (k - n) * f = Ser.C (y.co k) * (xp (k - n) * f) := by grind
        rw [e, Ser.sub_co, Ser.C_mul_co, xp_mul_co, if_pos (by omega)]
        by_cases z : j = k
        · subst z
          rw [show j - (j - n) = n by omega, h.co]; grind
        · rw [hy j (by omega), h.far _ (by omega)]; grind
      obtain ⟨u, r, bu, fr, e⟩ := Mc.div h k _ hz
      exact ⟨u + Ser.C (y.co k) * xp (k - n), r, bu.add (Bo.C.mul .xp), fr, by
        rw [show (u + Ser.C (y.co k) * xp (k - n)) * f + r = u * f + r + Ser.C (y.co k) * xp (k - n) * f by grind, ← e]; grind⟩
theorem Mc.rest {n : Nat} {f : Ser K} (h : Mc n f) {y : Ser K} (hy : Bo y) : ∃ r, RR.far n r ∧ Cg f y r := by
  obtain ⟨N, hy⟩ := hy
  obtain ⟨u, r, ⟨M, bu⟩, fr, e⟩ := h.div N y hy
  exact ⟨r, fr, u, M, bu, e⟩
theorem Mc.eq {n : Nat} {f : Ser K} (D : Dom K) (z : (1 : K) ≠ 0) (h : Mc n f) {a b : Ser K} (fa : RR.far n a) (fb : RR.far n b) (c : Cg f a b) : a = b := by
  obtain ⟨u, N, fu, e⟩ := c
  exact (div_uniq D (q := 0) (q' := u) (N := N) (h.top z) far_zero fu fa fb (by rw [← e]; grind)).2
end
section
variable {q : Nat}
theorem kp_one (q1 : 1 ≤ q) : (1 : Kp q) ≠ 0 := fun h => by
  have := congrArg Fin.val h
  have e1 : ((1 : Kp q)).val = 1 % (q + 1) := rfl
  have e0 : ((0 : Kp q)).val = 0 := rfl
  rw [e1, e0, Nat.mod_eq_of_lt (by omega)] at this
  omega
theorem Fer.one (h : Fer q) : (1 : Kp q) ≠ 0 := kp_one h.1
theorem Fer.inv (h : Fer q) {c : Kp q} (c0 : c ≠ 0) : ∃ d : Kp q, d * c = 1 := ⟨_, h.2 c c0⟩
/-- a common part, by multipliers, of any two -/
theorem bez (hF : Fer q) : ∀ (N : Nat) (b a : Ser (Kp q)), far N b → Bo a → ∃ g s t x y : Ser (Kp q), Bo g ∧ Bo s ∧ Bo t ∧ Bo x ∧ Bo y ∧ g = s * a + t * b ∧ a = x * g ∧ b = y * g := by
  intro N
  induction N using Nat.strongRecOn with
  | _ N ih =>
    intro b a hb ha
    by_cases b0 : b = 0
    · subst b0
      exact ⟨a, 1, 0, 1, 0, ha, .one, .zero, .one, .zero, by grind, by grind, by grind⟩
    · obtain ⟨k, hk, tk⟩ := top_of hb b0
      obtain ⟨d, hd⟩ := hF.inv tk.2
      have mc : Mc k (Ser.C d * b) := ⟨far_scale tk.1, by rw [Ser.C_mul_co]; exact hd⟩
      obtain ⟨M, ha'⟩ := id ha
      obtain ⟨u, r, bu, fr, e⟩ := mc.div M a ha'
      obtain ⟨g, s, t, x, y, bg, bs, bt, bx, bY, e1, e2, e3⟩ := ih k hk r b fr (.of tk.1)
      refine ⟨g, t, s - t * (u * Ser.C d), u * Ser.C d * x + y, x, bg, bt, bs.sub (bt.mul (bu.mul .C)), ((bu.mul .C).mul bx).add bY, bx, ?_, ?_, e2⟩
      · rw [e1, show r = a - u * (Ser.C d * b) by rw [e]; grind]; grind
      · calc a = u * (Ser.C d * b) + r := e
          _ = u * (Ser.C d * (x * g)) + y * g := by rw [← e2, ← e3]
          _ = _ := by grind
/-- without a factor -/
structure Irr (n : Nat) (f : Ser (Kp q)) : Prop where
  mc : Mc n f
  pos : 1 ≤ n
  alone : ∀ g h : Ser (Kp q), ∀ j k, top j g → top k h → f = g * h → j = 0 ∨ k = 0
theorem deg0_unit (hF : Fer q) {g : Ser (Kp q)} (t : top 0 g) : ∃ d, Ser.C d * g = 1 := by
  obtain ⟨d, hd⟩ := hF.inv t.2
  refine ⟨d, Ser.ext fun k => ?_⟩
  rw [Ser.C_mul_co, one_co]
  by_cases z : k = 0
  · rw [if_pos z, z]; exact hd
  · rw [if_neg z, t.1 k (by omega)]; grind
theorem dv_ne {n : Nat} {f r : Ser (Kp q)} (hF : Fer q) (h : Mc n f) (fr : far n r) (d : Mu f r) : r = 0 := h.eq hF.dom hF.one fr far_zero (Mu.cg (by rw [show r - 0 = r by grind]; exact d))
/-- what isn't a multiple has a back -/
theorem Irr.back {n : Nat} {f a : Ser (Kp q)} (hF : Fer q) (h : Irr n f) (ba : Bo a) (na : ¬ Mu f a) : ∃ u v, Bo u ∧ Bo v ∧ u * a + v * f = 1 := by
  obtain ⟨g, s, t, x, y, bg, bs, bt, bx, bY, e1, e2, e3⟩ := bez hF (n + 1) f a h.mc.far ba
  have f0 := h.mc.ne hF.one
  have g0 : g ≠ 0 := fun z => f0 (by rw [e3, z]; grind)
  have y0 : y ≠ 0 := fun z => f0 (by rw [e3, z]; grind)
  obtain ⟨Ng, hg⟩ := id bg
  obtain ⟨Ny, hy⟩ := id bY
  obtain ⟨j, _, tg⟩ := top_of hg g0
  obtain ⟨k, _, ty⟩ := top_of hy y0
  rcases h.alone y g k j ty tg e3 with z | z
  · -- f is g but for a number: a is a multiple
    subst z
    obtain ⟨d, hd⟩ := deg0_unit hF ty
    refine absurd ⟨x * Ser.C d, bx.mul .C, ?_⟩ na
    calc a = x * (1 * g) := by rw [e2]; grind
      _ = x * (Ser.C d * y * g) := by rw [hd]
      _ = x * Ser.C d * (y * g) := by grind
      _ = _ := by rw [← e3]
  · subst z
    obtain ⟨d, hd⟩ := deg0_unit hF tg
    exact ⟨Ser.C d * s, Ser.C d * t, Bo.C.mul bs, Bo.C.mul bt, by rw [← hd, e1]; grind⟩
theorem Irr.prime {n : Nat} {f a b : Ser (Kp q)} (hF : Fer q) (h : Irr n f) (ba : Bo a) (bb : Bo b) (d : Mu f (a * b)) : Mu f a ∨ Mu f b := by
  by_cases na : Mu f a
  · exact .inl na
  · obtain ⟨u, v, bu, bv, e⟩ := h.back hF ba na
    right
    have : b = u * (a * b) + b * v * f := by
      calc b = b * (u * a + v * f) := by rw [e]; grind
        _ = _ := by grind
    rw [this]
    exact (d.mul bu).add (Mu.self.mul (bb.mul bv))
/-! ### counting roots -/
/-- a polynomial way of degree d, of the last number c -/
inductive Pwy : Nat → Ser (Kp q) → (Ser (Kp q) → Ser (Kp q)) → Prop
  | const {c : Ser (Kp q)} : Bo c → Pwy 0 c (fun _ => c)
  | step {d : Nat} {c e : Ser (Kp q)} {φ : Ser (Kp q) → Ser (Kp q)} : Pwy d c φ → Bo e → Pwy (d + 1) c (fun y => y * φ y + e)
theorem Pwy.bo {d : Nat} {c : Ser (Kp q)} {φ : Ser (Kp q) → Ser (Kp q)} (h : Pwy d c φ) : ∀ {y}, Bo y → Bo (φ y) := by
  induction h with
  | const hc => intro y _; exact hc
  | step _ he ih => intro y hy; exact (hy.mul (ih hy)).add he
theorem Pwy.less {d : Nat} {c : Ser (Kp q)} {φ : Ser (Kp q) → Ser (Kp q)} (h : Pwy (d + 1) c φ) {a : Ser (Kp q)} (ha : Bo a) : ∃ ψ, Pwy d c ψ ∧ ∀ y, φ y - φ a = (y - a) * ψ y := by
  generalize hk : d + 1 = k at h
  induction h generalizing d with
  | const _ => omega
  | @step d' c e φ hp he ih =>
    obtain rfl : d = d' := by omega
    cases d with
    | zero =>
      cases hp with
      | const hc => exact ⟨_, .const hc, fun y => by grind⟩
    | succ d =>
      obtain ⟨ψ, h1, h2⟩ := ih (d := d) rfl
      refine ⟨_, .step h1 (hp.bo ha), fun y => ?_⟩
      have := h2 y
      calc y * φ y + e - (a * φ a + e) = (y - a) * φ a + y * (φ y - φ a) := by grind
        _ = _ := by rw [this]; grind
theorem Pwy.count {n : Nat} {f : Ser (Kp q)} (hF : Fer q) (hf : Irr n f) : ∀ {d : Nat} {c : Ser (Kp q)} {φ : Ser (Kp q) → Ser (Kp q)}, Pwy d c φ → ¬ Mu f c → ∀ ys : List (Ser (Kp q)), (∀ y ∈ ys, Bo y ∧ Mu f (φ y)) → ys.Pairwise (fun a b => ¬ Mu f (b - a)) → ys.length ≤ d := by
  intro d
  induction d with
  | zero =>
    intro c φ h nc ys hy _
    cases h with
    | const hc =>
      cases ys with
      | nil => exact Nat.le_refl _
      | cons y r => exact absurd (hy y List.mem_cons_self).2 nc
  | succ d ih =>
    intro c φ h nc ys hy hp
    cases ys with
    | nil => simp
    | cons a r =>
      have ha := hy a List.mem_cons_self
      obtain ⟨ψ, h1, h2⟩ := h.less ha.1
      rw [List.pairwise_cons] at hp
      have := ih h1 nc r (fun y hr => by
        have hb := hy y (List.mem_cons_of_mem _ hr)
        have e : Mu f ((y - a) * ψ y) := by rw [← h2 y]; exact hb.2.sub ha.2
        exact ⟨hb.1, (hf.prime hF (hb.1.sub ha.1) (h1.bo hb.1) e).resolve_left (hp.1 y hr)⟩) hp.2
      rw [List.length_cons]; omega
theorem Pwy.pow : ∀ k : Nat, Pwy (q := q) k 1 (fun y => y ^ k)
  | 0 => by
    have : (fun y : Ser (Kp q) => y ^ 0) = fun _ => 1 := funext fun y => Lean.Grind.Semiring.pow_zero y
    rw [this]; exact .const .one
  | k + 1 => by
    have : (fun y : Ser (Kp q) => y ^ (k + 1)) = fun y => y * y ^ k + 0 := funext fun y => by rw [Lean.Grind.Semiring.pow_succ]; grind
    rw [this]; exact .step (Pwy.pow k) .zero
theorem Pwy.powx (k : Nat) : Pwy (q := q) (k + 2) 1 (fun y => y ^ (k + 2) - y) := by
  have e1 : (fun y : Ser (Kp q) => y ^ (k + 2) - y) = fun y => y * (y * y ^ k + -1) + 0 := funext fun y => by
    rw [show k + 2 = k + 1 + 1 from rfl, Lean.Grind.Semiring.pow_succ, Lean.Grind.Semiring.pow_succ]; grind
  rw [e1]
  exact .step (.step (Pwy.pow k) (Bo.one.neg)) .zero
end
end RR

/-! VFF2: powers up to multiples of a row without factors; roots -/
namespace RR
theorem perm_of {α : Type} : ∀ {l1 l2 : List α}, l1.Nodup → l1 ⊆ l2 → l2.length ≤ l1.length → l1.Perm l2
  | [], l2, _, _, h => by
    have : l2 = [] := List.length_eq_zero_iff.mp (by simpa using h)
    rw [this]
  | a :: r, l2, nd, hs, hl => by
    obtain ⟨s, t, rfl⟩ := List.append_of_mem (hs List.mem_cons_self)
    rw [List.nodup_cons] at nd
    have : r.Perm (s ++ t) := perm_of nd.2 (fun x hx => by
      have := hs (List.mem_cons_of_mem _ hx)
      rw [List.mem_append, List.mem_cons] at this
      rcases this with z | z | z
      · exact List.mem_append_left _ z
      · exact absurd (z ▸ hx) nd.1
      · exact List.mem_append_right _ z) (by simp at hl ⊢; omega)
    exact (List.Perm.cons a this).trans List.perm_middle.symm
section
variable {K : Type} [Lean.Grind.CommRing K]
def prd : List (Ser K) → Ser K
  | [] => 1
  | a :: l => a * prd l
theorem prd_perm {l1 l2 : List (Ser K)} (h : l1.Perm l2) : prd l1 = prd l2 := by
  induction h with
  | nil => rfl
  | cons a _ ih => show a * prd _ = a * prd _; rw [ih]
  | swap a b l => show b * (a * prd l) = a * (b * prd l); grind
  | trans _ _ i1 i2 => exact i1.trans i2
theorem prd_bo : ∀ {l : List (Ser K)}, (∀ a ∈ l, Bo a) → Bo (prd l)
  | [], _ => .one
  | a :: l, h => (h a List.mem_cons_self).mul (prd_bo fun b hb => h b (List.mem_cons_of_mem _ hb))
theorem prd_map {f y : Ser K} {φ : Ser K → Ser K} (hy : Bo y) : ∀ {l : List (Ser K)}, (∀ a ∈ l, Bo a ∧ Bo (φ a) ∧ Cg f (y * a) (φ a)) → Cg f (y ^ l.length * prd l) (prd (l.map φ))
  | [], _ => by
    show Cg f (y ^ 0 * 1) 1
    rw [Lean.Grind.Semiring.pow_zero]
    rw [show (1 : Ser K) * 1 = 1 by grind]
    exact .refl
  | a :: l, h => by
    have h0 := h a List.mem_cons_self
    have ih := prd_map (φ := φ) hy fun b hb => h b (List.mem_cons_of_mem a hb)
    show Cg f (y ^ (l.length + 1) * (a * prd l)) (φ a * prd (l.map φ))
    rw [show y ^ (l.length + 1) * (a * prd l) = (y * a) * (y ^ l.length * prd l) by rw [Lean.Grind.Semiring.pow_succ]; grind]
    exact h0.2.2.mulB ih h0.2.1 ((hy.pow _).mul (prd_bo fun b hb => (h b (List.mem_cons_of_mem _ hb)).1))
end
section
variable {q : Nat}
/-- all rows of so many numbers -/
def alls (q : Nat) : Nat → List (Ser (Kp q))
  | 0 => [0]
  | n + 1 => (alls q n).flatMap fun r => (List.finRange (q + 1)).map fun c => r + Ser.C c * xp n
theorem alls_mem : ∀ {n : Nat} {y : Ser (Kp q)}, y ∈ alls q n ↔ far n y
  | 0, y => by
    show y ∈ [0] ↔ _
    rw [List.mem_singleton]
    exact ⟨fun e => by rw [e]; exact far_zero, far0⟩
  | n + 1, y => by
    show y ∈ (alls q n).flatMap _ ↔ _
    rw [List.mem_flatMap]
    constructor
    · rintro ⟨r, hr, h⟩
      obtain ⟨c, _, rfl⟩ := List.mem_map.mp h
      refine far_add (far_mono (alls_mem.mp hr) (by omega)) (far_scale (far_xp1 n))
    · intro h
      refine ⟨y - Ser.C (y.co n) * xp n, alls_mem.mpr fun k hk => ?_, List.mem_map.mpr ⟨y.co n, List.mem_finRange _, by grind⟩⟩
      rw [Ser.sub_co, Ser.C_mul_co, xp_co]
      by_cases z : k = n
      · rw [if_pos z, z]; grind
      · rw [if_neg z, h k (by omega)]; grind
theorem alls_nodup : ∀ n : Nat, (alls q n).Nodup
  | 0 => by show [(0 : Ser (Kp q))].Nodup; simp
  | n + 1 => by
    show List.Pairwise _ ((alls q n).flatMap _)
    rw [List.pairwise_flatMap]
    have cn : ∀ {r : Ser (Kp q)} {c : Kp q}, far n r → (r + Ser.C c * xp n).co n = c := fun {r c} hr => by
      rw [Ser.add_co, hr n (Nat.le_refl _), Ser.C_mul_co, xp_co, if_pos rfl]; grind
    refine ⟨fun r hr => ?_, ?_⟩
    · rw [List.pairwise_map]
      refine (List.nodup_finRange (q + 1)).imp fun {a b} hab e => hab ?_
      have := congrArg (fun f => Ser.co f n) e
      simp only [cn (alls_mem.mp hr)] at this
      exact this
    · refine List.Pairwise.imp_of_mem (fun {a b} ha hb hab x hx y hy e => hab ?_) (alls_nodup n)
      obtain ⟨c, _, rfl⟩ := List.mem_map.mp hx
      obtain ⟨d, _, rfl⟩ := List.mem_map.mp hy
      have := congrArg (fun f => Ser.co f n) e
      simp only [cn (alls_mem.mp ha), cn (alls_mem.mp hb)] at this
      subst this
      have : a + Ser.C c * xp n - Ser.C c * xp n = b + Ser.C c * xp n - Ser.C c * xp n := by rw [e]
      grind
theorem alls_len : ∀ n : Nat, (alls q n).length = (q + 1) ^ n
  | 0 => rfl
  | n + 1 => by
    show ((alls q n).flatMap _).length = _
    rw [List.length_flatMap]
    have : ((alls q n).map fun a => ((List.finRange (q + 1)).map fun c => a + Ser.C c * xp n).length) = (alls q n).map fun _ => q + 1 := List.map_congr_left fun a _ => by rw [List.length_map, List.length_finRange]
    rw [this]
    have sm : ∀ l : List (Ser (Kp q)), (l.map fun _ => q + 1).sum = l.length * (q + 1) := fun l => by
      induction l with
      | nil => simp
      | cons a l ih => rw [List.map_cons, List.sum_cons, ih, List.length_cons, Nat.succ_mul]; omega
    rw [sm, alls_len n, Nat.pow_succ]
theorem far_ne0 (hF : Fer q) {n : Nat} (hn : 1 ≤ n) : far n (1 : Ser (Kp q)) := far_mono far_one hn
theorem Irr.not_one {n : Nat} {f : Ser (Kp q)} (hF : Fer q) (h : Irr n f) : ¬ Mu f 1 := fun d => by
  have e := dv_ne hF h.mc (far_mono far_one h.pos) d
  have := congrArg (fun f => Ser.co f 0) e
  simp only [one_co, zero_co, if_pos rfl] at this
  exact hF.one this
/-- each power by one less than all of them is 1 -/
theorem Irr.little {n : Nat} {f y : Ser (Kp q)} (hF : Fer q) (h : Irr n f) (hy : Bo y) (ny : ¬ Mu f y) : Cg f (y ^ ((q + 1) ^ n - 1)) 1 := by
  obtain ⟨s, t, e⟩ := List.append_of_mem (alls_mem.mpr (far_zero (K := Kp q) (n := n)))
  have nd := alls_nodup (q := q) n
  have ln := alls_len (q := q) n
  rw [e] at nd ln
  have nd2 := (List.perm_middle.nodup_iff).mp nd
  rw [List.nodup_cons] at nd2
  have hm : ∀ r, r ∈ s ++ t ↔ far n r ∧ r ≠ 0 := fun r => by
    have : r ∈ s ++ 0 :: t ↔ far n r := by rw [← e]; exact alls_mem
    rw [List.mem_append, List.mem_cons] at this
    constructor
    · intro hr
      refine ⟨this.mp ?_, fun z => nd2.1 (z ▸ hr)⟩
      rcases List.mem_append.mp hr with z | z
      · exact .inl z
      · exact .inr (.inr z)
    · rintro ⟨fr, r0⟩
      rcases this.mpr fr with z | z | z
      · exact List.mem_append_left _ z
      · exact absurd z r0
      · exact List.mem_append_right _ z
  have le : (s ++ t).length = (q + 1) ^ n - 1 := by simp at ln ⊢; omega
  generalize s ++ t = L at nd2 hm le
  have ex : ∀ r, ∃ p : Ser (Kp q), Bo r → far n p ∧ Cg f (y * r) p := fun r => by
    by_cases hr : Bo r
    · obtain ⟨p, h1, h2⟩ := h.mc.rest (hy.mul hr)
      exact ⟨p, fun _ => ⟨h1, h2⟩⟩
    · exact ⟨0, fun z => absurd z hr⟩
  obtain ⟨φ, hφ⟩ := Classical.axiomOfChoice ex
  have pr := fun a b (ha : Bo a) (hb : Bo b) (d : Mu f (a * b)) => h.prime hF ha hb d
  have nz : ∀ r ∈ L, ¬ Mu f r := fun r hr d => ((hm r).mp hr).2 (dv_ne hF h.mc ((hm r).mp hr).1 d)
  have bo : ∀ r ∈ L, Bo r := fun r hr => .of ((hm r).mp hr).1
  have sub : L.map φ ⊆ L := fun x hx => by
    obtain ⟨r, hr, rfl⟩ := List.mem_map.mp hx
    obtain ⟨p1, p2⟩ := hφ r (bo r hr)
    refine (hm _).mpr ⟨p1, fun z => ?_⟩
    rw [z] at p2
    have : Mu f (y * r) := by have := p2.mu; rwa [show y * r - 0 = y * r by grind] at this
    exact (pr _ _ hy (bo r hr) this).elim ny (nz r hr)
  have nd3 : (L.map φ).Nodup := by
    show List.Pairwise _ _
    rw [List.pairwise_map]
    refine List.Pairwise.imp_of_mem (fun {a b} ha hb hab e => hab ?_) nd2.2
    have c1 := (hφ a (bo a ha)).2
    have c2 := (hφ b (bo b hb)).2
    rw [e] at c1
    have d := (c1.trans c2.symm).mu
    rw [show y * a - y * b = y * (a - b) by grind] at d
    have := dv_ne hF h.mc (far_sub ((hm a).mp ha).1 ((hm b).mp hb).1) ((pr _ _ hy ((bo a ha).sub (bo b hb)) d).resolve_left ny)
    grind
  have pe := prd_perm (perm_of nd3 sub (by simp))
  have c := prd_map (f := f) (φ := φ) hy (l := L) fun a ha => ⟨bo a ha, .of (hφ a (bo a ha)).1, (hφ a (bo a ha)).2⟩
  rw [pe, le] at c
  have d := c.mu
  have bP := prd_bo bo
  rw [show y ^ ((q + 1) ^ n - 1) * prd L - prd L = (y ^ ((q + 1) ^ n - 1) - 1) * prd L by grind] at d
  have nP : ∀ l : List (Ser (Kp q)), (∀ r ∈ l, Bo r ∧ ¬ Mu f r) → ¬ Mu f (prd l) := fun l => by
    induction l with
    | nil => exact fun _ => h.not_one hF
    | cons a l ih =>
      intro hl d
      have ha := hl a List.mem_cons_self
      exact (pr _ _ ha.1 (prd_bo fun r hr => (hl r (List.mem_cons_of_mem _ hr)).1) d).elim ha.2 (ih fun r hr => hl r (List.mem_cons_of_mem _ hr))
  exact ((pr _ _ ((hy.pow _).sub .one) bP d).resolve_right (nP L fun r hr => ⟨bo r hr, nz r hr⟩)).cg
theorem Irr.full {n : Nat} {f y : Ser (Kp q)} (hF : Fer q) (h : Irr n f) (hy : Bo y) : Cg f (y ^ ((q + 1) ^ n)) y := by
  have p0 : 0 < (q + 1) ^ n := Nat.pow_pos (by omega)
  have e : y ^ ((q + 1) ^ n) = y ^ ((q + 1) ^ n - 1) * y := by
    rw [← Lean.Grind.Semiring.pow_succ, show (q + 1) ^ n - 1 + 1 = (q + 1) ^ n by omega]
  by_cases ny : Mu f y
  · refine Mu.cg ?_
    rw [e]
    exact (ny.mul (hy.pow _)).sub ny
  · have := (h.little hF hy ny).mulB (Cg.refl (a := y)) .one hy
    rw [e]
    rwa [show (1 : Ser (Kp q)) * y = y by grind] at this
/-! ### numbers, and lines -/
theorem Fer.pw (h : Fer q) (c : Kp q) : c ^ (q + 1) = c := by
  by_cases z : c = 0
  · rw [z, Lean.Grind.Semiring.pow_succ]; grind
  · have := h.2 c z
    have q1 := h.1
    have e : c ^ q = c ^ (q - 1) * c := (congrArg (fun t => c ^ t) (show q = q - 1 + 1 by omega)).trans (Lean.Grind.Semiring.pow_succ c (q - 1))
    rw [Lean.Grind.Semiring.pow_succ, e, this]; grind
theorem C_pow (c : Kp q) : ∀ k : Nat, (Ser.C c : Ser (Kp q)) ^ k = Ser.C (c ^ k)
  | 0 => by rw [Lean.Grind.Semiring.pow_zero, Lean.Grind.Semiring.pow_zero, C_one]
  | k + 1 => by rw [Lean.Grind.Semiring.pow_succ, Lean.Grind.Semiring.pow_succ, C_mul, C_pow c k]
theorem Fer.pwk (h : Fer q) (c : Kp q) : ∀ k : Nat, c ^ ((q + 1) ^ k) = c
  | 0 => by rw [Nat.pow_zero, Lean.Grind.Semiring.pow_succ, Lean.Grind.Semiring.pow_zero]; grind
  | k + 1 => by
    have pm : ∀ (a : Kp q) (m n : Nat), a ^ (m * n) = (a ^ m) ^ n := fun a m n => by
      induction n with
      | zero => rw [Nat.mul_zero, Lean.Grind.Semiring.pow_zero, Lean.Grind.Semiring.pow_zero]
      | succ n ih => rw [Nat.mul_succ, Lean.Grind.Semiring.pow_add, ih, Lean.Grind.Semiring.pow_succ]
    rw [Nat.pow_succ, pm, h.pwk c k, h.pw]
/-- x less a number -/
def lin (a : Kp q) : Ser (Kp q) := xp 1 - Ser.C a
theorem lin_mc (a : Kp q) : Mc 1 (lin a) := ⟨far_sub (far_xp1 1) (far_mono far_C (by omega)), by
  unfold lin
  rw [Ser.sub_co, xp_co, if_pos rfl, Ser.C_co, if_neg (by decide)]; grind⟩
theorem lin_x (a : Kp q) : Cg (lin a) (xp 1) (Ser.C a) := Mu.cg (by exact Mu.self)
theorem ser_pow_mul (a : Ser (Kp q)) (m : Nat) : ∀ n : Nat, a ^ (m * n) = (a ^ m) ^ n
  | 0 => by rw [Nat.mul_zero, Lean.Grind.Semiring.pow_zero, Lean.Grind.Semiring.pow_zero]
  | n + 1 => by rw [Nat.mul_succ, Lean.Grind.Semiring.pow_add, ser_pow_mul a m n, Lean.Grind.Semiring.pow_succ]
theorem lin_pow (hF : Fer q) (a : Kp q) (k : Nat) : Cg (lin a) ((xp 1 : Ser (Kp q)) ^ ((q + 1) ^ k)) (Ser.C a) := by
  have := (lin_x a).powB .xp .C ((q + 1) ^ k)
  rwa [C_pow, hF.pwk] at this
/-- the going from power to power -/
structure Pws (n : Nat) (f : Ser (Kp q)) (r : Nat → Ser (Kp q)) : Prop where
  fr : ∀ i, far n (r i)
  r0 : Cg f (xp 1) (r 0)
  rs : ∀ i, Cg f (r i ^ (q + 1)) (r (i + 1))
theorem Pws.cg {n : Nat} {f : Ser (Kp q)} {r : Nat → Ser (Kp q)} (h : Pws n f r) : ∀ i, Cg f ((xp 1 : Ser (Kp q)) ^ ((q + 1) ^ i)) (r i)
  | 0 => by
    rw [Nat.pow_zero, Lean.Grind.Semiring.pow_succ, Lean.Grind.Semiring.pow_zero, show (1 : Ser (Kp q)) * xp 1 = xp 1 by grind]
    exact h.r0
  | i + 1 => by
    rw [Nat.pow_succ, ser_pow_mul]
    exact ((h.cg i).powB (Bo.xp.pow _) (.of (h.fr i)) (q + 1)).trans (h.rs i)
theorem Pws.ex {n : Nat} {f : Ser (Kp q)} (h : Mc n f) : ∃ r, Pws n f r := by
  have ex : ∀ y : Ser (Kp q), ∃ p : Ser (Kp q), Bo y → far n p ∧ Cg f y p := fun y => by
    by_cases hy : Bo y
    · obtain ⟨p, a, b⟩ := h.rest hy
      exact ⟨p, fun _ => ⟨a, b⟩⟩
    · exact ⟨0, fun z => absurd z hy⟩
  obtain ⟨φ, hφ⟩ := Classical.axiomOfChoice ex
  obtain ⟨a, b⟩ := hφ (xp 1) .xp
  have fr : ∀ i : Nat, far n ((Nat.rec (φ (xp 1)) (fun _ y => φ (y ^ (q + 1))) i : Ser (Kp q))) := fun i => by
    induction i with
    | zero => exact a
    | succ i ih => exact (hφ _ ((Bo.of ih).pow (q + 1))).1
  exact ⟨fun i => Nat.rec (φ (xp 1)) (fun _ y => φ (y ^ (q + 1))) i, fr, b, fun i => (hφ _ ((Bo.of (fr i)).pow (q + 1))).2⟩
/-- a row without factors: as many powers as its degree lead back to x -/
theorem Irr.round {n : Nat} {f : Ser (Kp q)} {r : Nat → Ser (Kp q)} (hF : Fer q) (h : Irr n f) (p : Pws n f r) : r n = r 0 :=
  h.mc.eq hF.dom hF.one (p.fr n) (p.fr 0) (((p.cg n).symm.trans (h.full hF .xp)).trans p.r0)
/-- of degree 2 at least: its first power isn't x -/
theorem Irr.first {n : Nat} {f : Ser (Kp q)} (hF : Fer q) (h : Irr n f) (n2 : 2 ≤ n) (c : Cg f ((xp 1 : Ser (Kp q)) ^ (q + 1)) (xp 1)) : False := by
  have q1 := hF.1
  obtain ⟨k, rfl⟩ : ∃ k, q = k + 1 := ⟨q - 1, by omega⟩
  have ct := Pwy.count hF h (Pwy.powx (q := k + 1) k) (h.not_one hF) (xp 1 :: (List.finRange (k + 1 + 1)).map Ser.C) (fun y hy => by
    rcases List.mem_cons.mp hy with rfl | hy
    · exact ⟨.xp, c.mu⟩
    · obtain ⟨a, _, rfl⟩ := List.mem_map.mp hy
      refine ⟨.C, ?_⟩
      show Mu f (Ser.C a ^ (k + 1 + 1) - Ser.C a)
      rw [C_pow, hF.pw, show Ser.C a - Ser.C a = (0 : Ser (Kp (k + 1))) by grind]
      exact .zero) (by
    rw [List.pairwise_cons]
    refine ⟨fun y hy d => ?_, ?_⟩
    · obtain ⟨a, _, rfl⟩ := List.mem_map.mp hy
      have e := dv_ne hF h.mc (far_mono (far_sub (far_mono far_C (by omega)) (far_xp1 1)) n2 : far n (Ser.C a - xp 1)) d
      have := congrArg (fun f => Ser.co f 1) e
      simp only [Ser.sub_co, Ser.C_co, xp_co, zero_co] at this
      rw [if_neg (by decide), if_pos trivial] at this
      exact hF.one (by grind)
    · rw [List.pairwise_map]
      refine (List.nodup_finRange _).imp fun {a b} hab d => hab ?_
      rw [← C_sub] at d
      have e := dv_ne hF h.mc (far_mono far_C h.pos) d
      have := congrArg (fun f => Ser.co f 0) e
      simp only [Ser.C_co, zero_co, if_pos rfl] at this
      grind)
  rw [List.length_cons, List.length_map, List.length_finRange] at ct
  omega
/-- a line that divides gives a root; of degree 2 or 3 a row without a root has no factor -/
theorem irr_small (hF : Fer q) {n : Nat} {f : Ser (Kp q)} (h : Mc n f) (n2 : n = 2 ∨ n = 3) (nr : ∀ a : Kp q, ¬ Mu (lin a) f) : Irr n f := by
  have line : ∀ g : Ser (Kp q), top 1 g → ∃ (a d : Kp q), g = Ser.C d * lin a := fun g t => by
    obtain ⟨e, he⟩ := hF.inv t.2
    refine ⟨-(g.co 0 * e), g.co 1, Ser.ext fun k => ?_⟩
    unfold lin
    rw [Ser.C_mul_co, Ser.sub_co, xp_co, Ser.C_co]
    by_cases k0 : k = 0
    · subst k0
      rw [if_neg (by decide), if_pos rfl]
      calc g.co 0 = g.co 0 * (e * g.co 1) := by rw [he]; grind
        _ = _ := by grind
    · by_cases k1 : k = 1
      · subst k1; rw [if_pos rfl, if_neg (by decide)]; grind
      · rw [if_neg k1, if_neg k0, t.1 k (by omega)]; grind
  refine ⟨h, by omega, fun g k j i tg tk e => ?_⟩
  have ji := top_uniq (h.top hF.one) (by rw [e]; exact top_mul hF.dom tg tk)
  by_cases j1 : j = 1
  · subst j1
    obtain ⟨a, d, rfl⟩ := line g tg
    exact absurd ⟨k * Ser.C d, (Bo.of tk.1).mul .C, by rw [e]; grind⟩ (nr a)
  · by_cases i1 : i = 1
    · subst i1
      obtain ⟨a, d, rfl⟩ := line k tk
      exact absurd ⟨g * Ser.C d, (Bo.of tg.1).mul .C, by rw [e]; grind⟩ (nr a)
    · omega
/-- what shows that it has none shows that it has no root -/
theorem no_root (hF : Fer q) {n m : Nat} {f u v : Ser (Kp q)} {r : Nat → Ser (Kp q)} (p : Pws n f r) (bu : Bo u) (bv : Bo v) (e : u * (r m - xp 1) + v * f = 1) (a : Kp q) : ¬ Mu (lin a) f := fun d => by
  have c1 := ((p.cg m).of_mu d).symm.trans (lin_pow hF a m)
  have c2 := (c1.sub (lin_x a)).mu
  have d2 : Mu (lin a) (r m - xp 1) := by
    rwa [show r m - xp 1 - (Ser.C a - Ser.C a) = r m - xp 1 by grind] at c2
  have d1 : Mu (lin a) 1 := by
    rw [← e]
    exact (d2.mul bu).add (d.mul bv)
  have z := dv_ne hF (lin_mc a) far_one d1
  have := congrArg (fun f => Ser.co f 0) z
  simp only [one_co, zero_co, if_pos rfl] at this
  exact hF.one this
/-- of degree 1 the first power is x already -/
theorem deg1_round (hF : Fer q) {f : Ser (Kp q)} {r : Nat → Ser (Kp q)} (h : Mc 1 f) (p : Pws 1 f r) : r 1 = r 0 := by
  have e0 : r 0 = Ser.C ((r 0).co 0) := Ser.ext fun k => by
    rw [Ser.C_co]
    by_cases z : k = 0
    · rw [if_pos z, z]
    · rw [if_neg z]; exact p.fr 0 k (by omega)
  have c := p.rs 0
  rw [e0, C_pow, hF.pw, ← e0] at c
  exact (h.eq hF.dom hF.one (p.fr 0) (p.fr 1) c).symm
/-- the common part with a row without factors is 1 where it isn't all -/
theorem Irr.comm {n : Nat} {f a G S T : Ser (Kp q)} (hF : Fer q) (h : Irr n f) (ba : Bo a) (na : ¬ Mu f a) (c : Comm a f G S T) : G = 1 := by
  obtain ⟨e, z | ⟨⟨k, tk, ck⟩, x, y, N, fx, fy, e1, e2⟩⟩ := c.good
  · exact absurd z.2.1 (h.mc.ne hF.one)
  · have y0 : y ≠ 0 := fun z => h.mc.ne hF.one (by rw [e2, z]; grind)
    obtain ⟨j, _, tj⟩ := top_of fy y0
    rcases h.alone y G j k tj tk e2 with z | z
    · subst z
      obtain ⟨d, hd⟩ := deg0_unit hF tj
      refine absurd ⟨x * Ser.C d, (Bo.of fx).mul .C, ?_⟩ na
      calc a = x * (1 * G) := by rw [e1]; grind
        _ = x * (Ser.C d * y * G) := by rw [hd]
        _ = x * Ser.C d * (y * G) := by grind
        _ = _ := by rw [← e2]
    · subst z
      refine Ser.ext fun i => ?_
      rw [one_co]
      by_cases z : i = 0
      · rw [if_pos z, z, ck]
      · rw [if_neg z]; exact tk.1 i (by omega)
/-! ### what a row comes to -/
def evr (a : Kp q) : List Int → Kp q
  | [] => 0
  | c :: cs => zc c + a * evr a cs
theorem evr_div (a : Kp q) : ∀ F : List Int, ∃ u : Ser (Kp q), Bo u ∧ zs (ser F) = u * lin a + Ser.C (evr a F)
  | [] => ⟨0, .zero, by rw [ser_nil, zs_zero]; show (0 : Ser (Kp q)) = 0 * lin a + Ser.C 0; rw [C_zero]; grind⟩
  | c :: cs => by
    obtain ⟨u, bu, e⟩ := evr_div a cs
    refine ⟨xp 1 * u + Ser.C (evr a cs), (Bo.xp.mul bu).add .C, ?_⟩
    rw [ser_cons, zs_add, zs_mul, zs_C, zs_xp, e]
    show _ = (xp 1 * u + Ser.C (evr a cs)) * lin a + Ser.C (zc c + a * evr a cs)
    rw [C_add, C_mul]
    unfold lin
    grind
theorem evr_root (hF : Fer q) {f : Ser (Kp q)} {F : List Int} (h : Mo f F) (a : Kp q) : evr a F = 0 ↔ Mu (lin a) f := by
  obtain ⟨u, bu, e⟩ := evr_div a F
  rw [h.eq] at e
  constructor
  · intro z
    rw [z, C_zero] at e
    exact ⟨u, bu, by rw [e]; grind⟩
  · rintro ⟨w, bw, e'⟩
    have d : Mu (lin a) (Ser.C (evr a F)) := ⟨w - u, bw.sub bu, by
      have : u * lin a + Ser.C (evr a F) = w * lin a := by rw [← e, ← e']
      grind⟩
    have z := dv_ne hF (lin_mc a) far_C d
    have := congrArg (fun f => Ser.co f 0) z
    simp only [Ser.C_co, zero_co, if_pos rfl] at this
    exact this
end
end RR

/-! VFF3: rows of series, common parts are there, sizes of multipliers -/
namespace RR
mutual
theorem eqv_refl : ∀ {d : D} {n : Nat}, d.q n = true → d.eqv d = true
  | .non, _, _ => rfl
  | .bl b, _, _ => by simp [D.eqv]
  | .int i, _, _ => by simp [D.eqv]
  | .str x, _, _ => by simp [D.eqv]
  | .hnd _, n, h => by cases n <;> cases h
  | .dic, n, h => by cases n <;> cases h
  | .exc _, n, h => by cases n <;> cases h
  | .fn _, n, h => by cases n <;> cases h
  | .ptr _, n, h => by cases n <;> cases h
  | .lst xs, 0, h => by cases h
  | .tup xs, 0, h => by cases h
  | .lst xs, n + 1, h => by
    simp only [D.eqv]
    exact eqvs_refl (n := n) fun x hx => List.all_eq_true.mp h x hx
  | .tup xs, n + 1, h => by
    simp only [D.eqv]
    exact eqvs_refl (n := n) fun x hx => List.all_eq_true.mp h x hx
theorem eqvs_refl : ∀ {xs : List D} {n : Nat}, (∀ x ∈ xs, x.q n = true) → D.eqvs xs xs = true
  | [], _, _ => by simp only [D.eqvs]
  | x :: xs, n, h => by
    simp only [D.eqvs]
    rw [eqv_refl (h x List.mem_cons_self), eqvs_refl (n := n) fun y hy => h y (List.mem_cons_of_mem _ hy)]; rfl
end
theorem q_tup {ds : List D} {n : Nat} (h : ∀ d ∈ ds, d.q n = true) : (D.tup ds).q (n + 1) = true := by
  simp only [D.q]
  exact List.all_eq_true.mpr h
theorem q_rowk (xs : List Int) (n : Nat) : (D.tup (zz xs)).q (n + 1) = true := q_tup fun d hd => by
  obtain ⟨i, _, rfl⟩ := List.mem_map.mp hd
  cases n <;> rfl
section
variable {q : Nat}
/-- the row of a series -/
def rwo (n : Nat) (y : Ser (Kp q)) : List Int := strip ((List.range n).map fun k => (((y.co k).val : Nat) : Int))
theorem rwo_mo {n : Nat} {y : Ser (Kp q)} (h : far n y) : Mo y (rwo n y) := by
  refine Mo.of (R.of rfl) (fun x hx => ?_) (Ser.ext fun k => ?_)
  · obtain ⟨k, _, rfl⟩ := List.mem_map.mp hx
    exact ⟨by omega, by have := (y.co k).isLt; omega⟩
  · rw [zs_co, ser_co, List.getD_eq_getElem?_getD, List.getElem?_map]
    by_cases hk : k < n
    · rw [List.getElem?_range hk]
      exact zc_val _
    · rw [List.getElem?_eq_none (by rw [List.length_range]; omega), h k (by omega)]
      exact zc_zero
theorem rwo_len {n : Nat} {y : Ser (Kp q)} : (rwo n y).length ≤ n := by
  unfold rwo
  have := strip_len ((List.range n).map fun k => (((y.co k).val : Nat) : Int))
  rw [List.length_map, List.length_range] at this
  exact this
theorem Mo.rw {n : Nat} {y : Ser (Kp q)} {r : List Int} (h : Mo y r) (f : RR.far n y) : r = rwo n y := h.uniq (rwo_mo f)
theorem mo_x (q1 : 1 ≤ q) : Mo (xp 1 : Ser (Kp q)) [0, 1] := ⟨rfl, fun x hx => by
  simp only [List.mem_cons, List.not_mem_nil, or_false] at hx
  rcases hx with rfl | rfl <;> exact ⟨by omega, by omega⟩, by
    rw [ser_cons, ser_cons, ser_nil, zs_add, zs_mul, zs_add, zs_mul, zs_C, zs_C, zs_xp, zs_zero, zc_zero, zc_one, C_zero, C_one]
    grind⟩
theorem Pws.uniq {n : Nat} {f : Ser (Kp q)} {r r' : Nat → Ser (Kp q)} (hF : Fer q) (h : Mc n f) (p : Pws n f r) (p' : Pws n f r') : ∀ i, r i = r' i
  | 0 => h.eq hF.dom hF.one (p.fr 0) (p'.fr 0) (p.r0.symm.trans p'.r0)
  | i + 1 => h.eq hF.dom hF.one (p.fr _) (p'.fr _) (((p.rs i).symm.trans (by rw [Pws.uniq hF h p p' i]; exact .refl)).trans (p'.rs i))
/-- Euclid's going comes to an end -/
theorem join_ex (hF : Fer q) : ∀ (N : Nat) (b a s0 t0 s1 t1 : Ser (Kp q)), far N b → Bo a → ∃ g s t, Bo g ∧ Join a b s0 t0 s1 t1 g s t := by
  intro N
  induction N using Nat.strongRecOn with
  | _ N ih =>
    intro b a s0 t0 s1 t1 hb ha
    by_cases b0 : b = 0
    · subst b0
      exact ⟨a, s0, t0, ha, .stop⟩
    · obtain ⟨k, hk, tk⟩ := top_of hb b0
      obtain ⟨d, hd⟩ := hF.inv tk.2
      have mc : Mc k (Ser.C d * b) := ⟨far_scale tk.1, by rw [Ser.C_mul_co]; exact hd⟩
      obtain ⟨M, ha'⟩ := id ha
      obtain ⟨u, r, bu, fr, e⟩ := mc.div M a ha'
      obtain ⟨M2, hu⟩ := bu.mul (Bo.C (c := d))
      obtain ⟨g, s, t, bg, j⟩ := ih k hk r b s1 t1 (s0 - u * Ser.C d * s1) (t0 - u * Ser.C d * t1) fr (.of tk.1)
      exact ⟨g, s, t, bg, .step tk fr hu (by rw [e]; grind) j⟩
theorem comm_ex (hF : Fer q) {a b : Ser (Kp q)} (ha : Bo a) (hb : Bo b) (b0 : b ≠ 0) : ∃ w : Ser (Kp q) × Ser (Kp q) × Ser (Kp q), Comm a b w.1 w.2.1 w.2.2 := by
  obtain ⟨N, hb⟩ := hb
  obtain ⟨g, s, t, ⟨M, bg⟩, j⟩ := join_ex hF N b a 1 0 0 1 hb ha
  obtain ⟨_, x, y, _, _, _, _, e2⟩ := j.good a b (by grind) (by grind)
  have g0 : g ≠ 0 := fun z => b0 (by rw [e2, z]; grind)
  obtain ⟨k, _, tk⟩ := top_of bg g0
  obtain ⟨u, hu⟩ := hF.inv tk.2
  exact ⟨(Ser.C u * g, Ser.C u * s, Ser.C u * t), .inr ⟨g, s, t, k, u, j, tk, hu, rfl, rfl, rfl⟩⟩
theorem quo_far (D : Dom (Kp q)) {a b u r : Ser (Kp q)} {da db N : Nat} (ta : top da a) (tb : top db b) (l : db ≤ da) (fr : far db r) (fu : far N u) (e : a = u * b + r) : far (da - db + 1) u := by
  by_cases u0 : u = 0
  · rw [u0]; exact far_zero
  · obtain ⟨j, _, tj⟩ := top_of fu u0
    have t := top_mul D tj tb
    have ea : top (j + db) a := by
      rw [e]
      refine ⟨far_add t.1 (far_mono fr (by omega)), ?_⟩
      rw [Ser.add_co, fr (j + db) (by omega)]
      intro z
      exact t.2 (by rw [← z]; grind)
    have := top_uniq ta ea
    exact far_mono tj.1 (by omega)
theorem Join.sizes (D : Dom (Kp q)) {a b s0 t0 s1 t1 g s t : Ser (Kp q)} (h : Join a b s0 t0 s1 t1 g s t) : ∀ da, top da a → (b = 0 ∨ ∃ db, top db b ∧ db < da) →
    (∀ M, da ≤ M → far (M - da) s0 → far (M - da + 1) s1 → far M s) ∧ (∀ M, da ≤ M → far (M - da) t0 → far (M - da + 1) t1 → far M t) := by
  induction h with
  | stop =>
    intro da ta _
    exact ⟨fun M l f0 _ => far_mono f0 (by omega), fun M l f0 _ => far_mono f0 (by omega)⟩
  | @step a b s0 t0 s1 t1 u r g s t n N h1 h2 h3 h4 _ ih =>
    intro da ta hb
    have lt : n < da := by
      rcases hb with z | ⟨db, tb, l⟩
      · exact absurd z (top_ne h1)
      · rw [top_uniq h1 tb]; exact l
    have fu := quo_far D ta h1 (by omega) h2 h3 h4
    have hr : r = 0 ∨ ∃ dr, top dr r ∧ dr < n := by
      by_cases r0 : r = 0
      · exact .inl r0
      · obtain ⟨k, hk, tk⟩ := top_of h2 r0
        exact .inr ⟨k, tk, hk⟩
    obtain ⟨i1, i2⟩ := ih n h1 hr
    have go : ∀ (M : Nat) (x0 x1 : Ser (Kp q)), da ≤ M → far (M - da) x0 → far (M - da + 1) x1 → far (M - n) x1 ∧ far (M - n + 1) (x0 - u * x1) := fun M x0 x1 l f0 f1 =>
      ⟨far_mono f1 (by omega), far_sub (far_mono f0 (by omega)) (far_mono (far_mul fu f1) (by omega))⟩
    refine ⟨fun M l f0 f1 => ?_, fun M l f0 f1 => ?_⟩
    · obtain ⟨g1, g2⟩ := go M _ _ l f0 f1
      exact i1 M (by omega) g1 g2
    · obtain ⟨g1, g2⟩ := go M _ _ l f0 f1
      exact i2 M (by omega) g1 g2
/-- of a lesser row and a monic one: both multipliers are below its degree -/
theorem Comm.sizes (hF : Fer q) {n : Nat} {a f G S T : Ser (Kp q)} (hf : Mc n f) (n1 : 1 ≤ n) (fa : far n a) (c : Comm a f G S T) (one : G = 1) : far n S ∧ far n T := by
  have D := hF.dom
  have tf := hf.top hF.one
  rcases c with ⟨_, z, _⟩ | ⟨g0, s0, t0, k, u, j, tk, hu, eG, rfl, rfl⟩
  · exact absurd z (hf.ne hF.one)
  · cases j with
    | stop => exact absurd rfl (hf.ne hF.one)
    | @step _ _ _ _ _ _ u' r' _ _ _ n' N' h1 h2 h3 h4 j =>
      obtain rfl := top_uniq h1 tf
      have e0 := div_uniq D (q := u') (q' := 0) (r := r') (r' := a) h1 h3 far_zero h2 fa (by rw [← h4]; grind)
      obtain ⟨rfl, rfl⟩ := e0
      have hr : r' = 0 ∨ ∃ dr, top dr r' ∧ dr < n' := by
        by_cases r0 : r' = 0
        · exact .inl r0
        · obtain ⟨k, hk, tk⟩ := top_of h2 r0
          exact .inr ⟨k, tk, hk⟩
      have js := (j.sizes D n' h1 hr).1 n' (Nat.le_refl _) (by rw [Nat.sub_self]; exact far_zero) (by
        rw [Nat.sub_self, show (1 : Ser (Kp q)) - 0 * 0 = 1 by grind]; exact far_one)
      refine ⟨far_scale js, far_scale ?_⟩
      cases j with
      | stop =>
        -- the common part is f: not 1
        exfalso
        have : top n' (Ser.C u * f) := ⟨far_scale tf.1, fun z => by
          rw [Ser.C_mul_co, top_uniq tf tk, hu] at z
          exact hF.one z⟩
        rw [← eG, one] at this
        have t1 : top 0 (1 : Ser (Kp q)) := ⟨far_one, by rw [one_co, if_pos rfl]; exact hF.one⟩
        have := top_uniq this t1
        omega
      | @step _ _ _ _ _ _ u2 r2 _ _ _ n2 N2 k1 k2 k3 k4 j2 =>
        have hr2 : r2 = 0 ∨ ∃ dr, top dr r2 ∧ dr < n2 := by
          by_cases r0 : r2 = 0
          · exact .inl r0
          · obtain ⟨k, hk, tk⟩ := top_of k2 r0
            exact .inr ⟨k, tk, hk⟩
        have lt := top_lt k1 h2
        have := (j2.sizes D n2 k1 hr2).2 n2 (Nat.le_refl _) (by
          rw [Nat.sub_self, show (0 : Ser (Kp q)) - 0 * 1 = 0 by grind]; exact far_zero) (by
          rw [Nat.sub_self, show (1 : Ser (Kp q)) - u2 * (0 - 0 * 1) = 1 by grind]; exact far_one)
        exact far_mono this (by omega)
end
/-! ### the primes that divide a number to twelve -/
def pr12 (n : Nat) : List Int := [2, 3, 5, 7, 11].filter fun p => decide (Int.fmod (n : Int) p = 0)
theorem pf12 : ∀ n, 1 ≤ n → n ≤ 12 → PF 2 n (pr12 n) := by
  intro n h1 h2
  have s1 : ∀ {k n : Nat} {xs : List Int}, n < k * k → xs = (if 1 < n then [(n : Int)] else []) → PF k n xs := fun h e => by rw [e]; exact .small h
  have d1 : ∀ k, 2 ≤ k → Sd k 1 1 := fun k hk => .done fun h => by have := Nat.le_of_dvd (by decide) h; omega
  have e : n = 1 ∨ n = 2 ∨ n = 3 ∨ n = 4 ∨ n = 5 ∨ n = 6 ∨ n = 7 ∨ n = 8 ∨ n = 9 ∨ n = 10 ∨ n = 11 ∨ n = 12 := by omega
  rcases e with rfl | rfl | rfl | rfl | rfl | rfl | rfl | rfl | rfl | rfl | rfl | rfl
  · exact s1 (by decide) (by decide)
  · exact s1 (by decide) (by decide)
  · exact s1 (by decide) (by decide)
  · exact .yes (n' := 1) (xs := []) (by decide) (by decide) (.step (by decide) (.step (by decide) (d1 2 (by decide)))) (s1 (by decide) (by decide))
  · exact .no (xs := [5]) (by decide) (by decide) (s1 (by decide) (by decide))
  · exact .yes (n' := 3) (xs := [3]) (by decide) (by decide) (.step (by decide) (.done (by decide))) (s1 (by decide) (by decide))
  · exact .no (xs := [7]) (by decide) (by decide) (s1 (by decide) (by decide))
  · exact .yes (n' := 1) (xs := []) (by decide) (by decide) (.step (by decide) (.step (by decide) (.step (by decide) (d1 2 (by decide))))) (s1 (by decide) (by decide))
  · exact .no (xs := [3]) (by decide) (by decide) (.yes (k := 3) (n' := 1) (xs := []) (by decide) (by decide) (.step (by decide) (.step (by decide) (d1 3 (by decide)))) (s1 (by decide) (by decide)))
  · exact .yes (n' := 5) (xs := [5]) (by decide) (by decide) (.step (by decide) (.done (by decide))) (s1 (by decide) (by decide))
  · exact .no (xs := [11]) (by decide) (by decide) (.no (by decide) (by decide) (s1 (by decide) (by decide)))
  · exact .yes (n' := 3) (xs := [3]) (by decide) (by decide) (.step (by decide) (.step (by decide) (.done (by decide)))) (s1 (by decide) (by decide))
end RR

/-! V26a: papers modulo a prime -/
namespace RR
open PySem PySem.Spec PyProof.Rows L2
local macro_rules | `(tactic| walk_at "bd") => `(tactic| first | assumption | exact bd_lit (by decide) | (with_reducible refine bd_mul ?_ ?_ <;> walk_at "bd") | (with_reducible refine bd_add ?_ ?_ <;> walk_at "bd") | (with_reducible refine bd_sub ?_ ?_ <;> walk_at "bd") | (with_reducible refine bd_neg ?_ <;> walk_at "bd"))
local macro_rules | `(tactic| walk_at "s") => `(tactic| with_reducible first
  | refine v_then ?_ | refine v_set ?_ | (apply v_var; · with_unfolding_all exact rfl) | refine v_bin ?_ | refine v_c ?_ | refine v_g0 ?_ | refine v_add ?_ | refine v_cons ?_ | refine v_nil ?_ | refine v_call ?_ | refine v_dB ?_ | refine v_next ?_ | refine v_ret ?_
  | refine v_ite ?_ | refine v_tst ?_ | refine v_kT ?_ | refine v_eqi ?_ | refine v_nei ?_ | refine v_eqr ?_ | refine v_ner ?_ | refine v_eqr0 ?_ | refine v_ner0 ?_ | refine v_eql ?_ | refine v_nel ?_ | refine v_eql0 ?_ | refine v_nel0 ?_ | refine v_isN ?_ | refine v_notN ?_
  | (apply v_bor; · with_unfolding_all exact rfl) | (apply v_own; · with_unfolding_all exact rfl) | refine v_tup ?_ | refine v_lst ?_ | (refine v_sz ?_ ?_; (· with_unfolding_all exact Nat.le_of_ble_eq_true rfl)) | (refine v_gIIz ?_ ?_; (· first | decide | omega))
  | refine v_lentz ?_ | refine v_lenlz ?_ | refine v_lent ?_ | refine v_lenl ?_ | refine v_I1 ?_ | refine v_I2 ?_ | refine v_int ?_ | refine v_seqlz ?_ | refine v_seqtz ?_ | refine v_sl ?_ | refine v_kSll ?_ | refine v_kSlt ?_ | refine v_ono ?_ | refine v_oso ?_ | refine v_kOS ?_
  | refine v_val ?_ | refine v_kVb ?_ | refine v_kVi ?_ | refine v_kVt ?_ | refine v_kVl ?_ | refine v_and ?_ | refine v_or ?_ | refine v_not ?_ | refine v_yes ?_ | refine v_if' ?_ | refine v_isi ?_ | refine v_kIii ?_ | refine v_kIib ?_ | refine v_kItt ?_
  | refine v_andV ?_ | refine v_orV ?_ | refine v_notV ?_ | refine v_kNV ?_ | refine v_neg ?_ | refine v_kNeg ?_ | refine v_seq ?_ | refine v_kSeql ?_ | refine v_kSeqt ?_ | refine v_rng1 ?_ | refine v_rng2 ?_ | refine v_enum ?_ | refine v_revr ?_ | refine v_rev ?_
  | (refine v_kR1 ?_ ?_ ?_; (· decide); (· decide))
  | (refine v_kR2 ?_ ?_ ?_ ?_ ?_; (· decide); (· decide); (· decide); (· decide))
  | refine v_gn ?_ | refine v_gt2 ?_ | refine v_gt3 ?_ | refine v_lc ?_ | refine v_for ?_ | refine v_setO ?_ | refine v_drop ?_ | (apply v_app; · with_unfolding_all exact rfl) | (apply v_setI; · with_unfolding_all exact rfl) | (apply v_rel; · with_unfolding_all exact rfl) | refine v_raise ?_ | refine v_par ?_ | refine v_kP ?_ | refine v_asg ?_
  | (apply v_aug; · with_unfolding_all exact rfl) | refine v_ifT ?_ | refine v_ifF ?_ | (refine v_pow ?_ ?_ ?_ ?_; (· decide); (· decide); (· decide)) | refine v_call0 ?_ | (apply v_lenr; · assumption) | (apply v_seqr; · assumption) | (apply v_kSeqr; · assumption) | (apply v_kSlr; · assumption)
  | refine v_ix0 ?_ | refine v_ix1 ?_ | refine v_ix2 ?_ | refine v_zip ?_ | refine v_kZl ?_ | refine v_kZt ?_ | (apply v_augI; · with_unfolding_all exact rfl) | refine v_try ?_ | refine v_isE ?_ | (refine v_kIE ?_ ?_; (· with_unfolding_all exact rfl)) | refine v_isB ?_ | refine v_notB ?_ | refine v_all ?_ | refine v_par3 ?_ | refine v_ifnT ?_ | refine v_ifnF ?_ | refine v_eqs ?_ | refine v_nes ?_ | refine v_rvs ?_ | refine v_kRvl ?_ | refine v_kRvt ?_
  | (refine v_mulb (a := ?a) (b := ?b) ?ha ?hb ?l ?h; (case ha => assumption); (case hb => assumption); (case l => omega)) | (refine v_fdivb (b := ?b) ?h0 ?hb ?l ?h; (case h0 => assumption); (case hb => assumption); (case l => omega)))
/-- a monic row modulo a prime, and its going from power to power -/
structure Md (q n : Nat) (f : Ser (Kp q)) (F : List Int) (r : Nat → Ser (Kp q)) : Prop where
  fer : Fer q
  le : q ≤ 9972
  pr : Pr ((q + 1 : Nat) : Int)
  mo : Mo f F
  mc : Mc n f
  ln : F.length = n + 1
  n1 : 1 ≤ n
  n12 : n ≤ 12
  pw : Pws n f r
theorem Md.ne {q n : Nat} {f : Ser (Kp q)} {F : List Int} {r : Nat → Ser (Kp q)} (h : Md q n f F r) : F ≠ [] := fun z => by have := h.ln; rw [z] at this; cases this
/-- a rest is the one -/
theorem Md.at {q n : Nat} {f a y p u : Ser (Kp q)} {F v : List Int} {r : Nat → Ser (Kp q)} {N : Nat} (h : Md q n f F r) (hv : Mo y v) (e : a = u * f + y) (fy : far (F.length - 1) y) (fu : far N u) (fp : far n p) (c : Cg f a p) : v = rwo n p := by
  have fy : far n y := by rw [h.ln] at fy; exact fy
  have : y = p := h.mc.eq h.fer.dom h.fer.one fy fp ((show Cg f a y from ⟨u, N, fu, e⟩).symm.trans c)
  rw [← this]
  exact hv.rw fy
/-- the powers, told -/
def pwl {q : Nat} (n : Nat) (r : Nat → Ser (Kp q)) (j : Nat) : List D := (List.range j).map fun i => .tup (zz (rwo n (r (i + 1))))
theorem pwl_succ {q n j : Nat} {r : Nat → Ser (Kp q)} : pwl n r (j + 1) = pwl n r j ++ [.tup (zz (rwo n (r (j + 1))))] := by
  unfold pwl; rw [List.range_succ, List.map_append]; rfl
theorem pwl_nls {q n j : Nat} {r : Nat → Ser (Kp q)} : D.nls (pwl n r j) = true := nls_all.mpr fun d hd => by
  obtain ⟨i, _, rfl⟩ := List.mem_map.mp hd
  exact nl_row _
theorem pwl_len {q n j : Nat} {r : Nat → Ser (Kp q)} : (pwl n r j).length = j := by unfold pwl; rw [List.length_map, List.length_range]
theorem pwl_at {q n j i : Nat} {r : Nat → Ser (Kp q)} (h : i < j) : atI (pwl n r j) (i : Int) = some (.tup (zz (rwo n (r (i + 1))))) := by
  refine atI_pos ?_
  unfold pwl
  rw [List.getElem?_map, List.getElem?_range h]; rfl
theorem pwl_last {q n j : Nat} {r : Nat → Ser (Kp q)} (h : 1 ≤ j) : atI (pwl n r j) (-1) = some (.tup (zz (rwo n (r j)))) := by
  obtain ⟨k, rfl⟩ : ∃ k, j = k + 1 := ⟨j - 1, by omega⟩
  rw [pwl_succ]
  exact atI_last _ _
theorem rwo_bd {q n : Nat} {y : Ser (Kp q)} (hq : q ≤ 9999) : ∀ x ∈ rwo n y, bd 20 x := fun x hx => by
  obtain ⟨k, _, rfl⟩ := List.mem_map.mp (strip_mem hx)
  have := (y.co k).isLt
  unfold bd; omega
def b_modfactors_powers_by {M : Type} : DS M :=
    (dThen (dSetO 2 (dLst dNil))
    (dThen (dSet 3 (dBin (gIx false) (dCall s_modrows_parted_by [] (dCons (dC (.tup [(.int 0), (.int 1)])) (dCons (dVar 0) (dCons (dVar 1) dNil)))) (dC (.int 1))))
    (dThen (dFor (dRng1 (dCons (dBin (g0 fun i j => .int (i - j)) (dB gLen (dCons (dVar 0) dNil)) (dC (.int 1))) dNil)) (dgN 4)
      (dThen (dSet 3 (dCall s_modrows_power_by [] (dCons (dVar 3) (dCons (dVar 1) (dCons (dVar 0) (dCons (dVar 1) dNil))))))
    (dApp 2 (dVar 3))))
    (dRet (dB (gSeq .tup) (dCons (dOwn 2) dNil))))))

def s_modfactors_powers_by {M : Type} : DSp M := fun ds m Q Z => ∃ (q n : Nat) (f : Ser (Kp q)) (F : List Int) (r : Nat → Ser (Kp q)), ds = [.tup (zz F), .int ((q + 1 : Nat) : Int)] ∧ Md q n f F r ∧ Q (.tup (pwl n r n)) m
theorem vc_modfactors_powers_by {M : Type} : ∀ ds (m : M) Q Z, s_modfactors_powers_by ds m Q Z → okK [false, false] ds ∧ b_modfactors_powers_by { nx := fun _ m' => Q .non m', rt := Q, ex := Z } (st0 [false, false] ds 5) m := by
  rintro ds m Q Z ⟨q, n, f, F, r, rfl, h, k⟩
  refine ⟨⟨fun _ => nl_row F, fun _ => rfl, trivial⟩, ?_⟩
  unfold b_modfactors_powers_by
  have ln := h.ln
  have n12 := h.n12
  have n1 := h.n1
  have hq := h.le
  repeat walk_at "s"
  refine v_kO (by rfl) ?_
  repeat walk_at "s"
  refine ⟨q, xp 1, f, [0, 1], F, rfl, h.fer, by omega, mo_x h.fer.1, h.mo, h.ne, by decide, by omega, fun u v a y hu hv e fy _ _ => ?_⟩
  have ev := h.at hv e fy hu.far (h.pw.fr 0) h.pw.r0
  subst ev
  repeat walk_at "s"
  refine v_kR1 (by omega) (by omega) ?_
  rw [show ((F.length : Int) - 1).toNat = n by omega]
  refine v_kforR n (fun j ρ m' => m' = m ∧ ∃ a4 : Sl, ρ = [.val (.tup (zz F)), .val (.int ((q + 1 : Nat) : Int)), .own (pwl n r j), .val (.tup (zz (rwo n (r j)))), a4]) ⟨rfl, _, rfl⟩ (fun ρ m' hh => ?_) fun j ρ m' hj hh => ?_
  · obtain ⟨rfl, _, rfl⟩ := hh
    repeat walk_at "s"
    refine v_seql pwl_nls ?_
    exact k
  · obtain ⟨rfl, _, rfl⟩ := hh
    have l1 := rwo_len (n := n) (y := r j)
    repeat walk_at "s"
    refine ⟨q, r j, f, rwo n (r j), F, q + 1, rfl, h.fer, by omega, rwo_mo (h.pw.fr j), h.mo, h.ne, by omega, by omega, fun v a y N hv e fy fa => ?_⟩
    have ev := h.at hv e fy fa (h.pw.fr (j + 1)) (h.pw.rs j)
    subst ev
    repeat walk_at "s"
    refine v_appk (nl_row _) (by rw [pwl_len]; omega) ?_
    rw [← pwl_succ]
    exact ⟨rfl, _, rfl⟩
/-- what is told of the primes of the degree -/
noncomputable def cm {q : Nat} (f : Ser (Kp q)) (r : Nat → Ser (Kp q)) (m : Nat) : Ser (Kp q) × Ser (Kp q) × Ser (Kp q) := by
  classical
  exact if h : ∃ w : Ser (Kp q) × Ser (Kp q) × Ser (Kp q), Comm (r m - xp 1) f w.1 w.2.1 w.2.2 then h.choose else (0, 0, 0)
theorem Md.cm {q n : Nat} {f : Ser (Kp q)} {F : List Int} {r : Nat → Ser (Kp q)} (h : Md q n f F r) (m : Nat) : Comm (r m - xp 1) f (RR.cm f r m).1 (RR.cm f r m).2.1 (RR.cm f r m).2.2 := by
  have e : ∃ w : Ser (Kp q) × Ser (Kp q) × Ser (Kp q), Comm (r m - xp 1) f w.1 w.2.1 w.2.2 := comm_ex h.fer ((Bo.of (h.pw.fr m)).sub .xp) (.of h.mc.far) (h.mc.ne h.fer.one)
  unfold RR.cm
  rw [dif_pos e]
  exact e.choose_spec
theorem nl_2r {U V : List Int} : (D.tup [.tup (zz U), .tup (zz V)]).nl = true := by
  have : D.nls [D.tup (zz U), D.tup (zz V)] = true := nls_all.mpr fun x hx => by
    simp only [List.mem_cons, List.not_mem_nil, or_false] at hx
    rcases hx with rfl | rfl <;> exact nl_row _
  simpa only [D.nl] using this
/-- one pair -/
noncomputable def prD {q : Nat} (n : Nat) (f : Ser (Kp q)) (r : Nat → Ser (Kp q)) (l : Int) : D := .tup [.tup (zz (rwo n (cm f r (n / l.toNat)).2.1)), .tup (zz (rwo n (cm f r (n / l.toNat)).2.2))]
/-- whether a paper is told -/
def Told {q : Nat} (n : Nat) (f : Ser (Kp q)) (r : Nat → Ser (Kp q)) : Prop := r n = r 0 ∧ ∀ l ∈ pr12 n, (cm f r (n / l.toNat)).1 = 1
noncomputable def papD {q : Nat} (n : Nat) (r : Nat → Ser (Kp q)) (f : Ser (Kp q)) : D := .tup [.tup (pwl n r n), .tup ((pr12 n).map (prD n f r))]
theorem pr12_in {n : Nat} {l : Int} (n1 : 1 ≤ n) (h : l ∈ pr12 n) : ∃ k : Nat, l = (k : Int) ∧ 2 ≤ k ∧ k ≤ 11 ∧ k ∣ n ∧ 1 ≤ n / k ∧ n / k < n := by
  unfold pr12 at h
  rw [List.mem_filter] at h
  have hd := of_decide_eq_true h.2
  have e : ∃ k : Nat, l = (k : Int) ∧ 2 ≤ k ∧ k ≤ 11 := by
    have := h.1
    simp only [List.mem_cons, List.not_mem_nil, or_false] at this
    rcases this with rfl | rfl | rfl | rfl | rfl
    · exact ⟨2, rfl, by decide, by decide⟩
    · exact ⟨3, rfl, by decide, by decide⟩
    · exact ⟨5, rfl, by decide, by decide⟩
    · exact ⟨7, rfl, by decide, by decide⟩
    · exact ⟨11, rfl, by decide, by decide⟩
  obtain ⟨k, rfl, k2, k11⟩ := e
  have dv := fm_dvd.mp hd
  exact ⟨k, rfl, k2, k11, dv, Nat.div_pos (Nat.le_of_dvd (by omega) dv) (by omega), Nat.div_lt_self (by omega) (by omega)⟩
def b_modfactors_mod_paper {M : Type} : DS M :=
    (dThen (dDrop (dCall s_numbers_need_prime [] (dCons (dVar 1) dNil)))
    (dThen (dSet 2 (dCall s_modfactors_powers_by [] (dCons (dVar 0) (dCons (dVar 1) dNil))))
    (dThen (dIte (dTst (dBin gNe (dBin (gIx false) (dVar 2) (dNeg (dC (.int 1)))) (dBin (gIx false) (dCall s_modrows_parted_by [] (dCons (dC (.tup [(.int 0), (.int 1)])) (dCons (dVar 0) (dCons (dVar 1) dNil)))) (dC (.int 1)))))
      (dRet (dC .non))
      dNext)
    (dThen (dSetO 3 (dLst dNil))
    (dThen (dFor (dSeq false (dCall s_numbers_primes_of [] (dCons (dBin (g0 fun i j => .int (i - j)) (dB gLen (dCons (dVar 0) dNil)) (dC (.int 1))) dNil))) (dgN 4)
      (dThen (dSet 5 (dCall s_modrows_less_by [] (dCons (dBin (gIx false) (dVar 2) (dBin (g0 fun i j => .int (i - j)) (dBin (gII Nd fun i j => .int (i.fdiv j)) (dBin (g0 fun i j => .int (i - j)) (dB gLen (dCons (dVar 0) dNil)) (dC (.int 1))) (dVar 4)) (dC (.int 1)))) (dCons (dC (.tup [(.int 0), (.int 1)])) (dCons (dVar 1) dNil)))))
    (dThen (dAsg (dCall s_modrows_joined_by [] (dCons (dVar 5) (dCons (dVar 0) (dCons (dVar 1) dNil)))) (dgT 3 (dgCons (dgN 6) (dgCons (dgN 7) (dgCons (dgN 8) dgNil)))))
    (dThen (dIte (dTst (dBin gNe (dVar 6) (dTup (dCons (dC (.int 1)) dNil))))
      (dRet (dC .non))
      dNext)
    (dApp 3 (dTup (dCons (dVar 7) (dCons (dVar 8) dNil))))))))
    (dRet (dTup (dCons (dVar 2) (dCons (dB (gSeq .tup) (dCons (dOwn 3) dNil)) dNil)))))))))

def s_modfactors_mod_paper {M : Type} : DSp M := fun ds m Q Z => ∃ (q n : Nat) (f : Ser (Kp q)) (F : List Int) (r : Nat → Ser (Kp q)), ds = [.tup (zz F), .int ((q + 1 : Nat) : Int)] ∧ Md q n f F r ∧ (Told n f r → Q (papD n r f) m) ∧ (¬ Told n f r → Q .non m)
theorem zs_x {q : Nat} : (zs (ser [0, 1]) : Ser (Kp q)) = xp 1 := by
  rw [ser_cons, ser_cons, ser_nil, zs_add, zs_mul, zs_add, zs_mul, zs_C, zs_C, zs_xp, zs_zero, zc_zero, zc_one, C_zero, C_one]
  grind
theorem vc_modfactors_mod_paper {M : Type} : ∀ ds (m : M) Q Z, s_modfactors_mod_paper ds m Q Z → okK [false, false] ds ∧ b_modfactors_mod_paper { nx := fun _ m' => Q .non m', rt := Q, ex := Z } (st0 [false, false] ds 9) m := by
  rintro ds m Q Z ⟨q, n, f, F, r, rfl, h, k1, k2⟩
  refine ⟨⟨fun _ => nl_row F, fun _ => rfl, trivial⟩, ?_⟩
  unfold b_modfactors_mod_paper
  have ln := h.ln
  have n12 := h.n12
  have n1 := h.n1
  have hq := h.le
  repeat walk_at "s"
  refine ⟨_, rfl, .inl ⟨_, rfl, fun _ _ => ?_, fun z => absurd ⟨h.pr, by omega⟩ z⟩⟩
  repeat walk_at "s"
  refine ⟨q, n, f, F, r, rfl, h, ?_⟩
  repeat walk_at "s"
  refine v_ixT (pwl_last n1) (nl_row _) ?_
  repeat walk_at "s"
  refine ⟨q, xp 1, f, [0, 1], F, rfl, h.fer, by omega, mo_x h.fer.1, h.mo, h.ne, by decide, by omega, fun u v a y hu hv e fy _ _ => ?_⟩
  have ev := h.at hv e fy hu.far (h.pw.fr 0) h.pw.r0
  subst ev
  repeat walk_at "s"
  refine v_ifn (fun hne => ?_) fun heq => ?_
  · repeat walk_at "s"
    exact k2 fun t => hne (by rw [t.1])
  have rn : r n = r 0 := by
    have a := rwo_mo (h.pw.fr n)
    rw [heq] at a
    exact a.inj (rwo_mo (h.pw.fr 0))
  repeat walk_at "s"
  refine v_kO (by rfl) ?_
  repeat walk_at "s"
  refine ⟨n, by rw [show ((F.length : Int) - 1) = (n : Int) by omega], n1, by omega, fun xs hx _ => ?_⟩
  obtain rfl := hx.uniq (pf12 n n1 n12)
  repeat walk_at "s"
  refine v_kforZ (fun R ρ m' => m' = m ∧ ∃ (S : List Int) (a4 a5 a6 a7 a8 : Sl), ρ = [.val (.tup (zz F)), .val (.int ((q + 1 : Nat) : Int)), .val (.tup (pwl n r n)), .own (S.map (prD n f r)), a4, a5, a6, a7, a8] ∧ pr12 n = S ++ R ∧ ∀ l ∈ S, (cm f r (n / l.toNat)).1 = 1) (pr12 n) ⟨rfl, [], _, _, _, _, _, rfl, rfl, fun _ h => (nomatch h)⟩ (fun ρ m' hh => ?_) fun x R ρ m' hh => ?_
  · obtain ⟨rfl, S, _, _, _, _, _, rfl, eS, hS⟩ := hh
    rw [List.append_nil] at eS
    subst eS
    have : D.nls ((pr12 n).map (prD n f r)) = true := nls_all.mpr fun d hd => by
      obtain ⟨l, _, rfl⟩ := List.mem_map.mp hd
      exact nl_2r
    repeat walk_at "s"
    refine v_seql this ?_
    repeat walk_at "s"
    exact k1 ⟨rn, hS⟩
  · obtain ⟨rfl, S, _, _, _, _, _, rfl, eS, hS⟩ := hh
    have hx : x ∈ pr12 n := by rw [eS]; simp
    obtain ⟨l, rfl, l2, l11, ld, m1, mn⟩ := pr12_in n1 hx
    have z0 : ((l : Nat) : Int) ≠ 0 := by omega
    have zb : bd 60 ((l : Nat) : Int) := by unfold bd; omega
    have lS : S.length ≤ 100 := by
      have : (pr12 n).length ≤ 5 := List.length_filter_le ..
      rw [eS, List.length_append] at this
      omega
    repeat walk_at "s"
    rw [show ((F.length : Int) - 1) = (n : Int) by omega, fd_nat, show (((n / l : Nat) : Int) - 1) = ((n / l - 1 : Nat) : Int) by omega]
    refine v_ixT (pwl_at (by omega)) (nl_row _) ?_
    rw [show n / l - 1 + 1 = n / l by omega]
    have l1 := rwo_len (n := n) (y := r (n / l))
    repeat walk_at "s"
    refine ⟨q, rwo n (r (n / l)), [0, 1], 20, rfl, by omega, by decide, fun y hy => by
      simp only [List.mem_cons, List.not_mem_nil, or_false] at hy
      rcases hy with rfl | rfl <;> exact bd_lit (by decide), by decide, fun v hv => ?_⟩
    rw [(rwo_mo (h.pw.fr (n / l))).eq, zs_x] at hv
    have lv : v.length ≤ 14 := mo_len hv (far_sub (far_mono (h.pw.fr _) (by omega)) (far_mono (far_xp1 1) (by omega)))
    repeat walk_at "s"
    refine ⟨q, _, f, v, F, rfl, h.fer, by omega, hv, h.mo, by omega, by omega, fun a s t A U V hc ha hs ht lA lU lV => ?_⟩
    obtain ⟨ea, es, et⟩ := hc.uniq h.fer.dom (h.cm (n / l))
    repeat walk_at "s"
    refine v_ner (xs := A) (ys := [1]) ?_
    repeat walk_at "s"
    have e1 : A = [1] ↔ (cm f r (n / l)).1 = 1 := by
      rw [← ea]
      constructor
      · intro z
        subst z
        exact ha.inj (mo_one h.fer.1)
      · intro z
        exact (ha.cong z).uniq (mo_one h.fer.1)
    refine v_ifn (fun hne => ?_) fun heq => ?_
    · repeat walk_at "s"
      exact k2 fun t => hne (e1.mpr (by have := t.2 _ hx; simpa using this))
    · have g1 := e1.mp heq
      have fd : far n (r (n / l) - xp 1) := far_sub (h.pw.fr _) (far_mono (far_xp1 1) (by
        have := Nat.div_mul_cancel ld
        have : 2 ≤ n := by
          have := Nat.mul_le_mul m1 l2
          omega
        omega))
      obtain ⟨fs, ft⟩ := (h.cm (n / l)).sizes h.fer h.mc n1 fd g1
      repeat walk_at "s"
      refine v_appk nl_2r (by rw [List.length_map]; omega) ?_
      refine ⟨rfl, S ++ [(l : Int)], .val (.int l), .val (.tup (zz v)), .val (.tup (zz A)), .val (.tup (zz U)), .val (.tup (zz V)), ?_, by rw [eS]; simp, fun y hy => ?_⟩
      · rw [List.map_append, List.map_singleton, (hs.cong es).rw fs, (ht.cong et).rw ft]
        rfl
      · rcases List.mem_append.mp hy with z | z
        · exact hS y z
        · rw [List.mem_singleton.mp z]; simpa using g1
end RR

/-! VFF4: powers by the prime are additive; a paper is told just where a row has no factor -/
namespace RR
/-- ways -/
def bin : Nat → Nat → Nat
  | _, 0 => 1
  | 0, _ + 1 => 0
  | n + 1, k + 1 => bin n k + bin n (k + 1)
theorem bin_zero (n : Nat) : bin n 0 = 1 := by cases n <;> rfl
theorem bin_far : ∀ {n k : Nat}, n < k → bin n k = 0
  | 0, k + 1, _ => rfl
  | n + 1, k + 1, h => by
    show bin n k + bin n (k + 1) = 0
    rw [bin_far (by omega), bin_far (by omega)]
theorem bin_self : ∀ n : Nat, bin n n = 1
  | 0 => rfl
  | n + 1 => by
    show bin n n + bin n (n + 1) = 1
    rw [bin_self n, bin_far (by omega)]
theorem bin_mul : ∀ n k : Nat, (k + 1) * bin (n + 1) (k + 1) = (n + 1) * bin n k
  | 0, 0 => rfl
  | 0, k + 1 => by
    rw [show bin 1 (k + 2) = 0 from bin_far (by omega), show bin 0 (k + 1) = 0 from rfl]; simp
  | n + 1, 0 => by
    show 1 * (bin (n + 1) 0 + bin (n + 1) 1) = (n + 2) * bin (n + 1) 0
    have := bin_mul n 0
    simp only [bin_zero, Nat.zero_add, Nat.one_mul, Nat.mul_one] at this ⊢
    omega
  | n + 1, k + 1 => by
    have h1 := bin_mul n k
    have h2 := bin_mul n (k + 1)
    show (k + 2) * (bin (n + 1) (k + 1) + bin (n + 1) (k + 2)) = (n + 2) * bin (n + 1) (k + 1)
    have e : bin (n + 1) (k + 1) = bin n k + bin n (k + 1) := rfl
    rw [Nat.mul_add, h2, show (k + 2) * bin (n + 1) (k + 1) = (k + 1) * bin (n + 1) (k + 1) + bin (n + 1) (k + 1) by rw [Nat.add_mul, Nat.add_mul]; omega, h1, Nat.add_right_comm, ← Nat.mul_add, ← e]
    rw [show (n + 2) * bin (n + 1) (k + 1) = (n + 1) * bin (n + 1) (k + 1) + bin (n + 1) (k + 1) by rw [Nat.add_mul, Nat.add_mul]; omega]
section
variable {q : Nat}
def smq (n : Nat) (g : Nat → Ser (Kp q)) : Ser (Kp q) := match n with
  | 0 => 0
  | n + 1 => smq n g + g n
theorem smq_add {g h : Nat → Ser (Kp q)} : ∀ n : Nat, smq n (fun k => g k + h k) = smq n g + smq n h
  | 0 => by show (0 : Ser (Kp q)) = 0 + 0; grind
  | n + 1 => by show smq n _ + _ = (smq n g + g n) + (smq n h + h n); rw [smq_add n]; grind
theorem smq_mul {g : Nat → Ser (Kp q)} {c : Ser (Kp q)} : ∀ n : Nat, smq n g * c = smq n (fun k => g k * c)
  | 0 => by show (0 : Ser (Kp q)) * c = 0; grind
  | n + 1 => by show (smq n g + g n) * c = smq n (fun k => g k * c) + g n * c; rw [← smq_mul n]; grind
theorem smq_congr {g h : Nat → Ser (Kp q)} : ∀ n : Nat, (∀ k, k < n → g k = h k) → smq n g = smq n h
  | 0, _ => rfl
  | n + 1, e => by show smq n g + g n = smq n h + h n; rw [smq_congr n fun k hk => e k (by omega), e n (by omega)]
theorem smq_first {g : Nat → Ser (Kp q)} : ∀ n : Nat, smq (n + 1) g = g 0 + smq n (fun k => g (k + 1))
  | 0 => by show 0 + g 0 = g 0 + 0; grind
  | n + 1 => by show smq (n + 1) g + g (n + 1) = g 0 + (smq n _ + g (n + 1)); rw [smq_first n]; grind
theorem smq_zero {g : Nat → Ser (Kp q)} : ∀ n : Nat, (∀ k, k < n → g k = 0) → smq n g = 0
  | 0, _ => rfl
  | n + 1, h => by show smq n g + g n = 0; rw [smq_zero n fun k hk => h k (by omega), h n (by omega)]; grind
def cb (q : Nat) (n k : Nat) : Ser (Kp q) := Ser.C (zc ((bin n k : Nat) : Int))
theorem cb_succ (n k : Nat) : cb q (n + 1) (k + 1) = cb q n k + cb q n (k + 1) := by
  unfold cb
  rw [show bin (n + 1) (k + 1) = bin n k + bin n (k + 1) from rfl, Int.natCast_add, zc_add, C_add]
theorem cb_one {n k : Nat} (h : bin n k = 1) : cb q n k = 1 := by
  unfold cb
  rw [h, show (((1 : Nat)) : Int) = 1 from rfl, zc_one, C_one]
theorem cb_zero {n k : Nat} (h : bin n k = 0) : cb q n k = 0 := by
  unfold cb
  rw [h, show (((0 : Nat)) : Int) = 0 from rfl, zc_zero, C_zero]
theorem binomial (a b : Ser (Kp q)) : ∀ n : Nat, (a + b) ^ n = smq (n + 1) fun k => cb q n k * a ^ k * b ^ (n - k)
  | 0 => by
    show (a + b) ^ 0 = 0 + cb q 0 0 * a ^ 0 * b ^ 0
    rw [Lean.Grind.Semiring.pow_zero, Lean.Grind.Semiring.pow_zero, Lean.Grind.Semiring.pow_zero, cb_one rfl]; grind
  | n + 1 => by
    rw [Lean.Grind.Semiring.pow_succ, binomial a b n, show smq (n + 1) (fun k => cb q n k * a ^ k * b ^ (n - k)) * (a + b) = smq (n + 1) (fun k => cb q n k * a ^ k * b ^ (n - k)) * a + smq (n + 1) (fun k => cb q n k * a ^ k * b ^ (n - k)) * b by grind, smq_mul, smq_mul]
    have e1 : smq (n + 1) (fun k => cb q n k * a ^ k * b ^ (n - k) * a) = smq (n + 1) (fun k => cb q n k * a ^ (k + 1) * b ^ (n - k)) := smq_congr _ fun k _ => by rw [Lean.Grind.Semiring.pow_succ]; grind
    have e2 : smq (n + 1) (fun k => cb q n k * a ^ k * b ^ (n - k) * b) = smq (n + 1) (fun k => cb q n k * a ^ k * b ^ (n + 1 - k)) := smq_congr _ fun k hk => by rw [show n + 1 - k = n - k + 1 by omega, Lean.Grind.Semiring.pow_succ]; grind
    rw [e1, e2]
    have e3 : smq (n + 1) (fun k => cb q n k * a ^ k * b ^ (n + 1 - k)) = b ^ (n + 1) + smq (n + 1) (fun k => cb q n (k + 1) * a ^ (k + 1) * b ^ (n - k)) := by
      rw [smq_first n]
      congr 1
      · rw [cb_one (bin_zero n), Lean.Grind.Semiring.pow_zero]; show 1 * 1 * b ^ (n + 1) = _; grind
      · show _ = smq n _ + cb q n (n + 1) * a ^ (n + 1) * b ^ (n - n)
        rw [cb_zero (bin_far (by omega))]
        rw [show smq n (fun k => cb q n (k + 1) * a ^ (k + 1) * b ^ (n - k)) = smq n (fun k => cb q n (k + 1) * a ^ (k + 1) * b ^ (n + 1 - (k + 1))) from smq_congr n fun k hk => by rw [show n + 1 - (k + 1) = n - k by omega]]
        grind
    rw [e3, smq_first (n + 1)]
    have e4 : smq (n + 1) (fun k => cb q (n + 1) (k + 1) * a ^ (k + 1) * b ^ (n + 1 - (k + 1))) = smq (n + 1) (fun k => cb q n k * a ^ (k + 1) * b ^ (n - k)) + smq (n + 1) (fun k => cb q n (k + 1) * a ^ (k + 1) * b ^ (n - k)) := by
      rw [← smq_add]
      exact smq_congr _ fun k hk => by rw [cb_succ, show n + 1 - (k + 1) = n - k by omega]; grind
    rw [e4, cb_one (bin_zero (n + 1)), Lean.Grind.Semiring.pow_zero]
    show _ = 1 * 1 * b ^ (n + 1) + _
    grind
theorem bin_dvd {p k : Nat} (hp : ∀ d, 2 ≤ d → d < p → ¬ d ∣ p) (k0 : 0 < k) (kp : k < p) : p ∣ bin p k := by
  obtain ⟨n, rfl⟩ : ∃ n, p = n + 1 := ⟨p - 1, by omega⟩
  obtain ⟨j, rfl⟩ : ∃ j, k = j + 1 := ⟨k - 1, by omega⟩
  have e := bin_mul n j
  have cop : Nat.Coprime (n + 1) (j + 1) := by
    have g1 := Nat.gcd_dvd_left (n + 1) (j + 1)
    have g2 := Nat.gcd_dvd_right (n + 1) (j + 1)
    have l := Nat.le_of_dvd (by omega) g2
    have p0 : 0 < Nat.gcd (n + 1) (j + 1) := Nat.gcd_pos_of_pos_left _ (by omega)
    refine Classical.byContradiction fun z => ?_
    have z : Nat.gcd (n + 1) (j + 1) ≠ 1 := z
    exact hp _ (by omega) (by omega) g1
  exact cop.dvd_of_dvd_mul_left ⟨bin n j, e⟩
theorem pr_alone {p : Nat} (h : Pr (p : Int)) : ∀ d, 2 ≤ d → d < p → ¬ d ∣ p := by
  have small : ∀ d, 2 ≤ d → d * d ≤ p → ¬ d ∣ p := fun d h2 hd hv => h.2 d (by omega) (by exact_mod_cast hd) (fm_dvd.mpr hv)
  intro d h2 hd hv
  obtain ⟨k, hk⟩ := hv
  by_cases s : d * d ≤ p
  · exact small d h2 s ⟨k, hk⟩
  · have kd : k < d := by
      refine Nat.lt_of_not_le fun l => s ?_
      rw [hk]; exact Nat.mul_le_mul_left _ l
    have k2 : 2 ≤ k := by
      rcases (show k = 0 ∨ k = 1 ∨ 2 ≤ k by omega) with z | z | z
      · rw [z] at hk; omega
      · rw [z] at hk; omega
      · exact z
    refine small k k2 ?_ ⟨d, by rw [hk, Nat.mul_comm]⟩
    rw [hk]; exact Nat.mul_le_mul_right _ (by omega)
/-- powers by the prime are additive -/
theorem frob (hp : Pr ((q + 1 : Nat) : Int)) (a b : Ser (Kp q)) : (a + b) ^ (q + 1) = a ^ (q + 1) + b ^ (q + 1) := by
  have al := pr_alone hp
  rw [binomial, smq_first]
  show _ + (smq q (fun k => cb q (q + 1) (k + 1) * a ^ (k + 1) * b ^ (q + 1 - (k + 1))) + cb q (q + 1) (q + 1) * a ^ (q + 1) * b ^ (q + 1 - (q + 1))) = _
  rw [smq_zero q fun k hk => by
    have : cb q (q + 1) (k + 1) = 0 := by
      obtain ⟨m, hm⟩ := bin_dvd al (k := k + 1) (by omega) (by omega)
      unfold cb
      rw [zc_eq0.mpr (by rw [hm, Int.natCast_mul]; exact Int.mul_emod_right _ _), C_zero]
    rw [this]; grind]
  rw [cb_one (bin_zero _), cb_one (bin_self _), Nat.sub_self, Lean.Grind.Semiring.pow_zero, Lean.Grind.Semiring.pow_zero]
  show 1 * 1 * b ^ (q + 1) + _ = _
  grind
theorem frobk (hp : Pr ((q + 1 : Nat) : Int)) (a b : Ser (Kp q)) : ∀ m : Nat, (a + b) ^ ((q + 1) ^ m) = a ^ ((q + 1) ^ m) + b ^ ((q + 1) ^ m)
  | 0 => by
    rw [Nat.pow_zero]
    have one : ∀ x : Ser (Kp q), x ^ 1 = x := fun x => by rw [Lean.Grind.Semiring.pow_succ, Lean.Grind.Semiring.pow_zero]; grind
    rw [one, one, one]
  | m + 1 => by rw [Nat.pow_succ, ser_pow_mul, ser_pow_mul, ser_pow_mul, frobk hp a b m, frob hp]
theorem mul_powk (a b : Ser (Kp q)) : ∀ n : Nat, (a * b) ^ n = a ^ n * b ^ n
  | 0 => by rw [Lean.Grind.Semiring.pow_zero, Lean.Grind.Semiring.pow_zero, Lean.Grind.Semiring.pow_zero]; grind
  | n + 1 => by rw [Lean.Grind.Semiring.pow_succ, Lean.Grind.Semiring.pow_succ, Lean.Grind.Semiring.pow_succ, mul_powk a b n]; grind
theorem xp_pow (k : Nat) : (xp k : Ser (Kp q)) = (xp 1 : Ser (Kp q)) ^ k := by
  induction k with
  | zero => rw [xp0, Lean.Grind.Semiring.pow_zero]
  | succ k ih => rw [xp_add, Lean.Grind.Semiring.pow_succ, ih]
theorem zero_pow {n : Nat} (h : n ≠ 0) : (0 : Ser (Kp q)) ^ n = 0 := by
  obtain ⟨k, rfl⟩ : ∃ k, n = k + 1 := ⟨n - 1, by omega⟩
  rw [Lean.Grind.Semiring.pow_succ]; grind
/-- where so great a power leads x back to itself, it does so with all -/
theorem all_back (hF : Fer q) (hp : Pr ((q + 1 : Nat) : Int)) {f : Ser (Kp q)} {m : Nat} (c : Cg f ((xp 1 : Ser (Kp q)) ^ ((q + 1) ^ m)) (xp 1)) : ∀ (N : Nat) (y : Ser (Kp q)), far N y → Cg f (y ^ ((q + 1) ^ m)) y
  | 0, y, h => by
    rw [far0 h, zero_pow (by have := Nat.pow_pos (n := m) (show 0 < q + 1 by omega); omega)]; exact .refl
  | N + 1, y, h => by
    have e : y = (y - Ser.C (y.co N) * xp N) + Ser.C (y.co N) * xp N := by grind
    have fr : far N (y - Ser.C (y.co N) * xp N) := fun k hk => by
      rw [Ser.sub_co, Ser.C_mul_co, xp_co]
      by_cases z : k = N
      · rw [if_pos z, z]; grind
      · rw [if_neg z, h k (by omega)]; grind
    have i1 := all_back hF hp c N _ fr
    have i2 : Cg f ((Ser.C (y.co N) * xp N) ^ ((q + 1) ^ m)) (Ser.C (y.co N) * xp N) := by
      rw [mul_powk, C_pow, hF.pwk, xp_pow N, ← ser_pow_mul, Nat.mul_comm, ser_pow_mul]
      exact (Cg.refl (a := Ser.C (y.co N))).mulB (c.powB (Bo.xp.pow _) .xp N) .C ((Bo.xp.pow _).pow _)
    have := i1.add i2
    rw [← frobk hp, ← e] at this
    exact this
/-- a row without factors: no lesser power leads x back -/
theorem Irr.later (hF : Fer q) (hp : Pr ((q + 1 : Nat) : Int)) {n m : Nat} {f : Ser (Kp q)} (h : Irr n f) (m1 : 1 ≤ m) (mn : m < n) (c : Cg f ((xp 1 : Ser (Kp q)) ^ ((q + 1) ^ m)) (xp 1)) : False := by
  have q1 := hF.1
  have big : 2 ≤ (q + 1) ^ m := by
    have := Nat.pow_le_pow_right (show 0 < q + 1 by omega) m1
    rw [Nat.pow_one] at this
    omega
  obtain ⟨k, hk⟩ : ∃ k, (q + 1) ^ m = k + 2 := ⟨(q + 1) ^ m - 2, by omega⟩
  have ab := all_back hF hp c
  have ct := Pwy.count hF h (Pwy.powx (q := q) k) (h.not_one hF) (alls q n) (fun y hy => ⟨.of (alls_mem.mp hy), by
    have := (ab n y (alls_mem.mp hy)).mu
    rwa [hk] at this⟩) (List.Pairwise.imp_of_mem (fun {a b} ha hb hab d => hab (by
      have := dv_ne hF h.mc (far_sub (alls_mem.mp hb) (alls_mem.mp ha)) d
      grind)) (alls_nodup n))
  rw [alls_len] at ct
  have := Nat.pow_lt_pow_right (show 1 < q + 1 by omega) mn
  omega
/-- back to x by a and by b: back by their common part -/
theorem back_sub (hF : Fer q) (hp : Pr ((q + 1 : Nat) : Int)) {f : Ser (Kp q)} {a b : Nat} (ca : Cg f ((xp 1 : Ser (Kp q)) ^ ((q + 1) ^ (a + b))) (xp 1)) (cb : Cg f ((xp 1 : Ser (Kp q)) ^ ((q + 1) ^ b)) (xp 1)) : Cg f ((xp 1 : Ser (Kp q)) ^ ((q + 1) ^ a)) (xp 1) := by
  obtain ⟨N, hN⟩ := (Bo.xp (K := Kp q) (k := 1)).pow ((q + 1) ^ a)
  have := all_back hF hp cb N _ hN
  rw [← ser_pow_mul, ← Nat.pow_add] at this
  exact this.symm.trans ca
theorem back_zero {f : Ser (Kp q)} : Cg f ((xp 1 : Ser (Kp q)) ^ ((q + 1) ^ 0)) (xp 1) := by
  rw [Nat.pow_zero, Lean.Grind.Semiring.pow_succ, Lean.Grind.Semiring.pow_zero, show (1 : Ser (Kp q)) * xp 1 = xp 1 by grind]; exact .refl
theorem back_mul (hF : Fer q) (hp : Pr ((q + 1 : Nat) : Int)) {f : Ser (Kp q)} {a : Nat} (ca : Cg f ((xp 1 : Ser (Kp q)) ^ ((q + 1) ^ a)) (xp 1)) : ∀ k : Nat, Cg f ((xp 1 : Ser (Kp q)) ^ ((q + 1) ^ (a * k))) (xp 1)
  | 0 => by rw [Nat.mul_zero]; exact back_zero
  | k + 1 => by
    obtain ⟨N, hN⟩ := (Bo.xp (K := Kp q) (k := 1)).pow ((q + 1) ^ (a * k))
    have := all_back hF hp ca N _ hN
    rw [← ser_pow_mul, ← Nat.pow_add] at this
    rw [Nat.mul_succ]
    exact this.trans (back_mul hF hp ca k)
theorem back_gcd (hF : Fer q) (hp : Pr ((q + 1 : Nat) : Int)) {f : Ser (Kp q)} (a b : Nat) : Cg f ((xp 1 : Ser (Kp q)) ^ ((q + 1) ^ a)) (xp 1) → Cg f ((xp 1 : Ser (Kp q)) ^ ((q + 1) ^ b)) (xp 1) → Cg f ((xp 1 : Ser (Kp q)) ^ ((q + 1) ^ (Nat.gcd a b))) (xp 1) := by
  induction a, b using Nat.gcd.induction with
  | H0 n => intro _ h; rw [Nat.gcd_zero_left]; exact h
  | H1 m n h0 ih =>
    intro h1 h2
    rw [Nat.gcd_rec]
    refine ih ?_ h1
    exact back_sub hF hp (b := m * (n / m)) (by rw [Nat.mod_add_div]; exact h2) (back_mul hF hp h1 _)
/-- no row of half the degree or less divides it -/
def NoF (n : Nat) (f : Ser (Kp q)) : Prop := ∀ j g, 1 ≤ j → j ≤ n / 2 → Mc j g → ¬ Mu g f
theorem Irr.noF (hF : Fer q) {n : Nat} {f : Ser (Kp q)} (h : Irr n f) : NoF n f := fun j g j1 jn hg d => by
  obtain ⟨u, ⟨N, bu⟩, e⟩ := d
  have u0 : u ≠ 0 := fun z => h.mc.ne hF.one (by rw [e, z]; grind)
  obtain ⟨k, _, tk⟩ := top_of bu u0
  have := top_uniq (h.mc.top hF.one) (by rw [e]; exact top_mul hF.dom tk (hg.top hF.one))
  rcases h.alone u g k j tk (hg.top hF.one) e with z | z <;> omega
theorem made_monic (hF : Fer q) {k : Nat} {g : Ser (Kp q)} (t : top k g) : ∃ c d : Kp q, Mc k (Ser.C c * g) ∧ g = Ser.C d * (Ser.C c * g) := by
  obtain ⟨c, hc⟩ := hF.inv t.2
  refine ⟨c, g.co k, ⟨far_scale t.1, by rw [Ser.C_mul_co]; exact hc⟩, ?_⟩
  rw [show Ser.C (g.co k) * (Ser.C c * g) = Ser.C c * Ser.C (g.co k) * g by grind, ← C_mul, hc, C_one]; grind
theorem NoF.irr (hF : Fer q) {n : Nat} {f : Ser (Kp q)} (mc : Mc n f) (n1 : 1 ≤ n) (h : NoF n f) : Irr n f := ⟨mc, n1, fun g k j i tg tk e => by
  have ji := top_uniq (mc.top hF.one) (by rw [e]; exact top_mul hF.dom tg tk)
  refine Classical.byContradiction fun z => ?_
  have j0 : j ≠ 0 := fun y => z (.inl y)
  have i0 : i ≠ 0 := fun y => z (.inr y)
  by_cases l : j ≤ n / 2
  · obtain ⟨c, d, m, eg⟩ := made_monic hF tg
    exact h j _ (by omega) l m ⟨k * Ser.C d, (Bo.of tk.1).mul .C, by
      calc f = g * k := e
        _ = (Ser.C d * (Ser.C c * g)) * k := by rw [← eg]
        _ = _ := by grind⟩
  · obtain ⟨c, d, m, eg⟩ := made_monic hF tk
    exact h i _ (by omega) (by omega) m ⟨g * Ser.C d, (Bo.of tg.1).mul .C, by
      calc f = g * k := e
        _ = g * (Ser.C d * (Ser.C c * k)) := by rw [← eg]
        _ = _ := by grind⟩⟩
/-- a factor has one without factors -/
theorem least_factor (hF : Fer q) {f : Ser (Kp q)} : ∀ (j : Nat) (g : Ser (Kp q)), 1 ≤ j → Mc j g → Mu g f → ∃ i h, 1 ≤ i ∧ i ≤ j ∧ Irr i h ∧ Mu h f := by
  intro j
  induction j using Nat.strongRecOn with
  | _ j ih =>
    intro g j1 hg d
    by_cases z : NoF j g
    · exact ⟨j, g, j1, Nat.le_refl _, z.irr hF hg j1, d⟩
    · have : ∃ i h, 1 ≤ i ∧ i ≤ j / 2 ∧ Mc i h ∧ Mu h g := Classical.byContradiction fun y => z fun i h i1 i2 mh dh => y ⟨i, h, i1, i2, mh, dh⟩
      obtain ⟨i, h, i1, i2, mh, dh⟩ := this
      obtain ⟨i', h', a, b, c, e⟩ := ih i (by omega) h i1 mh (dh.trans d)
      exact ⟨i', h', a, by omega, c, e⟩
theorem some_prime {k : Nat} (k2 : 2 ≤ k) (k12 : k ≤ 12) : ∃ l : Nat, (l : Int) ∈ ([2, 3, 5, 7, 11] : List Int) ∧ l ∣ k := by
  have e : k = 2 ∨ k = 3 ∨ k = 4 ∨ k = 5 ∨ k = 6 ∨ k = 7 ∨ k = 8 ∨ k = 9 ∨ k = 10 ∨ k = 11 ∨ k = 12 := by omega
  rcases e with rfl | rfl | rfl | rfl | rfl | rfl | rfl | rfl | rfl | rfl | rfl
  · exact ⟨2, by decide, by decide⟩
  · exact ⟨3, by decide, by decide⟩
  · exact ⟨2, by decide, by decide⟩
  · exact ⟨5, by decide, by decide⟩
  · exact ⟨2, by decide, by decide⟩
  · exact ⟨7, by decide, by decide⟩
  · exact ⟨2, by decide, by decide⟩
  · exact ⟨3, by decide, by decide⟩
  · exact ⟨2, by decide, by decide⟩
  · exact ⟨11, by decide, by decide⟩
  · exact ⟨2, by decide, by decide⟩
/-- a paper is told just where no row of half the degree divides -/
theorem Md.told {n : Nat} {f : Ser (Kp q)} {F : List Int} {r : Nat → Ser (Kp q)} (h : Md q n f F r) : Told n f r ↔ NoF n f := by
  have hF := h.fer
  have n12 := h.n12
  constructor
  · intro t j g j1 jn mg dg
    obtain ⟨i, k, i1, ij, hk, dk⟩ := least_factor hF j g j1 mg dg
    have c1 : Cg k ((xp 1 : Ser (Kp q)) ^ ((q + 1) ^ n)) (xp 1) := by
      have := (h.pw.cg n).trans (by rw [t.1]; exact h.pw.r0.symm)
      exact this.of_mu dk
    have c2 := hk.full hF (Bo.xp (K := Kp q) (k := 1))
    have c3 := back_gcd hF h.pr n i c1 c2
    obtain ⟨e, he⟩ : ∃ e, e = Nat.gcd n i := ⟨_, rfl⟩
    rw [← he] at c3
    obtain ⟨w, hw⟩ : e ∣ n := by rw [he]; exact Nat.gcd_dvd_left ..
    have ei : e ≤ i := by rw [he]; exact Nat.le_of_dvd (by omega) (Nat.gcd_dvd_right ..)
    have e1 : 1 ≤ e := by rw [he]; exact Nat.gcd_pos_of_pos_right _ (by omega)
    have w2 : 2 ≤ w := by
      rcases (show w = 0 ∨ w = 1 ∨ 2 ≤ w by omega) with z | z | z
      · rw [z] at hw; omega
      · rw [z] at hw; omega
      · exact z
    have w12 : w ≤ 12 := by
      have : w ≤ e * w := Nat.le_mul_of_pos_left _ (by omega)
      omega
    obtain ⟨l, hl, v, hv⟩ := some_prime w2 w12
    have l0 : 0 < l := by
      rcases (show l = 0 ∨ 0 < l by omega) with z | z
      · rw [z] at hv; omega
      · exact z
    have nl : n / l = e * v := by
      rw [hw, hv, show e * (l * v) = l * (e * v) by rw [Nat.mul_left_comm]]
      exact Nat.mul_div_cancel_left _ l0
    have lm : (l : Int) ∈ pr12 n := by
      unfold pr12
      rw [List.mem_filter]
      exact ⟨hl, decide_eq_true (fm_dvd.mpr ⟨e * v, by rw [hw, hv, Nat.mul_left_comm]⟩)⟩
    have c4 := back_mul hF h.pr c3 v
    rw [← nl] at c4
    have one := t.2 _ lm
    rw [show ((l : Nat) : Int).toNat = l from rfl] at one
    have cmm := (h.cm (n / l)).good.1
    rw [one] at cmm
    have d1 : Mu k (r (n / l) - xp 1) := ((h.pw.cg (n / l)).of_mu dk |>.symm.trans c4).mu
    have fd : far n (r (n / l) - xp 1) := far_sub (h.pw.fr _) (far_mono (far_xp1 1) (by omega))
    obtain ⟨fs, ft⟩ := (h.cm (n / l)).sizes hF h.mc h.n1 fd one
    refine hk.not_one hF ?_
    rw [cmm]
    exact (d1.mul (.of fs)).add (dk.mul (.of ft))
  · intro nf
    have hi := nf.irr hF h.mc h.n1
    refine ⟨hi.round hF h.pw, fun l hl => ?_⟩
    obtain ⟨k, rfl, k2, k11, kd, m1, mn⟩ := pr12_in h.n1 hl
    rw [show ((k : Nat) : Int).toNat = k from rfl]
    refine hi.comm hF ((Bo.of (h.pw.fr _)).sub .xp) (fun d => ?_) (h.cm (n / k))
    exact hi.later hF h.pr m1 mn ((h.pw.cg (n / k)).trans d.cg)
end
end RR

/-! V25a: monic rows drawn, all of them, tried -/
namespace RR
open PySem PySem.Spec PyProof.Rows L2
local macro_rules | `(tactic| walk_at "bd") => `(tactic| first | assumption | exact bd_lit (by decide) | (with_reducible refine bd_mul ?_ ?_ <;> walk_at "bd") | (with_reducible refine bd_add ?_ ?_ <;> walk_at "bd") | (with_reducible refine bd_sub ?_ ?_ <;> walk_at "bd") | (with_reducible refine bd_neg ?_ <;> walk_at "bd"))
local macro_rules | `(tactic| walk_at "s") => `(tactic| with_reducible first
  | refine v_then ?_ | refine v_set ?_ | (apply v_var; · with_unfolding_all exact rfl) | refine v_bin ?_ | refine v_c ?_ | refine v_g0 ?_ | refine v_add ?_ | refine v_cons ?_ | refine v_nil ?_ | refine v_call ?_ | refine v_dB ?_ | refine v_next ?_ | refine v_ret ?_
  | refine v_ite ?_ | refine v_tst ?_ | refine v_kT ?_ | refine v_eqi ?_ | refine v_nei ?_ | refine v_eqr ?_ | refine v_ner ?_ | refine v_eqr0 ?_ | refine v_ner0 ?_ | refine v_eql ?_ | refine v_nel ?_ | refine v_eql0 ?_ | refine v_nel0 ?_ | refine v_isN ?_ | refine v_notN ?_
  | (apply v_bor; · with_unfolding_all exact rfl) | (apply v_own; · with_unfolding_all exact rfl) | refine v_tup ?_ | refine v_lst ?_ | (refine v_sz ?_ ?_; (· with_unfolding_all exact Nat.le_of_ble_eq_true rfl)) | (refine v_gIIz ?_ ?_; (· first | decide | omega))
  | refine v_lentz ?_ | refine v_lenlz ?_ | refine v_lent ?_ | refine v_lenl ?_ | refine v_I1 ?_ | refine v_I2 ?_ | refine v_int ?_ | refine v_seqlz ?_ | refine v_seqtz ?_ | refine v_sl ?_ | refine v_kSll ?_ | refine v_kSlt ?_ | refine v_ono ?_ | refine v_oso ?_ | refine v_kOS ?_
  | refine v_val ?_ | refine v_kVb ?_ | refine v_kVi ?_ | refine v_kVt ?_ | refine v_kVl ?_ | refine v_and ?_ | refine v_or ?_ | refine v_not ?_ | refine v_yes ?_ | refine v_if' ?_ | refine v_isi ?_ | refine v_kIii ?_ | refine v_kIib ?_ | refine v_kItt ?_
  | refine v_andV ?_ | refine v_orV ?_ | refine v_notV ?_ | refine v_kNV ?_ | refine v_neg ?_ | refine v_kNeg ?_ | refine v_seq ?_ | refine v_kSeql ?_ | refine v_kSeqt ?_ | refine v_rng1 ?_ | refine v_rng2 ?_ | refine v_enum ?_ | refine v_revr ?_ | refine v_rev ?_
  | (refine v_kR1 ?_ ?_ ?_; (· decide); (· decide))
  | (refine v_kR2 ?_ ?_ ?_ ?_ ?_; (· decide); (· decide); (· decide); (· decide))
  | refine v_gn ?_ | refine v_gt2 ?_ | refine v_gt3 ?_ | refine v_lc ?_ | refine v_for ?_ | refine v_setO ?_ | refine v_drop ?_ | (apply v_app; · with_unfolding_all exact rfl) | (apply v_setI; · with_unfolding_all exact rfl) | (apply v_rel; · with_unfolding_all exact rfl) | refine v_raise ?_ | refine v_par ?_ | refine v_kP ?_ | refine v_asg ?_
  | (apply v_aug; · with_unfolding_all exact rfl) | refine v_ifT ?_ | refine v_ifF ?_ | (refine v_pow ?_ ?_ ?_ ?_; (· decide); (· decide); (· decide)) | refine v_call0 ?_ | (apply v_lenr; · assumption) | (apply v_seqr; · assumption) | (apply v_kSeqr; · assumption) | (apply v_kSlr; · assumption)
  | refine v_ix0 ?_ | refine v_ix1 ?_ | refine v_ix2 ?_ | refine v_zip ?_ | refine v_kZl ?_ | refine v_kZt ?_ | (apply v_augI; · with_unfolding_all exact rfl) | refine v_try ?_ | refine v_isE ?_ | (refine v_kIE ?_ ?_; (· with_unfolding_all exact rfl)) | refine v_isB ?_ | refine v_notB ?_ | refine v_all ?_ | refine v_par3 ?_ | refine v_ifnT ?_ | refine v_ifnF ?_ | refine v_eqs ?_ | refine v_nes ?_ | refine v_rvs ?_ | refine v_kRvl ?_ | refine v_kRvt ?_
  | (refine v_mulb (a := ?a) (b := ?b) ?ha ?hb ?l ?h; (case ha => assumption); (case hb => assumption); (case l => omega)) | (refine v_fdivb (b := ?b) ?h0 ?hb ?l ?h; (case h0 => assumption); (case hb => assumption); (case l => omega)))
local macro_rules | `(tactic| walk_at "s") => `(tactic| with_reducible first | refine v_getC ?_ | refine v_kGC ?_ | (apply v_ext; · with_unfolding_all exact rfl))
theorem v_nebb2 {a b : Bool} {q : D → Prop} (h : q (.bl (!decide (a = b)))) : gNe (.bl a) (.bl b) q := .inl ⟨by cases a <;> rfl, by cases b <;> rfl, by cases a <;> cases b <;> exact h⟩
theorem v_eqbb2 {a b : Bool} {q : D → Prop} (h : q (.bl (decide (a = b)))) : gEq (.bl a) (.bl b) q := .inl ⟨by cases a <;> rfl, by cases b <;> rfl, by cases a <;> cases b <;> exact h⟩
/-- a monic row by its lesser numbers -/
theorem monic_row {q h : Nat} {cs : List Int} (hF : Fer q) (hl : cs.length = h) (hg : ∀ c ∈ cs, rg q c) : Mo (zs (ser (cs ++ [1])) : Ser (Kp q)) (cs ++ [1]) ∧ Mc h (zs (ser (cs ++ [1])) : Ser (Kp q)) ∧ (cs ++ [1]).length = h + 1 := by
  have q1 := hF.1
  have l : (cs ++ [(1 : Int)]).length = h + 1 := by simp [hl]
  refine ⟨⟨by unfold done; rw [strip_snoc, if_neg (by decide)], fun x hx => ?_, rfl⟩, ⟨?_, ?_⟩, l⟩
  · rcases List.mem_append.mp hx with z | z
    · exact hg x z
    · rw [List.mem_singleton.mp z]; exact ⟨by omega, by omega⟩
  · intro k hk
    rw [zs_co, ser_co, getD_far (by omega), zc_zero]
  · rw [zs_co, ser_co, List.getD_eq_getElem?_getD, List.getElem?_append_right (by omega), hl, Nat.sub_self]
    exact zc_one
/-- each monic row is such -/
theorem monic_cs {q h : Nat} {g : Ser (Kp q)} (mg : Mc h g) : ∃ cs : List Int, cs.length = h ∧ (∀ c ∈ cs, rg q c) ∧ g = zs (ser (cs ++ [1])) := by
  refine ⟨(List.range h).map fun k => (((g.co k).val : Nat) : Int), by simp, fun c hc => ?_, Ser.ext fun k => ?_⟩
  · obtain ⟨k, _, rfl⟩ := List.mem_map.mp hc
    exact ⟨by omega, by have := (g.co k).isLt; omega⟩
  · rw [zs_co, ser_co, List.getD_eq_getElem?_getD]
    by_cases hk : k < h
    · rw [List.getElem?_append_left (by simp; omega), List.getElem?_map, List.getElem?_range hk]
      exact (zc_val _).symm
    · by_cases e : k = h
      · subst e
        rw [List.getElem?_append_right (by simp), List.length_map, List.length_range, Nat.sub_self, mg.co]
        exact zc_one.symm
      · rw [List.getElem?_eq_none (by simp; omega), mg.far k (by omega)]
        exact zc_zero.symm
def b__law_monic : DS (Option Nat) :=
    (dThen (dSetO 3 (dLst dNil))
    (dThen (dFor (dRng1 (dCons (dVar 2) dNil)) (dgN 4)
      (dApp 3 (dBin (gIx false) (dLst (dCons (dC (.int 0)) (dCons (dC (.int 1)) (dCons (dBin (g0 fun i j => .int (i - j)) (dVar 1) (dC (.int 1))) (dCons (dCall s__law_draw [] (dCons (dVar 0) (dCons (dVar 1) dNil))) dNil))))) (dCall s__law_draw [] (dCons (dVar 0) (dCons (dC (.int 4)) dNil))))))
    (dRet (dBin gAdd (dB (gSeq .tup) (dCons (dOwn 3) dNil)) (dTup (dCons (dC (.int 1)) dNil))))))

def s__law_monic : DSp (Option Nat) := fun ds m Q Z => ∃ (N q : Nat) (high : Int), ds = [.hnd hdl, .int ((q + 1 : Nat) : Int), .int high] ∧ m = some N ∧ 1 ≤ q ∧ q ≤ 9999 ∧ 0 ≤ high ∧ high ≤ 1000 ∧ 2 * high ≤ N ∧ ∀ (cs : List Int) (N' : Nat), cs.length = high.toNat → (∀ c ∈ cs, rg q c) → N - 2 * high ≤ N' → Q (.tup (zz (cs ++ [1]))) (some N')
theorem vc__law_monic : ∀ ds (m : Option Nat) Q Z, s__law_monic ds m Q Z → okK [false, false, false] ds ∧ b__law_monic { nx := fun _ m' => Q .non m', rt := Q, ex := Z } (st0 [false, false, false] ds 5) m := by
  rintro ds m Q Z ⟨N, q, high, rfl, rfl, hq1, hq, m0, m1, hN, k⟩
  refine ⟨⟨fun _ => rfl, fun _ => rfl, fun _ => rfl, trivial⟩, ?_⟩
  unfold b__law_monic
  repeat walk_at "s"
  refine v_kO (by rfl) ?_
  repeat walk_at "s"
  refine v_kR1 (by omega) (by omega) ?_
  refine v_kforR high.toNat (fun j ρ m => ∃ (acc : List Int) (a4 : Sl) (N' : Nat), ρ = [.val (.hnd hdl), .val (.int ((q + 1 : Nat) : Int)), .val (.int high), .own (zz acc), a4] ∧ m = some N' ∧ acc.length = j ∧ (∀ x ∈ acc, rg q x) ∧ N ≤ N' + 2 * j) ⟨[], _, N, rfl, rfl, rfl, fun _ h => (nomatch h), by omega⟩ (fun ρ m h => ?_) fun j ρ m hj h => ?_
  · obtain ⟨acc, _, N', rfl, rfl, la, ga, hN'⟩ := h
    repeat walk_at "s"
    refine v_addtz (xs := acc) (ys := [1]) (by simp; omega) ?_
    exact k acc N' la ga (by omega)
  · obtain ⟨acc, _, N', rfl, rfl, la, ga, hN'⟩ := h
    repeat walk_at "s"
    refine v_drawN (by omega) (by omega) (by omega) fun y y0 y1 => ?_
    repeat walk_at "s"
    refine v_drawN (by omega) (by decide) (by decide) fun i i0 i1 => ?_
    refine v_ixl (xs := [0, 1, ((q + 1 : Nat) : Int) - 1, y]) i0 i1 ?_
    have hm : ∀ s ∈ [0, 1, ((q + 1 : Nat) : Int) - 1, y], rg q s := by
      intro s hs
      simp only [List.mem_cons, List.not_mem_nil, or_false] at hs
      rcases hs with rfl | rfl | rfl | rfl <;> exact ⟨by omega, by omega⟩
    have gv := hm _ (nth_mem i0 i1)
    generalize nth [0, 1, ((q + 1 : Nat) : Int) - 1, y] i = v at gv ⊢
    refine v_appk (by rfl) (by rw [zz, List.length_map]; omega) ?_
    rw [show zz acc ++ [.int v] = zz (acc ++ [v]) from zz_app (ys := [v])]
    refine ⟨acc ++ [v], _, N' - 1 - 1, rfl, rfl, by rw [List.length_append]; simp; omega, fun x hx => ?_, by omega⟩
    rcases List.mem_append.mp hx with h | h
    · exact ga x h
    · rw [List.mem_singleton.mp h]; exact gv
/-- all rows of so many numbers, in the order in which they are made -/
def allc (q : Nat) : Nat → List (List Int)
  | 0 => [[]]
  | k + 1 => (allc q k).flatMap fun r => (List.range (q + 1)).map fun i => r ++ [((i : Nat) : Int)]
theorem allc_mem {q : Nat} : ∀ {h : Nat} {cs : List Int}, cs ∈ allc q h ↔ cs.length = h ∧ ∀ c ∈ cs, rg q c
  | 0, cs => by
    show cs ∈ [[]] ↔ _
    rw [List.mem_singleton]
    constructor
    · rintro rfl; exact ⟨rfl, fun _ h => nomatch h⟩
    · exact fun z => List.length_eq_zero_iff.mp z.1
  | h + 1, cs => by
    show cs ∈ (allc q h).flatMap _ ↔ _
    rw [List.mem_flatMap]
    constructor
    · rintro ⟨r, hr, hc⟩
      obtain ⟨i, hi, rfl⟩ := List.mem_map.mp hc
      obtain ⟨a, b⟩ := allc_mem.mp hr
      have hi := List.mem_range.mp hi
      refine ⟨by simp [a], fun c hc => ?_⟩
      rcases List.mem_append.mp hc with z | z
      · exact b c z
      · rw [List.mem_singleton.mp z]; exact ⟨by omega, by omega⟩
    · rintro ⟨a, b⟩
      have n0 : cs ≠ [] := fun z => by rw [z] at a; cases a
      have e := (List.dropLast_concat_getLast n0).symm
      have hl := b _ (List.getLast_mem n0)
      refine ⟨cs.dropLast, allc_mem.mpr ⟨by simp [a], fun c hc => b c (List.dropLast_subset cs hc)⟩, List.mem_map.mpr ⟨(cs.getLast n0).toNat, List.mem_range.mpr (by have := hl.2; have := hl.1; omega), ?_⟩⟩
      rw [Int.toNat_of_nonneg hl.1]
      exact e.symm
theorem allc_len {q : Nat} : ∀ h : Nat, (allc q h).length = (q + 1) ^ h
  | 0 => rfl
  | h + 1 => by
    show ((allc q h).flatMap _).length = _
    rw [List.length_flatMap]
    have : ((allc q h).map fun a => ((List.range (q + 1)).map fun i => a ++ [((i : Nat) : Int)]).length) = (allc q h).map fun _ => q + 1 := List.map_congr_left fun a _ => by rw [List.length_map, List.length_range]
    rw [this]
    have sm : ∀ l : List (List Int), (l.map fun _ => q + 1).sum = l.length * (q + 1) := fun l => by
      induction l with
      | nil => simp
      | cons a l ih => rw [List.map_cons, List.sum_cons, ih, List.length_cons, Nat.succ_mul]; omega
    rw [sm, allc_len h, Nat.pow_succ]
abbrev rwD (cs : List Int) : D := .tup (zz cs)
theorem rwD_nls (l : List (List Int)) : D.nls (l.map rwD) = true := nls_all.mpr fun d hd => by
  obtain ⟨i, _, rfl⟩ := List.mem_map.mp hd
  exact nl_row _
def b__law_all_monic {M : Type} : DS M :=
    (dThen (dSet 2 (dLst (dCons (dTup dNil) dNil)))
    (dThen (dFor (dRng1 (dCons (dVar 1) dNil)) (dgN 3)
      (dThen (dSetO 4 (dLst dNil))
    (dThen (dFor (dSeq false (dVar 2)) (dgN 5)
      (dExt 4 (dLc (dRng1 (dCons (dVar 0) dNil)) (dgN 6) dYes (dBin gAdd (dVar 5) (dTup (dCons (dVar 6) dNil))) [6])))
    (dRel 4 (dSet 2 (dVar 4))))))
    (dRet (dLc (dSeq false (dVar 2)) (dgN 5) dYes (dBin gAdd (dVar 5) (dTup (dCons (dC (.int 1)) dNil))) [5]))))

def s__law_all_monic {M : Type} : DSp M := fun ds m Q Z => ∃ (q h : Nat), ds = [.int ((q + 1 : Nat) : Int), .int h] ∧ q ≤ 9999 ∧ h ≤ 100 ∧ (q + 1) ^ h ≤ 10000000 ∧ Q (.lst ((allc q h).map fun cs => rwD (cs ++ [1]))) m
theorem vc__law_all_monic {M : Type} : ∀ ds (m : M) Q Z, s__law_all_monic ds m Q Z → okK [false, false] ds ∧ b__law_all_monic { nx := fun _ m' => Q .non m', rt := Q, ex := Z } (st0 [false, false] ds 7) m := by
  rintro ds m Q Z ⟨q, h, rfl, hq, hh, hp, k⟩
  refine ⟨⟨fun _ => rfl, fun _ => rfl, trivial⟩, ?_⟩
  unfold b__law_all_monic
  have pw : ∀ j, j ≤ h → (q + 1) ^ j ≤ 10000000 := fun j hj => Nat.le_trans (Nat.pow_le_pow_right (by omega) hj) hp
  have ln : ∀ j, j ≤ h → ∀ cs ∈ allc q j, cs.length ≤ 100 := fun j hj cs hc => by have := (allc_mem.mp hc).1; omega
  repeat walk_at "s"
  refine v_kR1 (by omega) (by omega) ?_
  rw [show ((h : Nat) : Int).toNat = h from rfl]
  refine v_kforR h (fun j ρ m' => m' = m ∧ ∃ a3 a4 a5 a6 : Sl, ρ = [.val (.int ((q + 1 : Nat) : Int)), .val (.int h), .val (.lst ((allc q j).map rwD)), a3, a4, a5, a6]) ⟨rfl, _, _, _, _, rfl⟩ (fun ρ m' hh => ?_) fun j ρ m' hj hh => ?_
  · obtain ⟨rfl, _, _, _, _, rfl⟩ := hh
    repeat walk_at "s"
    refine v_kSeqL ?_
    refine lcGo_map (inj := rwD) (h := fun cs => rwD (cs ++ [1])) (allc q h) (fun cs hc m1 K l hk => ?_) (small_line (by rw [allc_len]; omega)) ?_
    · have := ln h (Nat.le_refl _) cs hc
      repeat walk_at "s"
      refine v_addtz (xs := cs) (ys := [1]) (by simp; omega) ?_
      exact hk
    exact k
  · obtain ⟨rfl, _, _, _, _, rfl⟩ := hh
    repeat walk_at "s"
    refine v_kO (by rfl) ?_
    repeat walk_at "s"
    refine v_kSeqL ?_
    refine v_kforL (inj := rwD) (fun R ρ m1 => m1 = m' ∧ ∃ (S : List (List Int)) (a3 a5 a6 : Sl), ρ = [.val (.int ((q + 1 : Nat) : Int)), .val (.int h), .val (.lst ((allc q j).map rwD)), a3, .own ((S.flatMap fun r => (List.range (q + 1)).map fun i => r ++ [((i : Nat) : Int)]).map rwD), a5, a6] ∧ allc q j = S ++ R) (allc q j) ⟨rfl, [], _, _, _, rfl, rfl⟩ (fun ρ m1 hh => ?_) fun x R ρ m1 hh => ?_
    · obtain ⟨rfl, S, _, _, _, rfl, eS⟩ := hh
      rw [List.append_nil] at eS
      subst eS
      repeat walk_at "s"
      exact ⟨rfl, _, _, _, _, rfl⟩
    · obtain ⟨rfl, S, a3, a5, a6, rfl, eS⟩ := hh
      have lx := ln j (by omega) x (by rw [eS]; simp)
      have p1 := pw 1 (by omega)
      rw [Nat.pow_one] at p1
      have big : ((S.flatMap fun r => (List.range (q + 1)).map fun i => r ++ [((i : Nat) : Int)]).map rwD).length + (q + 1) ≤ 10000000 := by
        have e : (allc q (j + 1)) = (S.flatMap fun r => (List.range (q + 1)).map fun i => r ++ [((i : Nat) : Int)]) ++ (((List.range (q + 1)).map fun i => x ++ [((i : Nat) : Int)]) ++ R.flatMap fun r => (List.range (q + 1)).map fun i => r ++ [((i : Nat) : Int)]) := by
          show (allc q j).flatMap _ = _
          rw [eS, List.flatMap_append, List.flatMap_cons]
        have := pw (j + 1) (by omega)
        rw [← allc_len, e, List.length_append, List.length_append, List.length_map, List.length_range] at this
        rw [List.length_map]
        omega
      repeat walk_at "s"
      refine v_kR1 (by omega) (by omega) ?_
      rw [show ((q + 1 : Nat) : Int).toNat = q + 1 from rfl, iota_map]
      refine lcGo_map (h := fun i => rwD (x ++ [((i : Nat) : Int)])) (List.range (q + 1)) (fun i hi m2 K l hk => ?_) (small_line (by rw [List.length_range]; omega)) ?_
      · repeat walk_at "s"
        refine v_addtz (xs := x) (ys := [((i : Nat) : Int)]) (by simp; omega) ?_
        exact hk
      have e2 : (List.range (q + 1)).map (fun i => rwD (x ++ [((i : Nat) : Int)])) = ((List.range (q + 1)).map fun i => x ++ [((i : Nat) : Int)]).map rwD := by rw [List.map_map]; rfl
      rw [e2]
      refine v_extk (rwD_nls _) (by simp only [List.length_map, List.length_range] at big ⊢; omega) ?_
      rw [show ((S.flatMap fun r => (List.range (q + 1)).map fun i => r ++ [((i : Nat) : Int)]).map rwD) ++ ((List.range (q + 1)).map fun i => x ++ [((i : Nat) : Int)]).map rwD = ((S ++ [x]).flatMap fun r => (List.range (q + 1)).map fun i => r ++ [((i : Nat) : Int)]).map rwD from by
        rw [← List.map_append, List.flatMap_append, List.flatMap_cons, List.flatMap_nil, List.append_nil]]
      exact ⟨R, rfl, rfl, S ++ [x], a3, .val (rwD x), a6, rfl, by rw [eS]; simp⟩
def b__law_is_alone {M : Type} : DS M :=
    (dThen (dFor (dRng2 (dCons (dC (.int 1)) (dCons (dBin gAdd (dBin (gII Nd fun i j => .int (i.fdiv j)) (dBin (g0 fun i j => .int (i - j)) (dB gLen (dCons (dVar 0) dNil)) (dC (.int 1))) (dC (.int 2))) (dC (.int 1))) dNil))) (dgN 2)
      (dFor (dSeq false (dCall s__law_all_monic [] (dCons (dVar 1) (dCons (dVar 2) dNil)))) (dgN 3)
      (dIte (dTst (dBin gEq (dCall s__law_rest_by [] (dCons (dVar 0) (dCons (dVar 3) (dCons (dVar 1) dNil)))) (dTup dNil)))
      (dRet (dC (.bl false)))
      dNext)))
    (dRet (dC (.bl true))))

def s__law_is_alone {M : Type} : DSp M := fun ds m Q Z => ∃ (q n : Nat) (f : Ser (Kp q)) (F : List Int), ds = [.tup (zz F), .int ((q + 1 : Nat) : Int)] ∧ Fer q ∧ q ≤ 9999 ∧ Mo f F ∧ Mc n f ∧ F.length = n + 1 ∧ n ≤ 100 ∧ (q + 1) ^ (n / 2) ≤ 10000000 ∧ ∀ b : Bool, (b = true ↔ NoF n f) → Q (.bl b) m
theorem vc__law_is_alone {M : Type} : ∀ ds (m : M) Q Z, s__law_is_alone ds m Q Z → okK [false, false] ds ∧ b__law_is_alone { nx := fun _ m' => Q .non m', rt := Q, ex := Z } (st0 [false, false] ds 4) m := by
  rintro ds m Q Z ⟨q, n, f, F, rfl, hF, hq, hf, hm, ln, hn, hp, k⟩
  refine ⟨⟨fun _ => nl_row F, fun _ => rfl, trivial⟩, ?_⟩
  unfold b__law_is_alone
  have z2 : (2 : Int) ≠ 0 := by decide
  have b2 : bd 2 (2 : Int) := bd_lit (by decide)
  repeat walk_at "s"
  rw [show ((F.length : Int) - 1) = (n : Int) by omega, show Int.fdiv (n : Int) 2 = ((n / 2 : Nat) : Int) from fd_nat n 2]
  refine v_kR2 (by omega) (by omega) (by omega) (by omega) ?_
  rw [show (((n / 2 : Nat) : Int) + 1 - 1).toNat = n / 2 by omega]
  refine v_kforR (n / 2) (fun j ρ m' => m' = m ∧ ∃ a2 a3 : Sl, ρ = [.val (.tup (zz F)), .val (.int ((q + 1 : Nat) : Int)), a2, a3] ∧ ∀ i g, 1 ≤ i → i ≤ j → Mc i g → ¬ Mu g f) ⟨rfl, _, _, rfl, fun i g h1 h2 => by omega⟩ (fun ρ m' hh => ?_) fun j ρ m' hj hh => ?_
  · obtain ⟨rfl, _, _, rfl, al⟩ := hh
    repeat walk_at "s"
    exact k true ⟨fun _ => al, fun _ => rfl⟩
  · obtain ⟨rfl, _, _, rfl, al⟩ := hh
    repeat walk_at "s"
    refine ⟨q, j + 1, by rw [show ((1 : Int) + (j : Nat)) = ((j + 1 : Nat) : Int) by omega], hq, by omega, Nat.le_trans (Nat.pow_le_pow_right (by omega) (by omega)) hp, ?_⟩
    refine v_kSeqL ?_
    refine v_kforL (inj := fun cs => rwD (cs ++ [1])) (fun R ρ m1 => m1 = m' ∧ ∃ (S : List (List Int)) (a2 a3 : Sl), ρ = [.val (.tup (zz F)), .val (.int ((q + 1 : Nat) : Int)), a2, a3] ∧ allc q (j + 1) = S ++ R ∧ ∀ cs ∈ S, ¬ Mu (zs (ser (cs ++ [1]))) f) (allc q (j + 1)) ⟨rfl, [], _, _, rfl, rfl, fun _ h => nomatch h⟩ (fun ρ m1 hh => ?_) fun x R ρ m1 hh => ?_
    · obtain ⟨rfl, S, _, _, rfl, eS, hS⟩ := hh
      rw [List.append_nil] at eS
      subst eS
      refine ⟨rfl, _, _, rfl, fun i g h1 h2 hg => ?_⟩
      by_cases e : i ≤ j
      · exact al i g h1 e hg
      · obtain rfl : i = j + 1 := by omega
        obtain ⟨cs, c1, c2, rfl⟩ := monic_cs hg
        exact hS cs (allc_mem.mpr ⟨c1, c2⟩)
    · obtain ⟨rfl, S, _, _, rfl, eS, hS⟩ := hh
      obtain ⟨c1, c2⟩ := allc_mem.mp (show x ∈ allc q (j + 1) by rw [eS]; simp)
      obtain ⟨mo, mc, lx⟩ := monic_row hF c1 c2
      repeat walk_at "s"
      refine ⟨q, _, F, x ++ [1], rfl, hF, hq, mo, by simp, by omega, by omega, fun v a r N hv e fr fa => ?_⟩
      rw [hf.eq] at e
      rw [lx] at fr
      have iff : v = [] ↔ Mu (zs (ser (x ++ [1]))) f := by
        rw [← hv.nil_iff]
        constructor
        · intro z
          exact ⟨a, ⟨N, fa⟩, by rw [e, z]; grind⟩
        · intro d
          refine dv_ne hF mc fr ?_
          have : r = f - a * zs (ser (x ++ [1])) := by rw [e]; grind
          rw [this]
          exact d.sub (Mu.self.mul ⟨N, fa⟩)
      repeat walk_at "s"
      refine v_ifd (fun h => ?_) fun h => ?_
      · repeat walk_at "s"
        refine k false ⟨fun z => (nomatch z), fun z => absurd (iff.mp h) (z (j + 1) _ (by omega) (by omega) mc)⟩
      · repeat walk_at "s"
        refine ⟨R, rfl, rfl, S ++ [x], _, _, rfl, by rw [eS]; simp, fun cs hc => ?_⟩
        rcases List.mem_append.mp hc with z | z
        · exact hS cs z
        · rw [List.mem_singleton.mp z]; exact fun d => h (iff.mpr d)
end RR

/-! V25b: the law k25 -/
namespace RR
open PySem PySem.Spec PyProof.Rows L2
local macro_rules | `(tactic| walk_at "bd") => `(tactic| first | assumption | exact bd_lit (by decide) | (with_reducible refine bd_mul ?_ ?_ <;> walk_at "bd") | (with_reducible refine bd_add ?_ ?_ <;> walk_at "bd") | (with_reducible refine bd_sub ?_ ?_ <;> walk_at "bd") | (with_reducible refine bd_neg ?_ <;> walk_at "bd"))
local macro_rules | `(tactic| walk_at "s") => `(tactic| with_reducible first
  | refine v_then ?_ | refine v_set ?_ | (apply v_var; · with_unfolding_all exact rfl) | refine v_bin ?_ | refine v_c ?_ | refine v_g0 ?_ | refine v_add ?_ | refine v_cons ?_ | refine v_nil ?_ | refine v_call ?_ | refine v_dB ?_ | refine v_next ?_ | refine v_ret ?_
  | refine v_ite ?_ | refine v_tst ?_ | refine v_kT ?_ | refine v_eqi ?_ | refine v_nei ?_ | refine v_eqr ?_ | refine v_ner ?_ | refine v_eqr0 ?_ | refine v_ner0 ?_ | refine v_eql ?_ | refine v_nel ?_ | refine v_eql0 ?_ | refine v_nel0 ?_ | refine v_isN ?_ | refine v_notN ?_
  | (apply v_bor; · with_unfolding_all exact rfl) | (apply v_own; · with_unfolding_all exact rfl) | refine v_tup ?_ | refine v_lst ?_ | (refine v_sz ?_ ?_; (· with_unfolding_all exact Nat.le_of_ble_eq_true rfl)) | (refine v_gIIz ?_ ?_; (· first | decide | omega))
  | refine v_lentz ?_ | refine v_lenlz ?_ | refine v_lent ?_ | refine v_lenl ?_ | refine v_I1 ?_ | refine v_I2 ?_ | refine v_int ?_ | refine v_seqlz ?_ | refine v_seqtz ?_ | refine v_sl ?_ | refine v_kSll ?_ | refine v_kSlt ?_ | refine v_ono ?_ | refine v_oso ?_ | refine v_kOS ?_
  | refine v_val ?_ | refine v_kVb ?_ | refine v_kVi ?_ | refine v_kVt ?_ | refine v_kVl ?_ | refine v_and ?_ | refine v_or ?_ | refine v_not ?_ | refine v_yes ?_ | refine v_if' ?_ | refine v_isi ?_ | refine v_kIii ?_ | refine v_kIib ?_ | refine v_kItt ?_
  | refine v_andV ?_ | refine v_orV ?_ | refine v_notV ?_ | refine v_kNV ?_ | refine v_neg ?_ | refine v_kNeg ?_ | refine v_seq ?_ | refine v_kSeql ?_ | refine v_kSeqt ?_ | refine v_rng1 ?_ | refine v_rng2 ?_ | refine v_enum ?_ | refine v_revr ?_ | refine v_rev ?_
  | (refine v_kR1 ?_ ?_ ?_; (· decide); (· decide))
  | (refine v_kR2 ?_ ?_ ?_ ?_ ?_; (· decide); (· decide); (· decide); (· decide))
  | refine v_gn ?_ | refine v_gt2 ?_ | refine v_gt3 ?_ | refine v_lc ?_ | refine v_for ?_ | refine v_setO ?_ | refine v_drop ?_ | (apply v_app; · with_unfolding_all exact rfl) | (apply v_setI; · with_unfolding_all exact rfl) | (apply v_rel; · with_unfolding_all exact rfl) | refine v_raise ?_ | refine v_par ?_ | refine v_kP ?_ | refine v_asg ?_
  | (apply v_aug; · with_unfolding_all exact rfl) | refine v_ifT ?_ | refine v_ifF ?_ | (refine v_pow ?_ ?_ ?_ ?_; (· decide); (· decide); (· decide)) | refine v_call0 ?_ | (apply v_lenr; · assumption) | (apply v_seqr; · assumption) | (apply v_kSeqr; · assumption) | (apply v_kSlr; · assumption)
  | refine v_ix0 ?_ | refine v_ix1 ?_ | refine v_ix2 ?_ | refine v_zip ?_ | refine v_kZl ?_ | refine v_kZt ?_ | (apply v_augI; · with_unfolding_all exact rfl) | refine v_try ?_ | refine v_isE ?_ | (refine v_kIE ?_ ?_; (· with_unfolding_all exact rfl)) | refine v_isB ?_ | refine v_notB ?_ | refine v_all ?_ | refine v_par3 ?_ | refine v_ifnT ?_ | refine v_ifnF ?_ | refine v_eqs ?_ | refine v_nes ?_ | refine v_rvs ?_ | refine v_kRvl ?_ | refine v_kRvt ?_
  | (refine v_mulb (a := ?a) (b := ?b) ?ha ?hb ?l ?h; (case ha => assumption); (case hb => assumption); (case l => omega)) | (refine v_fdivb (b := ?b) ?h0 ?hb ?l ?h; (case h0 => assumption); (case hb => assumption); (case l => omega)))
local macro_rules | `(tactic| walk_at "s") => `(tactic| with_reducible first | refine v_getC ?_ | refine v_kGC ?_ | (apply v_ext; · with_unfolding_all exact rfl))
def b_modfactors_is_mod_whole {M : Type} : DS M :=
    (dRet (dBin gNotN (dCall s_modfactors_mod_paper [] (dCons (dVar 0) (dCons (dVar 1) dNil))) (dC .non)))

def s_modfactors_is_mod_whole {M : Type} : DSp M := fun ds m Q Z => ∃ (q n : Nat) (f : Ser (Kp q)) (F : List Int) (r : Nat → Ser (Kp q)), ds = [.tup (zz F), .int ((q + 1 : Nat) : Int)] ∧ Md q n f F r ∧ ∀ b : Bool, (b = true ↔ NoF n f) → Q (.bl b) m
theorem vc_modfactors_is_mod_whole {M : Type} : ∀ ds (m : M) Q Z, s_modfactors_is_mod_whole ds m Q Z → okK [false, false] ds ∧ b_modfactors_is_mod_whole { nx := fun _ m' => Q .non m', rt := Q, ex := Z } (st0 [false, false] ds 2) m := by
  rintro ds m Q Z ⟨q, n, f, F, r, rfl, h, k⟩
  refine ⟨⟨fun _ => nl_row F, fun _ => rfl, trivial⟩, ?_⟩
  unfold b_modfactors_is_mod_whole
  repeat walk_at "s"
  refine ⟨q, n, f, F, r, rfl, h, fun t => ?_, fun t => ?_⟩
  · repeat walk_at "s"
    exact k true ⟨fun _ => h.told.mp t, fun _ => rfl⟩
  · repeat walk_at "s"
    exact k false ⟨fun z => (nomatch z), fun z => absurd (h.told.mpr z) t⟩
def b__law_right {M : Type} : DS M :=
    (dThen (dSet 2 (dCall s__law_is_alone [] (dCons (dVar 0) (dCons (dVar 1) dNil))))
    (dThen (dFor (dRng1 (dCons (dC (.int 2)) dNil)) (dgN 3)
      (dThen (dSet 4 (dCall s_modfactors_is_mod_whole [] (dCons (dVar 0) (dCons (dVar 1) dNil))))
    (dIte (dOr (dNot (dVal (dIsi "bool" (dVar 4)))) (dTst (dBin gNe (dVar 4) (dVar 2))))
      (dRet (dC (.bl false)))
      dNext)))
    (dRet (dBin gEq (dBin gNotN (dCall s_modfactors_mod_paper [] (dCons (dVar 0) (dCons (dVar 1) dNil))) (dC .non)) (dVar 2)))))

def s__law_right {M : Type} : DSp M := fun ds m Q Z => ∃ (q n : Nat) (f : Ser (Kp q)) (F : List Int), ds = [.tup (zz F), .int ((q + 1 : Nat) : Int)] ∧ Fer q ∧ q ≤ 9972 ∧ Pr ((q + 1 : Nat) : Int) ∧ Mo f F ∧ Mc n f ∧ F.length = n + 1 ∧ 1 ≤ n ∧ n ≤ 12 ∧ (q + 1) ^ (n / 2) ≤ 10000000 ∧ Q (.bl true) m
theorem vc__law_right {M : Type} : ∀ ds (m : M) Q Z, s__law_right ds m Q Z → okK [false, false] ds ∧ b__law_right { nx := fun _ m' => Q .non m', rt := Q, ex := Z } (st0 [false, false] ds 5) m := by
  rintro ds m Q Z ⟨q, n, f, F, rfl, hF, hq, hp, hf, hm, ln, n1, n12, hb, k⟩
  refine ⟨⟨fun _ => nl_row F, fun _ => rfl, trivial⟩, ?_⟩
  obtain ⟨r, pw⟩ := Pws.ex hm
  have h : Md q n f F r := ⟨hF, hq, hp, hf, hm, ln, n1, n12, pw⟩
  unfold b__law_right
  repeat walk_at "s"
  refine ⟨q, n, f, F, rfl, hF, by omega, hf, hm, ln, by omega, hb, fun b hb => ?_⟩
  repeat walk_at "s"
  refine v_kforR 2 (fun j ρ m' => m' = m ∧ ∃ a3 a4 : Sl, ρ = [.val (.tup (zz F)), .val (.int ((q + 1 : Nat) : Int)), .val (.bl b), a3, a4]) ⟨rfl, _, _, rfl⟩ (fun ρ m' hh => ?_) fun j ρ m' hj hh => ?_
  · obtain ⟨rfl, _, _, rfl⟩ := hh
    repeat walk_at "s"
    refine ⟨q, n, f, F, r, rfl, h, fun t => ?_, fun t => ?_⟩
    · repeat walk_at "s"
      refine v_eqbb2 ?_
      rw [decide_eq_true (show (!D.isN (papD n r f)) = b from (hb.mpr (h.told.mp t)).symm)]
      exact k
    · repeat walk_at "s"
      refine v_eqbb2 ?_
      rw [decide_eq_true (show (!D.isN D.non) = b from by
        cases b with
        | false => rfl
        | true => exact absurd (h.told.mpr (hb.mp rfl)) t)]
      exact k
  · obtain ⟨rfl, _, _, rfl⟩ := hh
    repeat walk_at "s"
    refine ⟨q, n, f, F, r, rfl, h, fun c hc => ?_⟩
    have e : c = b := by
      cases c <;> cases b
      · rfl
      · exact absurd (hc.mpr (hb.mp rfl)) (by decide)
      · exact absurd (hb.mpr (hc.mp rfl)) (by decide)
      · rfl
    subst e
    repeat walk_at "s"
    refine v_kI (ty := "bool") (b := true) rfl rfl ?_
    repeat walk_at "s"
    try ((with_reducible show @ite _ _ _ _ _); refine v_ifF ?_)
    repeat walk_at "s"
    refine v_nebb2 ?_
    rw [decide_eq_true rfl]
    repeat walk_at "s"
    try ((with_reducible show @ite _ _ _ _ _); refine v_ifF ?_)
    repeat walk_at "s"
    exact ⟨rfl, _, _, rfl⟩
def b_law : DS (Option Nat) :=
    (dThen (dSet 1 (dCall s__law_begun [] (dCons (dBor 0) dNil)))
    (dThen (dFor (dRng1 (dCons (dC (.int 10)) dNil)) (dgN 2)
      (dThen (dSet 3 (dCall s__law_prime [] (dCons (dVar 1) (dCons (dC (.int 97)) dNil))))
    (dThen (dSet 4 (dGetC [(2, 8), (3, 8), (5, 6), (7, 6), (11, 4), (13, 4)] (dVar 3) (dC (.int 3))))
    (dThen (dSet 5 (dCall s__law_monic [] (dCons (dVar 1) (dCons (dVar 3) (dCons (dBin gAdd (dC (.int 1)) (dCall s__law_draw [] (dCons (dVar 1) (dCons (dVar 4) dNil)))) dNil)))))
    (dThen (dIte (dTst (dBin gEq (dCall s__law_draw [] (dCons (dVar 1) (dCons (dC (.int 3)) dNil))) (dC (.int 1))))
      (dThen (dSet 6 (dBin gAdd (dC (.int 1)) (dCall s__law_draw [] (dCons (dVar 1) (dCons (dBin (gII Nd fun i j => .int (i.fdiv j)) (dVar 4) (dC (.int 2))) dNil)))))
    (dSet 5 (dCall s__law_rest [] (dCons (dCall s__law_product [] (dCons (dCall s__law_monic [] (dCons (dVar 1) (dCons (dVar 3) (dCons (dVar 6) dNil)))) (dCons (dCall s__law_monic [] (dCons (dVar 1) (dCons (dVar 3) (dCons (dVar 6) dNil)))) dNil))) (dCons (dVar 3) dNil)))))
      dNext)
    (dIte (dNot (dVal (dCall s__law_right [] (dCons (dVar 5) (dCons (dVar 3) dNil)))))
      (dRet (dC (.bl false)))
      dNext))))))
    (dThen (dAsg (dBin (gIx false) (dLst (dCons (dTup (dCons (dC (.int 2)) (dCons (dC (.int 1)) dNil))) (dCons (dTup (dCons (dC (.int 2)) (dCons (dC (.int 4)) dNil))) (dCons (dTup (dCons (dC (.int 3)) (dCons (dC (.int 2)) dNil))) (dCons (dTup (dCons (dC (.int 3)) (dCons (dC (.int 3)) dNil))) (dCons (dTup (dCons (dC (.int 5)) (dCons (dC (.int 2)) dNil))) (dCons (dTup (dCons (dC (.int 7)) (dCons (dC (.int 2)) dNil))) (dCons (dTup (dCons (dC (.int 2)) (dCons (dC (.int 3)) dNil))) (dCons (dTup (dCons (dC (.int 97)) (dCons (dC (.int 1)) dNil))) dNil))))))))) (dCall s__law_draw [] (dCons (dVar 1) (dCons (dC (.int 8)) dNil)))) (dgT 2 (dgCons (dgN 3) (dgCons (dgN 7) dgNil))))
    (dRet (dB gAll (dCons (dLc (dSeq false (dCall s__law_all_monic [] (dCons (dVar 3) (dCons (dVar 7) dNil)))) (dgN 5) dYes (dCall s__law_right [] (dCons (dVar 5) (dCons (dVar 3) dNil))) [5]) dNil))))))

/-- what is drawn at the end -/
def ends8 : List (Int × Int) := [(2, 1), (2, 4), (3, 2), (3, 3), (5, 2), (7, 2), (2, 3), (97, 1)]
theorem ends8_ok : ∀ p ∈ ends8, ∃ q h : Nat, p = (((q + 1 : Nat) : Int), (h : Int)) ∧ Fer q ∧ q ≤ 9972 ∧ Pr ((q + 1 : Nat) : Int) ∧ 1 ≤ h ∧ h ≤ 12 ∧ (q + 1) ^ h ≤ 10000000 := by
  intro p hp
  simp only [ends8, List.mem_cons, List.not_mem_nil, or_false] at hp
  rcases hp with rfl | rfl | rfl | rfl | rfl | rfl | rfl | rfl
  · exact ⟨1, 1, rfl, fer2, by decide, pr_small 2 (by decide +kernel), by decide, by decide, by decide⟩
  · exact ⟨1, 4, rfl, fer2, by decide, pr_small 2 (by decide +kernel), by decide, by decide, by decide⟩
  · exact ⟨2, 2, rfl, fer3, by decide, pr_small 3 (by decide +kernel), by decide, by decide, by decide⟩
  · exact ⟨2, 3, rfl, fer3, by decide, pr_small 3 (by decide +kernel), by decide, by decide, by decide⟩
  · exact ⟨4, 2, rfl, fer5, by decide, pr_small 5 (by decide +kernel), by decide, by decide, by decide⟩
  · exact ⟨6, 2, rfl, fer7, by decide, pr_small 7 (by decide +kernel), by decide, by decide, by decide⟩
  · exact ⟨1, 3, rfl, fer2, by decide, pr_small 2 (by decide +kernel), by decide, by decide, by decide⟩
  · exact ⟨96, 1, rfl, fer97, by decide, pr_small 97 (by decide +kernel), by decide, by decide, by decide⟩
/-- degrees that are drawn -/
theorem most_ok {q : Nat} (hq : q + 1 ≤ 97) : ∃ t : Nat, getC [(2, 8), (3, 8), (5, 6), (7, 6), (11, 4), (13, 4)] ((q + 1 : Nat) : Int) 3 = (t : Int) ∧ 3 ≤ t ∧ t ≤ 8 ∧ (q + 1) ^ (t / 2) ≤ 10000000 := by
  have e : q + 1 = 2 ∨ q + 1 = 3 ∨ q + 1 = 5 ∨ q + 1 = 7 ∨ q + 1 = 11 ∨ q + 1 = 13 ∨ getC [(2, 8), (3, 8), (5, 6), (7, 6), (11, 4), (13, 4)] ((q + 1 : Nat) : Int) 3 = 3 := by
    by_cases h2 : q + 1 = 2; · exact .inl h2
    by_cases h3 : q + 1 = 3; · exact .inr (.inl h3)
    by_cases h5 : q + 1 = 5; · exact .inr (.inr (.inl h5))
    by_cases h7 : q + 1 = 7; · exact .inr (.inr (.inr (.inl h7)))
    by_cases h11 : q + 1 = 11; · exact .inr (.inr (.inr (.inr (.inl h11))))
    by_cases h13 : q + 1 = 13; · exact .inr (.inr (.inr (.inr (.inr (.inl h13)))))
    refine .inr (.inr (.inr (.inr (.inr (.inr ?_)))))
    unfold getC
    have : ([(2, 8), (3, 8), (5, 6), (7, 6), (11, 4), (13, 4)] : List (Int × Int)).find? (fun p => decide (p.1 = ((q + 1 : Nat) : Int))) = none := by
      rw [List.find?_eq_none]
      intro p hp
      simp only [List.mem_cons, List.not_mem_nil, or_false] at hp
      rcases hp with rfl | rfl | rfl | rfl | rfl | rfl <;> simp <;> omega
    rw [this]; rfl
  rcases e with e | e | e | e | e | e | e
  · rw [e]; exact ⟨8, by decide, by decide, by decide, by decide⟩
  · rw [e]; exact ⟨8, by decide, by decide, by decide, by decide⟩
  · rw [e]; exact ⟨6, by decide, by decide, by decide, by decide⟩
  · rw [e]; exact ⟨6, by decide, by decide, by decide, by decide⟩
  · rw [e]; exact ⟨4, by decide, by decide, by decide, by decide⟩
  · rw [e]; exact ⟨4, by decide, by decide, by decide, by decide⟩
  · rw [e]
    refine ⟨3, rfl, by decide, by decide, ?_⟩
    rw [show 3 / 2 = 1 from rfl, Nat.pow_one]; omega
theorem vc_law : ∀ ds (m : Option Nat) Q Z, s_law ds m Q Z → okK [true] ds ∧ b_law { nx := fun _ m' => Q .non m', rt := Q, ex := Z } (st0 [true] ds 8) m := by
  rintro ds m Q Z ⟨ns, rfl, hl, rfl, k⟩
  refine ⟨⟨fun h => (nomatch h), trivial⟩, ?_⟩
  unfold b_law
  repeat walk_at "s"
  refine ⟨ns, rfl, hl, rfl, ?_⟩
  repeat walk_at "s"
  refine v_kforR 10 (fun j ρ m => ∃ a2 a3 a4 a5 a6 a7, ∃ N : Nat, ρ = [.bor (.lst (zz ns)), .val (.hnd hdl), a2, a3, a4, a5, a6, a7] ∧ m = some N ∧ 2 ^ 50 ≤ N + 200 * j) ⟨_, _, _, _, _, _, 2 ^ 50, rfl, rfl, by decide⟩ (fun ρ m h => ?_) fun j ρ m hj h => ?_
  · obtain ⟨_, _, _, _, _, _, N, rfl, rfl, hN⟩ := h
    repeat walk_at "s"
    refine v_drawN (by omega) (by decide) (by decide) fun x x0 x1 => ?_
    obtain ⟨i, rfl⟩ : ∃ i : Nat, x = (i : Int) := ⟨x.toNat, by omega⟩
    have hi : i < ends8.length := by show i < 8; omega
    have e : atI (ends8.map fun p => D.tup [.int p.1, .int p.2]) (i : Int) = some (.tup [.int (ends8[i]).1, .int (ends8[i]).2]) := atI_pos (by rw [List.getElem?_map, List.getElem?_eq_getElem hi]; rfl)
    obtain ⟨q, h, ep, hF, hq, hp, h1, h12, hb⟩ := ends8_ok _ (List.getElem_mem hi)
    rw [ep] at e
    refine v_ixL (ds := ends8.map fun p => D.tup [.int p.1, .int p.2]) e (by rfl) ?_
    repeat walk_at "s"
    refine ⟨q, h, rfl, by omega, by omega, hb, ?_⟩
    refine v_kSeqL ?_
    refine lcGo_map (inj := fun cs => rwD (cs ++ [1])) (h := fun _ => D.bl true) (allc q h) (fun cs hc m1 K l hk => ?_) (small_line (by rw [allc_len]; omega)) ?_
    · obtain ⟨c1, c2⟩ := allc_mem.mp hc
      obtain ⟨mo, mc, lx⟩ := monic_row hF c1 c2
      repeat walk_at "s"
      exact ⟨q, h, _, cs ++ [1], rfl, hF, hq, hp, mo, mc, lx, h1, h12, Nat.le_trans (Nat.pow_le_pow_right (by omega) (by omega)) hb, hk⟩
    repeat walk_at "s"
    rw [show (allc q h).map (fun _ => D.bl true) = ((allc q h).map fun _ => true).map D.bl from by rw [List.map_map]; rfl]
    refine v_all ?_
    rw [show ((allc q h).map fun _ => true).all id = true from List.all_eq_true.mpr fun x hx => by obtain ⟨_, _, rfl⟩ := List.mem_map.mp hx; rfl]
    exact k _
  obtain ⟨_, _, _, _, _, _, N, rfl, rfl, hN⟩ := h
  repeat walk_at "s"
  refine ⟨N, 97, rfl, rfl, by omega, by decide, fun q hF hq hp h97 => ?_⟩
  obtain ⟨t, et, t3, t8, tb⟩ := most_ok (show q + 1 ≤ 97 by omega)
  repeat walk_at "s"
  rw [et]
  repeat walk_at "s"
  refine v_drawN (by omega) (by omega) (by omega) fun x x0 x1 => ?_
  have q1 := hF.1
  repeat walk_at "s"
  refine ⟨_, q, 1 + x, rfl, rfl, q1, by omega, by omega, by omega, by omega, fun cs N1 c1 c2 hN1 => ?_⟩
  obtain ⟨mo, mc, lx⟩ := monic_row hF c1 c2
  have pwb : ∀ n : Nat, n ≤ t → (q + 1) ^ (n / 2) ≤ 10000000 := fun n hn => Nat.le_trans (Nat.pow_le_pow_right (by omega) (Nat.div_le_div_right hn)) tb
  repeat walk_at "s"
  refine v_drawN (by omega) (by decide) (by decide) fun y y0 y1 => ?_
  repeat walk_at "s"
  refine v_ifd (fun h => ?_) fun h => ?_
  · have z2 : (2 : Int) ≠ 0 := by decide
    have b2 : bd 2 (2 : Int) := bd_lit (by decide)
    repeat walk_at "s"
    rw [show Int.fdiv (t : Int) 2 = ((t / 2 : Nat) : Int) from fd_nat t 2]
    refine v_drawN (by omega) (by omega) (by omega) fun z z0 z1 => ?_
    repeat walk_at "s"
    refine ⟨_, q, 1 + z, rfl, rfl, q1, by omega, by omega, by omega, by omega, fun c N2 d1 d2 hN2 => ?_⟩
    obtain ⟨mo1, mc1, lx1⟩ := monic_row hF d1 d2
    repeat walk_at "s"
    refine ⟨_, q, 1 + z, rfl, rfl, q1, by omega, by omega, by omega, by omega, fun c' N3 d3 d4 hN3 => ?_⟩
    obtain ⟨mo2, mc2, lx2⟩ := monic_row hF d3 d4
    repeat walk_at "s"
    refine ⟨_, _, 20, 20, rfl, by omega, by omega, mo_bd (by omega) mo1, mo_bd (by omega) mo2, by decide, fun P hP => ?_⟩
    have lP : P.length ≤ 100 := by
      have := (R.mk hP.dn rfl).len (n := (c ++ [(1 : Int)]).length + (c' ++ [(1 : Int)]).length) (a := 20 + 20 + (c ++ [(1 : Int)]).length) (by rw [hP.sr]; exact (B.of (Nat.le_refl _) (mo_bd (by omega) mo1)).mul (B.of (Nat.le_refl _) (mo_bd (by omega) mo2)))
      omega
    repeat walk_at "s"
    refine ⟨q, P, rfl, by omega, fun W hW => ?_⟩
    rw [hP.sr, zs_mul] at hW
    have mcp : Mc ((1 + z).toNat + (1 + z).toNat) (zs (ser (c ++ [1])) * zs (ser (c' ++ [1])) : Ser (Kp q)) := ⟨fun j hj => mul_far mc1.far mc2.far j (by omega), by
      rw [mul_top mc1.far mc2.far, mc1.co, mc2.co]; grind⟩
    have lW : W.length = (1 + z).toNat + (1 + z).toNat + 1 := by
      have W0 : W ≠ [] := fun y => mcp.ne hF.one (hW.nil_iff.mpr y)
      have := top_uniq (hW.top W0) (mcp.top hF.one)
      have := List.length_pos_iff.mpr W0
      omega
    repeat walk_at "s"
    refine ⟨q, (1 + z).toNat + (1 + z).toNat, _, W, rfl, hF, hq, hp, hW, mcp, lW, by omega, by omega, pwb _ (by omega), ?_⟩
    repeat walk_at "s"
    try ((with_reducible show @ite _ _ _ _ _); refine v_ifF ?_)
    repeat walk_at "s"
    exact ⟨_, _, _, _, _, _, _, rfl, rfl, by omega⟩
  · repeat walk_at "s"
    refine ⟨q, (1 + x).toNat, _, cs ++ [1], rfl, hF, hq, hp, mo, mc, lx, by omega, by omega, pwb _ (by omega), ?_⟩
    repeat walk_at "s"
    try ((with_reducible show @ite _ _ _ _ _); refine v_ifF ?_)
    repeat walk_at "s"
    exact ⟨_, _, _, _, _, _, _, rfl, rfl, by omega⟩
end RR

namespace RR
open PySem PySem.Spec PyProof.Rows L2
section
variable {P : Program} {w : World} {K : PySem.W.Frag} {mg : Str → Option Value} {base : Heap} {W : Wd}
abbrev st__law_folded : Stmt := topS 27
def N__law_folded : List Str := ["_law_script", "_law_found", "_law_k", "_law_cell"]
theorem sc__law_folded : FnScope N__law_folded ["_law_script"] (defScope st__law_folded) := ⟨rfl, rfl, rfl, by decide +kernel, rfl, by decide +kernel, by decide +kernel⟩
theorem w__law_folded (m_enumerate : mg "enumerate" = none) (m_range : mg "range" = none) : BodyJ P w K mg base W 0 N__law_folded "_law_folded" st__law_folded b__law_folded := by
  intro f cdv A outer s H E F0 hr
  have nd : N__law_folded.Nodup := by decide +kernel
  have tk := takes_of (X := XOf P w K mg base N__law_folded "_law_folded" (defScope st__law_folded) f cdv A outer s H E) rfl rfl rfl rfl
  have hp := passes_of (X := XOf P w K mg base N__law_folded "_law_folded" (defScope st__law_folded) f cdv A outer s H E) rfl
  exact (jss_cons (js_setLcO 1 rfl nd (own := [("_law_k", 2)]) (ws := [2]) (ji_range1 (st := false) m_range (ja_cons ncl_w (j_int).fw ja_nil)) (blkOk_by (N := N__law_folded) (sc := defScope st__law_folded) (by decide +kernel)) (fun _ _ _ _ _ => (jg_name 2 nd)) (fun _ _ _ _ _ => jts_nil) (fun _ _ _ _ _ => ((j_bind okd_add (j_int).fd ((j_var 2)).sd)).sf) (by decide))
    (jss_cons (js_for hp rfl (ji_enumb 0 m_enumerate) (jg_tup rfl (jgs_cons (jg_name 2 nd) (jgs_cons (jg_name 3 nd) jgs_nil)))
      (jss_one (js_seti 1 ((j_bin ok_mod ((j_bind okd_add ((j_bind okd_mul ((j_ixw (j_own 1) ((j_bin ok_mod ((j_var 2)).sw (j_int).fw)).fw)).sd (j_int).fd)).fd ((j_var 3)).sd)).fw (j_int).fw)).sf ((j_bin ok_mod ((j_var 2)).sw (j_int).fw)).fw)))
    (jss_cons (js_for hp rfl (ji_range2 (st := true) m_range (ja_cons ncl_w (j_int).fw (ja_cons ncl_w (j_int).fw ja_nil))) (jg_name 2 nd)
      (jss_one (js_seti 1 ((j_bin ok_mod ((j_bind okd_add ((j_ixw (j_own 1) ((j_var 2)).sw)).sd ((j_bind okd_mul ((j_ixw (j_own 1) ((j_bin ok_sub ((j_var 2)).sw (j_int).fw)).fw)).sd (j_int).fd)).fd)).fw (j_int).fw)).sf ((j_var 2)).sw)))
    (jss_one (js_ret (j_ownr 1))))))

abbrev st__law_mixed : Stmt := topS 26
def N__law_mixed : List Str := ["_law_cell", "_law_k", "_law_number"]
theorem sc__law_mixed : FnScope N__law_mixed ["_law_cell", "_law_k"] (defScope st__law_mixed) := ⟨rfl, rfl, rfl, by decide +kernel, rfl, by decide +kernel, by decide +kernel⟩
theorem w__law_mixed  : BodyJ P w K mg base W 0 N__law_mixed "_law_mixed" st__law_mixed b__law_mixed := by
  intro f cdv A outer s H E F0 hr
  have nd : N__law_mixed.Nodup := by decide +kernel
  have tk := takes_of (X := XOf P w K mg base N__law_mixed "_law_mixed" (defScope st__law_mixed) f cdv A outer s H E) rfl rfl rfl rfl
  have hp := passes_of (X := XOf P w K mg base N__law_mixed "_law_mixed" (defScope st__law_mixed) f cdv A outer s H E) rfl
  exact (jss_cons (js_set 2 nd ((j_bind okd_add ((j_bind okd_add ((j_bin ok_mod ((j_bind okd_mul ((j_bind okd_mul ((j_var 0)).sd ((j_bind okd_add (j_int).fd ((j_bind okd_mul (j_int).fd ((j_var 1)).sd)).fd)).fd)).fd (j_int).fd)).fw (j_int).fw)).fd ((j_bind okd_mul ((j_bind okd_mul (j_int).fd ((j_var 1)).sd)).fd ((j_var 1)).sd)).fd)).fd ((j_bind okd_mul (j_int).fd ((j_var 1)).sd)).fd)).sf)
    (jss_one (js_ret ((j_bin ok_fdiv ((j_bin ok_mod ((j_bind okd_mul ((j_var 2)).sd (j_int).fd)).fw (j_int).fw)).fw (j_int).fw)).fr)))

abbrev st__law_prime : Stmt := topS 32
def N__law_prime : List Str := ["_law_m", "_law_most", "_law_some", "_law_p"]
theorem sc__law_prime : FnScope N__law_prime ["_law_m", "_law_most"] (defScope st__law_prime) := ⟨rfl, rfl, rfl, by decide +kernel, rfl, by decide +kernel, by decide +kernel⟩
theorem w__law_prime (m_len : mg "len" = none) (h__law_draw : FD P w K mg base DrW 2 "_law_draw" [] s__law_draw) : BodyJ P w K mg base DrW 2 N__law_prime "_law_prime" st__law_prime b__law_prime := by
  intro f cdv A outer s H E F0 hr
  have nd : N__law_prime.Nodup := by decide +kernel
  have tk := takes_of (X := XOf P w K mg base N__law_prime "_law_prime" (defScope st__law_prime) f cdv A outer s H E) rfl rfl rfl rfl
  have hp := passes_of (X := XOf P w K mg base N__law_prime "_law_prime" (defScope st__law_prime) f cdv A outer s H E) rfl
  exact (jss_cons (js_setLc 2 rfl nd (own := [("_law_p", 3)]) (ws := [3]) (JI.weak (ji_seq ((j_lst (ja_cons ncl_s (j_int).sf (ja_cons ncl_s (j_int).sf (ja_cons ncl_s (j_int).sf (ja_cons ncl_s (j_int).sf (ja_cons ncl_s (j_int).sf (ja_cons ncl_s (j_int).sf (ja_cons ncl_s (j_int).sf (ja_cons ncl_s (j_int).sf (ja_cons ncl_s (j_int).sf ja_nil))))))))))).sf)) (blkOk_by (N := N__law_prime) (sc := defScope st__law_prime) (by decide +kernel)) (fun _ _ _ _ _ => (jg_name 3 nd)) (fun _ _ _ _ _ => (jts_one (jt_cmp ok_le ((j_var 3)).sw ((j_var 1)).sw))) (fun _ _ _ _ _ => (j_var 3)) (by decide))
    (jss_one (js_ret ((j_ix (j_var 2) ((j_call h__law_draw (hr.mono (by decide)) tk (by rfl) (ja_cons ncl_w ((j_var 0)).sw (ja_cons ncl_w ((j_callB ca_len m_len (by decide +kernel) (ja_cons ncl_w ((j_var 2)).sw ja_nil))).fw ja_nil)))).fw)).sr)))

abbrev st__law_monic : Stmt := topS 34
def N__law_monic : List Str := ["_law_m", "_law_p", "_law_high", "_law_found", "_law_k"]
theorem sc__law_monic : FnScope N__law_monic ["_law_m", "_law_p", "_law_high"] (defScope st__law_monic) := ⟨rfl, rfl, rfl, by decide +kernel, rfl, by decide +kernel, by decide +kernel⟩
theorem w__law_monic (m_range : mg "range" = none) (m_tuple : mg "tuple" = none) (h__law_draw : FD P w K mg base DrW 2 "_law_draw" [] s__law_draw) : BodyJ P w K mg base DrW 2 N__law_monic "_law_monic" st__law_monic b__law_monic := by
  intro f cdv A outer s H E F0 hr
  have nd : N__law_monic.Nodup := by decide +kernel
  have tk := takes_of (X := XOf P w K mg base N__law_monic "_law_monic" (defScope st__law_monic) f cdv A outer s H E) rfl rfl rfl rfl
  have hp := passes_of (X := XOf P w K mg base N__law_monic "_law_monic" (defScope st__law_monic) f cdv A outer s H E) rfl
  exact (jss_cons (js_setO 3 nd (j_lst ja_nil))
    (jss_cons (js_for hp rfl (ji_range1 (st := true) m_range (ja_cons ncl_w ((j_var 2)).sw ja_nil)) (jg_name 4 nd)
      (jss_one (js_append 3 (j_ix ((j_lst (ja_cons ncl_s (j_int).sf (ja_cons ncl_s (j_int).sf (ja_cons ncl_s ((j_bin ok_sub ((j_var 1)).sw (j_int).fw)).sf (ja_cons ncl_s ((j_call h__law_draw (hr.mono (by decide)) tk (by rfl) (ja_cons ncl_w ((j_var 0)).sw (ja_cons ncl_w ((j_var 1)).sw ja_nil)))).sf ja_nil)))))).sf ((j_call h__law_draw (hr.mono (by decide)) tk (by rfl) (ja_cons ncl_w ((j_var 0)).sw (ja_cons ncl_w (j_int).fw ja_nil)))).fw))))
    (jss_one (js_ret ((j_bind okd_add ((j_callTy ca_tuple m_tuple (by decide +kernel) (ja_cons ncl_w (j_own 3) ja_nil))).fd ((j_tup (ja_cons ncl_s (j_int).sf ja_nil))).fd)).fr))))

abbrev st__law_cut : Stmt := topS 30
def N__law_cut : List Str := ["_law_numbers", "_law_size"]
theorem sc__law_cut : FnScope N__law_cut ["_law_numbers"] (defScope st__law_cut) := ⟨rfl, rfl, rfl, by decide +kernel, rfl, by decide +kernel, by decide +kernel⟩
theorem w__law_cut (m_len : mg "len" = none) (m_tuple : mg "tuple" = none) : BodyJ P w K mg base W 0 N__law_cut "_law_cut" st__law_cut b__law_cut := by
  intro f cdv A outer s H E F0 hr
  have nd : N__law_cut.Nodup := by decide +kernel
  have tk := takes_of (X := XOf P w K mg base N__law_cut "_law_cut" (defScope st__law_cut) f cdv A outer s H E) rfl rfl rfl rfl
  have hp := passes_of (X := XOf P w K mg base N__law_cut "_law_cut" (defScope st__law_cut) f cdv A outer s H E) rfl
  exact (jss_cons (js_set 1 nd ((j_callB ca_len m_len (by decide +kernel) (ja_cons ncl_w (j_bor 0) ja_nil))).sf)
    (jss_cons (js_while hp (JW.t (jw_and (jt_cmp ok_gt ((j_var 1)).sw (j_int).fw) (jw_and1 (jt_cmp (ok_eq hr.units) ((j_ixw (j_bor 0) ((j_bin ok_sub ((j_var 1)).sw (j_int).fw)).fw)).sw (j_int).fw))))
      (jss_one (js_set 1 nd ((j_bin ok_sub ((j_var 1)).sw (j_int).fw)).sf)))
    (jss_one (js_ret ((j_callTy ca_tuple m_tuple (by decide +kernel) (ja_cons ncl_w ((j_sl (j_bor 0) jo_none (jo_some ((j_var 1)).sw))).fw ja_nil))).fr))))

abbrev st__law_rest : Stmt := topS 33
def N__law_rest : List Str := ["_law_row", "_law_p", "_law_number"]
theorem sc__law_rest : FnScope N__law_rest ["_law_row", "_law_p"] (defScope st__law_rest) := ⟨rfl, rfl, rfl, by decide +kernel, rfl, by decide +kernel, by decide +kernel⟩
theorem w__law_rest (h__law_cut : FD P w K mg base W 1 "_law_cut" [] s__law_cut) : BodyJ P w K mg base W 1 N__law_rest "_law_rest" st__law_rest b__law_rest := by
  intro f cdv A outer s H E F0 hr
  have nd : N__law_rest.Nodup := by decide +kernel
  have tk := takes_of (X := XOf P w K mg base N__law_rest "_law_rest" (defScope st__law_rest) f cdv A outer s H E) rfl rfl rfl rfl
  have hp := passes_of (X := XOf P w K mg base N__law_rest "_law_rest" (defScope st__law_rest) f cdv A outer s H E) rfl
  exact (jss_one (js_ret ((j_call h__law_cut (hr.mono (by decide)) tk (by rfl) (ja_cons ncl_w ((j_lc rfl nd (own := [("_law_number", 2)]) (ws := [2]) (JI.weak (ji_seq (j_var 0))) (blkOk_by (N := N__law_rest) (sc := defScope st__law_rest) (by decide +kernel)) (fun _ _ _ _ _ => (jg_name 2 nd)) (fun _ _ _ _ _ => jts_nil) (fun _ _ _ _ _ => ((j_bin ok_mod ((j_var 2)).sw ((j_var 1)).sw)).sf) (by decide))).fw ja_nil))).fr))

abbrev st__law_all_monic : Stmt := topS 37
def N__law_all_monic : List Str := ["_law_p", "_law_high", "_law_found", "_law_k", "_law_longer", "_law_row", "_law_number"]
theorem sc__law_all_monic : FnScope N__law_all_monic ["_law_p", "_law_high"] (defScope st__law_all_monic) := ⟨rfl, rfl, rfl, by decide +kernel, rfl, by decide +kernel, by decide +kernel⟩
theorem w__law_all_monic (m_range : mg "range" = none) : BodyJ P w K mg base W 0 N__law_all_monic "_law_all_monic" st__law_all_monic b__law_all_monic := by
  intro f cdv A outer s H E F0 hr
  have nd : N__law_all_monic.Nodup := by decide +kernel
  have tk := takes_of (X := XOf P w K mg base N__law_all_monic "_law_all_monic" (defScope st__law_all_monic) f cdv A outer s H E) rfl rfl rfl rfl
  have hp := passes_of (X := XOf P w K mg base N__law_all_monic "_law_all_monic" (defScope st__law_all_monic) f cdv A outer s H E) rfl
  exact (jss_cons (js_set 2 nd ((j_lst (ja_cons ncl_s ((j_tup ja_nil)).sf ja_nil))).sf)
    (jss_cons (js_for hp rfl (ji_range1 (st := true) m_range (ja_cons ncl_w ((j_var 1)).sw ja_nil)) (jg_name 3 nd)
      (jss_cons (js_setO 4 nd (j_lst ja_nil))
    (jss_cons (js_for hp rfl (ji_seq (j_var 2)) (jg_name 5 nd)
      (jss_one (js_extend 4 ((j_lc rfl nd (own := [("_law_number", 6)]) (ws := [6]) (ji_range1 (st := false) m_range (ja_cons ncl_w ((j_var 0)).sw ja_nil)) (blkOk_by (N := N__law_all_monic) (sc := defScope st__law_all_monic) (by decide +kernel)) (fun _ _ _ _ _ => (jg_name 6 nd)) (fun _ _ _ _ _ => jts_nil) (fun _ _ _ _ _ => ((j_bind okd_add ((j_var 5)).sd ((j_tup (ja_cons ncl_s (j_var 6) ja_nil))).fd)).sf) (by decide))).sf)))
    (jss_rel 4 (jss_one (js_set 2 nd (j_var 4)))))))
    (jss_one (js_ret ((j_lc rfl nd (own := [("_law_row", 5)]) (ws := [5]) (JI.weak (ji_seq (j_var 2))) (blkOk_by (N := N__law_all_monic) (sc := defScope st__law_all_monic) (by decide +kernel)) (fun _ _ _ _ _ => (jg_name 5 nd)) (fun _ _ _ _ _ => jts_nil) (fun _ _ _ _ _ => ((j_bind okd_add ((j_var 5)).sd ((j_tup (ja_cons ncl_s (j_int).sf ja_nil))).fd)).sf) (by decide))).fr))))

abbrev st__law_back : Stmt := topS 35
def N__law_back : List Str := ["_law_number", "_law_p", "_law_one", "_law_other", "_law_some"]
theorem sc__law_back : FnScope N__law_back ["_law_number", "_law_p"] (defScope st__law_back) := ⟨rfl, rfl, rfl, by decide +kernel, rfl, by decide +kernel, by decide +kernel⟩
theorem w__law_back  : BodyJ P w K mg base W 0 N__law_back "_law_back" st__law_back b__law_back := by
  intro f cdv A outer s H E F0 hr
  have nd : N__law_back.Nodup := by decide +kernel
  have tk := takes_of (X := XOf P w K mg base N__law_back "_law_back" (defScope st__law_back) f cdv A outer s H E) rfl rfl rfl rfl
  have hp := passes_of (X := XOf P w K mg base N__law_back "_law_back" (defScope st__law_back) f cdv A outer s H E) rfl
  exact (jss_cons (js_par 2 3 rfl nd (ja_cons ncl_s (j_var 0) (ja_cons ncl_s (j_var 1) ja_nil)))
    (jss_cons (js_set 4 nd ((j_lst (ja_cons ncl_s (j_int).sf (ja_cons ncl_s (j_int).sf ja_nil)))).sf)
    (jss_cons (js_while hp (jt_cmp ok_gt ((j_var 3)).sw (j_int).fw)
      (jss_cons (js_set 4 nd ((j_lst (ja_cons ncl_s (j_ix (j_var 4) (j_int).fw) (ja_cons ncl_s ((j_bin ok_sub ((j_ix (j_var 4) (j_int).fw)).sw ((j_bind okd_mul ((j_bin ok_fdiv ((j_var 2)).sw ((j_var 3)).sw)).fd ((j_ix (j_var 4) (j_int).fw)).sd)).fw)).sf ja_nil)))).sf)
    (jss_one (js_par 2 3 rfl nd (ja_cons ncl_s (j_var 3) (ja_cons ncl_s ((j_bin ok_mod ((j_var 2)).sw ((j_var 3)).sw)).sf ja_nil))))))
    (jss_one (js_ret ((j_bin ok_mod ((j_ix (j_var 4) (j_int).fw)).sw ((j_var 1)).sw)).fr)))))

abbrev st__law_rest_by : Stmt := topS 36
def N__law_rest_by : List Str := ["_law_row", "_law_other", "_law_p", "_law_rest_here", "_law_back_here", "_law_share", "_law_at", "_law_k", "_law_number"]
theorem sc__law_rest_by : FnScope N__law_rest_by ["_law_row", "_law_other", "_law_p"] (defScope st__law_rest_by) := ⟨rfl, rfl, rfl, by decide +kernel, rfl, by decide +kernel, by decide +kernel⟩
theorem w__law_rest_by (m_enumerate : mg "enumerate" = none) (m_len : mg "len" = none) (h__law_back : FD P w K mg base W 1 "_law_back" [] s__law_back) (h__law_cut : FD P w K mg base W 1 "_law_cut" [] s__law_cut) : BodyJ P w K mg base W 1 N__law_rest_by "_law_rest_by" st__law_rest_by b__law_rest_by := by
  intro f cdv A outer s H E F0 hr
  have nd : N__law_rest_by.Nodup := by decide +kernel
  have tk := takes_of (X := XOf P w K mg base N__law_rest_by "_law_rest_by" (defScope st__law_rest_by) f cdv A outer s H E) rfl rfl rfl rfl
  have hp := passes_of (X := XOf P w K mg base N__law_rest_by "_law_rest_by" (defScope st__law_rest_by) f cdv A outer s H E) rfl
  exact (jss_cons (js_setLcO 3 rfl nd (own := [("_law_number", 8)]) (ws := [8]) (JI.weak (ji_seq (j_var 0))) (blkOk_by (N := N__law_rest_by) (sc := defScope st__law_rest_by) (by decide +kernel)) (fun _ _ _ _ _ => (jg_name 8 nd)) (fun _ _ _ _ _ => jts_nil) (fun _ _ _ _ _ => ((j_bin ok_mod ((j_var 8)).sw ((j_var 2)).sw)).sf) (by decide))
    (jss_cons (js_set 4 nd ((j_call h__law_back (hr.mono (by decide)) tk (by rfl) (ja_cons ncl_w ((j_ix (j_var 1) ((j_neg (j_int).fw)).fw)).sw (ja_cons ncl_w ((j_var 2)).sw ja_nil)))).sf)
    (jss_cons (js_while hp (jt_cmp ok_ge ((j_callB ca_len m_len (by decide +kernel) (ja_cons ncl_w (j_own 3) ja_nil))).fw ((j_callB ca_len m_len (by decide +kernel) (ja_cons ncl_w ((j_var 1)).sw ja_nil))).fw)
      (jss_cons (js_set 5 nd ((j_bin ok_mod ((j_bind okd_mul ((j_ixw (j_own 3) ((j_neg (j_int).fw)).fw)).sd ((j_var 4)).sd)).fw ((j_var 2)).sw)).sf)
    (jss_cons (js_set 6 nd ((j_bin ok_sub ((j_callB ca_len m_len (by decide +kernel) (ja_cons ncl_w (j_own 3) ja_nil))).fw ((j_callB ca_len m_len (by decide +kernel) (ja_cons ncl_w ((j_var 1)).sw ja_nil))).fw)).sf)
    (jss_cons (js_for hp rfl (ji_enum (j_var 1) m_enumerate) (jg_tup rfl (jgs_cons (jg_name 7 nd) (jgs_cons (jg_name 8 nd) jgs_nil)))
      (jss_one (js_seti 3 ((j_bin ok_mod ((j_bin ok_sub ((j_ixw (j_own 3) ((j_bind okd_add ((j_var 6)).sd ((j_var 7)).sd)).fw)).sw ((j_bind okd_mul ((j_var 5)).sd ((j_var 8)).sd)).fw)).fw ((j_var 2)).sw)).sf ((j_bind okd_add ((j_var 6)).sd ((j_var 7)).sd)).fw)))
    (jss_one (js_setO 3 nd (j_sl (j_own 3) jo_none (jo_some ((j_neg (j_int).fw)).fw))))))))
    (jss_one (js_ret ((j_call h__law_cut (hr.mono (by decide)) tk (by rfl) (ja_cons ncl_w (j_own 3) ja_nil))).fr)))))

abbrev st__law_is_alone : Stmt := topS 38
def N__law_is_alone : List Str := ["_law_row", "_law_p", "_law_high", "_law_other"]
theorem sc__law_is_alone : FnScope N__law_is_alone ["_law_row", "_law_p"] (defScope st__law_is_alone) := ⟨rfl, rfl, rfl, by decide +kernel, rfl, by decide +kernel, by decide +kernel⟩
theorem w__law_is_alone (m_len : mg "len" = none) (m_range : mg "range" = none) (h__law_all_monic : FD P w K mg base W 1 "_law_all_monic" [] s__law_all_monic) (h__law_rest_by : FD P w K mg base W 2 "_law_rest_by" [] s__law_rest_by) : BodyJ P w K mg base W 2 N__law_is_alone "_law_is_alone" st__law_is_alone b__law_is_alone := by
  intro f cdv A outer s H E F0 hr
  have nd : N__law_is_alone.Nodup := by decide +kernel
  have tk := takes_of (X := XOf P w K mg base N__law_is_alone "_law_is_alone" (defScope st__law_is_alone) f cdv A outer s H E) rfl rfl rfl rfl
  have hp := passes_of (X := XOf P w K mg base N__law_is_alone "_law_is_alone" (defScope st__law_is_alone) f cdv A outer s H E) rfl
  exact (jss_cons (js_for hp rfl (ji_range2 (st := true) m_range (ja_cons ncl_w (j_int).fw (ja_cons ncl_w ((j_bind okd_add ((j_bin ok_fdiv ((j_bin ok_sub ((j_callB ca_len m_len (by decide +kernel) (ja_cons ncl_w ((j_var 0)).sw ja_nil))).fw (j_int).fw)).fw (j_int).fw)).fd (j_int).fd)).fw ja_nil))) (jg_name 2 nd)
      (jss_one (js_for hp rfl (ji_seq ((j_call h__law_all_monic (hr.mono (by decide)) tk (by rfl) (ja_cons ncl_w ((j_var 1)).sw (ja_cons ncl_w ((j_var 2)).sw ja_nil)))).sf) (jg_name 3 nd)
      (jss_one (js_if (jt_cmp (ok_eq hr.units) ((j_call h__law_rest_by (hr.mono (by decide)) tk (by rfl) (ja_cons ncl_w ((j_var 0)).sw (ja_cons ncl_w ((j_var 3)).sw (ja_cons ncl_w ((j_var 1)).sw ja_nil))))).fw ((j_tup ja_nil)).fw)
      (jss_one (js_ret (j_bl).fr))
      jss_nil)))))
    (jss_one (js_ret (j_bl).fr)))

abbrev st_is_whole : Stmt := topS 5
def N_is_whole : List Str := ["thing"]
theorem sc_is_whole : FnScope N_is_whole ["thing"] (defScope st_is_whole) := ⟨rfl, rfl, rfl, by decide +kernel, rfl, by decide +kernel, by decide +kernel⟩
theorem w_is_whole (m_bool : mg "bool" = none) (m_int : mg "int" = none) (m_isinstance : mg "isinstance" = none) : BodyJ P w K mg base W 0 N_is_whole "is_whole" st_is_whole b_numbers_is_whole := by
  intro f cdv A outer s H E F0 hr
  have nd : N_is_whole.Nodup := by decide +kernel
  have tk := takes_of (X := XOf P w K mg base N_is_whole "is_whole" (defScope st_is_whole) f cdv A outer s H E) rfl rfl rfl rfl
  have hp := passes_of (X := XOf P w K mg base N_is_whole "is_whole" (defScope st_is_whole) f cdv A outer s H E) rfl
  exact (jss_one (js_ret ((j_and (j_isi isi_int (j_bor 0) m_isinstance m_int (by decide +kernel)) (j_one (j_not (j_isi isi_bool (j_bor 0) m_isinstance m_bool (by decide +kernel)))))).fr))

abbrev st_is_prime : Stmt := topS 6
def N_is_prime : List Str := ["number", "part"]
theorem sc_is_prime : FnScope N_is_prime ["number"] (defScope st_is_prime) := ⟨rfl, rfl, rfl, by decide +kernel, rfl, by decide +kernel, by decide +kernel⟩
theorem w_is_prime  : BodyJ P w K mg base W 0 N_is_prime "is_prime" st_is_prime b_numbers_is_prime := by
  intro f cdv A outer s H E F0 hr
  have nd : N_is_prime.Nodup := by decide +kernel
  have tk := takes_of (X := XOf P w K mg base N_is_prime "is_prime" (defScope st_is_prime) f cdv A outer s H E) rfl rfl rfl rfl
  have hp := passes_of (X := XOf P w K mg base N_is_prime "is_prime" (defScope st_is_prime) f cdv A outer s H E) rfl
  exact (jss_cons (js_if (jt_cmp ok_lt ((j_var 0)).sw (j_int).fw)
      (jss_one (js_ret (j_bl).fr))
      jss_nil)
    (jss_cons (js_set 1 nd (j_int).sf)
    (jss_cons (js_while hp (jt_cmp ok_le ((j_bind okd_mul ((j_var 1)).sd ((j_var 1)).sd)).fw ((j_var 0)).sw)
      (jss_cons (js_if (jt_cmp (ok_eq hr.units) ((j_bin ok_mod ((j_var 0)).sw ((j_var 1)).sw)).fw (j_int).fw)
      (jss_one (js_ret (j_bl).fr))
      jss_nil)
    (jss_one (js_aug 1 ip_add nd (j_int).fw))))
    (jss_one (js_ret (j_bl).fr)))))

abbrev st_need_prime : Stmt := topS 7
def N_need_prime : List Str := ["thing"]
theorem sc_need_prime : FnScope N_need_prime ["thing"] (defScope st_need_prime) := ⟨rfl, rfl, rfl, by decide +kernel, rfl, by decide +kernel, by decide +kernel⟩
theorem w_need_prime (c_MOST_PRIME : Cst K mg "MOST_PRIME" (.int 9973)) (x_BadPrime : ExcF K mg "BadPrime") (h_is_prime : FD P w K mg base W 1 "is_prime" [] s_numbers_is_prime) (h_is_whole : FD P w K mg base W 1 "is_whole" [] s_numbers_is_whole) : BodyJ P w K mg base W 1 N_need_prime "need_prime" st_need_prime b_numbers_need_prime := by
  intro f cdv A outer s H E F0 hr
  have nd : N_need_prime.Nodup := by decide +kernel
  have tk := takes_of (X := XOf P w K mg base N_need_prime "need_prime" (defScope st_need_prime) f cdv A outer s H E) rfl rfl rfl rfl
  have hp := passes_of (X := XOf P w K mg base N_need_prime "need_prime" (defScope st_need_prime) f cdv A outer s H E) rfl
  exact (jss_one (js_if (JW.t (jw_or (jt_not (jt_val ((j_call h_is_whole (hr.mono (by decide)) tk (by rfl) (ja_cons ncl_w (j_bor 0) ja_nil))).fw)) (jw_or (jt_not (jt_chain ok_le ok_le (j_int).fw (j_bor 0) ((j_glob (by rfl) c_MOST_PRIME)).fw)) (jw_or1 (jt_not (jt_val ((j_call h_is_prime (hr.mono (by decide)) tk (by rfl) (ja_cons ncl_w (j_bor 0) ja_nil))).fw))))))
      (jss_one (js_raise rfl tk x_BadPrime))
      jss_nil))

abbrev st_inverse : Stmt := topS 13
def N_inverse : List Str := ["number", "p", "found", "base", "left"]
theorem sc_inverse : FnScope N_inverse ["number", "p"] (defScope st_inverse) := ⟨rfl, rfl, rfl, by decide +kernel, rfl, by decide +kernel, by decide +kernel⟩
theorem w_inverse  : BodyJ P w K mg base W 0 N_inverse "inverse" st_inverse b_modrows_inverse := by
  intro f cdv A outer s H E F0 hr
  have nd : N_inverse.Nodup := by decide +kernel
  have tk := takes_of (X := XOf P w K mg base N_inverse "inverse" (defScope st_inverse) f cdv A outer s H E) rfl rfl rfl rfl
  have hp := passes_of (X := XOf P w K mg base N_inverse "inverse" (defScope st_inverse) f cdv A outer s H E) rfl
  exact (jss_cons (js_set 2 nd (j_int).sf)
    (jss_cons (js_set 3 nd ((j_bin ok_mod ((j_var 0)).sw ((j_var 1)).sw)).sf)
    (jss_cons (js_set 4 nd ((j_bin ok_sub ((j_var 1)).sw (j_int).fw)).sf)
    (jss_cons (js_while hp (jt_cmp ok_gt ((j_var 4)).sw (j_int).fw)
      (jss_cons (js_if (jt_cmp (ok_eq hr.units) ((j_bin ok_mod ((j_var 4)).sw (j_int).fw)).fw (j_int).fw)
      (jss_one (js_set 2 nd ((j_bin ok_mod ((j_bind okd_mul ((j_var 2)).sd ((j_var 3)).sd)).fw ((j_var 1)).sw)).sf))
      jss_nil)
    (jss_cons (js_set 3 nd ((j_bin ok_mod ((j_bind okd_mul ((j_var 3)).sd ((j_var 3)).sd)).fw ((j_var 1)).sw)).sf)
    (jss_one (js_set 4 nd ((j_bin ok_fdiv ((j_var 4)).sw (j_int).fw)).sf)))))
    (jss_one (js_ret ((j_var 2)).sr))))))

abbrev st_cut : Stmt := topS 11
def N_cut : List Str := ["numbers", "many"]
theorem sc_cut : FnScope N_cut ["numbers"] (defScope st_cut) := ⟨rfl, rfl, rfl, by decide +kernel, rfl, by decide +kernel, by decide +kernel⟩
theorem w_cut (m_len : mg "len" = none) (m_tuple : mg "tuple" = none) : BodyJ P w K mg base W 0 N_cut "cut" st_cut b__law_cut := by
  intro f cdv A outer s H E F0 hr
  have nd : N_cut.Nodup := by decide +kernel
  have tk := takes_of (X := XOf P w K mg base N_cut "cut" (defScope st_cut) f cdv A outer s H E) rfl rfl rfl rfl
  have hp := passes_of (X := XOf P w K mg base N_cut "cut" (defScope st_cut) f cdv A outer s H E) rfl
  exact (jss_cons (js_set 1 nd ((j_callB ca_len m_len (by decide +kernel) (ja_cons ncl_w (j_bor 0) ja_nil))).sf)
    (jss_cons (js_while hp (JW.t (jw_and (jt_cmp ok_gt ((j_var 1)).sw (j_int).fw) (jw_and1 (jt_cmp (ok_eq hr.units) ((j_ixw (j_bor 0) ((j_bin ok_sub ((j_var 1)).sw (j_int).fw)).fw)).sw (j_int).fw))))
      (jss_one (js_set 1 nd ((j_bin ok_sub ((j_var 1)).sw (j_int).fw)).sf)))
    (jss_one (js_ret ((j_callTy ca_tuple m_tuple (by decide +kernel) (ja_cons ncl_w ((j_sl (j_bor 0) jo_none (jo_some ((j_var 1)).sw))).fw ja_nil))).fr))))

abbrev st_parted_by : Stmt := topS 18
def N_parted_by : List Str := ["row", "other", "p", "back", "rest", "quotient", "at", "share", "spot", "number"]
theorem sc_parted_by : FnScope N_parted_by ["row", "other", "p"] (defScope st_parted_by) := ⟨rfl, rfl, rfl, by decide +kernel, rfl, by decide +kernel, by decide +kernel⟩
theorem w_parted_by (m_enumerate : mg "enumerate" = none) (m_len : mg "len" = none) (m_list : mg "list" = none) (m_max : mg "max" = none) (m_range : mg "range" = none) (m_reversed : mg "reversed" = none) (h_cut : FD P w K mg base W 1 "cut" [] s__law_cut) (h_inverse : FD P w K mg base W 1 "inverse" [] s_modrows_inverse) : BodyJ P w K mg base W 1 N_parted_by "parted_by" st_parted_by b_modrows_parted_by := by
  intro f cdv A outer s H E F0 hr
  have nd : N_parted_by.Nodup := by decide +kernel
  have tk := takes_of (X := XOf P w K mg base N_parted_by "parted_by" (defScope st_parted_by) f cdv A outer s H E) rfl rfl rfl rfl
  have hp := passes_of (X := XOf P w K mg base N_parted_by "parted_by" (defScope st_parted_by) f cdv A outer s H E) rfl
  exact (jss_cons (js_set 3 nd ((j_call h_inverse (hr.mono (by decide)) tk (by rfl) (ja_cons ncl_w ((j_ix (j_var 1) ((j_neg (j_int).fw)).fw)).sw (ja_cons ncl_w ((j_var 2)).sw ja_nil)))).sf)
    (jss_cons (js_setO 4 nd (j_callTy ca_list m_list (by decide +kernel) (ja_cons ncl_w ((j_var 0)).sw ja_nil)))
    (jss_cons (js_setO 5 nd (j_bind okd_mul ((j_lst (ja_cons ncl_s (j_int).sf ja_nil))).fd ((j_callB (ca_max rfl) m_max (by decide +kernel) (ja_cons ncl_w (j_int).fw (ja_cons ncl_w ((j_bind okd_add ((j_bin ok_sub ((j_callB ca_len m_len (by decide +kernel) (ja_cons ncl_w ((j_var 0)).sw ja_nil))).fw ((j_callB ca_len m_len (by decide +kernel) (ja_cons ncl_w ((j_var 1)).sw ja_nil))).fw)).fd (j_int).fd)).fw ja_nil)))).fd))
    (jss_cons (js_for hp rfl (ji_revr (st := true) ((j_callB ca_len m_len (by decide +kernel) (ja_cons ncl_w (j_own 5) ja_nil))).fw m_reversed m_range) (jg_name 6 nd)
      (jss_cons (js_set 7 nd ((j_bin ok_mod ((j_bind okd_mul ((j_ixw (j_own 4) ((j_bin ok_sub ((j_bind okd_add ((j_var 6)).sd ((j_callB ca_len m_len (by decide +kernel) (ja_cons ncl_w ((j_var 1)).sw ja_nil))).fd)).fw (j_int).fw)).fw)).sd ((j_var 3)).sd)).fw ((j_var 2)).sw)).sf)
    (jss_cons (js_seti 5 (j_var 7) ((j_var 6)).sw)
    (jss_one (js_for hp rfl (ji_enum (j_var 1) m_enumerate) (jg_tup rfl (jgs_cons (jg_name 8 nd) (jgs_cons (jg_name 9 nd) jgs_nil)))
      (jss_one (js_seti 4 ((j_bin ok_mod ((j_bin ok_sub ((j_ixw (j_own 4) ((j_bind okd_add ((j_var 6)).sd ((j_var 8)).sd)).fw)).sw ((j_bind okd_mul ((j_var 7)).sd ((j_var 9)).sd)).fw)).fw ((j_var 2)).sw)).sf ((j_bind okd_add ((j_var 6)).sd ((j_var 8)).sd)).fw)))))))
    (jss_one (js_ret ((j_tup (ja_cons ncl_s ((j_call h_cut (hr.mono (by decide)) tk (by rfl) (ja_cons ncl_w (j_own 5) ja_nil))).sf (ja_cons ncl_s ((j_call h_cut (hr.mono (by decide)) tk (by rfl) (ja_cons ncl_w (j_own 4) ja_nil))).sf ja_nil)))).fr))))))

abbrev st_rest_row : Stmt := topS 12
def N_rest_row : List Str := ["row", "m", "number"]
theorem sc_rest_row : FnScope N_rest_row ["row", "m"] (defScope st_rest_row) := ⟨rfl, rfl, rfl, by decide +kernel, rfl, by decide +kernel, by decide +kernel⟩
theorem w_rest_row (h_cut : FD P w K mg base W 1 "cut" [] s__law_cut) : BodyJ P w K mg base W 1 N_rest_row "rest_row" st_rest_row b_modrows_rest_row := by
  intro f cdv A outer s H E F0 hr
  have nd : N_rest_row.Nodup := by decide +kernel
  have tk := takes_of (X := XOf P w K mg base N_rest_row "rest_row" (defScope st_rest_row) f cdv A outer s H E) rfl rfl rfl rfl
  have hp := passes_of (X := XOf P w K mg base N_rest_row "rest_row" (defScope st_rest_row) f cdv A outer s H E) rfl
  exact (jss_one (js_ret ((j_call h_cut (hr.mono (by decide)) tk (by rfl) (ja_cons ncl_w ((j_lc rfl nd (own := [("number", 2)]) (ws := [2]) (ji_seqw (j_bor 0)) (blkOk_by (N := N_rest_row) (sc := defScope st_rest_row) (by decide +kernel)) (fun _ _ _ _ _ => (jg_name 2 nd)) (fun _ _ _ _ _ => jts_nil) (fun _ _ _ _ _ => ((j_bin ok_mod ((j_var 2)).sw ((j_var 1)).sw)).sf) (by decide))).fw ja_nil))).fr))

abbrev st_product_by : Stmt := topS 15
def N_product_by : List Str := ["row", "other", "p", "found", "at", "number", "spot", "more"]
theorem sc_product_by : FnScope N_product_by ["row", "other", "p"] (defScope st_product_by) := ⟨rfl, rfl, rfl, by decide +kernel, rfl, by decide +kernel, by decide +kernel⟩
theorem w_product_by (m_enumerate : mg "enumerate" = none) (m_len : mg "len" = none) (h_rest_row : FD P w K mg base W 2 "rest_row" [] s_modrows_rest_row) : BodyJ P w K mg base W 2 N_product_by "product_by" st_product_by b_modrows_product_by := by
  intro f cdv A outer s H E F0 hr
  have nd : N_product_by.Nodup := by decide +kernel
  have tk := takes_of (X := XOf P w K mg base N_product_by "product_by" (defScope st_product_by) f cdv A outer s H E) rfl rfl rfl rfl
  have hp := passes_of (X := XOf P w K mg base N_product_by "product_by" (defScope st_product_by) f cdv A outer s H E) rfl
  exact (jss_cons (js_setO 3 nd (j_bind okd_mul ((j_lst (ja_cons ncl_s (j_int).sf ja_nil))).fd ((j_bind okd_add ((j_callB ca_len m_len (by decide +kernel) (ja_cons ncl_w ((j_var 0)).sw ja_nil))).fd ((j_callB ca_len m_len (by decide +kernel) (ja_cons ncl_w ((j_var 1)).sw ja_nil))).fd)).fd))
    (jss_cons (js_for hp rfl (ji_enum (j_var 0) m_enumerate) (jg_tup rfl (jgs_cons (jg_name 4 nd) (jgs_cons (jg_name 5 nd) jgs_nil)))
      (jss_one (js_for hp rfl (ji_enum (j_var 1) m_enumerate) (jg_tup rfl (jgs_cons (jg_name 6 nd) (jgs_cons (jg_name 7 nd) jgs_nil)))
      (jss_one (js_seti 3 ((j_bind okd_add ((j_ixw (j_own 3) ((j_bind okd_add ((j_var 4)).sd ((j_var 6)).sd)).fw)).sd ((j_bind okd_mul ((j_var 5)).sd ((j_var 7)).sd)).fd)).sf ((j_bind okd_add ((j_var 4)).sd ((j_var 6)).sd)).fw)))))
    (jss_one (js_ret ((j_call h_rest_row (hr.mono (by decide)) tk (by rfl) (ja_cons ncl_w (j_own 3) (ja_cons ncl_w ((j_var 2)).sw ja_nil)))).fr))))

abbrev st_power_by : Stmt := topS 20
def N_power_by : List Str := ["row", "n", "other", "p", "found", "base"]
theorem sc_power_by : FnScope N_power_by ["row", "n", "other", "p"] (defScope st_power_by) := ⟨rfl, rfl, rfl, by decide +kernel, rfl, by decide +kernel, by decide +kernel⟩
theorem w_power_by (h_parted_by : FD P w K mg base W 2 "parted_by" [] s_modrows_parted_by) (h_product_by : FD P w K mg base W 3 "product_by" [] s_modrows_product_by) : BodyJ P w K mg base W 3 N_power_by "power_by" st_power_by b_modrows_power_by := by
  intro f cdv A outer s H E F0 hr
  have nd : N_power_by.Nodup := by decide +kernel
  have tk := takes_of (X := XOf P w K mg base N_power_by "power_by" (defScope st_power_by) f cdv A outer s H E) rfl rfl rfl rfl
  have hp := passes_of (X := XOf P w K mg base N_power_by "power_by" (defScope st_power_by) f cdv A outer s H E) rfl
  exact (jss_cons (js_set 4 nd (j_ix ((j_call h_parted_by (hr.mono (by decide)) tk (by rfl) (ja_cons ncl_w ((j_tup (ja_cons ncl_s (j_int).sf ja_nil))).fw (ja_cons ncl_w ((j_var 2)).sw (ja_cons ncl_w ((j_var 3)).sw ja_nil))))).sf (j_int).fw))
    (jss_cons (js_set 5 nd (j_ix ((j_call h_parted_by (hr.mono (by decide)) tk (by rfl) (ja_cons ncl_w ((j_var 0)).sw (ja_cons ncl_w ((j_var 2)).sw (ja_cons ncl_w ((j_var 3)).sw ja_nil))))).sf (j_int).fw))
    (jss_cons (js_while hp (jt_cmp ok_gt ((j_var 1)).sw (j_int).fw)
      (jss_cons (js_if (jt_cmp (ok_eq hr.units) ((j_bin ok_mod ((j_var 1)).sw (j_int).fw)).fw (j_int).fw)
      (jss_one (js_set 4 nd (j_ix ((j_call h_parted_by (hr.mono (by decide)) tk (by rfl) (ja_cons ncl_w ((j_call h_product_by (hr.mono (by decide)) tk (by rfl) (ja_cons ncl_w ((j_var 4)).sw (ja_cons ncl_w ((j_var 5)).sw (ja_cons ncl_w ((j_var 3)).sw ja_nil))))).fw (ja_cons ncl_w ((j_var 2)).sw (ja_cons ncl_w ((j_var 3)).sw ja_nil))))).sf (j_int).fw)))
      jss_nil)
    (jss_cons (js_set 5 nd (j_ix ((j_call h_parted_by (hr.mono (by decide)) tk (by rfl) (ja_cons ncl_w ((j_call h_product_by (hr.mono (by decide)) tk (by rfl) (ja_cons ncl_w ((j_var 5)).sw (ja_cons ncl_w ((j_var 5)).sw (ja_cons ncl_w ((j_var 3)).sw ja_nil))))).fw (ja_cons ncl_w ((j_var 2)).sw (ja_cons ncl_w ((j_var 3)).sw ja_nil))))).sf (j_int).fw))
    (jss_one (js_set 1 nd ((j_bin ok_fdiv ((j_var 1)).sw (j_int).fw)).sf)))))
    (jss_one (js_ret ((j_var 4)).sr)))))

abbrev st_powers_by : Stmt := topS 22
def N_powers_by : List Str := ["row", "p", "found", "power", "turn"]
theorem sc_powers_by : FnScope N_powers_by ["row", "p"] (defScope st_powers_by) := ⟨rfl, rfl, rfl, by decide +kernel, rfl, by decide +kernel, by decide +kernel⟩
theorem w_powers_by (m_len : mg "len" = none) (m_range : mg "range" = none) (m_tuple : mg "tuple" = none) (c_X : Cst K mg "X" (.tup [(.int 0), (.int 1)])) (h_parted_by : FD P w K mg base W 2 "parted_by" [] s_modrows_parted_by) (h_power_by : FD P w K mg base W 4 "power_by" [] s_modrows_power_by) : BodyJ P w K mg base W 4 N_powers_by "powers_by" st_powers_by b_modfactors_powers_by := by
  intro f cdv A outer s H E F0 hr
  have nd : N_powers_by.Nodup := by decide +kernel
  have tk := takes_of (X := XOf P w K mg base N_powers_by "powers_by" (defScope st_powers_by) f cdv A outer s H E) rfl rfl rfl rfl
  have hp := passes_of (X := XOf P w K mg base N_powers_by "powers_by" (defScope st_powers_by) f cdv A outer s H E) rfl
  exact (jss_cons (js_setO 2 nd (j_lst ja_nil))
    (jss_cons (js_set 3 nd (j_ix ((j_call h_parted_by (hr.mono (by decide)) tk (by rfl) (ja_cons ncl_w ((j_glob (by rfl) c_X)).fw (ja_cons ncl_w ((j_var 0)).sw (ja_cons ncl_w ((j_var 1)).sw ja_nil))))).sf (j_int).fw))
    (jss_cons (js_for hp rfl (ji_range1 (st := true) m_range (ja_cons ncl_w ((j_bin ok_sub ((j_callB ca_len m_len (by decide +kernel) (ja_cons ncl_w ((j_var 0)).sw ja_nil))).fw (j_int).fw)).fw ja_nil)) (jg_name 4 nd)
      (jss_cons (js_set 3 nd ((j_call h_power_by (hr.mono (by decide)) tk (by rfl) (ja_cons ncl_w ((j_var 3)).sw (ja_cons ncl_w ((j_var 1)).sw (ja_cons ncl_w ((j_var 0)).sw (ja_cons ncl_w ((j_var 1)).sw ja_nil)))))).sf)
    (jss_one (js_append 2 (j_var 3)))))
    (jss_one (js_ret ((j_callTy ca_tuple m_tuple (by decide +kernel) (ja_cons ncl_w (j_own 2) ja_nil))).fr)))))

abbrev st_primes_of : Stmt := topS 8
def N_primes_of : List Str := ["number", "found", "part"]
theorem sc_primes_of : FnScope N_primes_of ["number"] (defScope st_primes_of) := ⟨rfl, rfl, rfl, by decide +kernel, rfl, by decide +kernel, by decide +kernel⟩
theorem w_primes_of  : BodyJ P w K mg base W 0 N_primes_of "primes_of" st_primes_of b_numbers_primes_of := by
  intro f cdv A outer s H E F0 hr
  have nd : N_primes_of.Nodup := by decide +kernel
  have tk := takes_of (X := XOf P w K mg base N_primes_of "primes_of" (defScope st_primes_of) f cdv A outer s H E) rfl rfl rfl rfl
  have hp := passes_of (X := XOf P w K mg base N_primes_of "primes_of" (defScope st_primes_of) f cdv A outer s H E) rfl
  exact (jss_cons (js_setO 1 nd (j_lst ja_nil))
    (jss_cons (js_set 2 nd (j_int).sf)
    (jss_cons (js_while hp (jt_cmp ok_gt ((j_var 0)).sw (j_int).fw)
      (jss_cons (js_if (jt_cmp ok_gt ((j_bind okd_mul ((j_var 2)).sd ((j_var 2)).sd)).fw ((j_var 0)).sw)
      (jss_one (js_set 2 nd (j_var 0)))
      jss_nil)
    (jss_cons (js_if (jt_cmp (ok_eq hr.units) ((j_bin ok_mod ((j_var 0)).sw ((j_var 2)).sw)).fw (j_int).fw)
      (jss_one (js_append 1 (j_var 2)))
      jss_nil)
    (jss_cons (js_while hp (jt_cmp (ok_eq hr.units) ((j_bin ok_mod ((j_var 0)).sw ((j_var 2)).sw)).fw (j_int).fw)
      (jss_one (js_set 0 nd ((j_bin ok_fdiv ((j_var 0)).sw ((j_var 2)).sw)).sf)))
    (jss_one (js_aug 2 ip_add nd (j_int).fw))))))
    (jss_one (js_ret (j_ownr 1))))))

abbrev st_sum_by : Stmt := topS 14
def N_sum_by : List Str := ["row", "other", "p", "found", "some", "at", "number"]
theorem sc_sum_by : FnScope N_sum_by ["row", "other", "p"] (defScope st_sum_by) := ⟨rfl, rfl, rfl, by decide +kernel, rfl, by decide +kernel, by decide +kernel⟩
theorem w_sum_by (m_enumerate : mg "enumerate" = none) (m_len : mg "len" = none) (m_max : mg "max" = none) (h_rest_row : FD P w K mg base W 2 "rest_row" [] s_modrows_rest_row) : BodyJ P w K mg base W 2 N_sum_by "sum_by" st_sum_by b_modrows_sum_by := by
  intro f cdv A outer s H E F0 hr
  have nd : N_sum_by.Nodup := by decide +kernel
  have tk := takes_of (X := XOf P w K mg base N_sum_by "sum_by" (defScope st_sum_by) f cdv A outer s H E) rfl rfl rfl rfl
  have hp := passes_of (X := XOf P w K mg base N_sum_by "sum_by" (defScope st_sum_by) f cdv A outer s H E) rfl
  exact (jss_cons (js_setO 3 nd (j_bind okd_mul ((j_lst (ja_cons ncl_s (j_int).sf ja_nil))).fd ((j_callB (ca_max rfl) m_max (by decide +kernel) (ja_cons ncl_w ((j_callB ca_len m_len (by decide +kernel) (ja_cons ncl_w ((j_var 0)).sw ja_nil))).fw (ja_cons ncl_w ((j_callB ca_len m_len (by decide +kernel) (ja_cons ncl_w ((j_var 1)).sw ja_nil))).fw ja_nil)))).fd))
    (jss_cons (js_for hp rfl (ji_seq ((j_tup (ja_cons ncl_s (j_var 0) (ja_cons ncl_s (j_var 1) ja_nil)))).sf) (jg_name 4 nd)
      (jss_one (js_for hp rfl (ji_enum (j_var 4) m_enumerate) (jg_tup rfl (jgs_cons (jg_name 5 nd) (jgs_cons (jg_name 6 nd) jgs_nil)))
      (jss_one (js_seti 3 ((j_bind okd_add ((j_ixw (j_own 3) ((j_var 5)).sw)).sd ((j_var 6)).sd)).sf ((j_var 5)).sw)))))
    (jss_one (js_ret ((j_call h_rest_row (hr.mono (by decide)) tk (by rfl) (ja_cons ncl_w (j_own 3) (ja_cons ncl_w ((j_var 2)).sw ja_nil)))).fr))))

abbrev st_scaled_by : Stmt := topS 16
def N_scaled_by : List Str := ["row", "number", "p", "one"]
theorem sc_scaled_by : FnScope N_scaled_by ["row", "number", "p"] (defScope st_scaled_by) := ⟨rfl, rfl, rfl, by decide +kernel, rfl, by decide +kernel, by decide +kernel⟩
theorem w_scaled_by (h_rest_row : FD P w K mg base W 2 "rest_row" [] s_modrows_rest_row) : BodyJ P w K mg base W 2 N_scaled_by "scaled_by" st_scaled_by b_modrows_scaled_by := by
  intro f cdv A outer s H E F0 hr
  have nd : N_scaled_by.Nodup := by decide +kernel
  have tk := takes_of (X := XOf P w K mg base N_scaled_by "scaled_by" (defScope st_scaled_by) f cdv A outer s H E) rfl rfl rfl rfl
  have hp := passes_of (X := XOf P w K mg base N_scaled_by "scaled_by" (defScope st_scaled_by) f cdv A outer s H E) rfl
  exact (jss_one (js_ret ((j_call h_rest_row (hr.mono (by decide)) tk (by rfl) (ja_cons ncl_w ((j_lc rfl nd (own := [("one", 3)]) (ws := [3]) (JI.weak (ji_seq (j_var 0))) (blkOk_by (N := N_scaled_by) (sc := defScope st_scaled_by) (by decide +kernel)) (fun _ _ _ _ _ => (jg_name 3 nd)) (fun _ _ _ _ _ => jts_nil) (fun _ _ _ _ _ => ((j_bind okd_mul ((j_var 1)).sd ((j_var 3)).sd)).sf) (by decide))).fw (ja_cons ncl_w ((j_var 2)).sw ja_nil)))).fr))

abbrev st_less_by : Stmt := topS 17
def N_less_by : List Str := ["row", "other", "p"]
theorem sc_less_by : FnScope N_less_by ["row", "other", "p"] (defScope st_less_by) := ⟨rfl, rfl, rfl, by decide +kernel, rfl, by decide +kernel, by decide +kernel⟩
theorem w_less_by (h_scaled_by : FD P w K mg base W 3 "scaled_by" [] s_modrows_scaled_by) (h_sum_by : FD P w K mg base W 3 "sum_by" [] s_modrows_sum_by) : BodyJ P w K mg base W 3 N_less_by "less_by" st_less_by b_modrows_less_by := by
  intro f cdv A outer s H E F0 hr
  have nd : N_less_by.Nodup := by decide +kernel
  have tk := takes_of (X := XOf P w K mg base N_less_by "less_by" (defScope st_less_by) f cdv A outer s H E) rfl rfl rfl rfl
  have hp := passes_of (X := XOf P w K mg base N_less_by "less_by" (defScope st_less_by) f cdv A outer s H E) rfl
  exact (jss_one (js_ret ((j_call h_sum_by (hr.mono (by decide)) tk (by rfl) (ja_cons ncl_w ((j_var 0)).sw (ja_cons ncl_w ((j_call h_scaled_by (hr.mono (by decide)) tk (by rfl) (ja_cons ncl_w ((j_var 1)).sw (ja_cons ncl_w ((j_neg (j_int).fw)).fw (ja_cons ncl_w ((j_var 2)).sw ja_nil))))).fw (ja_cons ncl_w ((j_var 2)).sw ja_nil))))).fr))

abbrev st_joined_by : Stmt := topS 19
def N_joined_by : List Str := ["row", "other", "p", "first", "second", "quotient", "rest", "fresh", "back", "one", "more"]
theorem sc_joined_by : FnScope N_joined_by ["row", "other", "p"] (defScope st_joined_by) := ⟨rfl, rfl, rfl, by decide +kernel, rfl, by decide +kernel, by decide +kernel⟩
theorem w_joined_by (m_tuple : mg "tuple" = none) (m_zip : mg "zip" = none) (h_inverse : FD P w K mg base W 1 "inverse" [] s_modrows_inverse) (h_less_by : FD P w K mg base W 4 "less_by" [] s_modrows_less_by) (h_parted_by : FD P w K mg base W 2 "parted_by" [] s_modrows_parted_by) (h_product_by : FD P w K mg base W 3 "product_by" [] s_modrows_product_by) (h_scaled_by : FD P w K mg base W 3 "scaled_by" [] s_modrows_scaled_by) : BodyJ P w K mg base W 4 N_joined_by "joined_by" st_joined_by b_modrows_joined_by := by
  intro f cdv A outer s H E F0 hr
  have nd : N_joined_by.Nodup := by decide +kernel
  have tk := takes_of (X := XOf P w K mg base N_joined_by "joined_by" (defScope st_joined_by) f cdv A outer s H E) rfl rfl rfl rfl
  have hp := passes_of (X := XOf P w K mg base N_joined_by "joined_by" (defScope st_joined_by) f cdv A outer s H E) rfl
  exact (jss_cons (js_set 3 nd ((j_tup (ja_cons ncl_s ((j_tup (ja_cons ncl_s (j_int).sf ja_nil))).sf (ja_cons ncl_s ((j_tup ja_nil)).sf ja_nil)))).sf)
    (jss_cons (js_set 4 nd ((j_tup (ja_cons ncl_s ((j_tup ja_nil)).sf (ja_cons ncl_s ((j_tup (ja_cons ncl_s (j_int).sf ja_nil))).sf ja_nil)))).sf)
    (jss_cons (js_while hp (jt_cmp (ok_ne hr.units) ((j_var 1)).sw ((j_tup ja_nil)).fw)
      (jss_cons (js_asg ((j_call h_parted_by (hr.mono (by decide)) tk (by rfl) (ja_cons ncl_w ((j_var 0)).sw (ja_cons ncl_w ((j_var 1)).sw (ja_cons ncl_w ((j_var 2)).sw ja_nil))))).sf (jg_tup rfl (jgs_cons (jg_name 5 nd) (jgs_cons (jg_name 6 nd) jgs_nil))))
    (jss_cons (js_par 0 1 rfl nd (ja_cons ncl_s (j_var 1) (ja_cons ncl_s (j_var 6) ja_nil)))
    (jss_cons (js_set 7 nd ((j_callTy ca_tuple m_tuple (by decide +kernel) (ja_cons ncl_w ((j_lc rfl nd (own := [("one", 9), ("more", 10)]) (ws := [9, 10]) (JI.weak (ji_zip (j_var 3) (j_var 4) m_zip)) (blkOk_by (N := N_joined_by) (sc := defScope st_joined_by) (by decide +kernel)) (fun _ _ _ _ _ => (jg_tup rfl (jgs_cons (jg_name 9 nd) (jgs_cons (jg_name 10 nd) jgs_nil)))) (fun _ _ _ _ _ => jts_nil) (fun _ _ _ _ _ => ((j_call h_less_by (hr.mono (by decide)) takes0 (by rfl) (ja_cons ncl_w ((j_var 9)).sw (ja_cons ncl_w ((j_call h_product_by (hr.mono (by decide)) takes0 (by rfl) (ja_cons ncl_w ((j_var 5)).sw (ja_cons ncl_w ((j_var 10)).sw (ja_cons ncl_w ((j_var 2)).sw ja_nil))))).fw (ja_cons ncl_w ((j_var 2)).sw ja_nil))))).sf) (by decide))).fw ja_nil))).sf)
    (jss_one (js_par 3 4 rfl nd (ja_cons ncl_s (j_var 4) (ja_cons ncl_s (j_var 7) ja_nil))))))))
    (jss_cons (js_if (jt_cmp (ok_eq hr.units) ((j_var 0)).sw ((j_tup ja_nil)).fw)
      (jss_one (js_ret ((j_tup (ja_cons ncl_s ((j_tup ja_nil)).sf (ja_cons ncl_s ((j_tup ja_nil)).sf (ja_cons ncl_s ((j_tup ja_nil)).sf ja_nil))))).fr))
      jss_nil)
    (jss_cons (js_set 8 nd ((j_call h_inverse (hr.mono (by decide)) tk (by rfl) (ja_cons ncl_w ((j_ix (j_var 0) ((j_neg (j_int).fw)).fw)).sw (ja_cons ncl_w ((j_var 2)).sw ja_nil)))).sf)
    (jss_one (js_ret ((j_tup (ja_cons ncl_s ((j_call h_scaled_by (hr.mono (by decide)) tk (by rfl) (ja_cons ncl_w ((j_var 0)).sw (ja_cons ncl_w ((j_var 8)).sw (ja_cons ncl_w ((j_var 2)).sw ja_nil))))).sf (ja_cons ncl_s ((j_call h_scaled_by (hr.mono (by decide)) tk (by rfl) (ja_cons ncl_w ((j_ix (j_var 3) (j_int).fw)).sw (ja_cons ncl_w ((j_var 8)).sw (ja_cons ncl_w ((j_var 2)).sw ja_nil))))).sf (ja_cons ncl_s ((j_call h_scaled_by (hr.mono (by decide)) tk (by rfl) (ja_cons ncl_w ((j_ix (j_var 3) (j_int).fw)).sw (ja_cons ncl_w ((j_var 8)).sw (ja_cons ncl_w ((j_var 2)).sw ja_nil))))).sf ja_nil))))).fr)))))))

abbrev st_mod_paper : Stmt := topS 23
def N_mod_paper : List Str := ["row", "p", "powers", "pairs", "prime", "far", "common", "one", "other"]
theorem sc_mod_paper : FnScope N_mod_paper ["row", "p"] (defScope st_mod_paper) := ⟨rfl, rfl, rfl, by decide +kernel, rfl, by decide +kernel, by decide +kernel⟩
theorem w_mod_paper (m_len : mg "len" = none) (m_tuple : mg "tuple" = none) (c_X : Cst K mg "X" (.tup [(.int 0), (.int 1)])) (h_joined_by : FD P w K mg base W 5 "joined_by" [] s_modrows_joined_by) (h_less_by : FD P w K mg base W 4 "less_by" [] s_modrows_less_by) (h_need_prime : FD P w K mg base W 2 "need_prime" [] s_numbers_need_prime) (h_parted_by : FD P w K mg base W 2 "parted_by" [] s_modrows_parted_by) (h_powers_by : FD P w K mg base W 5 "powers_by" [] s_modfactors_powers_by) (h_primes_of : FD P w K mg base W 1 "primes_of" [] s_numbers_primes_of) : BodyJ P w K mg base W 5 N_mod_paper "mod_paper" st_mod_paper b_modfactors_mod_paper := by
  intro f cdv A outer s H E F0 hr
  have nd : N_mod_paper.Nodup := by decide +kernel
  have tk := takes_of (X := XOf P w K mg base N_mod_paper "mod_paper" (defScope st_mod_paper) f cdv A outer s H E) rfl rfl rfl rfl
  have hp := passes_of (X := XOf P w K mg base N_mod_paper "mod_paper" (defScope st_mod_paper) f cdv A outer s H E) rfl
  exact (jss_cons (js_expr ((j_call h_need_prime (hr.mono (by decide)) tk (by rfl) (ja_cons ncl_w ((j_var 1)).sw ja_nil))).sf)
    (jss_cons (js_set 2 nd ((j_call h_powers_by (hr.mono (by decide)) tk (by rfl) (ja_cons ncl_w ((j_var 0)).sw (ja_cons ncl_w ((j_var 1)).sw ja_nil)))).sf)
    (jss_cons (js_if (jt_cmp (ok_ne hr.units) ((j_ix (j_var 2) ((j_neg (j_int).fw)).fw)).sw ((j_ix ((j_call h_parted_by (hr.mono (by decide)) tk (by rfl) (ja_cons ncl_w ((j_glob (by rfl) c_X)).fw (ja_cons ncl_w ((j_var 0)).sw (ja_cons ncl_w ((j_var 1)).sw ja_nil))))).sf (j_int).fw)).sw)
      (jss_one (js_ret (j_non).fr))
      jss_nil)
    (jss_cons (js_setO 3 nd (j_lst ja_nil))
    (jss_cons (js_for hp rfl (ji_seq ((j_call h_primes_of (hr.mono (by decide)) tk (by rfl) (ja_cons ncl_w ((j_bin ok_sub ((j_callB ca_len m_len (by decide +kernel) (ja_cons ncl_w ((j_var 0)).sw ja_nil))).fw (j_int).fw)).fw ja_nil))).sf) (jg_name 4 nd)
      (jss_cons (js_set 5 nd ((j_call h_less_by (hr.mono (by decide)) tk (by rfl) (ja_cons ncl_w ((j_ix (j_var 2) ((j_bin ok_sub ((j_bin ok_fdiv ((j_bin ok_sub ((j_callB ca_len m_len (by decide +kernel) (ja_cons ncl_w ((j_var 0)).sw ja_nil))).fw (j_int).fw)).fw ((j_var 4)).sw)).fw (j_int).fw)).fw)).sw (ja_cons ncl_w ((j_glob (by rfl) c_X)).fw (ja_cons ncl_w ((j_var 1)).sw ja_nil))))).sf)
    (jss_cons (js_asg ((j_call h_joined_by (hr.mono (by decide)) tk (by rfl) (ja_cons ncl_w ((j_var 5)).sw (ja_cons ncl_w ((j_var 0)).sw (ja_cons ncl_w ((j_var 1)).sw ja_nil))))).sf (jg_tup rfl (jgs_cons (jg_name 6 nd) (jgs_cons (jg_name 7 nd) (jgs_cons (jg_name 8 nd) jgs_nil)))))
    (jss_cons (js_if (jt_cmp (ok_ne hr.units) ((j_var 6)).sw ((j_tup (ja_cons ncl_s (j_int).sf ja_nil))).fw)
      (jss_one (js_ret (j_non).fr))
      jss_nil)
    (jss_one (js_append 3 ((j_tup (ja_cons ncl_s (j_var 7) (ja_cons ncl_s (j_var 8) ja_nil)))).sf))))))
    (jss_one (js_ret ((j_tup (ja_cons ncl_s (j_var 2) (ja_cons ncl_s ((j_callTy ca_tuple m_tuple (by decide +kernel) (ja_cons ncl_w (j_own 3) ja_nil))).sf ja_nil)))).fr)))))))

abbrev st_is_mod_whole : Stmt := topS 24
def N_is_mod_whole : List Str := ["row", "p"]
theorem sc_is_mod_whole : FnScope N_is_mod_whole ["row", "p"] (defScope st_is_mod_whole) := ⟨rfl, rfl, rfl, by decide +kernel, rfl, by decide +kernel, by decide +kernel⟩
theorem w_is_mod_whole (h_mod_paper : FD P w K mg base W 6 "mod_paper" [] s_modfactors_mod_paper) : BodyJ P w K mg base W 6 N_is_mod_whole "is_mod_whole" st_is_mod_whole b_modfactors_is_mod_whole := by
  intro f cdv A outer s H E F0 hr
  have nd : N_is_mod_whole.Nodup := by decide +kernel
  have tk := takes_of (X := XOf P w K mg base N_is_mod_whole "is_mod_whole" (defScope st_is_mod_whole) f cdv A outer s H E) rfl rfl rfl rfl
  have hp := passes_of (X := XOf P w K mg base N_is_mod_whole "is_mod_whole" (defScope st_is_mod_whole) f cdv A outer s H E) rfl
  exact (jss_one (js_ret ((j_cmp ok_notN ((j_call h_mod_paper (hr.mono (by decide)) tk (by rfl) (ja_cons ncl_w ((j_var 0)).sw (ja_cons ncl_w ((j_var 1)).sw ja_nil)))).fw (j_non).fw)).fr))

abbrev st__law_right : Stmt := topS 39
def N__law_right : List Str := ["_law_row", "_law_p", "_law_due", "_law_again", "_law_found"]
theorem sc__law_right : FnScope N__law_right ["_law_row", "_law_p"] (defScope st__law_right) := ⟨rfl, rfl, rfl, by decide +kernel, rfl, by decide +kernel, by decide +kernel⟩
theorem w__law_right (m_bool : mg "bool" = none) (m_isinstance : mg "isinstance" = none) (m_range : mg "range" = none) (h__law_is_alone : FD P w K mg base W 3 "_law_is_alone" [] s__law_is_alone) (h_is_mod_whole : FD P w K mg base W 7 "is_mod_whole" [] s_modfactors_is_mod_whole) (h_mod_paper : FD P w K mg base W 6 "mod_paper" [] s_modfactors_mod_paper) : BodyJ P w K mg base W 7 N__law_right "_law_right" st__law_right b__law_right := by
  intro f cdv A outer s H E F0 hr
  have nd : N__law_right.Nodup := by decide +kernel
  have tk := takes_of (X := XOf P w K mg base N__law_right "_law_right" (defScope st__law_right) f cdv A outer s H E) rfl rfl rfl rfl
  have hp := passes_of (X := XOf P w K mg base N__law_right "_law_right" (defScope st__law_right) f cdv A outer s H E) rfl
  exact (jss_cons (js_set 2 nd ((j_call h__law_is_alone (hr.mono (by decide)) tk (by rfl) (ja_cons ncl_w ((j_var 0)).sw (ja_cons ncl_w ((j_var 1)).sw ja_nil)))).sf)
    (jss_cons (js_for hp rfl (ji_range1 (st := true) m_range (ja_cons ncl_w (j_int).fw ja_nil)) (jg_name 3 nd)
      (jss_cons (js_set 4 nd ((j_call h_is_mod_whole (hr.mono (by decide)) tk (by rfl) (ja_cons ncl_w ((j_var 0)).sw (ja_cons ncl_w ((j_var 1)).sw ja_nil)))).sf)
    (jss_one (js_if (JW.t (jw_or (jt_not (jt_val ((j_isi isi_bool ((j_var 4)).sw m_isinstance m_bool (by decide +kernel))).fw)) (jw_or1 (jt_cmp (ok_ne hr.units) ((j_var 4)).sw ((j_var 2)).sw))))
      (jss_one (js_ret (j_bl).fr))
      jss_nil))))
    (jss_one (js_ret ((j_cmp (ok_eq hr.units) ((j_cmp ok_notN ((j_call h_mod_paper (hr.mono (by decide)) tk (by rfl) (ja_cons ncl_w ((j_var 0)).sw (ja_cons ncl_w ((j_var 1)).sw ja_nil)))).fw (j_non).fw)).fw ((j_var 2)).sw)).fr))))

abbrev st__law_product : Stmt := topS 31
def N__law_product : List Str := ["_law_one", "_law_other", "_law_found", "_law_k", "_law_number", "_law_j", "_law_more"]
theorem sc__law_product : FnScope N__law_product ["_law_one", "_law_other"] (defScope st__law_product) := ⟨rfl, rfl, rfl, by decide +kernel, rfl, by decide +kernel, by decide +kernel⟩
theorem w__law_product (m_enumerate : mg "enumerate" = none) (m_len : mg "len" = none) (m_max : mg "max" = none) (h__law_cut : FD P w K mg base W 1 "_law_cut" [] s__law_cut) : BodyJ P w K mg base W 1 N__law_product "_law_product" st__law_product b__law_product := by
  intro f cdv A outer s H E F0 hr
  have nd : N__law_product.Nodup := by decide +kernel
  have tk := takes_of (X := XOf P w K mg base N__law_product "_law_product" (defScope st__law_product) f cdv A outer s H E) rfl rfl rfl rfl
  have hp := passes_of (X := XOf P w K mg base N__law_product "_law_product" (defScope st__law_product) f cdv A outer s H E) rfl
  exact (jss_cons (js_setO 2 nd (j_bind okd_mul ((j_lst (ja_cons ncl_s (j_int).sf ja_nil))).fd ((j_callB (ca_max rfl) m_max (by decide +kernel) (ja_cons ncl_w (j_int).fw (ja_cons ncl_w ((j_bin ok_sub ((j_bind okd_add ((j_callB ca_len m_len (by decide +kernel) (ja_cons ncl_w ((j_var 0)).sw ja_nil))).fd ((j_callB ca_len m_len (by decide +kernel) (ja_cons ncl_w ((j_var 1)).sw ja_nil))).fd)).fw (j_int).fw)).fw ja_nil)))).fd))
    (jss_cons (js_for hp rfl (ji_enum (j_var 0) m_enumerate) (jg_tup rfl (jgs_cons (jg_name 3 nd) (jgs_cons (jg_name 4 nd) jgs_nil)))
      (jss_one (js_for hp rfl (ji_enum (j_var 1) m_enumerate) (jg_tup rfl (jgs_cons (jg_name 5 nd) (jgs_cons (jg_name 6 nd) jgs_nil)))
      (jss_one (js_seti 2 ((j_bind okd_add ((j_ixw (j_own 2) ((j_bind okd_add ((j_var 3)).sd ((j_var 5)).sd)).fw)).sd ((j_bind okd_mul ((j_var 4)).sd ((j_var 6)).sd)).fd)).sf ((j_bind okd_add ((j_var 3)).sd ((j_var 5)).sd)).fw)))))
    (jss_one (js_ret ((j_call h__law_cut (hr.mono (by decide)) tk (by rfl) (ja_cons ncl_w (j_own 2) ja_nil))).fr))))

abbrev st_law : Stmt := topS 40
def N_law : List Str := ["_law_script", "_law_m", "_law_turn", "_law_p", "_law_most", "_law_row", "_law_half", "_law_high"]
theorem sc_law : FnScope N_law ["_law_script"] (defScope st_law) := ⟨rfl, rfl, rfl, by decide +kernel, rfl, by decide +kernel, by decide +kernel⟩
theorem w_law (m_all : mg "all" = none) (m_range : mg "range" = none) (h__law_all_monic : FD P w K mg base DrW 1 "_law_all_monic" [] s__law_all_monic) (h__law_begun : FD P w K mg base DrW 2 "_law_begun" [] s__law_begun) (h__law_draw : FD P w K mg base DrW 2 "_law_draw" [] s__law_draw) (h__law_monic : FD P w K mg base DrW 3 "_law_monic" [] s__law_monic) (h__law_prime : FD P w K mg base DrW 3 "_law_prime" [] s__law_prime) (h__law_product : FD P w K mg base DrW 2 "_law_product" [] s__law_product) (h__law_rest : FD P w K mg base DrW 2 "_law_rest" [] s__law_rest) (h__law_right : FD P w K mg base DrW 8 "_law_right" [] s__law_right) : BodyJ P w K mg base DrW 8 N_law "law" st_law b_law := by
  intro f cdv A outer s H E F0 hr
  have nd : N_law.Nodup := by decide +kernel
  have tk := takes_of (X := XOf P w K mg base N_law "law" (defScope st_law) f cdv A outer s H E) rfl rfl rfl rfl
  have hp := passes_of (X := XOf P w K mg base N_law "law" (defScope st_law) f cdv A outer s H E) rfl
  exact (jss_cons (js_set 1 nd ((j_call h__law_begun (hr.mono (by decide)) tk (by rfl) (ja_cons ncl_w (j_bor 0) ja_nil))).sf)
    (jss_cons (js_for hp rfl (ji_range1 (st := true) m_range (ja_cons ncl_w (j_int).fw ja_nil)) (jg_name 2 nd)
      (jss_cons (js_set 3 nd ((j_call h__law_prime (hr.mono (by decide)) tk (by rfl) (ja_cons ncl_w ((j_var 1)).sw (ja_cons ncl_w (j_int).fw ja_nil)))).sf)
    (jss_cons (js_set 4 nd ((j_getC (kvs := [(2, 8), (3, 8), (5, 6), (7, 6), (11, 4), (13, 4)]) hr.u65 (ppi_cons (ppi_cons (ppi_cons (ppi_cons (ppi_cons (ppi_cons ppi_nil)))))) ((j_var 3)).sw (j_int).fw)).sf)
    (jss_cons (js_set 5 nd ((j_call h__law_monic (hr.mono (by decide)) tk (by rfl) (ja_cons ncl_w ((j_var 1)).sw (ja_cons ncl_w ((j_var 3)).sw (ja_cons ncl_w ((j_bind okd_add (j_int).fd ((j_call h__law_draw (hr.mono (by decide)) tk (by rfl) (ja_cons ncl_w ((j_var 1)).sw (ja_cons ncl_w ((j_var 4)).sw ja_nil)))).fd)).fw ja_nil))))).sf)
    (jss_cons (js_if (jt_cmp (ok_eq hr.units) ((j_call h__law_draw (hr.mono (by decide)) tk (by rfl) (ja_cons ncl_w ((j_var 1)).sw (ja_cons ncl_w (j_int).fw ja_nil)))).fw (j_int).fw)
      (jss_cons (js_set 6 nd ((j_bind okd_add (j_int).fd ((j_call h__law_draw (hr.mono (by decide)) tk (by rfl) (ja_cons ncl_w ((j_var 1)).sw (ja_cons ncl_w ((j_bin ok_fdiv ((j_var 4)).sw (j_int).fw)).fw ja_nil)))).fd)).sf)
    (jss_one (js_set 5 nd ((j_call h__law_rest (hr.mono (by decide)) tk (by rfl) (ja_cons ncl_w ((j_call h__law_product (hr.mono (by decide)) tk (by rfl) (ja_cons ncl_w ((j_call h__law_monic (hr.mono (by decide)) tk (by rfl) (ja_cons ncl_w ((j_var 1)).sw (ja_cons ncl_w ((j_var 3)).sw (ja_cons ncl_w ((j_var 6)).sw ja_nil))))).fw (ja_cons ncl_w ((j_call h__law_monic (hr.mono (by decide)) tk (by rfl) (ja_cons ncl_w ((j_var 1)).sw (ja_cons ncl_w ((j_var 3)).sw (ja_cons ncl_w ((j_var 6)).sw ja_nil))))).fw ja_nil)))).fw (ja_cons ncl_w ((j_var 3)).sw ja_nil)))).sf)))
      jss_nil)
    (jss_one (js_if (jt_not (jt_val ((j_call h__law_right (hr.mono (by decide)) tk (by rfl) (ja_cons ncl_w ((j_var 5)).sw (ja_cons ncl_w ((j_var 3)).sw ja_nil)))).fw))
      (jss_one (js_ret (j_bl).fr))
      jss_nil)))))))
    (jss_cons (js_asg (j_ix ((j_lst (ja_cons ncl_s ((j_tup (ja_cons ncl_s (j_int).sf (ja_cons ncl_s (j_int).sf ja_nil)))).sf (ja_cons ncl_s ((j_tup (ja_cons ncl_s (j_int).sf (ja_cons ncl_s (j_int).sf ja_nil)))).sf (ja_cons ncl_s ((j_tup (ja_cons ncl_s (j_int).sf (ja_cons ncl_s (j_int).sf ja_nil)))).sf (ja_cons ncl_s ((j_tup (ja_cons ncl_s (j_int).sf (ja_cons ncl_s (j_int).sf ja_nil)))).sf (ja_cons ncl_s ((j_tup (ja_cons ncl_s (j_int).sf (ja_cons ncl_s (j_int).sf ja_nil)))).sf (ja_cons ncl_s ((j_tup (ja_cons ncl_s (j_int).sf (ja_cons ncl_s (j_int).sf ja_nil)))).sf (ja_cons ncl_s ((j_tup (ja_cons ncl_s (j_int).sf (ja_cons ncl_s (j_int).sf ja_nil)))).sf (ja_cons ncl_s ((j_tup (ja_cons ncl_s (j_int).sf (ja_cons ncl_s (j_int).sf ja_nil)))).sf ja_nil)))))))))).sf ((j_call h__law_draw (hr.mono (by decide)) tk (by rfl) (ja_cons ncl_w ((j_var 1)).sw (ja_cons ncl_w (j_int).fw ja_nil)))).fw) (jg_tup rfl (jgs_cons (jg_name 3 nd) (jgs_cons (jg_name 7 nd) jgs_nil))))
    (jss_one (js_ret ((j_callB (ca_all rfl) m_all (by decide +kernel) (ja_cons ncl_w ((j_lc rfl nd (own := [("_law_row", 5)]) (ws := [5]) (JI.weak (ji_seq ((j_call h__law_all_monic (hr.mono (by decide)) tk (by rfl) (ja_cons ncl_w ((j_var 3)).sw (ja_cons ncl_w ((j_var 7)).sw ja_nil)))).sf)) (blkOk_by (N := N_law) (sc := defScope st_law) (by decide +kernel)) (fun _ _ _ _ _ => (jg_name 5 nd)) (fun _ _ _ _ _ => jts_nil) (fun _ _ _ _ _ => ((j_call h__law_right (hr.mono (by decide)) takes0 (by rfl) (ja_cons ncl_w ((j_var 5)).sw (ja_cons ncl_w ((j_var 3)).sw ja_nil)))).sf) (by decide))).fw ja_nil))).fr)))))

abbrev st__law_draw : Stmt := topS 28
theorem sc__law_draw : FnScope N__law_draw ["_law_m", "_law_many"] (defScope st__law_draw) := ⟨rfl, rfl, rfl, by decide +kernel, rfl, by decide +kernel, by decide +kernel⟩
theorem x__law_draw (DF : Dfn K mg "_law_draw" "_law_draw" st__law_draw ["_law_m", "_law_many"]) (hm : FD P w K mg base W0 1 "_law_mixed" [] s__law_mixed) (ml : mg "len" = none) : FD P w K mg base DrW 2 "_law_draw" [] s0__law_draw := by
  obtain ⟨f, fd, F, gf, bf⟩ := DF.ex
  obtain ⟨fm, fdm, psm, dsm, dvs, G, gm, km, bm, hd, hdd⟩ := hm
  have e0 : dvs = [] := List.length_eq_zero_iff.mp (hdd [] (fun _ => none)).length
  subst e0
  have G := hMix_of G
  refine ⟨f, fd, _, [], [], ?_, gf, F.kp, bf, .nil, fun _ _ => .nil⟩
  have S := sc__law_draw
  refine okG F S (fun vs H Q E h => ?_) fun cdv A outer s H vs Q E hr h => ?_
  · obtain ⟨F, m, ds, Qd, Zd, rz, dv, ⟨N, many, rfl, _⟩, _⟩ := h
    exact dv.length
  have hu : (A.deeper (envOfC "_law_draw" (defScope st__law_draw) s.heap.objs.size f cdv)).units + 1 < cLine := by have := hr.units; omega
  have tk := takes_of (X := XOf P w K mg base N__law_draw "_law_draw" (defScope st__law_draw) f cdv A outer s H E) rfl rfl rfl rfl
  refine ⟨_, pss_cons (ps_set (i := 2) S.nd rfl (.inl rfl) (pe_dget hu (pv 0) pe_str (fun _ _ => rfl)))
    (pss_cons (ps_dput hu (pv 0) pe_str (pe_op op_add (pv 2) pe_int) rfl)
    (pss_cons (ps_if (pt_cmpR (op_neD hr.units) (pe_dget hu (pv 0) pe_str (fun _ _ => rfl)) (pe_lst pa_nil) (nomark _))
      (pss_cons (ps_set (i := 3) S.nd rfl (.inl rfl) (pe_op op_modN (pv 2) (pe_callB call_len_seq (by rfl) ml PySem.boot_len (pa_cons (pe_dget hu (pv 0) pe_str (fun _ _ => rfl)) pa_nil))))
      (pss_cons (ps_set (i := 4) S.nd rfl (.inl rfl) (pe_ix ix_list (pe_dget hu (pv 0) pe_str (fun _ _ => rfl)) (pv 3) (fun _ _ => rfl)))
      (pss_one (ps_if (pt_cmpR op_notIn_seq (pv 4) (pe_tup (pa_cons pe_int (pa_cons (pe_un un_neg pe_int) pa_nil))) rfl)
        (pss_cons (ps_asg (pe_op op_fdivA (pv 4) (pv 1)) (pg_sub (pe_dget hu (pv 0) pe_str (fun _ _ => rfl)) (pv 3) set_list (fun _ => rfl)))
        (pss_one (ps_ret (pe_op op_modN (pv 4) (pv 1)))))
        pss_nil))))
      pss_nil)
    (pss_one (ps_ret (pe_op op_modN (pe_callG (E := fun σ cls d H' => E cls d H') (dvs := []) G (hr.mono (by decide)) (by rfl) gm km bm hd (fun σ => passAt tk σ)
      (pa_cons (pe_callG (E := fun σ cls d H' => E cls d H') (dvs := []) G (hr.mono (by decide)) (by rfl) gm km bm hd (fun σ => passAt tk σ)
        (pa_cons (pe_op op_add (pe_ix ix_list (pe_dget hu (pv 0) pe_str (fun _ _ => rfl)) (pe_op op_modN (pv 2) pe_int) (fun _ _ => rfl)) (pe_op op_mulA pe_int (pe_op op_fdivA (pv 2) pe_int))) (pa_cons (pv 2) pa_nil)))
      (pa_cons (pe_op op_add (pv 2) pe_int) pa_nil))) (pv 1)))))), ?_⟩
  exact rd_draw (mg := mg) h
abbrev st__law_begun : Stmt := topS 29
theorem sc__law_begun : FnScope N__law_begun ["_law_script"] (defScope st__law_begun) := ⟨rfl, rfl, rfl, by decide +kernel, rfl, by decide +kernel, by decide +kernel⟩
theorem x__law_begun (DF : Dfn K mg "_law_begun" "_law_begun" st__law_begun ["_law_script"]) (hm : FD P w K mg base W0 1 "_law_folded" [] s__law_folded) : FD P w K mg base DrW 2 "_law_begun" [] s0__law_begun := by
  obtain ⟨f, fd, F, gf, bf⟩ := DF.ex
  obtain ⟨fm, fdm, psm, dsm, dvs, G, gm, km, bm, hd, hdd⟩ := hm
  have e0 : dvs = [] := List.length_eq_zero_iff.mp (hdd [] (fun _ => none)).length
  subst e0
  have G := hFold_of G
  refine ⟨f, fd, _, [], [], ?_, gf, F.kp, bf, .nil, fun _ _ => .nil⟩
  have S := sc__law_begun
  refine okG F S (fun vs H Q E h => ?_) fun cdv A outer s H vs Q E hr h => ?_
  · obtain ⟨F, m, ds, Qd, Zd, rz, dv, ⟨ns, rfl, _⟩, _⟩ := h
    exact dv.length
  have hu : (A.deeper (envOfC "_law_begun" (defScope st__law_begun) s.heap.objs.size f cdv)).units + 1 < cLine := by have := hr.units; omega
  have tk := takes_of (X := XOf P w K mg base N__law_begun "_law_begun" (defScope st__law_begun) f cdv A outer s H E) rfl rfl rfl rfl
  refine ⟨_, pss_cons (ps_set (i := 1) S.nd rfl (.inl rfl) (pe_disp (pps_cons pe_str (pe_callG (E := fun σ cls d H' => E cls d H') (dvs := []) G (hr.mono (by decide)) (by rfl) gm km bm hd (fun σ => passAt tk σ) (pa_cons (pv 0) pa_nil))
      (pps_cons pe_str (pe_lst pa_nil) (pps_cons pe_str pe_int pps_nil))) rfl rfl (by decide) (by decide)))
    (pss_cons (ps_if (PW.pt (pw_and (pt_cmpR (op_neD hr.units) (pv 0) (pe_lst pa_nil) (nomark _)) (pw_and1 (pt_cmpR op_eq (pe_op op_modN (pe_ix ix_list (pv 0) pe_int (fun _ _ => rfl)) pe_int) pe_int (nomark _)))))
      (pss_one (ps_dput hu (pv 1) pe_str (pe_op op_cat (pe_lst (pa_cons (pe_op op_fdivA (pe_ix ix_list (pv 0) pe_int (fun _ _ => rfl)) pe_int) pa_nil)) (pe_slice sl_list (pv 0) (po_some pe_int) po_none)) rfl))
      pss_nil)
    (pss_one (ps_ret (pv 1)))), ?_⟩
  exact rd_begun (mg := mg) h
theorem ok_law {f : Addr} {fd : FuncData} (F : Fun K "law" "law" st_law f fd) (D__law_folded : Dfn K mg "_law_folded" "_law_folded" st__law_folded ["_law_script"]) (D__law_begun : Dfn K mg "_law_begun" "_law_begun" st__law_begun ["_law_script"]) (D__law_mixed : Dfn K mg "_law_mixed" "_law_mixed" st__law_mixed ["_law_cell", "_law_k"]) (D__law_draw : Dfn K mg "_law_draw" "_law_draw" st__law_draw ["_law_m", "_law_many"]) (D__law_prime : Dfn K mg "_law_prime" "_law_prime" st__law_prime ["_law_m", "_law_most"]) (D__law_monic : Dfn K mg "_law_monic" "_law_monic" st__law_monic ["_law_m", "_law_p", "_law_high"]) (D__law_cut : Dfn K mg "_law_cut" "_law_cut" st__law_cut ["_law_numbers"]) (D__law_rest : Dfn K mg "_law_rest" "_law_rest" st__law_rest ["_law_row", "_law_p"]) (D__law_all_monic : Dfn K mg "_law_all_monic" "_law_all_monic" st__law_all_monic ["_law_p", "_law_high"]) (D__law_back : Dfn K mg "_law_back" "_law_back" st__law_back ["_law_number", "_law_p"]) (D__law_rest_by : Dfn K mg "_law_rest_by" "_law_rest_by" st__law_rest_by ["_law_row", "_law_other", "_law_p"]) (D__law_is_alone : Dfn K mg "_law_is_alone" "_law_is_alone" st__law_is_alone ["_law_row", "_law_p"]) (D_is_whole : Dfn K mg "is_whole" "is_whole" st_is_whole ["thing"]) (D_is_prime : Dfn K mg "is_prime" "is_prime" st_is_prime ["number"]) (D_need_prime : Dfn K mg "need_prime" "need_prime" st_need_prime ["thing"]) (D_inverse : Dfn K mg "inverse" "inverse" st_inverse ["number", "p"]) (D_cut : Dfn K mg "cut" "cut" st_cut ["numbers"]) (D_parted_by : Dfn K mg "parted_by" "parted_by" st_parted_by ["row", "other", "p"]) (D_rest_row : Dfn K mg "rest_row" "rest_row" st_rest_row ["row", "m"]) (D_product_by : Dfn K mg "product_by" "product_by" st_product_by ["row", "other", "p"]) (D_power_by : Dfn K mg "power_by" "power_by" st_power_by ["row", "n", "other", "p"]) (D_powers_by : Dfn K mg "powers_by" "powers_by" st_powers_by ["row", "p"]) (D_primes_of : Dfn K mg "primes_of" "primes_of" st_primes_of ["number"]) (D_sum_by : Dfn K mg "sum_by" "sum_by" st_sum_by ["row", "other", "p"]) (D_scaled_by : Dfn K mg "scaled_by" "scaled_by" st_scaled_by ["row", "number", "p"]) (D_less_by : Dfn K mg "less_by" "less_by" st_less_by ["row", "other", "p"]) (D_joined_by : Dfn K mg "joined_by" "joined_by" st_joined_by ["row", "other", "p"]) (D_mod_paper : Dfn K mg "mod_paper" "mod_paper" st_mod_paper ["row", "p"]) (D_is_mod_whole : Dfn K mg "is_mod_whole" "is_mod_whole" st_is_mod_whole ["row", "p"]) (D__law_right : Dfn K mg "_law_right" "_law_right" st__law_right ["_law_row", "_law_p"]) (D__law_product : Dfn K mg "_law_product" "_law_product" st__law_product ["_law_one", "_law_other"]) (m_all : mg "all" = none) (m_bool : mg "bool" = none) (m_enumerate : mg "enumerate" = none) (m_int : mg "int" = none) (m_isinstance : mg "isinstance" = none) (m_len : mg "len" = none) (m_list : mg "list" = none) (m_max : mg "max" = none) (m_range : mg "range" = none) (m_reversed : mg "reversed" = none) (m_tuple : mg "tuple" = none) (m_zip : mg "zip" = none) (x_BadPrime : ExcF K mg "BadPrime") (c_MOST_PRIME : Cst K mg "MOST_PRIME" (.int 9973)) (c_X : Cst K mg "X" (.tup [(.int 0), (.int 1)])) : FnG P w K mg base (L2.CX P w) 9 f fd ["_law_script"] (spLaw K) := by
  have h__law_begun : FD P w K mg base DrW 2 "_law_begun" [] s__law_begun := x__law_begun D__law_begun (D__law_folded.go [true] sc__law_folded (w__law_folded m_enumerate m_range) vc__law_folded)
  have h__law_draw : FD P w K mg base DrW 2 "_law_draw" [] s__law_draw := x__law_draw D__law_draw (D__law_mixed.go [false, false] sc__law_mixed w__law_mixed vc__law_mixed) m_len
  have h__law_prime : FD P w K mg base DrW 3 "_law_prime" [] s__law_prime := D__law_prime.go [false, false] sc__law_prime (w__law_prime m_len h__law_draw) vc__law_prime
  have h__law_monic : FD P w K mg base DrW 3 "_law_monic" [] s__law_monic := D__law_monic.go [false, false, false] sc__law_monic (w__law_monic m_range m_tuple h__law_draw) vc__law_monic
  have h__law_cut : FD P w K mg base DrW 1 "_law_cut" [] s__law_cut := D__law_cut.go [true] sc__law_cut (w__law_cut m_len m_tuple) vc__law_cut
  have h__law_rest : FD P w K mg base DrW 2 "_law_rest" [] s__law_rest := D__law_rest.go [false, false] sc__law_rest (w__law_rest h__law_cut) vc__law_rest
  have h__law_all_monic : FD P w K mg base DrW 1 "_law_all_monic" [] s__law_all_monic := D__law_all_monic.go [false, false] sc__law_all_monic (w__law_all_monic m_range) vc__law_all_monic
  have h__law_back : FD P w K mg base DrW 1 "_law_back" [] s__law_back := D__law_back.go [false, false] sc__law_back (w__law_back ) vc__law_back
  have h__law_rest_by : FD P w K mg base DrW 2 "_law_rest_by" [] s__law_rest_by := D__law_rest_by.go [false, false, false] sc__law_rest_by (w__law_rest_by m_enumerate m_len h__law_back h__law_cut) vc__law_rest_by
  have h__law_is_alone : FD P w K mg base DrW 3 "_law_is_alone" [] s__law_is_alone := D__law_is_alone.go [false, false] sc__law_is_alone (w__law_is_alone m_len m_range h__law_all_monic h__law_rest_by) vc__law_is_alone
  have h_is_whole : FD P w K mg base DrW 1 "is_whole" [] s_numbers_is_whole := D_is_whole.go [true] sc_is_whole (w_is_whole m_bool m_int m_isinstance) vc_numbers_is_whole
  have h_is_prime : FD P w K mg base DrW 1 "is_prime" [] s_numbers_is_prime := D_is_prime.go [false] sc_is_prime (w_is_prime ) vc_numbers_is_prime
  have h_need_prime : FD P w K mg base DrW 2 "need_prime" [] s_numbers_need_prime := D_need_prime.go [true] sc_need_prime (w_need_prime c_MOST_PRIME x_BadPrime h_is_prime h_is_whole) vc_numbers_need_prime
  have h_inverse : FD P w K mg base DrW 1 "inverse" [] s_modrows_inverse := D_inverse.go [false, false] sc_inverse (w_inverse ) vc_modrows_inverse
  have h_cut : FD P w K mg base DrW 1 "cut" [] s__law_cut := D_cut.go [true] sc_cut (w_cut m_len m_tuple) vc__law_cut
  have h_parted_by : FD P w K mg base DrW 2 "parted_by" [] s_modrows_parted_by := D_parted_by.go [false, false, false] sc_parted_by (w_parted_by m_enumerate m_len m_list m_max m_range m_reversed h_cut h_inverse) vc_modrows_parted_by
  have h_rest_row : FD P w K mg base DrW 2 "rest_row" [] s_modrows_rest_row := D_rest_row.go [true, false] sc_rest_row (w_rest_row h_cut) vc_modrows_rest_row
  have h_product_by : FD P w K mg base DrW 3 "product_by" [] s_modrows_product_by := D_product_by.go [false, false, false] sc_product_by (w_product_by m_enumerate m_len h_rest_row) vc_modrows_product_by
  have h_power_by : FD P w K mg base DrW 4 "power_by" [] s_modrows_power_by := D_power_by.go [false, false, false, false] sc_power_by (w_power_by h_parted_by h_product_by) vc_modrows_power_by
  have h_powers_by : FD P w K mg base DrW 5 "powers_by" [] s_modfactors_powers_by := D_powers_by.go [false, false] sc_powers_by (w_powers_by m_len m_range m_tuple c_X h_parted_by h_power_by) vc_modfactors_powers_by
  have h_primes_of : FD P w K mg base DrW 1 "primes_of" [] s_numbers_primes_of := D_primes_of.go [false] sc_primes_of (w_primes_of ) vc_numbers_primes_of
  have h_sum_by : FD P w K mg base DrW 3 "sum_by" [] s_modrows_sum_by := D_sum_by.go [false, false, false] sc_sum_by (w_sum_by m_enumerate m_len m_max h_rest_row) vc_modrows_sum_by
  have h_scaled_by : FD P w K mg base DrW 3 "scaled_by" [] s_modrows_scaled_by := D_scaled_by.go [false, false, false] sc_scaled_by (w_scaled_by h_rest_row) vc_modrows_scaled_by
  have h_less_by : FD P w K mg base DrW 4 "less_by" [] s_modrows_less_by := D_less_by.go [false, false, false] sc_less_by (w_less_by h_scaled_by h_sum_by) vc_modrows_less_by
  have h_joined_by : FD P w K mg base DrW 5 "joined_by" [] s_modrows_joined_by := D_joined_by.go [false, false, false] sc_joined_by (w_joined_by m_tuple m_zip h_inverse h_less_by h_parted_by h_product_by h_scaled_by) vc_modrows_joined_by
  have h_mod_paper : FD P w K mg base DrW 6 "mod_paper" [] s_modfactors_mod_paper := D_mod_paper.go [false, false] sc_mod_paper (w_mod_paper m_len m_tuple c_X h_joined_by h_less_by h_need_prime h_parted_by h_powers_by h_primes_of) vc_modfactors_mod_paper
  have h_is_mod_whole : FD P w K mg base DrW 7 "is_mod_whole" [] s_modfactors_is_mod_whole := D_is_mod_whole.go [false, false] sc_is_mod_whole (w_is_mod_whole h_mod_paper) vc_modfactors_is_mod_whole
  have h__law_right : FD P w K mg base DrW 8 "_law_right" [] s__law_right := D__law_right.go [false, false] sc__law_right (w__law_right m_bool m_isinstance m_range h__law_is_alone h_is_mod_whole h_mod_paper) vc__law_right
  have h__law_product : FD P w K mg base DrW 2 "_law_product" [] s__law_product := D__law_product.go [false, false] sc__law_product (w__law_product m_enumerate m_len m_max h__law_cut) vc__law_product
  exact law_go F sc_law (w_law m_all m_range h__law_all_monic h__law_begun h__law_draw h__law_monic h__law_prime h__law_product h__law_rest h__law_right) vc_law
end
theorem r_non : RelV .non .none := rfl
theorem r_bl (b : Bool) : RelV (.bl b) (.bool b) := rfl
theorem r_int (i : Int) (t : Tok) : RelV (.int i) (.int i t) := ⟨t, rfl⟩
theorem r_str (x : Str) (t : Tok) : RelV (.str x) (.str x t) := ⟨t, rfl⟩
theorem r_ref (a : Addr) : RelV (.ref a) (.ref a) := rfl
theorem all_mk {l : PySem.W.OpenLaw} {w : World} {K : PySem.W.Frag} {h : Heap} {mg : Str → Option Value} {fa f0 f1 f2 f3 f4 f5 f6 f7 f8 f9 f10 f11 f12 f13 f14 f15 f16 f17 f18 f19 f20 f21 f22 f23 f24 f25 f26 f27 f28 f29 f30 f31 : Addr} (X : K.In h) (G : h.Ns mainGlobals mg) (hfa : mg "law" = some (.ref fa))
    {od0 an0 od1 an1 od2 an2 od3 an3 od4 an4 od5 an5 od6 an6 od7 an7 od8 an8 od9 an9 od10 an10 od11 an11 od12 an12 od13 an13 od14 an14 od15 an15 od16 an16 od17 an17 od18 an18 od19 an19 od20 an20 od21 an21 od22 an22 od23 an23 od24 an24 od25 an25 od26 an26 od27 an27 od28 an28 od29 an29 od30 an30 od31 an31 : Option Addr} {sl0 sl1 sl2 sl3 sl4 sl5 sl6 sl7 sl8 sl9 sl10 sl11 sl12 sl13 sl14 sl15 sl16 sl17 sl18 sl19 sl20 sl21 sl22 sl23 sl24 sl25 sl26 sl27 sl28 sl29 sl30 sl31 : Array (Option Value)} {oc0 kV0 dc0 pm0 ct0 cd0 oc1 kV1 dc1 pm1 ct1 cd1 oc2 kV2 dc2 pm2 ct2 cd2 oc3 kV3 dc3 pm3 ct3 cd3 oc4 kV4 dc4 pm4 ct4 cd4 oc5 kV5 dc5 pm5 ct5 cd5 oc6 kV6 dc6 pm6 ct6 cd6 oc7 kV7 dc7 pm7 ct7 cd7 oc8 kV8 dc8 pm8 ct8 cd8 oc9 kV9 dc9 pm9 ct9 cd9 oc10 kV10 dc10 pm10 ct10 cd10 oc11 kV11 dc11 pm11 ct11 cd11 oc12 kV12 dc12 pm12 ct12 cd12 oc13 kV13 dc13 pm13 ct13 cd13 oc14 kV14 dc14 pm14 ct14 cd14 oc15 kV15 dc15 pm15 ct15 cd15 oc16 kV16 dc16 pm16 ct16 cd16 oc17 kV17 dc17 pm17 ct17 cd17 oc18 kV18 dc18 pm18 ct18 cd18 oc19 kV19 dc19 pm19 ct19 cd19 oc20 kV20 dc20 pm20 ct20 cd20 oc21 kV21 dc21 pm21 ct21 cd21 oc22 kV22 dc22 pm22 ct22 cd22 oc23 kV23 dc23 pm23 ct23 cd23 oc24 kV24 dc24 pm24 ct24 cd24 oc25 kV25 dc25 pm25 ct25 cd25 oc26 kV26 dc26 pm26 ct26 cd26 oc27 kV27 dc27 pm27 ct27 cd27 oc28 kV28 dc28 pm28 ct28 cd28 oc29 kV29 dc29 pm29 ct29 cd29 oc30 kV30 dc30 pm30 ct30 cd30 oc31 kV31 dc31 pm31 ct31 cd31 : Value}
    (a0_0 : PySem.W.nsIn K mainGlobals "_law_folded" = some (some (.ref f0)))
    (l0 : K.lookup f0 = some ⟨oc0, od0, .func (PySem.W.fnOf "_law_folded" "_law_folded" (defArgs st__law_folded) (defBody st__law_folded) (defScope st__law_folded) .none kV0 dc0 pm0 an0 cd0 ct0), sl0⟩) (c0 : PySem.W.codeIn K cd0 "_law_folded" = true) (k0 : PySem.W.keepIn K (.ref f0) = true)
    (a1_0 : PySem.W.nsIn K mainGlobals "_law_begun" = some (some (.ref f1)))
    (l1 : K.lookup f1 = some ⟨oc1, od1, .func (PySem.W.fnOf "_law_begun" "_law_begun" (defArgs st__law_begun) (defBody st__law_begun) (defScope st__law_begun) .none kV1 dc1 pm1 an1 cd1 ct1), sl1⟩) (c1 : PySem.W.codeIn K cd1 "_law_begun" = true) (k1 : PySem.W.keepIn K (.ref f1) = true)
    (a2_0 : PySem.W.nsIn K mainGlobals "_law_mixed" = some (some (.ref f2)))
    (l2 : K.lookup f2 = some ⟨oc2, od2, .func (PySem.W.fnOf "_law_mixed" "_law_mixed" (defArgs st__law_mixed) (defBody st__law_mixed) (defScope st__law_mixed) .none kV2 dc2 pm2 an2 cd2 ct2), sl2⟩) (c2 : PySem.W.codeIn K cd2 "_law_mixed" = true) (k2 : PySem.W.keepIn K (.ref f2) = true)
    (a3_0 : PySem.W.nsIn K mainGlobals "_law_draw" = some (some (.ref f3)))
    (l3 : K.lookup f3 = some ⟨oc3, od3, .func (PySem.W.fnOf "_law_draw" "_law_draw" (defArgs st__law_draw) (defBody st__law_draw) (defScope st__law_draw) .none kV3 dc3 pm3 an3 cd3 ct3), sl3⟩) (c3 : PySem.W.codeIn K cd3 "_law_draw" = true) (k3 : PySem.W.keepIn K (.ref f3) = true)
    (a4_0 : PySem.W.nsIn K mainGlobals "_law_prime" = some (some (.ref f4)))
    (l4 : K.lookup f4 = some ⟨oc4, od4, .func (PySem.W.fnOf "_law_prime" "_law_prime" (defArgs st__law_prime) (defBody st__law_prime) (defScope st__law_prime) .none kV4 dc4 pm4 an4 cd4 ct4), sl4⟩) (c4 : PySem.W.codeIn K cd4 "_law_prime" = true) (k4 : PySem.W.keepIn K (.ref f4) = true)
    (a5_0 : PySem.W.nsIn K mainGlobals "_law_monic" = some (some (.ref f5)))
    (l5 : K.lookup f5 = some ⟨oc5, od5, .func (PySem.W.fnOf "_law_monic" "_law_monic" (defArgs st__law_monic) (defBody st__law_monic) (defScope st__law_monic) .none kV5 dc5 pm5 an5 cd5 ct5), sl5⟩) (c5 : PySem.W.codeIn K cd5 "_law_monic" = true) (k5 : PySem.W.keepIn K (.ref f5) = true)
    (a6_0 : PySem.W.nsIn K mainGlobals "_law_cut" = some (some (.ref f6)))
    (l6 : K.lookup f6 = some ⟨oc6, od6, .func (PySem.W.fnOf "_law_cut" "_law_cut" (defArgs st__law_cut) (defBody st__law_cut) (defScope st__law_cut) .none kV6 dc6 pm6 an6 cd6 ct6), sl6⟩) (c6 : PySem.W.codeIn K cd6 "_law_cut" = true) (k6 : PySem.W.keepIn K (.ref f6) = true)
    (a7_0 : PySem.W.nsIn K mainGlobals "_law_rest" = some (some (.ref f7)))
    (l7 : K.lookup f7 = some ⟨oc7, od7, .func (PySem.W.fnOf "_law_rest" "_law_rest" (defArgs st__law_rest) (defBody st__law_rest) (defScope st__law_rest) .none kV7 dc7 pm7 an7 cd7 ct7), sl7⟩) (c7 : PySem.W.codeIn K cd7 "_law_rest" = true) (k7 : PySem.W.keepIn K (.ref f7) = true)
    (a8_0 : PySem.W.nsIn K mainGlobals "_law_all_monic" = some (some (.ref f8)))
    (l8 : K.lookup f8 = some ⟨oc8, od8, .func (PySem.W.fnOf "_law_all_monic" "_law_all_monic" (defArgs st__law_all_monic) (defBody st__law_all_monic) (defScope st__law_all_monic) .none kV8 dc8 pm8 an8 cd8 ct8), sl8⟩) (c8 : PySem.W.codeIn K cd8 "_law_all_monic" = true) (k8 : PySem.W.keepIn K (.ref f8) = true)
    (a9_0 : PySem.W.nsIn K mainGlobals "_law_back" = some (some (.ref f9)))
    (l9 : K.lookup f9 = some ⟨oc9, od9, .func (PySem.W.fnOf "_law_back" "_law_back" (defArgs st__law_back) (defBody st__law_back) (defScope st__law_back) .none kV9 dc9 pm9 an9 cd9 ct9), sl9⟩) (c9 : PySem.W.codeIn K cd9 "_law_back" = true) (k9 : PySem.W.keepIn K (.ref f9) = true)
    (a10_0 : PySem.W.nsIn K mainGlobals "_law_rest_by" = some (some (.ref f10)))
    (l10 : K.lookup f10 = some ⟨oc10, od10, .func (PySem.W.fnOf "_law_rest_by" "_law_rest_by" (defArgs st__law_rest_by) (defBody st__law_rest_by) (defScope st__law_rest_by) .none kV10 dc10 pm10 an10 cd10 ct10), sl10⟩) (c10 : PySem.W.codeIn K cd10 "_law_rest_by" = true) (k10 : PySem.W.keepIn K (.ref f10) = true)
    (a11_0 : PySem.W.nsIn K mainGlobals "_law_is_alone" = some (some (.ref f11)))
    (l11 : K.lookup f11 = some ⟨oc11, od11, .func (PySem.W.fnOf "_law_is_alone" "_law_is_alone" (defArgs st__law_is_alone) (defBody st__law_is_alone) (defScope st__law_is_alone) .none kV11 dc11 pm11 an11 cd11 ct11), sl11⟩) (c11 : PySem.W.codeIn K cd11 "_law_is_alone" = true) (k11 : PySem.W.keepIn K (.ref f11) = true)
    (a12_0 : PySem.W.nsIn K mainGlobals "is_whole" = some (some (.ref f12)))
    (l12 : K.lookup f12 = some ⟨oc12, od12, .func (PySem.W.fnOf "is_whole" "is_whole" (defArgs st_is_whole) (defBody st_is_whole) (defScope st_is_whole) .none kV12 dc12 pm12 an12 cd12 ct12), sl12⟩) (c12 : PySem.W.codeIn K cd12 "is_whole" = true) (k12 : PySem.W.keepIn K (.ref f12) = true)
    (a13_0 : PySem.W.nsIn K mainGlobals "is_prime" = some (some (.ref f13)))
    (l13 : K.lookup f13 = some ⟨oc13, od13, .func (PySem.W.fnOf "is_prime" "is_prime" (defArgs st_is_prime) (defBody st_is_prime) (defScope st_is_prime) .none kV13 dc13 pm13 an13 cd13 ct13), sl13⟩) (c13 : PySem.W.codeIn K cd13 "is_prime" = true) (k13 : PySem.W.keepIn K (.ref f13) = true)
    (a14_0 : PySem.W.nsIn K mainGlobals "need_prime" = some (some (.ref f14)))
    (l14 : K.lookup f14 = some ⟨oc14, od14, .func (PySem.W.fnOf "need_prime" "need_prime" (defArgs st_need_prime) (defBody st_need_prime) (defScope st_need_prime) .none kV14 dc14 pm14 an14 cd14 ct14), sl14⟩) (c14 : PySem.W.codeIn K cd14 "need_prime" = true) (k14 : PySem.W.keepIn K (.ref f14) = true)
    (a15_0 : PySem.W.nsIn K mainGlobals "inverse" = some (some (.ref f15)))
    (l15 : K.lookup f15 = some ⟨oc15, od15, .func (PySem.W.fnOf "inverse" "inverse" (defArgs st_inverse) (defBody st_inverse) (defScope st_inverse) .none kV15 dc15 pm15 an15 cd15 ct15), sl15⟩) (c15 : PySem.W.codeIn K cd15 "inverse" = true) (k15 : PySem.W.keepIn K (.ref f15) = true)
    (a16_0 : PySem.W.nsIn K mainGlobals "cut" = some (some (.ref f16)))
    (l16 : K.lookup f16 = some ⟨oc16, od16, .func (PySem.W.fnOf "cut" "cut" (defArgs st_cut) (defBody st_cut) (defScope st_cut) .none kV16 dc16 pm16 an16 cd16 ct16), sl16⟩) (c16 : PySem.W.codeIn K cd16 "cut" = true) (k16 : PySem.W.keepIn K (.ref f16) = true)
    (a17_0 : PySem.W.nsIn K mainGlobals "parted_by" = some (some (.ref f17)))
    (l17 : K.lookup f17 = some ⟨oc17, od17, .func (PySem.W.fnOf "parted_by" "parted_by" (defArgs st_parted_by) (defBody st_parted_by) (defScope st_parted_by) .none kV17 dc17 pm17 an17 cd17 ct17), sl17⟩) (c17 : PySem.W.codeIn K cd17 "parted_by" = true) (k17 : PySem.W.keepIn K (.ref f17) = true)
    (a18_0 : PySem.W.nsIn K mainGlobals "rest_row" = some (some (.ref f18)))
    (l18 : K.lookup f18 = some ⟨oc18, od18, .func (PySem.W.fnOf "rest_row" "rest_row" (defArgs st_rest_row) (defBody st_rest_row) (defScope st_rest_row) .none kV18 dc18 pm18 an18 cd18 ct18), sl18⟩) (c18 : PySem.W.codeIn K cd18 "rest_row" = true) (k18 : PySem.W.keepIn K (.ref f18) = true)
    (a19_0 : PySem.W.nsIn K mainGlobals "product_by" = some (some (.ref f19)))
    (l19 : K.lookup f19 = some ⟨oc19, od19, .func (PySem.W.fnOf "product_by" "product_by" (defArgs st_product_by) (defBody st_product_by) (defScope st_product_by) .none kV19 dc19 pm19 an19 cd19 ct19), sl19⟩) (c19 : PySem.W.codeIn K cd19 "product_by" = true) (k19 : PySem.W.keepIn K (.ref f19) = true)
    (a20_0 : PySem.W.nsIn K mainGlobals "power_by" = some (some (.ref f20)))
    (l20 : K.lookup f20 = some ⟨oc20, od20, .func (PySem.W.fnOf "power_by" "power_by" (defArgs st_power_by) (defBody st_power_by) (defScope st_power_by) .none kV20 dc20 pm20 an20 cd20 ct20), sl20⟩) (c20 : PySem.W.codeIn K cd20 "power_by" = true) (k20 : PySem.W.keepIn K (.ref f20) = true)
    (a21_0 : PySem.W.nsIn K mainGlobals "powers_by" = some (some (.ref f21)))
    (l21 : K.lookup f21 = some ⟨oc21, od21, .func (PySem.W.fnOf "powers_by" "powers_by" (defArgs st_powers_by) (defBody st_powers_by) (defScope st_powers_by) .none kV21 dc21 pm21 an21 cd21 ct21), sl21⟩) (c21 : PySem.W.codeIn K cd21 "powers_by" = true) (k21 : PySem.W.keepIn K (.ref f21) = true)
    (a22_0 : PySem.W.nsIn K mainGlobals "primes_of" = some (some (.ref f22)))
    (l22 : K.lookup f22 = some ⟨oc22, od22, .func (PySem.W.fnOf "primes_of" "primes_of" (defArgs st_primes_of) (defBody st_primes_of) (defScope st_primes_of) .none kV22 dc22 pm22 an22 cd22 ct22), sl22⟩) (c22 : PySem.W.codeIn K cd22 "primes_of" = true) (k22 : PySem.W.keepIn K (.ref f22) = true)
    (a23_0 : PySem.W.nsIn K mainGlobals "sum_by" = some (some (.ref f23)))
    (l23 : K.lookup f23 = some ⟨oc23, od23, .func (PySem.W.fnOf "sum_by" "sum_by" (defArgs st_sum_by) (defBody st_sum_by) (defScope st_sum_by) .none kV23 dc23 pm23 an23 cd23 ct23), sl23⟩) (c23 : PySem.W.codeIn K cd23 "sum_by" = true) (k23 : PySem.W.keepIn K (.ref f23) = true)
    (a24_0 : PySem.W.nsIn K mainGlobals "scaled_by" = some (some (.ref f24)))
    (l24 : K.lookup f24 = some ⟨oc24, od24, .func (PySem.W.fnOf "scaled_by" "scaled_by" (defArgs st_scaled_by) (defBody st_scaled_by) (defScope st_scaled_by) .none kV24 dc24 pm24 an24 cd24 ct24), sl24⟩) (c24 : PySem.W.codeIn K cd24 "scaled_by" = true) (k24 : PySem.W.keepIn K (.ref f24) = true)
    (a25_0 : PySem.W.nsIn K mainGlobals "less_by" = some (some (.ref f25)))
    (l25 : K.lookup f25 = some ⟨oc25, od25, .func (PySem.W.fnOf "less_by" "less_by" (defArgs st_less_by) (defBody st_less_by) (defScope st_less_by) .none kV25 dc25 pm25 an25 cd25 ct25), sl25⟩) (c25 : PySem.W.codeIn K cd25 "less_by" = true) (k25 : PySem.W.keepIn K (.ref f25) = true)
    (a26_0 : PySem.W.nsIn K mainGlobals "joined_by" = some (some (.ref f26)))
    (l26 : K.lookup f26 = some ⟨oc26, od26, .func (PySem.W.fnOf "joined_by" "joined_by" (defArgs st_joined_by) (defBody st_joined_by) (defScope st_joined_by) .none kV26 dc26 pm26 an26 cd26 ct26), sl26⟩) (c26 : PySem.W.codeIn K cd26 "joined_by" = true) (k26 : PySem.W.keepIn K (.ref f26) = true)
    (a27_0 : PySem.W.nsIn K mainGlobals "mod_paper" = some (some (.ref f27)))
    (l27 : K.lookup f27 = some ⟨oc27, od27, .func (PySem.W.fnOf "mod_paper" "mod_paper" (defArgs st_mod_paper) (defBody st_mod_paper) (defScope st_mod_paper) .none kV27 dc27 pm27 an27 cd27 ct27), sl27⟩) (c27 : PySem.W.codeIn K cd27 "mod_paper" = true) (k27 : PySem.W.keepIn K (.ref f27) = true)
    (a28_0 : PySem.W.nsIn K mainGlobals "is_mod_whole" = some (some (.ref f28)))
    (l28 : K.lookup f28 = some ⟨oc28, od28, .func (PySem.W.fnOf "is_mod_whole" "is_mod_whole" (defArgs st_is_mod_whole) (defBody st_is_mod_whole) (defScope st_is_mod_whole) .none kV28 dc28 pm28 an28 cd28 ct28), sl28⟩) (c28 : PySem.W.codeIn K cd28 "is_mod_whole" = true) (k28 : PySem.W.keepIn K (.ref f28) = true)
    (a29_0 : PySem.W.nsIn K mainGlobals "_law_right" = some (some (.ref f29)))
    (l29 : K.lookup f29 = some ⟨oc29, od29, .func (PySem.W.fnOf "_law_right" "_law_right" (defArgs st__law_right) (defBody st__law_right) (defScope st__law_right) .none kV29 dc29 pm29 an29 cd29 ct29), sl29⟩) (c29 : PySem.W.codeIn K cd29 "_law_right" = true) (k29 : PySem.W.keepIn K (.ref f29) = true)
    (a30_0 : PySem.W.nsIn K mainGlobals "_law_product" = some (some (.ref f30)))
    (l30 : K.lookup f30 = some ⟨oc30, od30, .func (PySem.W.fnOf "_law_product" "_law_product" (defArgs st__law_product) (defBody st__law_product) (defScope st__law_product) .none kV30 dc30 pm30 an30 cd30 ct30), sl30⟩) (c30 : PySem.W.codeIn K cd30 "_law_product" = true) (k30 : PySem.W.keepIn K (.ref f30) = true)
    (a31_0 : PySem.W.nsIn K mainGlobals "law" = some (some (.ref f31)))
    (l31 : K.lookup f31 = some ⟨oc31, od31, .func (PySem.W.fnOf "law" "law" (defArgs st_law) (defBody st_law) (defScope st_law) .none kV31 dc31 pm31 an31 cd31 ct31), sl31⟩) (c31 : PySem.W.codeIn K cd31 "law" = true) (k31 : PySem.W.keepIn K (.ref f31) = true)
    {cE_BadPrime : Addr} (eE_BadPrime : PySem.W.nsIn K mainGlobals "BadPrime" = some (some (.ref cE_BadPrime)))
    (xE_BadPrime : PySem.W.excIn K cE_BadPrime [.type "ValueError", .type "Exception", .type "BaseException", .type "object"] "ValueError.__new__" = true) (uE_BadPrime : PySem.W.keepIn K (.ref cE_BadPrime) = true) (bE_BadPrime : PySem.W.subIn K (.ref cE_BadPrime) (.type "BaseException") = some true) (tE_BadPrime : PySem.W.typeIn K (.ref cE_BadPrime) = some (.type "type"))
    {qt0_0 : Tok} (q0 : PySem.W.nsIn K mainGlobals "MOST_PRIME" = some (some (.int 9973 qt0_0)))
    {qT1_0 : Addr} {qd1_0 : Option Addr} {qs1_0 : Array (Option Value)} {qn1_0 : Nat} {qt1_1 : Tok} {qt1_2 : Tok} (q1 : PySem.W.nsIn K mainGlobals "X" = some (some (.ref qT1_0))) (r1_0 : K.lookup qT1_0 = some ⟨.type "tuple", qd1_0, .seq #[(.int 0 qt1_1), (.int 1 qt1_2)] qn1_0, qs1_0⟩)
    (z0 : PySem.W.nsIn K mainGlobals "all" = some none) (z1 : PySem.W.nsIn K mainGlobals "bool" = some none) (z2 : PySem.W.nsIn K mainGlobals "enumerate" = some none) (z3 : PySem.W.nsIn K mainGlobals "int" = some none) (z4 : PySem.W.nsIn K mainGlobals "isinstance" = some none) (z5 : PySem.W.nsIn K mainGlobals "len" = some none) (z6 : PySem.W.nsIn K mainGlobals "list" = some none) (z7 : PySem.W.nsIn K mainGlobals "max" = some none) (z8 : PySem.W.nsIn K mainGlobals "range" = some none) (z9 : PySem.W.nsIn K mainGlobals "reversed" = some none) (z10 : PySem.W.nsIn K mainGlobals "tuple" = some none) (z11 : PySem.W.nsIn K mainGlobals "zip" = some none) :
    ∃ fd : FuncData, (∀ (s : Shared) (v : Value), BindsTo s fd ⟨[v], []⟩ [("_law_script", v)]) ∧ ∀ base : Heap, K.In base → base.Ns mainGlobals mg → FnG l.prog w K mg base (L2.CX l.prog w) 9 fa fd ["_law_script"] (spLaw K) := by
  have e := hfa.symm.trans (PySem.W.mg_of X G a31_0)
  cases e
  have D0_0 : Dfn K mg "_law_folded" "_law_folded" st__law_folded ["_law_script"] := ⟨_, _, fun_mk (st := st__law_folded) l0 c0 k0, PySem.W.mg_of X G a0_0, (fun_mk (st := st__law_folded) l0 c0 k0).binds (ps := ["_law_script"]) fun _ _ _ _ _ _ us hl => match us, hl with | [_], _ => rfl⟩
  have D1_0 : Dfn K mg "_law_begun" "_law_begun" st__law_begun ["_law_script"] := ⟨_, _, fun_mk (st := st__law_begun) l1 c1 k1, PySem.W.mg_of X G a1_0, (fun_mk (st := st__law_begun) l1 c1 k1).binds (ps := ["_law_script"]) fun _ _ _ _ _ _ us hl => match us, hl with | [_], _ => rfl⟩
  have D2_0 : Dfn K mg "_law_mixed" "_law_mixed" st__law_mixed ["_law_cell", "_law_k"] := ⟨_, _, fun_mk (st := st__law_mixed) l2 c2 k2, PySem.W.mg_of X G a2_0, (fun_mk (st := st__law_mixed) l2 c2 k2).binds (ps := ["_law_cell", "_law_k"]) fun _ _ _ _ _ _ us hl => match us, hl with | [_, _], _ => rfl⟩
  have D3_0 : Dfn K mg "_law_draw" "_law_draw" st__law_draw ["_law_m", "_law_many"] := ⟨_, _, fun_mk (st := st__law_draw) l3 c3 k3, PySem.W.mg_of X G a3_0, (fun_mk (st := st__law_draw) l3 c3 k3).binds (ps := ["_law_m", "_law_many"]) fun _ _ _ _ _ _ us hl => match us, hl with | [_, _], _ => rfl⟩
  have D4_0 : Dfn K mg "_law_prime" "_law_prime" st__law_prime ["_law_m", "_law_most"] := ⟨_, _, fun_mk (st := st__law_prime) l4 c4 k4, PySem.W.mg_of X G a4_0, (fun_mk (st := st__law_prime) l4 c4 k4).binds (ps := ["_law_m", "_law_most"]) fun _ _ _ _ _ _ us hl => match us, hl with | [_, _], _ => rfl⟩
  have D5_0 : Dfn K mg "_law_monic" "_law_monic" st__law_monic ["_law_m", "_law_p", "_law_high"] := ⟨_, _, fun_mk (st := st__law_monic) l5 c5 k5, PySem.W.mg_of X G a5_0, (fun_mk (st := st__law_monic) l5 c5 k5).binds (ps := ["_law_m", "_law_p", "_law_high"]) fun _ _ _ _ _ _ us hl => match us, hl with | [_, _, _], _ => rfl⟩
  have D6_0 : Dfn K mg "_law_cut" "_law_cut" st__law_cut ["_law_numbers"] := ⟨_, _, fun_mk (st := st__law_cut) l6 c6 k6, PySem.W.mg_of X G a6_0, (fun_mk (st := st__law_cut) l6 c6 k6).binds (ps := ["_law_numbers"]) fun _ _ _ _ _ _ us hl => match us, hl with | [_], _ => rfl⟩
  have D7_0 : Dfn K mg "_law_rest" "_law_rest" st__law_rest ["_law_row", "_law_p"] := ⟨_, _, fun_mk (st := st__law_rest) l7 c7 k7, PySem.W.mg_of X G a7_0, (fun_mk (st := st__law_rest) l7 c7 k7).binds (ps := ["_law_row", "_law_p"]) fun _ _ _ _ _ _ us hl => match us, hl with | [_, _], _ => rfl⟩
  have D8_0 : Dfn K mg "_law_all_monic" "_law_all_monic" st__law_all_monic ["_law_p", "_law_high"] := ⟨_, _, fun_mk (st := st__law_all_monic) l8 c8 k8, PySem.W.mg_of X G a8_0, (fun_mk (st := st__law_all_monic) l8 c8 k8).binds (ps := ["_law_p", "_law_high"]) fun _ _ _ _ _ _ us hl => match us, hl with | [_, _], _ => rfl⟩
  have D9_0 : Dfn K mg "_law_back" "_law_back" st__law_back ["_law_number", "_law_p"] := ⟨_, _, fun_mk (st := st__law_back) l9 c9 k9, PySem.W.mg_of X G a9_0, (fun_mk (st := st__law_back) l9 c9 k9).binds (ps := ["_law_number", "_law_p"]) fun _ _ _ _ _ _ us hl => match us, hl with | [_, _], _ => rfl⟩
  have D10_0 : Dfn K mg "_law_rest_by" "_law_rest_by" st__law_rest_by ["_law_row", "_law_other", "_law_p"] := ⟨_, _, fun_mk (st := st__law_rest_by) l10 c10 k10, PySem.W.mg_of X G a10_0, (fun_mk (st := st__law_rest_by) l10 c10 k10).binds (ps := ["_law_row", "_law_other", "_law_p"]) fun _ _ _ _ _ _ us hl => match us, hl with | [_, _, _], _ => rfl⟩
  have D11_0 : Dfn K mg "_law_is_alone" "_law_is_alone" st__law_is_alone ["_law_row", "_law_p"] := ⟨_, _, fun_mk (st := st__law_is_alone) l11 c11 k11, PySem.W.mg_of X G a11_0, (fun_mk (st := st__law_is_alone) l11 c11 k11).binds (ps := ["_law_row", "_law_p"]) fun _ _ _ _ _ _ us hl => match us, hl with | [_, _], _ => rfl⟩
  have D12_0 : Dfn K mg "is_whole" "is_whole" st_is_whole ["thing"] := ⟨_, _, fun_mk (st := st_is_whole) l12 c12 k12, PySem.W.mg_of X G a12_0, (fun_mk (st := st_is_whole) l12 c12 k12).binds (ps := ["thing"]) fun _ _ _ _ _ _ us hl => match us, hl with | [_], _ => rfl⟩
  have D13_0 : Dfn K mg "is_prime" "is_prime" st_is_prime ["number"] := ⟨_, _, fun_mk (st := st_is_prime) l13 c13 k13, PySem.W.mg_of X G a13_0, (fun_mk (st := st_is_prime) l13 c13 k13).binds (ps := ["number"]) fun _ _ _ _ _ _ us hl => match us, hl with | [_], _ => rfl⟩
  have D14_0 : Dfn K mg "need_prime" "need_prime" st_need_prime ["thing"] := ⟨_, _, fun_mk (st := st_need_prime) l14 c14 k14, PySem.W.mg_of X G a14_0, (fun_mk (st := st_need_prime) l14 c14 k14).binds (ps := ["thing"]) fun _ _ _ _ _ _ us hl => match us, hl with | [_], _ => rfl⟩
  have D15_0 : Dfn K mg "inverse" "inverse" st_inverse ["number", "p"] := ⟨_, _, fun_mk (st := st_inverse) l15 c15 k15, PySem.W.mg_of X G a15_0, (fun_mk (st := st_inverse) l15 c15 k15).binds (ps := ["number", "p"]) fun _ _ _ _ _ _ us hl => match us, hl with | [_, _], _ => rfl⟩
  have D16_0 : Dfn K mg "cut" "cut" st_cut ["numbers"] := ⟨_, _, fun_mk (st := st_cut) l16 c16 k16, PySem.W.mg_of X G a16_0, (fun_mk (st := st_cut) l16 c16 k16).binds (ps := ["numbers"]) fun _ _ _ _ _ _ us hl => match us, hl with | [_], _ => rfl⟩
  have D17_0 : Dfn K mg "parted_by" "parted_by" st_parted_by ["row", "other", "p"] := ⟨_, _, fun_mk (st := st_parted_by) l17 c17 k17, PySem.W.mg_of X G a17_0, (fun_mk (st := st_parted_by) l17 c17 k17).binds (ps := ["row", "other", "p"]) fun _ _ _ _ _ _ us hl => match us, hl with | [_, _, _], _ => rfl⟩
  have D18_0 : Dfn K mg "rest_row" "rest_row" st_rest_row ["row", "m"] := ⟨_, _, fun_mk (st := st_rest_row) l18 c18 k18, PySem.W.mg_of X G a18_0, (fun_mk (st := st_rest_row) l18 c18 k18).binds (ps := ["row", "m"]) fun _ _ _ _ _ _ us hl => match us, hl with | [_, _], _ => rfl⟩
  have D19_0 : Dfn K mg "product_by" "product_by" st_product_by ["row", "other", "p"] := ⟨_, _, fun_mk (st := st_product_by) l19 c19 k19, PySem.W.mg_of X G a19_0, (fun_mk (st := st_product_by) l19 c19 k19).binds (ps := ["row", "other", "p"]) fun _ _ _ _ _ _ us hl => match us, hl with | [_, _, _], _ => rfl⟩
  have D20_0 : Dfn K mg "power_by" "power_by" st_power_by ["row", "n", "other", "p"] := ⟨_, _, fun_mk (st := st_power_by) l20 c20 k20, PySem.W.mg_of X G a20_0, (fun_mk (st := st_power_by) l20 c20 k20).binds (ps := ["row", "n", "other", "p"]) fun _ _ _ _ _ _ us hl => match us, hl with | [_, _, _, _], _ => rfl⟩
  have D21_0 : Dfn K mg "powers_by" "powers_by" st_powers_by ["row", "p"] := ⟨_, _, fun_mk (st := st_powers_by) l21 c21 k21, PySem.W.mg_of X G a21_0, (fun_mk (st := st_powers_by) l21 c21 k21).binds (ps := ["row", "p"]) fun _ _ _ _ _ _ us hl => match us, hl with | [_, _], _ => rfl⟩
  have D22_0 : Dfn K mg "primes_of" "primes_of" st_primes_of ["number"] := ⟨_, _, fun_mk (st := st_primes_of) l22 c22 k22, PySem.W.mg_of X G a22_0, (fun_mk (st := st_primes_of) l22 c22 k22).binds (ps := ["number"]) fun _ _ _ _ _ _ us hl => match us, hl with | [_], _ => rfl⟩
  have D23_0 : Dfn K mg "sum_by" "sum_by" st_sum_by ["row", "other", "p"] := ⟨_, _, fun_mk (st := st_sum_by) l23 c23 k23, PySem.W.mg_of X G a23_0, (fun_mk (st := st_sum_by) l23 c23 k23).binds (ps := ["row", "other", "p"]) fun _ _ _ _ _ _ us hl => match us, hl with | [_, _, _], _ => rfl⟩
  have D24_0 : Dfn K mg "scaled_by" "scaled_by" st_scaled_by ["row", "number", "p"] := ⟨_, _, fun_mk (st := st_scaled_by) l24 c24 k24, PySem.W.mg_of X G a24_0, (fun_mk (st := st_scaled_by) l24 c24 k24).binds (ps := ["row", "number", "p"]) fun _ _ _ _ _ _ us hl => match us, hl with | [_, _, _], _ => rfl⟩
  have D25_0 : Dfn K mg "less_by" "less_by" st_less_by ["row", "other", "p"] := ⟨_, _, fun_mk (st := st_less_by) l25 c25 k25, PySem.W.mg_of X G a25_0, (fun_mk (st := st_less_by) l25 c25 k25).binds (ps := ["row", "other", "p"]) fun _ _ _ _ _ _ us hl => match us, hl with | [_, _, _], _ => rfl⟩
  have D26_0 : Dfn K mg "joined_by" "joined_by" st_joined_by ["row", "other", "p"] := ⟨_, _, fun_mk (st := st_joined_by) l26 c26 k26, PySem.W.mg_of X G a26_0, (fun_mk (st := st_joined_by) l26 c26 k26).binds (ps := ["row", "other", "p"]) fun _ _ _ _ _ _ us hl => match us, hl with | [_, _, _], _ => rfl⟩
  have D27_0 : Dfn K mg "mod_paper" "mod_paper" st_mod_paper ["row", "p"] := ⟨_, _, fun_mk (st := st_mod_paper) l27 c27 k27, PySem.W.mg_of X G a27_0, (fun_mk (st := st_mod_paper) l27 c27 k27).binds (ps := ["row", "p"]) fun _ _ _ _ _ _ us hl => match us, hl with | [_, _], _ => rfl⟩
  have D28_0 : Dfn K mg "is_mod_whole" "is_mod_whole" st_is_mod_whole ["row", "p"] := ⟨_, _, fun_mk (st := st_is_mod_whole) l28 c28 k28, PySem.W.mg_of X G a28_0, (fun_mk (st := st_is_mod_whole) l28 c28 k28).binds (ps := ["row", "p"]) fun _ _ _ _ _ _ us hl => match us, hl with | [_, _], _ => rfl⟩
  have D29_0 : Dfn K mg "_law_right" "_law_right" st__law_right ["_law_row", "_law_p"] := ⟨_, _, fun_mk (st := st__law_right) l29 c29 k29, PySem.W.mg_of X G a29_0, (fun_mk (st := st__law_right) l29 c29 k29).binds (ps := ["_law_row", "_law_p"]) fun _ _ _ _ _ _ us hl => match us, hl with | [_, _], _ => rfl⟩
  have D30_0 : Dfn K mg "_law_product" "_law_product" st__law_product ["_law_one", "_law_other"] := ⟨_, _, fun_mk (st := st__law_product) l30 c30 k30, PySem.W.mg_of X G a30_0, (fun_mk (st := st__law_product) l30 c30 k30).binds (ps := ["_law_one", "_law_other"]) fun _ _ _ _ _ _ us hl => match us, hl with | [_, _], _ => rfl⟩
  exact ⟨PySem.W.fnOf "law" "law" (defArgs st_law) (defBody st_law) (defScope st_law) .none kV31 dc31 pm31 an31 cd31 ct31, fun s v => .of_eq rfl, fun base _ _ => ok_law (fun_mk (st := st_law) l31 c31 k31) D0_0 D1_0 D2_0 D3_0 D4_0 D5_0 D6_0 D7_0 D8_0 D9_0 D10_0 D11_0 D12_0 D13_0 D14_0 D15_0 D16_0 D17_0 D18_0 D19_0 D20_0 D21_0 D22_0 D23_0 D24_0 D25_0 D26_0 D27_0 D28_0 D29_0 D30_0 (PySem.W.mg_none_of X G z0) (PySem.W.mg_none_of X G z1) (PySem.W.mg_none_of X G z2) (PySem.W.mg_none_of X G z3) (PySem.W.mg_none_of X G z4) (PySem.W.mg_none_of X G z5) (PySem.W.mg_none_of X G z6) (PySem.W.mg_none_of X G z7) (PySem.W.mg_none_of X G z8) (PySem.W.mg_none_of X G z9) (PySem.W.mg_none_of X G z10) (PySem.W.mg_none_of X G z11) ⟨cE_BadPrime, _, _, _, PySem.F.excBase_ValueError, PySem.W.mg_of X G eE_BadPrime, xE_BadPrime, uE_BadPrime, bE_BadPrime, tE_BadPrime⟩ ⟨_, _, PySem.W.mg_of X G q0, (r_int _ _), (.int _)⟩ ⟨_, _, PySem.W.mg_of X G q1, (r_ref _), (.tup (.inr ⟨_, _, _, r1_0, rfl, rfl, small_line (Nat.le_of_ble_eq_true rfl), (.cons (r_int _ _) (.cons (r_int _ _) .nil))⟩) (.cons (.int _) (.cons (.int _) .nil)))⟩ ⟩
end RR
open PySem PySem.W PyProof.Rows
set_option maxHeartbeats 0 in
theorem PySem.Challenge.cw_rootring_k25_rows_without_factors_holds : PySem.Challenge.rw_rootring_k25_rows_without_factors.Holds := by
  w_on; o_law; k_head; (case hw => w_witness2)
  k_fill
  refine RR.walk_ofG (l := PySem.Challenge.rw_rootring_k25_rows_without_factors) (n := 63) (k := 9) (x := "_law_script") (C := fun w => L2.CX PySem.Challenge.pw_rootring_k25_rows_without_factors w) (sp := fun w => RR.spLaw _) rfl (by decide) rfl ⟨rfl, by decide, by decide⟩ (fun w h Y => PySem.W.kIn_of Y) ?F (fun _ _ a ns hl hS => ⟨a, ns, rfl, hS, hl, fun _ => rfl⟩) (fun _ _ _ _ _ h => by obtain ⟨_, _, _, _, _, _, _, _, _, _, _, _, z⟩ := h; exact z)
  case F =>
    intro w mg fa h KX G hmg
    refine' RR.all_mk KX G hmg ?a0_0 ?l0 ?c0 ?k0 ?a1_0 ?l1 ?c1 ?k1 ?a2_0 ?l2 ?c2 ?k2 ?a3_0 ?l3 ?c3 ?k3 ?a4_0 ?l4 ?c4 ?k4 ?a5_0 ?l5 ?c5 ?k5 ?a6_0 ?l6 ?c6 ?k6 ?a7_0 ?l7 ?c7 ?k7 ?a8_0 ?l8 ?c8 ?k8 ?a9_0 ?l9 ?c9 ?k9 ?a10_0 ?l10 ?c10 ?k10 ?a11_0 ?l11 ?c11 ?k11 ?a12_0 ?l12 ?c12 ?k12 ?a13_0 ?l13 ?c13 ?k13 ?a14_0 ?l14 ?c14 ?k14 ?a15_0 ?l15 ?c15 ?k15 ?a16_0 ?l16 ?c16 ?k16 ?a17_0 ?l17 ?c17 ?k17 ?a18_0 ?l18 ?c18 ?k18 ?a19_0 ?l19 ?c19 ?k19 ?a20_0 ?l20 ?c20 ?k20 ?a21_0 ?l21 ?c21 ?k21 ?a22_0 ?l22 ?c22 ?k22 ?a23_0 ?l23 ?c23 ?k23 ?a24_0 ?l24 ?c24 ?k24 ?a25_0 ?l25 ?c25 ?k25 ?a26_0 ?l26 ?c26 ?k26 ?a27_0 ?l27 ?c27 ?k27 ?a28_0 ?l28 ?c28 ?k28 ?a29_0 ?l29 ?c29 ?k29 ?a30_0 ?l30 ?c30 ?k30 ?a31_0 ?l31 ?c31 ?k31 ?eE_BadPrime ?xE_BadPrime ?uE_BadPrime ?bE_BadPrime ?tE_BadPrime ?q0 ?q1 ?r1_0 ?z0 ?z1 ?z2 ?z3 ?z4 ?z5 ?z6 ?z7 ?z8 ?z9 ?z10 ?z11
    (case a0_0 => k_is); (case l0 => k_is); (case c0 => k_is); (case k0 => k_is); (case a1_0 => k_is); (case l1 => k_is); (case c1 => k_is); (case k1 => k_is); (case a2_0 => k_is); (case l2 => k_is); (case c2 => k_is); (case k2 => k_is); (case a3_0 => k_is); (case l3 => k_is); (case c3 => k_is); (case k3 => k_is); (case a4_0 => k_is); (case l4 => k_is); (case c4 => k_is); (case k4 => k_is); (case a5_0 => k_is); (case l5 => k_is); (case c5 => k_is); (case k5 => k_is); (case a6_0 => k_is); (case l6 => k_is); (case c6 => k_is); (case k6 => k_is); (case a7_0 => k_is); (case l7 => k_is); (case c7 => k_is); (case k7 => k_is); (case a8_0 => k_is); (case l8 => k_is); (case c8 => k_is); (case k8 => k_is); (case a9_0 => k_is); (case l9 => k_is); (case c9 => k_is); (case k9 => k_is); (case a10_0 => k_is); (case l10 => k_is); (case c10 => k_is); (case k10 => k_is); (case a11_0 => k_is); (case l11 => k_is); (case c11 => k_is); (case k11 => k_is); (case a12_0 => k_is); (case l12 => k_is); (case c12 => k_is); (case k12 => k_is); (case a13_0 => k_is); (case l13 => k_is); (case c13 => k_is); (case k13 => k_is); (case a14_0 => k_is); (case l14 => k_is); (case c14 => k_is); (case k14 => k_is); (case a15_0 => k_is); (case l15 => k_is); (case c15 => k_is); (case k15 => k_is); (case a16_0 => k_is); (case l16 => k_is); (case c16 => k_is); (case k16 => k_is); (case a17_0 => k_is); (case l17 => k_is); (case c17 => k_is); (case k17 => k_is); (case a18_0 => k_is); (case l18 => k_is); (case c18 => k_is); (case k18 => k_is); (case a19_0 => k_is); (case l19 => k_is); (case c19 => k_is); (case k19 => k_is); (case a20_0 => k_is); (case l20 => k_is); (case c20 => k_is); (case k20 => k_is); (case a21_0 => k_is); (case l21 => k_is); (case c21 => k_is); (case k21 => k_is); (case a22_0 => k_is); (case l22 => k_is); (case c22 => k_is); (case k22 => k_is); (case a23_0 => k_is); (case l23 => k_is); (case c23 => k_is); (case k23 => k_is); (case a24_0 => k_is); (case l24 => k_is); (case c24 => k_is); (case k24 => k_is); (case a25_0 => k_is); (case l25 => k_is); (case c25 => k_is); (case k25 => k_is); (case a26_0 => k_is); (case l26 => k_is); (case c26 => k_is); (case k26 => k_is); (case a27_0 => k_is); (case l27 => k_is); (case c27 => k_is); (case k27 => k_is); (case a28_0 => k_is); (case l28 => k_is); (case c28 => k_is); (case k28 => k_is); (case a29_0 => k_is); (case l29 => k_is); (case c29 => k_is); (case k29 => k_is); (case a30_0 => k_is); (case l30 => k_is); (case c30 => k_is); (case k30 => k_is); (case a31_0 => k_is); (case l31 => k_is); (case c31 => k_is); (case k31 => k_is); (case eE_BadPrime => k_is); (case xE_BadPrime => k_exc); (case uE_BadPrime => k_is); (case bE_BadPrime => k_is); (case tE_BadPrime => k_is); (case q0 => k_is); (case q1 => k_is); (case r1_0 => k_is); (case z0 => k_is); (case z1 => k_is); (case z2 => k_is); (case z3 => k_is); (case z4 => k_is); (case z5 => k_is); (case z6 => k_is); (case z7 => k_is); (case z8 => k_is); (case z9 => k_is); (case z10 => k_is); (case z11 => k_is)
