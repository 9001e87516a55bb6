import PyProof.Rows.All
import Wide.All
import OpenK.AllK
import Wide.FinOn
import HandS.CallSlots
import HandS.Conv
import HandS.ExcOwn
import HandS.ForExc
import HandS.ForMost
import HandS.IsInst
import HandS.Rev
import HandS.RevRange
import HandS.Style
import HandS.TryOnly
import HandS.TupAny
import HandS.TupMul
import HandS.Walk
import HandS.Wide
import HandS.WordsExc
import HandS.Zip
import HandS.Zip0
import PyProof.Draws
import PyProof.EnumMake
import PyProof.Draws
import PyProof.EnumMake
import PySem.Challenge.RW_rootring_k29_balanced_rows
set_option Elab.async false
set_option linter.all false
set_option maxRecDepth 100000
set_option maxHeartbeats 4000000
set_option exponentiation.threshold 20000
/-! RA: data, what it stands for in the heap, the state of a def's body as data -/
namespace RR
open PySem PySem.Spec PyProof.Rows L2

/-- data -/
inductive D where
  | non | bl (b : Bool) | int (i : Int) | str (s : Str) | tup (xs : List D) | lst (xs : List D) | hnd (n : Nat)
  deriving Inhabited

mutual
/-- no list stands within -/
def D.nl : D → Bool
  | .lst _ => false
  | .tup xs => D.nls xs
  | _ => true
def D.nls : List D → Bool
  | [] => true
  | x :: r => x.nl && D.nls r
end

def KT (K : PySem.W.Frag) (a : Addr) (xs : List V) : Prop :=
  ∃ (o : Obj) (its : Array Value) (n : Nat), K.lookup a = some o ∧ o.cls = .type "tuple" ∧ o.data = .seq its n ∧ its.size ≤ sizeLine ∧ Vals xs its.toList
def Tp (K : PySem.W.Frag) (G : Hp) (a : Addr) (xs : List V) : Prop := G a = some (.tup xs) ∨ KT K a xs
def Ls : Bool → PySem.W.Frag → Hp → Addr → List V → Prop
  | true, _, G, a, xs => G a = some (.lst xs)
  | false, K, G, a, xs => SqL K G a xs
mutual
/-- the value v is the data d; s: lists are tracked ones alone -/
inductive Dn (s : Bool) (K : PySem.W.Frag) (F : List Addr) (G : Hp) : V → D → Prop
  | non : Dn s K F G .non .non
  | bl (b : Bool) : Dn s K F G (.bl b) (.bl b)
  | int (i : Int) : Dn s K F G (.int i) (.int i)
  | str (x : Str) : Dn s K F G (.str x) (.str x)
  | tup {a : Addr} {xs : List V} {ds : List D} : Tp K G a xs → DnA s K F G xs ds → Dn s K F G (.ref a) (.tup ds)
  | lst {a : Addr} {xs : List V} {ds : List D} : Ls s K G a xs → DnA s K F G xs ds → Dn s K F G (.ref a) (.lst ds)
  | hnd {n : Nat} {a : Addr} : F[n]? = some a → Dn s K F G (.ref a) (.hnd n)
inductive DnA (s : Bool) (K : PySem.W.Frag) (F : List Addr) (G : Hp) : List V → List D → Prop
  | nil : DnA s K F G [] []
  | cons {v : V} {vs : List V} {d : D} {ds : List D} : Dn s K F G v d → DnA s K F G vs ds → DnA s K F G (v :: vs) (d :: ds)
end
section
variable {s : Bool} {K : PySem.W.Frag} {F F' : List Addr} {G G' : Hp}
theorem Tp.sq {a : Addr} {xs : List V} (h : Tp K G a xs) : SqT K G a xs := h.elim (fun h => .inl (.inl h)) .inr
theorem Ls.sq {a : Addr} {xs : List V} (h : Ls s K G a xs) : SqL K G a xs := by
  cases s with
  | true => exact .inl (.inl h)
  | false => exact h
theorem Tp.mono (hG : ∀ a xs, G a = some (.tup xs) → G' a = some (.tup xs)) {a : Addr} {xs : List V} (h : Tp K G a xs) : Tp K G' a xs := h.imp (hG a xs) id
theorem Ls.mono (hG : ∀ a o, G a = some o → G' a = some o) {a : Addr} {xs : List V} (h : Ls s K G a xs) : Ls s K G' a xs := by
  cases s with
  | true => exact hG _ _ h
  | false => exact Same.seq (H := G) (H' := G') hG h
mutual
theorem Dn.mono (hF : ∃ F1, F' = F ++ F1) (hG : ∀ a o, G a = some o → G' a = some o) : ∀ {v : V} {d : D}, Dn s K F G v d → Dn s K F' G' v d
  | _, _, .non => .non
  | _, _, .bl b => .bl b
  | _, _, .int i => .int i
  | _, _, .str x => .str x
  | _, _, .tup h r => .tup (h.mono fun a xs => hG a _) (DnA.mono hF hG r)
  | _, _, .lst h r => .lst (h.mono hG) (DnA.mono hF hG r)
  | _, _, .hnd h => .hnd (by obtain ⟨F1, rfl⟩ := hF; rw [List.getElem?_append_left (List.getElem?_eq_some_iff.mp h).1]; exact h)
theorem DnA.mono (hF : ∃ F1, F' = F ++ F1) (hG : ∀ a o, G a = some o → G' a = some o) : ∀ {vs : List V} {ds : List D}, DnA s K F G vs ds → DnA s K F' G' vs ds
  | _, _, .nil => .nil
  | _, _, .cons h r => .cons (Dn.mono hF hG h) (DnA.mono hF hG r)
end
mutual
/-- of data without lists only the tuples matter -/
theorem Dn.flat {s' : Bool} (hF : ∃ F1, F' = F ++ F1) (hG : ∀ a xs, G a = some (.tup xs) → G' a = some (.tup xs)) : ∀ {v : V} {d : D}, Dn s K F G v d → d.nl = true → Dn s' K F' G' v d
  | _, _, .non, _ => .non
  | _, _, .bl b, _ => .bl b
  | _, _, .int i, _ => .int i
  | _, _, .str x, _ => .str x
  | _, _, .tup h r, n => .tup (h.mono hG) (DnA.flat hF hG r n)
  | _, _, .lst h r, n => by cases n
  | _, _, .hnd h, _ => .hnd (by obtain ⟨F1, rfl⟩ := hF; rw [List.getElem?_append_left (List.getElem?_eq_some_iff.mp h).1]; exact h)
theorem DnA.flat {s' : Bool} (hF : ∃ F1, F' = F ++ F1) (hG : ∀ a xs, G a = some (.tup xs) → G' a = some (.tup xs)) : ∀ {vs : List V} {ds : List D}, DnA s K F G vs ds → D.nls ds = true → DnA s' K F' G' vs ds
  | _, _, .nil, _ => .nil
  | _, _, .cons h r, n => by
    rw [D.nls, Bool.and_eq_true] at n
    exact .cons (Dn.flat hF hG h n.1) (DnA.flat hF hG r n.2)
end
mutual
theorem Dn.weak : ∀ {v : V} {d : D}, Dn true K F G v d → Dn false K F G v d
  | _, _, .non => .non
  | _, _, .bl b => .bl b
  | _, _, .int i => .int i
  | _, _, .str x => .str x
  | _, _, .tup h r => .tup h (DnA.weak r)
  | _, _, .lst h r => .lst (.inl (.inl h)) (DnA.weak r)
  | _, _, .hnd h => .hnd h
theorem DnA.weak : ∀ {vs : List V} {ds : List D}, DnA true K F G vs ds → DnA false K F G vs ds
  | _, _, .nil => .nil
  | _, _, .cons h r => .cons (Dn.weak h) (DnA.weak r)
end
theorem DnA.length : ∀ {vs : List V} {ds : List D}, DnA s K F G vs ds → vs.length = ds.length
  | _, _, .nil => rfl
  | _, _, .cons _ r => congrArg (· + 1) (DnA.length r)
theorem DnA.get : ∀ {vs : List V} {ds : List D} {i : Nat} {v : V}, DnA s K F G vs ds → vs[i]? = some v → ∃ d, ds[i]? = some d ∧ Dn s K F G v d
  | _, _, _, _, .nil, e => by simp at e
  | _, _, 0, _, .cons h _, e => by simp at e; subst e; exact ⟨_, rfl, h⟩
  | _, _, i + 1, _, .cons _ r, e => by
    obtain ⟨d, h1, h2⟩ := DnA.get (i := i) r (by simpa using e)
    exact ⟨d, by simpa using h1, h2⟩
theorem DnA.getD : ∀ {vs : List V} {ds : List D} {i : Nat} {d : D}, DnA s K F G vs ds → ds[i]? = some d → ∃ v, vs[i]? = some v ∧ Dn s K F G v d
  | _, _, _, _, .nil, e => by simp at e
  | _, _, 0, _, .cons h _, e => by simp at e; subst e; exact ⟨_, rfl, h⟩
  | _, _, i + 1, _, .cons _ r, e => by
    obtain ⟨d, h1, h2⟩ := DnA.getD (i := i) r (by simpa using e)
    exact ⟨d, by simpa using h1, h2⟩
theorem DnA.app : ∀ {vs ws : List V} {ds es : List D}, DnA s K F G vs ds → DnA s K F G ws es → DnA s K F G (vs ++ ws) (ds ++ es)
  | _, _, _, _, .nil, r => r
  | _, _, _, _, .cons h t, r => .cons h (DnA.app t r)
theorem DnA.take : ∀ {vs : List V} {ds : List D} (n : Nat), DnA s K F G vs ds → DnA s K F G (vs.take n) (ds.take n)
  | _, _, 0, _ => .nil
  | _, _, _ + 1, .nil => .nil
  | _, _, n + 1, .cons h t => .cons h (DnA.take n t)
theorem DnA.drop : ∀ {vs : List V} {ds : List D} (n : Nat), DnA s K F G vs ds → DnA s K F G (vs.drop n) (ds.drop n)
  | _, _, 0, r => r
  | _, _, _ + 1, .nil => .nil
  | _, _, n + 1, .cons _ t => DnA.drop n t
theorem DnA.rev {vs : List V} {ds : List D} (h : DnA s K F G vs ds) : DnA s K F G vs.reverse ds.reverse := by
  induction vs generalizing ds with
  | nil => cases h; exact .nil
  | cons v r ih =>
    cases h with
    | cons h t =>
      rw [List.reverse_cons, List.reverse_cons]
      exact (ih t).app (.cons h .nil)
theorem DnA.set {x : V} {d : D} (r : Dn s K F G x d) : ∀ {xs : List V} {ds : List D} (i : Nat), DnA s K F G xs ds → DnA s K F G (xs.set i x) (ds.set i d)
  | _, _, _, .nil => .nil
  | _, _, 0, .cons _ t => .cons r t
  | _, _, i + 1, .cons q t => .cons q (DnA.set r i t)
theorem DnA.rep {vs : List V} {ds : List D} (h : DnA s K F G vs ds) : ∀ k : Nat, DnA s K F G (List.replicate k vs).flatten (List.replicate k ds).flatten
  | 0 => .nil
  | k + 1 => by
    rw [List.replicate_succ, List.replicate_succ, List.flatten_cons, List.flatten_cons]
    exact h.app (DnA.rep h k)
end

/-! ### views of a heap -/
noncomputable def vw (p : Addr → HO → Prop) (H : Hp) : Hp := fun a => (H a).bind fun o => open Classical in if p a o then some o else none
theorem vw_iff {p : Addr → HO → Prop} {H : Hp} {a : Addr} {o : HO} : vw p H a = some o ↔ H a = some o ∧ p a o := by
  unfold vw
  cases e : H a with
  | none => simp
  | some u =>
    simp only [Option.bind_some]
    by_cases q : p a u
    · rw [if_pos q]
      exact Iff.intro (fun z => by cases z; exact ⟨rfl, q⟩) (fun z => z.1)
    · rw [if_neg q]
      exact Iff.intro (fun z => by cases z) (fun z => by obtain ⟨z1, z2⟩ := z; cases z1; exact absurd z2 q)
def IsT : HO → Prop
  | .tup _ => True
  | _ => False
def IsL : HO → Prop
  | .lst _ => True
  | _ => False
theorem IsT.not_L {o : HO} (h : IsT o) (h' : IsL o) : False := by cases o <;> first | exact h | exact h'
/-- what a body may keep: tuples; lists that are new since H0 and not owned -/
noncomputable def sv (H0 : Hp) (Pr : Addr → Prop) (H : Hp) : Hp := vw (fun a o => IsT o ∨ (IsL o ∧ ¬ Pr a ∧ H0 a = none)) H
/-- all but the world's objects -/
noncomputable def wv (F : List Addr) (H : Hp) : Hp := vw (fun a _ => a ∉ F) H
theorem sv_le {H0 : Hp} {Pr : Addr → Prop} {H : Hp} {a : Addr} {o : HO} (h : sv H0 Pr H a = some o) : H a = some o := (vw_iff.mp h).1
theorem wv_le {F : List Addr} {H : Hp} {a : Addr} {o : HO} (h : wv F H a = some o) : H a = some o := (vw_iff.mp h).1

/-! ### the world: what stands beside the data (a law's drawing state) -/
structure Wd where
  M : Type
  Rz : M → List Addr → Hp → Prop
  keep : ∀ {m F H H'}, Rz m F H → (∀ a ∈ F, H' a = H a) → Rz m F H'
  there : ∀ {m F H}, Rz m F H → ∀ a ∈ F, ∃ o, H a = some o ∧ ¬ IsT o

/-- a name's state: not known; data; borrowed data (an argument with lists); a list of its own -/
inductive Sl where
  | un | val (d : D) | bor (d : D) | own (ds : List D)
abbrev En := List Sl

/-- the def's entry, the world, the wish about exceptions -/
structure Cn where
  W : Wd
  H0 : Hp
  F0 : List Addr
  wx : WX

structure Tr (Pr : Addr → Prop) (F : List Addr) (H : Hp) (Pr' : Addr → Prop) (F' : List Addr) (H' : Hp) : Prop where
  pre : ∃ F1, F' = F ++ F1
  prn : ∀ a, Pr' a → ¬ Pr a → H a = none
  fn : ∀ a ∈ F', a ∉ F → H a = none
  stay : ∀ a o, H a = some o → ∃ o', H' a = some o'
  keep : ∀ a o, ¬ Pr a → H a = some o → H' a = some o
/-- .. of an expression: the owned lists stay too -/
structure Te (Pr : Addr → Prop) (F : List Addr) (H : Hp) (Pr' : Addr → Prop) (F' : List Addr) (H' : Hp) : Prop extends Tr Pr F H Pr' F' H' where
  prm : ∀ a, Pr a → Pr' a
  all : ∀ a o, a ∉ F → H a = some o → H' a = some o

/-- how a name's state is held -/
def Sk (K : PySem.W.Frag) (C : Cn) (Pr : Addr → Prop) (F : List Addr) (H : Hp) (v? : Option (Option V)) : Sl → Prop
  | .un => True
  | .val d => ∃ v, v? = some (some v) ∧ Dn true K F (sv C.H0 Pr H) v d
  | .bor d => ∃ v, v? = some (some v) ∧ Dn false K C.F0 (wv C.F0 C.H0) v d
  | .own ds => ∃ p vs, v? = some (some (.ref p)) ∧ H p = some (.lst vs) ∧ Pr p ∧ p ∉ F ∧ DnA true K F (sv C.H0 Pr H) vs ds ∧ D.nls ds = true

structure SR (K : PySem.W.Frag) (C : Cn) (Pr : Addr → Prop) (F : List Addr) (σ : L2.St) (ρ : En) (m : C.W.M) (H : Hp) : Prop where
  keep : ∀ a o, a ∉ C.F0 → C.H0 a = some o → H a = some o
  pre : ∃ F1, F = C.F0 ++ F1
  new : ∀ a ∈ F, a ∉ C.F0 → C.H0 a = none
  prs : ∀ a, Pr a → ∃ o, H a = some o ∧ ¬ IsT o
  prn : ∀ a, Pr a → a ∉ F → C.H0 a = none
  prf : ∀ a ∈ F, Pr a
  rz : C.W.Rz m F H
  len : ρ.length = σ.length
  slot : ∀ (i : Nat) (s : Sl), ρ[i]? = some s → Sk K C Pr F H σ[i]? s
  dist : ∀ (i j : Nat) (ds es : List D) (p : Addr), i ≠ j → ρ[i]? = some (.own ds) → ρ[j]? = some (.own es) → σ[i]? = some (some (.ref p)) → σ[j]? = some (some (.ref p)) → False

section
variable {Pr Pr1 Pr2 : Addr → Prop} {F F1 F2 : List Addr} {H H1 H2 : Hp}
theorem pre_trans (a : ∃ G, F1 = F ++ G) (b : ∃ G, F2 = F1 ++ G) : ∃ G, F2 = F ++ G := by
  obtain ⟨x, rfl⟩ := a
  obtain ⟨y, rfl⟩ := b
  exact ⟨x ++ y, by rw [List.append_assoc]⟩
theorem pre_mem (a : ∃ G, F1 = F ++ G) {x : Addr} (h : x ∈ F) : x ∈ F1 := by
  obtain ⟨y, rfl⟩ := a
  exact List.mem_append_left _ h
theorem some_of {a : Addr} (h : ∀ o, H a = some o → ∃ o', H1 a = some o') (e : H1 a = none) : H a = none := by
  cases q : H a with
  | none => rfl
  | some o =>
    obtain ⟨o', z⟩ := h o q
    rw [e] at z; cases z
theorem Tr.refl : Tr Pr F H Pr F H := ⟨⟨[], by simp⟩, fun _ h n => absurd h n, fun _ h n => absurd h n, fun _ o h => ⟨o, h⟩, fun _ _ _ h => h⟩
theorem Te.refl : Te Pr F H Pr F H := ⟨Tr.refl, fun _ h => h, fun _ _ _ h => h⟩
theorem Tr.trans (a : Tr Pr F H Pr1 F1 H1) (b : Tr Pr1 F1 H1 Pr2 F2 H2) : Tr Pr F H Pr2 F2 H2 := by
  refine ⟨pre_trans a.pre b.pre, fun x h n => ?_, fun x h n => ?_, fun x o h => ?_, fun x o n h => ?_⟩
  · by_cases q : Pr1 x
    · exact a.prn x q n
    · exact some_of (a.stay x) (b.prn x h q)
  · by_cases q : x ∈ F1
    · exact a.fn x q n
    · exact some_of (a.stay x) (b.fn x h q)
  · obtain ⟨o', h'⟩ := a.stay x o h
    exact b.stay x o' h'
  · refine b.keep x o (fun q => ?_) (a.keep x o n h)
    have z := a.prn x q n
    rw [h] at z; cases z
theorem Te.trans (a : Te Pr F H Pr1 F1 H1) (b : Te Pr1 F1 H1 Pr2 F2 H2) : Te Pr F H Pr2 F2 H2 := by
  refine ⟨a.toTr.trans b.toTr, fun x h => b.prm x (a.prm x h), fun x o n h => b.all x o (fun q => ?_) (a.all x o n h)⟩
  have z := a.fn x q n
  rw [h] at z; cases z
/-- a strong value stays -/
theorem sv_tr {H0 : Hp} (t : Tr Pr F H Pr1 F1 H1) (hp : ∀ a, Pr a → ∃ o, H a = some o ∧ ¬ IsT o) : ∀ a o, sv H0 Pr H a = some o → sv H0 Pr1 H1 a = some o := fun a o h => by
  obtain ⟨e, q⟩ := vw_iff.mp h
  have np : ¬ Pr a := fun z => by
    rcases q with q | q
    · obtain ⟨o', e', n⟩ := hp a z
      rw [e] at e'; cases e'
      exact n q
    · exact q.2.1 z
  refine vw_iff.mpr ⟨t.keep a o np e, q.imp id fun q => ⟨q.1, fun z => ?_, q.2.2⟩⟩
  have z := t.prn a z np
  rw [e] at z; cases z
/-- a weak value stays behind an expression -/
theorem wv_te (t : Te Pr F H Pr1 F1 H1) : ∀ a o, wv F H a = some o → wv F1 H1 a = some o := fun a o h => by
  obtain ⟨e, q⟩ := vw_iff.mp h
  refine vw_iff.mpr ⟨t.all a o q e, fun z => ?_⟩
  have z := t.fn a z q
  rw [e] at z; cases z
theorem Dn.tr {K : PySem.W.Frag} {H0 : Hp} {v : V} {d : D} (t : Tr Pr F H Pr1 F1 H1) (hp : ∀ a, Pr a → ∃ o, H a = some o ∧ ¬ IsT o) (h : Dn true K F (sv H0 Pr H) v d) : Dn true K F1 (sv H0 Pr1 H1) v d :=
  h.mono t.pre (sv_tr t hp)
theorem Dn.te {K : PySem.W.Frag} {v : V} {d : D} (t : Te Pr F H Pr1 F1 H1) (h : Dn false K F (wv F H) v d) : Dn false K F1 (wv F1 H1) v d := h.mono t.pre (wv_te t)
end
end RR

/-! RB: steps of the state -/
namespace RR
open PySem PySem.Spec PyProof.Rows L2
variable {K : PySem.W.Frag} {C : Cn} {Pr Pr' : Addr → Prop} {F F' : List Addr} {σ : L2.St} {ρ : En} {m m' : C.W.M} {H H' : Hp}

theorem SR.h0 (S : SR K C Pr F σ ρ m H) {a : Addr} (e : H a = none) : a ∉ C.F0 → C.H0 a = none := fun n => by
  cases q : C.H0 a with
  | none => rfl
  | some o =>
    have z := S.keep a o n q
    rw [e] at z; cases z
theorem SR.pf0 (S : SR K C Pr F σ ρ m H) {a : Addr} (h : a ∈ C.F0) : a ∈ F := pre_mem S.pre h
theorem SR.nf {a : Addr} (S : SR K C Pr F σ ρ m H) (e : H a = none) : a ∉ F := fun z => by
  obtain ⟨o, q, _⟩ := S.prs a (S.prf a z)
  rw [e] at q; cases q
theorem SR.np {a : Addr} (S : SR K C Pr F σ ρ m H) (e : H a = none) : ¬ Pr a := fun z => by
  obtain ⟨o, q, _⟩ := S.prs a z
  rw [e] at q; cases q
theorem SR.h0n (S : SR K C Pr F σ ρ m H) {a : Addr} (e : H a = none) : C.H0 a = none := S.h0 e fun z => S.nf e (S.pf0 z)

/-- the heap has grown -/
theorem SR.te (S : SR K C Pr F σ ρ m H) (k : ∀ a o, H a = some o → H' a = some o) : Te Pr F H Pr F H' :=
  ⟨⟨⟨[], by simp⟩, fun _ h n => absurd h n, fun _ h n => absurd h n, fun a o h => ⟨o, k a o h⟩, fun a o _ h => k a o h⟩, fun _ h => h, fun a o _ h => k a o h⟩
theorem Sk.tr {v? : Option (Option V)} (hs : ∀ a, Pr a → ∃ o, H a = some o ∧ ¬ IsT o) (t : Tr Pr F H Pr' F' H') (ko : ∀ p, Pr p → p ∉ F → ∀ o, H p = some o → H' p = some o) (po : ∀ p, Pr p → p ∉ F → Pr' p) :
    ∀ {s : Sl}, Sk K C Pr F H v? s → Sk K C Pr' F' H' v? s
  | .un, _ => trivial
  | .val d, ⟨v, e, h⟩ => ⟨v, e, h.tr t hs⟩
  | .bor d, h => h
  | .own ds, ⟨p, vs, e, hp, pp, nf, h, n⟩ => ⟨p, vs, e, ko p pp nf _ hp, po p pp nf, (fun z => by
      have q := t.fn p z nf
      rw [hp] at q
      cases q), h.mono t.pre (sv_tr t hs), n⟩
theorem SR.grow (S : SR K C Pr F σ ρ m H) (k : ∀ a o, H a = some o → H' a = some o) : SR K C Pr F σ ρ m H' where
  keep := fun a o n e => k a o (S.keep a o n e)
  pre := S.pre
  new := S.new
  prs := fun a p => let ⟨o, e, n⟩ := S.prs a p; ⟨o, k a o e, n⟩
  prn := S.prn
  prf := S.prf
  rz := C.W.keep S.rz fun a h => by
    obtain ⟨o, e, _⟩ := S.prs a (S.prf a h)
    rw [e, k a o e]
  len := S.len
  slot := fun i s e => Sk.tr S.prs (S.te k).toTr (fun p _ _ o h => k p o h) (fun p h _ => h) (S.slot i s e)
  dist := S.dist
theorem SR.new1 (S : SR K C Pr F σ ρ m H) {p : Addr} {o : HO} (h : H p = none) : SR K C Pr F σ ρ m (upd H p o) ∧ Te Pr F H Pr F (upd H p o) := by
  have k : ∀ a u, H a = some u → upd H p o a = some u := fun a u e => by rw [upd_ne (ne_of_none e h)]; exact e
  exact ⟨S.grow k, S.te k⟩

/-- behind a call: the world has turned -/
theorem SR.turned (S : SR K C Pr F σ ρ m H) (rz : C.W.Rz m' F' H') (pre : ∃ G, F' = F ++ G) (fr : ∀ a ∈ F', a ∉ F → H a = none) (k : ∀ a o, a ∉ F → H a = some o → H' a = some o) :
    SR K C (fun a => Pr a ∨ a ∈ F') F' σ ρ m' H' ∧ Te Pr F H (fun a => Pr a ∨ a ∈ F') F' H' := by
  have t : Te Pr F H (fun a => Pr a ∨ a ∈ F') F' H' := by
    refine ⟨⟨pre, fun a h n => ?_, fr, fun a o h => ?_, fun a o n h => ?_⟩, fun _ h => .inl h, k⟩
    · rcases h with h | h
      · exact absurd h n
      · exact fr a h fun z => n (S.prf a z)
    · by_cases q : a ∈ F
      · obtain ⟨o', e, _⟩ := C.W.there rz a (pre_mem pre q)
        exact ⟨o', e⟩
      · exact ⟨o, k a o q h⟩
    · exact k a o (fun z => n (S.prf a z)) h
  refine ⟨⟨fun a o n e => k a o (fun z => ?_) (S.keep a o n e), pre_trans S.pre pre, fun a h n => ?_, fun a h => ?_, fun a h n => ?_, fun a h => .inr h, rz, S.len, fun i s e => Sk.tr S.prs t.toTr (fun p _ nf o h => k p o nf h) (fun p h _ => .inl h) (S.slot i s e), S.dist⟩, t⟩
  · have z := S.new a z n
    rw [e] at z; cases z
  · by_cases q : a ∈ F
    · exact S.new a q n
    · exact S.h0 (fr a h q) n
  · by_cases q : a ∈ F'
    · exact C.W.there rz a q
    · rcases h with h | h
      · obtain ⟨o, e, n⟩ := S.prs a h
        exact ⟨o, k a o (fun z => q (pre_mem pre z)) e, n⟩
      · exact absurd h q
  · rcases h with h | h
    · exact S.prn a h fun z => n (pre_mem pre z)
    · exact absurd h n

theorem get_set {α : Type} {l : List α} {i j : Nat} {x y : α} (h : (l.set i x)[j]? = some y) : (j = i ∧ y = x) ∨ (j ≠ i ∧ l[j]? = some y) := by
  by_cases e : j = i
  · subst e
    refine .inl ⟨rfl, ?_⟩
    by_cases q : j < l.length
    · rw [List.getElem?_set_self q] at h
      exact (Option.some.inj h).symm
    · rw [List.getElem?_eq_none (by simpa using Nat.le_of_not_lt q)] at h; cases h
  · rw [List.getElem?_set_ne (Ne.symm e)] at h
    exact .inr ⟨e, h⟩
theorem lt_of_set {α : Type} {l : List α} {i : Nat} {x y : α} (h : (l.set i x)[i]? = some y) : i < l.length := by
  have z := (List.getElem?_eq_some_iff.mp h).1
  simpa using z
/-- name = data -/
theorem SR.set (S : SR K C Pr F σ ρ m H) {v : V} {d : D} (i : Nat) (h : Dn true K F (sv C.H0 Pr H) v d) : SR K C Pr F (σ.set i (some v)) (ρ.set i (.val d)) m H where
  keep := S.keep
  pre := S.pre
  new := S.new
  prs := S.prs
  prn := S.prn
  prf := S.prf
  rz := S.rz
  len := by simpa using S.len
  slot := fun j s e => by
    rcases get_set e with ⟨rfl, rfl⟩ | ⟨ne, e⟩
    · have hi : j < σ.length := by rw [← S.len]; exact lt_of_set e
      exact ⟨v, by rw [List.getElem?_set_self hi], h⟩
    · rw [List.getElem?_set_ne (Ne.symm ne)]
      exact S.slot j s e
  dist := fun a b ds es p ne ea eb sa sb => by
    rcases get_set ea with ⟨rfl, q⟩ | ⟨na, ea⟩
    · cases q
    · rcases get_set eb with ⟨rfl, q⟩ | ⟨nb, eb⟩
      · cases q
      · rw [List.getElem?_set_ne (Ne.symm na)] at sa
        rw [List.getElem?_set_ne (Ne.symm nb)] at sb
        exact S.dist a b ds es p ne ea eb sa sb
/-- a name is forgotten -/
theorem SR.drop (S : SR K C Pr F σ ρ m H) (i : Nat) (x : Option V) : SR K C Pr F (σ.set i x) (ρ.set i .un) m H where
  keep := S.keep
  pre := S.pre
  new := S.new
  prs := S.prs
  prn := S.prn
  prf := S.prf
  rz := S.rz
  len := by simpa using S.len
  slot := fun j s e => by
    rcases get_set e with ⟨rfl, rfl⟩ | ⟨ne, e⟩
    · trivial
    · rw [List.getElem?_set_ne (Ne.symm ne)]
      exact S.slot j s e
  dist := fun a b ds es p ne ea eb sa sb => by
    rcases get_set ea with ⟨rfl, q⟩ | ⟨na, ea⟩
    · cases q
    · rcases get_set eb with ⟨rfl, q⟩ | ⟨nb, eb⟩
      · cases q
      · rw [List.getElem?_set_ne (Ne.symm na)] at sa
        rw [List.getElem?_set_ne (Ne.symm nb)] at sb
        exact S.dist a b ds es p ne ea eb sa sb
/-- a new list is owned: S at the start of the expression, S' at its end -/
theorem SR.owned (S : SR K C Pr F σ ρ m H) (t : Te Pr F H Pr' F' H') (S' : SR K C Pr' F' σ ρ m' H') {p : Addr} {vs : List V} {ds : List D} (i : Nat) (hn : H p = none) (hp : H' p = some (.lst vs)) (np : ¬ Pr' p)
    (h : DnA true K F' (sv C.H0 Pr' H') vs ds) (n : D.nls ds = true) :
    SR K C (fun a => Pr' a ∨ a = p) F' (σ.set i (some (.ref p))) (ρ.set i (.own ds)) m' H' ∧ Te Pr F H (fun a => Pr' a ∨ a = p) F' H' := by
  have t2 : Te Pr F H (fun a => Pr' a ∨ a = p) F' H' := by
    refine ⟨⟨t.pre, fun a h n => ?_, t.fn, t.stay, t.keep⟩, fun a h => .inl (t.prm a h), t.all⟩
    rcases h with h | rfl
    · exact t.prn a h n
    · exact hn
  have nf : p ∉ F' := fun z => np (S'.prf p z)
  have h0p : C.H0 p = none := S.h0n hn
  refine ⟨⟨S'.keep, S'.pre, S'.new, fun a ha => ?_, fun a ha n => ?_, fun a ha => .inl (S'.prf a ha), S'.rz, by simpa using S'.len, fun j s e => ?_, fun a b ds es q ne ea eb sa sb => ?_⟩, t2⟩
  · rcases ha with ha | rfl
    · exact S'.prs a ha
    · exact ⟨_, hp, fun z => z⟩
  · rcases ha with ha | rfl
    · exact S'.prn a ha n
    · exact h0p
  · rcases get_set e with ⟨rfl, rfl⟩ | ⟨ne, e⟩
    · have hi : j < σ.length := by rw [← S.len]; exact lt_of_set e
      exact ⟨p, vs, by rw [List.getElem?_set_self hi], hp, .inr rfl, nf, h.flat ⟨[], by simp⟩ (fun a xs q => vw_iff.mpr ⟨sv_le q, .inl trivial⟩) n, n⟩
    · rw [List.getElem?_set_ne (Ne.symm ne)]
      cases s with
      | un => trivial
      | bor d => exact S.slot j _ e
      | val d =>
        obtain ⟨v, e1, q⟩ := S.slot j _ e
        exact ⟨v, e1, q.tr t2.toTr S.prs⟩
      | own ds' =>
        obtain ⟨q, ws, e1, h1, h2, h3, h4, h5⟩ := S'.slot j _ e
        exact ⟨q, ws, e1, h1, .inl h2, h3, h4.flat ⟨[], by simp⟩ (fun a xs q => vw_iff.mpr ⟨sv_le q, .inl trivial⟩) h5, h5⟩
  · have own : ∀ c es', c ≠ i → ρ[c]? = some (.own es') → σ[c]? = some (some (.ref p)) → False := fun c es' nc ec sc => by
      obtain ⟨q', ws, e1, h1, h2, _⟩ := S'.slot c _ ec
      rw [sc] at e1
      cases e1
      exact np h2
    by_cases ha : a = i
    · subst ha
      have hi : a < σ.length := by rw [← S.len]; exact lt_of_set ea
      rw [List.getElem?_set_self hi] at sa
      cases sa
      rw [List.getElem?_set_ne ne] at eb sb
      exact own b _ (Ne.symm ne) eb sb
    · rw [List.getElem?_set_ne (Ne.symm ha)] at ea sa
      by_cases hb : b = i
      · subst hb
        have hi : b < σ.length := by rw [← S.len]; exact lt_of_set eb
        rw [List.getElem?_set_self hi] at sb
        cases sb
        exact own a _ ha ea sa
      · rw [List.getElem?_set_ne (Ne.symm hb)] at eb sb
        exact S.dist a b _ _ q ne ea eb sa sb
/-- an owned list is changed -/
theorem SR.change (S : SR K C Pr F σ ρ m H) {i : Nat} {p : Addr} {ds es : List D} {ws : List V} (e : ρ[i]? = some (.own ds)) (e1 : σ[i]? = some (some (.ref p))) (h : DnA true K F (sv C.H0 Pr H) ws es) (n : D.nls es = true) :
    SR K C Pr F σ (ρ.set i (.own es)) m (upd H p (.lst ws)) ∧ Tr Pr F H Pr F (upd H p (.lst ws)) := by
  obtain ⟨p', vs, e2, hp, pp, nf, h4, h5⟩ := S.slot i _ e
  rw [e1] at e2
  cases e2
  have t : Tr Pr F H Pr F (upd H p (.lst ws)) := ⟨⟨[], by simp⟩, fun _ h n => absurd h n, fun _ h n => absurd h n, fun a o h => by
    by_cases q : a = p
    · exact ⟨_, by rw [q, upd_same]⟩
    · exact ⟨o, by rw [upd_ne q]; exact h⟩, fun a o n h => by rw [upd_ne (fun q => n (by rw [q]; exact pp))]; exact h⟩
  have h0p : C.H0 p = none := S.prn p pp nf
  refine ⟨⟨fun a o n e => ?_, S.pre, S.new, fun a ha => ?_, S.prn, S.prf, C.W.keep S.rz fun a ha => upd_ne fun q => nf (q ▸ ha), by simpa using S.len, fun j s e => ?_, fun a b ds' es' q ne ea eb sa sb => ?_⟩, t⟩
  · rw [upd_ne (fun q => by rw [q, h0p] at e; cases e)]
    exact S.keep a o n e
  · by_cases q : a = p
    · exact ⟨.lst ws, by rw [q, upd_same], fun z => z⟩
    · obtain ⟨o, e, n⟩ := S.prs a ha
      exact ⟨o, by rw [upd_ne q]; exact e, n⟩
  · rcases get_set e with ⟨rfl, rfl⟩ | ⟨ne, e⟩
    · exact ⟨p, ws, e1, upd_same, pp, nf, h.mono ⟨[], by simp⟩ (sv_tr t S.prs), n⟩
    · cases s with
      | un => trivial
      | bor d => exact S.slot j _ e
      | val d =>
        obtain ⟨v, e1, q⟩ := S.slot j _ e
        exact ⟨v, e1, q.tr t S.prs⟩
      | own ds' =>
        obtain ⟨q, ws', e3, h1, h2, h3, h4, h5⟩ := S.slot j _ e
        refine ⟨q, ws', e3, ?_, h2, h3, h4.mono ⟨[], by simp⟩ (sv_tr t S.prs), h5⟩
        rw [upd_ne (fun z => ?_)]
        · exact h1
        · subst z
          exact S.dist j i _ _ _ ne e ‹ρ[i]? = some (.own ds)› e3 e1
  · have old : ∀ (c : Nat) (x : List D), (ρ.set i (.own es))[c]? = some (Sl.own x) → ∃ y, ρ[c]? = some (Sl.own y) := fun c x h => by
      rcases get_set h with ⟨q', z⟩ | ⟨_, z⟩
      · exact ⟨ds, by rw [q']; exact e⟩
      · exact ⟨x, z⟩
    obtain ⟨y, ea⟩ := old a _ ea
    obtain ⟨z, eb⟩ := old b _ eb
    exact S.dist a b y z q ne ea eb sa sb
/-- an owned list becomes data -/
theorem SR.release (S : SR K C Pr F σ ρ m H) {i : Nat} {ds : List D} (e : ρ[i]? = some (.own ds)) :
    ∃ Pr', SR K C Pr' F σ (ρ.set i (.val (.lst ds))) m H ∧ Tr Pr F H Pr' F H := by
  obtain ⟨p, vs, e1, hp, pp, nf, h4, h5⟩ := S.slot i _ e
  have h0p : C.H0 p = none := S.prn p pp nf
  have t : Tr Pr F H (fun a => Pr a ∧ a ≠ p) F H := ⟨⟨[], by simp⟩, fun _ h n => absurd h.1 n, fun _ h n => absurd h n, fun a o h => ⟨o, h⟩, fun _ _ _ h => h⟩
  refine ⟨_, ⟨S.keep, S.pre, S.new, fun a h => S.prs a h.1, fun a h n => S.prn a h.1 n, fun a h => ⟨S.prf a h, fun q => nf (q ▸ h)⟩, S.rz, by simpa using S.len, fun j s ej => ?_, fun a b ds' es' q ne ea eb sa sb => ?_⟩, t⟩
  · rcases get_set ej with ⟨rfl, rfl⟩ | ⟨ne, ej⟩
    · refine ⟨.ref p, e1, .lst (vw_iff.mpr ⟨hp, .inr ⟨trivial, fun z => z.2 rfl, h0p⟩⟩) (h4.mono ⟨[], by simp⟩ (sv_tr t S.prs))⟩
    · cases s with
      | un => trivial
      | bor d => exact S.slot j _ ej
      | val d =>
        obtain ⟨v, e1, q⟩ := S.slot j _ ej
        exact ⟨v, e1, q.tr t S.prs⟩
      | own ds' =>
        obtain ⟨q, ws', e3, h1, h2, h3, h4, h5⟩ := S.slot j _ ej
        refine ⟨q, ws', e3, h1, ⟨h2, fun z => ?_⟩, h3, h4.mono ⟨[], by simp⟩ (sv_tr t S.prs), h5⟩
        subst z
        exact S.dist j i _ _ _ ne ej e e3 e1
  · rcases get_set ea with ⟨rfl, z⟩ | ⟨na, ea⟩
    · cases z
    · rcases get_set eb with ⟨rfl, z⟩ | ⟨nb, eb⟩
      · cases z
      · exact S.dist a b _ _ q ne ea eb sa sb

/-- names forgotten -/
def wipeD (ρ : En) : List Nat → En
  | [] => ρ
  | i :: r => (wipeD ρ r).set i .un
theorem SR.wipe : ∀ (vs : List Nat) {σ : L2.St} {ρ : En}, SR K C Pr F σ ρ m H → SR K C Pr F (L2.wipe σ vs) (wipeD ρ vs) m H
  | [], _, _, S => S
  | i :: r, σ, ρ, S => by
    unfold L2.wipe wipeD
    exact (SR.wipe r S).drop i none
/-- behind expressions over fewer names all of them are as they were -/
theorem SR.back {σ' : L2.St} {ρ' : En} (S : SR K C Pr F σ ρ m H) (t : Te Pr F H Pr' F' H') (S' : SR K C Pr' F' σ' ρ' m' H') : SR K C Pr' F' σ ρ m' H' where
  keep := S'.keep
  pre := S'.pre
  new := S'.new
  prs := S'.prs
  prn := S'.prn
  prf := S'.prf
  rz := S'.rz
  len := S.len
  slot := fun i s e => Sk.tr S.prs t.toTr (fun p _ nf o h => t.all p o nf h) (fun p h _ => t.prm p h) (S.slot i s e)
  dist := S.dist
end RR

/-! RC: judgements over data: expressions -/
namespace RR
open PySem PySem.Spec PyProof.Rows L2

/-- a reading over data: of the names' states and the world what is wanted of the answer and of a refusal -/
abbrev DT (M : Type) := En → M → (D → M → Prop) → (Str → M → Prop) → Prop
abbrev DTT (M : Type) := En → M → (Bool → M → Prop) → (Str → M → Prop) → Prop
abbrev DTA (M : Type) := En → M → (List D → M → Prop) → (Str → M → Prop) → Prop

/-- how an answer is held: w for a look; s to be kept; f to be kept, a list being new; r to be handed back -/
inductive Cl where
  | w | s | f | r

def Dv (K : PySem.W.Frag) (C : Cn) : Cl → (Addr → Prop) → List Addr → Hp → Hp → V → D → Prop
  | .w, _, F', _, H', v, d => Dn false K F' (wv F' H') v d
  | .s, Pr', F', _, H', v, d => Dn true K F' (sv C.H0 Pr' H') v d
  | .r, _, F', _, H', v, d => Dn true K F' (sv C.H0 (· ∈ F') H') v d
  | .f, Pr', F', H, H', v, d => Dn true K F' (sv C.H0 Pr' H') v d ∧ ∀ ds, d = .lst ds → ∃ p vs, v = .ref p ∧ H p = none ∧ ¬ Pr' p ∧ H' p = some (.lst vs) ∧ DnA true K F' (sv C.H0 Pr' H') vs ds
def DvA (K : PySem.W.Frag) (C : Cn) : Cl → (Addr → Prop) → List Addr → Hp → List V → List D → Prop
  | .w, _, F', H', v, d => DnA false K F' (wv F' H') v d
  | .r, _, F', H', v, d => DnA true K F' (sv C.H0 (· ∈ F') H') v d
  | _, Pr', F', H', v, d => DnA true K F' (sv C.H0 Pr' H') v d

def Post (K : PySem.W.Frag) (C : Cn) (c : Cl) (Pr : Addr → Prop) (F : List Addr) (H : Hp) (σ : L2.St) (ρ : En) (Q : D → C.W.M → Prop) : VK := fun v H' =>
  ∃ Pr' F' m' d, SR K C Pr' F' σ ρ m' H' ∧ Te Pr F H Pr' F' H' ∧ Dv K C c Pr' F' H H' v d ∧ Q d m'
def PostA (K : PySem.W.Frag) (C : Cn) (c : Cl) (Pr : Addr → Prop) (F : List Addr) (H : Hp) (σ : L2.St) (ρ : En) (Q : List D → C.W.M → Prop) : List V → Hp → Prop := fun vs H' =>
  ∃ Pr' F' m' ds, SR K C Pr' F' σ ρ m' H' ∧ Te Pr F H Pr' F' H' ∧ DvA K C c Pr' F' H' vs ds ∧ Q ds m'
def PostT (K : PySem.W.Frag) (C : Cn) (Pr : Addr → Prop) (F : List Addr) (H : Hp) (σ : L2.St) (ρ : En) (Q : Bool → C.W.M → Prop) : Bool → Hp → Prop := fun b H' =>
  ∃ Pr' F' m', SR K C Pr' F' σ ρ m' H' ∧ Te Pr F H Pr' F' H' ∧ Q b m'
/-- a refusal by the class of the name x is taken -/
def Ex (X : Cx) (C : Cn) (Pr : Addr → Prop) (F : List Addr) (H : Hp) (σ : L2.St) (Z : Str → C.W.M → Prop) : Prop :=
  ∀ x cls Pr' F' m' H' ρ', X.mg x = some cls → SR X.K C Pr' F' σ ρ' m' H' → Tr Pr F H Pr' F' H' → Z x m' → C.wx cls none σ H'

def J (c : Cl) (X : Cx) (C : Cn) (e : Expr) (t : DT C.W.M) : Prop := ∃ te, PE X e te ∧
  ∀ σ H Pr F ρ m Q Z (R : VK), SR X.K C Pr F σ ρ m H → Ex X C Pr F H σ Z → t ρ m Q Z → (∀ v H', Post X.K C c Pr F H σ ρ Q v H' → R v H') → te σ H R
def JT (X : Cx) (C : Cn) (e : Expr) (t : DTT C.W.M) : Prop := ∃ te, PT X e te ∧
  ∀ σ H Pr F ρ m Q Z (R : Bool → Hp → Prop), SR X.K C Pr F σ ρ m H → Ex X C Pr F H σ Z → t ρ m Q Z → (∀ v H', PostT X.K C Pr F H σ ρ Q v H' → R v H') → te σ H R
def JW (X : Cx) (C : Cn) (e : Expr) (t : DTT C.W.M) : Prop := ∃ te, PW X e te ∧
  ∀ σ H Pr F ρ m Q Z (R : Bool → Hp → Prop), SR X.K C Pr F σ ρ m H → Ex X C Pr F H σ Z → t ρ m Q Z → (∀ v H', PostT X.K C Pr F H σ ρ Q v H' → R v H') → te σ H R
def JA (c : Cl) (X : Cx) (C : Cn) (es : List Expr) (t : DTA C.W.M) : Prop := ∃ te, PA X es te ∧
  ∀ σ H Pr F ρ m Q Z (R : List V → Hp → Prop), SR X.K C Pr F σ ρ m H → Ex X C Pr F H σ Z → t ρ m Q Z → (∀ v H', PostA X.K C c Pr F H σ ρ Q v H' → R v H') → te σ H R

/-! ### moving answers -/
section
variable {K : PySem.W.Frag} {C : Cn} {Pr Pr' Pr2 : Addr → Prop} {F F' F2 : List Addr} {σ : L2.St} {ρ : En} {m m' : C.W.M} {H H' H2 : Hp} {v : V} {d : D} {vs : List V} {ds : List D}
theorem SR.sv_wv (S : SR K C Pr F σ ρ m H) : ∀ a o, sv C.H0 Pr H a = some o → wv F H a = some o := fun a o h => by
  obtain ⟨e, q⟩ := vw_iff.mp h
  refine vw_iff.mpr ⟨e, fun z => ?_⟩
  rcases q with q | q
  · obtain ⟨o', e', n⟩ := S.prs a (S.prf a z)
    rw [e] at e'; cases e'
    exact n q
  · exact q.2.1 (S.prf a z)
theorem SR.sv_rv (S : SR K C Pr F σ ρ m H) : ∀ a o, sv C.H0 Pr H a = some o → sv C.H0 (· ∈ F) H a = some o := fun a o h => by
  obtain ⟨e, q⟩ := vw_iff.mp h
  exact vw_iff.mpr ⟨e, q.imp id fun q => ⟨q.1, fun z => q.2.1 (S.prf a z), q.2.2⟩⟩
theorem rv_te {H0 : Hp} (t : Te Pr F H Pr' F' H') (ht : ∀ a ∈ F, ∃ o, H a = some o ∧ ¬ IsT o) : ∀ a o, sv H0 (· ∈ F) H a = some o → sv H0 (· ∈ F') H' a = some o := fun a o h => by
  obtain ⟨e, q⟩ := vw_iff.mp h
  have nf : a ∉ F := fun z => by
    rcases q with q | q
    · obtain ⟨o', e', n⟩ := ht a z
      rw [e] at e'; cases e'
      exact n q
    · exact q.2.1 z
  refine vw_iff.mpr ⟨t.all a o nf e, q.imp id fun q => ⟨q.1, fun z => ?_, q.2.2⟩⟩
  have z := t.fn a z nf
  rw [e] at z; cases z
theorem Dv.sw (S : SR K C Pr' F' σ ρ m H') (h : Dv K C .s Pr' F' H H' v d) : Dv K C .w Pr' F' H H' v d := Dn.weak (Dn.mono ⟨[], by simp⟩ S.sv_wv (show Dn true K F' (sv C.H0 Pr' H') v d from h))
theorem Dv.sr (S : SR K C Pr' F' σ ρ m H') (h : Dv K C .s Pr' F' H H' v d) : Dv K C .r Pr' F' H H' v d := Dn.mono ⟨[], by simp⟩ S.sv_rv (show Dn true K F' (sv C.H0 Pr' H') v d from h)
theorem Dv.fs (h : Dv K C .f Pr' F' H H' v d) : Dv K C .s Pr' F' H H' v d := h.1
theorem Post.imp {c c' : Cl} {Q : D → C.W.M → Prop} (h : Post K C c Pr F H σ ρ Q v H') (i : ∀ Pr' F' m' d, SR K C Pr' F' σ ρ m' H' → Dv K C c Pr' F' H H' v d → Dv K C c' Pr' F' H H' v d) : Post K C c' Pr F H σ ρ Q v H' := by
  obtain ⟨Pr', F', m', d, S, t, q, r⟩ := h
  exact ⟨Pr', F', m', d, S, t, i _ _ _ _ S q, r⟩
/-- an answer behind a further expression -/
theorem Dv.te {c : Cl} (hc : c ≠ .f) (S : SR K C Pr F σ ρ m H) (t : Te Pr F H Pr' F' H') {Ha Hb : Hp} (h : Dv K C c Pr F Ha H v d) : Dv K C c Pr' F' Hb H' v d := by
  cases c with
  | w => exact Dn.te t h
  | s => exact Dn.tr t.toTr S.prs h
  | r => exact Dn.mono t.pre (rv_te t fun a z => S.prs a (S.prf a z)) h
  | f => exact absurd rfl hc
theorem DvA.cons {c : Cl} (hc : c ≠ .f) {Ha : Hp} (h : Dv K C c Pr F Ha H v d) (r : DvA K C c Pr F H vs ds) : DvA K C c Pr F H (v :: vs) (d :: ds) := by
  cases c with
  | w => exact DnA.cons h r
  | s => exact DnA.cons h r
  | r => exact DnA.cons h r
  | f => exact absurd rfl hc
theorem Ex.te {X : Cx} {Z : Str → C.W.M → Prop} (h : Ex X C Pr F H σ Z) (t : Tr Pr F H Pr' F' H') : Ex X C Pr' F' H' σ Z := fun x cls P2 F2 m2 H2 ρ2 e S t2 z => h x cls P2 F2 m2 H2 ρ2 e S (t.trans t2) z
theorem Post.te {c : Cl} {Q : D → C.W.M → Prop} (t : Te Pr F H Pr' F' H') (h : Post K C c Pr' F' H' σ ρ Q v H2) : Post K C c Pr F H σ ρ Q v H2 := by
  obtain ⟨P2, F2, m2, d, S, t2, q, r⟩ := h
  refine ⟨P2, F2, m2, d, S, t.trans t2, ?_, r⟩
  cases c with
  | w => exact q
  | s => exact q
  | r => exact q
  | f =>
    refine ⟨q.1, fun ds e => ?_⟩
    obtain ⟨p, vs, e1, e2, e3⟩ := q.2 ds e
    exact ⟨p, vs, e1, some_of (t.stay p) e2, e3⟩
theorem PostA.te {c : Cl} {Q : List D → C.W.M → Prop} (t : Te Pr F H Pr' F' H') (h : PostA K C c Pr' F' H' σ ρ Q vs H2) : PostA K C c Pr F H σ ρ Q vs H2 := by
  obtain ⟨P2, F2, m2, d, S, t2, q, r⟩ := h
  exact ⟨P2, F2, m2, d, S, t.trans t2, q, r⟩
theorem PostT.te {Q : Bool → C.W.M → Prop} {b : Bool} (t : Te Pr F H Pr' F' H') (h : PostT K C Pr' F' H' σ ρ Q b H2) : PostT K C Pr F H σ ρ Q b H2 := by
  obtain ⟨P2, F2, m2, S, t2, r⟩ := h
  exact ⟨P2, F2, m2, S, t.trans t2, r⟩
/-- data without a list, as an answer of any kind -/
theorem dv_flat (S : SR K C Pr' F' σ ρ m H') (h : Dn true K F' (sv C.H0 Pr' H') v d) (n : ∀ ds, d ≠ .lst ds) : Dv K C .f Pr' F' H H' v d := ⟨h, fun ds e => absurd e (n ds)⟩
end

section
variable {X : Cx} {C : Cn} {e : Expr} {es : List Expr} {pos : Pos}
theorem J.up {c c' : Cl} {t : DT C.W.M} (h : J c X C e t) (i : ∀ Pr' F' m' d H H' v σ ρ, SR X.K C Pr' F' σ ρ m' H' → Dv X.K C c Pr' F' H H' v d → Dv X.K C c' Pr' F' H H' v d) : J c' X C e t := by
  obtain ⟨te, p, q⟩ := h
  exact ⟨te, p, fun σ H Pr F ρ m Q Z R S E h k => q σ H Pr F ρ m Q Z R S E h fun v H' z => k v H' (z.imp fun _ _ _ _ S => i _ _ _ _ _ _ _ _ _ S)⟩
theorem J.sf {t : DT C.W.M} (h : J .f X C e t) : J .s X C e t := h.up fun _ _ _ _ _ _ _ _ _ S q => q.fs
theorem J.sw {t : DT C.W.M} (h : J .s X C e t) : J .w X C e t := h.up fun _ _ _ _ _ _ _ _ _ S q => q.sw S
theorem J.sr {t : DT C.W.M} (h : J .s X C e t) : J .r X C e t := h.up fun _ _ _ _ _ _ _ _ _ S q => q.sr S
theorem J.fw {t : DT C.W.M} (h : J .f X C e t) : J .w X C e t := h.sf.sw
theorem J.fr {t : DT C.W.M} (h : J .f X C e t) : J .r X C e t := h.sf.sr

/-! ### names and constants -/
def dVar {M : Type} (i : Nat) : DT M := fun ρ m Q _ => match ρ[i]? with | some (.val d) => Q d m | _ => False
def dBor {M : Type} (i : Nat) : DT M := fun ρ m Q _ => match ρ[i]? with | some (.bor d) => Q d m | _ => False
def dOwn {M : Type} (i : Nat) : DT M := fun ρ m Q _ => match ρ[i]? with | some (.own ds) => Q (.lst ds) m | _ => False
def dC {M : Type} (d : D) : DT M := fun _ m Q _ => Q d m
theorem j_var (i : Nat) {x : Str} (hN : X.N[i]? = some x := by rfl) (hv : Vis X.env.scope x := by first | exact Or.inl rfl | exact Or.inr (Or.inl rfl) | exact Or.inr (Or.inr rfl)) (hd : (x == ("__debug__" : Str)) = false := by decide)
    (hcd : (x == ("__classdict__" : Str)) = false := by decide) : J .s X C (.Name x pos) (dVar i) := by
  refine ⟨_, pe_var hN hv hd hcd, fun σ H Pr F ρ m Q Z R S E h k => ?_⟩
  unfold dVar at h
  split at h
  · rename_i d e
    obtain ⟨v, e1, q⟩ := S.slot i _ e
    exact ⟨v, e1, k _ _ ⟨Pr, F, m, d, S, Te.refl, q, h⟩⟩
  · exact h.elim
theorem j_bor (i : Nat) {x : Str} (hN : X.N[i]? = some x := by rfl) (hv : Vis X.env.scope x := by first | exact Or.inl rfl | exact Or.inr (Or.inl rfl) | exact Or.inr (Or.inr rfl)) (hd : (x == ("__debug__" : Str)) = false := by decide)
    (hcd : (x == ("__classdict__" : Str)) = false := by decide) : J .w X C (.Name x pos) (dBor i) := by
  refine ⟨_, pe_var hN hv hd hcd, fun σ H Pr F ρ m Q Z R S E h k => ?_⟩
  unfold dBor at h
  split at h
  · rename_i d e
    obtain ⟨v, e1, q⟩ := S.slot i _ e
    refine ⟨v, e1, k _ _ ⟨Pr, F, m, d, S, Te.refl, q.mono S.pre fun a o z => ?_, h⟩⟩
    obtain ⟨e, n⟩ := vw_iff.mp z
    refine vw_iff.mpr ⟨S.keep a o n e, fun z => ?_⟩
    rw [S.new a z n] at e; cases e
  · exact h.elim
theorem j_own (i : Nat) {x : Str} (hN : X.N[i]? = some x := by rfl) (hv : Vis X.env.scope x := by first | exact Or.inl rfl | exact Or.inr (Or.inl rfl) | exact Or.inr (Or.inr rfl)) (hd : (x == ("__debug__" : Str)) = false := by decide)
    (hcd : (x == ("__classdict__" : Str)) = false := by decide) : J .w X C (.Name x pos) (dOwn i) := by
  refine ⟨_, pe_var hN hv hd hcd, fun σ H Pr F ρ m Q Z R S E h k => ?_⟩
  unfold dOwn at h
  split at h
  · rename_i d e
    obtain ⟨p, vs, e1, hp, pp, nf, q, n⟩ := S.slot i _ e
    exact ⟨.ref p, e1, k _ _ ⟨Pr, F, m, .lst d, S, Te.refl, .lst (.inl (.inl (vw_iff.mpr ⟨hp, nf⟩))) (q.mono ⟨[], by simp⟩ S.sv_wv).weak, h⟩⟩
  · exact h.elim
/-- .. handed back -/
theorem j_ownr (i : Nat) {x : Str} (hN : X.N[i]? = some x := by rfl) (hv : Vis X.env.scope x := by first | exact Or.inl rfl | exact Or.inr (Or.inl rfl) | exact Or.inr (Or.inr rfl)) (hd : (x == ("__debug__" : Str)) = false := by decide)
    (hcd : (x == ("__classdict__" : Str)) = false := by decide) : J .r X C (.Name x pos) (dOwn i) := by
  refine ⟨_, pe_var hN hv hd hcd, fun σ H Pr F ρ m Q Z R S E h k => ?_⟩
  unfold dOwn at h
  split at h
  · rename_i d e
    obtain ⟨p, vs, e1, hp, pp, nf, q, n⟩ := S.slot i _ e
    exact ⟨.ref p, e1, k _ _ ⟨Pr, F, m, .lst d, S, Te.refl, .lst (vw_iff.mpr ⟨hp, .inr ⟨trivial, nf, S.prn p pp nf⟩⟩) (q.mono ⟨[], by simp⟩ S.sv_rv), h⟩⟩
  · exact h.elim
theorem j_cst {te : V} {d : D} (p : PE X e (tC te)) (h : ∀ F G, Dn true X.K F G te d) (n : ∀ ds, d ≠ .lst ds) : J .f X C e (dC d) :=
  ⟨_, p, fun σ H Pr F ρ m Q Z R S E q k => k _ _ ⟨Pr, F, m, d, S, Te.refl, dv_flat S (h _ _) n, q⟩⟩
theorem j_int {i j} : J .f X C (.Constant (.int i) j pos) (dC (.int i)) := j_cst pe_int (fun _ _ => .int i) (fun _ h => nomatch h)
theorem j_bl {b j} : J .f X C (.Constant (.bool b) j pos) (dC (.bl b)) := j_cst pe_bl (fun _ _ => .bl b) (fun _ h => nomatch h)
theorem j_non {j} : J .f X C (.Constant .none j pos) (dC .non) := j_cst pe_non (fun _ _ => .non) (fun _ h => nomatch h)
theorem j_str {x j} : J .f X C (.Constant (.str x) j pos) (dC (.str x)) := j_cst pe_str (fun _ _ => .str x) (fun _ h => nomatch h)
/-- a constant of the module -/
def Cst (K : PySem.W.Frag) (mg : Str → Option Value) (x : Str) (d : D) : Prop := ∃ u v, mg x = some u ∧ RelV v u ∧ Dn true K [] (fun _ => none) v d
theorem j_glob {x : Str} {d : D} (hg : Gl X x) (h : Cst X.K X.mg x d) (hd : (x == ("__debug__" : Str)) = false := by decide) : J .f X C (.Name x pos) (dC d) := by
  obtain ⟨u, v, hm, r, q⟩ := h
  refine j_cst (pe_glob hg hm r hd) (fun F G => q.mono ⟨F, by simp⟩ fun a o z => by cases z) fun ds e => ?_
  subst e
  cases q with
  | lst h _ => cases h

/-! ### arguments, displays -/
def dNil {M : Type} : DTA M := fun _ m Q _ => Q [] m
def dCons {M : Type} (t : DT M) (u : DTA M) : DTA M := fun ρ m Q Z => t ρ m (fun d m1 => u ρ m1 (fun ds m2 => Q (d :: ds) m2) Z) Z
theorem ja_nil {c : Cl} : JA c X C [] dNil := ⟨_, pa_nil, fun σ H Pr F ρ m Q Z R S E h k => k _ _ ⟨Pr, F, m, [], S, Te.refl, by cases c <;> exact .nil, h⟩⟩
theorem ja_cons {c : Cl} {t : DT C.W.M} {u : DTA C.W.M} (hc : c ≠ .f) (h : J c X C e t) (r : JA c X C es u) (hs : starEach (e :: es) X.env = (false, eval e X.env) :: starEach es X.env := by rfl) : JA c X C (e :: es) (dCons t u) := by
  obtain ⟨te, p, q⟩ := h
  obtain ⟨tr, p', q'⟩ := r
  refine ⟨_, pa_cons p p' hs, fun σ H Pr F ρ m Q Z R S E h k => ?_⟩
  refine q σ H Pr F ρ m _ Z _ S E h fun v H1 z => ?_
  obtain ⟨P1, F1, m1, d, S1, t1, dv, z⟩ := z
  refine q' σ H1 P1 F1 ρ m1 _ Z _ S1 (E.te t1.toTr) z fun vs H2 z => k _ _ ?_
  obtain ⟨P2, F2, m2, ds, S2, t2, dvs, z⟩ := z
  exact ⟨P2, F2, m2, d :: ds, S2, t1.trans t2, DvA.cons hc (dv.te hc S1 t2 (Hb := H)) dvs, z⟩

def dTup {M : Type} (t : DTA M) : DT M := fun ρ m Q Z => t ρ m (fun ds m1 => ds.length ≤ sizeLine ∧ Q (.tup ds) m1) Z
def dLst {M : Type} (t : DTA M) : DT M := fun ρ m Q Z => t ρ m (fun ds m1 => ds.length ≤ sizeLine ∧ Q (.lst ds) m1) Z
theorem DvA.len {K : PySem.W.Frag} {c : Cl} {Pr : Addr → Prop} {F : List Addr} {H : Hp} {vs : List V} {ds : List D} (h : DvA K C c Pr F H vs ds) : vs.length = ds.length := by
  cases c <;> exact DnA.length h
theorem j_tup {t : DTA C.W.M} {k} (h : JA .s X C es t) : J .f X C (.Tuple es k pos) (dTup t) := by
  obtain ⟨te, p, q⟩ := h
  refine ⟨_, pe_tup p, fun σ H Pr F ρ m Q Z R S E h k => ?_⟩
  refine q σ H Pr F ρ m _ Z _ S E h fun vs H1 ⟨P1, F1, m1, ds, S1, t1, dv, z, r⟩ => ⟨by rw [dv.len]; exact z, fun p hp => k _ _ ?_⟩
  obtain ⟨S2, t2⟩ := S1.new1 (o := .tup vs) hp
  exact ⟨P1, F1, m1, .tup ds, S2, t1.trans t2, dv_flat S2 (.tup (.inl (vw_iff.mpr ⟨upd_same, .inl trivial⟩)) (DnA.mono t2.pre (sv_tr t2.toTr S1.prs) dv)) (fun _ h => nomatch h), r⟩
/-- .. handed back -/
theorem j_tupr {t : DTA C.W.M} {k} (h : JA .r X C es t) : J .r X C (.Tuple es k pos) (dTup t) := by
  obtain ⟨te, p, q⟩ := h
  refine ⟨_, pe_tup p, fun σ H Pr F ρ m Q Z R S E h k => ?_⟩
  refine q σ H Pr F ρ m _ Z _ S E h fun vs H1 ⟨P1, F1, m1, ds, S1, t1, dv, z, r⟩ => ⟨by rw [dv.len]; exact z, fun p hp => k _ _ ?_⟩
  obtain ⟨S2, t2⟩ := S1.new1 (o := .tup vs) hp
  exact ⟨P1, F1, m1, .tup ds, S2, t1.trans t2, .tup (.inl (vw_iff.mpr ⟨upd_same, .inl trivial⟩)) (DnA.mono t2.pre (rv_te t2 fun a z => S1.prs a (S1.prf a z)) dv), r⟩
theorem j_lst {t : DTA C.W.M} (h : JA .s X C es t) : J .f X C (.List es pos) (dLst t) := by
  obtain ⟨te, p, q⟩ := h
  refine ⟨_, pe_lst p, fun σ H Pr F ρ m Q Z R S E h k => ?_⟩
  refine q σ H Pr F ρ m _ Z _ S E h fun vs H1 ⟨P1, F1, m1, ds, S1, t1, dv, z, r⟩ => ⟨by rw [dv.len]; exact z, fun p hp => k _ _ ?_⟩
  obtain ⟨S2, t2⟩ := S1.new1 (o := .lst vs) hp
  have np := S1.np hp
  have dv2 : DnA true X.K F1 (sv C.H0 P1 (upd H1 p (.lst vs))) vs ds := DnA.mono t2.pre (sv_tr t2.toTr S1.prs) dv
  exact ⟨P1, F1, m1, .lst ds, S2, t1.trans t2, ⟨.lst (vw_iff.mpr ⟨upd_same, .inr ⟨trivial, np, S1.h0n hp⟩⟩) dv2, fun ds' e => by cases e; exact ⟨p, vs, rfl, some_of (t1.stay p) hp, np, upd_same, dv2⟩⟩, r⟩

/-! ### operators -/
/-- an operator over data: of two answers that are looked at -/
abbrev G2 := D → D → (D → Prop) → Prop
def OpOk (X : Cx) (C : Cn) (f : Value → Value → Sem Value) (g : G2) : Prop := ∃ r, OpR X f r ∧
  ∀ σ H Pr F ρ m x y dx dy Q (R : VK), SR X.K C Pr F σ ρ m H → Dn false X.K F (wv F H) x dx → Dn false X.K F (wv F H) y dy → g dx dy (fun d => Q d m) → (∀ v H', Post X.K C .f Pr F H σ ρ Q v H' → R v H') → r x y H R
def dBin {M : Type} (g : G2) (t u : DT M) : DT M := fun ρ m Q Z => t ρ m (fun x m1 => u ρ m1 (fun y m2 => g x y fun d => Q d m2) Z) Z
variable {a b c : Expr} {ta tb tc : DT C.W.M}
theorem j_bin {op : Operator} {g : G2} (o : OpOk X C (binaryOp op) g) (ha : J .w X C a ta) (hb : J .w X C b tb) : J .f X C (.BinOp a op b pos) (dBin g ta tb) := by
  obtain ⟨r, ho, q⟩ := o
  obtain ⟨te, p, q1⟩ := ha
  obtain ⟨te', p', q2⟩ := hb
  refine ⟨_, pe_op ho p p', fun σ H Pr F ρ m Q Z R S E h k => ?_⟩
  refine q1 σ H Pr F ρ m _ Z _ S E h fun v H1 ⟨P1, F1, m1, d, S1, t1, dv, z⟩ => ?_
  refine q2 σ H1 P1 F1 ρ m1 _ Z _ S1 (E.te t1.toTr) z fun w H2 ⟨P2, F2, m2, d2, S2, t2, dv2, z2⟩ => ?_
  exact q σ H2 P2 F2 ρ m2 v w d d2 Q R S2 (Dn.te t2 dv) dv2 z2 fun v H' z => k v H' ((z.te t2).te t1)
/-- an answer that is no list, the state as it stands -/
theorem post_here {C : Cn} {K : PySem.W.Frag} {Pr : Addr → Prop} {F : List Addr} {H : Hp} {σ : L2.St} {ρ : En} {m : C.W.M} {Q : D → C.W.M → Prop} {v : V} {d : D} (S : SR K C Pr F σ ρ m H) (h : Dn true K F (sv C.H0 Pr H) v d) (n : ∀ ds, d ≠ .lst ds) (q : Q d m) :
    Post K C .f Pr F H σ ρ Q v H := ⟨Pr, F, m, d, S, Te.refl, dv_flat S h n, q⟩
def gII (P : Int → Int → Prop) (f : Int → Int → D) : G2 := fun x y Q => match x, y with | .int i, .int j => P i j ∧ Q (f i j) | _, _ => False
theorem Dn.toInt {s : Bool} {K : PySem.W.Frag} {F : List Addr} {G : Hp} {v : V} {i : Int} (h : Dn s K F G v (.int i)) : v = .int i := by cases h; rfl
theorem opok_int {f : Value → Value → Sem Value} {P : Int → Int → Prop} {g : Int → Int → Int} (h : OpR X f (rI P fun i j => .int (g i j))) : OpOk X C f (gII P fun i j => .int (g i j)) := by
  refine ⟨_, h, fun σ H Pr F ρ m x y dx dy Q R S hx hy q k => ?_⟩
  unfold gII at q
  split at q
  · rw [hx.toInt, hy.toInt]
    exact ⟨_, _, rfl, rfl, q.1, k _ _ (post_here S (.int _) (fun _ h => nomatch h) q.2)⟩
  · exact q.elim
theorem opok_cmp {f : Value → Value → Sem Value} {P : Int → Int → Prop} {g : Int → Int → Bool} (h : OpR X f (rI P fun i j => .bl (g i j))) : OpOk X C f (gII P fun i j => .bl (g i j)) := by
  refine ⟨_, h, fun σ H Pr F ρ m x y dx dy Q R S hx hy q k => ?_⟩
  unfold gII at q
  split at q
  · rw [hx.toInt, hy.toInt]
    exact ⟨_, _, rfl, rfl, q.1, k _ _ (post_here S (.bl _) (fun _ h => nomatch h) q.2)⟩
  · exact q.elim
def g0 (f : Int → Int → D) : G2 := fun x y Q => match x, y with | .int i, .int j => Q (f i j) | _, _ => False
theorem opok_int0 {f : Value → Value → Sem Value} {g : Int → Int → Int} (h : OpR X f (rI0 fun i j => .int (g i j))) : OpOk X C f (g0 fun i j => .int (g i j)) := by
  refine ⟨_, h, fun σ H Pr F ρ m x y dx dy Q R S hx hy q k => ?_⟩
  unfold g0 at q
  split at q
  · rw [hx.toInt, hy.toInt]
    exact ⟨_, _, rfl, rfl, k _ _ (post_here S (.int _) (fun _ h => nomatch h) q)⟩
  · exact q.elim
theorem opok_cmp0 {f : Value → Value → Sem Value} {g : Int → Int → Bool} (h : OpR X f (rI0 fun i j => .bl (g i j))) : OpOk X C f (g0 fun i j => .bl (g i j)) := by
  refine ⟨_, h, fun σ H Pr F ρ m x y dx dy Q R S hx hy q k => ?_⟩
  unfold g0 at q
  split at q
  · rw [hx.toInt, hy.toInt]
    exact ⟨_, _, rfl, rfl, k _ _ (post_here S (.bl _) (fun _ h => nomatch h) q)⟩
  · exact q.elim
theorem ok_sub : OpOk X C (binaryOp .Sub) (g0 fun i j => .int (i - j)) := opok_int0 op_sub
theorem ok_pow : OpOk X C (binaryOp .Pow) (gII CPow fun i j => .int (i ^ j.toNat)) := opok_int op_pow
theorem op_mulA : OpR X (binaryOp .Mult) (rI IntMulOk fun i j => .int (i * j)) := opI fun _ _ _ _ _ _ _ hc q => mul_int q hc
theorem ok_mul : OpOk X C (binaryOp .Mult) (gII IntMulOk fun i j => .int (i * j)) := opok_int op_mulA
def Nz (_ j : Int) : Prop := j ≠ 0
theorem ok_mod : OpOk X C (binaryOp .Mod) (gII Nz fun i j => .int (i.fmod j)) := opok_int op_modN
def Nd (i j : Int) : Prop := j ≠ 0 ∧ Builtin.divisionGoesByPylong i j = false
theorem op_fdivA : OpR X (binaryOp .FloorDiv) (rI Nd fun i j => .int (i.fdiv j)) := opI fun _ _ _ _ _ _ _ hc q => floordiv_int hc.1 q (.inl hc.2)
theorem ok_fdiv : OpOk X C (binaryOp .FloorDiv) (gII Nd fun i j => .int (i.fdiv j)) := opok_int op_fdivA
end
end RR

/-! RD: judgements over data: comparisons, tests, calls, places -/
namespace RR
open PySem PySem.Spec PyProof.Rows L2

/-! ### equality of data -/
mutual
def D.py : D → PyData
  | .non => .none | .bl b => .bool b | .int i => .int i | .str x => .str x | .tup xs => .tuple (D.pys xs) | .lst xs => .list (D.pys xs) | .hnd _ => .none
def D.pys : List D → List PyData
  | [] => []
  | x :: r => x.py :: D.pys r
end
/-- data that == compares: no handles, at most n deep -/
def D.q : Nat → D → Bool
  | _, .non | _, .bl _ | _, .int _ => true
  | _, .str x => PyData.strOk x
  | _, .hnd _ => false
  | n + 1, .tup xs => xs.all (D.q n)
  | n + 1, .lst xs => xs.all (D.q n)
  | 0, .tup _ | 0, .lst _ => false
mutual
def D.eqv : D → D → Bool
  | .non, .non => true
  | .bl a, .bl b => a == b
  | .bl a, .int j => (if a then 1 else 0) == j
  | .int i, .bl b => i == (if b then 1 else 0)
  | .int i, .int j => decide (i = j)
  | .str x, .str y => x == y
  | .lst xs, .lst ys => D.eqvs xs ys
  | .tup xs, .tup ys => D.eqvs xs ys
  | _, _ => false
def D.eqvs : List D → List D → Bool
  | [], [] => true
  | x :: xs, y :: ys => x.eqv y && D.eqvs xs ys
  | _, _ => false
end
mutual
theorem py_eqv : ∀ {n : Nat} {x y : D}, x.q n = true → y.q n = true → PyData.eqv x.py y.py = x.eqv y
  | n, .hnd _, _, h, _ => by cases n <;> cases h
  | n, _, .hnd _, _, h => by cases n <;> cases h
  | n + 1, .tup xs, .tup ys, h, h' => by
    simp only [D.py, D.eqv, PyData.eqv]
    exact pys_eqv (List.all_eq_true.mp h) (List.all_eq_true.mp h')
  | n + 1, .lst xs, .lst ys, h, h' => by
    simp only [D.py, D.eqv, PyData.eqv]
    exact pys_eqv (List.all_eq_true.mp h) (List.all_eq_true.mp h')
  | 0, .tup xs, _, h, _ => by cases h
  | 0, .lst xs, _, h, _ => by cases h
  | _, .non, .non, _, _ | _, .non, .bl _, _, _ | _, .non, .int _, _, _ | _, .non, .str _, _, _ | _, .non, .tup _, _, _ | _, .non, .lst _, _, _ => rfl
  | _, .bl _, .non, _, _ | _, .bl _, .bl _, _, _ | _, .bl _, .int _, _, _ | _, .bl _, .str _, _, _ | _, .bl _, .tup _, _, _ | _, .bl _, .lst _, _, _ => rfl
  | _, .int _, .non, _, _ | _, .int _, .bl _, _, _ | _, .int _, .str _, _, _ | _, .int _, .tup _, _, _ | _, .int _, .lst _, _, _ => rfl
  | _, .int i, .int j, _, _ => by simp only [D.py, D.eqv, PyData.eqv, Bool.beq_eq_decide_eq]
  | _, .str _, .non, _, _ | _, .str _, .bl _, _, _ | _, .str _, .int _, _, _ | _, .str _, .str _, _, _ | _, .str _, .tup _, _, _ | _, .str _, .lst _, _, _ => rfl
  | n + 1, .tup _, .non, _, _ | n + 1, .tup _, .bl _, _, _ | n + 1, .tup _, .int _, _, _ | n + 1, .tup _, .str _, _, _ | n + 1, .tup _, .lst _, _, _ => rfl
  | n + 1, .lst _, .non, _, _ | n + 1, .lst _, .bl _, _, _ | n + 1, .lst _, .int _, _, _ | n + 1, .lst _, .str _, _, _ | n + 1, .lst _, .tup _, _, _ => rfl
theorem pys_eqv : ∀ {n : Nat} {xs ys : List D}, (∀ x ∈ xs, x.q n = true) → (∀ x ∈ ys, x.q n = true) → PyData.eqvAll (D.pys xs) (D.pys ys) = D.eqvs xs ys
  | _, [], [], _, _ => rfl
  | _, [], _ :: _, _, _ => rfl
  | _, _ :: _, [], _, _ => rfl
  | n, x :: xs, y :: ys, h, h' => by
    simp only [D.pys, D.eqvs, PyData.eqvAll]
    rw [py_eqv (h x List.mem_cons_self) (h' y List.mem_cons_self), pys_eqv (fun z hz => h z (List.mem_cons_of_mem _ hz)) (fun z hz => h' z (List.mem_cons_of_mem _ hz))]
end
mutual
theorem py_lay : ∀ {n : Nat} {x : D}, x.q n = true → x.py.canLay0 = true ∧ x.py.depth ≤ n
  | n, .hnd _, h => by cases n <;> cases h
  | n, .non, _ => ⟨rfl, Nat.zero_le _⟩
  | n, .bl _, _ => ⟨rfl, Nat.zero_le _⟩
  | n, .int _, _ => ⟨rfl, Nat.zero_le _⟩
  | 0, .str _, h => ⟨h, Nat.zero_le _⟩
  | n + 1, .str _, h => ⟨h, Nat.zero_le _⟩
  | n + 1, .tup xs, h => let ⟨a, b⟩ := pys_lay (List.all_eq_true.mp h); ⟨a, Nat.succ_le_succ b⟩
  | n + 1, .lst xs, h => let ⟨a, b⟩ := pys_lay (List.all_eq_true.mp h); ⟨a, Nat.succ_le_succ b⟩
  | 0, .tup _, h => by cases h
  | 0, .lst _, h => by cases h
theorem pys_lay : ∀ {n : Nat} {xs : List D}, (∀ x ∈ xs, x.q n = true) → PyData.canLayAll0 (D.pys xs) = true ∧ PyData.depthAll (D.pys xs) ≤ n
  | n, [], _ => ⟨rfl, Nat.zero_le _⟩
  | n, x :: xs, h => by
    obtain ⟨a, b⟩ := py_lay (h x List.mem_cons_self)
    obtain ⟨c, d⟩ := pys_lay fun z hz => h z (List.mem_cons_of_mem _ hz)
    simp only [D.pys, PyData.canLayAll0, PyData.depthAll, a, c, Bool.and_self, true_and]
    omega
end
theorem shaped_q {x : D} (h : x.q 8 = true) : SeqAt.shaped x.py = true := by
  obtain ⟨a, b⟩ := py_lay h
  unfold SeqAt.shaped
  rw [a, decide_eq_true (by omega)] <;> rfl
mutual
theorem Dn.dp {s : Bool} {K : PySem.W.Frag} {F : List Addr} {G H : Hp} (hG : ∀ a o, G a = some o → H a = some o) : ∀ {n : Nat} {v : V} {d : D}, Dn s K F G v d → d.q n = true → Dp K H v d.py
  | _, _, _, .non, _ => .non
  | _, _, _, .bl b, _ => .bl b
  | _, _, _, .int i, _ => .int i
  | _, _, _, .str x, _ => .str x
  | n + 1, _, _, .tup h r, q => .tup ((h.mono fun a xs => hG a _).sq) (DnA.dp hG r (List.all_eq_true.mp q))
  | n + 1, _, _, .lst h r, q => .lst ((h.mono hG).sq) (DnA.dp hG r (List.all_eq_true.mp q))
  | 0, _, _, .tup _ _, q => by cases q
  | 0, _, _, .lst _ _, q => by cases q
  | n, _, _, .hnd h, q => by cases n <;> cases q
theorem DnA.dp {s : Bool} {K : PySem.W.Frag} {F : List Addr} {G H : Hp} (hG : ∀ a o, G a = some o → H a = some o) : ∀ {n : Nat} {vs : List V} {ds : List D}, DnA s K F G vs ds → (∀ x ∈ ds, x.q n = true) → DpAll K H vs (D.pys ds)
  | _, _, _, .nil, _ => .nil
  | _, _, _, .cons h r, q => .cons (Dn.dp hG h (q _ List.mem_cons_self)) (DnA.dp hG r fun x hx => q x (List.mem_cons_of_mem _ hx))
end
def gEq : G2 := fun x y Q => x.q 8 = true ∧ y.q 8 = true ∧ Q (.bl (x.eqv y))
def gNe : G2 := fun x y Q => x.q 8 = true ∧ y.q 8 = true ∧ Q (.bl (!x.eqv y))

section
variable {X : Cx} {C : Cn} {e a b c : Expr} {es : List Expr} {pos : Pos} {ta tb tc : DT C.W.M}
theorem ok_eq (hu : X.A.units + 64 < cLine) : OpOk X C (compareOp .Eq) gEq := by
  refine ⟨_, op_eqD hu, fun σ H Pr F ρ m x y dx dy Q R S hx hy q k => ?_⟩
  obtain ⟨q1, q2, q⟩ := q
  refine ⟨_, _, hx.dp (fun _ _ => wv_le) q1, hy.dp (fun _ _ => wv_le) q2, shaped_q q1, shaped_q q2, k _ _ (post_here S (.bl _) (fun _ h => nomatch h) ?_)⟩
  rw [py_eqv q1 q2]
  exact q
theorem ok_ne (hu : X.A.units + 64 < cLine) : OpOk X C (compareOp .NotEq) gNe := by
  refine ⟨_, op_neD hu, fun σ H Pr F ρ m x y dx dy Q R S hx hy q k => ?_⟩
  obtain ⟨q1, q2, q⟩ := q
  refine ⟨_, _, hx.dp (fun _ _ => wv_le) q1, hy.dp (fun _ _ => wv_le) q2, shaped_q q1, shaped_q q2, k _ _ (post_here S (.bl _) (fun _ h => nomatch h) ?_)⟩
  rw [py_eqv q1 q2]
  exact q
abbrev gLt : G2 := g0 fun i j => .bl (decide (i < j))
abbrev gLe : G2 := g0 fun i j => .bl (decide (i ≤ j))
abbrev gGt : G2 := g0 fun i j => .bl (decide (j < i))
abbrev gGe : G2 := g0 fun i j => .bl (decide (j ≤ i))
theorem ok_lt : OpOk X C (compareOp .Lt) gLt := opok_cmp0 op_lt
theorem ok_le : OpOk X C (compareOp .LtE) gLe := opok_cmp0 op_le
theorem ok_gt : OpOk X C (compareOp .Gt) gGt := opok_cmp0 op_gt
theorem ok_ge : OpOk X C (compareOp .GtE) gGe := opok_cmp0 op_ge
def D.isN : D → Bool
  | .non => true
  | _ => false
def gIsN : G2 := fun x y Q => y.isN = true ∧ Q (.bl x.isN)
def gNotN : G2 := fun x y Q => y.isN = true ∧ Q (.bl (!x.isN))
theorem isN_of {s : Bool} {K : PySem.W.Frag} {F : List Addr} {G : Hp} {v : V} {d : D} (h : Dn s K F G v d) : decide (v = .non) = d.isN := by
  cases h <;> rfl
theorem ok_isN : OpOk X C (compareOp .Is) gIsN := by
  refine ⟨_, op_isN, fun σ H Pr F ρ m x y dx dy Q R S hx hy q k => ?_⟩
  obtain ⟨q1, q⟩ := q
  have e := isN_of hy
  rw [q1] at e
  refine ⟨of_decide_eq_true e, k _ _ (post_here (d := .bl dx.isN) S ?_ (fun _ h => nomatch h) q)⟩
  rw [isN_of hx]
  exact .bl _
theorem ok_notN : OpOk X C (compareOp .IsNot) gNotN := by
  refine ⟨_, op_notN, fun σ H Pr F ρ m x y dx dy Q R S hx hy q k => ?_⟩
  obtain ⟨q1, q⟩ := q
  have e := isN_of hy
  rw [q1] at e
  refine ⟨of_decide_eq_true e, k _ _ (post_here (d := .bl (!dx.isN)) S ?_ (fun _ h => nomatch h) q)⟩
  rw [isN_of hx]
  exact .bl _
theorem j_cmp {op : CmpOp} {g : G2} (o : OpOk X C (compareOp op) g) (ha : J .w X C a ta) (hb : J .w X C b tb) (hm : behindInMarks op b = false := by exact nomark _) : J .f X C (.Compare a [op] [b] pos) (dBin g ta tb) := by
  obtain ⟨r, ho, q⟩ := o
  obtain ⟨te, p, q1⟩ := ha
  obtain ⟨te', p', q2⟩ := hb
  refine ⟨_, pe_cmpR ho p p' hm, fun σ H Pr F ρ m Q Z R S E h k => ?_⟩
  refine q1 σ H Pr F ρ m _ Z _ S E h fun v H1 ⟨P1, F1, m1, d, S1, t1, dv, z⟩ => ?_
  refine q2 σ H1 P1 F1 ρ m1 _ Z _ S1 (E.te t1.toTr) z fun w H2 ⟨P2, F2, m2, d2, S2, t2, dv2, z2⟩ => ?_
  exact q σ H2 P2 F2 ρ m2 v w d d2 Q R S2 (Dn.te t2 dv) dv2 z2 fun v H' z => k v H' ((z.te t2).te t1)
/-- an answer that is True or False, as a test -/
def dTst {M : Type} (t : DT M) : DTT M := fun ρ m Q Z => t ρ m (fun d m' => match d with | .bl b => Q b m' | _ => False) Z
theorem post_tst {K : PySem.W.Frag} {c : Cl} {Pr : Addr → Prop} {F : List Addr} {H H' : Hp} {σ : L2.St} {ρ : En} {Q : Bool → C.W.M → Prop} {v : V} (h : Post K C c Pr F H σ ρ (fun d m' => match d with | .bl b => Q b m' | _ => False) v H') : ∃ b, v = .bl b ∧ PostT K C Pr F H σ ρ Q b H' := by
  obtain ⟨P1, F1, m1, d, S1, t1, dv, z⟩ := h
  split at z
  · rename_i b
    refine ⟨b, ?_, P1, F1, m1, S1, t1, z⟩
    cases c with
    | f =>
      have dv := dv.1
      cases dv
      rfl
    | w =>
      have dv : Dn false K F1 (wv F1 H') v (.bl b) := dv
      cases dv
      rfl
    | s =>
      have dv : Dn true K F1 (sv C.H0 P1 H') v (.bl b) := dv
      cases dv
      rfl
    | r =>
      have dv : Dn true K F1 (sv C.H0 (· ∈ F1) H') v (.bl b) := dv
      cases dv
      rfl
  · exact z.elim
theorem jt_cmp {op : CmpOp} {g : G2} (o : OpOk X C (compareOp op) g) (ha : J .w X C a ta) (hb : J .w X C b tb) (hm : behindInMarks op b = false := by exact nomark _) : JT X C (.Compare a [op] [b] pos) (dTst (dBin g ta tb)) := by
  obtain ⟨r, ho, q⟩ := o
  obtain ⟨te, p, q1⟩ := ha
  obtain ⟨te', p', q2⟩ := hb
  refine ⟨_, pt_cmpR ho p p' hm, fun σ H Pr F ρ m Q Z R S E h k => ?_⟩
  refine q1 σ H Pr F ρ m _ Z _ S E h fun v H1 ⟨P1, F1, m1, d, S1, t1, dv, z⟩ => ?_
  refine q2 σ H1 P1 F1 ρ m1 _ Z _ S1 (E.te t1.toTr) z fun w H2 ⟨P2, F2, m2, d2, S2, t2, dv2, z2⟩ => ?_
  exact q σ H2 P2 F2 ρ m2 v w d d2 _ _ S2 (Dn.te t2 dv) dv2 z2 fun v H' z => by
    obtain ⟨b, e, z⟩ := post_tst ((z.te t2).te t1)
    exact ⟨b, e, k b H' z⟩
/-- a op1 b op2 c -/
def dChain {M : Type} (g g' : G2) (t u w : DT M) : DT M := fun ρ m Q Z => t ρ m (fun x m1 => u ρ m1 (fun y m2 => g x y fun d => match d with | .bl true => w ρ m2 (fun z m3 => g' y z fun d => Q d m3) Z | .bl false => Q (.bl false) m2 | _ => False) Z) Z
theorem chain_core {op op' : CmpOp} {g g' : G2} (o : OpOk X C (compareOp op) g) (o' : OpOk X C (compareOp op') g') (ha : J .w X C a ta) (hb : J .w X C b tb) (hc : J .w X C c tc) : ∃ r r' te te' te'', OpR X (compareOp op) r ∧ OpR X (compareOp op') r' ∧ PE X a te ∧ PE X b te' ∧ PE X c te'' ∧
    ∀ σ H Pr F ρ m Q Z (R : VK), SR X.K C Pr F σ ρ m H → Ex X C Pr F H σ Z → dChain g g' ta tb tc ρ m Q Z → (∀ v H', Post X.K C .f Pr F H σ ρ Q v H' → R v H') → tChain r r' te te' te'' σ H R := by
  obtain ⟨r, ho, q⟩ := o
  obtain ⟨r', ho', q'⟩ := o'
  obtain ⟨te, p, q1⟩ := ha
  obtain ⟨te', p', q2⟩ := hb
  obtain ⟨te'', p'', q3⟩ := hc
  refine ⟨r, r', te, te', te'', ho, ho', p, p', p'', fun σ H Pr F ρ m Q Z R S E h k => ?_⟩
  refine q1 σ H Pr F ρ m _ Z _ S E h fun v H1 ⟨P1, F1, m1, d, S1, t1, dv, z⟩ => ?_
  refine q2 σ H1 P1 F1 ρ m1 _ Z _ S1 (E.te t1.toTr) z fun w H2 ⟨P2, F2, m2, d2, S2, t2, dv2, z2⟩ => ?_
  refine q σ H2 P2 F2 ρ m2 v w d d2 (fun d m2 => match d with | .bl true => tc ρ m2 (fun z m3 => g' d2 z fun d => Q d m3) Z | .bl false => Q (.bl false) m2 | _ => False) _ S2 (Dn.te t2 dv) dv2 ?_ fun v H3 z => ?_
  · exact z2
  · obtain ⟨P3, F3, m3, d3, S3, t3, dv3, z3⟩ := z
    have dv3 := dv3.1
    split at z3
    · cases dv3
      refine ⟨true, rfl, ?_⟩
      rw [if_pos rfl]
      refine q3 σ H3 P3 F3 ρ m3 _ Z _ S3 (E.te ((t1.trans t2).trans t3).toTr) z3 fun w' H4 ⟨P4, F4, m4, d4, S4, t4, dv4, z4⟩ => ?_
      exact q' σ H4 P4 F4 ρ m4 w w' d2 d4 Q R S4 (Dn.te (t3.trans t4) dv2) dv4 z4 fun v H' z => k v H' ((((z.te t4).te t3).te t2).te t1)
    · cases dv3
      refine ⟨false, rfl, ?_⟩
      rw [if_neg Bool.false_ne_true]
      exact k _ _ ((((post_here (d := .bl false) S3 (.bl false) (fun _ h => nomatch h) z3).te t3).te t2).te t1)
    · exact z3.elim
theorem j_chain {op op' : CmpOp} {g g' : G2} (o : OpOk X C (compareOp op) g) (o' : OpOk X C (compareOp op') g') (ha : J .w X C a ta) (hb : J .w X C b tb) (hc : J .w X C c tc) (hm : lastMarks [op, op'] [b, c] = false := by with_unfolding_all rfl) :
    J .f X C (.Compare a [op, op'] [b, c] pos) (dChain g g' ta tb tc) := by
  obtain ⟨r, r', te, te', te'', ho, ho', p, p', p'', q⟩ := chain_core o o' ha hb hc
  exact ⟨_, pe_chain ho ho' p p' p'' hm, q⟩
theorem jt_chain {op op' : CmpOp} {g g' : G2} (o : OpOk X C (compareOp op) g) (o' : OpOk X C (compareOp op') g') (ha : J .w X C a ta) (hb : J .w X C b tb) (hc : J .w X C c tc) (hm : lastMarks [op, op'] [b, c] = false := by with_unfolding_all rfl) :
    JT X C (.Compare a [op, op'] [b, c] pos) (dTst (dChain g g' ta tb tc)) := by
  obtain ⟨r, r', te, te', te'', ho, ho', p, p', p'', q⟩ := chain_core o o' ha hb hc
  refine ⟨_, pt_chain ho ho' p p' p'' hm, fun σ H Pr F ρ m Q Z R S E h k => ?_⟩
  exact q σ H Pr F ρ m _ Z _ S E h fun v H' z => by
    obtain ⟨b, e, z⟩ := post_tst z
    exact ⟨b, e, k b H' z⟩

/-! ### tests -/
/-- a value's truth -/
def D.tr : D → Option Bool
  | .non => some false
  | .bl b => some b
  | .int i => some (i != 0)
  | .tup xs | .lst xs => some (!xs.isEmpty)
  | .str _ => none
  | .hnd _ => none
def dVal {M : Type} (t : DT M) : DTT M := fun ρ m Q Z => t ρ m (fun d m' => match d.tr with | some b => Q b m' | none => False) Z
/-- any expression that is no and, or, not, if, comparison -/
theorem jt_val {t : DT C.W.M} (h : J .w X C e t) (he : ∀ whole, isTrue e X.env whole = (do let v ← whole; standAt e.pos; holding [v] (truthy v)) := by intro _; rfl) :
    JT X C e (dVal t) := by
  obtain ⟨te, p, q⟩ := h
  refine ⟨_, pt_truth p he, fun σ H Pr F ρ m Q Z R S E h k => ?_⟩
  refine q σ H Pr F ρ m _ Z _ S E h fun v H1 ⟨P1, F1, m1, d, S1, t1, dv, z⟩ => ?_
  have dv : Dn false X.K F1 (wv F1 H1) v d := dv
  try dsimp only at z
  split at z
  · rename_i b e
    refine ⟨b, ?_, k b H1 ⟨P1, F1, m1, S1, t1, z⟩⟩
    have el : ∀ {vs : List V} {ds : List D}, DnA false X.K F1 (wv F1 H1) vs ds → (!ds.isEmpty) = !vs.isEmpty := fun h => by cases h <;> rfl
    cases dv with
    | non => exact (Option.some.inj e).symm
    | bl b => exact (Option.some.inj e).symm
    | int i => exact (Option.some.inj e).symm
    | str x => cases e
    | hnd h => cases e
    | tup h r => exact .inr (.inl ⟨_, (h.mono fun a xs => wv_le).sq, (Option.some.inj e).symm.trans (el r)⟩)
    | lst h r => exact .inl ⟨_, (h.mono fun a xs => wv_le).sq, (Option.some.inj e).symm.trans (el r)⟩
  · exact z.elim
variable {rest : List Expr} {tt uu : DTT C.W.M}
def dAnd {M : Type} (t u : DTT M) : DTT M := fun ρ m Q Z => t ρ m (fun b m1 => if b = true then u ρ m1 Q Z else Q false m1) Z
def dOr {M : Type} (t u : DTT M) : DTT M := fun ρ m Q Z => t ρ m (fun b m1 => if b = true then Q true m1 else u ρ m1 Q Z) Z
def dNot {M : Type} (t : DTT M) : DTT M := fun ρ m Q Z => t ρ m (fun b m1 => Q (!b) m1) Z
theorem JW.t (h : JW X C e tt) : JT X C e tt := by
  obtain ⟨te, p, q⟩ := h
  exact ⟨te, p.pt, q⟩
theorem jw_and1 (h : JT X C a tt) : JW X C (.BoolOp .And [a] pos) tt := by
  obtain ⟨te, p, q⟩ := h
  exact ⟨te, pw_and1 p, q⟩
theorem jw_or1 (h : JT X C a tt) : JW X C (.BoolOp .Or [a] pos) tt := by
  obtain ⟨te, p, q⟩ := h
  exact ⟨te, pw_or1 p, q⟩
theorem jw_and (h : JT X C a tt) (r : JW X C (.BoolOp .And (b :: rest) pos) uu) : JW X C (.BoolOp .And (a :: b :: rest) pos) (dAnd tt uu) := by
  obtain ⟨te, p, q⟩ := h
  obtain ⟨te', p', q'⟩ := r
  refine ⟨_, pw_and p p', fun σ H Pr F ρ m Q Z R S E h k => ?_⟩
  refine q σ H Pr F ρ m _ Z _ S E h fun v H1 ⟨P1, F1, m1, S1, t1, z⟩ => ?_
  cases v with
  | true => exact iteT (q' σ H1 P1 F1 ρ m1 Q Z R S1 (E.te t1.toTr) z fun w H2 z => k w H2 (z.te t1))
  | false => exact iteF (k false H1 ⟨P1, F1, m1, S1, t1, z⟩)
theorem jw_or (h : JT X C a tt) (r : JW X C (.BoolOp .Or (b :: rest) pos) uu) : JW X C (.BoolOp .Or (a :: b :: rest) pos) (dOr tt uu) := by
  obtain ⟨te, p, q⟩ := h
  obtain ⟨te', p', q'⟩ := r
  refine ⟨_, pw_or p p', fun σ H Pr F ρ m Q Z R S E h k => ?_⟩
  refine q σ H Pr F ρ m _ Z _ S E h fun v H1 ⟨P1, F1, m1, S1, t1, z⟩ => ?_
  cases v with
  | false => exact iteF (q' σ H1 P1 F1 ρ m1 Q Z R S1 (E.te t1.toTr) z fun w H2 z => k w H2 (z.te t1))
  | true => exact iteT (k true H1 ⟨P1, F1, m1, S1, t1, z⟩)
theorem jt_not (h : JT X C a tt) : JT X C (.UnaryOp .Not a pos) (dNot tt) := by
  obtain ⟨te, p, q⟩ := h
  refine ⟨_, pt_not p, fun σ H Pr F ρ m Q Z R S E h k => ?_⟩
  exact q σ H Pr F ρ m _ Z _ S E h fun v H1 ⟨P1, F1, m1, S1, t1, z⟩ => k _ H1 ⟨P1, F1, m1, S1, t1, z⟩
/-! and, or, not as values (True or False) -/
def dAndV {M : Type} (t u : DT M) : DT M := fun ρ m Q Z => t ρ m (fun d m1 => match d with | .bl true => u ρ m1 Q Z | .bl false => Q (.bl false) m1 | _ => False) Z
def dOrV {M : Type} (t u : DT M) : DT M := fun ρ m Q Z => t ρ m (fun d m1 => match d with | .bl false => u ρ m1 Q Z | .bl true => Q (.bl true) m1 | _ => False) Z
def dNotV {M : Type} (t : DT M) : DT M := fun ρ m Q Z => t ρ m (fun d m1 => match d with | .bl b => Q (.bl (!b)) m1 | _ => False) Z
theorem j_one {op} {t : DT C.W.M} {c : Cl} (h : J c X C a t) : J c X C (.BoolOp op [a] pos) t := by
  obtain ⟨te, p, q⟩ := h
  exact ⟨te, pe_one p, q⟩
theorem post_bl {K : PySem.W.Frag} {Pr : Addr → Prop} {F : List Addr} {H H' : Hp} {v : V} {b : Bool} (h : Dv K C .f Pr F H H' v (.bl b)) : v = .bl b := by
  have h := h.1
  cases h
  rfl
theorem j_and (ha : J .f X C a ta) (r : J .f X C (.BoolOp .And (b :: rest) pos) tb) : J .f X C (.BoolOp .And (a :: b :: rest) pos) (dAndV ta tb) := by
  obtain ⟨te, p, q⟩ := ha
  obtain ⟨te', p', q'⟩ := r
  refine ⟨_, pe_and p p', fun σ H Pr F ρ m Q Z R S E h k => ?_⟩
  refine q σ H Pr F ρ m _ Z _ S E h fun v H1 ⟨P1, F1, m1, d, S1, t1, dv, z⟩ => ?_
  try dsimp only at z
  split at z
  · exact ⟨true, post_bl dv, iteT (q' σ H1 P1 F1 ρ m1 Q Z R S1 (E.te t1.toTr) z fun w H2 z => k w H2 (z.te t1))⟩
  · exact ⟨false, post_bl dv, iteF (k _ _ ((post_here (d := .bl false) S1 (.bl false) (fun _ h => nomatch h) z).te t1))⟩
  · exact z.elim
theorem j_or (ha : J .f X C a ta) (r : J .f X C (.BoolOp .Or (b :: rest) pos) tb) : J .f X C (.BoolOp .Or (a :: b :: rest) pos) (dOrV ta tb) := by
  obtain ⟨te, p, q⟩ := ha
  obtain ⟨te', p', q'⟩ := r
  refine ⟨_, pe_or p p', fun σ H Pr F ρ m Q Z R S E h k => ?_⟩
  refine q σ H Pr F ρ m _ Z _ S E h fun v H1 ⟨P1, F1, m1, d, S1, t1, dv, z⟩ => ?_
  try dsimp only at z
  split at z
  · exact ⟨false, post_bl dv, iteF (q' σ H1 P1 F1 ρ m1 Q Z R S1 (E.te t1.toTr) z fun w H2 z => k w H2 (z.te t1))⟩
  · exact ⟨true, post_bl dv, iteT (k _ _ ((post_here (d := .bl true) S1 (.bl true) (fun _ h => nomatch h) z).te t1))⟩
  · exact z.elim
theorem j_not (ha : J .f X C a ta) : J .f X C (.UnaryOp .Not a pos) (dNotV ta) := by
  obtain ⟨te, p, q⟩ := ha
  refine ⟨_, pe_not p, fun σ H Pr F ρ m Q Z R S E h k => ?_⟩
  refine q σ H Pr F ρ m _ Z _ S E h fun v H1 ⟨P1, F1, m1, d, S1, t1, dv, z⟩ => ?_
  try dsimp only at z
  split at z
  · rename_i b
    exact ⟨b, post_bl dv, k _ _ ((post_here (d := .bl (!b)) S1 (.bl _) (fun _ h => nomatch h) z).te t1)⟩
  · exact z.elim
def dNeg {M : Type} (t : DT M) : DT M := fun ρ m Q Z => t ρ m (fun d m1 => match d with | .int i => Q (.int (-i)) m1 | _ => False) Z
theorem j_neg (ha : J .w X C a ta) : J .f X C (.UnaryOp .USub a pos) (dNeg ta) := by
  obtain ⟨te, p, q⟩ := ha
  refine ⟨_, pe_un un_neg p, fun σ H Pr F ρ m Q Z R S E h k => ?_⟩
  refine q σ H Pr F ρ m _ Z _ S E h fun v H1 ⟨P1, F1, m1, d, S1, t1, dv, z⟩ => ?_
  have dv : Dn false X.K F1 (wv F1 H1) v d := dv
  try dsimp only at z
  split at z
  · exact ⟨_, dv.toInt, k _ _ ((post_here S1 (.int _) (fun _ h => nomatch h) z).te t1)⟩
  · exact z.elim
/-- a if t else b -/
def dIf {M : Type} (t : DTT M) (u w : DT M) : DT M := fun ρ m Q Z => t ρ m (fun b m1 => if b = true then u ρ m1 Q Z else w ρ m1 Q Z) Z
theorem j_if {cl : Cl} (hc : JT X C c tt) (ha : J cl X C a ta) (hb : J cl X C b tb) : J cl X C (.IfExp c a b pos) (dIf tt ta tb) := by
  obtain ⟨tc, p, q⟩ := hc
  obtain ⟨te, p1, q1⟩ := ha
  obtain ⟨te', p2, q2⟩ := hb
  refine ⟨_, pe_ifExp p p1 p2, fun σ H Pr F ρ m Q Z R S E h k => ?_⟩
  refine q σ H Pr F ρ m _ Z _ S E h fun v H1 ⟨P1, F1, m1, S1, t1, z⟩ => ?_
  cases v with
  | true => exact iteT (q1 σ H1 P1 F1 ρ m1 Q Z R S1 (E.te t1.toTr) z fun w H2 z => k w H2 (z.te t1))
  | false => exact iteF (q2 σ H1 P1 F1 ρ m1 Q Z R S1 (E.te t1.toTr) z fun w H2 z => k w H2 (z.te t1))

/-! ### calls -/
abbrev DSp (M : Type) := List D → M → (D → M → Prop) → (Str → M → Prop) → Prop
/-- a def's promise over data, as a promise of the hand layer -/
def spD (K : PySem.W.Frag) (mg : Str → Option Value) (W : Wd) (sp : DSp W.M) : Sp := fun vs H Q E => ∃ F m ds Qd Zd, W.Rz m F H ∧ DnA false K F (wv F H) vs ds ∧ sp ds m Qd Zd ∧
  (∀ v H' F' d m', W.Rz m' F' H' → (∃ G, F' = F ++ G) → (∀ a ∈ F', a ∉ F → H a = none) → (∀ a o, a ∉ F → H a = some o → H' a = some o) → Dn true K F' (sv H (· ∈ F') H') v d → Qd d m' → Q v H') ∧
  (∀ x cls H' F' m', mg x = some cls → W.Rz m' F' H' → (∃ G, F' = F ++ G) → (∀ a ∈ F', a ∉ F → H a = none) → (∀ a o, a ∉ F → H a = some o → H' a = some o) → Zd x m' → E cls none H')
/-- a def that may be called by its name x; dds: its defaults that fill up -/
def FD (P : Program) (w : World) (K : PySem.W.Frag) (mg : Str → Option Value) (base : Heap) (W : Wd) (k : Nat) (x : Str) (dds : List D) (sp : DSp W.M) : Prop :=
  ∃ f fd ps ds dvs, FnOk P w K mg base (L2.CX P w) k f fd ps (spD K mg W sp) ∧ mg x = some (.ref f) ∧ PySem.W.keepIn K (.ref f) = true ∧ Binds K fd ps ds ∧ Vals dvs ds ∧ ∀ F G, DnA false K F G dvs dds
def dCall {M : Type} (sp : DSp M) (dds : List D) (t : DTA M) : DT M := fun ρ m Q Z => t ρ m (fun ds m1 => sp (ds ++ dds) m1 Q Z) Z
theorem j_call {x : Str} {k : Nat} {dds : List D} {sp : DSp C.W.M} {ta : DTA C.W.M} {p : Pos} (h : FD X.prog X.w X.K X.mg X.base C.W k x dds sp) (hr : Room k X.A) (tk : Takes X C.wx) (hg : Gl X x) (ha : JA .w X C (e :: es) ta)
    (hdb : (x == ("__debug__" : Str)) = false := by decide) (he : starEach (e :: es) X.env = (false, eval e X.env) :: starEach es X.env := by rfl) (hpl : (backTo pos (starEach es X.env)).any (·.1) = false := by rfl) :
    J .f X C (.Call (.Name x p) (e :: es) [] pos) (dCall sp dds ta) := by
  obtain ⟨f, fd, ps, ds, dvs, G, hm, hk, hb, hd, hdd⟩ := h
  obtain ⟨te, pa, q⟩ := ha
  refine ⟨_, pe_callSD (E := fun σ cls d H' => C.wx cls d σ H') G hr hg hm hk hb hd (fun σ => passAt tk σ) pa hdb he hpl, fun σ H Pr F ρ m Q Z R S E h k => ?_⟩
  refine q σ H Pr F ρ m _ Z _ S E h fun vs H1 ⟨P1, F1, m1, ds1, S1, t1, dv, z⟩ => ?_
  have dv : DnA false X.K F1 (wv F1 H1) vs ds1 := dv
  refine ⟨F1, m1, ds1 ++ dds, Q, Z, S1.rz, dv.app (hdd _ _), z, fun v H' F' d m' rz pre fr kp dn q => ?_, fun x cls H' F' m' hx rz pre fr kp z => ?_⟩
  · obtain ⟨S2, t2⟩ := S1.turned rz pre fr kp
    have np : ∀ {a o}, sv H1 (· ∈ F') H' a = some o → IsL o → ¬ (P1 a ∨ a ∈ F') ∧ C.H0 a = none ∧ H1 a = none := fun {a o} h l => by
      obtain ⟨e, q⟩ := vw_iff.mp h
      rcases q with q | q
      · exact (IsT.not_L q l).elim
      · exact ⟨fun z => z.elim (S1.np q.2.2) q.2.1, S1.h0n q.2.2, q.2.2⟩
    have up : ∀ a o, sv H1 (· ∈ F') H' a = some o → sv C.H0 (fun a => P1 a ∨ a ∈ F') H' a = some o := fun a o h => by
      obtain ⟨e, q⟩ := vw_iff.mp h
      refine vw_iff.mpr ⟨e, q.imp id fun q => ⟨q.1, (np h q.1).1, (np h q.1).2.1⟩⟩
    refine k v H' ⟨_, F', m', d, S2, t1.trans t2, ⟨dn.mono ⟨[], by simp⟩ up, fun ds e => ?_⟩, q⟩
    subst e
    cases dn with
    | lst h r =>
      rename_i a xs
      have h : sv H1 (· ∈ F') H' a = some (.lst xs) := h
      obtain ⟨n1, n2, n3⟩ := np h trivial
      exact ⟨a, xs, rfl, some_of (t1.stay a) n3, n1, sv_le h, DnA.mono ⟨[], by simp⟩ up r⟩
  · obtain ⟨S2, t2⟩ := S1.turned rz pre fr kp
    exact E x cls _ F' m' H' ρ hx S2 (t1.trans t2).toTr z
/-- a call of a built-in over data: c = w, the arguments are looked at; c = s, they may be kept in the answer -/
def CaOk (X : Cx) (C : Cn) (c : Cl) (f : Value) (g : List D → (D → Prop) → Prop) : Prop := ∃ r, CallR X f r ∧
  ∀ σ H Pr F ρ m vs ds Q (R : VK), SR X.K C Pr F σ ρ m H → DvA X.K C c Pr F H vs ds → g ds (fun d => Q d m) → (∀ v H', Post X.K C .f Pr F H σ ρ Q v H' → R v H') → r vs H R
def dB {M : Type} (g : List D → (D → Prop) → Prop) (t : DTA M) : DT M := fun ρ m Q Z => t ρ m (fun ds m1 => g ds fun d => Q d m1) Z
theorem j_callB {cl : Cl} {id : String} {x : Str} {g : List D → (D → Prop) → Prop} {ta : DTA C.W.M} {p : Pos} (h : CaOk X C cl (.builtin id) g) (hm : X.mg x = none) (hv : bootBuiltins x = some (.builtin id)) (ha : JA cl X C (e :: es) ta) (hg : Gl X x := by rfl) (hn : x ≠ "__name__" := by decide) (hdb : (x == ("__debug__" : Str)) = false := by decide)
    (he : starEach (e :: es) X.env = (false, eval e X.env) :: starEach es X.env := by rfl) (hpl : (backTo pos (starEach es X.env)).any (·.1) = false := by rfl) : J .f X C (.Call (.Name x p) (e :: es) [] pos) (dB g ta) := by
  obtain ⟨r, hc, q'⟩ := h
  obtain ⟨te, pa, q⟩ := ha
  refine ⟨_, pe_callB hc hg hm hv pa hn hdb he hpl, fun σ H Pr F ρ m Q Z R S E h k => ?_⟩
  refine q σ H Pr F ρ m _ Z _ S E h fun vs H1 ⟨P1, F1, m1, ds1, S1, t1, dv, z⟩ => ?_
  exact q' σ H1 P1 F1 ρ m1 vs ds1 Q R S1 dv z fun v H' z => k v H' (z.te t1)
theorem j_callTy {cl : Cl} {T : String} {x : Str} {g : List D → (D → Prop) → Prop} {ta : DTA C.W.M} {p : Pos} (h : CaOk X C cl (.type T) g) (hm : X.mg x = none) (hv : bootBuiltins x = some (.type T)) (ha : JA cl X C (e :: es) ta) (hg : Gl X x := by rfl) (hn : x ≠ "__name__" := by decide) (hdb : (x == ("__debug__" : Str)) = false := by decide)
    (he : starEach (e :: es) X.env = (false, eval e X.env) :: starEach es X.env := by rfl) (hpl : (backTo pos (starEach es X.env)).any (·.1) = false := by rfl) : J .f X C (.Call (.Name x p) (e :: es) [] pos) (dB g ta) := by
  obtain ⟨r, hc, q'⟩ := h
  obtain ⟨te, pa, q⟩ := ha
  refine ⟨_, pe_callTy hc hg hm hv pa hn hdb he hpl, fun σ H Pr F ρ m Q Z R S E h k => ?_⟩
  refine q σ H Pr F ρ m _ Z _ S E h fun vs H1 ⟨P1, F1, m1, ds1, S1, t1, dv, z⟩ => ?_
  exact q' σ H1 P1 F1 ρ m1 vs ds1 Q R S1 dv z fun v H' z => k v H' (z.te t1)
theorem Dn.sqT {s : Bool} {K : PySem.W.Frag} {F : List Addr} {G H : Hp} {v : V} {ds : List D} (hG : ∀ a o, G a = some o → H a = some o) (h : Dn s K F G v (.tup ds)) : ∃ a vs, v = .ref a ∧ SqT K H a vs ∧ vs.length = ds.length ∧ DnA s K F G vs ds := by
  cases h with
  | tup h r => exact ⟨_, _, rfl, (h.mono fun a xs => hG a _).sq, r.length, r⟩
theorem Dn.sqL {s : Bool} {K : PySem.W.Frag} {F : List Addr} {G H : Hp} {v : V} {ds : List D} (hG : ∀ a o, G a = some o → H a = some o) (h : Dn s K F G v (.lst ds)) : ∃ a vs, v = .ref a ∧ SqL K H a vs ∧ vs.length = ds.length ∧ DnA s K F G vs ds := by
  cases h with
  | lst h r => exact ⟨_, _, rfl, (h.mono hG).sq, r.length, r⟩
def gLen : List D → (D → Prop) → Prop
  | [.lst xs], Q | [.tup xs], Q => Q (.int xs.length)
  | [.str z], Q => z.length ≤ sizeLine ∧ Q (.int z.length)
  | _, _ => False
theorem ca_len : CaOk X C .w (.builtin "len") gLen := by
  refine ⟨_, call_len_seq.or call_len_str, fun σ H Pr F ρ m vs ds Q R S dv q k => ?_⟩
  have dv : DnA false X.K F (wv F H) vs ds := dv
  unfold gLen at q
  split at q
  · cases dv with
    | cons h r =>
      cases r
      obtain ⟨a, us, rfl, hs, hl, _⟩ := h.sqL (fun _ _ => wv_le)
      refine .inl ⟨a, us, rfl, .inl hs, ?_⟩
      rw [hl]
      exact k _ _ (post_here S (.int _) (fun _ h => nomatch h) q)
  · cases dv with
    | cons h r =>
      cases r
      obtain ⟨a, us, rfl, hs, hl, _⟩ := h.sqT (fun _ _ => wv_le)
      refine .inl ⟨a, us, rfl, .inr hs, ?_⟩
      rw [hl]
      exact k _ _ (post_here S (.int _) (fun _ h => nomatch h) q)
  · cases dv with
    | cons h r =>
      cases r
      cases h
      exact .inr ⟨_, rfl, q.1, k _ _ (post_here S (.int _) (fun _ h => nomatch h) q.2)⟩
  · exact q.elim
def gI1 (f : Int → Int) : List D → (D → Prop) → Prop
  | [.int i], Q => Q (.int (f i))
  | _, _ => False
def gI2 (f : Int → Int → Int) : List D → (D → Prop) → Prop
  | [.int i, .int j], Q => Q (.int (f i j))
  | _, _ => False
theorem ca_I1 {f : Value} {g : Int → Int} (h : CallR X f (fun xs H Q => ∃ i, xs = [.int i] ∧ Q (.int (g i)) H)) : CaOk X C .w f (gI1 g) := by
  refine ⟨_, h, fun σ H Pr F ρ m vs ds Q R S dv q k => ?_⟩
  have dv : DnA false X.K F (wv F H) vs ds := dv
  unfold gI1 at q
  split at q
  · cases dv with
    | cons h r =>
      cases r
      cases h
      exact ⟨_, rfl, k _ _ (post_here S (.int _) (fun _ h => nomatch h) q)⟩
  · exact q.elim
theorem ca_I2 {f : Value} {g : Int → Int → Int} (h : CallR X f (fun xs H Q => ∃ i j, xs = [.int i, .int j] ∧ Q (.int (g i j)) H)) : CaOk X C .w f (gI2 g) := by
  refine ⟨_, h, fun σ H Pr F ρ m vs ds Q R S dv q k => ?_⟩
  have dv : DnA false X.K F (wv F H) vs ds := dv
  unfold gI2 at q
  split at q
  · cases dv with
    | cons h r =>
      cases r with
      | cons h' r =>
        cases r
        cases h
        cases h'
        exact ⟨_, _, rfl, k _ _ (post_here S (.int _) (fun _ h => nomatch h) q)⟩
  · exact q.elim
def iabs (i : Int) : Int := if i < 0 then -i else i
def imax (i j : Int) : Int := if j > i then j else i
def imin (i j : Int) : Int := if j < i then j else i
theorem ca_abs : CaOk X C .w (.builtin "abs") (gI1 iabs) := ca_I1 call_abs
theorem ca_max (hc : X.calm = true) : CaOk X C .w (.builtin "max") (gI2 imax) := ca_I2 (call_max2 hc)
theorem ca_min (hc : X.calm = true) : CaOk X C .w (.builtin "min") (gI2 imin) := ca_I2 (call_min2 hc)
def gInt : List D → (D → Prop) → Prop
  | [.int i], Q => Q (.int i)
  | [.bl b], Q => Q (.int (if b then 1 else 0))
  | _, _ => False
theorem ca_int : CaOk X C .w (.type "int") gInt := by
  refine ⟨_, call_int1, fun σ H Pr F ρ m vs ds Q R S dv q k => ?_⟩
  have dv : DnA false X.K F (wv F H) vs ds := dv
  unfold gInt at q
  split at q
  · cases dv with
    | cons h r =>
      cases r
      cases h
      exact .inl ⟨_, rfl, k _ _ (post_here S (.int _) (fun _ h => nomatch h) q)⟩
  · cases dv with
    | cons h r =>
      cases r
      cases h
      exact .inr ⟨_, rfl, k _ _ (post_here S (.int _) (fun _ h => nomatch h) q)⟩
  · exact q.elim
/-- a new list of strong items -/
theorem post_new {K : PySem.W.Frag} {Pr : Addr → Prop} {F : List Addr} {H : Hp} {σ : L2.St} {ρ : En} {m : C.W.M} {Q : D → C.W.M → Prop} {p : Addr} {vs : List V} {ds : List D} (S : SR K C Pr F σ ρ m H) (hp : H p = none) (dv : DnA true K F (sv C.H0 Pr H) vs ds) (q : Q (.lst ds) m) :
    Post K C .f Pr F H σ ρ Q (.ref p) (upd H p (.lst vs)) := by
  obtain ⟨S2, t2⟩ := S.new1 (o := .lst vs) hp
  have np := S.np hp
  have dv2 : DnA true K F (sv C.H0 Pr (upd H p (.lst vs))) vs ds := DnA.mono t2.pre (sv_tr t2.toTr S.prs) dv
  exact ⟨Pr, F, m, .lst ds, S2, t2, ⟨.lst (vw_iff.mpr ⟨upd_same, .inr ⟨trivial, np, S.h0n hp⟩⟩) dv2, fun ds' e => by cases e; exact ⟨p, vs, rfl, hp, np, upd_same, dv2⟩⟩, q⟩
theorem post_newT {K : PySem.W.Frag} {Pr : Addr → Prop} {F : List Addr} {H : Hp} {σ : L2.St} {ρ : En} {m : C.W.M} {Q : D → C.W.M → Prop} {p : Addr} {vs : List V} {ds : List D} (S : SR K C Pr F σ ρ m H) (hp : H p = none) (dv : DnA true K F (sv C.H0 Pr H) vs ds) (q : Q (.tup ds) m) :
    Post K C .f Pr F H σ ρ Q (.ref p) (upd H p (.tup vs)) := by
  obtain ⟨S2, t2⟩ := S.new1 (o := .tup vs) hp
  exact ⟨Pr, F, m, .tup ds, S2, t2, dv_flat S2 (.tup (.inl (vw_iff.mpr ⟨upd_same, .inl trivial⟩)) (DnA.mono t2.pre (sv_tr t2.toTr S.prs) dv)) (fun _ h => nomatch h), q⟩
/-- weak items without lists are strong -/
theorem DnA.up {K : PySem.W.Frag} {Pr : Addr → Prop} {F : List Addr} {H : Hp} {vs : List V} {ds : List D} (h : DnA false K F (wv F H) vs ds) (n : D.nls ds = true) : DnA true K F (sv C.H0 Pr H) vs ds :=
  h.flat ⟨[], by simp⟩ (fun a xs q => vw_iff.mpr ⟨wv_le q, .inl trivial⟩) n
theorem Dn.up {K : PySem.W.Frag} {Pr : Addr → Prop} {F : List Addr} {H : Hp} {v : V} {d : D} (h : Dn false K F (wv F H) v d) (n : d.nl = true) : Dn true K F (sv C.H0 Pr H) v d :=
  h.flat ⟨[], by simp⟩ (fun a xs q => vw_iff.mpr ⟨wv_le q, .inl trivial⟩) n
/-- list(x), tuple(x) of what is looked at: without lists within -/
def gSeq (mk : List D → D) : List D → (D → Prop) → Prop
  | [.lst xs], Q | [.tup xs], Q => D.nls xs = true ∧ Q (mk xs)
  | _, _ => False
theorem ca_list : CaOk X C .w (.type "list") (gSeq .lst) := by
  refine ⟨_, call_list_of, fun σ H Pr F ρ m vs ds Q R S dv q k => ?_⟩
  have dv : DnA false X.K F (wv F H) vs ds := dv
  unfold gSeq at q
  split at q
  · cases dv with
    | cons h r =>
      cases r
      obtain ⟨a, us, rfl, hs, hl, hd⟩ := h.sqL (fun _ _ => wv_le)
      exact ⟨a, us, rfl, .inl hs, fun l hl => k _ _ (post_new S hl (hd.up q.1) q.2)⟩
  · cases dv with
    | cons h r =>
      cases r
      obtain ⟨a, us, rfl, hs, hl, hd⟩ := h.sqT (fun _ _ => wv_le)
      exact ⟨a, us, rfl, .inr hs, fun l hl => k _ _ (post_new S hl (hd.up q.1) q.2)⟩
  · exact q.elim
theorem ca_tuple : CaOk X C .w (.type "tuple") (gSeq .tup) := by
  refine ⟨_, call_tuple_of, fun σ H Pr F ρ m vs ds Q R S dv q k => ?_⟩
  have dv : DnA false X.K F (wv F H) vs ds := dv
  unfold gSeq at q
  split at q
  · cases dv with
    | cons h r =>
      cases r
      obtain ⟨a, us, rfl, hs, hl, hd⟩ := h.sqL (fun _ _ => wv_le)
      exact ⟨a, us, rfl, .inl ⟨hs, fun l hl => k _ _ (post_newT S hl (hd.up q.1) q.2)⟩⟩
  · cases dv with
    | cons h r =>
      cases r
      have hs := Dn.up (C := C) (Pr := Pr) h q.1
      obtain ⟨a, us, rfl, hs', hl, hd⟩ := h.sqT (fun _ _ => wv_le)
      exact ⟨a, us, rfl, .inr ⟨hs', k _ _ (post_here S hs (fun _ h => nomatch h) q.2)⟩⟩
  · exact q.elim
/-- isinstance of a built-in type -/
def D.ty : D → Option String
  | .non => some "NoneType" | .bl _ => some "bool" | .int _ => some "int" | .str _ => some "str" | .tup _ => some "tuple" | .lst _ => some "list" | .hnd _ => none
def isiB (t T : String) : Bool := t == T || (t == "bool" && T == "int")
def IsiT (T : String) : Prop := ∀ t ∈ ["NoneType", "bool", "int", "str", "tuple", "list"], kitB t T = some (isiB t T)
theorem ty_of {K : PySem.W.Frag} {F : List Addr} {G H : Hp} {v : V} {d : D} (hG : ∀ a o, G a = some o → H a = some o) (h : Dn false K F G v d) {t : String} (e : d.ty = some t) : TyX K H v (.type t) := by
  cases h with
  | non => cases e; exact .base .non
  | bl b => cases e; exact .base (.bl b)
  | int i => cases e; exact .base (.int i)
  | str x => cases e; exact .base (.str x)
  | hnd h => cases e
  | tup h r =>
    cases e
    rcases h with h | ⟨o, its, n, h, c, _⟩
    · exact .base (.tup (hG _ _ h))
    · exact .kTuple h c
  | lst h r =>
    cases e
    rcases h with (h | ⟨o, h⟩) | ⟨o, its, n, h, c, _⟩
    · exact .base (.lst (hG _ _ h))
    · exact .base (.frz (hG _ _ h))
    · exact .kList h c
def dIsi {M : Type} (T : String) (t : DT M) : DT M := fun ρ m Q Z => t ρ m (fun d m1 => match d.ty with | some ty => Q (.bl (isiB ty T)) m1 | none => False) Z
theorem j_isi {T : String} {x : Str} {p p2 : Pos} {t : DT C.W.M} (hT : IsiT T) (ha : J .w X C a t) (mi : X.mg "isinstance" = none) (mx : X.mg x = none) (hv : bootBuiltins x = some (.type T)) (gi : Gl X "isinstance" := by rfl) (gx : Gl X x := by rfl) (hn : x ≠ "__name__" := by decide) (hdb : (x == ("__debug__" : Str)) = false := by decide)
    (he : starEach [a, .Name x p2] X.env = (false, eval a X.env) :: starEach [.Name x p2] X.env := by rfl) (hpl : (backTo pos (starEach [.Name x p2] X.env)).any (·.1) = false := by rfl) :
    J .f X C (.Call (.Name "isinstance" p) [a, .Name x p2] [] pos) (dIsi T t) := by
  obtain ⟨te, pa, q⟩ := ha
  refine ⟨_, pe_callB call_isi gi mi (by decide +kernel) (pa_cons pa (pa_cons (pe_bltn gx mx hv (v := .ty T) rfl hn hdb) pa_nil) he) (by decide) (by decide) he hpl, fun σ H Pr F ρ m Q Z R S E h k => ?_⟩
  refine q σ H Pr F ρ m _ Z _ S E h fun v H1 ⟨P1, F1, m1, d, S1, t1, dv, z⟩ => ?_
  try dsimp only at z
  split at z
  · rename_i ty e
    refine ⟨v, .ty T, .type ty, .type T, _, rfl, .ty T, ty_of (fun _ _ => wv_le) dv e, kit_ty (hT ty ?_), k _ _ ((post_here (d := .bl (isiB ty T)) S1 (.bl _) (fun _ h => nomatch h) z).te t1)⟩
    cases d <;> first | (cases e; simp) | cases e
  · exact z.elim
theorem isi_tuple : IsiT "tuple" := by unfold IsiT; decide +kernel
theorem isi_bool : IsiT "bool" := by unfold IsiT; decide +kernel
theorem isi_int : IsiT "int" := by unfold IsiT; decide +kernel
theorem isi_list : IsiT "list" := by unfold IsiT; decide +kernel
theorem isi_str : IsiT "str" := by unfold IsiT; decide +kernel

/-! ### places and slices -/
/-- x[i]; k: the items are without lists -/
def gIx (n : Bool) : G2 := fun x y Q => match x, y with
  | .lst ds, .int i | .tup ds, .int i => (match atI ds i with | some d => (n = true → d.nl = true) ∧ Q d | none => False)
  | .str z, .int i => z.length ≤ sizeLine ∧ (match atI z.cps.toList i with | some c => Q (.str ⟨#[c]⟩) | none => False)
  | _, _ => False
theorem atI_dn {s : Bool} {K : PySem.W.Frag} {F : List Addr} {G : Hp} {vs : List V} {ds : List D} {i : Int} {d : D} (h : DnA s K F G vs ds) (e : atI ds i = some d) : ∃ v, atI vs i = some v ∧ Dn s K F G v d := by
  unfold atI at e ⊢
  rw [h.length]
  cases q : ixN ds.length i with
  | none => rw [q] at e; cases e
  | some j =>
    rw [q] at e
    exact h.getD (by simpa using e)
theorem ix_core {n sb : Bool} {K : PySem.W.Frag} {F : List Addr} {G H : Hp} {v w : V} {d d2 : D} {R : VK} {Q : D → Prop} (hG : ∀ a o, G a = some o → H a = some o) (dv : Dn sb K F G v d) (dw : w = .int 0 ∨ ∀ i, d2 = .int i → w = .int i)
    (hw : ∀ i, d2 = .int i → w = .int i) (q : gIx n d d2 Q) (fin : ∀ v' d', Dn sb K F G v' d' → (n = true → d'.nl = true) → Q d' → R v' H) : rIx K v w H R := by
  unfold gIx at q
  split at q
  · split at q
    · rename_i e
      cases dv with
      | lst hl hr =>
        obtain ⟨v', e', r'⟩ := atI_dn hr e
        exact .inl ⟨_, _, _, v', rfl, hw _ rfl, (hl.mono hG).sq, e', fin _ _ r' q.1 q.2⟩
    · exact q.elim
  · split at q
    · rename_i e
      cases dv with
      | tup hl hr =>
        obtain ⟨v', e', r'⟩ := atI_dn hr e
        exact .inr (.inl ⟨_, _, _, v', rfl, hw _ rfl, (hl.mono fun a xs => hG a _).sq, e', fin _ _ r' q.1 q.2⟩)
    · exact q.elim
  · obtain ⟨hz, q⟩ := q
    split at q
    · rename_i c e
      cases dv
      exact .inr (.inr ⟨_, _, c, rfl, hw _ rfl, hz, e, fin _ (.str ⟨#[c]⟩) (.str _) (fun _ => rfl) q⟩)
    · exact q.elim
  · exact q.elim
theorem j_ix {ta tb : DT C.W.M} (ha : J .s X C a ta) (hb : J .w X C b tb) (hs : PlainIx b := by exact fun _ _ => rfl) : J .s X C (.Subscript a b pos) (dBin (gIx false) ta tb) := by
  obtain ⟨te, p, q1⟩ := ha
  obtain ⟨te', p', q2⟩ := hb
  refine ⟨_, pe_ix ix_seq p p' hs, fun σ H Pr F ρ m Q Z R S E h k => ?_⟩
  refine q1 σ H Pr F ρ m _ Z _ S E h fun v H1 ⟨P1, F1, m1, d, S1, t1, dv, z⟩ => ?_
  refine q2 σ H1 P1 F1 ρ m1 _ Z _ S1 (E.te t1.toTr) z fun w H2 ⟨P2, F2, m2, d2, S2, t2, dv2, z2⟩ => ?_
  have dv2 : Dn false X.K F2 (wv F2 H2) w d2 := dv2
  have hw : ∀ i, d2 = .int i → w = .int i := fun i e => by rw [e] at dv2; exact dv2.toInt
  exact ix_core (fun _ _ => sv_le) (Dn.tr (H0 := C.H0) t2.toTr S1.prs dv) (.inr hw) hw z2 fun v' d' h _ q => k _ _ ⟨P2, F2, m2, d', S2, t1.trans t2, h, q⟩
/-- .. of what is only looked at -/
theorem j_ixw {ta tb : DT C.W.M} (ha : J .w X C a ta) (hb : J .w X C b tb) (hs : PlainIx b := by exact fun _ _ => rfl) : J .s X C (.Subscript a b pos) (dBin (gIx true) ta tb) := by
  obtain ⟨te, p, q1⟩ := ha
  obtain ⟨te', p', q2⟩ := hb
  refine ⟨_, pe_ix ix_seq p p' hs, fun σ H Pr F ρ m Q Z R S E h k => ?_⟩
  refine q1 σ H Pr F ρ m _ Z _ S E h fun v H1 ⟨P1, F1, m1, d, S1, t1, dv, z⟩ => ?_
  refine q2 σ H1 P1 F1 ρ m1 _ Z _ S1 (E.te t1.toTr) z fun w H2 ⟨P2, F2, m2, d2, S2, t2, dv2, z2⟩ => ?_
  have dv2 : Dn false X.K F2 (wv F2 H2) w d2 := dv2
  have hw : ∀ i, d2 = .int i → w = .int i := fun i e => by rw [e] at dv2; exact dv2.toInt
  exact ix_core (fun _ _ => wv_le) (Dn.te t2 dv) (.inr hw) hw z2 fun v' d' h n q => k _ _ ⟨P2, F2, m2, d', S2, t1.trans t2, h.up (n rfl), q⟩
/-- a part of a slice -/
abbrev DTO (M : Type) := En → M → (Option Int → M → Prop) → (Str → M → Prop) → Prop
def JO (X : Cx) (C : Cn) (e : Option Expr) (t : DTO C.W.M) : Prop := ∃ te, PO X e te ∧
  ∀ σ H Pr F ρ m Q Z (R : Option Int → Hp → Prop), SR X.K C Pr F σ ρ m H → Ex X C Pr F H σ Z → t ρ m Q Z → (∀ o H', (∃ Pr' F' m', SR X.K C Pr' F' σ ρ m' H' ∧ Te Pr F H Pr' F' H' ∧ Q o m') → R o H') → te σ H R
def dONone {M : Type} : DTO M := fun _ m Q _ => Q none m
def dOSome {M : Type} (t : DT M) : DTO M := fun ρ m Q Z => t ρ m (fun d m1 => match d with | .int i => Q (some i) m1 | _ => False) Z
theorem jo_none : JO X C none dONone := ⟨_, po_none, fun σ H Pr F ρ m Q Z R S E h k => k _ _ ⟨Pr, F, m, S, Te.refl, h⟩⟩
theorem jo_some {t : DT C.W.M} (h : J .w X C e t) : JO X C (some e) (dOSome t) := by
  obtain ⟨te, p, q⟩ := h
  refine ⟨_, po_some p, fun σ H Pr F ρ m Q Z R S E h k => ?_⟩
  refine q σ H Pr F ρ m _ Z _ S E h fun v H1 ⟨P1, F1, m1, d, S1, t1, dv, z⟩ => ?_
  have dv : Dn false X.K F1 (wv F1 H1) v d := dv
  try dsimp only at z
  split at z
  · exact ⟨_, dv.toInt, k _ _ ⟨P1, F1, m1, S1, t1, z⟩⟩
  · exact z.elim
def cutD (xs : List D) (lo hi : Option Int) : List D := (xs.drop (HT.sIx xs.length 0 lo)).take (HT.sIx xs.length xs.length hi - HT.sIx xs.length 0 lo)
theorem cut_dn {s : Bool} {K : PySem.W.Frag} {F : List Addr} {G : Hp} {vs : List V} {ds : List D} {lo hi : Option Int} (h : DnA s K F G vs ds) : DnA s K F G (cutV vs lo hi) (cutD ds lo hi) := by
  unfold cutV cutD
  rw [h.length]
  exact (h.drop _).take _
/-- x[lo:hi] of a list or a tuple whose items are without lists -/
def dSl {M : Type} (t : DT M) (lo hi : DTO M) : DT M := fun ρ m Q Z => t ρ m (fun x m1 => lo ρ m1 (fun l m2 => hi ρ m2 (fun u m3 => match x with
  | .lst ds => D.nls ds = true ∧ Q (.lst (cutD ds l u)) m3
  | .tup ds => D.nls ds = true ∧ Q (.tup (cutD ds l u)) m3
  | _ => False) Z) Z) Z
theorem nls_all : ∀ {ds : List D}, D.nls ds = true ↔ ∀ d ∈ ds, d.nl = true
  | [] => by simp [D.nls]
  | d :: ds => by rw [D.nls, Bool.and_eq_true, nls_all]; simp
theorem nls_sub {ds es : List D} (h : D.nls ds = true) (s : ∀ d ∈ es, d ∈ ds) : D.nls es = true := nls_all.mpr fun d hd => nls_all.mp h d (s d hd)
theorem nls_cut {ds : List D} {l u : Option Int} (h : D.nls ds = true) : D.nls (cutD ds l u) = true := nls_sub h fun d hd => List.mem_of_mem_drop (List.mem_of_mem_take hd)
theorem j_sl {lo hi : Option Expr} {t : DT C.W.M} {tl th : DTO C.W.M} {p2 : Pos} (ha : J .w X C e t) (hl : JO X C lo tl) (hh : JO X C hi th) : J .f X C (.Subscript e (.Slice lo hi none p2) pos) (dSl t tl th) := by
  obtain ⟨te, p, q1⟩ := ha
  obtain ⟨te', p', q2⟩ := hl
  obtain ⟨te'', p'', q3⟩ := hh
  refine ⟨_, pe_slice (sl_list.or sl_tupA) p p' p'', fun σ H Pr F ρ m Q Z R S E h k => ?_⟩
  refine q1 σ H Pr F ρ m _ Z _ S E h fun v H1 ⟨P1, F1, m1, d, S1, t1, dv, z⟩ => ?_
  refine q2 σ H1 P1 F1 ρ m1 _ Z _ S1 (E.te t1.toTr) z fun l H2 ⟨P2, F2, m2, S2, t2, z2⟩ => ?_
  refine q3 σ H2 P2 F2 ρ m2 _ Z _ S2 (E.te (t1.trans t2).toTr) z2 fun u H3 ⟨P3, F3, m3, S3, t3, z3⟩ => ?_
  have dv : Dn false X.K F3 (wv F3 H3) v d := Dn.te (t2.trans t3) dv
  have t4 := t1.trans (t2.trans t3)
  try dsimp only at z3
  split at z3
  · obtain ⟨a, us, rfl, hs, hl, hd⟩ := dv.sqL (fun _ _ => wv_le)
    exact .inl ⟨a, us, rfl, hs, fun p hp => k _ _ ((post_new S3 hp (cut_dn hd |>.up (nls_cut z3.1)) z3.2).te t4)⟩
  · have hst := Dn.up (C := C) (Pr := P3) dv z3.1
    generalize hds : (D.tup _) = dd at hst
    cases hds
    obtain ⟨a, us, rfl, hs, hl, hd⟩ := dv.sqT (fun _ _ => wv_le)
    refine .inr ⟨a, us, rfl, hs, fun w => ?_, fun _ p hp => k _ _ ((post_newT S3 hp (cut_dn hd |>.up (nls_cut z3.1)) z3.2).te t4)⟩
    have e : ∀ {ds : List D}, us.length = ds.length → cutD ds l u = ds := fun {ds} hl => by
      unfold cutD
      rw [← hl, w.1, w.2, List.drop_zero, Nat.sub_zero, hl, List.take_length]
    rw [e hl] at z3
    exact k _ _ ((post_here S3 hst (fun _ h => nomatch h) z3.2).te t4)
  · exact z3.elim
end
end RR

/-! REa: enumerate of a tuple -/
namespace RR
open PySem PyProof.Rows
open PySem.AutoSeq1 (wpAny_loadPart')
theorem draws_tuple {prog : Program} {w : World} {A : Around} (hh : A.handled = none) (it l : Addr) (hne : l ≠ it) (items : Array Value) :
    Draws prog w A it [it, l] items.size (fun i v => items[i]? = some v) (fun i h => h.IsTupleIter it l i ∧ h.IsTuple l items) where
  live := fun _ _ st => let ⟨o, ho, _⟩ := st.1; ⟨o, ho⟩
  frame := fun _ _ _ st hk => ⟨st.1.at fun o e => hk it (by simp) o e, by
    obtain ⟨o, e, r⟩ := st.2
    exact ⟨o, hk l (by simp) o e, r⟩⟩
  item := fun i s Q E hi st hQ => by
    refine RZ.nextOf_tuple_item st.1 st.2 (x := items[i]) (by simp [hi]) fun h' hit' hs' => ?_
    refine hQ _ h' s.toks (by simp [hi]) ⟨hit', ?_⟩ hs'
    obtain ⟨o, e, r⟩ := st.2
    exact ⟨o, (hs'.2 l hne).trans e, r⟩
  done := fun s Q E st hE => RZ.nextOf_tuple_end hh st.1 st.2 (by simp) hE
theorem meets_enumerate_newT (l : Addr) (items : Array Value) :
    Meets (Builtin.«enumerate.__new__» ⟨[.type "enumerate", .ref l], []⟩) (fun _ R s => s.heap.IsTuple l items ∧
      R (.ok (.ret (.ref (s.heap.push { cls := .type "tuple_iterator", data := .fields #[.ref l, .int 0 0] }).objs.size)))
        { s with heap := (s.heap.push { cls := .type "tuple_iterator", data := .fields #[.ref l, .int 0 0] }).push { cls := .type "enumerate", data := .fields #[.none, .bool false, .ref s.heap.objs.size, rawInt 0, .none, .none] } }) :=
  .of_wp fun prog w A R s h => by
    obtain ⟨hp, g, d, tk, os⟩ := s; obtain ⟨hl, h⟩ := h
    have hsub := sub_enumerate
    have hL : Heap.IsTuple (Shared.heap ⟨hp, g, d, tk, os⟩) l items := hl
    wp_walk using wpAny_pyIter_tuple hL
    refine wpAny_stack_any fun st => wpAny_pure ?_
    split
    · rename_i c _ _ _ _ _
      cases (c == Value.type "enumerate")
      · wp_walk using wpAny_pyIter_tuple hL
        exact ⟨_, rfl, h⟩
      · wp_walk using wpAny_pyIter_tuple hL
        exact ⟨_, rfl, h⟩
    · wp_walk using wpAny_pyIter_tuple hL
      exact ⟨_, rfl, h⟩
section
variable {prog : Program} {w : World} {A : Around} {E : Value → Shared → Prop} {s : Shared}
theorem call_enumerate_tuple {l : Addr} {items : Array Value} {Q : Value → Shared → Prop} (hL : s.heap.IsTuple l items)
    (h : ∀ h', IsEnum h' (s.heap.objs.size + 1) s.heap.objs.size 0 .none → h'.IsTupleIter s.heap.objs.size l 0 → h'.objs.size = s.heap.objs.size + 2 →
      (∀ b o, s.heap.get? b = some o → h'.get? b = some o) → Q (.ref (s.heap.objs.size + 1)) { s with heap := h' }) :
    wpAny (model prog w) A (call (.type "enumerate") [.ref l]) Q E s := by
  refine callType_new F.called_enumerate (by decide) (F.typeCall_enumerate_1 _) (F.newCall_enumerate_1 _) (fun obj => F.args_object_init_2 obj _) F.entry_enumerate_new
    (meets_enumerate_newT l items) ⟨hL, ?_⟩
  have hz : (s.heap.push { cls := .type "tuple_iterator", data := .fields #[.ref l, .int 0 0] }).objs.size = s.heap.objs.size + 1 := Heap.size_push ..
  show _ ∧ _
  rw [hz]
  have he : IsEnum ((s.heap.push { cls := .type "tuple_iterator", data := .fields #[.ref l, .int 0 0] }).push
      { cls := .type "enumerate", data := .fields #[.none, .bool false, .ref s.heap.objs.size, rawInt 0, .none, .none] }) (s.heap.objs.size + 1) s.heap.objs.size 0 .none := by
    have := Heap.get?_push_size (s.heap.push { cls := .type "tuple_iterator", data := .fields #[.ref l, .int 0 0] })
      (o := { cls := .type "enumerate", data := .fields #[.none, .bool false, .ref s.heap.objs.size, rawInt 0, .none, .none] }) rfl
    rw [hz] at this; exact this
  refine ⟨⟨_, he, rfl⟩, h _ he ⟨_, Heap.get?_push_of_some _ (Heap.get?_push_size _ rfl), rfl, rfl⟩ (by rw [Heap.size_push, hz]) fun b o x => Heap.get?_push_of_some _ (Heap.get?_push_of_some _ x)⟩
end
open PySem.Spec L2
/-- the tuple at a, each item in a new pair -/
def IteT (K : PySem.W.Frag) (a : Addr) : It :=
  ⟨fun i H => ∃ (xs : List V) (x : V), SqT K H a xs ∧ xs[i]? = some x, fun i H v H' => ∃ T x, v = .ref T ∧ H T = none ∧ H' = upd H T (.tup [.int (i : Nat), x]) ∧ ∀ xs, SqT K H a xs → xs[i]? = some x, fun i H => ∃ xs : List V, SqT K H a xs ∧ xs.length ≤ i⟩
theorem turn_enumT {P : Program} {w : World} {K : PySem.W.Frag} {elts : List Expr} {kk : Nat} {tpos : Pos} (a e it : Addr) :
    Turn P w K (.Tuple elts kk tpos) (IteT K a) [e, it] e (fun i h => (∃ old, IsEnum h e it ((i : Nat) : Int) old) ∧ h.IsTupleIter it a i ∧ e ≠ it) where
  mem := by simp
  obj := fun i h st b hb => by
    obtain ⟨⟨old, he⟩, ⟨o, ho, hc, hd⟩, _⟩ := st
    have e' : b = e ∨ b = it := by simpa using hb
    rcases e' with z | z
    · rw [z]; exact ⟨_, he, fun v q => nomatch q⟩
    · rw [z]; exact ⟨o, ho, fun v q => by rw [hd] at q; cases q⟩
  keep := fun i h h' st k => let ⟨⟨old, he⟩, hi, hne⟩ := st; ⟨⟨old, k e (by simp) _ he⟩, hi.at fun o q => k it (by simp) o q, hne⟩
  item := by
    intro X hP hw hK hc i pins s σ H E I hf st hg
    subst hP hw hK
    obtain ⟨⟨old, he⟩, hit, hne⟩ := st
    obtain ⟨xs, x, hq, hx⟩ := hg
    obtain ⟨its, rv, p, hz⟩ := I.tuple hq
    obtain ⟨u, hu, ru⟩ := rv.get hx
    have hel : e < s.heap.objs.size := Heap.lt_size he
    have hil : it < s.heap.objs.size := by obtain ⟨_, q, _⟩ := hit; exact Heap.lt_size q
    have hai : a ≠ it := fun z => by
      obtain ⟨o, q, c, _⟩ := p
      obtain ⟨o', q', c', _⟩ := hit
      rw [z, q'] at q; cases q
      rw [c'] at c; exact absurd c (by decide)
    have hae : a ≠ e := fun z => by
      obtain ⟨o, q, c, _⟩ := p
      rw [z, he] at q; cases q
      exact absurd (show Value.type "enumerate" = Value.type "tuple" from c) (by decide)
    refine wpAny_pyNext_enum_itemD (draws_tuple (A := X.A.in1) (I.ok.hd hc) it a hai its.toArray) he ⟨hit, p⟩ (by simpa using (List.getElem?_eq_some_iff.mp hu).1) hne (fun z => by
      have e' : e = it ∨ e = a := by simpa using z
      exact e'.elim hne fun z => hae z.symm) fun y h' tk hy ho hst hT hsz hk => ?_
    have ey : y = u := by
      have hy : its.toArray[i]? = some y := hy
      rw [List.getElem?_toArray, hu] at hy
      exact (Option.some.inj hy).symm
    subst ey
    refine ⟨_, rfl, wpAny_letOwnedTupleGo_enum (s := { s with heap := h', toks := tk + 1 }) ho fun h'' he' sb => ?_⟩
    have hT2 : h''.get? s.heap.objs.size = some { cls := .type "tuple", data := .seq #[.int i tk, y] } := (sb.2 _ (Nat.ne_of_gt hel)).trans hT
    have new : ObjOk X.prog X.w (upd H s.heap.objs.size (.tup [.int (i : Nat), x])) h'' s.heap.objs.size (.tup [.int (i : Nat), x]) :=
      ⟨by show 2 ≤ sizeLine; decide, [.int i tk, y], .cons ⟨_, rfl⟩ (.cons ru .nil), ⟨_, hT2, rfl, _, rfl⟩⟩
    have I1 : Inv X pins σ (upd H s.heap.objs.size (.tup [.int (i : Nat), x])) { s with heap := h'', toks := tk + 1 } :=
      I.turnedNew (t' := tk + 1) (ch := [e, it]) (fun b ob hb q => (sb.2 b (fun z => hb (by simp [z]))).trans (hk b ob (fun z => hb (by simp [z])) (fun z => hb (by simp [z])) q)) hf (Nat.le_refl _) new
    refine ⟨.ref s.heap.objs.size, _, I1, rfl, ⟨_, x, rfl, I.hok.fresh (Nat.le_refl _), rfl, fun ys hy => by rw [I.tuple_inj hy hq]; exact hx⟩, ⟨⟨y, ?_⟩, hst.1.at fun o q => (sb.2 it (Ne.symm hne)).trans q, hne⟩, fun b hb => ?_⟩
    · have e1 : ((i + 1 : Nat) : Int) = (i : Int) + 1 := by omega
      rw [e1]; exact he'
    · have hb' : b < s.heap.objs.size := by
        have e' : b = e ∨ b = it := by simpa using hb
        rcases e' with z | z
        · rw [z]; exact hel
        · rw [z]; exact hil
      rw [upd_ne (Nat.ne_of_lt hb')]
      exact (hf b hb).1
  done := by
    intro X hP hw hK hc i pins s σ H E I hf st hg
    subst hP hw hK
    obtain ⟨⟨old, he⟩, hit, hne⟩ := st
    obtain ⟨xs, hq, hx⟩ := hg
    obtain ⟨its, rv, p, hz⟩ := I.tuple hq
    obtain ⟨f0, f1, f2, f3, f4, f5⟩ := hf it (by simp)
    have hl := rv.length
    have hT : s.TypeIs (.ref e) "enumerate" := ⟨_, he, rfl⟩
    show wpAny _ X.A (pyNext (.ref e)) _ E s
    unfold pyNext
    refine wpAny_bind (wpAny_attempt (wpAny_callSpecial?_slot (name := Str.ofString "__next__") hT F.slot_enumerate_next
      (wpAny_call_entry F.slot_enumerate_next hT F.entry_enumerate_next ?_ (F.args_enumerate_next_1 _))))
    show wpAny _ _ (field (.ref e) 2 >>= _) _ _ _
    refine wpAny_bind (wpAny_field he rfl (x := .ref it) rfl ?_)
    refine wpAny_bind (RZ.nextOf_tuple_end (A := X.A.in1) (I.ok.hd hc) hit p (by simp; omega) fun h' x he' hx' => ?_)
    obtain ⟨o, ho, hcx⟩ := hx'
    refine wpAny_bind (wpAny_isInstance (T := "StopIteration") (b := true) ⟨o, ho, hcx⟩ isSubtype_stop ?_)
    exact wpAny_pure ⟨rfl, I.turned (t' := s.toks) (fun b o hb q => he' b o hb q) f0 f1 f3 f4 f5⟩
  self := fun A i s Q E st h => let ⟨⟨_, he⟩, _⟩ := st; wpAny_pyIter_enum he h
/-- enumerate(x), x a list or a tuple -/
def iEnumA (K : PySem.W.Frag) (ta : TA) : TI := fun σ H R => ta σ H fun vs H1 => ∃ a xs, vs = [.ref a] ∧ ((SqL K H1 a xs ∧ R (Ite K a) H1) ∨ (SqT K H1 a xs ∧ R (IteT K a) H1))
theorem pi_enumA {X : Cx} {e : Expr} {ta : TA} {p pos tpos : Pos} {elts : List Expr} {kk : Nat} (hg : Gl X "enumerate") (hm : X.mg "enumerate" = none) (ha : PA X [e] ta) (hs : starEach [e] X.env = [(false, eval e X.env)] := by rfl) :
    PI X (.Tuple elts kk tpos) (.Call (.Name "enumerate" p) [e] [] pos) (iEnumA X.K ta) := by
  refine ⟨fun pins s σ H R I h => ?_⟩
  refine Call_ (ld_blt I hg hm boot_enumerate (PyProof.Rows.callWith_type1 (thn (ha.run pos pins s σ H _ I h) fun us s1 ⟨vs, H1, I1, r1, q1⟩ => ?_) hs rfl))
  obtain ⟨a, xs, ex, q1⟩ := q1
  subst ex
  have fin : ∀ {b : Addr}, (b = s1.heap.objs.size + 1 ∨ b = s1.heap.objs.size) → FpOk X pins H1 b := fun {b} e' => by
    have hle : s1.heap.objs.size ≤ b := by
      rcases e' with z | z
      · rw [z]; exact Nat.le_add_right _ _
      · rw [z]; exact Nat.le_refl _
    exact I1.fpOk hle (I1.hok.fresh hle)
  cases r1 with
  | cons r rr =>
    cases rr
    cases r
    rcases q1 with ⟨hq, q⟩ | ⟨hq, q⟩
    · obtain ⟨its, rv, p', hz⟩ := I1.list hq
      refine call_enumerate_list p'.isList fun h' he hit hsz hk => wpAny_pyIter_enum he ?_
      have I2 : Inv X pins σ H1 { s1 with heap := h' } := I1.kept (t' := s1.toks) hk
      exact ⟨s1.heap.objs.size + 1, [s1.heap.objs.size + 1, s1.heap.objs.size], _, _, H1, rfl, I2, turn_enum a (s1.heap.objs.size + 1) s1.heap.objs.size, ⟨⟨.none, he⟩, hit, Nat.succ_ne_self _⟩, fun b hb => fin (by simpa using hb), q⟩
    · obtain ⟨its, rv, p', hz⟩ := I1.tuple hq
      refine call_enumerate_tuple p' fun h' he hit hsz hk => wpAny_pyIter_enum he ?_
      have I2 : Inv X pins σ H1 { s1 with heap := h' } := I1.kept (t' := s1.toks) hk
      exact ⟨s1.heap.objs.size + 1, [s1.heap.objs.size + 1, s1.heap.objs.size], _, _, H1, rfl, I2, turn_enumT a (s1.heap.objs.size + 1) s1.heap.objs.size, ⟨⟨.none, he⟩, hit, Nat.succ_ne_self _⟩, fun b hb => fin (by simpa using hb), q⟩
theorem walk_enumT {K : PySem.W.Frag} {a : Addr} {xs : List V} : Walk (IteT K a) xs.length (fun H => SqT K H a xs) (YPair (fun i => some (.int (i : Nat))) (fun i => xs[i]?)) := by
  refine ⟨fun i _ hi q => ⟨xs, xs[i], q, by simp [hi]⟩, fun _ q => ⟨xs, q, Nat.le_refl _⟩, fun i H v H' _ q y => ?_⟩
  obtain ⟨T, x, h1, h2, h3, h4⟩ := y
  exact ⟨T, .int (i : Nat), x, h1, h2, h3, rfl, h4 xs q⟩
/-- a list or a tuple, walked -/
def iSeq (K : PySem.W.Frag) (tl : TE) : TI := fun σ H R => tl σ H fun x H1 => ∃ a xs, x = .ref a ∧ ((SqL K H1 a xs ∧ R (Itl K a) H1) ∨ (SqT K H1 a xs ∧ R (Itt K a) H1))
theorem pi_seq {X : Cx} {tg l : Expr} {tl : TE} (hl : PE X l tl) : PI X tg l (iSeq X.K tl) := by
  refine ⟨fun pins s σ H R I h => ?_⟩
  refine thn (hl.run pins s σ H _ I h) fun v s1 ⟨x, H1, I1, r1, q1⟩ => ?_
  obtain ⟨a, xs, e, q⟩ := q1
  subst e
  cases r1
  rcases q with ⟨hq, q⟩ | ⟨hq, q⟩
  · obtain ⟨its, rv, p, hz⟩ := I1.list hq
    refine wpAny_pyIter_list p.isList ?_
    refine ⟨s1.heap.objs.size, [s1.heap.objs.size], _, _, H1, rfl, I1.kept (t' := s1.toks) fun b o e => Heap.get?_push_of_some _ e, turn_list a _, ⟨_, Heap.get?_push_size _ rfl, rfl, rfl⟩, fun b hb => ?_, q⟩
    have e : b = s1.heap.objs.size := by simpa using hb
    subst e
    exact I1.fpOk (Nat.le_refl _) (I1.hok.fresh (Nat.le_refl _))
  · obtain ⟨its, rv, p, hz⟩ := I1.tuple hq
    refine wpAny_pyIter_tuple (show s1.heap.IsTuple a its.toArray from p) ?_
    refine ⟨s1.heap.objs.size, [s1.heap.objs.size], _, _, H1, rfl, I1.kept (t' := s1.toks) fun b o e => Heap.get?_push_of_some _ e, turn_tuple a _, ⟨_, Heap.get?_push_size _ rfl, rfl, rfl⟩, fun b hb => ?_, q⟩
    have e : b = s1.heap.objs.size := by simpa using hb
    subst e
    exact I1.fpOk (Nat.le_refl _) (I1.hok.fresh (Nat.le_refl _))
end RR

/-! RE: sums of lists, tuples, texts; what is walked; comprehensions -/
namespace RR
open PySem PySem.Spec PyProof.Rows L2

/-! ### lists that are tracked, looked at: names that own one, too -/
def JD (X : Cx) (C : Cn) (e : Expr) (t : DT C.W.M) : Prop := ∃ te, PE X e te ∧
  ∀ σ H Pr F ρ m Q Z (R : VK), SR X.K C Pr F σ ρ m H → Ex X C Pr F H σ Z → t ρ m Q Z →
    (∀ v H', (∃ Pr' F' m' d, SR X.K C Pr' F' σ ρ m' H' ∧ Te Pr F H Pr' F' H' ∧ Dn true X.K F' (wv F' H') v d ∧ Q d m') → R v H') → te σ H R
section
variable {X : Cx} {C : Cn} {e a b : Expr} {pos : Pos}
theorem J.sd {t : DT C.W.M} (h : J .s X C e t) : JD X C e t := by
  obtain ⟨te, p, q⟩ := h
  exact ⟨te, p, fun σ H Pr F ρ m Q Z R S E h k => q σ H Pr F ρ m Q Z R S E h fun v H' ⟨P1, F1, m1, d, S1, t1, dv, z⟩ => k v H' ⟨P1, F1, m1, d, S1, t1, Dn.mono ⟨[], by simp⟩ S1.sv_wv dv, z⟩⟩
theorem J.fd {t : DT C.W.M} (h : J .f X C e t) : JD X C e t := h.sf.sd
theorem jd_own (i : Nat) {x : Str} (hN : X.N[i]? = some x := by rfl) (hv : Vis X.env.scope x := by first | exact Or.inl rfl | exact Or.inr (Or.inl rfl) | exact Or.inr (Or.inr rfl)) (hd : (x == ("__debug__" : Str)) = false := by decide)
    (hcd : (x == ("__classdict__" : Str)) = false := by decide) : JD X C (.Name x pos) (dOwn i) := by
  refine ⟨_, pe_var hN hv hd hcd, fun σ H Pr F ρ m Q Z R S E h k => ?_⟩
  unfold dOwn at h
  split at h
  · rename_i d e
    obtain ⟨p, vs, e1, hp, pp, nf, q, n⟩ := S.slot i _ e
    exact ⟨.ref p, e1, k _ _ ⟨Pr, F, m, .lst d, S, Te.refl, .lst (vw_iff.mpr ⟨hp, nf⟩) (q.mono ⟨[], by simp⟩ S.sv_wv), h⟩⟩
  · exact h.elim
theorem Dn.ted {K : PySem.W.Frag} {Pr Pr1 : Addr → Prop} {F F1 : List Addr} {H H1 : Hp} {v : V} {d : D} (t : Te Pr F H Pr1 F1 H1) (h : Dn true K F (wv F H) v d) : Dn true K F1 (wv F1 H1) v d := h.mono t.pre (wv_te t)
def OpD (X : Cx) (C : Cn) (f : Value → Value → Sem Value) (g : G2) : Prop := ∃ r, OpR X f r ∧
  ∀ σ H Pr F ρ m x y dx dy Q (R : VK), SR X.K C Pr F σ ρ m H → Dn true X.K F (wv F H) x dx → Dn true X.K F (wv F H) y dy → g dx dy (fun d => Q d m) → (∀ v H', Post X.K C .f Pr F H σ ρ Q v H' → R v H') → r x y H R
theorem j_bind {op : Operator} {g : G2} {ta tb : DT C.W.M} (o : OpD X C (binaryOp op) g) (ha : JD X C a ta) (hb : JD X C b tb) : J .f X C (.BinOp a op b pos) (dBin g ta tb) := by
  obtain ⟨r, ho, q⟩ := o
  obtain ⟨te, p, q1⟩ := ha
  obtain ⟨te', p', q2⟩ := hb
  refine ⟨_, pe_op ho p p', fun σ H Pr F ρ m Q Z R S E h k => ?_⟩
  refine q1 σ H Pr F ρ m _ Z _ S E h fun v H1 ⟨P1, F1, m1, d, S1, t1, dv, z⟩ => ?_
  refine q2 σ H1 P1 F1 ρ m1 _ Z _ S1 (E.te t1.toTr) z fun w H2 ⟨P2, F2, m2, d2, S2, t2, dv2, z2⟩ => ?_
  exact q σ H2 P2 F2 ρ m2 v w d d2 Q R S2 (dv.ted t2) dv2 z2 fun v H' z => k v H' ((z.te t2).te t1)
def gAdd : G2 := fun x y Q => match x, y with
  | .int i, .int j => Q (.int (i + j))
  | .lst xs, .lst ys => xs.length + ys.length ≤ sizeLine ∧ D.nls xs = true ∧ D.nls ys = true ∧ Q (.lst (xs ++ ys))
  | .tup xs, .tup ys => xs.length + ys.length ≤ sizeLine ∧ D.nls xs = true ∧ D.nls ys = true ∧ Q (.tup (xs ++ ys))
  | .str s, .str t => s.length + t.length ≤ sizeLine ∧ Q (.str (s ++ t))
  | _, _ => False
theorem nls_app {xs ys : List D} (h : D.nls xs = true) (h' : D.nls ys = true) : D.nls (xs ++ ys) = true := nls_all.mpr fun d hd => (List.mem_append.mp hd).elim (nls_all.mp h d) (nls_all.mp h' d)
theorem okd_add : OpD X C (binaryOp .Add) gAdd := by
  refine ⟨_, op_add.or (op_cat.or (op_catA.or op_add_str)), fun σ H Pr F ρ m x y dx dy Q R S hx hy q k => ?_⟩
  unfold gAdd at q
  split at q
  · rw [hx.toInt, hy.toInt]
    exact .inl ⟨_, _, rfl, rfl, k _ _ (post_here S (.int _) (fun _ h => nomatch h) q)⟩
  · obtain ⟨q1, q2, q3, q⟩ := q
    cases hx with
    | lst h r =>
      cases hy with
      | lst h' r' =>
        refine .inr (.inl ⟨_, _, _, _, rfl, rfl, wv_le h, wv_le h', by rw [r.length, r'.length]; exact q1, fun p hp => k _ _ (post_new S hp ?_ q)⟩)
        exact ((r.weak).app r'.weak).up (nls_app q2 q3)
  · obtain ⟨q1, q2, q3, q⟩ := q
    cases hx with
    | tup h r =>
      cases hy with
      | tup h' r' =>
        have s1 := (Dn.tup h r).weak.up (C := C) (Pr := Pr) (show D.nl (.tup _) = true from q2)
        have s2 := (Dn.tup h' r').weak.up (C := C) (Pr := Pr) (show D.nl (.tup _) = true from q3)
        refine .inr (.inr (.inl ⟨_, _, _, _, rfl, rfl, (h.mono fun a xs => wv_le).sq, (h'.mono fun a xs => wv_le).sq, by rw [r.length, r'.length]; exact q1, fun e => k _ _ ?_, fun _ e => k _ _ ?_, fun _ _ p hp => k _ _ (post_newT S hp ?_ q)⟩))
        · subst e
          cases r
          exact post_here S s2 (fun _ h => nomatch h) q
        · subst e
          cases r'
          rw [List.append_nil] at q
          exact post_here S s1 (fun _ h => nomatch h) q
        · exact ((r.weak).app r'.weak).up (nls_app q2 q3)
  · cases hx
    cases hy
    exact .inr (.inr (.inr ⟨_, _, rfl, rfl, q.1, k _ _ (post_here S (.str _) (fun _ h => nomatch h) q.2)⟩))
  · exact q.elim
def rep (k : Int) (xs : List D) : List D := (List.replicate k.toNat xs).flatten
def gMul : G2 := fun x y Q => match x, y with
  | .int i, .int j => IntMulOk i j ∧ Q (.int (i * j))
  | .lst xs, .int k => -(2 ^ 63) ≤ k ∧ k < 2 ^ 63 ∧ xs.length * k.toNat ≤ sizeLine ∧ D.nls xs = true ∧ Q (.lst (rep k xs))
  | .tup xs, .int k => xs ≠ [] ∧ 2 ≤ k ∧ k ≤ 1000 ∧ xs.length ≤ 1000 ∧ D.nls xs = true ∧ Q (.tup (rep k xs))
  | _, _ => False
theorem nls_rep {xs : List D} {k : Int} (h : D.nls xs = true) : D.nls (rep k xs) = true := nls_sub h fun d hd => by
  obtain ⟨l, hl, hd⟩ := List.mem_flatten.mp hd
  rw [List.eq_of_mem_replicate hl] at hd
  exact hd
theorem okd_mul : OpD X C (binaryOp .Mult) gMul := by
  refine ⟨_, op_mulA.or (op_rep.or op_repT), fun σ H Pr F ρ m x y dx dy Q R S hx hy q k => ?_⟩
  unfold gMul at q
  split at q
  · rw [hx.toInt, hy.toInt]
    exact .inl ⟨_, _, rfl, rfl, q.1, k _ _ (post_here S (.int _) (fun _ h => nomatch h) q.2)⟩
  · obtain ⟨q1, q2, q3, q4, q⟩ := q
    cases hx with
    | lst h r =>
      refine .inr (.inl ⟨_, _, _, rfl, hy.toInt, wv_le h, q1, q2, by rw [r.length]; exact q3, fun p hp => k _ _ (post_new S hp ?_ q)⟩)
      exact ((r.weak).rep _).up (nls_rep q4)
  · obtain ⟨q1, q2, q3, q4, q5, q⟩ := q
    cases hx with
    | tup h r =>
      refine .inr (.inr ⟨_, _, _, rfl, hy.toInt, (h.mono fun a xs => wv_le).sq, fun e => q1 ?_, q2, q3, by rw [r.length]; exact q4, fun p hp => k _ _ (post_newT S hp ?_ q)⟩)
      · subst e
        cases r
        rfl
      · exact ((r.weak).rep _).up (nls_rep q5)
  · exact q.elim

/-! ### what is walked -/
/-- J walks the items, as long as nothing but what Ts lets happen happens -/
def Wk (K : PySem.W.Frag) (C : Cn) (st : Bool) (Pr : Addr → Prop) (F : List Addr) (H : Hp) (items : List D) (J : It) : Prop := ∃ (G : Hp → Prop) (Y : Nat → Hp → V → Hp → Prop), Walk J items.length G Y ∧
  ∀ Pr' F' H', (if st = true then Tr Pr F H Pr' F' H' else Te Pr F H Pr' F' H') → G H' ∧ ∀ i v H2, Y i H' v H2 → (∀ a o, H' a = some o → H2 a = some o) ∧ ∃ d, items[i]? = some d ∧ Dn true K F' (sv C.H0 Pr' H2) v d
def JI (st : Bool) (X : Cx) (C : Cn) (tg iter : Expr) (t : DTA C.W.M) : Prop := ∃ wi, PI X tg iter wi ∧
  ∀ σ H Pr F ρ m Q Z (R : It → Hp → Prop), SR X.K C Pr F σ ρ m H → Ex X C Pr F H σ Z → t ρ m Q Z →
    (∀ J H', (∃ Pr' F' m' items, SR X.K C Pr' F' σ ρ m' H' ∧ Te Pr F H Pr' F' H' ∧ Wk X.K C st Pr' F' H' items J ∧ Q items m') → R J H') → wi σ H R
def dSeq {M : Type} (n : Bool) (t : DT M) : DTA M := fun ρ m Q Z => t ρ m (fun d m1 => match d with | .lst ds | .tup ds => (n = true → D.nls ds = true) ∧ Q ds m1 | _ => False) Z
theorem tr_of {Pr Pr' : Addr → Prop} {F F' : List Addr} {H H' : Hp} {st : Bool} (t : if st = true then Tr Pr F H Pr' F' H' else Te Pr F H Pr' F' H') : Tr Pr F H Pr' F' H' := by
  cases st with
  | true => exact t
  | false => exact Te.toTr (show Te Pr F H Pr' F' H' from t)
theorem Tp.at {K : PySem.W.Frag} {H0 : Hp} {Pr : Addr → Prop} {H : Hp} {a : Addr} {xs : List V} (h : Tp K (sv H0 Pr H) a xs) : SqT K H a xs := (h.mono fun a xs => sv_le).sq
theorem dn_get {K : PySem.W.Frag} {F : List Addr} {G : Hp} {s : Bool} {vs : List V} {ds : List D} {i : Nat} {v : V} (h : DnA s K F G vs ds) (e : vs[i]? = some v) : ∃ d, ds[i]? = some d ∧ Dn s K F G v d := h.get e
/-- over a list or a tuple that may be kept -/
theorem ji_seq {tg : Expr} {t : DT C.W.M} (h : J .s X C e t) : JI true X C tg e (dSeq false t) := by
  obtain ⟨te, p, q⟩ := h
  refine ⟨_, pi_seq p, fun σ H Pr F ρ m Q Z R S E h k => ?_⟩
  refine q σ H Pr F ρ m _ Z _ S E h fun v H1 ⟨P1, F1, m1, d, S1, t1, dv, z⟩ => ?_
  have dv : Dn true X.K F1 (sv C.H0 P1 H1) v d := dv
  cases dv with
  | lst h r =>
    have h : sv C.H0 P1 H1 _ = some (.lst _) := h
    refine ⟨_, _, rfl, .inl ⟨.inl (.inl (sv_le h)), k _ _ ⟨P1, F1, m1, _, S1, t1, ⟨_, _, by rw [← r.length]; exact walk_list, fun P2 F2 H2 t2 => ⟨SqL.of (K := X.K) (sv_le (sv_tr (tr_of t2) S1.prs _ _ h)), fun i v H3 y => ?_⟩⟩, z.2⟩⟩⟩
    obtain ⟨rfl, e⟩ := y
    exact ⟨fun _ _ h => h, dn_get (DnA.mono (tr_of t2).pre (sv_tr (tr_of t2) S1.prs) r) e⟩
  | tup h r =>
    refine ⟨_, _, rfl, .inr ⟨h.at, k _ _ ⟨P1, F1, m1, _, S1, t1, ⟨_, _, by rw [← r.length]; exact walk_tup, fun P2 F2 H2 t2 => ⟨(h.mono fun a xs => sv_tr (tr_of t2) S1.prs a _).at, fun i v H3 y => ?_⟩⟩, z.2⟩⟩⟩
    obtain ⟨rfl, e⟩ := y
    exact ⟨fun _ _ h => h, dn_get (DnA.mono (tr_of t2).pre (sv_tr (tr_of t2) S1.prs) r) e⟩
  | _ => exact z.elim
theorem Ls.wv {K : PySem.W.Frag} {F : List Addr} {H : Hp} {s : Bool} {a : Addr} {xs : List V} (h : Ls s K (wv F H) a xs) : SqL K H a xs := (h.mono fun _ _ => wv_le).sq
theorem Tp.wv {K : PySem.W.Frag} {F : List Addr} {H : Hp} {a : Addr} {xs : List V} (h : Tp K (wv F H) a xs) : SqT K H a xs := (h.mono fun a xs => wv_le).sq
/-- .. that is looked at (in a comprehension) -/
theorem ji_seqw {tg : Expr} {t : DT C.W.M} (h : J .w X C e t) : JI false X C tg e (dSeq true t) := by
  obtain ⟨te, p, q⟩ := h
  refine ⟨_, pi_seq p, fun σ H Pr F ρ m Q Z R S E h k => ?_⟩
  refine q σ H Pr F ρ m _ Z _ S E h fun v H1 ⟨P1, F1, m1, d, S1, t1, dv, z⟩ => ?_
  have dv : Dn false X.K F1 (wv F1 H1) v d := dv
  cases dv with
  | lst h r =>
    refine ⟨_, _, rfl, .inl ⟨h.wv, k _ _ ⟨P1, F1, m1, _, S1, t1, ⟨_, _, by rw [← r.length]; exact walk_list, fun P2 F2 H2 t2 => ⟨(h.mono (wv_te t2)).wv, fun i v H3 y => ?_⟩⟩, z.2⟩⟩⟩
    obtain ⟨rfl, e⟩ := y
    exact ⟨fun _ _ h => h, dn_get ((DnA.mono (Te.toTr t2).pre (wv_te t2) r).up (z.1 rfl)) e⟩
  | tup h r =>
    refine ⟨_, _, rfl, .inr ⟨h.wv, k _ _ ⟨P1, F1, m1, _, S1, t1, ⟨_, _, by rw [← r.length]; exact walk_tup, fun P2 F2 H2 t2 => ⟨(h.mono fun a xs => wv_te t2 a _).wv, fun i v H3 y => ?_⟩⟩, z.2⟩⟩⟩
    obtain ⟨rfl, e⟩ := y
    exact ⟨fun _ _ h => h, dn_get ((DnA.mono (Te.toTr t2).pre (wv_te t2) r).up (z.1 rfl)) e⟩
  | _ => exact z.elim
/-- a borrowed value stays whatever the body does -/
theorem bor_tr {K : PySem.W.Frag} {Pr Pr' : Addr → Prop} {F F' : List Addr} {σ : L2.St} {ρ : En} {m : C.W.M} {H H' : Hp} (S : SR K C Pr F σ ρ m H) (t : Tr Pr F H Pr' F' H') : ∀ a o, wv C.F0 C.H0 a = some o → wv F' H' a = some o := fun a o h => by
  obtain ⟨e, n⟩ := vw_iff.mp h
  have nf : a ∉ F := fun z => by rw [S.new a z n] at e; cases e
  have np : ¬ Pr a := fun z => by rw [S.prn a z nf] at e; cases e
  have e1 := S.keep a o n e
  refine vw_iff.mpr ⟨t.keep a o np e1, fun z => ?_⟩
  have z := t.fn a z nf
  rw [e1] at z; cases z
/-- over a borrowed list or tuple, in a for -/
theorem ji_bor {tg : Expr} (i : Nat) {x : Str} (hN : X.N[i]? = some x := by rfl) (hv : Vis X.env.scope x := by first | exact Or.inl rfl | exact Or.inr (Or.inl rfl) | exact Or.inr (Or.inr rfl)) (hd : (x == ("__debug__" : Str)) = false := by decide)
    (hcd : (x == ("__classdict__" : Str)) = false := by decide) : JI true X C tg (.Name x pos) (dSeq true (dBor i)) := by
  refine ⟨_, pi_seq (pe_var hN hv hd hcd), fun σ H Pr F ρ m Q Z R S E h k => ?_⟩
  unfold dSeq dBor at h
  split at h
  · rename_i d e
    obtain ⟨v, e1, dv⟩ := S.slot i _ e
    refine ⟨v, e1, ?_⟩
    have b1 := bor_tr S (Tr.refl (Pr := Pr))
    cases dv with
    | lst hl r =>
      refine ⟨_, _, rfl, .inl ⟨(hl.mono b1).wv, k _ _ ⟨Pr, F, m, _, S, Te.refl, ⟨_, _, by rw [← r.length]; exact walk_list, fun P2 F2 H2 t2 => ⟨(hl.mono (bor_tr S t2)).wv, fun i v H3 y => ?_⟩⟩, h.2⟩⟩⟩
      obtain ⟨rfl, e⟩ := y
      exact ⟨fun _ _ h => h, dn_get ((DnA.mono (pre_trans S.pre (tr_of t2).pre) (bor_tr S t2) r).up (h.1 rfl)) e⟩
    | tup hl r =>
      refine ⟨_, _, rfl, .inr ⟨(hl.mono fun a xs => b1 a _).wv, k _ _ ⟨Pr, F, m, _, S, Te.refl, ⟨_, _, by rw [← r.length]; exact walk_tup, fun P2 F2 H2 t2 => ⟨(hl.mono fun a xs => bor_tr S t2 a _).wv, fun i v H3 y => ?_⟩⟩, h.2⟩⟩⟩
      obtain ⟨rfl, e⟩ := y
      exact ⟨fun _ _ h => h, dn_get ((DnA.mono (pre_trans S.pre (tr_of t2).pre) (bor_tr S t2) r).up (h.1 rfl)) e⟩
    | _ => exact h.elim
  · exact h.elim
/-- range(b), range(a, b) -/
def iota (lo : Int) (n : Nat) : List D := (List.range n).map fun k => D.int (lo + (k : Nat))
theorem iota_get {lo : Int} {n i : Nat} (h : i < n) : (iota lo n)[i]? = some (.int (lo + i)) := by
  unfold iota
  rw [List.getElem?_map, List.getElem?_range h]
  rfl
theorem iota_len {lo : Int} {n : Nat} : (iota lo n).length = n := by unfold iota; simp
theorem wk_range {K : PySem.W.Frag} {st : Bool} {Pr : Addr → Prop} {F : List Addr} {H : Hp} {lo : Int} {n : Nat} : Wk K C st Pr F H (iota lo n) (Itr lo n) := by
  refine ⟨_, fun i H x H' => i < n ∧ H' = H ∧ x = .int (lo + i), by rw [iota_len]; exact ⟨walk_range.goes, walk_range.stops, fun i H x H' hi g y => ⟨hi, walk_range.yields i H x H' hi g y⟩⟩, fun P2 F2 H2 t2 => ⟨trivial, fun i v H3 y => ?_⟩⟩
  obtain ⟨hi, rfl, rfl⟩ := y
  exact ⟨fun _ _ h => h, _, iota_get hi, .int _⟩
def dRng1 {M : Type} (t : DTA M) : DTA M := fun ρ m Q Z => t ρ m (fun ds m1 => match ds with | [.int j] => -(2 ^ 62) ≤ j ∧ j < 2 ^ 62 ∧ Q (iota 0 j.toNat) m1 | _ => False) Z
def dRng2 {M : Type} (t : DTA M) : DTA M := fun ρ m Q Z => t ρ m (fun ds m1 => match ds with | [.int i, .int j] => (-(2 ^ 62) ≤ i ∧ i < 2 ^ 62 ∧ -(2 ^ 62) ≤ j ∧ j < 2 ^ 62) ∧ Q (iota i (j - i).toNat) m1 | _ => False) Z
theorem dnA1 {s : Bool} {K : PySem.W.Frag} {F : List Addr} {G : Hp} {vs : List V} {j : Int} (h : DnA s K F G vs [.int j]) : vs = [.int j] := by
  cases h with
  | cons h r =>
    cases r
    cases h
    rfl
theorem dnA2 {s : Bool} {K : PySem.W.Frag} {F : List Addr} {G : Hp} {vs : List V} {i j : Int} (h : DnA s K F G vs [.int i, .int j]) : vs = [.int i, .int j] := by
  cases h with
  | cons h r =>
    cases h
    rw [dnA1 r]
theorem ji_range1 {st : Bool} {tg : Expr} {t : DTA C.W.M} {p : Pos} (hm : X.mg "range" = none) (ha : JA .w X C [a] t) (hg : Gl X "range" := by rfl) (hs : starEach [a] X.env = [(false, eval a X.env)] := by rfl) : JI st X C tg (.Call (.Name "range" p) [a] [] pos) (dRng1 t) := by
  obtain ⟨te, pa, q⟩ := ha
  refine ⟨_, pi_range1 hg hm pa hs, fun σ H Pr F ρ m Q Z R S E h k => ?_⟩
  refine q σ H Pr F ρ m _ Z _ S E h fun vs H1 ⟨P1, F1, m1, ds, S1, t1, dv, z⟩ => ?_
  have dv : DnA false X.K F1 (wv F1 H1) vs ds := dv
  dsimp only at z
  split at z
  · exact ⟨_, dnA1 dv, z.1, z.2.1, k _ _ ⟨P1, F1, m1, _, S1, t1, wk_range, z.2.2⟩⟩
  · exact z.elim
theorem ji_range2 {st : Bool} {tg : Expr} {t : DTA C.W.M} {p : Pos} (hm : X.mg "range" = none) (ha : JA .w X C [a, b] t) (hg : Gl X "range" := by rfl) (hs : starEach [a, b] X.env = [(false, eval a X.env), (false, eval b X.env)] := by rfl) (hs2 : starEach [b] X.env = [(false, eval b X.env)] := by rfl) :
    JI st X C tg (.Call (.Name "range" p) [a, b] [] pos) (dRng2 t) := by
  obtain ⟨te, pa, q⟩ := ha
  refine ⟨_, pi_range2 hg hm pa hs hs2, fun σ H Pr F ρ m Q Z R S E h k => ?_⟩
  refine q σ H Pr F ρ m _ Z _ S E h fun vs H1 ⟨P1, F1, m1, ds, S1, t1, dv, z⟩ => ?_
  have dv : DnA false X.K F1 (wv F1 H1) vs ds := dv
  dsimp only at z
  split at z
  · exact ⟨_, _, dnA2 dv, z.1, k _ _ ⟨P1, F1, m1, _, S1, t1, wk_range, z.2⟩⟩
  · exact z.elim
/-- enumerate(x) -/
def enumD (n : Nat) : List D → List D
  | [] => []
  | d :: r => .tup [.int (n : Nat), d] :: enumD (n + 1) r
theorem enum_len : ∀ {n : Nat} {ds : List D}, (enumD n ds).length = ds.length
  | _, [] => rfl
  | n, _ :: r => congrArg (· + 1) (enum_len (n := n + 1) (ds := r))
theorem enum_get : ∀ {n : Nat} {ds : List D} {i : Nat} {d : D}, ds[i]? = some d → (enumD n ds)[i]? = some (.tup [.int ((n + i : Nat) : Int), d])
  | _, [], _, _, h => by simp at h
  | n, x :: r, 0, d, h => by simp at h; subst h; rfl
  | n, x :: r, i + 1, d, h => by
    have := enum_get (n := n + 1) (ds := r) (i := i) (d := d) (by simpa using h)
    rw [show n + 1 + i = n + (i + 1) by omega] at this
    exact this
def dEnum {M : Type} (n : Bool) (t : DT M) : DTA M := fun ρ m Q Z => dSeq n t ρ m (fun ds m1 => Q (enumD 0 ds) m1) Z
/-- a pair just made -/
theorem pair_dn {K : PySem.W.Frag} {Pr : Addr → Prop} {F : List Addr} {H : Hp} {T : Addr} {x y : V} {dx dy : D} (nT : H T = none) (hx : Dn true K F (sv C.H0 Pr H) x dx) (hy : Dn true K F (sv C.H0 Pr H) y dy) : (∀ a o, H a = some o → upd H T (.tup [x, y]) a = some o) ∧ Dn true K F (sv C.H0 Pr (upd H T (.tup [x, y]))) (.ref T) (.tup [dx, dy]) := by
  have k : ∀ a o, H a = some o → upd H T (.tup [x, y]) a = some o := fun a o e => by rw [upd_ne (ne_of_none e nT)]; exact e
  have up : ∀ a o, sv C.H0 Pr H a = some o → sv C.H0 Pr (upd H T (.tup [x, y])) a = some o := fun a o e => by
    obtain ⟨e, q⟩ := vw_iff.mp e
    exact vw_iff.mpr ⟨k a o e, q⟩
  exact ⟨k, .tup (.inl (vw_iff.mpr ⟨upd_same, .inl trivial⟩)) (.cons (hx.mono ⟨[], by simp⟩ up) (.cons (hy.mono ⟨[], by simp⟩ up) .nil))⟩
theorem wk_enumL {K : PySem.W.Frag} {st : Bool} {Pr : Addr → Prop} {F : List Addr} {H : Hp} {a : Addr} {xs : List V} {ds : List D} (hl : xs.length = ds.length)
    (g : ∀ Pr' F' H', (if st = true then Tr Pr F H Pr' F' H' else Te Pr F H Pr' F' H') → SqL K H' a xs ∧ DnA true K F' (sv C.H0 Pr' H') xs ds) : Wk K C st Pr F H (enumD 0 ds) (Ite K a) := by
  refine ⟨_, _, by rw [enum_len, ← hl]; exact walk_enum (xs := xs), fun P2 F2 H2 t2 => ⟨(g P2 F2 H2 t2).1, fun i v H3 y => ?_⟩⟩
  obtain ⟨T, x, z, rfl, nT, rfl, e1, e2⟩ := y
  cases e1
  obtain ⟨d, e, h⟩ := dn_get (g P2 F2 H2 t2).2 e2
  obtain ⟨k, h2⟩ := pair_dn nT (.int ((i : Nat) : Int)) h
  exact ⟨k, _, by rw [enum_get e, Nat.zero_add], h2⟩
theorem wk_enumT {K : PySem.W.Frag} {st : Bool} {Pr : Addr → Prop} {F : List Addr} {H : Hp} {a : Addr} {xs : List V} {ds : List D} (hl : xs.length = ds.length)
    (g : ∀ Pr' F' H', (if st = true then Tr Pr F H Pr' F' H' else Te Pr F H Pr' F' H') → SqT K H' a xs ∧ DnA true K F' (sv C.H0 Pr' H') xs ds) : Wk K C st Pr F H (enumD 0 ds) (IteT K a) := by
  refine ⟨_, _, by rw [enum_len, ← hl]; exact walk_enumT (xs := xs), fun P2 F2 H2 t2 => ⟨(g P2 F2 H2 t2).1, fun i v H3 y => ?_⟩⟩
  obtain ⟨T, x, z, rfl, nT, rfl, e1, e2⟩ := y
  cases e1
  obtain ⟨d, e, h⟩ := dn_get (g P2 F2 H2 t2).2 e2
  obtain ⟨k, h2⟩ := pair_dn nT (.int ((i : Nat) : Int)) h
  exact ⟨k, _, by rw [enum_get e, Nat.zero_add], h2⟩
theorem ji_enum {t : DT C.W.M} {p tpos : Pos} {elts : List Expr} {kk : Nat} (h : J .s X C e t) (hm : X.mg "enumerate" = none) (hg : Gl X "enumerate" := by rfl) (hs : starEach [e] X.env = [(false, eval e X.env)] := by rfl) :
    JI true X C (.Tuple elts kk tpos) (.Call (.Name "enumerate" p) [e] [] pos) (dEnum false t) := by
  obtain ⟨te, pe, q⟩ := h
  refine ⟨_, pi_enumA hg hm (pa_cons pe pa_nil hs) hs, fun σ H Pr F ρ m Q Z R S E h k => ?_⟩
  refine q σ H Pr F ρ m _ Z _ S E h fun v H1 ⟨P1, F1, m1, d, S1, t1, dv, z⟩ => ?_
  have dv : Dn true X.K F1 (sv C.H0 P1 H1) v d := dv
  cases dv with
  | lst h r =>
    have h : sv C.H0 P1 H1 _ = some (.lst _) := h
    exact ⟨_, _, rfl, .inl ⟨.inl (.inl (sv_le h)), k _ _ ⟨P1, F1, m1, _, S1, t1, wk_enumL r.length fun P2 F2 H2 t2 => ⟨.inl (.inl (sv_le (sv_tr (tr_of t2) S1.prs _ _ h))), DnA.mono (tr_of t2).pre (sv_tr (tr_of t2) S1.prs) r⟩, z.2⟩⟩⟩
  | tup h r =>
    exact ⟨_, _, rfl, .inr ⟨h.at, k _ _ ⟨P1, F1, m1, _, S1, t1, wk_enumT r.length fun P2 F2 H2 t2 => ⟨(h.mono fun a xs => sv_tr (tr_of t2) S1.prs a _).at, DnA.mono (tr_of t2).pre (sv_tr (tr_of t2) S1.prs) r⟩, z.2⟩⟩⟩
  | _ => exact z.elim
theorem ji_enumw {t : DT C.W.M} {p tpos : Pos} {elts : List Expr} {kk : Nat} (h : J .w X C e t) (hm : X.mg "enumerate" = none) (hg : Gl X "enumerate" := by rfl) (hs : starEach [e] X.env = [(false, eval e X.env)] := by rfl) :
    JI false X C (.Tuple elts kk tpos) (.Call (.Name "enumerate" p) [e] [] pos) (dEnum true t) := by
  obtain ⟨te, pe, q⟩ := h
  refine ⟨_, pi_enumA hg hm (pa_cons pe pa_nil hs) hs, fun σ H Pr F ρ m Q Z R S E h k => ?_⟩
  refine q σ H Pr F ρ m _ Z _ S E h fun v H1 ⟨P1, F1, m1, d, S1, t1, dv, z⟩ => ?_
  have dv : Dn false X.K F1 (wv F1 H1) v d := dv
  cases dv with
  | lst h r =>
    exact ⟨_, _, rfl, .inl ⟨h.wv, k _ _ ⟨P1, F1, m1, _, S1, t1, wk_enumL r.length fun P2 F2 H2 t2 => ⟨(h.mono (wv_te t2)).wv, (DnA.mono (Te.toTr t2).pre (wv_te t2) r).up (z.1 rfl)⟩, z.2⟩⟩⟩
  | tup h r =>
    exact ⟨_, _, rfl, .inr ⟨h.wv, k _ _ ⟨P1, F1, m1, _, S1, t1, wk_enumT r.length fun P2 F2 H2 t2 => ⟨(h.mono fun a xs => wv_te t2 a _).wv, (DnA.mono (Te.toTr t2).pre (wv_te t2) r).up (z.1 rfl)⟩, z.2⟩⟩⟩
  | _ => exact z.elim
/-- .. of a borrowed one, in a for -/
theorem ji_enumb {p tpos pos' : Pos} {elts : List Expr} {kk : Nat} (i : Nat) {x : Str} (hm : X.mg "enumerate" = none) (hN : X.N[i]? = some x := by rfl) (hv : Vis X.env.scope x := by first | exact Or.inl rfl | exact Or.inr (Or.inl rfl) | exact Or.inr (Or.inr rfl)) (hg : Gl X "enumerate" := by rfl) (hd : (x == ("__debug__" : Str)) = false := by decide)
    (hcd : (x == ("__classdict__" : Str)) = false := by decide) : JI true X C (.Tuple elts kk tpos) (.Call (.Name "enumerate" p) [.Name x pos'] [] pos) (dEnum true (dBor i)) := by
  refine ⟨_, pi_enumA hg hm (pa_cons (pe_var hN hv hd hcd) pa_nil rfl) rfl, fun σ H Pr F ρ m Q Z R S E h k => ?_⟩
  unfold dEnum dSeq dBor at h
  split at h
  · rename_i d e
    obtain ⟨v, e1, dv⟩ := S.slot i _ e
    refine ⟨v, e1, ?_⟩
    have b1 := bor_tr S (Tr.refl (Pr := Pr))
    cases dv with
    | lst hl r =>
      exact ⟨_, _, rfl, .inl ⟨(hl.mono b1).wv, k _ _ ⟨Pr, F, m, _, S, Te.refl, wk_enumL r.length fun P2 F2 H2 t2 => ⟨(hl.mono (bor_tr S t2)).wv, (DnA.mono (pre_trans S.pre (tr_of t2).pre) (bor_tr S t2) r).up (h.1 rfl)⟩, h.2⟩⟩⟩
    | tup hl r =>
      exact ⟨_, _, rfl, .inr ⟨(hl.mono fun a xs => b1 a _).wv, k _ _ ⟨Pr, F, m, _, S, Te.refl, wk_enumT r.length fun P2 F2 H2 t2 => ⟨(hl.mono fun a xs => bor_tr S t2 a _).wv, (DnA.mono (pre_trans S.pre (tr_of t2).pre) (bor_tr S t2) r).up (h.1 rfl)⟩, h.2⟩⟩⟩
    | _ => exact h.elim
  · exact h.elim
end
end RR

/-! RF: zip, reversed, targets, comprehensions -/
namespace RR
open PySem PySem.Spec PyProof.Rows L2 RZ RT
section
variable {X : Cx} {C : Cn} {e a b : Expr} {pos : Pos}
/-! ### zip -/
def zipD : List D → List D → List D
  | x :: xs, y :: ys => .tup [x, y] :: zipD xs ys
  | _, _ => []
theorem zip_len : ∀ {xs ys : List D}, (zipD xs ys).length = min xs.length ys.length
  | [], _ => by simp [zipD]
  | _ :: _, [] => by simp [zipD]
  | _ :: xs, _ :: ys => by rw [zipD, List.length_cons, zip_len]; simp <;> omega
theorem zip_get : ∀ {xs ys : List D} {i : Nat} {x y : D}, xs[i]? = some x → ys[i]? = some y → (zipD xs ys)[i]? = some (.tup [x, y])
  | [], _, _, _, _, h, _ => by simp at h
  | _ :: _, [], _, _, _, _, h => by simp at h
  | a :: xs, b :: ys, 0, x, y, h, h' => by simp at h h'; subst h h'; rfl
  | a :: xs, b :: ys, i + 1, x, y, h, h' => zip_get (xs := xs) (ys := ys) (i := i) (by simpa using h) (by simpa using h')
theorem walk_zipT {K : PySem.W.Frag} {a b : Addr} {xs ys : List V} {n : Nat} (hn : n = min xs.length ys.length) : Walk (ItzT K a b) n (fun H => SqT K H a xs ∧ SqT K H b ys) (YPair (fun i => xs[i]?) (fun i => ys[i]?)) := by
  subst hn
  refine ⟨fun i _ hi q => ?_, fun _ q => ⟨xs, ys, q.1, q.2, by omega⟩, fun i H v H' _ q y => ?_⟩
  · have h1 : i < xs.length := by omega
    have h2 : i < ys.length := by omega
    exact ⟨xs, ys, xs[i], ys[i], q.1, q.2, by simp [h1], by simp [h2]⟩
  · obtain ⟨T, x, z, h1, h2, h3, h4, h5⟩ := y
    exact ⟨T, x, z, h1, h2, h3, h4 xs q.1, h5 ys q.2⟩
def dZip {M : Type} (n : Bool) (t u : DT M) : DTA M := fun ρ m Q Z => t ρ m (fun x m1 => u ρ m1 (fun y m2 => match x, y with
  | .lst xs, .lst ys | .tup xs, .tup ys => (n = true → D.nls xs = true ∧ D.nls ys = true) ∧ Q (zipD xs ys) m2
  | _, _ => False) Z) Z
theorem wk_zip {K : PySem.W.Frag} {st : Bool} {Pr : Addr → Prop} {F : List Addr} {H : Hp} {J : It} {xs ys : List V} {ds es : List D} {G : Hp → Prop} (hl : xs.length = ds.length) (hl' : ys.length = es.length)
    (w : ∀ n, n = min xs.length ys.length → Walk J n G (YPair (fun i => xs[i]?) (fun i => ys[i]?)))
    (g : ∀ Pr' F' H', (if st = true then Tr Pr F H Pr' F' H' else Te Pr F H Pr' F' H') → G H' ∧ DnA true K F' (sv C.H0 Pr' H') xs ds ∧ DnA true K F' (sv C.H0 Pr' H') ys es) : Wk K C st Pr F H (zipD ds es) J := by
  refine ⟨G, _, w _ (by rw [zip_len, hl, hl']), fun P2 F2 H2 t2 => ⟨(g P2 F2 H2 t2).1, fun i v H3 y => ?_⟩⟩
  obtain ⟨T, x, z, rfl, nT, rfl, e1, e2⟩ := y
  obtain ⟨d, ed, hd⟩ := dn_get (g P2 F2 H2 t2).2.1 e1
  obtain ⟨d', ed', hd'⟩ := dn_get (g P2 F2 H2 t2).2.2 e2
  obtain ⟨k, h2⟩ := pair_dn nT hd hd'
  exact ⟨k, _, zip_get ed ed', h2⟩
theorem ji_zip {t u : DT C.W.M} {p tpos : Pos} {elts : List Expr} {kk : Nat} (ha : J .s X C a t) (hb : J .s X C b u) (hm : X.mg "zip" = none) (hg : Gl X "zip" := by rfl)
    (hs : starEach [a, b] X.env = (false, eval a X.env) :: starEach [b] X.env := by rfl) (hs2 : starEach [b] X.env = (false, eval b X.env) :: starEach [] X.env := by rfl) (hpl : (backTo pos (starEach [b] X.env)).any (·.1) = false := by rfl) :
    JI true X C (.Tuple elts kk tpos) (.Call (.Name "zip" p) [a, b] [] pos) (dZip false t u) := by
  obtain ⟨te, pe, q⟩ := ha
  obtain ⟨te', pe', q'⟩ := hb
  refine ⟨_, pi_zipA hg hm (pa_cons pe (pa_cons pe' pa_nil hs2) hs) hs hpl, fun σ H Pr F ρ m Q Z R S E h k => ?_⟩
  refine q σ H Pr F ρ m _ Z _ S E h fun v H1 ⟨P1, F1, m1, d, S1, t1, dv, z⟩ => ?_
  refine q' σ H1 P1 F1 ρ m1 _ Z _ S1 (E.te t1.toTr) z fun w H2 ⟨P2, F2, m2, d2, S2, t2, dv2, z2⟩ => ?_
  have dv : Dn true X.K F2 (sv C.H0 P2 H2) v d := Dn.tr (H0 := C.H0) t2.toTr S1.prs dv
  have dv2 : Dn true X.K F2 (sv C.H0 P2 H2) w d2 := dv2
  dsimp only at z2
  split at z2
  · cases dv with
    | lst h r =>
      cases dv2 with
      | lst h' r' =>
        have h : sv C.H0 P2 H2 _ = some (.lst _) := h
        have h' : sv C.H0 P2 H2 _ = some (.lst _) := h'
        exact ⟨_, _, _, _, rfl, .inl ⟨SqL.of (sv_le h), SqL.of (sv_le h'), k _ _ ⟨P2, F2, m2, _, S2, t1.trans t2, wk_zip r.length r'.length (fun n hn => walk_zip hn) fun P3 F3 H3 t3 =>
          ⟨⟨SqL.of (sv_le (sv_tr (tr_of t3) S2.prs _ _ h)), SqL.of (sv_le (sv_tr (tr_of t3) S2.prs _ _ h'))⟩, DnA.mono (tr_of t3).pre (sv_tr (tr_of t3) S2.prs) r, DnA.mono (tr_of t3).pre (sv_tr (tr_of t3) S2.prs) r'⟩, z2.2⟩⟩⟩
  · cases dv with
    | tup h r =>
      cases dv2 with
      | tup h' r' =>
        exact ⟨_, _, _, _, rfl, .inr ⟨h.at, h'.at, k _ _ ⟨P2, F2, m2, _, S2, t1.trans t2, wk_zip r.length r'.length (fun n hn => walk_zipT hn) fun P3 F3 H3 t3 =>
          ⟨⟨(h.mono fun a xs => sv_tr (tr_of t3) S2.prs a _).at, (h'.mono fun a xs => sv_tr (tr_of t3) S2.prs a _).at⟩, DnA.mono (tr_of t3).pre (sv_tr (tr_of t3) S2.prs) r, DnA.mono (tr_of t3).pre (sv_tr (tr_of t3) S2.prs) r'⟩, z2.2⟩⟩⟩
  · exact z2.elim
theorem ji_zipw {t u : DT C.W.M} {p tpos : Pos} {elts : List Expr} {kk : Nat} (ha : J .w X C a t) (hb : J .w X C b u) (hm : X.mg "zip" = none) (hg : Gl X "zip" := by rfl)
    (hs : starEach [a, b] X.env = (false, eval a X.env) :: starEach [b] X.env := by rfl) (hs2 : starEach [b] X.env = (false, eval b X.env) :: starEach [] X.env := by rfl) (hpl : (backTo pos (starEach [b] X.env)).any (·.1) = false := by rfl) :
    JI false X C (.Tuple elts kk tpos) (.Call (.Name "zip" p) [a, b] [] pos) (dZip true t u) := by
  obtain ⟨te, pe, q⟩ := ha
  obtain ⟨te', pe', q'⟩ := hb
  refine ⟨_, pi_zipA hg hm (pa_cons pe (pa_cons pe' pa_nil hs2) hs) hs hpl, fun σ H Pr F ρ m Q Z R S E h k => ?_⟩
  refine q σ H Pr F ρ m _ Z _ S E h fun v H1 ⟨P1, F1, m1, d, S1, t1, dv, z⟩ => ?_
  refine q' σ H1 P1 F1 ρ m1 _ Z _ S1 (E.te t1.toTr) z fun w H2 ⟨P2, F2, m2, d2, S2, t2, dv2, z2⟩ => ?_
  have dv : Dn false X.K F2 (wv F2 H2) v d := Dn.te t2 dv
  have dv2 : Dn false X.K F2 (wv F2 H2) w d2 := dv2
  dsimp only at z2
  split at z2
  · cases dv with
    | lst h r =>
      cases dv2 with
      | lst h' r' =>
        exact ⟨_, _, _, _, rfl, .inl ⟨h.wv, h'.wv, k _ _ ⟨P2, F2, m2, _, S2, t1.trans t2, wk_zip r.length r'.length (fun n hn => walk_zip hn) fun P3 F3 H3 t3 =>
          ⟨⟨(h.mono (wv_te t3)).wv, (h'.mono (wv_te t3)).wv⟩, (DnA.mono (Te.toTr t3).pre (wv_te t3) r).up (z2.1 rfl).1, (DnA.mono (Te.toTr t3).pre (wv_te t3) r').up (z2.1 rfl).2⟩, z2.2⟩⟩⟩
  · cases dv with
    | tup h r =>
      cases dv2 with
      | tup h' r' =>
        exact ⟨_, _, _, _, rfl, .inr ⟨h.wv, h'.wv, k _ _ ⟨P2, F2, m2, _, S2, t1.trans t2, wk_zip r.length r'.length (fun n hn => walk_zipT hn) fun P3 F3 H3 t3 =>
          ⟨⟨(h.mono fun a xs => wv_te t3 a _).wv, (h'.mono fun a xs => wv_te t3 a _).wv⟩, (DnA.mono (Te.toTr t3).pre (wv_te t3) r).up (z2.1 rfl).1, (DnA.mono (Te.toTr t3).pre (wv_te t3) r').up (z2.1 rfl).2⟩, z2.2⟩⟩⟩
  · exact z2.elim

/-! ### reversed -/
theorem walk_revT {K : PySem.W.Frag} {a : Addr} {xs : List V} : Walk (ItvT K a xs.length) xs.length (fun H => SqT K H a xs) (fun i H x H' => H' = H ∧ xs[xs.length - 1 - i]? = some x) :=
  ⟨fun i _ hi q => ⟨hi, xs, xs[xs.length - 1 - i]'(by omega), q, by simp [show xs.length - 1 - i < xs.length by omega]⟩, fun _ _ => Nat.le_refl _, fun _ _ _ _ _ q y => ⟨y.1, y.2 xs q⟩⟩
theorem rev_get {ds : List D} {i : Nat} (hi : i < ds.length) : ds.reverse[i]? = ds[ds.length - 1 - i]? := by
  rw [List.getElem?_reverse hi]
theorem wk_rev {K : PySem.W.Frag} {st : Bool} {Pr : Addr → Prop} {F : List Addr} {H : Hp} {J : It} {xs : List V} {ds : List D} {G : Hp → Prop} (hl : xs.length = ds.length) (w : Walk J xs.length G (fun i H x H' => H' = H ∧ xs[xs.length - 1 - i]? = some x))
    (g : ∀ Pr' F' H', (if st = true then Tr Pr F H Pr' F' H' else Te Pr F H Pr' F' H') → G H' ∧ DnA true K F' (sv C.H0 Pr' H') xs ds) : Wk K C st Pr F H ds.reverse J := by
  refine ⟨G, fun i H x H' => i < xs.length ∧ H' = H ∧ xs[xs.length - 1 - i]? = some x, by rw [List.length_reverse, ← hl]; exact ⟨w.goes, w.stops, fun i H x H' hi q y => ⟨hi, w.yields i H x H' hi q y⟩⟩, fun P2 F2 H2 t2 => ⟨(g P2 F2 H2 t2).1, fun i v H3 y => ?_⟩⟩
  obtain ⟨hi, rfl, e⟩ := y
  obtain ⟨d, ed, hd⟩ := dn_get (g P2 F2 H3 t2).2 e
  refine ⟨fun _ _ h => h, d, ?_, hd⟩
  rw [rev_get (by omega), ← hl]
  exact ed
def dRev {M : Type} (n : Bool) (t : DT M) : DTA M := fun ρ m Q Z => dSeq n t ρ m (fun ds m1 => Q ds.reverse m1) Z
theorem ji_rev {tg : Expr} {t : DT C.W.M} {p : Pos} (h : J .s X C e t) (hm : X.mg "reversed" = none) (hg : Gl X "reversed" := by rfl) (hs : starEach [e] X.env = (false, eval e X.env) :: starEach [] X.env := by rfl) :
    JI true X C tg (.Call (.Name "reversed" p) [e] [] pos) (dRev false t) := by
  obtain ⟨te, pe, q⟩ := h
  refine ⟨_, pi_revA hg hm pe hs, fun σ H Pr F ρ m Q Z R S E h k => ?_⟩
  refine q σ H Pr F ρ m _ Z _ S E h fun v H1 ⟨P1, F1, m1, d, S1, t1, dv, z⟩ => ?_
  have dv : Dn true X.K F1 (sv C.H0 P1 H1) v d := dv
  cases dv with
  | lst h r =>
    have h : sv C.H0 P1 H1 _ = some (.lst _) := h
    exact ⟨_, _, rfl, .inl ⟨SqL.of (sv_le h), k _ _ ⟨P1, F1, m1, _, S1, t1, wk_rev r.length walk_rev fun P2 F2 H2 t2 => ⟨SqL.of (sv_le (sv_tr (tr_of t2) S1.prs _ _ h)), DnA.mono (tr_of t2).pre (sv_tr (tr_of t2) S1.prs) r⟩, z.2⟩⟩⟩
  | tup h r =>
    exact ⟨_, _, rfl, .inr ⟨h.at, k _ _ ⟨P1, F1, m1, _, S1, t1, wk_rev r.length walk_revT fun P2 F2 H2 t2 => ⟨(h.mono fun a xs => sv_tr (tr_of t2) S1.prs a _).at, DnA.mono (tr_of t2).pre (sv_tr (tr_of t2) S1.prs) r⟩, z.2⟩⟩⟩
  | _ => exact z.elim
/-- reversed(range(n)) -/
theorem wk_rangeC {K : PySem.W.Frag} {st : Bool} {Pr : Addr → Prop} {F : List Addr} {H : Hp} {n : Nat} : Wk K C st Pr F H (iota 0 n).reverse (Itc ((n : Int) - 1) (-1) n) := by
  refine ⟨_, fun i H x H' => i < n ∧ H' = H ∧ x = .int ((n : Int) - 1 + (i : Nat) * (-1)), by rw [List.length_reverse, iota_len]; exact ⟨walk_rangeC.goes, walk_rangeC.stops, fun i H x H' hi g y => ⟨hi, walk_rangeC.yields i H x H' hi g y⟩⟩, fun P2 F2 H2 t2 => ⟨trivial, fun i v H3 y => ?_⟩⟩
  obtain ⟨hi, rfl, rfl⟩ := y
  refine ⟨fun _ _ h => h, .int ((n : Int) - 1 + (i : Nat) * (-1)), ?_, .int _⟩
  rw [rev_get (by rw [iota_len]; exact hi), iota_len, iota_get (by omega)]
  congr 2
  omega
def dRevR {M : Type} (t : DT M) : DTA M := fun ρ m Q Z => t ρ m (fun d m1 => match d with | .int j => -(2 ^ 62) ≤ j ∧ j < 2 ^ 62 ∧ Q (iota 0 j.toNat).reverse m1 | _ => False) Z
theorem ji_revr {st : Bool} {tg : Expr} {t : DT C.W.M} {p p2 pos2 : Pos} (h : J .w X C a t) (hm : X.mg "reversed" = none) (hm2 : X.mg "range" = none) (hg : Gl X "reversed" := by rfl) (hg2 : Gl X "range" := by rfl) (hs : starEach [a] X.env = (false, eval a X.env) :: starEach [] X.env := by rfl) :
    JI st X C tg (.Call (.Name "reversed" p) [.Call (.Name "range" p2) [a] [] pos2] [] pos) (dRevR t) := by
  obtain ⟨te, pe, q⟩ := h
  refine ⟨_, pi_revR hg hm (prg_1 hg2 hm2 pe hs) rfl, fun σ H Pr F ρ m Q Z R S E h k => ?_⟩
  refine q σ H Pr F ρ m _ Z _ S E h fun v H1 ⟨P1, F1, m1, d, S1, t1, dv, z⟩ => ?_
  have dv : Dn false X.K F1 (wv F1 H1) v d := dv
  dsimp only at z
  split at z
  · rename_i j _
    refine ⟨_, dv.toInt, by decide, by decide, z.1, z.2.1, k _ _ ⟨P1, F1, m1, _, S1, t1, ?_, z.2.2⟩⟩
    simp only [Int.zero_add, Int.sub_zero]
    exact wk_rangeC
  · exact z.elim
/-- a text, sign by sign -/
def signs (z : Str) : List D := z.cps.toList.map fun c => D.str ⟨#[c]⟩
def dSigns {M : Type} (t : DT M) : DTA M := fun ρ m Q Z => t ρ m (fun d m1 => match d with | .str z => Q (signs z) m1 | _ => False) Z
/-! ### targets -/
abbrev DG := D → En → (En → Prop) → Prop
abbrev DGs := List D → En → (En → Prop) → Prop
def JG (X : Cx) (C : Cn) (tg : Expr) (ws : List Nat) (g : DG) : Prop := ∃ tgt, PG X tg tgt ∧
  ∀ σ H Pr F ρ (m : C.W.M) v d Q (R : L2.St → Hp → Prop), SR X.K C Pr F σ ρ m H → Dn true X.K F (sv C.H0 Pr H) v d → g d ρ Q →
    (∀ σ' ρ', SR X.K C Pr F σ' ρ' m H → (∀ vs, (∀ i ∈ ws, i ∈ vs) → L2.wipe σ' vs = L2.wipe σ vs) → Q ρ' → R σ' H) → tgt v σ H R
def JGs (X : Cx) (C : Cn) (tgs : List Expr) (ws : List Nat) (g : DGs) : Prop := ∃ tgt, PGs X tgs tgt ∧
  ∀ σ H Pr F ρ (m : C.W.M) vs ds Q (R : L2.St → Hp → Prop), SR X.K C Pr F σ ρ m H → DnA true X.K F (sv C.H0 Pr H) vs ds → g ds ρ Q →
    (∀ σ' ρ', SR X.K C Pr F σ' ρ' m H → (∀ vs, (∀ i ∈ ws, i ∈ vs) → L2.wipe σ' vs = L2.wipe σ vs) → Q ρ' → R σ' H) → tgt vs σ H R
def dgN (i : Nat) : DG := fun d ρ Q => Q (ρ.set i (.val d))
def dgT (n : Nat) (g : DGs) : DG := fun d ρ Q => match d with | .tup ds => ds.length = n ∧ g ds ρ Q | _ => False
def dgNil : DGs := fun ds ρ Q => match ds with | [] => Q ρ | _ => False
def dgCons (g : DG) (r : DGs) : DGs := fun ds ρ Q => match ds with | d :: ds => g d ρ fun ρ' => r ds ρ' Q | _ => False
theorem wipe_set {σ : L2.St} {i : Nat} {x : Option V} : ∀ {vs : List Nat}, i ∈ vs → L2.wipe (σ.set i x) vs = L2.wipe σ vs
  | v :: vs, h => by
    unfold L2.wipe
    by_cases e : i ∈ vs
    · rw [wipe_set e]
    · have ev : i = v := (List.mem_cons.mp h).resolve_right e
      subst ev
      have out : ∀ {vs : List Nat}, i ∉ vs → L2.wipe (σ.set i x) vs = (L2.wipe σ vs).set i x := fun {vs} => by
        induction vs with
        | nil => intro _; rfl
        | cons w r ih =>
          intro h
          unfold L2.wipe
          rw [ih fun z => h (List.mem_cons_of_mem _ z), List.set_comm _ _ (fun z => h (by rw [z]; exact List.mem_cons_self))]
      rw [out e, List.set_set]
theorem jg_name (i : Nat) {x : Str} (hN : X.N.Nodup) (hi : X.N[i]? = some x := by rfl) (hx : Loc X.env.scope x := by first | exact .inl rfl | exact .inr rfl) (hf : X.fn x = true ∨ X.env.scope.names.lookup x = some .local := by first | exact .inl rfl | exact .inr rfl) : JG X C (.Name x pos) [i] (dgN i) := by
  refine ⟨_, pg_name hN hi hx hf, fun σ H Pr F ρ m v d Q R S dv q k => ?_⟩
  exact k _ _ (S.set i dv) (fun vs h => wipe_set (h i (by simp))) q
theorem jgs_nil : JGs X C [] [] dgNil := by
  refine ⟨_, pgs_nil, fun σ H Pr F ρ m vs ds Q R S dv q k => ?_⟩
  unfold dgNil at q
  split at q
  · cases dv
    exact ⟨rfl, k σ ρ S (fun _ _ => rfl) q⟩
  · exact q.elim
theorem jgs_cons {es : List Expr} {w1 w2 : List Nat} {g : DG} {r : DGs} (h : JG X C e w1 g) (h' : JGs X C es w2 r) (hs : (assignEach (e :: es) X.env).map (·.2) = assign e X.env :: (assignEach es X.env).map (·.2) := by rfl) : JGs X C (e :: es) (w1 ++ w2) (dgCons g r) := by
  obtain ⟨t1, p1, q1⟩ := h
  obtain ⟨t2, p2, q2⟩ := h'
  refine ⟨_, pgs_cons p1 p2 hs, fun σ H Pr F ρ m vs ds Q R S dv q k => ?_⟩
  unfold dgCons at q
  split at q
  · cases dv with
    | cons dh dt =>
      refine ⟨_, _, rfl, q1 σ H Pr F ρ m _ _ _ _ S dh q fun σ1 ρ1 S1 w1' z => ?_⟩
      refine q2 σ1 H Pr F ρ1 m _ _ Q R S1 dt z fun σ2 ρ2 S2 w2' z => k σ2 ρ2 S2 (fun vs h => ?_) z
      rw [w2' vs fun i hi => h i (List.mem_append_right _ hi), w1' vs fun i hi => h i (List.mem_append_left _ hi)]
  · exact q.elim
theorem jg_tup {es : List Expr} {ws : List Nat} {g : DGs} {k n : Nat} (hc : X.calm = true) (h : JGs X C es ws g) (hn : (assignEach es X.env).length = n := by rfl) (hst : (assignEach es X.env).findIdx? (·.1) = none := by rfl) : JG X C (.Tuple es k pos) ws (dgT n g) := by
  obtain ⟨t1, p1, q1⟩ := h
  refine ⟨_, pg_tup hc p1 hn hst, fun σ H Pr F ρ m v d Q R S dv q kk => ?_⟩
  unfold dgT at q
  split at q
  · cases dv with
    | tup h r =>
      exact ⟨_, _, rfl, h.at, by rw [r.length]; exact q.1, q1 σ H Pr F ρ m _ _ Q R S r q.2 kk⟩
  · exact q.elim

/-! ### comprehensions -/
def lcGo {M : Type} (g : DG) (tt : DTT M) (te : DT M) (ρ : En) : List D → List D → M → (List D → M → Prop) → Prop
  | [], acc, m, Q => Q acc m
  | x :: r, acc, m, Q => g x ρ fun ρ2 => tt ρ2 m (fun b m1 => if b = true then te ρ2 m1 (fun y m2 => acc.length < sizeLine ∧ lcGo g tt te ρ r (acc ++ [y]) m2 Q) (fun _ _ => False) else lcGo g tt te ρ r acc m1 Q) (fun _ _ => False)
def dLc {M : Type} (ti : DTA M) (g : DG) (tt : DTT M) (te : DT M) (vs : List Nat) : DT M := fun ρ m Q Z => ti ρ m (fun items m1 => lcGo g tt te (wipeD ρ vs) items [] m1 (fun ds m2 => Q (.lst ds) m2)) Z
/-- a clause's tests -/
def JTs (X : Cx) (C : Cn) (ifs : List Expr) (t : DTT C.W.M) : Prop := ∃ te, PTs X ifs te ∧
  ∀ σ H Pr F ρ m Q Z (R : Bool → Hp → Prop), SR X.K C Pr F σ ρ m H → Ex X C Pr F H σ Z → t ρ m Q Z → (∀ v H', PostT X.K C Pr F H σ ρ Q v H' → R v H') → te σ H R
def dYes {M : Type} : DTT M := fun _ m Q _ => Q true m
theorem jts_nil : JTs X C [] dYes := ⟨_, pts_nil, fun σ H Pr F ρ m Q Z R S E h k => k _ _ ⟨Pr, F, m, S, Te.refl, h⟩⟩
theorem jts_one {c : Expr} {t : DTT C.W.M} (h : JT X C c t) : JTs X C [c] t := by
  obtain ⟨te, p, q⟩ := h
  exact ⟨_, pts_one p, q⟩
/-- within a block nothing is raised -/
abbrev Cn.nox (C : Cn) : Cn := { C with wx := fun _ _ _ _ => False }
theorem SR.nox {K : PySem.W.Frag} {Pr : Addr → Prop} {F : List Addr} {σ : L2.St} {ρ : En} {m : C.W.M} {H : Hp} (S : SR K C Pr F σ ρ m H) : SR K C.nox Pr F σ ρ m H := ⟨S.keep, S.pre, S.new, S.prs, S.prn, S.prf, S.rz, S.len, S.slot, S.dist⟩
theorem SR.unnox {K : PySem.W.Frag} {Pr : Addr → Prop} {F : List Addr} {σ : L2.St} {ρ : En} {m : C.W.M} {H : Hp} (S : SR K C.nox Pr F σ ρ m H) : SR K C Pr F σ ρ m H := ⟨S.keep, S.pre, S.new, S.prs, S.prn, S.prf, S.rz, S.len, S.slot, S.dist⟩
abbrev Blk (X : Cx) (scope : Scope) (s : Shared) (H : Hp) (c : Addr) (cl : List (Str × Addr)) (fp : List Addr) : Cx := X.blk s H scope (compEnvC scope cl c X.env) fp
theorem wipe_comm {σ : L2.St} {i : Nat} : ∀ {vs : List Nat}, (L2.wipe σ vs).set i none = L2.wipe (σ.set i none) vs
  | [] => rfl
  | v :: vs => by
    unfold L2.wipe
    by_cases e : v = i
    · subst e
      rw [List.set_set, ← wipe_comm (vs := vs), List.set_set]
    · rw [List.set_comm _ _ e, wipe_comm (vs := vs)]
theorem wipe_wipe {σ : L2.St} {us : List Nat} : ∀ {vs : List Nat}, (∀ i ∈ vs, i ∈ us) → L2.wipe (L2.wipe σ us) vs = L2.wipe σ us
  | [], _ => rfl
  | v :: vs, h => by
    show (L2.wipe (L2.wipe σ us) vs).set v none = L2.wipe σ us
    rw [wipe_wipe fun i hi => h i (List.mem_cons_of_mem _ hi), wipe_comm, wipe_set (h v List.mem_cons_self)]
/-- a new list, guarded -/
theorem SR.guard {K : PySem.W.Frag} {Pr : Addr → Prop} {F : List Addr} {σ : L2.St} {ρ : En} {m : C.W.M} {H : Hp} (S : SR K C Pr F σ ρ m H) {p : Addr} {vs : List V} (hp : H p = none) :
    SR K C (fun a => Pr a ∨ a = p) F σ ρ m (upd H p (.lst vs)) ∧ Te Pr F H (fun a => Pr a ∨ a = p) F (upd H p (.lst vs)) := by
  have k : ∀ a u, H a = some u → upd H p (.lst vs) a = some u := fun a u e => by rw [upd_ne (ne_of_none e hp)]; exact e
  have t : Te Pr F H (fun a => Pr a ∨ a = p) F (upd H p (.lst vs)) := ⟨⟨⟨[], by simp⟩, fun a h n => by
    rcases h with h | h
    · exact absurd h n
    · rw [h]; exact hp, fun _ h n => absurd h n, fun a o h => ⟨o, k a o h⟩, fun a o _ h => k a o h⟩, fun _ h => .inl h, fun a o _ h => k a o h⟩
  refine ⟨⟨fun a o n e => k a o (S.keep a o n e), S.pre, S.new, fun a h => ?_, fun a h n => ?_, fun a h => .inl (S.prf a h), C.W.keep S.rz fun a h => upd_ne fun z => S.nf hp (z ▸ h), S.len, fun i s e => Sk.tr S.prs t.toTr (fun p _ _ o h => k p o h) (fun p h _ => .inl h) (S.slot i s e), S.dist⟩, t⟩
  · rcases h with h | h
    · obtain ⟨o, e, n⟩ := S.prs a h
      exact ⟨o, k a o e, n⟩
    · exact ⟨.lst vs, by rw [h]; exact upd_same, fun z => z⟩
  · rcases h with h | h
    · exact S.prn a h n
    · rw [h]; exact S.h0n hp
/-- a guarded list is changed -/
theorem SR.poke {K : PySem.W.Frag} {Pr : Addr → Prop} {F : List Addr} {σ : L2.St} {ρ : En} {m : C.W.M} {H : Hp} (S : SR K C Pr F σ ρ m H) {p : Addr} {vs ws : List V} (pp : Pr p) (nF : p ∉ F) (hp : H p = some (.lst vs)) (h0 : C.H0 p = none)
    (nown : ∀ (i : Nat) (ds : List D) (q : Addr), ρ[i]? = some (.own ds) → σ[i]? = some (some (.ref q)) → q ≠ p) :
    SR K C Pr F σ ρ m (upd H p (.lst ws)) ∧ ∀ a o, sv C.H0 Pr H a = some o → sv C.H0 Pr (upd H p (.lst ws)) a = some o := by
  have up : ∀ a o, sv C.H0 Pr H a = some o → sv C.H0 Pr (upd H p (.lst ws)) a = some o := fun a o e => by
    obtain ⟨e, q⟩ := vw_iff.mp e
    refine vw_iff.mpr ⟨?_, q⟩
    rw [upd_ne fun z => ?_]
    · exact e
    · rcases q with q | q
      · rw [z, hp] at e; cases e; exact q
      · exact q.2.1 (z ▸ pp)
  refine ⟨⟨fun a o n e => ?_, S.pre, S.new, fun a h => ?_, S.prn, S.prf, C.W.keep S.rz fun a h => upd_ne fun z => nF (z ▸ h), S.len, fun i s e => ?_, S.dist⟩, up⟩
  · rw [upd_ne fun z => by rw [z, h0] at e; cases e]
    exact S.keep a o n e
  · by_cases z : a = p
    · exact ⟨.lst ws, by rw [z]; exact upd_same, fun z => z⟩
    · obtain ⟨o, e, n⟩ := S.prs a h
      exact ⟨o, by rw [upd_ne z]; exact e, n⟩
  · cases s with
    | un => trivial
    | bor d => exact S.slot i _ e
    | val d =>
      obtain ⟨v, e1, q⟩ := S.slot i _ e
      exact ⟨v, e1, q.mono ⟨[], by simp⟩ up⟩
    | own ds =>
      obtain ⟨q, us, e1, h1, h2, h3, h4, h5⟩ := S.slot i _ e
      exact ⟨q, us, e1, by rw [upd_ne (nown i ds q e e1)]; exact h1, h2, h3, h4.mono ⟨[], by simp⟩ up, h5⟩
theorem SR.unguard {K : PySem.W.Frag} {Pr : Addr → Prop} {F : List Addr} {σ : L2.St} {ρ : En} {m : C.W.M} {H : Hp} (S : SR K C Pr F σ ρ m H) {p : Addr} (nF : p ∉ F) (h0 : C.H0 p = none)
    (nown : ∀ (i : Nat) (ds : List D) (q : Addr), ρ[i]? = some (.own ds) → σ[i]? = some (some (.ref q)) → q ≠ p) :
    SR K C (fun a => Pr a ∧ a ≠ p) F σ ρ m H ∧ ∀ a o, sv C.H0 Pr H a = some o → sv C.H0 (fun a => Pr a ∧ a ≠ p) H a = some o := by
  have up : ∀ a o, sv C.H0 Pr H a = some o → sv C.H0 (fun a => Pr a ∧ a ≠ p) H a = some o := fun a o e => by
    obtain ⟨e, q⟩ := vw_iff.mp e
    exact vw_iff.mpr ⟨e, q.imp id fun q => ⟨q.1, fun z => q.2.1 z.1, q.2.2⟩⟩
  refine ⟨⟨S.keep, S.pre, S.new, fun a h => S.prs a h.1, fun a h n => S.prn a h.1 n, fun a h => ⟨S.prf a h, fun z => nF (z ▸ h)⟩, S.rz, S.len, fun i s e => ?_, S.dist⟩, up⟩
  cases s with
  | un => trivial
  | bor d => exact S.slot i _ e
  | val d =>
    obtain ⟨v, e1, q⟩ := S.slot i _ e
    exact ⟨v, e1, q.mono ⟨[], by simp⟩ up⟩
  | own ds =>
    obtain ⟨q, us, e1, h1, h2, h3, h4, h5⟩ := S.slot i _ e
    exact ⟨q, us, e1, h1, ⟨h2, nown i ds q e e1⟩, h3, h4.mono ⟨[], by simp⟩ up, h5⟩
theorem lc_read {wi : TI} {tg : TG} {tt : TT} {te : TE} {ti : DTA C.W.M} {g : DG} {dt : DTT C.W.M} {de : DT C.W.M} {vs ws : List Nat} {σ : L2.St} {H : Hp} {Pr : Addr → Prop} {F : List Addr} {ρ : En} {m : C.W.M} {Q : D → C.W.M → Prop} {Z : Str → C.W.M → Prop} {R : VK}
    (hw : ∀ i ∈ ws, i ∈ vs)
    (qi : ∀ (R : It → Hp → Prop), (∀ J H', (∃ Pr' F' m' items, SR X.K C Pr' F' σ ρ m' H' ∧ Te Pr F H Pr' F' H' ∧ Wk X.K C false Pr' F' H' items J ∧ lcGo g dt de (wipeD ρ vs) items [] m' (fun ds m2 => Q (.lst ds) m2)) → R J H') → wi σ H R)
    (qg : ∀ σ H Pr F ρ (m : C.W.M) v d Q (R : L2.St → Hp → Prop), SR X.K C.nox Pr F σ ρ m H → Dn true X.K F (sv C.H0 Pr H) v d → g d ρ Q → (∀ σ' ρ', SR X.K C.nox Pr F σ' ρ' m H → (∀ vs, (∀ i ∈ ws, i ∈ vs) → L2.wipe σ' vs = L2.wipe σ vs) → Q ρ' → R σ' H) → tg v σ H R)
    (qt : ∀ σ H Pr F ρ m Q (R : Bool → Hp → Prop), SR X.K C.nox Pr F σ ρ m H → dt ρ m Q (fun _ _ => False) → (∀ v H', PostT X.K C.nox Pr F H σ ρ Q v H' → R v H') → tt σ H R)
    (qe : ∀ σ H Pr F ρ m Q (R : VK), SR X.K C.nox Pr F σ ρ m H → de ρ m Q (fun _ _ => False) → (∀ v H', Post X.K C.nox .s Pr F H σ ρ Q v H' → R v H') → te σ H R)
    (S : SR X.K C Pr F σ ρ m H) (k : ∀ v H', Post X.K C .f Pr F H σ ρ Q v H' → R v H') : tLc wi tg tt te vs σ H R := by
  refine qi _ fun J H1 ⟨P1, F1, m1, items, S1, t1, wk, z⟩ L0 hD => ?_
  obtain ⟨G, Y, w, hG⟩ := wk
  obtain ⟨SD, tD⟩ := S1.new1 (o := .lst []) hD
  obtain ⟨SD, tD⟩ := S1.guard (vs := []) hD
  generalize hP1 : (fun a => P1 a ∨ a = L0) = P1' at SD tD
  let Pv : Nat → Hp → Prop := fun i H' => ∃ P' F' m' acc ds, SR X.K C P' F' σ ρ m' H' ∧ Te P1 F1 H1 P' F' H' ∧ P' L0 ∧ L0 ∉ F' ∧ H' L0 = some (.lst acc) ∧ DnA true X.K F' (sv C.H0 P' H') acc ds ∧ lcGo g dt de (wipeD ρ vs) (items.drop i) ds m' (fun ds m2 => Q (.lst ds) m2)
  have hn0 : C.H0 L0 = none := S1.h0n hD
  have nown : ∀ (i : Nat) (ds : List D) (p : Addr), ρ[i]? = some (.own ds) → σ[i]? = some (some (.ref p)) → p ≠ L0 := fun i ds p e e1 z => by
    obtain ⟨p', us, e2, hp, _⟩ := S1.slot i _ e
    rw [e1] at e2; cases e2
    rw [z, hD] at hp; cases hp
  refine lc_it w Pv ⟨P1', F1, m1, [], [], SD, tD, (by rw [← hP1]; exact .inr rfl), S1.nf hD, upd_same, .nil, z⟩ (fun i H' _ p => ?_) (fun i x H' H2 hi p y => ?_) (fun H' p => ?_)
  · obtain ⟨P', F', m', acc, ds, S', t', _⟩ := p
    exact (hG P' F' H' t').1
  · obtain ⟨P', F', m', acc, ds, S', t', pD, nF, eD, da, z⟩ := p
    obtain ⟨k2, d, ed, hd⟩ := (hG P' F' H' t').2 i x H2 y
    have S2 := S'.grow k2
    have t2 := S'.te k2
    have ei : items.drop i = d :: items.drop (i + 1) := by
      obtain ⟨hlt, e⟩ := List.getElem?_eq_some_iff.mp ed
      rw [List.drop_eq_getElem_cons hlt, e]
    rw [ei] at z
    unfold lcGo at z
    refine qg (L2.wipe σ vs) H2 P' F' (wipeD ρ vs) m' x d _ _ (S2.wipe vs).nox hd z fun σ2 ρ2 S3 hw2 z => ?_
    refine ⟨by rw [hw2 vs hw, wipe_wipe fun _ h => h], ?_⟩
    refine qt σ2 H2 P' F' ρ2 m' _ _ S3 z fun b H3 ⟨P3, F3, m3, S4, t3, z⟩ => ?_
    have t3 := t2.trans t3
    have stepD : ∀ {P4 F4 H4}, Te P' F' H' P4 F4 H4 → P4 L0 ∧ L0 ∉ F4 ∧ H4 L0 = some (.lst acc) := fun {P4 F4 H4} t => ⟨t.prm L0 pD, (fun z => by
      have q := t.fn L0 z nF
      rw [eD] at q
      cases q), t.all L0 _ nF eD⟩
    cases b with
    | false =>
      refine iteF ?_
      have z : lcGo g dt de (wipeD ρ vs) (items.drop (i + 1)) ds m3 (fun ds m2 => Q (.lst ds) m2) := z
      obtain ⟨d1, d2, d3⟩ := stepD t3
      exact ⟨P3, F3, m3, acc, ds, S'.back t3 S4.unnox, t'.trans t3, d1, d2, d3, DnA.mono t3.pre (sv_tr t3.toTr S'.prs) da, z⟩
    | true =>
      refine iteT ?_
      refine qe σ2 H3 P3 F3 ρ2 m3 _ _ S4 z fun v H4 ⟨P4, F4, m4, y4, S5, t4, dv, z⟩ => ?_
      have t4 := t3.trans t4
      obtain ⟨d1, d2, d3⟩ := stepD t4
      have dv : Dn true X.K F4 (sv C.H0 P4 H4) v y4 := dv
      have S6 := S'.back t4 S5.unnox
      obtain ⟨S7, up⟩ := S6.poke (ws := acc ++ [v]) d1 d2 d3 hn0 nown
      have la : acc.length = ds.length := da.length
      refine ⟨acc, d3, by rw [la]; exact z.1, P4, F4, m4, acc ++ [v], ds ++ [y4], S7, ⟨⟨(t'.trans t4).pre, (t'.trans t4).prn, (t'.trans t4).fn, fun a o h => ?_, fun a o n h => ?_⟩, (t'.trans t4).prm, fun a o n h => ?_⟩, d1, d2, upd_same,
        DnA.mono ⟨[], by simp⟩ up (DnA.app (DnA.mono t4.pre (sv_tr t4.toTr S'.prs) da) (.cons dv .nil)), z.2⟩
      · obtain ⟨o', e⟩ := (t'.trans t4).stay a o h
        exact ⟨o', by rw [upd_ne (ne_of_none h hD)]; exact e⟩
      · rw [upd_ne (ne_of_none h hD)]
        exact (t'.trans t4).keep a o n h
      · rw [upd_ne (ne_of_none h hD)]
        exact (t'.trans t4).all a o n h
  · obtain ⟨P', F', m', acc, ds, S', t', pD, nF, eD, da, z⟩ := p
    rw [List.drop_length] at z
    unfold lcGo at z
    obtain ⟨S2, up⟩ := S'.unguard nF hn0 nown
    refine k _ _ ⟨fun a => P' a ∧ a ≠ L0, F', m', .lst ds, S2, t1.trans ⟨⟨t'.pre, fun a h n => t'.prn a h.1 n, t'.fn, t'.stay, t'.keep⟩, fun a h => ⟨t'.prm a h, fun z => S1.np hD (z ▸ h)⟩, t'.all⟩, ?_, z⟩
    have da2 : DnA true X.K F' (sv C.H0 (fun a => P' a ∧ a ≠ L0) H') acc ds := DnA.mono ⟨[], by simp⟩ up da
    exact ⟨.lst (vw_iff.mpr ⟨eD, .inr ⟨trivial, fun z => z.2 rfl, hn0⟩⟩) da2, fun ds' e => by cases e; exact ⟨L0, acc, rfl, some_of (t1.stay L0) hD, fun z => z.2 rfl, eD, da2⟩⟩
variable {elt tg iter : Expr} {ifs : List Expr} {scope : Scope} {own : List (Str × Nat)} {ti : DTA C.W.M} {g : DG} {dt : DTT C.W.M} {de : DT C.W.M} {ws : List Nat} {st : Bool}
theorem JI.weak (h : JI st X C tg iter ti) : JI false X C tg iter ti := by
  obtain ⟨wi, p, q⟩ := h
  refine ⟨wi, p, fun σ H Pr F ρ m Q Z R S E h k => q σ H Pr F ρ m Q Z R S E h fun J H' ⟨P1, F1, m1, items, S1, t1, ⟨G, Y, w, hG⟩, z⟩ => k J H' ⟨P1, F1, m1, items, S1, t1, ⟨G, Y, w, fun P2 F2 H2 t2 => hG P2 F2 H2 ?_⟩, z⟩⟩
  cases st with
  | true => exact Te.toTr (show Te P1 F1 H' P2 F2 H2 from t2)
  | false => exact t2
/-- the readings of a block, whatever block it is -/
def cnE (c : Cl) (K : PySem.W.Frag) (C : Cn) (t : DT C.W.M) : TE := fun σ H R => ∃ Pr F ρ m Q, SR K C Pr F σ ρ m H ∧ t ρ m Q (fun _ _ => False) ∧ ∀ v H', Post K C c Pr F H σ ρ Q v H' → R v H'
def cnT (K : PySem.W.Frag) (C : Cn) (t : DTT C.W.M) : TT := fun σ H R => ∃ Pr F ρ m Q, SR K C Pr F σ ρ m H ∧ t ρ m Q (fun _ _ => False) ∧ ∀ v H', PostT K C Pr F H σ ρ Q v H' → R v H'
def cnG (K : PySem.W.Frag) (C : Cn) (ws : List Nat) (g : DG) : TG := fun v σ H R => ∃ Pr F ρ, ∃ m : C.W.M, ∃ d Q, SR K C Pr F σ ρ m H ∧ Dn true K F (sv C.H0 Pr H) v d ∧ g d ρ Q ∧
    (∀ σ' ρ', SR K C Pr F σ' ρ' m H → (∀ vs, (∀ i ∈ ws, i ∈ vs) → L2.wipe σ' vs = L2.wipe σ vs) → Q ρ' → R σ' H)
theorem exF {X : Cx} {C : Cn} {Pr : Addr → Prop} {F : List Addr} {H : Hp} {σ : L2.St} : Ex X C Pr F H σ (fun _ _ => False) := fun _ _ _ _ _ _ _ _ _ _ z => z.elim
theorem J.cn {X : Cx} {C : Cn} {c : Cl} {e : Expr} {t : DT C.W.M} (h : J c X C e t) : PE X e (cnE c X.K C t) := by
  obtain ⟨te, p, q⟩ := h
  exact ⟨fun pins s σ H R I ⟨Pr, F, ρ, m, Q, S, z, k⟩ => p.run pins s σ H R I (q σ H Pr F ρ m Q _ R S exF z k)⟩
theorem JTs.cn {X : Cx} {C : Cn} {es : List Expr} {t : DTT C.W.M} (h : JTs X C es t) : PTs X es (cnT X.K C t) := by
  obtain ⟨te, p, q⟩ := h
  exact ⟨fun pins s σ H R I ⟨Pr, F, ρ, m, Q, S, z, k⟩ => p.run pins s σ H R I (q σ H Pr F ρ m Q _ R S exF z k)⟩
theorem JG.cn {X : Cx} {C : Cn} {ws : List Nat} {e : Expr} {g : DG} (h : JG X C e ws g) : PG X e (cnG X.K C ws g) := by
  obtain ⟨te, p, q⟩ := h
  exact ⟨fun pins s σ H v u R I r ⟨Pr, F, ρ, m, d, Q, S, dv, z, k⟩ => p.run pins s σ H v u R I r (q σ H Pr F ρ m v d Q R S dv z k)⟩
theorem lc_all {wi : TI} (qi : ∀ σ H Pr F ρ m Q Z (R : It → Hp → Prop), SR X.K C Pr F σ ρ m H → Ex X C Pr F H σ Z → ti ρ m Q Z →
    (∀ J H', (∃ Pr' F' m' items, SR X.K C Pr' F' σ ρ m' H' ∧ Te Pr F H Pr' F' H' ∧ Wk X.K C false Pr' F' H' items J ∧ Q items m') → R J H') → wi σ H R) (hw : ∀ i ∈ ws, i ∈ own.map (·.2))
    {σ : L2.St} {H : Hp} {Pr : Addr → Prop} {F : List Addr} {ρ : En} {m : C.W.M} {Q : D → C.W.M → Prop} {Z : Str → C.W.M → Prop} {R : VK} (S : SR X.K C Pr F σ ρ m H) (E : Ex X C Pr F H σ Z) (h : dLc ti g dt de (own.map (·.2)) ρ m Q Z)
    (k : ∀ v H', Post X.K C .f Pr F H σ ρ Q v H' → R v H') : tLc wi (cnG X.K C.nox ws g) (cnT X.K C.nox dt) (cnE .s X.K C.nox de) (own.map (·.2)) σ H R :=
  lc_read (ti := ti) (Z := Z) (g := g) (dt := dt) (de := de) hw (fun R' k' => qi σ H Pr F ρ m _ Z R' S E h k') (fun σ H Pr F ρ m v d Q R S dv z k => ⟨Pr, F, ρ, m, d, Q, S, dv, z, k⟩) (fun σ H Pr F ρ m Q R S z k => ⟨Pr, F, ρ, m, Q, S, z, k⟩) (fun σ H Pr F ρ m Q R S z k => ⟨Pr, F, ρ, m, Q, S, z, k⟩) S k
/-- [elt for tg in iter if ..], as a value -/
theorem j_lc (hc : X.calm = true) (hN : X.N.Nodup) (hi : JI false X C tg iter ti) (ok : BlkOk X.N X.env.scope scope own) (hg : ∀ s H c cl fp, JG (Blk X scope s H c cl fp) C.nox tg ws g) (ht : ∀ s H c cl fp, JTs (Blk X scope s H c cl fp) C.nox ifs dt) (he : ∀ s H c cl fp, J .s (Blk X scope s H c cl fp) C.nox elt de)
    (hw : ∀ i ∈ ws, i ∈ own.map (·.2)) (hs : ∀ x, foldedSetIterable iter X.env x = pure x := by intro _; rfl) : J .f X C (.ListComp elt [⟨tg, iter, ifs, 0⟩] scope pos) (dLc ti g dt de (own.map (·.2))) := by
  obtain ⟨wi, pi, qi⟩ := hi
  refine ⟨_, pe_lc (g := cnG X.K C.nox ws g) (tt := cnT X.K C.nox dt) (te := cnE .s X.K C.nox de) hc hN pi ok (fun s H c cl fp => (hg s H c cl fp).cn) (fun s H c cl fp => (ht s H c cl fp).cn) (fun s H c cl fp => (he s H c cl fp).cn) hs, fun σ H Pr F ρ m Q Z R S E h k => ?_⟩
  exact lc_all qi hw S E h k
end
end RR

/-! RG: statements over data; a def by its body -/
namespace RR
open PySem PySem.Spec PyProof.Rows L2
structure DE (M : Type) where
  nx : En → M → Prop
  rt : D → M → Prop
  bk : En → M → Prop := fun _ _ => False
  ct : En → M → Prop := fun _ _ => False
  ex : Str → M → Prop := fun _ _ => False
abbrev DS (M : Type) := DE M → En → M → Prop
structure Lk (X : Cx) (C : Cn) (Pr : Addr → Prop) (F : List Addr) (H : Hp) (E : DE C.W.M) (D' : Ends) : Prop where
  nx : ∀ σ' H' ρ' m' Pr' F', SR X.K C Pr' F' σ' ρ' m' H' → Tr Pr F H Pr' F' H' → E.nx ρ' m' → D'.nx σ' H'
  rt : ∀ v H' d m' Pr' F' σ' ρ' H1, SR X.K C Pr' F' σ' ρ' m' H' → Tr Pr F H Pr' F' H' → Dv X.K C .r Pr' F' H1 H' v d → E.rt d m' → D'.rt v H'
  bk : ∀ σ' H' ρ' m' Pr' F', SR X.K C Pr' F' σ' ρ' m' H' → Tr Pr F H Pr' F' H' → E.bk ρ' m' → D'.bk σ' H'
  ct : ∀ σ' H' ρ' m' Pr' F', SR X.K C Pr' F' σ' ρ' m' H' → Tr Pr F H Pr' F' H' → E.ct ρ' m' → D'.ct σ' H'
  ex : ∀ σ', Ex X C Pr F H σ' E.ex
theorem Lk.tr {X : Cx} {C : Cn} {Pr Pr1 : Addr → Prop} {F F1 : List Addr} {H H1 : Hp} {E : DE C.W.M} {D' : Ends} (l : Lk X C Pr F H E D') (t : Tr Pr F H Pr1 F1 H1) : Lk X C Pr1 F1 H1 E D' :=
  ⟨fun σ' H' ρ' m' P2 F2 S t2 q => l.nx σ' H' ρ' m' P2 F2 S (t.trans t2) q, fun v H' d m' P2 F2 σ' ρ' H3 S t2 dv q => l.rt v H' d m' P2 F2 σ' ρ' H3 S (t.trans t2) dv q, fun σ' H' ρ' m' P2 F2 S t2 q => l.bk σ' H' ρ' m' P2 F2 S (t.trans t2) q,
    fun σ' H' ρ' m' P2 F2 S t2 q => l.ct σ' H' ρ' m' P2 F2 S (t.trans t2) q, fun σ' => (l.ex σ').te t⟩
def JS (X : Cx) (C : Cn) (st : Stmt) (t : DS C.W.M) : Prop := ∃ ts, PS X st ts ∧ ∀ σ H Pr F ρ m E D', SR X.K C Pr F σ ρ m H → Lk X C Pr F H E D' → t E ρ m → ts D' σ H
def JSs (X : Cx) (C : Cn) (st : List Stmt) (t : DS C.W.M) : Prop := ∃ ts, PSs X st ts ∧ ∀ σ H Pr F ρ m E D', SR X.K C Pr F σ ρ m H → Lk X C Pr F H E D' → t E ρ m → ts D' σ H
section
variable {X : Cx} {C : Cn} {e : Expr} {st : Stmt} {rest body els : List Stmt} {pos pos' : Pos} {t u : DS C.W.M}
def dNext {M : Type} : DS M := fun E ρ m => E.nx ρ m
def dThen {M : Type} (t u : DS M) : DS M := fun E ρ m => t { E with nx := u E } ρ m
theorem jss_nil : JSs X C [] dNext := ⟨_, pss_nil, fun σ H Pr F ρ m E D' S l h => l.nx _ _ _ _ _ _ S Tr.refl h⟩
theorem jss_cons (h : JS X C st t) (r : JSs X C rest u) : JSs X C (st :: rest) (dThen t u) := by
  obtain ⟨t1, p1, q1⟩ := h
  obtain ⟨t2, p2, q2⟩ := r
  refine ⟨_, pss_cons p1 p2, fun σ H Pr F ρ m E D' S l h => ?_⟩
  exact q1 σ H Pr F ρ m { E with nx := u E } { D' with nx := t2 D' } S ⟨fun σ' H' ρ' m' P1 F1 S1 t1 q => q2 σ' H' P1 F1 ρ' m' E D' S1 (l.tr t1) q, l.rt, l.bk, l.ct, l.ex⟩ h
theorem jss_one (h : JS X C st t) : JSs X C [st] t := by
  obtain ⟨t1, p1, q1⟩ := h
  exact ⟨_, pss_one p1, q1⟩
theorem js_pass : JS X C (.Pass pos) dNext := ⟨_, ps_pass, fun σ H Pr F ρ m E D' S l h => l.nx _ _ _ _ _ _ S Tr.refl h⟩
theorem js_break : JS X C (.Break pos) (fun E ρ m => E.bk ρ m) := ⟨_, ps_break, fun σ H Pr F ρ m E D' S l h => l.bk _ _ _ _ _ _ S Tr.refl h⟩
theorem js_continue : JS X C (.Continue pos) (fun E ρ m => E.ct ρ m) := ⟨_, ps_continue, fun σ H Pr F ρ m E D' S l h => l.ct _ _ _ _ _ _ S Tr.refl h⟩
def dDrop {M : Type} (t : DT M) : DS M := fun E ρ m => t ρ m (fun _ m' => E.nx ρ m') E.ex
def dRet {M : Type} (t : DT M) : DS M := fun E ρ m => t ρ m E.rt E.ex
theorem js_expr {c : Cl} {te : DT C.W.M} (h : J c X C e te) (hs : swapsWith e none pos.line X.env = pure false := by rfl) : JS X C (.Expr e pos) (dDrop te) := by
  obtain ⟨t1, p, q⟩ := h
  exact ⟨_, ps_expr p hs, fun σ H Pr F ρ m E D' S l h => q σ H Pr F ρ m _ _ _ S (l.ex σ) h fun v H1 ⟨P1, F1, m1, d, S1, t1, dv, z⟩ => l.nx _ _ _ _ _ _ S1 t1.toTr z⟩
theorem js_ret {te : DT C.W.M} (h : J .r X C e te) : JS X C (.Return (some e) pos) (dRet te) := by
  obtain ⟨t1, p, q⟩ := h
  exact ⟨_, ps_ret p, fun σ H Pr F ρ m E D' S l h => q σ H Pr F ρ m _ _ _ S (l.ex σ) h fun v H1 ⟨P1, F1, m1, d, S1, t1, dv, z⟩ => l.rt _ _ d m1 P1 F1 σ ρ H S1 t1.toTr dv z⟩
theorem js_retN : JS X C (.Return none pos) (fun E ρ m => E.rt .non m) :=
  ⟨_, ps_retN, fun σ H Pr F ρ m E D' S l h => l.rt _ _ .non m Pr F σ ρ H S Tr.refl .non h⟩
def dIte {M : Type} (c : DTT M) (t u : DS M) : DS M := fun E ρ m => c ρ m (fun b m1 => if b = true then t E ρ m1 else u E ρ m1) E.ex
theorem js_if {c : Expr} {tc : DTT C.W.M} (hc : JT X C c tc) (h1 : JSs X C body t) (h2 : JSs X C els u) : JS X C (.If c body els pos) (dIte tc t u) := by
  obtain ⟨tt, p, q⟩ := hc
  obtain ⟨t1, p1, q1⟩ := h1
  obtain ⟨t2, p2, q2⟩ := h2
  refine ⟨_, ps_if p p1 p2, fun σ H Pr F ρ m E D' S l h => ?_⟩
  refine q σ H Pr F ρ m _ _ _ S (l.ex σ) h fun b H1 ⟨P1, F1, m1, S1, t1, z⟩ => ?_
  cases b with
  | true => exact iteT (q1 σ H1 P1 F1 ρ m1 E D' S1 (l.tr t1.toTr) z)
  | false => exact iteF (q2 σ H1 P1 F1 ρ m1 E D' S1 (l.tr t1.toTr) z)
def dSet {M : Type} (i : Nat) (t : DT M) : DS M := fun E ρ m => t ρ m (fun d m' => E.nx (ρ.set i (.val d)) m') E.ex
def dSetO {M : Type} (i : Nat) (t : DT M) : DS M := fun E ρ m => t ρ m (fun d m' => match d with | .lst ds => D.nls ds = true ∧ E.nx (ρ.set i (.own ds)) m' | _ => False) E.ex
abbrev LocF (X : Cx) (x : Str) : Prop := X.fn x = true ∨ X.env.scope.names.lookup x = some .local
theorem own_read {σ : L2.St} {H : Hp} {Pr : Addr → Prop} {F : List Addr} {ρ : En} {m : C.W.M} {E : DE C.W.M} {D' : Ends} (i : Nat) (S : SR X.K C Pr F σ ρ m H) (l : Lk X C Pr F H E D') {v : V} {H1 : Hp}
    (h : Post X.K C .f Pr F H σ ρ (fun d m' => match d with | .lst ds => D.nls ds = true ∧ E.nx (ρ.set i (.own ds)) m' | _ => False) v H1) : D'.nx (σ.set i (some v)) H1 := by
  obtain ⟨P1, F1, m1, d, S1, t1, dv, z⟩ := h
  try dsimp only at z
  split at z
  · obtain ⟨p, vs, rfl, hn, np, hp, hd⟩ := dv.2 _ rfl
    obtain ⟨S2, t2⟩ := S.owned t1 S1 i hn hp np hd z.1
    exact l.nx _ _ _ _ _ _ S2 t2.toTr z.2
  · exact z.elim
theorem js_set (i : Nat) {x : Str} {te : DT C.W.M} (hN : X.N.Nodup) (h : J .s X C e te) (hi : X.N[i]? = some x := by rfl) (hx : Loc X.env.scope x := by first | exact .inl rfl | exact .inr rfl) (hf : LocF X x := by first | exact .inl rfl | exact .inr rfl) (hs : swapsWith e (some (.Name x pos')) pos.line X.env = pure false := by rfl) :
    JS X C (.Assign [.Name x pos'] e pos) (dSet i te) := by
  obtain ⟨t1, p, q⟩ := h
  exact ⟨_, ps_set hN hi hx p hs hf, fun σ H Pr F ρ m E D' S l h => q σ H Pr F ρ m _ _ _ S (l.ex σ) h fun v H1 ⟨P1, F1, m1, d, S1, t1, dv, z⟩ => l.nx _ _ _ _ _ _ (S1.set i dv) t1.toTr z⟩
theorem js_setO (i : Nat) {x : Str} {te : DT C.W.M} (hN : X.N.Nodup) (h : J .f X C e te) (hi : X.N[i]? = some x := by rfl) (hx : Loc X.env.scope x := by first | exact .inl rfl | exact .inr rfl) (hf : LocF X x := by first | exact .inl rfl | exact .inr rfl) (hs : swapsWith e (some (.Name x pos')) pos.line X.env = pure false := by rfl) :
    JS X C (.Assign [.Name x pos'] e pos) (dSetO i te) := by
  obtain ⟨t1, p, q⟩ := h
  exact ⟨_, ps_set hN hi hx p hs hf, fun σ H Pr F ρ m E D' S l h => q σ H Pr F ρ m _ _ _ S (l.ex σ) h fun v H1 z => own_read i S l z⟩
/-- name = [..], on one line -/
theorem js_setLc (i : Nat) {x : Str} {py : Pos} {elt tg iter : Expr} {ifs : List Expr} {scope : Scope} {own : List (Str × Nat)} {ti : DTA C.W.M} {g : DG} {dt : DTT C.W.M} {de : DT C.W.M} {ws : List Nat} {lp : Pos} (hc : X.calm = true) (hN : X.N.Nodup) (hi : JI false X C tg iter ti) (ok : BlkOk X.N X.env.scope scope own)
    (hg : ∀ s H c cl fp, JG (Blk X scope s H c cl fp) C.nox tg ws g) (ht : ∀ s H c cl fp, JTs (Blk X scope s H c cl fp) C.nox ifs dt) (he : ∀ s H c cl fp, J .s (Blk X scope s H c cl fp) C.nox elt de)
    (hw : ∀ i ∈ ws, i ∈ own.map (·.2)) (hy : X.N[i]? = some x := by rfl) (hyl : X.env.scope.names.lookup x = some .local := by rfl) (hsw : swapsWith (.ListComp elt [⟨tg, iter, ifs, 0⟩] scope lp) (some (.Name x py)) pos.line X.env = pure true := by exact sw_true rfl rfl rfl (by decide +kernel)) (hs : ∀ z, foldedSetIterable iter X.env z = pure z := by intro _; rfl) :
    JS X C (.Assign [.Name x py] (.ListComp elt [⟨tg, iter, ifs, 0⟩] scope lp) pos) (dSet i (dLc ti g dt de (own.map (·.2)))) := by
  obtain ⟨wi, pi, qi⟩ := hi
  refine ⟨_, ps_setLc (g := cnG X.K C.nox ws g) (tt := cnT X.K C.nox dt) (te := cnE .s X.K C.nox de) hc hN hy hyl hsw pi ok (fun s H c cl fp => (hg s H c cl fp).cn) (fun s H c cl fp => (ht s H c cl fp).cn) (fun s H c cl fp => (he s H c cl fp).cn) hs, fun σ H Pr F ρ m E D' S l h => ?_⟩
  exact lc_all qi hw S (l.ex σ) h fun v H1 ⟨P1, F1, m1, d, S1, t1, dv, z⟩ => l.nx _ _ _ _ _ _ (S1.set i dv.1) t1.toTr z
theorem js_setLcO (i : Nat) {x : Str} {py : Pos} {elt tg iter : Expr} {ifs : List Expr} {scope : Scope} {own : List (Str × Nat)} {ti : DTA C.W.M} {g : DG} {dt : DTT C.W.M} {de : DT C.W.M} {ws : List Nat} {lp : Pos} (hc : X.calm = true) (hN : X.N.Nodup) (hi : JI false X C tg iter ti) (ok : BlkOk X.N X.env.scope scope own)
    (hg : ∀ s H c cl fp, JG (Blk X scope s H c cl fp) C.nox tg ws g) (ht : ∀ s H c cl fp, JTs (Blk X scope s H c cl fp) C.nox ifs dt) (he : ∀ s H c cl fp, J .s (Blk X scope s H c cl fp) C.nox elt de)
    (hw : ∀ i ∈ ws, i ∈ own.map (·.2)) (hy : X.N[i]? = some x := by rfl) (hyl : X.env.scope.names.lookup x = some .local := by rfl) (hsw : swapsWith (.ListComp elt [⟨tg, iter, ifs, 0⟩] scope lp) (some (.Name x py)) pos.line X.env = pure true := by exact sw_true rfl rfl rfl (by decide +kernel)) (hs : ∀ z, foldedSetIterable iter X.env z = pure z := by intro _; rfl) :
    JS X C (.Assign [.Name x py] (.ListComp elt [⟨tg, iter, ifs, 0⟩] scope lp) pos) (dSetO i (dLc ti g dt de (own.map (·.2)))) := by
  obtain ⟨wi, pi, qi⟩ := hi
  refine ⟨_, ps_setLc (g := cnG X.K C.nox ws g) (tt := cnT X.K C.nox dt) (te := cnE .s X.K C.nox de) hc hN hy hyl hsw pi ok (fun s H c cl fp => (hg s H c cl fp).cn) (fun s H c cl fp => (ht s H c cl fp).cn) (fun s H c cl fp => (he s H c cl fp).cn) hs, fun σ H Pr F ρ m E D' S l h => ?_⟩
  exact lc_all qi hw S (l.ex σ) h fun v H1 z => own_read i S l z
/-- (a, b) = e -/
def dAsg {M : Type} (t : DT M) (g : DG) : DS M := fun E ρ m => t ρ m (fun d m' => g d ρ fun ρ' => E.nx ρ' m') E.ex
theorem js_asg {tg : Expr} {ws : List Nat} {g : DG} {te : DT C.W.M} (h : J .s X C e te) (hg : JG X C tg ws g) (hs : swapsWithSole [tg] e pos.line X.env = pure false := by rfl) (hw : swappedStores [tg] e X.env = pure none := by rfl) (h1 : (assignEach [tg] X.env).map (·.2) = [assign tg X.env] := by rfl) : JS X C (.Assign [tg] e pos) (dAsg te g) := by
  obtain ⟨t1, p, q⟩ := h
  obtain ⟨t2, p2, q2⟩ := hg
  exact ⟨_, ps_asg p p2 hs hw h1, fun σ H Pr F ρ m E D' S l h => q σ H Pr F ρ m _ _ _ S (l.ex σ) h fun v H1 ⟨P1, F1, m1, d, S1, t1, dv, z⟩ => q2 σ H1 P1 F1 ρ m1 v d _ _ S1 dv z fun σ' ρ' S2 _ z => l.nx _ _ _ _ _ _ S2 t1.toTr z⟩
/-- a, b = x, y, the names plain locals -/
def dPar {M : Type} (i j : Nat) (t : DTA M) : DS M := fun E ρ m => t ρ m (fun ds m' => match ds with | [x, y] => E.nx ((ρ.set i (.val x)).set j (.val y)) m' | _ => False) E.ex
theorem js_par (i j : Nat) {x y : Str} {a b : Expr} {ta : DTA C.W.M} {px py pt : Pos} {kt k2 pt2} (hc : X.calm = true) (hN : X.N.Nodup) (ha : JA .s X C [a, b] ta) (hw : swappedStores [.Tuple [.Name x px, .Name y py] kt pt] (.Tuple [a, b] k2 pt2) X.env = pure (some [x, y]) := by rfl)
    (hi : X.N[i]? = some x := by rfl) (hj : X.N[j]? = some y := by rfl) (hij : i ≠ j := by decide) (hx : X.env.scope.names.lookup x = some .local := by rfl) (hy : X.env.scope.names.lookup y = some .local := by rfl)
    (hs : swapsWithSole [.Tuple [.Name x px, .Name y py] kt pt] (.Tuple [a, b] k2 pt2) pos.line X.env = pure false := by rfl) : JS X C (.Assign [.Tuple [.Name x px, .Name y py] kt pt] (.Tuple [a, b] k2 pt2) pos) (dPar i j ta) := by
  obtain ⟨t1, p, q⟩ := ha
  refine ⟨_, ps_par hc hN hi hj hij hx hy p hw hs, fun σ H Pr F ρ m E D' S l h => q σ H Pr F ρ m _ _ _ S (l.ex σ) h fun vs H1 ⟨P1, F1, m1, ds, S1, t1, dv, z⟩ => ?_⟩
  have dv : DnA true X.K F1 (sv C.H0 P1 H1) vs ds := dv
  try dsimp only at z
  split at z
  · cases dv with
    | cons h1 r =>
      cases r with
      | cons h2 r =>
        cases r
        exact ⟨_, _, rfl, l.nx _ _ _ _ _ _ ((S1.set i h1).set j h2) t1.toTr z⟩
  · exact z.elim
/-- name op= e, of whole numbers -/
def dAug {M : Type} (i : Nat) (f : Int → Int → Int) (t : DT M) : DS M := fun E ρ m => match ρ[i]? with
  | some (.val (.int x)) => t ρ m (fun y m' => match y with | .int y => E.nx (ρ.set i (.val (.int (f x y)))) m' | _ => False) E.ex
  | _ => False
theorem js_aug (i : Nat) {x : Str} {op : Operator} {f : Int → Int → Int} {te : DT C.W.M} (ho : PIp X op (ipI f)) (hN : X.N.Nodup) (h : J .w X C e te) (hi : X.N[i]? = some x := by rfl) (hx : Loc X.env.scope x := by first | exact .inl rfl | exact .inr rfl) (hf : LocF X x := by first | exact .inl rfl | exact .inr rfl) :
    JS X C (.AugAssign (.Name x pos') op e pos) (dAug i f te) := by
  obtain ⟨t1, p, q⟩ := h
  refine ⟨_, ps_aug hN hi hx p ho hf, fun σ H Pr F ρ m E D' S l h => ?_⟩
  unfold dAug at h
  split at h
  · rename_i z e0
    obtain ⟨v, ev, dz⟩ := S.slot i _ e0
    refine ⟨v, ev, q σ H Pr F ρ m _ _ _ S (l.ex σ) h fun w H1 ⟨P1, F1, m1, d, S1, t1, dv, z⟩ => ?_⟩
    have dv : Dn false X.K F1 (wv F1 H1) w d := dv
    dsimp only at z
    split at z
    · exact ⟨_, _, dz.toInt, dv.toInt, l.nx _ _ _ _ _ _ (S1.set i (.int _)) t1.toTr z⟩
    · exact z.elim
  · exact h.elim
/-- x.append(e), x's own list -/
def dApp {M : Type} (i : Nat) (t : DT M) : DS M := fun E ρ m => match ρ[i]? with
  | some (.own ds) => t ρ m (fun d m' => d.nl = true ∧ ds.length < sizeLine ∧ E.nx (ρ.set i (.own (ds ++ [d]))) m') E.ex
  | _ => False
theorem nls_snoc {ds : List D} {d : D} (h : D.nls ds = true) (h' : d.nl = true) : D.nls (ds ++ [d]) = true := nls_app h (by rw [D.nls, h', Bool.true_and]; rfl)
theorem js_append (i : Nat) {x : Str} {np apos cpos : Pos} {te : DT C.W.M} (h : J .s X C e te) (hN : X.N[i]? = some x := by rfl) (hv : Vis X.env.scope x := by first | exact Or.inl rfl | exact Or.inr (Or.inl rfl) | exact Or.inr (Or.inr rfl)) (hd : (x == ("__debug__" : Str)) = false := by decide) (hcd : (x == ("__classdict__" : Str)) = false := by decide)
    (hfew : ((backTo cpos (starEach [e] X.env)).all (fun x => !x.1) && (backToKw cpos (keywordEach [] X.env)).all (fun x => x.1.isSome) && decide ([e].length + ([] : List Keyword).length + (if ([] : List Keyword).isEmpty then 0 else 1) < 30)) = true := by rfl)
    (hline : (apos.endLine == cpos.line) = true := by rfl) (hs : starEach [e] X.env = (false, eval e X.env) :: starEach [] X.env := by rfl) :
    JS X C (.Expr (.Call (.Attribute (.Name x np) "append" apos) [e] [] cpos) pos) (dApp i te) := by
  obtain ⟨t1, p, q⟩ := h
  refine ⟨_, ps_expr (pe_bm PySem.F.plainAttrs_list PySem.F.slot_list_append PySem.F.type_list_append mt_append (pe_var hN hv hd hcd) (pa_cons p pa_nil hs) rfl hfew hline hs rfl) rfl, fun σ H Pr F ρ m E D' S l h => ?_⟩
  unfold dApp at h
  split at h
  · rename_i ds e0
    obtain ⟨p0, vs, e1, hp, pp, nf, hds, nn⟩ := S.slot i _ e0
    refine ⟨.ref p0, e1, .inl ⟨rfl, vs, SqL.of hp⟩, q σ H Pr F ρ m _ _ _ S (l.ex σ) h fun w H1 ⟨P1, F1, m1, d, S1, t1, dv, z⟩ => ?_⟩
    have dv : Dn true X.K F1 (sv C.H0 P1 H1) w d := dv
    obtain ⟨p1, us, e2, hp1, pp1, nf1, hds1, nn1⟩ := S1.slot i _ e0
    rw [e1] at e2; cases e2
    obtain ⟨S2, t2⟩ := S1.change e0 e1 (hds1.app (.cons dv .nil)) (nls_snoc nn1 z.1)
    exact ⟨p0, us, w, rfl, rfl, hp1, by rw [hds1.length]; exact z.2.1, l.nx _ _ _ _ _ _ S2 (t1.toTr.trans t2) z.2.2⟩
  · exact h.elim
/-- x[k] = e, x's own list -/
def dSetI {M : Type} (i : Nat) (te tk : DT M) : DS M := fun E ρ m => match ρ[i]? with
  | some (.own ds) => te ρ m (fun d m1 => tk ρ m1 (fun k m2 => match k with
    | .int k => (match ixN ds.length k with | some j => d.nl = true ∧ E.nx (ρ.set i (.own (ds.set j d))) m2 | none => False) | _ => False) E.ex) E.ex
  | _ => False
theorem nls_set {ds : List D} {d : D} {j : Nat} (h : D.nls ds = true) (h' : d.nl = true) : D.nls (ds.set j d) = true := nls_all.mpr fun x hx => by
  rcases List.mem_or_eq_of_mem_set hx with z | z
  · exact nls_all.mp h x z
  · rw [z]; exact h'
theorem js_seti (i : Nat) {x : Str} {np sp : Pos} {k : Expr} {te tk : DT C.W.M} (h : J .s X C e te) (hk : J .w X C k tk) (hN : X.N[i]? = some x := by rfl) (hv : Vis X.env.scope x := by first | exact Or.inl rfl | exact Or.inr (Or.inl rfl) | exact Or.inr (Or.inr rfl)) (hd : (x == ("__debug__" : Str)) = false := by decide) (hcd : (x == ("__classdict__" : Str)) = false := by decide)
    (ha : ∀ v, assign (.Subscript (.Name x np) k sp) X.env v = (do
      let ov ← holding [v] (eval (.Name x np) X.env)
      let iv ← holding [v, ov] (eval k X.env)
      standAt sp
      holding [v, ov, iv] (setItem ov iv v)
      release [v, ov, iv] []) := by intro _; rfl)
    (hs : swapsWithSole [.Subscript (.Name x np) k sp] e pos.line X.env = pure false := by rfl) (hw : swappedStores [.Subscript (.Name x np) k sp] e X.env = pure none := by rfl) (h1 : (assignEach [.Subscript (.Name x np) k sp] X.env).map (·.2) = [assign (.Subscript (.Name x np) k sp) X.env] := by rfl) :
    JS X C (.Assign [.Subscript (.Name x np) k sp] e pos) (dSetI i te tk) := by
  obtain ⟨t1, p, q⟩ := h
  obtain ⟨t2, p2, q2⟩ := hk
  refine ⟨_, ps_asg p (pg_sub (pe_var hN hv hd hcd) p2 set_list ha) hs hw h1, fun σ H Pr F ρ m E D' S l h => ?_⟩
  unfold dSetI at h
  split at h
  · rename_i ds e0
    obtain ⟨p0, vs, e1, hp, pp, nf, hds, nn⟩ := S.slot i _ e0
    refine q σ H Pr F ρ m _ _ _ S (l.ex σ) h fun w H1 ⟨P1, F1, m1, d, S1, t1, dv, z⟩ => ?_
    have dv : Dn true X.K F1 (sv C.H0 P1 H1) w d := dv
    refine ⟨.ref p0, e1, q2 σ H1 P1 F1 ρ m1 _ _ _ S1 ((l.ex σ).te t1.toTr) z fun kv H2 ⟨P2, F2, m2, kd, S2, t2, dk, z2⟩ => ?_⟩
    have dk : Dn false X.K F2 (wv F2 H2) kv kd := dk
    dsimp only at z2
    split at z2
    · split at z2
      · rename_i j ej
        obtain ⟨p1, us, e2, hp1, pp1, nf1, hds1, nn1⟩ := S2.slot i _ e0
        rw [e1] at e2; cases e2
        obtain ⟨S3, t3⟩ := S2.change e0 e1 (hds1.set (dv.tr t2.toTr S1.prs) j) (nls_set nn1 z2.1)
        exact ⟨p0, us, _, j, rfl, dk.toInt, hp1, by rw [hds1.length]; exact ej, l.nx _ _ _ _ _ _ S3 ((t1.trans t2).toTr.trans t3) z2.2⟩
      · exact z2.elim
    · exact z2.elim
  · exact h.elim
/-- x[k] += e (or another operator), x's own list of whole numbers -/
def dAugI {M : Type} (i : Nat) (f : Int → Int → Int) (tk te : DT M) : DS M := fun E ρ m => match ρ[i]? with
  | some (.own ds) => tk ρ m (fun k m1 => match k with
    | .int k => (match ixN ds.length k with
      | some j => (match ds[j]? with
        | some (.int x) => te ρ m1 (fun d m2 => match d with | .int y => E.nx (ρ.set i (.own (ds.set j (.int (f x y))))) m2 | _ => False) E.ex
        | _ => False)
      | none => False)
    | _ => False) E.ex
  | _ => False
theorem get_list : PGet X (rIxL X.K) := by
  intro pins s σ H x y v u Q I rx ry h
  obtain ⟨p, xs, i, z, rfl, rfl, hq, he, q⟩ := h
  cases rx
  obtain ⟨t, rfl⟩ := ry
  obtain ⟨its, r, pl, hz⟩ := I.list hq
  obtain ⟨j, h1, h2, h3, h4, h5⟩ := atI_get he
  obtain ⟨w, ew, rw'⟩ := r.get h2
  have hl := r.length
  have hn := line63
  have fin : EP X pins σ Q w s := ⟨z, H, I, rw', q⟩
  by_cases h0 : 0 ≤ i
  · have hj : i.toNat = j := by
      rw [seqIndex_of h0 h5] at h1
      exact Option.some.inj h1
    exact wpAny_getItem_list pl.isList h0 (by omega) (by rw [hj]; simpa using ew) fin
  · have hj : (i + (its.toArray.size : Int)).toNat = j := by
      rw [seqIndex_neg (by omega) h4] at h1
      rw [List.size_toArray, ← hl]
      exact Option.some.inj h1
    exact wpAny_getItem_list_neg pl.isList (by omega) (by rw [List.size_toArray] <;> omega) (by omega) (by rw [hj]; simpa using ew) fin
theorem js_augi (i : Nat) {x : Str} {np sp : Pos} {k : Expr} {op : Operator} {f : Int → Int → Int} {te tk : DT C.W.M} (ho : PIp X op (ipI f)) (hk : J .w X C k tk) (h : J .w X C e te) (hN : X.N[i]? = some x := by rfl) (hv : Vis X.env.scope x := by first | exact Or.inl rfl | exact Or.inr (Or.inl rfl) | exact Or.inr (Or.inr rfl)) (hd : (x == ("__debug__" : Str)) = false := by decide) (hcd : (x == ("__classdict__" : Str)) = false := by decide)
    (ha : ∀ ov iv new, augStore k ov iv new = (do holding [new, ov, iv] (setItem ov iv new); release [new, ov, iv] []; pure .next) := by intros; rfl) :
    JS X C (.AugAssign (.Subscript (.Name x np) k sp) op e pos) (dAugI i f tk te) := by
  obtain ⟨t1, p, q⟩ := h
  obtain ⟨t2, p2, q2⟩ := hk
  refine ⟨_, ps_augS (pe_var hN hv hd hcd) p2 get_list p ho set_list ha, fun σ H Pr F ρ m E D' S l h => ?_⟩
  unfold dAugI at h
  split at h
  · rename_i ds e0
    obtain ⟨p0, vs, e1, hp, pp, nf, hds, nn⟩ := S.slot i _ e0
    refine ⟨.ref p0, e1, q2 σ H Pr F ρ m _ _ _ S (l.ex σ) h fun kv H1 ⟨P1, F1, m1, kd, S1, t1, dk, z⟩ => ?_⟩
    have dk : Dn false X.K F1 (wv F1 H1) kv kd := dk
    dsimp only at z
    split at z
    · split at z
      · rename_i j ej
        split at z
        · rename_i xi exi
          obtain ⟨p1, us, e2, hp1, pp1, nf1, hds1, nn1⟩ := S1.slot i _ e0
          rw [e1] at e2; cases e2
          obtain ⟨u0, eu, du⟩ := hds1.getD exi
          refine ⟨p0, us, _, u0, rfl, dk.toInt, SqL.of hp1, ?_, q σ H1 P1 F1 ρ m1 _ _ _ S1 ((l.ex σ).te t1.toTr) z fun w H2 ⟨P2, F2, m2, d, S2, t2, dv, z2⟩ => ?_⟩
          · unfold atI
            rw [hds1.length, ej]
            exact eu
          · have dv : Dn false X.K F2 (wv F2 H2) w d := dv
            dsimp only at z2
            split at z2
            · obtain ⟨p2', us2, e3, hp2, pp2, nf2, hds2, nn2⟩ := S2.slot i _ e0
              rw [e1] at e3; cases e3
              obtain ⟨S3, t3⟩ := S2.change e0 e1 (hds2.set (.int _) j) (nls_set nn2 rfl)
              exact ⟨_, _, du.toInt, dv.toInt, p0, us2, _, j, rfl, dk.toInt, hp2, by rw [hds2.length]; exact ej, l.nx _ _ _ _ _ _ S3 ((t1.trans t2).toTr.trans t3) z2⟩
            · exact z2.elim
        · exact z.elim
      · exact z.elim
    · exact z.elim
  · exact h.elim
/-! ### loops -/
/-- W: a word of the turns left, the names, the world -/
def dWhile {M : Type} (c : DTT M) (t : DS M) : DS M := fun E ρ m => ∃ W : Nat → En → M → Prop, (∃ n, W n ρ m) ∧ ∀ n ρ m, W n ρ m →
  c ρ m (fun b m1 => if b = true then t { E with nx := fun ρ' m' => ∃ n', n' < n ∧ W n' ρ' m', ct := fun ρ' m' => ∃ n', n' < n ∧ W n' ρ' m', bk := E.nx } ρ m1 else E.nx ρ m1) E.ex
theorem js_while {c : Expr} {tc : DTT C.W.M} (hp : PassesOwn (model X.prog X.w) X.A X.env X.xe) (hc : JT X C c tc) (hb : JSs X C body t) : JS X C (.While c body [] pos) (dWhile tc t) := by
  obtain ⟨tt, p, q⟩ := hc
  obtain ⟨t1, p1, q1⟩ := hb
  refine ⟨_, ps_while hp p p1, fun σ H Pr F ρ m E D' S l h => ?_⟩
  obtain ⟨W, ⟨n0, w0⟩, turn⟩ := h
  refine ⟨fun n σ' H' => ∃ ρ' m' Pr' F', SR X.K C Pr' F' σ' ρ' m' H' ∧ Tr Pr F H Pr' F' H' ∧ W n ρ' m', ⟨n0, ρ, m, Pr, F, S, Tr.refl, w0⟩, ?_⟩
  rintro n σ1 H1 ⟨ρ1, m1, P1, F1, S1, t1, w1⟩
  refine q σ1 H1 P1 F1 ρ1 m1 _ _ _ S1 ((l.ex σ1).te t1) (turn n ρ1 m1 w1) fun b H2 ⟨P2, F2, m2, S2, t2, z⟩ => ?_
  have t2 := t1.trans t2.toTr
  cases b with
  | false => exact iteF (l.nx _ _ _ _ _ _ S2 t2 z)
  | true =>
    refine iteT ⟨fun σ' H' => ∃ n', n' < n ∧ ∃ ρ' m' Pr' F', SR X.K C Pr' F' σ' ρ' m' H' ∧ Tr Pr F H Pr' F' H' ∧ W n' ρ' m', fun σ' H' h => h, ?_⟩
    refine q1 σ1 H2 P2 F2 ρ1 m2 { E with nx := fun ρ' m' => ∃ n', n' < n ∧ W n' ρ' m', ct := fun ρ' m' => ∃ n', n' < n ∧ W n' ρ' m', bk := E.nx } _ S2 ⟨fun σ' H' ρ' m' P3 F3 S3 t3 ⟨n', hn, w'⟩ => ⟨n', hn, ρ', m', P3, F3, S3, t2.trans t3, w'⟩, (l.tr t2).rt, (l.tr t2).nx, fun σ' H' ρ' m' P3 F3 S3 t3 ⟨n', hn, w'⟩ => ⟨n', hn, ρ', m', P3, F3, S3, t2.trans t3, w'⟩, (l.tr t2).ex⟩ z
/-- W: a word of the items left, the names, the world -/
def dFor {M : Type} (ti : DTA M) (g : DG) (t : DS M) : DS M := fun E ρ m => ti ρ m (fun items m1 => ∃ W : List D → En → M → Prop, W items ρ m1 ∧ (∀ ρ m, W [] ρ m → E.nx ρ m) ∧
  ∀ x r ρ m, W (x :: r) ρ m → g x ρ fun ρ2 => t { E with nx := W r, ct := W r, bk := E.nx } ρ2 m) E.ex
theorem js_for {tg iter : Expr} {ti : DTA C.W.M} {ws : List Nat} {g : DG} (hp : PassesOwn (model X.prog X.w) X.A X.env X.xe) (hc : X.calm = true) (hi : JI true X C tg iter ti) (hg : JG X C tg ws g) (hb : JSs X C body t) (hs : ∀ x, foldedSetIterable iter X.env x = pure x := by intro _; rfl) :
    JS X C (.For tg iter body [] pos) (dFor ti g t) := by
  obtain ⟨wi, pi, qi⟩ := hi
  obtain ⟨tgt, pg, qg⟩ := hg
  obtain ⟨t1, p1, q1⟩ := hb
  refine ⟨_, ps_for hp hc pi pg p1 hs, fun σ H Pr F ρ m E D' S l h => ?_⟩
  refine qi σ H Pr F ρ m _ _ _ S (l.ex σ) h fun J H1 ⟨P1, F1, m1, items, S1, t1, ⟨G, Y, w, hG⟩, z⟩ => ?_
  obtain ⟨W, w0, wd, turn⟩ := z
  refine for_it w (fun i σ' H' => ∃ ρ' m' Pr' F', SR X.K C Pr' F' σ' ρ' m' H' ∧ Tr P1 F1 H1 Pr' F' H' ∧ W (items.drop i) ρ' m') ⟨ρ, m1, P1, F1, S1, Tr.refl, w0⟩ (fun i σ' H' _ ⟨ρ', m', P2, F2, S2, t2, _⟩ => (hG P2 F2 H' t2).1) (fun i x σ' H' H2 hi ⟨ρ', m', P2, F2, S2, t2, w2⟩ y => ?_) (fun σ' H' ⟨ρ', m', P2, F2, S2, t2, w2⟩ => ?_)
  · obtain ⟨k2, d, ed, hd⟩ := (hG P2 F2 H' t2).2 i x H2 y
    have S3 := S2.grow k2
    have t3 := t2.trans (S2.te k2).toTr
    have ei : items.drop i = d :: items.drop (i + 1) := by
      obtain ⟨hlt, e⟩ := List.getElem?_eq_some_iff.mp ed
      rw [List.drop_eq_getElem_cons hlt, e]
    rw [ei] at w2
    refine qg σ' H2 P2 F2 ρ' m' x d _ _ S3 hd (turn d _ ρ' m' w2) fun σ2 ρ2 S4 _ z => ?_
    have t4 := t1.toTr.trans t3
    exact q1 σ2 H2 P2 F2 ρ2 m' { E with nx := W (items.drop (i + 1)), ct := W (items.drop (i + 1)), bk := E.nx } _ S4 ⟨fun σ5 H5 ρ5 m5 P5 F5 S5 t5 w5 => ⟨ρ5, m5, P5, F5, S5, t3.trans t5, w5⟩, (l.tr t4).rt, (l.tr t4).nx, fun σ5 H5 ρ5 m5 P5 F5 S5 t5 w5 => ⟨ρ5, m5, P5, F5, S5, t3.trans t5, w5⟩, (l.tr t4).ex⟩ z
  · rw [List.drop_length] at w2
    exact l.nx _ _ _ _ _ _ S2 (t1.toTr.trans t2) (wd _ _ w2)
/-- from here on a list of its own is data -/
def dRel {M : Type} (i : Nat) (t : DS M) : DS M := fun E ρ m => match ρ[i]? with | some (.own ds) => t E (ρ.set i (.val (.lst ds))) m | _ => False
theorem jss_rel (i : Nat) {sts : List Stmt} (h : JSs X C sts t) : JSs X C sts (dRel i t) := by
  obtain ⟨t1, p, q⟩ := h
  refine ⟨t1, p, fun σ H Pr F ρ m E D' S l h => ?_⟩
  unfold dRel at h
  split at h
  · rename_i ds e0
    obtain ⟨P1, S1, t1⟩ := S.release e0
    exact q σ H P1 F _ m E D' S1 (l.tr t1) h
  · exact h.elim
/-- raise X("..") -/
def dRaise {M : Type} (x : Str) : DS M := fun E _ m => E.ex x m
/-- an exception class of the program's own over ValueError -/
def ExcF (K : PySem.W.Frag) (mg : Str → Option Value) (x : Str) : Prop := ∃ Cc bmB newId initId, ExcBaseFacts "ValueError" newId initId bmB ∧ mg x = some (.ref Cc) ∧ PySem.W.excIn K Cc bmB newId = true ∧ PySem.W.keepIn K (.ref Cc) = true ∧ PySem.W.subIn K (.ref Cc) (.type "BaseException") = some true ∧ PySem.W.typeIn K (.ref Cc) = some (.type "type")
theorem js_raise {x msg : Str} {j : Nat} {p p2 cp : Pos} (hc : X.calm = true) (tk : Takes X C.wx) (h : ExcF X.K X.mg x) (hg : Gl X x := by rfl) (hdb : (x == ("__debug__" : Str)) = false := by decide) :
    JS X C (.Raise (some (.Call (.Name x p) [.Constant (.str msg) j p2] [] cp)) none pos) (dRaise x) := by
  obtain ⟨Cc, bmB, newId, initId, Fx, gC, qx, kC, r1, r2⟩ := h
  refine ⟨_, ps_raise hc tk (pmk_own Fx qx gC kC (raises_own r1 r2) hg hdb), fun σ H Pr F ρ m E D' S l h => ?_⟩
  exact l.ex σ x (.ref Cc) Pr F m H ρ gC S Tr.refl h
end
end RR

/-! RH: a def's promise by its body; the law's own promise -/
namespace RR
open PySem PySem.Spec PyProof.Rows L2
theorem ncl_w : Cl.w ≠ Cl.f := fun h => nomatch h
theorem ncl_s : Cl.s ≠ Cl.f := fun h => nomatch h
theorem ncl_r : Cl.r ≠ Cl.f := fun h => nomatch h
/-- the names' states at a def's entry; true: borrowed (an argument with lists) -/
def st0 : List Bool → List D → Nat → En
  | b :: ks, d :: ds, n + 1 => (if b = true then .bor d else .val d) :: st0 ks ds n
  | _, _, n => List.replicate n .un
def okK : List Bool → List D → Prop
  | b :: ks, d :: ds => (b = false → d.nl = true) ∧ okK ks ds
  | [], [] => True
  | _, _ => False
theorem st0_len : ∀ {ks : List Bool} {ds : List D} {n : Nat}, (st0 ks ds n).length = n
  | _ :: ks, _ :: ds, n + 1 => congrArg (· + 1) (st0_len (ks := ks) (ds := ds) (n := n))
  | [], _, n => by simp [st0]
  | _ :: _, [], n => by simp [st0]
  | _ :: _, _ :: _, 0 => by simp [st0]
theorem st0_slot {K : PySem.W.Frag} {C : Cn} {F : List Addr} {H : Hp} (hF : C.F0 = F) (hH : C.H0 = H) : ∀ {ks : List Bool} {ds : List D} {vs : List V} {n : Nat}, DnA false K F (wv F H) vs ds → okK ks ds →
    ∀ (i : Nat) (s : Sl), (st0 ks ds n)[i]? = some s → Sk K C (· ∈ F) F H (vs.map some ++ List.replicate (n - vs.length) none)[i]? s
  | [], _, _, n, _, _, i, s, e => by
    have z : s = .un := by
      simp only [st0] at e
      exact (List.mem_replicate.mp (List.mem_of_getElem? e)).2
    subst z; trivial
  | _ :: _, [], _, n, _, _, i, s, e => by
    have z : s = .un := by
      simp only [st0] at e
      exact (List.mem_replicate.mp (List.mem_of_getElem? e)).2
    subst z; trivial
  | _ :: _, _ :: _, _, 0, _, _, i, s, e => by simp [st0] at e
  | b :: ks, d :: ds, _, n + 1, .cons (v := v) (vs := vs) h r, ok, 0, s, e => by
    have e : (if b = true then Sl.bor d else Sl.val d) = s := by simpa [st0] using e
    subst e
    cases b with
    | true =>
      rw [if_pos rfl]
      exact ⟨v, by simp, by rw [hF, hH]; exact h⟩
    | false =>
      rw [if_neg Bool.false_ne_true]
      exact ⟨v, by simp, h.up (ok.1 rfl)⟩
  | b :: ks, d :: ds, _, n + 1, .cons (v := v) (vs := vs) h r, ok, i + 1, s, e => by
    have e : (st0 ks ds n)[i]? = some s := by simpa [st0] using e
    have := st0_slot (n := n) hF hH r ok.2 i s e
    simpa [Nat.add_sub_add_right] using this
theorem st0_own {ks : List Bool} {ds : List D} {n : Nat} : ∀ (i : Nat) (es : List D), (st0 ks ds n)[i]? ≠ some (.own es) := by
  intro i es e
  induction ks generalizing ds n i with
  | nil =>
    simp only [st0] at e
    exact nomatch (List.mem_replicate.mp (List.mem_of_getElem? e)).2
  | cons b ks ih =>
    cases ds with
    | nil =>
      simp only [st0] at e
      exact nomatch (List.mem_replicate.mp (List.mem_of_getElem? e)).2
    | cons d ds =>
      cases n with
      | zero => simp [st0] at e
      | succ n =>
        cases i with
        | zero =>
          simp only [st0, List.getElem?_cons_zero, Option.some.injEq] at e
          split at e <;> cases e
        | succ i => exact ih i (by simpa [st0] using e)
section
variable {P : Program} {w : World} {K : PySem.W.Frag} {mg : Str → Option Value} {base : Heap} {W : Wd}
/-- the state of a def at its entry -/
theorem sr_entry {C : Cn} {F : List Addr} {H : Hp} {m : C.W.M} {ks : List Bool} {ds : List D} {vs : List V} {N : List Str} (hF : C.F0 = F) (hH : C.H0 = H) (rz : C.W.Rz m F H) (dv : DnA false K F (wv F H) vs ds) (ok : okK ks ds) (hl : vs.length ≤ N.length) :
    SR K C (· ∈ F) F (L2.start N vs) (st0 ks ds N.length) m H where
  keep := fun a o _ e => by rw [hH] at e; exact e
  pre := ⟨[], by rw [hF]; simp⟩
  new := fun a h n => absurd h (by rw [hF] at n; exact n)
  prs := fun a h => C.W.there rz a h
  prn := fun a h n => absurd h n
  prf := fun a h => h
  rz := rz
  len := by
    rw [st0_len]
    unfold L2.start
    rw [List.length_append, List.length_map, List.length_replicate]
    omega
  slot := st0_slot hF hH dv ok
  dist := fun i j ds' es p _ e => absurd e (st0_own i ds')
abbrev XOf (P : Program) (w : World) (K : PySem.W.Frag) (mg : Str → Option Value) (base : Heap) (N : List Str) (x : Str) (sc : Scope) (f : Addr) (cdv : Value) (A : Around) (outer : List Env) (s : Shared) (H : Hp) (E : XK) : Cx := cxOf (L2.CX P w) P w K mg base N x sc f cdv A outer s H E
theorem fn_data {x : Str} {st : Stmt} {f : Addr} {fd : FuncData} {N ps : List Str} {k : Nat} {sp : DSp W.M} {t : DS W.M} (ks : List Bool) (F : Fun K x x st f fd) (S : FnScope N ps (defScope st))
    (len : ∀ ds m Q Z, sp ds m Q Z → ds.length = ps.length) (hn : ps.length ≤ N.length)
    (body : ∀ (cdv : Value) (A : Around) (outer : List Env) (s : Shared) (H : Hp) (E : XK) (F0 : List Addr), Room k (A.deeper (envOfC x (defScope st) s.heap.objs.size f cdv)) →
      JSs (XOf P w K mg base N x (defScope st) f cdv A outer s H E) ⟨W, H, F0, fun cls d _ H' => E cls d H'⟩ (defBody st) t)
    (vc : ∀ ds m Q Z, sp ds m Q Z → okK ks ds ∧ t { nx := fun _ m' => Q .non m', rt := Q, ex := Z } (st0 ks ds N.length) m) :
    FnOk P w K mg base (L2.CX P w) (k + 1) f fd ps (spD K mg W sp) := by
  have ln : ∀ vs H Q E, spD K mg W sp vs H Q E → vs.length = ps.length := fun vs H Q E h => by
    obtain ⟨F, m, ds, Qd, Zd, rz, dv, q, _⟩ := h
    rw [dv.length]
    exact len _ _ _ _ q
  refine F.okX S ln fun cdv A outer s H vs Q E hr h => ?_
  have lv := ln _ _ _ _ h
  obtain ⟨F0, m, ds, Qd, Zd, rz, dv, q, hq, hz⟩ := h
  obtain ⟨ts, p, r⟩ := body cdv A outer s H E F0 hr
  obtain ⟨ok, v⟩ := vc _ _ _ _ q
  refine ⟨ts, p, r (L2.start N vs) H (· ∈ F0) F0 _ m { nx := fun _ m' => Qd .non m', rt := Qd, ex := Zd } _ (sr_entry (C := ⟨W, H, F0, fun cls d _ H' => E cls d H'⟩) rfl rfl rz dv ok (by omega)) ⟨fun σ' H' ρ' m' P1 F1 S1 t1 q => ?_, fun v H' d m' P1 F1 σ' ρ' H1 S1 t1 dv q => ?_, fun _ _ _ _ _ _ _ _ q => q.elim, fun _ _ _ _ _ _ _ _ q => q.elim, fun σ' y cls P1 F1 m' H' ρ' hm S1 t1 q => ?_⟩ v⟩
  · exact hq .non H' F1 .non m' S1.rz S1.pre (fun a h n => S1.new a h n) (fun a o n e => S1.keep a o n e) .non q
  · exact hq v H' F1 d m' S1.rz S1.pre (fun a h n => S1.new a h n) (fun a o n e => S1.keep a o n e) dv q
  · exact hz y cls H' F1 m' hm S1.rz S1.pre (fun a h n => S1.new a h n) (fun a o n e => S1.keep a o n e) q
/-- a def without defaults -/
theorem fd_of {x : Str} {st : Stmt} {f : Addr} {fd : FuncData} {N ps : List Str} {k : Nat} {sp : DSp W.M} {t : DS W.M} (ks : List Bool) (F : Fun K x x st f fd) (gf : mg x = some (.ref f)) (b : Binds K fd ps []) (S : FnScope N ps (defScope st))
    (len : ∀ ds m Q Z, sp ds m Q Z → ds.length = ps.length) (hn : ps.length ≤ N.length)
    (body : ∀ (cdv : Value) (A : Around) (outer : List Env) (s : Shared) (H : Hp) (E : XK) (F0 : List Addr), Room k (A.deeper (envOfC x (defScope st) s.heap.objs.size f cdv)) →
      JSs (XOf P w K mg base N x (defScope st) f cdv A outer s H E) ⟨W, H, F0, fun cls d _ H' => E cls d H'⟩ (defBody st) t)
    (vc : ∀ ds m Q Z, sp ds m Q Z → okK ks ds ∧ t { nx := fun _ m' => Q .non m', rt := Q, ex := Z } (st0 ks ds N.length) m) : FD P w K mg base W (k + 1) x [] sp :=
  ⟨f, fd, ps, [], [], fn_data ks F S len hn body vc, gf, F.kp, b, .nil, fun _ _ => .nil⟩
/-- a def of the text, as found behind the top -/
structure Dfn (K : PySem.W.Frag) (mg : Str → Option Value) (x : Str) (st : Stmt) (ps : List Str) : Prop where
  ex : ∃ f fd, Fun K x x st f fd ∧ mg x = some (.ref f) ∧ Binds K fd ps []
/-- what fd_of asks of the body, in short: X and C as they stand -/
abbrev BodyJ (P : Program) (w : World) (K : PySem.W.Frag) (mg : Str → Option Value) (base : Heap) (W : Wd) (k : Nat) (N : List Str) (x : Str) (st : Stmt) (t : DS W.M) : Prop :=
  ∀ (f : Addr) (cdv : Value) (A : Around) (outer : List Env) (s : Shared) (H : Hp) (E : XK) (F0 : List Addr), Room k (A.deeper (envOfC x (defScope st) s.heap.objs.size f cdv)) →
      JSs (XOf P w K mg base N x (defScope st) f cdv A outer s H E) ⟨W, H, F0, fun cls d _ H' => E cls d H'⟩ (defBody st) t
theorem Dfn.fd {x : Str} {st : Stmt} {N ps : List Str} {k : Nat} {sp : DSp W.M} {t : DS W.M} (F : Dfn K mg x st ps) (ks : List Bool) (S : FnScope N ps (defScope st)) (body : BodyJ P w K mg base W k N x st t)
    (len : ∀ ds m Q Z, sp ds m Q Z → ds.length = ps.length) (vc : ∀ ds m Q Z, sp ds m Q Z → okK ks ds ∧ t { nx := fun _ m' => Q .non m', rt := Q, ex := Z } (st0 ks ds N.length) m) (hn : ps.length ≤ N.length := by decide) : FD P w K mg base W (k + 1) x [] sp := by
  obtain ⟨f, fd, Fn, gf, b⟩ := F.ex
  exact fd_of ks Fn gf b S len hn (body f) vc
theorem FD.mono {j k : Nat} {x : Str} {dds : List D} {sp : DSp W.M} (h : FD P w K mg base W j x dds sp) (l : j ≤ k) : FD P w K mg base W k x dds sp := by
  obtain ⟨f, fd, ps, ds, dvs, F, r⟩ := h
  exact ⟨f, fd, ps, ds, dvs, F.mono l, r⟩
end
/-- the world of nothing -/
def W0 : Wd where
  M := Unit
  Rz := fun _ F _ => F = []
  keep := fun h _ => h
  there := fun h a ha => by rw [h] at ha; cases ha
/-- a law's own promise -/
def spLaw (K : PySem.W.Frag) : Sp := fun vs H Q _ => ∃ (a : Addr) (ns : List Int), vs = [.ref a] ∧ SqL K H a (ns.map V.int) ∧ ns.length ≤ 63 ∧ ∀ H', Q (.bl true) H'
theorem ints_dn {s : Bool} {K : PySem.W.Frag} {F : List Addr} {G : Hp} : ∀ ns : List Int, DnA s K F G (ns.map V.int) (ns.map D.int)
  | [] => .nil
  | n :: ns => .cons (.int n) (ints_dn ns)
theorem law_of {P : Program} {w : World} {K : PySem.W.Frag} {mg : Str → Option Value} {base : Heap} {W : Wd} {k : Nat} {f : Addr} {fd : FuncData} {ps : List Str} {sp : DSp W.M} {m0 : W.M} (F : FnOk P w K mg base (L2.CX P w) k f fd ps (spD K mg W sp)) (r0 : ∀ H, W.Rz m0 [] H)
    (h : ∀ ns : List Int, ns.length ≤ 63 → sp [.lst (ns.map D.int)] m0 (fun d _ => d = .bl true) (fun _ _ => False)) : FnOk P w K mg base (L2.CX P w) k f fd ps (spLaw K) := by
  refine F.imp fun vs H Q E h' => ?_
  obtain ⟨a, ns, rfl, hs, hl, q⟩ := h'
  refine ⟨[], m0, [.lst (ns.map D.int)], _, _, r0 H, .cons (.lst (Ls.mono (s := false) (fun a o e => vw_iff.mpr ⟨e, by simp⟩) (show Ls false K H a _ from hs)) (ints_dn ns)) .nil, h ns hl, fun v H' F' d m' _ _ _ _ dn e => ?_, fun _ _ _ _ _ _ _ _ _ _ z => z.elim⟩
  subst e
  cases dn
  exact q H'
end RR

/-! RV: what the readings come to: bounds, lists of numbers, comprehensions -/
namespace RR
open PySem PySem.Spec PyProof.Rows L2
/-! ### sizes -/
def bd (n : Nat) (x : Int) : Prop := x.natAbs < 2 ^ n
theorem mulok {i j : Int} {a b : Nat} (ha : bd a i) (hb : bd b j) (h : a + b ≤ 100000000 := by decide) : IntMulOk i j := by
  have l : ∀ {x : Int} {n : Nat}, x.natAbs < 2 ^ n → Builtin.Int.intBits x ≤ n := fun {x n} h => by
    unfold Builtin.Int.intBits
    split
    · exact Nat.zero_le _
    · rename_i h0
      have h0 : x.natAbs ≠ 0 := by simpa using h0
      exact (Nat.log2_lt h0).mpr h
  have h1 := l ha
  have h2 := l hb
  have e : bitsLine = 134217728 := by decide
  intro z
  rw [Bool.and_eq_true] at z
  have z2 := z.2
  unfold Builtin.Int.intTooBig at z2
  have z3 := of_decide_eq_true z2
  rw [e] at z3
  omega
theorem bd_mul {a b : Nat} {x y : Int} (h : bd a x) (h' : bd b y) : bd (a + b) (x * y) := by
  unfold bd at *
  rw [Int.natAbs_mul, Nat.pow_add]
  exact Nat.mul_lt_mul'' h h'
theorem bd_mono {a b : Nat} {x : Int} (h : bd a x) (l : a ≤ b) : bd b x := Nat.lt_of_lt_of_le h (Nat.pow_le_pow_right (by decide) l)
theorem bd_add {a b : Nat} {x y : Int} (h : bd a x) (h' : bd b y) : bd (max a b + 1) (x + y) := by
  have h1 : bd (max a b) x := bd_mono h (by omega)
  have h2 : bd (max a b) y := bd_mono h' (by omega)
  unfold bd at *
  rw [Nat.pow_succ]
  omega
theorem bd_neg {a : Nat} {x : Int} (h : bd a x) : bd a (-x) := by unfold bd at *; omega
theorem bd_sub {a b : Nat} {x y : Int} (h : bd a x) (h' : bd b y) : bd (max a b + 1) (x - y) := by
  have := bd_add h (bd_neg h')
  rwa [← Int.sub_eq_add_neg] at this
theorem bd_lit {n : Nat} {x : Int} (h : x.natAbs < 2 ^ n) : bd n x := h
theorem bd_of {n : Nat} {x b : Int} (h0 : -b < x) (h1 : x < b) (hb : bd n b) : bd n x := by unfold bd at *; omega
theorem bd_fmod {b : Nat} {x y : Int} (h : bd b y) (h0 : 0 < y) : bd b (x.fmod y) := by
  have h1 := Int.fmod_nonneg_of_pos x h0
  have h2 := Int.fmod_lt_of_pos x h0
  unfold bd at *
  omega
theorem bd_abs {a : Nat} {x : Int} (h : bd a x) : bd a (iabs x) := by unfold bd iabs at *; split <;> omega
theorem iabs_eq (x : Int) : iabs x = (x.natAbs : Int) := by unfold iabs; split <;> omega
theorem imax_eq (x y : Int) : imax x y = max x y := by unfold imax; omega
theorem imin_eq (x y : Int) : imin x y = min x y := by unfold imin; omega
theorem nd_small {i j : Int} {b : Nat} (h : j ≠ 0) (hb : bd b j) (l : b ≤ 9000 := by decide) : Nd i j := by
  refine ⟨h, PyProof.noPylong_of_log2 ?_⟩
  have h0 : j.natAbs ≠ 0 := by omega
  have := (Nat.log2_lt h0).mpr hb
  omega
theorem fdiv_pos {i j : Int} (h : 0 ≤ j) : i.fdiv j = i / j := Int.fdiv_eq_ediv_of_nonneg i h
theorem fmod_pos {i j : Int} (h : 0 ≤ j) : i.fmod j = i % j := Int.fmod_eq_emod_of_nonneg i h
theorem small_line {n : Nat} (h : n ≤ 16777216) : n ≤ sizeLine := by rw [sizeLine_eq]; exact h
theorem lt_line {n : Nat} (h : n < 16777216) : n < sizeLine := by rw [sizeLine_eq]; exact h
/-! ### lists of numbers -/
abbrev zz (xs : List Int) : List D := xs.map D.int
theorem nls_ints : ∀ xs : List Int, D.nls (zz xs) = true
  | [] => rfl
  | _ :: xs => nls_ints xs
theorem nl_row (xs : List Int) : D.nl (.tup (zz xs)) = true := nls_ints xs
theorem nls_map {α : Type} {f : α → D} (h : ∀ a, (f a).nl = true) : ∀ xs : List α, D.nls (xs.map f) = true
  | [] => rfl
  | a :: xs => by rw [List.map_cons, D.nls, h a, nls_map h xs]; rfl
theorem q_int {n : Nat} {i : Int} : (D.int i).q n = true := by cases n <;> rfl
theorem q_row {n : Nat} (xs : List Int) : (D.tup (zz xs)).q (n + 1) = true := List.all_eq_true.mpr fun d hd => by
  obtain ⟨i, _, rfl⟩ := List.mem_map.mp hd
  exact q_int
theorem q_lst {n : Nat} (xs : List Int) : (D.lst (zz xs)).q (n + 1) = true := List.all_eq_true.mpr fun d hd => by
  obtain ⟨i, _, rfl⟩ := List.mem_map.mp hd
  exact q_int
theorem eqvs_ints : ∀ xs ys : List Int, D.eqvs (zz xs) (zz ys) = decide (xs = ys)
  | [], [] => rfl
  | [], _ :: _ => rfl
  | _ :: _, [] => rfl
  | x :: xs, y :: ys => by
    show ((D.int x).eqv (.int y) && D.eqvs (zz xs) (zz ys)) = _
    rw [eqvs_ints xs ys]
    show (decide (x = y) && decide (xs = ys)) = _
    rw [Bool.eq_iff_iff]
    simp
theorem eqv_row (xs ys : List Int) : (D.tup (zz xs)).eqv (.tup (zz ys)) = decide (xs = ys) := eqvs_ints xs ys
theorem eqv_lst (xs ys : List Int) : (D.lst (zz xs)).eqv (.lst (zz ys)) = decide (xs = ys) := eqvs_ints xs ys
theorem eqv_int (x y : Int) : (D.int x).eqv (.int y) = decide (x = y) := rfl
theorem atI_pos {α : Type} {xs : List α} {k : Nat} {x : α} (h : xs[k]? = some x) : atI xs (k : Int) = some x := atI_nat h
theorem atI_ints {xs : List Int} {i : Int} : atI (zz xs) i = (atI xs i).map D.int := by
  unfold atI
  rw [List.length_map]
  cases ixN xs.length i with
  | none => rfl
  | some j => simp
theorem atI_at {α : Type} {xs : List α} {i : Int} (h0 : 0 ≤ i) (h1 : i < xs.length) : atI xs i = some (xs[i.toNat]'(by omega)) := by
  unfold atI ixN
  rw [if_pos h0, if_pos h1]
  simp
theorem ixN_at {n : Nat} {i : Int} (h0 : 0 ≤ i) (h1 : i < n) : ixN n i = some i.toNat := by
  unfold ixN
  rw [if_pos h0, if_pos h1]
theorem iota_map (n : Nat) : iota 0 n = (List.range n).map fun k => D.int (k : Nat) := by
  unfold iota
  refine List.map_congr_left fun k _ => ?_
  rw [Int.zero_add]
/-! ### slices of plain bounds -/
theorem cut_upto {ds : List D} {k : Int} (h0 : 0 ≤ k) : cutD ds none (some k) = ds.take k.toNat := by
  unfold cutD
  obtain ⟨n, rfl⟩ := Int.eq_ofNat_of_zero_le h0
  rw [HT.sIx_none, HT.sIx_nat, List.drop_zero, Nat.sub_zero]
  simp only [Int.toNat_natCast]
  rcases Nat.le_total n ds.length with h | h
  · rw [Nat.min_eq_left h]
  · rw [Nat.min_eq_right h, List.take_length, List.take_of_length_le h]
theorem cut_from {ds : List D} {k : Int} (h0 : 0 ≤ k) : cutD ds (some k) none = ds.drop k.toNat := by
  unfold cutD
  obtain ⟨n, rfl⟩ := Int.eq_ofNat_of_zero_le h0
  rw [HT.sIx_none, HT.sIx_nat]
  simp only [Int.toNat_natCast]
  rcases Nat.le_total n ds.length with h | h
  · rw [Nat.min_eq_left h, List.take_of_length_le (by rw [List.length_drop]; omega)]
  · rw [Nat.min_eq_right h, List.drop_length, List.drop_of_length_le h, List.take_nil]
/-! ### comprehensions -/
section
variable {M : Type} {α : Type} {g : DG} {tt : DTT M} {te : DT M} {ρ : En}
/-- items that are kept or not by a known test, the element known -/
theorem lcGo_filter {inj h : α → D} {keep : α → Bool} : ∀ (xs : List α) {acc : List D} {m : M} {Q : List D → M → Prop},
    (∀ a ∈ xs, ∀ m (k : D → M → Prop) (l : M → Prop), (keep a = true → k (h a) m) → (keep a = false → l m) → g (inj a) ρ fun ρ2 => tt ρ2 m (fun b m1 => if b = true then te ρ2 m1 k (fun _ _ => False) else l m1) (fun _ _ => False)) →
    acc.length + xs.length ≤ sizeLine → Q (acc ++ (xs.filter keep).map h) m → lcGo g tt te ρ (xs.map inj) acc m Q
  | [], acc, m, Q, _, _, q => by
    show Q acc m
    simpa using q
  | a :: xs, acc, m, Q, st, hl, q => by
    rw [List.length_cons] at hl
    refine st a List.mem_cons_self m _ _ (fun hk => ⟨by omega, ?_⟩) fun hk => ?_
    · refine lcGo_filter xs (fun b hb => st b (List.mem_cons_of_mem _ hb)) (by rw [List.length_append, List.length_cons, List.length_nil]; omega) ?_
      rw [List.filter_cons_of_pos hk, List.map_cons] at q
      simpa using q
    · refine lcGo_filter xs (fun b hb => st b (List.mem_cons_of_mem _ hb)) (by omega) ?_
      rw [List.filter_cons_of_neg (by simp [hk])] at q
      exact q
theorem lcGo_map {inj h : α → D} (xs : List α) {m : M} {Q : List D → M → Prop}
    (st : ∀ a ∈ xs, ∀ m (k : D → M → Prop) (l : M → Prop), k (h a) m → g (inj a) ρ fun ρ2 => tt ρ2 m (fun b m1 => if b = true then te ρ2 m1 k (fun _ _ => False) else l m1) (fun _ _ => False))
    (hl : xs.length ≤ sizeLine) (q : Q (xs.map h) m) : lcGo g tt te ρ (xs.map inj) [] m Q := by
  refine lcGo_filter (keep := fun _ => true) xs (fun a ha m k l h1 _ => st a ha m k l (h1 rfl)) (by simpa using hl) ?_
  rw [List.filter_eq_self.mpr fun _ _ => rfl]
  simpa using q
/-- elements that turn the world, of which P is known; the world's word S by the number of items left -/
theorem lcGo_any {P : D → Prop} {S : Nat → M → Prop} : ∀ (items : List D) {acc : List D} {m : M} {Q : List D → M → Prop},
    (∀ x ∈ items, ∀ n m (k : D → M → Prop) (l : M → Prop), S (n + 1) m → (∀ y m1, P y → S n m1 → k y m1) → g x ρ fun ρ2 => tt ρ2 m (fun b m1 => if b = true then te ρ2 m1 k (fun _ _ => False) else l m1) (fun _ _ => False)) →
    acc.length + items.length ≤ sizeLine → S items.length m → (∀ ds m1, ds.length = items.length → (∀ d ∈ ds, P d) → S 0 m1 → Q (acc ++ ds) m1) → lcGo g tt te ρ items acc m Q
  | [], acc, m, Q, _, _, s, q => by
    have := q [] m rfl (fun _ h => nomatch h) s
    rw [List.append_nil] at this
    exact this
  | x :: xs, acc, m, Q, st, hl, s, q => by
    rw [List.length_cons] at hl
    refine st x List.mem_cons_self xs.length m _ _ s fun y m1 py s1 => ⟨by omega, ?_⟩
    refine lcGo_any xs (fun b hb => st b (List.mem_cons_of_mem _ hb)) (by rw [List.length_append, List.length_cons, List.length_nil]; omega) s1 fun ds m2 l p s2 => ?_
    have := q (y :: ds) m2 (by rw [List.length_cons, List.length_cons, l]) (fun d hd => (List.mem_cons.mp hd).elim (fun e => e ▸ py) (p d)) s2
    simpa using this
end
/-- whole numbers out of data of which each is one -/
theorem ints_of {P : Int → Prop} : ∀ {ds : List D}, (∀ d ∈ ds, ∃ x, d = .int x ∧ P x) → ∃ xs : List Int, ds = zz xs ∧ ∀ x ∈ xs, P x
  | [], _ => ⟨[], rfl, fun _ h => nomatch h⟩
  | d :: ds, h => by
    obtain ⟨x, rfl, px⟩ := h d List.mem_cons_self
    obtain ⟨xs, rfl, p⟩ := ints_of fun e he => h e (List.mem_cons_of_mem _ he)
    exact ⟨x :: xs, rfl, fun y hy => (List.mem_cons.mp hy).elim (fun e => e ▸ px) (p y)⟩
end RR

/-! RX: the law's drawing state as a world -/
namespace RR
open PySem PySem.Spec PyProof.Rows L2
theorem DnA.ints_inv {s : Bool} {K : PySem.W.Frag} {F : List Addr} {G : Hp} : ∀ {vs : List V} {ns : List Int}, DnA s K F G vs (zz ns) → vs = ns.map V.int
  | _, [], h => by cases h; rfl
  | _, n :: ns, h => by
    have h : DnA s K F G _ (.int n :: zz ns) := h
    cases h with
    | cons a b =>
      cases a
      rw [DnA.ints_inv b, List.map_cons]
/-- the drawing state behind the handle 0: a dict of cells, digits and the place -/
def DrSt (N : Nat) (F : List Addr) (H : Hp) : Prop := ∃ (am ac ad : Addr) (cs ds : List Int) (n : Int), F = [am, ac, ad] ∧ am ≠ ac ∧ am ≠ ad ∧ ac ≠ ad ∧
  H am = some (.dK [(Sum.inr "cells", .ref ac), (Sum.inr "digits", .ref ad), (Sum.inr "at", .int n)]) ∧ H ac = some (.lst (cs.map V.int)) ∧ H ad = some (.lst (ds.map V.int)) ∧
  0 ≤ n ∧ n + (N : Int) ≤ 2 ^ 60 ∧ cs.length = 64 ∧ (∀ c ∈ cs, 0 ≤ c ∧ c < 2147483647) ∧ ds.length < sizeLine
def DrW : Wd where
  M := Option Nat
  Rz := fun m F H => match m with | none => F = [] | some N => DrSt N F H
  keep := fun {m F H H'} h k => by
    cases m with
    | none => exact h
    | some N =>
      obtain ⟨am, ac, ad, cs, ds, n, rfl, x1, x2, x3, e1, e2, e3, r⟩ := h
      exact ⟨am, ac, ad, cs, ds, n, rfl, x1, x2, x3, (k _ (by simp)).trans e1, (k _ (by simp)).trans e2, (k _ (by simp)).trans e3, r⟩
  there := fun {m F H} h a ha => by
    cases m with
    | none =>
      have h : F = [] := h
      rw [h] at ha; cases ha
    | some N =>
      obtain ⟨am, ac, ad, cs, ds, n, rfl, x1, x2, x3, e1, e2, e3, r⟩ := h
      simp only [List.mem_cons, List.not_mem_nil, or_false] at ha
      rcases ha with rfl | rfl | rfl
      · exact ⟨_, e1, fun h => h⟩
      · exact ⟨_, e2, fun h => h⟩
      · exact ⟨_, e3, fun h => h⟩
/-! ### what the state's functions promise -/
def s__law_mixed {M : Type} : DSp M := fun ds m Q Z => ∃ c k, ds = [.int c, .int k] ∧ c.natAbs < 2 ^ 70 ∧ 0 ≤ k ∧ k < 2 ^ 62 ∧ ∀ x, 0 ≤ x → x < 2 ^ 30 → Q (.int x) m
def s__law_folded {M : Type} : DSp M := fun ds m Q Z => ∃ ns, ds = [.lst (zz ns)] ∧ ns.length ≤ 63 ∧ ∀ cs : List Int, cs.length = 64 → (∀ c ∈ cs, 0 ≤ c ∧ c < 2147483647) → Q (.lst (zz cs)) m
def s__law_draw : DSp (Option Nat) := fun ds m Q Z => ∃ N many, ds = [.hnd 0, .int many] ∧ m = some (N + 1) ∧ 0 < many ∧ many.natAbs < 2 ^ 8000 ∧ ∀ x, 0 ≤ x → x < many → Q (.int x) (some N)
def s__law_begun : DSp (Option Nat) := fun ds m Q Z => ∃ ns, ds = [.lst (zz ns)] ∧ ns.length ≤ 63 ∧ m = none ∧ Q (.hnd 0) (some (2 ^ 50))
/-- the same, for a call by hand -/
def hMix : Sp := fun vs H Q _ => ∃ c k, vs = [.int c, .int k] ∧ c.natAbs < 2 ^ 70 ∧ 0 ≤ k ∧ k < 2 ^ 62 ∧ ∀ x H', 0 ≤ x → x < 2 ^ 30 → Same H H' → Q (.int x) H'
def hFold (K : PySem.W.Frag) : Sp := fun vs H Q _ => ∃ (a : Addr) (ns : List Int), vs = [.ref a] ∧ SqL K H a (ns.map V.int) ∧ ns.length ≤ 63 ∧ ∀ (cs : List Int) p H', Same H H' → H p = none → H' p = some (.lst (cs.map V.int)) → cs.length = 64 → (∀ c ∈ cs, 0 ≤ c ∧ c < 2147483647) → Q (.ref p) H'
section
variable {P : Program} {w : World} {K : PySem.W.Frag} {mg : Str → Option Value} {base : Heap} {k : Nat} {f : Addr} {fd : FuncData} {ps : List Str}
theorem hMix_of (F : FnOk P w K mg base (L2.CX P w) k f fd ps (spD K mg W0 s__law_mixed)) : FnOk P w K mg base (L2.CX P w) k f fd ps hMix := by
  refine F.imp fun vs H Q E h => ?_
  obtain ⟨c, n, rfl, h1, h2, h3, q⟩ := h
  refine ⟨[], (), [.int c, .int n], fun d _ => ∃ x, d = .int x ∧ 0 ≤ x ∧ x < 2 ^ 30, fun _ _ => False, rfl, .cons (.int c) (.cons (.int n) .nil), ⟨c, n, rfl, h1, h2, h3, fun x a b => ⟨x, rfl, a, b⟩⟩, fun v H' F' d m' _ _ _ kp dn e => ?_, fun _ _ _ _ _ _ _ _ _ _ z => z.elim⟩
  obtain ⟨x, rfl, a, b⟩ := e
  cases dn
  exact q x H' a b fun a o e => kp a o (by simp) e
theorem hFold_of (F : FnOk P w K mg base (L2.CX P w) k f fd ps (spD K mg W0 s__law_folded)) : FnOk P w K mg base (L2.CX P w) k f fd ps (hFold K) := by
  refine F.imp fun vs H Q E h => ?_
  obtain ⟨a, ns, rfl, hs, hl, q⟩ := h
  refine ⟨[], (), [.lst (zz ns)], fun d _ => ∃ cs : List Int, d = .lst (zz cs) ∧ cs.length = 64 ∧ ∀ c ∈ cs, 0 ≤ c ∧ c < 2147483647, fun _ _ => False, rfl, .cons (.lst (Ls.mono (s := false) (fun a o e => vw_iff.mpr ⟨e, by simp⟩) (show Ls false K H a _ from hs)) (ints_dn ns)) .nil, ⟨ns, rfl, hl, fun cs a b => ⟨cs, rfl, a, b⟩⟩, fun v H' F' d m' _ _ _ kp dn e => ?_, fun _ _ _ _ _ _ _ _ _ _ z => z.elim⟩
  obtain ⟨cs, rfl, c1, c2⟩ := e
  cases dn with
  | lst g r =>
    rename_i p xs
    have g : sv H (· ∈ F') H' p = some (.lst xs) := g
    obtain ⟨e1, e2⟩ := vw_iff.mp g
    rcases e2 with e2 | e2
    · exact e2.elim
    · rw [r.ints_inv] at e1
      exact q cs p H' (fun a o e => kp a o (by simp) e) e2.2.2 e1 c1 c2
end
abbrev drV (ac ad : Addr) (n : Int) : List (L2.Key × V) := [(Sum.inr "cells", .ref ac), (Sum.inr "digits", .ref ad), (Sum.inr "at", .int n)]
theorem drV_put {ac ad : Addr} {n k : Int} : putK (drV ac ad n) (Sum.inr "at") (.int k) = drV ac ad k := rfl
theorem drV_cells {ac ad : Addr} {n : Int} : valV (drV ac ad n) (Sum.inr "cells") = some (.ref ac) := rfl
theorem drV_digits {ac ad : Addr} {n : Int} : valV (drV ac ad n) (Sum.inr "digits") = some (.ref ad) := rfl
theorem drV_at {ac ad : Addr} {n : Int} : valV (drV ac ad n) (Sum.inr "at") = some (.int n) := rfl
abbrev N__law_draw : List Str := ["_law_m", "_law_many", "_law_k", "_law_at", "_law_cell"]
abbrev N__law_begun : List Str := ["_law_script", "_law_m"]
end RR

/-! RY: the readings of the drawing state's two functions -/
namespace RR
open PySem PySem.Spec PyProof.Rows L2
section
variable {K : PySem.W.Frag} {E : L2.St → XK}
abbrev tLen (K : PySem.W.Frag) (t : TA) : TE := tCB (fun xs H Q => ∃ p ys, xs = [V.ref p] ∧ (SqL K H p ys ∨ SqT K H p ys) ∧ Q (V.int ys.length) H) t
abbrev tFld (i : Nat) (x : Str) : TE := tDGet (tVar i) (tC (V.str x))
abbrev tMod (a b : TE) : TE := tOp (rI (fun _ j => j ≠ 0) fun i j => V.int (i.fmod j)) a b
abbrev tDiv (a b : TE) : TE := tOp (rI Nd fun i j => V.int (i.fdiv j)) a b
abbrev tAdd (a b : TE) : TE := tOp (rI0 fun i j => V.int (i + j)) a b
abbrev t_last (K : PySem.W.Frag) (E : L2.St → XK) : TE :=
  tMod (tCallSD hMix [] E (tCons (tCallSD hMix [] E (tCons (tAdd (tOp (rIxL K) (tFld 0 "cells") (tMod (tVar 2) (tC (V.int 64)))) (tOp (rI IntMulOk fun i j => V.int (i * j)) (tC (V.int 31)) (tDiv (tVar 2) (tC (V.int 64))))) (tCons (tVar 2) tNil)))
    (tCons (tAdd (tVar 2) (tC (V.int 7))) tNil))) (tVar 1)
abbrev t_draw (K : PySem.W.Frag) (E : L2.St → XK) : TS :=
  tSeq (tAsg (tFld 0 "at") (gName 2))
    (tSeq (sDPut (tVar 0) (tC (V.str "at")) (tAdd (tVar 2) (tC (V.int 1))))
    (tSeq (tIfS (tTest (tOp (rNeD K) (tFld 0 "digits") (tLst tNil)))
      (tSeq (tAsg (tMod (tVar 2) (tLen K (tCons (tFld 0 "digits") tNil))) (gName 3))
      (tSeq (tAsg (tOp (rIxL K) (tFld 0 "digits") (tVar 3)) (gName 4))
        (tIfS (tTest (tOp (rIn K true) (tVar 4) (tTup (tCons (tC (V.int 0)) (tCons (tUn (rU fun i => V.int (-i)) (tC (V.int 1))) tNil)))))
          (tSeq (tAsg (tDiv (tVar 4) (tVar 1)) (gSub (tFld 0 "digits") (tVar 3) rSetL)) (tRet (tMod (tVar 4) (tVar 1))))
          tNext)))
      tNext)
    (tRet (t_last K E))))
theorem rd_last {am ac ad : Addr} {cs : List Int} {n many : Int} {y3 y4 : Option V} {Q : VK} {H : Hp} (e1 : H am = some (.dK (drV ac ad (n + 1)))) (e2 : H ac = some (.lst (cs.map V.int))) (n0 : 0 ≤ n) (n1 : n < 2 ^ 60)
    (lc : cs.length = 64) (bc : ∀ c ∈ cs, 0 ≤ c ∧ c < 2147483647) (hp : 0 < many) (fin : ∀ H' x, Same H H' → 0 ≤ x → x < many → Q (.int x) H') :
    t_last K E [some (.ref am), some (.int many), some (.int n), y3, y4] H Q := by
  have k0 : 0 ≤ n.fmod 64 := Int.fmod_nonneg_of_pos _ (by decide)
  have k1 : n.fmod 64 < 64 := Int.fmod_lt_of_pos _ (by decide)
  have ci : (n.fmod 64).toNat < cs.length := by omega
  obtain ⟨b0, b1⟩ := bc _ (List.getElem_mem ci)
  have g : atI (cs.map V.int) (n.fmod 64) = some (.int cs[(n.fmod 64).toNat]) := by
    rw [atI_at k0 (by rw [List.length_map, lc]; exact k1), List.getElem_map]
  have d0 : n.fdiv 64 = n / 64 := fdiv_pos (by decide)
  refine ⟨.ref am, rfl, am, .ref ac, rfl, DGet.k (k := Sum.inr "cells") e1,   .int n, rfl, n, 64, rfl, rfl, (by decide : (64 : Int) ≠ 0), ac, _, _, _, rfl, rfl, .inl (.inl e2), g,
    .int n, rfl, n, 64, rfl, rfl, nd_small (b := 8) (by decide) (bd_lit (by decide)), 31, n.fdiv 64, rfl, rfl, mulok (a := 5) (b := 62) (bd_lit (by decide)) ?_, _, _, rfl, rfl, .int n, rfl, _, n, rfl, ?_, n0, by omega, fun x H1 h0 h1 s1 =>
    ⟨.int n, rfl, n, 7, rfl, rfl, x, n + 7, rfl, ?_, by omega, by omega, fun y H2 h2 h3 s2 => ⟨.int many, rfl, y, many, rfl, rfl, by omega, fin H2 _ (s1.trans s2) (Int.fmod_nonneg_of_pos _ hp) (Int.fmod_lt_of_pos _ hp)⟩⟩⟩
  · rw [d0]; unfold bd; omega
  · rw [d0]; omega
  · omega
theorem rd_draw {mg : Str → Option Value} {vs : List V} {H : Hp} {Q : VK} {X : XK} (h : spD K mg DrW s__law_draw vs H Q X) : t_draw K E { nx := fun _ H' => Q .non H', rt := Q } (L2.start N__law_draw vs) H := by
  obtain ⟨F0, m, ds, Qd, Zd, rz, dv, ⟨N, many, rfl, rfl, hp, hb, q⟩, hq, _⟩ := h
  obtain ⟨am, ac, ad, cs, dg, n, rfl, x1, x2, x3, e1, e2, e3, n0, nN, lc, bc, ld⟩ := rz
  cases dv with
  | cons d1 dv =>
  cases dv with
  | cons d2 dv =>
  cases dv
  cases d1 with
  | hnd e =>
  cases d2
  cases (Option.some.inj e)
  have e1 : H am = some (.dK (drV ac ad n)) := e1
  have nN' : n + N + 1 ≤ 2 ^ 60 := by omega
  have fin : ∀ (H' : Hp) (dg' : List Int) x, H' am = some (.dK (drV ac ad (n + 1))) → H' ac = some (.lst (cs.map V.int)) → H' ad = some (.lst (dg'.map V.int)) → dg'.length = dg.length → (∀ a o, a ∉ [am, ac, ad] → H a = some o → H' a = some o) → 0 ≤ x → x < many → Q (.int x) H' :=
    fun H' dg' x f1 f2 f3 l kp h0 h1 => hq (.int x) H' [am, ac, ad] (.int x) (some N) ⟨am, ac, ad, cs, dg', n + 1, rfl, x1, x2, x3, f1, f2, f3, by omega, by omega, lc, bc, by omega⟩ ⟨[], by simp⟩ (fun a h z => absurd h z) kp (.int x) (q x h0 h1)
  refine ⟨.ref am, rfl, am, .int n, rfl, DGet.k (k := Sum.inr "at") e1, .int n, rfl, n, 1, rfl, rfl, .ref am, rfl, am, upd H am (.dK (drV ac ad (n + 1))), rfl, DPut.k (k := Sum.inr "at") e1 (lt_line (show 3 < 16777216 by decide)), ?_⟩
  have f1 : upd H am (.dK (drV ac ad (n + 1))) am = some (.dK (drV ac ad (n + 1))) := upd_same
  have f2 : upd H am (.dK (drV ac ad (n + 1))) ac = some (.lst (cs.map V.int)) := by rw [upd_ne x1.symm]; exact e2
  have f3 : upd H am (.dK (drV ac ad (n + 1))) ad = some (.lst (dg.map V.int)) := by rw [upd_ne x2.symm]; exact e3
  have kp : ∀ a o, a ∉ [am, ac, ad] → H a = some o → upd H am (.dK (drV ac ad (n + 1))) a = some o := fun a o z e => by
    rw [upd_ne (fun q => z (by rw [q]; simp))]; exact e
  generalize upd H am (.dK (drV ac ad (n + 1))) = H1 at f1 f2 f3 kp ⊢
  have last : ∀ (H' : Hp) (y3 y4 : Option V), Same H1 H' → t_last K E [some (.ref am), some (.int many), some (.int n), y3, y4] H' Q := fun H' y3 y4 s =>
    rd_last (s _ _ f1) (s _ _ f2) n0 (by omega) lc bc hp fun H2 x s2 h0 h1 => fin H2 dg x (s2 _ _ (s _ _ f1)) (s2 _ _ (s _ _ f2)) (s2 _ _ (s _ _ f3)) rfl (fun a o z e => s2 _ _ (s _ _ (kp a o z e))) h0 h1
  refine ⟨.ref am, rfl, am, .ref ad, rfl, DGet.k (k := Sum.inr "digits") f1, Nat.zero_le _, fun p np => ?_⟩
  have s1 : Same H1 (upd H1 p (.lst [])) := fun b o z => by rw [upd_ne (fun q => by rw [q, np] at z; cases z)]; exact z
  have fp : upd H1 p (.lst []) p = some (.lst []) := upd_same
  generalize upd H1 p (.lst []) = H2 at s1 fp ⊢
  have g1 := s1 _ _ f1
  have g2 := s1 _ _ f2
  have g3 := s1 _ _ f3
  have dn : Dn true K [] H2 (.ref ad) (.lst (zz dg)) := .lst (show Ls true K H2 ad _ from g3) (ints_dn dg)
  have dn0 : Dn true K [] H2 (.ref p) (.lst (zz [])) := .lst (show Ls true K H2 p _ from fp) .nil
  refine ⟨_, _, dn.dp (n := 8) (fun _ _ h => h) (q_lst dg), dn0.dp (n := 8) (fun _ _ h => h) (q_lst []), shaped_q (q_lst dg), shaped_q (q_lst []), _, rfl, ?_⟩
  rw [py_eqv (q_lst (n := 7) dg) (q_lst []), eqv_lst]
  by_cases hd : dg = []
  · rw [decide_eq_true hd]
    exact iteF (last H2 none none s1)
  · rw [decide_eq_false hd]
    refine iteT ?_
    have l0 : 0 < dg.length := List.length_pos_iff.mpr hd
    have k0 : 0 ≤ n.fmod dg.length := Int.fmod_nonneg_of_pos _ (by omega)
    have k1 : n.fmod dg.length < dg.length := Int.fmod_lt_of_pos _ (by omega)
    have em : n.fmod ((dg.map V.int).length : Int) = n.fmod dg.length := by rw [List.length_map]
    refine ⟨.int n, rfl, .ref am, rfl, am, .ref ad, rfl, DGet.k (k := Sum.inr "digits") g1, ad, _, rfl, .inl (.inl (.inl g3)), n, _, rfl, rfl, by rw [List.length_map]; omega, ?_⟩
    show gName 3 (.int (n.fmod ((dg.map V.int).length : Int))) _ _ _
    rw [em]
    generalize n.fmod dg.length = j at k0 k1 ⊢
    obtain ⟨c, gj⟩ : ∃ c, atI (dg.map V.int) j = some (.int c) := ⟨dg[j.toNat]'(by omega), by rw [atI_at k0 (by rw [List.length_map]; exact k1), List.getElem_map]⟩
    refine ⟨.ref am, rfl, am, .ref ad, rfl, DGet.k (k := Sum.inr "digits") g1, .int j, rfl, ad, _, _, _, rfl, rfl, .inl (.inl g3), gj, .int c, rfl, 1, rfl, show 2 ≤ sizeLine from small_line (by decide), fun t nt => ?_⟩
    have s2 : Same H2 (upd H2 t (.tup [.int 0, .int (-1)])) := fun b o z => by rw [upd_ne (fun q => by rw [q, nt] at z; cases z)]; exact z
    have ft : upd H2 t (.tup [.int 0, .int (-1)]) t = some (.tup [.int 0, .int (-1)]) := upd_same
    generalize upd H2 t (.tup [.int 0, .int (-1)]) = H3 at s2 ft ⊢
    refine ⟨t, _, rfl, .inr (.inl (.inl ft)), rfl, rfl, _, rfl, ite2 (fun z => ?_) fun z => ?_⟩
    · have nj : ixN (dg.map V.int).length j = some j.toNat := ixN_at k0 (by rw [List.length_map]; exact k1)
      refine ⟨.int c, rfl, .int many, rfl, c, many, rfl, rfl, nd_small (b := 8000) (by omega) hb, .ref am, rfl, am, .ref ad, rfl, DGet.k (k := Sum.inr "digits") (s2 _ _ g1), .int j, rfl, ad, _, j, j.toNat, rfl, rfl, s2 _ _ g3, nj,
        .int c, rfl, .int many, rfl, c, many, rfl, rfl, by omega, ?_⟩
      refine fin _ (dg.set j.toNat (c.fdiv many)) _ ?_ ?_ ?_ (List.length_set ..) (fun a o z e => ?_) (Int.fmod_nonneg_of_pos _ hp) (Int.fmod_lt_of_pos _ hp)
      · rw [upd_ne x2]; exact s2 _ _ g1
      · rw [upd_ne x3]; exact s2 _ _ g2
      · rw [upd_same, List.map_set]
      · rw [upd_ne (fun q => z (by rw [q]; simp))]; exact s2 _ _ (s1 _ _ (kp a o z e))
    · exact last H3 _ _ (s1.trans s2)
abbrev t_begun (K : PySem.W.Frag) (E : L2.St → XK) : TS :=
  tSeq (tAsg (tDisp [(tC (V.str "cells"), tCallSD (hFold K) [] E (tCons (tVar 0) tNil)), (tC (V.str "digits"), tLst tNil), (tC (V.str "at"), tC (V.int 0))]) (gName 1))
    (tSeq (tIfS (tAnd (tTest (tOp (rNeD K) (tVar 0) (tLst tNil))) (tTest (tOp rEq (tMod (tOp (rIxL K) (tVar 0) (tC (V.int 0))) (tC (V.int 2))) (tC (V.int 1)))))
      (sDPut (tVar 1) (tC (V.str "digits")) (tOp rCat (tLst (tCons (tDiv (tOp (rIxL K) (tVar 0) (tC (V.int 0))) (tC (V.int 2))) tNil)) (tSl (rSlL K) (tVar 0) (tPart (tC (V.int 1))) tNoPart)))
      tNext)
    (tRet (tVar 1)))
theorem same_new {H : Hp} {p : Addr} {o : HO} (n : H p = none) : Same H (upd H p o) := fun b x z => by rw [upd_ne (fun q => by rw [q, n] at z; cases z)]; exact z
theorem ne_none {H : Hp} {p q : Addr} {o : HO} (e : H p = some o) (n : H q = none) : p ≠ q := fun z => by rw [z, n] at e; cases e
theorem none_back {H H' : Hp} {a : Addr} (s : Same H H') (n : H' a = none) : H a = none := by
  cases e : H a with
  | none => rfl
  | some o => rw [s _ _ e] at n; cases n
theorem rd_begun {mg : Str → Option Value} {vs : List V} {H : Hp} {Q : VK} {X : XK} (h : spD K mg DrW s__law_begun vs H Q X) : t_begun K E { nx := fun _ H' => Q .non H', rt := Q } (L2.start N__law_begun vs) H := by
  obtain ⟨F0, m, ds, Qd, Zd, rz, dv, ⟨ns, rfl, hl, rfl, q⟩, hq, _⟩ := h
  have rz : F0 = [] := rz
  subst rz
  cases dv with
  | cons d1 dv =>
  cases dv
  cases d1 with
  | lst hs hr =>
  rename_i a xs
  have hx := hr.ints_inv
  subst hx
  have hs : SqL K H a (ns.map V.int) := Ls.mono (s := false) (fun _ _ => wv_le) hs
  refine fun p np => ⟨.ref a, rfl, a, ns, rfl, (same_new np).seq hs, hl, fun cs c H1 s1 nc ec lc bc => ⟨Nat.zero_le _, fun g ng => ⟨?_, [(Sum.inr "cells", .ref c), (Sum.inr "digits", .ref g), (Sum.inr "at", .int 0)], rfl, (show 3 ≤ 15 by decide), ?_⟩⟩⟩
  · exact same_new ng _ _ (s1 _ _ upd_same)
  show tSeq _ _ _ [some (.ref a), some (.ref p)] (upd (upd H1 g (.lst [])) p (.dK (drV c g 0)))
  have npc : p ≠ c := fun z => by rw [← z, upd_same] at nc; cases nc
  have ncH : H c = none := by rw [upd_ne npc.symm] at nc; exact nc
  have ep1 : H1 p = some (.dK []) := s1 _ _ upd_same
  have npg : p ≠ g := ne_none ep1 ng
  have ncg : c ≠ g := ne_none ec ng
  have sH : ∀ b o, H b = some o → H1 b = some o := fun b o e => s1 _ _ (same_new np _ _ e)
  have ngH : H g = none := none_back sH ng
  have f1 : upd (upd H1 g (.lst [])) p (.dK (drV c g 0)) p = some (.dK (drV c g 0)) := upd_same
  have f2 : upd (upd H1 g (.lst [])) p (.dK (drV c g 0)) c = some (.lst (cs.map V.int)) := by rw [upd_ne npc.symm, upd_ne ncg]; exact ec
  have f3 : upd (upd H1 g (.lst [])) p (.dK (drV c g 0)) g = some (.lst []) := by rw [upd_ne npg.symm, upd_same]
  have s2 : Same H (upd (upd H1 g (.lst [])) p (.dK (drV c g 0))) := fun b o e => by
    rw [upd_ne (fun z => by rw [z, np] at e; cases e), upd_ne (fun z => by rw [z, ngH] at e; cases e)]
    exact sH b o e
  generalize upd (upd H1 g (.lst [])) p (.dK (drV c g 0)) = H2 at f1 f2 f3 s2 ⊢
  have fin : ∀ (H' : Hp) (d : Addr) (dg : List Int), H d = none → d ≠ p → d ≠ c → H' p = some (.dK (drV c d 0)) → H' c = some (.lst (cs.map V.int)) → H' d = some (.lst (dg.map V.int)) → dg.length < sizeLine → Same H H' → Q (.ref p) H' :=
    fun H' d dg nd n1 n2 e1 e2 e3 ld s => hq (.ref p) H' [p, c, d] (.hnd 0) (some (2 ^ 50)) ⟨p, c, d, cs, dg, 0, rfl, npc, n1.symm, n2.symm, e1, e2, e3, by decide, by decide, lc, bc, ld⟩ ⟨[p, c, d], rfl⟩
      (fun x hx _ => by simp only [List.mem_cons, List.not_mem_nil, or_false] at hx; rcases hx with rfl | rfl | rfl <;> assumption) (fun x o _ e => s x o e) (.hnd rfl) q
  have hs2 : SqL K H2 a (ns.map V.int) := s2.seq hs
  refine ⟨.ref a, rfl, Nat.zero_le _, fun t nt => ?_⟩
  have s3 := same_new (o := .lst []) nt
  have et : upd H2 t (.lst []) t = some (.lst []) := upd_same
  generalize upd H2 t (.lst []) = H3 at s3 et ⊢
  have dn : Dn false K [] H3 (.ref a) (.lst (zz ns)) := .lst (show Ls false K H3 a _ from s3.seq hs2) (ints_dn ns)
  have dn0 : Dn true K [] H3 (.ref t) (.lst (zz [])) := .lst (show Ls true K H3 t _ from et) .nil
  refine ⟨_, _, dn.dp (n := 8) (fun _ _ h => h) (q_lst ns), dn0.dp (n := 8) (fun _ _ h => h) (q_lst []), shaped_q (q_lst ns), shaped_q (q_lst []), _, rfl, ?_⟩
  rw [py_eqv (q_lst (n := 7) ns) (q_lst []), eqv_lst]
  have skip : ∀ H', Same H2 H' → Q (.ref p) H' := fun H' s => fin H' g [] ngH npg.symm ncg.symm (s _ _ f1) (s _ _ f2) (s _ _ f3) (lt_line (show 0 < 16777216 by decide)) (s2.trans s)
  by_cases hn : ns = []
  · rw [decide_eq_true hn]
    exact iteF ⟨.ref p, rfl, skip _ s3⟩
  · rw [decide_eq_false hn]
    refine iteT ?_
    obtain ⟨x, r, rfl⟩ := List.exists_cons_of_ne_nil hn
    have hs3 := s3.seq hs2
    have g0 : atI ((x :: r).map V.int) 0 = some (.int x) := atI_nat (j := 0) rfl
    refine ⟨.ref a, rfl, a, _, 0, _, rfl, rfl, hs3, g0, x, 2, rfl, rfl, (by decide : (2 : Int) ≠ 0), rfl, _, rfl, ite2 (fun _ => ?_) fun _ => ⟨.ref p, rfl, skip _ s3⟩⟩
    refine ⟨.ref a, rfl, a, _, 0, _, rfl, rfl, hs3, g0, x, 2, rfl, rfl, nd_small (b := 8) (by decide) (bd_lit (by decide)), show 1 ≤ sizeLine from small_line (by decide), fun u nu => ?_⟩
    have s4 := same_new (o := .lst [.int (x.fdiv 2)]) nu
    have eu : upd H3 u (.lst [.int (x.fdiv 2)]) u = some (.lst [.int (x.fdiv 2)]) := upd_same
    generalize upd H3 u (.lst [.int (x.fdiv 2)]) = H4 at s4 eu ⊢
    refine ⟨.ref a, rfl, 1, rfl, a, _, rfl, s4.seq hs3, fun v nv => ?_⟩
    have s5 := same_new (o := .lst (cutV ((x :: r).map V.int) (some 1) none)) nv
    have ev : upd H4 v (.lst (cutV ((x :: r).map V.int) (some 1) none)) v = some (.lst (cutV ((x :: r).map V.int) (some 1) none)) := upd_same
    generalize upd H4 v (.lst (cutV ((x :: r).map V.int) (some 1) none)) = H5 at s5 ev ⊢
    have lcut := cutV_length ((x :: r).map V.int) (some 1) none
    rw [List.length_map] at lcut
    refine ⟨u, v, _, _, rfl, rfl, s5 _ _ eu, ev, small_line (by rw [List.length_singleton]; omega), fun y ny => ?_⟩
    obtain ⟨more, em, lm⟩ : ∃ more : List Int, cutV ((x :: r).map V.int) (some 1) none = more.map V.int ∧ more.length ≤ 63 := by
      refine ⟨_, show List.take _ (List.drop _ (List.map V.int (x :: r))) = _ by rw [← List.map_drop, ← List.map_take], ?_⟩
      rw [List.length_take, List.length_drop]; omega
    rw [em]
    have s6 := same_new (o := .lst ([V.int (x.fdiv 2)] ++ more.map V.int)) ny
    have ey : upd H5 y (.lst ([V.int (x.fdiv 2)] ++ more.map V.int)) y = some (.lst ([V.int (x.fdiv 2)] ++ more.map V.int)) := upd_same
    have sA := ((s3.trans s4).trans s5)
    have nyH : H2 y = none := none_back sA ny
    generalize upd H5 y (.lst ([V.int (x.fdiv 2)] ++ more.map V.int)) = H6 at s6 ey ⊢
    have sB := sA.trans s6
    have nyp : y ≠ p := (ne_none f1 nyH).symm
    have nyc : y ≠ c := (ne_none f2 nyH).symm
    refine ⟨.ref p, rfl, p, upd H6 p (.dK (drV c y 0)), rfl, DPut.k (k := Sum.inr "digits") (sB _ _ f1) (lt_line (show 3 < 16777216 by decide)), .ref p, rfl, ?_⟩
    refine fin _ y (x.fdiv 2 :: more) (none_back s2 nyH) nyp nyc upd_same ?_ ?_ (lt_line (by rw [List.length_cons]; omega)) fun b o e => ?_
    · rw [upd_ne npc.symm]; exact sB _ _ f2
    · rw [upd_ne nyp]; exact ey
    · rw [upd_ne (fun z => by rw [z, np] at e; cases e)]; exact sB _ _ (s2 _ _ e)
end
/-! ### the parts put together -/
theorem okK_len : ∀ {ks : List Bool} {ds : List D}, okK ks ds → ds.length = ks.length
  | [], [], _ => rfl
  | [], _ :: _, h => h.elim
  | _ :: _, [], h => h.elim
  | _ :: _, _ :: _, h => congrArg (· + 1) (okK_len h.2)
section
variable {P : Program} {w : World} {K : PySem.W.Frag} {mg : Str → Option Value} {base : Heap} {W : Wd}
theorem Dfn.go {x : Str} {st : Stmt} {N ps : List Str} {k : Nat} {sp : DSp W.M} {t : DS W.M} (F : Dfn K mg x st ps) (ks : List Bool) (S : FnScope N ps (defScope st)) (body : BodyJ P w K mg base W k N x st t)
    (vc : ∀ ds m Q Z, sp ds m Q Z → okK ks ds ∧ t { nx := fun _ m' => Q .non m', rt := Q, ex := Z } (st0 ks ds N.length) m) (hk : ks.length = ps.length := by rfl) (hn : ps.length ≤ N.length := by decide) : FD P w K mg base W (k + 1) x [] sp :=
  F.fd ks S body (fun ds m Q Z h => by rw [okK_len (vc ds m Q Z h).1, hk]) vc hn
/-- what a law asks of itself -/
def s_law : DSp (Option Nat) := fun ds m Q Z => ∃ ns : List Int, ds = [.lst (zz ns)] ∧ ns.length ≤ 63 ∧ m = none ∧ ∀ m', Q (.bl true) m'
theorem law_go {st : Stmt} {f : Addr} {fd : FuncData} {N ps : List Str} {k : Nat} {t : DS (Option Nat)} (F : Fun K "law" "law" st f fd) (S : FnScope N ps (defScope st)) (body : BodyJ P w K mg base DrW k N "law" st t)
    (vc : ∀ ds m Q Z, s_law ds m Q Z → okK [true] ds ∧ t { nx := fun _ m' => Q .non m', rt := Q, ex := Z } (st0 [true] ds N.length) m) (hk : ps.length = 1 := by rfl) (hn : ps.length ≤ N.length := by decide) : FnOk P w K mg base (L2.CX P w) (k + 1) f fd ps (spLaw K) :=
  law_of (W := DrW) (m0 := none) (sp := s_law) (fn_data (W := DrW) [true] F S (fun ds m Q Z h => (okK_len (vc ds m Q Z h).1).trans hk.symm) hn (body f) vc) (fun _ => (rfl : ([] : List Addr) = [])) fun ns hl => ⟨ns, rfl, hl, rfl, fun _ => rfl⟩
end
end RR

/-! VK: plain lists: trailing noughts off, nearest rests -/
namespace RR
open PySem PySem.Spec PyProof.Rows L2
/-- without the noughts at the end -/
def strip (xs : List Int) : List Int := (xs.reverse.dropWhile (· == 0)).reverse
theorem strip_nil : strip [] = [] := rfl
theorem strip_snoc (xs : List Int) (a : Int) : strip (xs ++ [a]) = if a = 0 then strip xs else xs ++ [a] := by
  unfold strip
  rw [List.reverse_append, List.reverse_singleton, List.singleton_append, List.dropWhile_cons]
  by_cases h : a = 0
  · rw [if_pos h, if_pos (by simp [h])]
  · rw [if_neg h, if_neg (by simp [h]), List.reverse_cons, List.reverse_reverse]
theorem strip_ind {P : List Int → Prop} (h0 : P []) (h1 : ∀ xs a, P xs → P (xs ++ [a])) : ∀ xs, P xs := fun xs => by
  have : ∀ ys : List Int, P ys.reverse := fun ys => by
    induction ys with
    | nil => exact h0
    | cons y ys ih => rw [List.reverse_cons]; exact h1 _ _ ih
  have := this xs.reverse
  rwa [List.reverse_reverse] at this
theorem strip_len (xs : List Int) : (strip xs).length ≤ xs.length := by
  induction xs using strip_ind with
  | h0 => exact Nat.le_refl _
  | h1 xs a ih =>
    rw [strip_snoc]
    split
    · rw [List.length_append]; omega
    · exact Nat.le_refl _
theorem strip_mem {xs : List Int} {x : Int} : x ∈ strip xs → x ∈ xs := by
  induction xs using strip_ind with
  | h0 => exact id
  | h1 xs a ih =>
    rw [strip_snoc]
    split
    · exact fun h => List.mem_append_left _ (ih h)
    · exact id
/-- done: no nought at the end -/
def done (xs : List Int) : Prop := strip xs = xs
theorem strip_done (xs : List Int) : strip (strip xs) = strip xs := by
  induction xs using strip_ind with
  | h0 => rfl
  | h1 xs a ih =>
    by_cases h : a = 0
    · rw [strip_snoc, if_pos h]; exact ih
    · rw [strip_snoc, if_neg h, strip_snoc, if_neg h]
theorem take_snoc {xs : List Int} {n : Nat} (h : n < xs.length) : xs.take (n + 1) = xs.take n ++ [xs[n]] := by
  rw [List.take_add_one, List.getElem?_eq_getElem h]; rfl
/-- the loop's step: the last one of the first n is nought -/
theorem strip_step {xs : List Int} {n : Nat} (h : n < xs.length) (z : xs[n] = 0) : strip (xs.take (n + 1)) = strip (xs.take n) := by
  rw [take_snoc h, strip_snoc, if_pos z]
theorem strip_stop {xs : List Int} {n : Nat} (h : n < xs.length) (z : xs[n] ≠ 0) : strip (xs.take (n + 1)) = xs.take (n + 1) := by
  rw [take_snoc h, strip_snoc, if_neg z]
/-- put on: a function that keeps just nought nought -/
theorem strip_map {f : Int → Int} (h : f 0 = 0) (xs : List Int) : strip (xs.map f) = strip ((strip xs).map f) := by
  induction xs using strip_ind with
  | h0 => rfl
  | h1 xs a ih =>
    by_cases e : a = 0
    · rw [strip_snoc, if_pos e, List.map_append, List.map_singleton, strip_snoc, e, h, if_pos rfl]; exact ih
    · rw [strip_snoc xs a, if_neg e]
/-- the nearest rest -/
def near (x m : Int) : Int := if 2 * x.fmod m > m then x.fmod m - m else x.fmod m
theorem near_idem {x m : Int} (h : 0 < m) : near (near x m) m = near x m := by
  have h0 := Int.fmod_nonneg_of_pos x h
  have h1 := Int.fmod_lt_of_pos x h
  unfold near
  generalize x.fmod m = r at h0 h1
  by_cases c : 2 * r > m
  · rw [if_pos c]
    have e : (r - m).fmod m = r := by
      rw [fmod_pos (by omega), show r - m = r + m * (-1) by omega, Int.add_mul_emod_self_left]; exact Int.emod_eq_of_lt h0 h1
    rw [e, if_pos c]
  · rw [if_neg c]
    have e : r.fmod m = r := by rw [fmod_pos (by omega)]; exact Int.emod_eq_of_lt h0 h1
    rw [e, if_neg c]
theorem near0 {m : Int} (h : 0 < m) : near 0 m = 0 := by
  unfold near
  rw [Int.zero_fmod, if_neg (by omega)]
end RR

/-! RS: stepping through a data reading by rules -/
namespace RR
open PySem PySem.Spec PyProof.Rows L2
section
variable {M : Type} {ρ : En} {m : M} {Q : D → M → Prop} {QL : List D → M → Prop} {QB : Bool → M → Prop} {QO : Option Int → M → Prop} {Z ex : Str → M → Prop} {nx bk ct : En → M → Prop} {rt : D → M → Prop} {t u w : DT M} {ta : DTA M} {tt tu : DTT M} {s1 s2 : DS M} {q : D → Prop} {i j : Int} {d x y : D} {xs ys : List Int} {ds es : List D}
theorem v_then (h : s1 ⟨s2 ⟨nx, rt, bk, ct, ex⟩, rt, bk, ct, ex⟩ ρ m) : dThen s1 s2 ⟨nx, rt, bk, ct, ex⟩ ρ m := h
theorem v_next (h : nx ρ m) : dNext ⟨nx, rt, bk, ct, ex⟩ ρ m := h
theorem v_set {i : Nat} (h : t ρ m (fun d m' => nx (ρ.set i (.val d)) m') ex) : dSet i t ⟨nx, rt, bk, ct, ex⟩ ρ m := h
def kO (ρ : En) (i : Nat) (nx : En → M → Prop) : D → M → Prop := fun d m' => match d with | .lst ds => D.nls ds = true ∧ nx (ρ.set i (.own ds)) m' | _ => False
theorem v_setO {i : Nat} (h : t ρ m (kO ρ i nx) ex) : dSetO i t ⟨nx, rt, bk, ct, ex⟩ ρ m := h
theorem v_kO {i : Nat} (n : D.nls ds = true) (h : nx (ρ.set i (.own ds)) m) : kO ρ i nx (.lst ds) m := ⟨n, h⟩
theorem v_ret (h : t ρ m rt ex) : dRet t ⟨nx, rt, bk, ct, ex⟩ ρ m := h
theorem v_drop (h : t ρ m (fun _ m' => nx ρ m') ex) : dDrop t ⟨nx, rt, bk, ct, ex⟩ ρ m := h
theorem v_ite (h : tt ρ m (fun b m1 => if b = true then s1 ⟨nx, rt, bk, ct, ex⟩ ρ m1 else s2 ⟨nx, rt, bk, ct, ex⟩ ρ m1) ex) : dIte tt s1 s2 ⟨nx, rt, bk, ct, ex⟩ ρ m := h
theorem v_ifT {A B : Prop} (h : A) : if true = true then A else B := by rw [if_pos rfl]; exact h
theorem v_ifF {A B : Prop} (h : B) : if false = true then A else B := by rw [if_neg Bool.false_ne_true]; exact h
theorem v_ifd {p : Prop} [Decidable p] {A B : Prop} (h : p → A) (h' : ¬ p → B) : if decide p = true then A else B := by
  by_cases e : p
  · rw [if_pos (decide_eq_true e)]; exact h e
  · rw [if_neg (by simpa using e)]; exact h' e
theorem v_ifn {p : Prop} [Decidable p] {A B : Prop} (h : ¬ p → A) (h' : p → B) : if (!decide p) = true then A else B := by
  by_cases e : p
  · rw [if_neg (by simpa using e)]; exact h' e
  · rw [if_pos (by simpa using e)]; exact h e
theorem v_if {b : Bool} {A B : Prop} (h : b = true → A) (h' : b = false → B) : if b = true then A else B := by
  cases b with
  | true => rw [if_pos rfl]; exact h rfl
  | false => rw [if_neg Bool.false_ne_true]; exact h' rfl
theorem v_var {i : Nat} (e : ρ[i]? = some (.val d)) (h : Q d m) : dVar i ρ m Q Z := by unfold dVar; rw [e]; exact h
theorem v_bor {i : Nat} (e : ρ[i]? = some (.bor d)) (h : Q d m) : dBor i ρ m Q Z := by unfold dBor; rw [e]; exact h
theorem v_own {i : Nat} (e : ρ[i]? = some (.own ds)) (h : Q (.lst ds) m) : dOwn i ρ m Q Z := by unfold dOwn; rw [e]; exact h
theorem v_c (h : Q d m) : dC d ρ m Q Z := h
theorem v_nil (h : QL [] m) : dNil ρ m QL Z := h
theorem v_cons (h : t ρ m (fun d m1 => ta ρ m1 (fun ds m2 => QL (d :: ds) m2) Z) Z) : dCons t ta ρ m QL Z := h
theorem v_tup (h : ta ρ m (fun ds m1 => ds.length ≤ sizeLine ∧ Q (.tup ds) m1) Z) : dTup ta ρ m Q Z := h
theorem v_lst (h : ta ρ m (fun ds m1 => ds.length ≤ sizeLine ∧ Q (.lst ds) m1) Z) : dLst ta ρ m Q Z := h
theorem v_sz {n : Nat} {A : Prop} (e : n ≤ 16777216) (h : A) : n ≤ sizeLine ∧ A := ⟨small_line e, h⟩
theorem v_bin {g : G2} (h : t ρ m (fun x m1 => u ρ m1 (fun y m2 => g x y fun d => Q d m2) Z) Z) : dBin g t u ρ m Q Z := h
theorem v_g0 {f : Int → Int → D} (h : q (f i j)) : g0 f (.int i) (.int j) q := h
theorem v_gII {P : Int → Int → Prop} {f : Int → Int → D} (p : P i j) (h : q (f i j)) : gII P f (.int i) (.int j) q := ⟨p, h⟩
theorem v_gIIz {f : Int → Int → D} (p : j ≠ 0) (h : q (f i j)) : gII Nz f (.int i) (.int j) q := ⟨p, h⟩
theorem v_add (h : q (.int (i + j))) : gAdd (.int i) (.int j) q := h
theorem v_addl (a : ds.length + es.length ≤ 16777216) (b : D.nls ds = true) (c : D.nls es = true) (h : q (.lst (ds ++ es))) : gAdd (.lst ds) (.lst es) q := ⟨small_line a, b, c, h⟩
theorem v_addt (a : ds.length + es.length ≤ 16777216) (b : D.nls ds = true) (c : D.nls es = true) (h : q (.tup (ds ++ es))) : gAdd (.tup ds) (.tup es) q := ⟨small_line a, b, c, h⟩
theorem v_mul (p : IntMulOk i j) (h : q (.int (i * j))) : gMul (.int i) (.int j) q := ⟨p, h⟩
theorem v_repl {k : Int} (a : 0 ≤ k) (b : ds.length * k.toNat ≤ 16777216) (hk : k < 2 ^ 63) (n : D.nls ds = true) (h : q (.lst (rep k ds))) : gMul (.lst ds) (.int k) q := ⟨by omega, hk, small_line b, n, h⟩
theorem v_eqi (h : q (.bl (decide (i = j)))) : gEq (.int i) (.int j) q := ⟨q_int, q_int, h⟩
theorem v_nei (h : q (.bl (!decide (i = j)))) : gNe (.int i) (.int j) q := ⟨q_int, q_int, h⟩
theorem v_eqr (h : q (.bl (decide (xs = ys)))) : gEq (.tup (zz xs)) (.tup (zz ys)) q := ⟨q_row xs, q_row ys, by rw [eqv_row]; exact h⟩
theorem v_ner (h : q (.bl (!decide (xs = ys)))) : gNe (.tup (zz xs)) (.tup (zz ys)) q := ⟨q_row xs, q_row ys, by rw [eqv_row]; exact h⟩
theorem v_eqr0 (h : q (.bl (decide (xs = [])))) : gEq (.tup (zz xs)) (.tup []) q := v_eqr (ys := []) h
theorem v_ner0 (h : q (.bl (!decide (xs = [])))) : gNe (.tup (zz xs)) (.tup []) q := v_ner (ys := []) h
theorem v_eql (h : q (.bl (decide (xs = ys)))) : gEq (.lst (zz xs)) (.lst (zz ys)) q := ⟨q_lst xs, q_lst ys, by rw [eqv_lst]; exact h⟩
theorem v_nel (h : q (.bl (!decide (xs = ys)))) : gNe (.lst (zz xs)) (.lst (zz ys)) q := ⟨q_lst xs, q_lst ys, by rw [eqv_lst]; exact h⟩
theorem v_eql0 (h : q (.bl (decide (xs = [])))) : gEq (.lst (zz xs)) (.lst []) q := v_eql (ys := []) h
theorem v_nel0 (h : q (.bl (!decide (xs = [])))) : gNe (.lst (zz xs)) (.lst []) q := v_nel (ys := []) h
theorem v_eqd (a : x.q 8 = true) (b : y.q 8 = true) (h : q (.bl (x.eqv y))) : gEq x y q := ⟨a, b, h⟩
theorem v_ned (a : x.q 8 = true) (b : y.q 8 = true) (h : q (.bl (!x.eqv y))) : gNe x y q := ⟨a, b, h⟩
theorem v_isN (h : q (.bl x.isN)) : gIsN x .non q := ⟨rfl, h⟩
theorem v_notN (h : q (.bl (!x.isN))) : gNotN x .non q := ⟨rfl, h⟩
/-- the place i from the front, nought behind the end -/
def nth (xs : List Int) (i : Int) : Int := xs.getD i.toNat 0
theorem nth_get {n : Nat} (h : n < xs.length) : nth xs (n : Int) = xs[n] := by unfold nth; simp [List.getD, List.getElem?_eq_getElem h]
theorem nth_mem (h0 : 0 ≤ i) (h1 : i < xs.length) : nth xs i ∈ xs := by
  obtain ⟨n, rfl⟩ := Int.eq_ofNat_of_zero_le h0
  rw [nth_get (by omega)]
  exact List.getElem_mem _
theorem atI_nth (h0 : 0 ≤ i) (h1 : i < xs.length) : atI (zz xs) i = some (.int (nth xs i)) := by
  rw [atI_ints, atI_at h0 h1]
  obtain ⟨n, rfl⟩ := Int.eq_ofNat_of_zero_le h0
  rw [nth_get (by omega)]
  rfl
theorem v_ixl {n : Bool} (h0 : 0 ≤ i) (h1 : i < xs.length) (h : q (.int (nth xs i))) : gIx n (.lst (zz xs)) (.int i) q := by
  unfold gIx; dsimp only; rw [atI_nth h0 h1]; exact ⟨fun _ => rfl, h⟩
theorem v_ixt {n : Bool} (h0 : 0 ≤ i) (h1 : i < xs.length) (h : q (.int (nth xs i))) : gIx n (.tup (zz xs)) (.int i) q := by
  unfold gIx; dsimp only; rw [atI_nth h0 h1]; exact ⟨fun _ => rfl, h⟩
theorem v_ixL {n : Bool} (e : atI ds i = some d) (nl : d.nl = true) (h : q d) : gIx n (.lst ds) (.int i) q := by
  unfold gIx; dsimp only; rw [e]; exact ⟨fun _ => nl, h⟩
theorem v_ixT {n : Bool} (e : atI ds i = some d) (nl : d.nl = true) (h : q d) : gIx n (.tup ds) (.int i) q := by
  unfold gIx; dsimp only; rw [e]; exact ⟨fun _ => nl, h⟩
theorem v_dB {g : List D → (D → Prop) → Prop} (h : ta ρ m (fun ds m1 => g ds fun d => Q d m1) Z) : dB g ta ρ m Q Z := h
theorem v_lent (h : q (.int ds.length)) : gLen [.tup ds] q := h
theorem v_lenl (h : q (.int ds.length)) : gLen [.lst ds] q := h
theorem v_lentz (h : q (.int xs.length)) : gLen [.tup (zz xs)] q := by show q (.int (zz xs).length); rw [show (zz xs).length = xs.length from List.length_map _]; exact h
theorem v_lenlz (h : q (.int xs.length)) : gLen [.lst (zz xs)] q := by show q (.int (zz xs).length); rw [show (zz xs).length = xs.length from List.length_map _]; exact h
theorem v_I1 {f : Int → Int} (h : q (.int (f i))) : gI1 f [.int i] q := h
theorem v_I2 {f : Int → Int → Int} (h : q (.int (f i j))) : gI2 f [.int i, .int j] q := h
theorem v_int (h : q (.int i)) : gInt [.int i] q := h
theorem v_seql {mk : List D → D} (n : D.nls ds = true) (h : q (mk ds)) : gSeq mk [.lst ds] q := ⟨n, h⟩
theorem v_seqt {mk : List D → D} (n : D.nls ds = true) (h : q (mk ds)) : gSeq mk [.tup ds] q := ⟨n, h⟩
theorem v_seqlz {mk : List D → D} (h : q (mk (zz xs))) : gSeq mk [.lst (zz xs)] q := ⟨nls_ints xs, h⟩
theorem v_seqtz {mk : List D → D} (h : q (mk (zz xs))) : gSeq mk [.tup (zz xs)] q := ⟨nls_ints xs, h⟩
/-! slices -/
def kSl (x : D) (l u : Option Int) (Q : D → M → Prop) (m3 : M) : Prop := match x with
  | .lst ds => D.nls ds = true ∧ Q (.lst (cutD ds l u)) m3
  | .tup ds => D.nls ds = true ∧ Q (.tup (cutD ds l u)) m3
  | _ => False
theorem v_sl {lo hi : DTO M} (h : t ρ m (fun x m1 => lo ρ m1 (fun l m2 => hi ρ m2 (fun u m3 => kSl x l u Q m3) Z) Z) Z) : dSl t lo hi ρ m Q Z := h
theorem v_kSll {l u : Option Int} (h : Q (.lst (cutD (zz xs) l u)) m) : kSl (.lst (zz xs)) l u Q m := ⟨nls_ints xs, h⟩
theorem v_kSlt {l u : Option Int} (h : Q (.tup (cutD (zz xs) l u)) m) : kSl (.tup (zz xs)) l u Q m := ⟨nls_ints xs, h⟩
theorem v_kSlL {l u : Option Int} (n : D.nls ds = true) (h : Q (.lst (cutD ds l u)) m) : kSl (.lst ds) l u Q m := ⟨n, h⟩
theorem v_kSlT {l u : Option Int} (n : D.nls ds = true) (h : Q (.tup (cutD ds l u)) m) : kSl (.tup ds) l u Q m := ⟨n, h⟩
theorem v_ono (h : QO none m) : dONone ρ m QO Z := h
def kOS (Q : Option Int → M → Prop) (d : D) (m1 : M) : Prop := match d with | .int i => Q (some i) m1 | _ => False
theorem v_oso (h : t ρ m (fun d m1 => kOS QO d m1) Z) : dOSome t ρ m QO Z := h
theorem v_kOS (h : QO (some i) m) : kOS QO (.int i) m := h
/-! tests -/
def kT (Q : Bool → M → Prop) (d : D) (m' : M) : Prop := match d with | .bl b => Q b m' | _ => False
theorem v_tst (h : t ρ m (fun d m' => kT QB d m') Z) : dTst t ρ m QB Z := h
theorem v_kT {b : Bool} (h : QB b m) : kT QB (.bl b) m := h
def kV (Q : Bool → M → Prop) (d : D) (m' : M) : Prop := match d.tr with | some b => Q b m' | none => False
theorem v_val (h : t ρ m (fun d m' => RR.kV QB d m') Z) : dVal t ρ m QB Z := h
theorem v_kVb {b : Bool} (h : QB b m) : RR.kV QB (.bl b) m := h
theorem v_kVi (h : QB (i != 0) m) : RR.kV QB (.int i) m := h
theorem v_kVt (h : QB (!ds.isEmpty) m) : RR.kV QB (.tup ds) m := h
theorem v_kVl (h : QB (!ds.isEmpty) m) : RR.kV QB (.lst ds) m := h
theorem v_and (h : tt ρ m (fun b m1 => if b = true then tu ρ m1 QB Z else QB false m1) Z) : dAnd tt tu ρ m QB Z := h
theorem v_or (h : tt ρ m (fun b m1 => if b = true then QB true m1 else tu ρ m1 QB Z) Z) : dOr tt tu ρ m QB Z := h
theorem v_not (h : tt ρ m (fun b m1 => QB (!b) m1) Z) : dNot tt ρ m QB Z := h
theorem v_yes (h : QB true m) : dYes ρ m QB Z := h
theorem v_if' (h : tt ρ m (fun b m1 => if b = true then t ρ m1 Q Z else u ρ m1 Q Z) Z) : dIf tt t u ρ m Q Z := h
def kI (T : String) (Q : D → M → Prop) (d : D) (m1 : M) : Prop := match d.ty with | some ty => Q (.bl (isiB ty T)) m1 | none => False
theorem v_isi {T : String} (h : t ρ m (fun d m1 => kI T Q d m1) Z) : dIsi T t ρ m Q Z := h
theorem v_kIii (h : Q (.bl true) m) : kI "int" Q (.int i) m := h
theorem v_kIib (h : Q (.bl false) m) : kI "bool" Q (.int i) m := h
theorem v_kItt (h : Q (.bl true) m) : kI "tuple" Q (.tup ds) m := h
theorem v_kI {T ty : String} {b : Bool} (e : d.ty = some ty) (e2 : isiB ty T = b) (h : Q (.bl b) m) : kI T Q d m := by unfold kI; rw [e]; dsimp only; rw [e2]; exact h
def kAV (A : Prop) (Q : D → M → Prop) (d : D) (m1 : M) : Prop := match d with | .bl true => A | .bl false => Q (.bl false) m1 | _ => False
theorem v_andV (h : t ρ m (fun d m1 => kAV (u ρ m1 Q Z) Q d m1) Z) : dAndV t u ρ m Q Z := by
  unfold dAndV
  refine (?_ : t ρ m _ Z)
  exact h
def kOV (A : Prop) (Q : D → M → Prop) (d : D) (m1 : M) : Prop := match d with | .bl false => A | .bl true => Q (.bl true) m1 | _ => False
theorem v_orV (h : t ρ m (fun d m1 => kOV (u ρ m1 Q Z) Q d m1) Z) : dOrV t u ρ m Q Z := h
theorem v_kAV {b : Bool} {A : Prop} (h : b = true → A) (h' : b = false → Q (.bl false) m) : kAV A Q (.bl b) m := by
  cases b with
  | true => exact h rfl
  | false => exact h' rfl
theorem v_kOV {b : Bool} {A : Prop} (h : b = false → A) (h' : b = true → Q (.bl true) m) : kOV A Q (.bl b) m := by
  cases b with
  | false => exact h rfl
  | true => exact h' rfl
def kNV (Q : D → M → Prop) (d : D) (m1 : M) : Prop := match d with | .bl b => Q (.bl (!b)) m1 | _ => False
theorem v_notV (h : t ρ m (fun d m1 => kNV Q d m1) Z) : dNotV t ρ m Q Z := h
theorem v_kNV {b : Bool} (h : Q (.bl (!b)) m) : kNV Q (.bl b) m := h
def kNeg (Q : D → M → Prop) (d : D) (m1 : M) : Prop := match d with | .int i => Q (.int (-i)) m1 | _ => False
theorem v_neg (h : t ρ m (fun d m1 => kNeg Q d m1) Z) : dNeg t ρ m Q Z := h
theorem v_kNeg (h : Q (.int (-i)) m) : kNeg Q (.int i) m := h
/-! calls, sources, comprehensions, loops -/
theorem v_call {sp : DSp M} {dds : List D} (h : ta ρ m (fun ds m1 => sp (ds ++ dds) m1 Q Z) Z) : dCall sp dds ta ρ m Q Z := h
theorem v_call0 {sp : DSp M} (h : sp ds m Q Z) : sp (ds ++ []) m Q Z := by rw [List.append_nil]; exact h
def kSeq (n : Bool) (Q : List D → M → Prop) (d : D) (m1 : M) : Prop := match d with | .lst ds | .tup ds => (n = true → D.nls ds = true) ∧ Q ds m1 | _ => False
theorem v_seq {n : Bool} (h : t ρ m (fun d m1 => kSeq n QL d m1) Z) : dSeq n t ρ m QL Z := by
  refine (?_ : t ρ m _ Z); exact h
theorem v_kSeql {n : Bool} (h : QL (zz xs) m) : kSeq n QL (.lst (zz xs)) m := ⟨fun _ => nls_ints xs, h⟩
theorem v_kSeqt {n : Bool} (h : QL (zz xs) m) : kSeq n QL (.tup (zz xs)) m := ⟨fun _ => nls_ints xs, h⟩
theorem v_kSeqL (h : QL ds m) : kSeq false QL (.lst ds) m := ⟨fun z => (nomatch z), h⟩
theorem v_kSeqT (h : QL ds m) : kSeq false QL (.tup ds) m := ⟨fun z => (nomatch z), h⟩
theorem v_kSeqLn {n : Bool} (e : D.nls ds = true) (h : QL ds m) : kSeq n QL (.lst ds) m := ⟨fun _ => e, h⟩
theorem v_kSeqTn {n : Bool} (e : D.nls ds = true) (h : QL ds m) : kSeq n QL (.tup ds) m := ⟨fun _ => e, h⟩
def kR1 (Q : List D → M → Prop) (ds : List D) (m1 : M) : Prop := match ds with | [.int j] => -(2 ^ 62) ≤ j ∧ j < 2 ^ 62 ∧ Q (iota 0 j.toNat) m1 | _ => False
theorem v_rng1 (h : ta ρ m (fun ds m1 => kR1 QL ds m1) Z) : dRng1 ta ρ m QL Z := by
  refine (?_ : ta ρ m _ Z); exact h
theorem v_kR1 (a : -(2 ^ 62) ≤ j) (b : j < 2 ^ 62) (h : QL (iota 0 j.toNat) m) : kR1 QL [.int j] m := ⟨a, b, h⟩
def kR2 (Q : List D → M → Prop) (ds : List D) (m1 : M) : Prop := match ds with | [.int i, .int j] => (-(2 ^ 62) ≤ i ∧ i < 2 ^ 62 ∧ -(2 ^ 62) ≤ j ∧ j < 2 ^ 62) ∧ Q (iota i (j - i).toNat) m1 | _ => False
theorem v_rng2 (h : ta ρ m (fun ds m1 => kR2 QL ds m1) Z) : dRng2 ta ρ m QL Z := by
  refine (?_ : ta ρ m _ Z); exact h
theorem v_kR2 (a : -(2 ^ 62) ≤ i) (b : i < 2 ^ 62) (c : -(2 ^ 62) ≤ j) (e : j < 2 ^ 62) (h : QL (iota i (j - i).toNat) m) : kR2 QL [.int i, .int j] m := ⟨⟨a, b, c, e⟩, h⟩
theorem v_enum {n : Bool} (h : dSeq n t ρ m (fun ds m1 => QL (enumD 0 ds) m1) Z) : dEnum n t ρ m QL Z := h
def kRR (Q : List D → M → Prop) (d : D) (m1 : M) : Prop := match d with | .int j => -(2 ^ 62) ≤ j ∧ j < 2 ^ 62 ∧ Q (iota 0 j.toNat).reverse m1 | _ => False
theorem v_revr (h : t ρ m (fun d m1 => kRR QL d m1) Z) : dRevR t ρ m QL Z := h
theorem v_kRR (a : -(2 ^ 62) ≤ j) (b : j < 2 ^ 62) (h : QL (iota 0 j.toNat).reverse m) : kRR QL (.int j) m := ⟨a, b, h⟩
theorem v_rev {n : Bool} (h : dSeq n t ρ m (fun ds m1 => QL ds.reverse m1) Z) : dRev n t ρ m QL Z := h
theorem v_gn {i : Nat} {P : En → Prop} (h : P (ρ.set i (.val d))) : dgN i d ρ P := h
theorem v_gt2 {i j : Nat} {P : En → Prop} (h : P ((ρ.set i (.val x)).set j (.val y))) : dgT 2 (dgCons (dgN i) (dgCons (dgN j) dgNil)) (.tup [x, y]) ρ P := ⟨rfl, h⟩
theorem v_gt3 {i j k : Nat} {P : En → Prop} (h : P (((ρ.set i (.val x)).set j (.val y)).set k (.val d))) : dgT 3 (dgCons (dgN i) (dgCons (dgN j) (dgCons (dgN k) dgNil))) (.tup [x, y, d]) ρ P := ⟨rfl, h⟩
theorem v_lc {g : DG} {vs : List Nat} (h : ta ρ m (fun items m1 => lcGo g tt t (wipeD ρ vs) items [] m1 (fun ds m2 => Q (.lst ds) m2)) Z) : dLc ta g tt t vs ρ m Q Z := h
theorem v_while {c : DTT M} (W : Nat → En → M → Prop) (n : Nat) (h : W n ρ m) (st : ∀ n ρ m, W n ρ m → c ρ m (fun b m1 => if b = true then s1 ⟨fun ρ' m' => ∃ n', n' < n ∧ W n' ρ' m', rt, nx, fun ρ' m' => ∃ n', n' < n ∧ W n' ρ' m', ex⟩ ρ m1 else nx ρ m1) ex) : dWhile c s1 ⟨nx, rt, bk, ct, ex⟩ ρ m := ⟨W, ⟨n, h⟩, st⟩
def kFor (g : DG) (s1 : DS M) (E : DE M) (ρ : En) (items : List D) (m1 : M) : Prop := ∃ W : List D → En → M → Prop, W items ρ m1 ∧ (∀ ρ m, W [] ρ m → E.nx ρ m) ∧
  ∀ x r ρ m, W (x :: r) ρ m → g x ρ fun ρ2 => s1 { E with nx := W r, ct := W r, bk := E.nx } ρ2 m
theorem v_for {g : DG} (h : ta ρ m (fun items m1 => kFor g s1 ⟨nx, rt, bk, ct, ex⟩ ρ items m1) ex) : dFor ta g s1 ⟨nx, rt, bk, ct, ex⟩ ρ m := h
theorem v_kfor {g : DG} (W : List D → En → M → Prop) (h : W ds ρ m) (e : ∀ ρ m, W [] ρ m → nx ρ m) (st : ∀ x r ρ m, W (x :: r) ρ m → g x ρ fun ρ2 => s1 ⟨W r, rt, nx, W r, ex⟩ ρ2 m) : kFor g s1 ⟨nx, rt, bk, ct, ex⟩ ρ ds m := ⟨W, h, e, st⟩
/-- items out of a plain list, by what is left -/
theorem v_kforL {α : Type} {inj : α → D} {g : DG} (W : List α → En → M → Prop) (l : List α) (h : W l ρ m) (e : ∀ ρ m, W [] ρ m → nx ρ m) (st : ∀ x r ρ m, W (x :: r) ρ m → g (inj x) ρ fun ρ2 => s1 ⟨fun ρ m => ∃ r', r.map inj = r'.map inj ∧ W r' ρ m, rt, nx, fun ρ m => ∃ r', r.map inj = r'.map inj ∧ W r' ρ m, ex⟩ ρ2 m) :
    kFor g s1 ⟨nx, rt, bk, ct, ex⟩ ρ (l.map inj) m := by
  refine ⟨fun it ρ m => ∃ r', it = r'.map inj ∧ W r' ρ m, ⟨l, rfl, h⟩, fun ρ m h => ?_, fun x r ρ m h => ?_⟩
  · obtain ⟨r', e1, h⟩ := h
    cases r' with
    | nil => exact e ρ m h
    | cons a r' => cases e1
  · obtain ⟨r', e1, h⟩ := h
    cases r' with
    | nil => cases e1
    | cons a r' =>
      rw [List.map_cons] at e1
      cases e1
      exact st a r' ρ m h
/-! statements about lists of one's own -/
theorem v_app {i : Nat} (e : ρ[i]? = some (.own ds)) (h : t ρ m (fun d m' => d.nl = true ∧ ds.length < sizeLine ∧ nx (ρ.set i (.own (ds ++ [d]))) m') ex) : dApp i t ⟨nx, rt, bk, ct, ex⟩ ρ m := by
  unfold dApp; rw [e]; exact h
theorem v_appk {A : Prop} (n : d.nl = true) (l : ds.length < 16777216) (h : A) : d.nl = true ∧ ds.length < sizeLine ∧ A := ⟨n, lt_line l, h⟩
def kSI (ρ : En) (i : Nat) (ds : List D) (nx : En → M → Prop) (d k : D) (m2 : M) : Prop := match k with
    | .int k => (match ixN ds.length k with | some j => d.nl = true ∧ nx (ρ.set i (.own (ds.set j d))) m2 | none => False) | _ => False
theorem v_setI {i : Nat} (e : ρ[i]? = some (.own ds)) (h : t ρ m (fun d m1 => u ρ m1 (fun k m2 => kSI ρ i ds nx d k m2) ex) ex) : dSetI i t u ⟨nx, rt, bk, ct, ex⟩ ρ m := by
  unfold dSetI; rw [e]; exact h
theorem v_kSI {i : Nat} {k : Int} (h0 : 0 ≤ k) (h1 : k < ds.length) (n : d.nl = true) (h : nx (ρ.set i (.own (ds.set k.toNat d))) m) : kSI ρ i ds nx d (.int k) m := by
  unfold kSI; dsimp only; rw [ixN_at h0 h1]; exact ⟨n, h⟩
theorem v_rel {i : Nat} (e : ρ[i]? = some (.own ds)) (h : s1 ⟨nx, rt, bk, ct, ex⟩ (ρ.set i (.val (.lst ds))) m) : dRel i s1 ⟨nx, rt, bk, ct, ex⟩ ρ m := by
  unfold dRel; rw [e]; exact h
theorem v_raise {x : Str} (h : ex x m) : dRaise x ⟨nx, rt, bk, ct, ex⟩ ρ m := h
def kP (ρ : En) (i j : Nat) (nx : En → M → Prop) (ds : List D) (m' : M) : Prop := match ds with | [x, y] => nx ((ρ.set i (.val x)).set j (.val y)) m' | _ => False
theorem v_par {i j : Nat} (h : ta ρ m (fun ds m' => kP ρ i j nx ds m') ex) : dPar i j ta ⟨nx, rt, bk, ct, ex⟩ ρ m := h
theorem v_kP {i j : Nat} (h : nx ((ρ.set i (.val x)).set j (.val y)) m) : kP ρ i j nx [x, y] m := h
theorem v_asg {g : DG} (h : t ρ m (fun d m' => g d ρ fun ρ' => nx ρ' m') ex) : dAsg t g ⟨nx, rt, bk, ct, ex⟩ ρ m := h
theorem v_aug {i : Nat} {f : Int → Int → Int} {a : Int} (e : ρ[i]? = some (.val (.int a))) (h : t ρ m (fun y m' => kOS (fun o m' => match o with | some y => nx (ρ.set i (.val (.int (f a y)))) m' | none => False) y m') ex) : dAug i f t ⟨nx, rt, bk, ct, ex⟩ ρ m := by
  unfold dAug; rw [e]
  exact h
theorem v_kOSa {f : Int → Prop} {g : Option Int → M → Prop} (e : g (some i) m) : kOS g (.int i) m := e
/-! rows given as a list or a tuple -/
def isRow (d : D) (xs : List Int) : Prop := d = .tup (zz xs) ∨ d = .lst (zz xs)
theorem isRow_t : isRow (.tup (zz xs)) xs := .inl rfl
theorem isRow_l : isRow (.lst (zz xs)) xs := .inr rfl
theorem v_lenr (hd : isRow d xs) (h : q (.int xs.length)) : gLen [d] q := by
  rcases hd with rfl | rfl
  · exact v_lentz h
  · exact v_lenlz h
theorem v_ixr {n : Bool} (hd : isRow d xs) (h0 : 0 ≤ i) (h1 : i < xs.length) (h : q (.int (nth xs i))) : gIx n d (.int i) q := by
  rcases hd with rfl | rfl
  · exact v_ixt h0 h1 h
  · exact v_ixl h0 h1 h
def cutZ (xs : List Int) (lo hi : Option Int) : List Int := (xs.drop (HT.sIx xs.length 0 lo)).take (HT.sIx xs.length xs.length hi - HT.sIx xs.length 0 lo)
theorem cutD_zz {l u : Option Int} : cutD (zz xs) l u = zz (cutZ xs l u) := by
  unfold cutD cutZ zz
  rw [List.length_map, List.map_take, List.map_drop]
theorem zz_inj {xs ys : List Int} (h : zz xs = zz ys) : xs = ys := by
  induction xs generalizing ys with
  | nil => cases ys with
    | nil => rfl
    | cons y ys => cases h
  | cons x xs ih => cases ys with
    | nil => cases h
    | cons y ys =>
      obtain ⟨h1, h2⟩ := List.cons.inj h
      cases h1
      rw [ih h2]
theorem cutZ_to {k : Int} (h0 : 0 ≤ k) : cutZ xs none (some k) = xs.take k.toNat := zz_inj (by rw [← cutD_zz, cut_upto h0]; exact (List.map_take ..).symm)
theorem cutZ_from {k : Int} (h0 : 0 ≤ k) : cutZ xs (some k) none = xs.drop k.toNat := zz_inj (by rw [← cutD_zz, cut_from h0]; exact (List.map_drop ..).symm)
theorem v_kSlr {l u : Option Int} (hd : isRow d xs) (h : ∀ d', isRow d' (cutZ xs l u) → Q d' m) : kSl d l u Q m := by
  rcases hd with rfl | rfl
  · exact ⟨nls_ints xs, h _ (by rw [cutD_zz]; exact isRow_t)⟩
  · exact ⟨nls_ints xs, h _ (by rw [cutD_zz]; exact isRow_l)⟩
theorem v_seqr {mk : List D → D} (hd : isRow d xs) (h : q (mk (zz xs))) : gSeq mk [d] q := by
  rcases hd with rfl | rfl
  · exact v_seqtz h
  · exact v_seqlz h
theorem v_kSeqr {n : Bool} (hd : isRow d xs) (h : QL (zz xs) m) : kSeq n QL d m := by
  rcases hd with rfl | rfl
  · exact v_kSeqt h
  · exact v_kSeql h
/-! comprehensions over whole numbers -/
theorem lc_zz {g : DG} {f : Int → Int} (xs : List Int) (st : ∀ a ∈ xs, ∀ m (k : D → M → Prop) (l : M → Prop), k (.int (f a)) m → g (.int a) ρ fun ρ2 => tt ρ2 m (fun b m1 => if b = true then t ρ2 m1 k (fun _ _ => False) else l m1) (fun _ _ => False))
    (hl : xs.length ≤ 16777216) (h : QL (zz (xs.map f)) m) : lcGo g tt t ρ (zz xs) [] m QL := by
  refine lcGo_map (h := fun a => .int (f a)) xs st (small_line hl) ?_
  rw [show xs.map (fun a => D.int (f a)) = zz (xs.map f) from (List.map_map ..).symm]
  exact h
theorem lc_zd {g : DG} {f : Int → D} (xs : List Int) (st : ∀ a ∈ xs, ∀ m (k : D → M → Prop) (l : M → Prop), k (f a) m → g (.int a) ρ fun ρ2 => tt ρ2 m (fun b m1 => if b = true then t ρ2 m1 k (fun _ _ => False) else l m1) (fun _ _ => False))
    (hl : xs.length ≤ 16777216) (h : QL (xs.map f) m) : lcGo g tt t ρ (zz xs) [] m QL := lcGo_map (h := f) xs st (small_line hl) h
/-- over range(n) -/
theorem lc_rz {g : DG} {f : Nat → Int} (n : Nat) (st : ∀ a, a < n → ∀ m (k : D → M → Prop) (l : M → Prop), k (.int (f a)) m → g (.int a) ρ fun ρ2 => tt ρ2 m (fun b m1 => if b = true then t ρ2 m1 k (fun _ _ => False) else l m1) (fun _ _ => False))
    (hl : n ≤ 16777216) (h : QL (zz ((List.range n).map f)) m) : lcGo g tt t ρ (iota 0 n) [] m QL := by
  rw [iota_map]
  refine lcGo_map (h := fun a => .int (f a)) (List.range n) (fun a ha => st a (List.mem_range.mp ha)) (small_line (by rw [List.length_range]; exact hl)) ?_
  rw [show (List.range n).map (fun a => D.int (f a)) = zz ((List.range n).map f) from (List.map_map ..).symm]
  exact h
/-- over range(n), elements that turn the world and are whole numbers with P -/
theorem lc_rany {g : DG} {P : Int → Prop} {S : Nat → M → Prop} (n : Nat) (st : ∀ j ds m (k : D → M → Prop) (l : M → Prop), S (j + 1) m → (∀ y m1, P y → S j m1 → k (.int y) m1) → g ds ρ fun ρ2 => tt ρ2 m (fun b m1 => if b = true then t ρ2 m1 k (fun _ _ => False) else l m1) (fun _ _ => False))
    (hl : n ≤ 16777216) (s : S n m) (h : ∀ xs m1, xs.length = n → (∀ x ∈ xs, P x) → S 0 m1 → QL (zz xs) m1) : lcGo g tt t ρ (iota 0 n) [] m QL := by
  have ln : (iota 0 n).length = n := by rw [iota_map, List.length_map, List.length_range]
  refine lcGo_any (P := fun d => ∃ x, d = .int x ∧ P x) (S := S) (iota 0 n) (fun x _ j m k l s h => st j x m k l s fun y m1 p s => h _ _ ⟨y, rfl, p⟩ s) (by rw [ln]; exact small_line (by simpa using hl)) (by rw [ln]; exact s) fun ds m1 l p s => ?_
  obtain ⟨xs, rfl, hp⟩ := ints_of p
  rw [List.nil_append]
  exact h xs m1 (by rw [ln] at l; simpa using l) hp s
/-- none is kept -/
theorem lc_none {α : Type} {inj : α → D} {g : DG} (xs : List α) (st : ∀ a ∈ xs, ∀ m (k : D → M → Prop) (l : M → Prop), l m → g (inj a) ρ fun ρ2 => tt ρ2 m (fun b m1 => if b = true then t ρ2 m1 k (fun _ _ => False) else l m1) (fun _ _ => False))
    (hl : xs.length ≤ 16777216) (h : QL [] m) : lcGo g tt t ρ (xs.map inj) [] m QL := by
  refine lcGo_filter (h := inj) (keep := fun _ => false) xs (fun a ha m k l _ h => st a ha m k l (h rfl)) (by simpa using small_line hl) ?_
  rw [List.filter_eq_nil_iff.mpr (fun _ _ => Bool.false_ne_true)]
  exact h
theorem v_kforZ {g : DG} (W : List Int → En → M → Prop) (l : List Int) (h : W l ρ m) (e : ∀ ρ m, W [] ρ m → nx ρ m) (st : ∀ x r ρ m, W (x :: r) ρ m → g (.int x) ρ fun ρ2 => s1 ⟨fun ρ m => W r ρ m, rt, nx, fun ρ m => W r ρ m, ex⟩ ρ2 m) :
    kFor g s1 ⟨nx, rt, bk, ct, ex⟩ ρ (zz l) m := by
  refine ⟨fun it ρ m => ∃ r', it = zz r' ∧ W r' ρ m, ⟨l, rfl, h⟩, fun ρ m h => ?_, fun x r ρ m h => ?_⟩
  · obtain ⟨r', e1, h⟩ := h
    cases r' with
    | nil => exact e ρ m h
    | cons a r' => cases e1
  · obtain ⟨r', e1, h⟩ := h
    cases r' with
    | nil => cases e1
    | cons a r' =>
      cases e1
      have z := st a r' ρ m h
      have f1 : (fun ρ m => ∃ r'', zz r' = zz r'' ∧ W r'' ρ m) = fun ρ m => W r' ρ m := by
        funext ρ m
        refine propext ⟨fun ⟨r'', e, h⟩ => ?_, fun h => ⟨r', rfl, h⟩⟩
        rw [zz_inj e]; exact h
      show g (.int a) ρ fun ρ2 => s1 ⟨fun ρ m => ∃ r'', zz r' = zz r'' ∧ W r'' ρ m, rt, nx, fun ρ m => ∃ r'', zz r' = zz r'' ∧ W r'' ρ m, ex⟩ ρ2 m
      rw [f1]
      exact z
/-- over range(i, i + n), by the number gone -/
theorem v_kforR {g : DG} {i : Int} (n : Nat) (W : Nat → En → M → Prop) (h : W 0 ρ m) (e : ∀ ρ m, W n ρ m → nx ρ m) (st : ∀ k ρ m, k < n → W k ρ m → g (.int (i + k)) ρ fun ρ2 => s1 ⟨fun ρ m => W (k + 1) ρ m, rt, nx, fun ρ m => W (k + 1) ρ m, ex⟩ ρ2 m) :
    kFor g s1 ⟨nx, rt, bk, ct, ex⟩ ρ (iota i n) m := by
  have key : ∀ j, j ≤ n → ∀ it, it = (List.range' j (n - j)).map (fun k : Nat => D.int (i + k)) → True := fun _ _ _ _ => trivial
  refine ⟨fun it ρ m => ∃ j, j ≤ n ∧ it = (List.range' j (n - j)).map (fun k : Nat => D.int (i + k)) ∧ W j ρ m, ⟨0, Nat.zero_le _, ?_, h⟩, fun ρ m h => ?_, fun x r ρ m h => ?_⟩
  · unfold iota; rw [Nat.sub_zero, List.range_eq_range']
  · obtain ⟨j, hj, e1, h⟩ := h
    have : n - j = 0 := by
      have := congrArg List.length e1
      rw [List.length_map, List.length_range'] at this
      exact this.symm
    have : j = n := by omega
    subst this
    exact e ρ m h
  · obtain ⟨j, hj, e1, h⟩ := h
    have hlt : j < n := by
      have := congrArg List.length e1
      rw [List.length_map, List.length_range', List.length_cons] at this
      omega
    obtain ⟨p, hp⟩ : ∃ p, n - j = p + 1 := ⟨n - j - 1, by omega⟩
    rw [hp, List.range'_succ, List.map_cons] at e1
    obtain ⟨e2, e3⟩ := List.cons.inj e1
    subst e2
    have z := st j ρ m hlt h
    have f1 : (fun ρ m => ∃ j', j' ≤ n ∧ r = (List.range' j' (n - j')).map (fun k : Nat => D.int (i + k)) ∧ W j' ρ m) = fun ρ m => W (j + 1) ρ m := by
      funext ρ m
      refine propext ⟨fun ⟨j', h1, h2, h⟩ => ?_, fun h => ⟨j + 1, hlt, by rw [e3, show n - (j + 1) = p by omega], h⟩⟩
      have := congrArg List.length (e3.symm.trans h2)
      rw [List.length_map, List.length_range', List.length_map, List.length_range'] at this
      have : j' = j + 1 := by omega
      subst this
      exact h
    show g _ ρ fun ρ2 => s1 ⟨fun ρ m => ∃ j', j' ≤ n ∧ r = (List.range' j' (n - j')).map (fun k : Nat => D.int (i + k)) ∧ W j' ρ m, rt, nx, fun ρ m => ∃ j', j' ≤ n ∧ r = (List.range' j' (n - j')).map (fun k : Nat => D.int (i + k)) ∧ W j' ρ m, ex⟩ ρ2 m
    rw [f1]
    exact z
theorem v_kforE {g : DG} {i : Nat} (W : Nat → List Int → En → M → Prop) (l : List Int) (h : W i l ρ m) (e : ∀ j ρ m, W j [] ρ m → nx ρ m) (st : ∀ (j : Nat) x r ρ m (N : En → M → Prop), W j (x :: r) ρ m → (∀ ρ m, W (j + 1) r ρ m → N ρ m) → g (.tup [.int j, .int x]) ρ fun ρ2 => s1 ⟨N, rt, nx, N, ex⟩ ρ2 m) :
    kFor g s1 ⟨nx, rt, bk, ct, ex⟩ ρ (enumD i (zz l)) m := by
  refine ⟨fun it ρ m => ∃ j r', it = enumD j (zz r') ∧ W j r' ρ m, ⟨i, l, rfl, h⟩, fun ρ m h => ?_, fun x r ρ m h => ?_⟩
  · obtain ⟨j, r', e1, h⟩ := h
    cases r' with
    | nil => exact e j ρ m h
    | cons a r' => cases e1
  · obtain ⟨j, r', e1, h⟩ := h
    cases r' with
    | nil => cases e1
    | cons a r' =>
      cases e1
      exact st j a r' ρ m _ h fun ρ m h => ⟨_, _, rfl, h⟩
theorem v_kSIz {i : Nat} {k v : Int} (h0 : 0 ≤ k) (h1 : k < xs.length) (h : nx (ρ.set i (.own (zz (xs.set k.toNat v)))) m) : kSI ρ i (zz xs) nx (.int v) (.int k) m := by
  refine v_kSI h0 (by rw [List.length_map]; exact h1) rfl ?_
  rw [show zz (xs.set k.toNat v) = (zz xs).set k.toNat (.int v) from List.map_set ..] at h
  exact h
theorem v_join {s : DS M} (J : En → M → Prop) (h : ∀ ρ m, J ρ m → nx ρ m) (h2 : ∀ nx' : En → M → Prop, (∀ ρ m, J ρ m → nx' ρ m) → s ⟨nx', rt, bk, ct, ex⟩ ρ m) : s ⟨nx, rt, bk, ct, ex⟩ ρ m := h2 nx h
theorem v_pow (a : 0 ≤ j) (b : j ≤ 1000000) (c : i.natAbs < 2 ^ 64) (h : q (.int (i ^ j.toNat))) : gII CPow (fun i j => .int (i ^ j.toNat)) (.int i) (.int j) q := ⟨⟨a, b, c⟩, h⟩
theorem v_draw {N : Nat} {many : Int} {Q : D → Option Nat → Prop} {Z : Str → Option Nat → Prop} (h0 : 0 < many) (hb : many.natAbs < 2 ^ 250) (h : ∀ x, 0 ≤ x → x < many → Q (.int x) (some N)) : s__law_draw [.hnd 0, .int many] (some (N + 1)) Q Z := ⟨N, many, rfl, rfl, h0, Nat.lt_of_lt_of_le hb (Nat.pow_le_pow_right (by decide) (by decide)), h⟩
end
end RR

/-! VD: what the drawing state's two plain functions compute -/
namespace RR
open PySem PySem.Spec PyProof.Rows L2
local macro_rules | `(tactic| walk_at "bd") => `(tactic| first | assumption | exact bd_lit (by decide) | (with_reducible refine bd_mul ?_ ?_ <;> walk_at "bd") | (with_reducible refine bd_add ?_ ?_ <;> walk_at "bd") | (with_reducible refine bd_sub ?_ ?_ <;> walk_at "bd") | (with_reducible refine bd_neg ?_ <;> walk_at "bd"))
local macro_rules | `(tactic| walk_at "s") => `(tactic| with_reducible first
  | refine v_then ?_ | refine v_set ?_ | (apply v_var; · with_unfolding_all exact rfl) | refine v_bin ?_ | refine v_c ?_ | refine v_g0 ?_ | refine v_add ?_ | refine v_cons ?_ | refine v_nil ?_ | refine v_call ?_ | refine v_dB ?_ | refine v_next ?_ | refine v_ret ?_
  | refine v_ite ?_ | refine v_tst ?_ | refine v_kT ?_ | refine v_eqi ?_ | refine v_nei ?_ | refine v_eqr ?_ | refine v_ner ?_ | refine v_eqr0 ?_ | refine v_ner0 ?_ | refine v_eql ?_ | refine v_nel ?_ | refine v_eql0 ?_ | refine v_nel0 ?_ | refine v_isN ?_ | refine v_notN ?_
  | (apply v_bor; · with_unfolding_all exact rfl) | (apply v_own; · with_unfolding_all exact rfl) | refine v_tup ?_ | refine v_lst ?_ | (refine v_sz ?_ ?_; (· with_unfolding_all exact Nat.le_of_ble_eq_true rfl)) | (refine v_gIIz ?_ ?_; (· first | decide | omega))
  | refine v_lentz ?_ | refine v_lenlz ?_ | refine v_lent ?_ | refine v_lenl ?_ | refine v_I1 ?_ | refine v_I2 ?_ | refine v_int ?_ | refine v_seqlz ?_ | refine v_seqtz ?_ | refine v_sl ?_ | refine v_kSll ?_ | refine v_kSlt ?_ | refine v_ono ?_ | refine v_oso ?_ | refine v_kOS ?_
  | refine v_val ?_ | refine v_kVb ?_ | refine v_kVi ?_ | refine v_kVt ?_ | refine v_kVl ?_ | refine v_and ?_ | refine v_or ?_ | refine v_not ?_ | refine v_yes ?_ | refine v_if' ?_ | refine v_isi ?_ | refine v_kIii ?_ | refine v_kIib ?_ | refine v_kItt ?_
  | refine v_andV ?_ | refine v_orV ?_ | refine v_notV ?_ | refine v_kNV ?_ | refine v_neg ?_ | refine v_kNeg ?_ | refine v_seq ?_ | refine v_kSeql ?_ | refine v_kSeqt ?_ | refine v_rng1 ?_ | refine v_rng2 ?_ | refine v_enum ?_ | refine v_revr ?_ | refine v_rev ?_
  | (refine v_kR1 ?_ ?_ ?_; (· decide); (· decide))
  | (refine v_kR2 ?_ ?_ ?_ ?_ ?_; (· decide); (· decide); (· decide); (· decide))
  | refine v_gn ?_ | refine v_gt2 ?_ | refine v_gt3 ?_ | refine v_lc ?_ | refine v_for ?_ | refine v_setO ?_ | refine v_drop ?_ | (apply v_app; · with_unfolding_all exact rfl) | (apply v_setI; · with_unfolding_all exact rfl) | (apply v_rel; · with_unfolding_all exact rfl) | refine v_raise ?_ | refine v_par ?_ | refine v_kP ?_ | refine v_asg ?_
  | (apply v_aug; · with_unfolding_all exact rfl) | refine v_ifT ?_ | refine v_ifF ?_ | (refine v_pow ?_ ?_ ?_ ?_; (· decide); (· decide); (· decide)) | refine v_call0 ?_ | (apply v_lenr; · assumption) | (apply v_seqr; · assumption) | (apply v_kSeqr; · assumption) | (apply v_kSlr; · assumption))
def b__law_mixed {M : Type} : DS M :=
    (dThen (dSet 2 (dBin gAdd (dBin gAdd (dBin (gII Nz fun i j => .int (i.fmod j)) (dBin gMul (dBin gMul (dVar 0) (dBin gAdd (dC (.int 1)) (dBin gMul (dC (.int 2)) (dVar 1)))) (dC (.int 48271))) (dC (.int 2147483647))) (dBin gMul (dBin gMul (dC (.int 7919)) (dVar 1)) (dVar 1))) (dBin gMul (dC (.int 104729)) (dVar 1))))
    (dRet (dBin (gII Nd fun i j => .int (i.fdiv j)) (dBin (gII Nz fun i j => .int (i.fmod j)) (dBin gMul (dVar 2) (dC (.int 69621))) (dC (.int 2147483629))) (dC (.int 7)))))

theorem vc__law_mixed {M : Type} : ∀ ds (m : M) Q Z, s__law_mixed ds m Q Z → okK [false, false] ds ∧ b__law_mixed { nx := fun _ m' => Q .non m', rt := Q, ex := Z } (st0 [false, false] ds 3) m := by
  rintro ds m Q Z ⟨c, k, rfl, hc, k0, k1, q⟩
  refine ⟨⟨fun _ => rfl, fun _ => rfl, trivial⟩, ?_⟩
  have bc : bd 70 c := hc
  have bk : bd 62 k := by unfold bd; omega
  unfold b__law_mixed
  repeat walk_at "s"
  refine v_mul (mulok (bd_lit (n := 2) (by decide)) bk) ?_
  repeat walk_at "s"
  have b1 : bd 64 (1 + 2 * k) := by unfold bd; omega
  refine v_mul (mulok bc b1) ?_
  repeat walk_at "s"
  refine v_mul (mulok (bd_mul bc b1) (bd_lit (n := 16) (by decide))) ?_
  repeat walk_at "s"
  refine v_mul (mulok (bd_lit (n := 13) (by decide)) bk) ?_
  repeat walk_at "s"
  refine v_mul (mulok (bd_mul (bd_lit (n := 13) (by decide)) bk) bk) ?_
  repeat walk_at "s"
  refine v_mul (mulok (bd_lit (n := 17) (by decide)) bk) ?_
  repeat walk_at "s"
  have b2 : bd 31 ((c * (1 + 2 * k) * 48271).fmod 2147483647) := bd_fmod (bd_lit (by decide)) (by decide)
  have b3 := bd_add (bd_add b2 (bd_mul (bd_mul (bd_lit (n := 13) (x := 7919) (by decide)) bk) bk)) (bd_mul (bd_lit (n := 17) (x := 104729) (by decide)) bk)
  refine v_mul (mulok b3 (bd_lit (n := 17) (by decide))) ?_
  repeat walk_at "s"
  refine v_gII (nd_small (b := 8) (by decide) (bd_lit (by decide))) ?_
  have h0 := Int.fmod_nonneg_of_pos (((c * (1 + 2 * k) * 48271).fmod 2147483647 + 7919 * k * k + 104729 * k) * 69621) (show (0 : Int) < 2147483629 by decide)
  have h1 := Int.fmod_lt_of_pos (((c * (1 + 2 * k) * 48271).fmod 2147483647 + 7919 * k * k + 104729 * k) * 69621) (show (0 : Int) < 2147483629 by decide)
  refine q _ ?_ ?_
  · rw [fdiv_pos (by decide)]; omega
  · rw [fdiv_pos (by decide)]; omega
def b__law_folded {M : Type} : DS M :=
    (dThen (dSetO 1 (dLc (dRng1 (dCons (dC (.int 64)) dNil)) (dgN 2) dYes (dBin gAdd (dC (.int 17)) (dVar 2)) [2]))
    (dThen (dFor (dEnum true (dBor 0)) (dgT 2 (dgCons (dgN 2) (dgCons (dgN 3) dgNil)))
      (dSetI 1 (dBin (gII Nz fun i j => .int (i.fmod j)) (dBin gAdd (dBin gMul (dBin (gIx true) (dOwn 1) (dBin (gII Nz fun i j => .int (i.fmod j)) (dVar 2) (dC (.int 64)))) (dC (.int 48271))) (dVar 3)) (dC (.int 2147483647))) (dBin (gII Nz fun i j => .int (i.fmod j)) (dVar 2) (dC (.int 64)))))
    (dThen (dFor (dRng2 (dCons (dC (.int 1)) (dCons (dC (.int 64)) dNil))) (dgN 2)
      (dSetI 1 (dBin (gII Nz fun i j => .int (i.fmod j)) (dBin gAdd (dBin (gIx true) (dOwn 1) (dVar 2)) (dBin gMul (dBin (gIx true) (dOwn 1) (dBin (g0 fun i j => .int (i - j)) (dVar 2) (dC (.int 1)))) (dC (.int 16807)))) (dC (.int 2147483647))) (dVar 2)))
    (dRet (dOwn 1)))))

theorem fold_set {cs : List Int} {j : Nat} {v : Int} (l : cs.length = 64) (h : ∀ c ∈ cs, 0 ≤ c ∧ c < 2147483647) (h0 : 0 ≤ v) (h1 : v < 2147483647) : (cs.set j v).length = 64 ∧ ∀ c ∈ cs.set j v, 0 ≤ c ∧ c < 2147483647 :=
  ⟨by rw [List.length_set]; exact l, fun c hc => (List.mem_or_eq_of_mem_set hc).elim (h c) fun e => by rw [e]; exact ⟨h0, h1⟩⟩
theorem vc__law_folded {M : Type} : ∀ ds (m : M) Q Z, s__law_folded ds m Q Z → okK [true] ds ∧ b__law_folded { nx := fun _ m' => Q .non m', rt := Q, ex := Z } (st0 [true] ds 4) m := by
  rintro ds m Q Z ⟨ns, rfl, hl, q⟩
  refine ⟨⟨fun h => (nomatch h), trivial⟩, ?_⟩
  unfold b__law_folded
  repeat walk_at "s"
  refine lc_rz (f := fun j => 17 + (j : Int)) 64 (fun a _ m1 k l hk => ?_) (by decide) ?_
  · repeat walk_at "s"
    exact hk
  have c0 : ∀ c ∈ (List.range 64).map (fun j : Nat => 17 + (j : Int)), 0 ≤ c ∧ c < 2147483647 := fun c hc => by
    obtain ⟨j, hj, rfl⟩ := List.mem_map.mp hc
    have := List.mem_range.mp hj
    omega
  have l0 : ((List.range 64).map (fun j : Nat => 17 + (j : Int))).length = 64 := by rw [List.length_map, List.length_range]
  generalize (List.range 64).map (fun j : Nat => 17 + (j : Int)) = cs at c0 l0 ⊢
  refine v_kO (nls_ints cs) ?_
  repeat walk_at "s"
  refine v_kforE (fun j r ρ m' => ∃ a2 a3 cs, ρ = [.bor (.lst (zz ns)), .own (zz cs), a2, a3] ∧ m' = m ∧ cs.length = 64 ∧ ∀ c ∈ cs, 0 ≤ c ∧ c < 2147483647) ns ⟨_, _, _, rfl, rfl, l0, c0⟩ (fun j ρ m' h => ?_) fun j x r ρ m' N h hN => ?_
  · obtain ⟨a2, a3, cs, rfl, rfl, lc, hc⟩ := h
    repeat walk_at "s"
    refine v_kforR 63 (fun k ρ m1 => ∃ a2 a3 cs, ρ = [.bor (.lst (zz ns)), .own (zz cs), a2, a3] ∧ m1 = m' ∧ cs.length = 64 ∧ ∀ c ∈ cs, 0 ≤ c ∧ c < 2147483647) ⟨_, _, _, rfl, rfl, lc, hc⟩ (fun ρ m' h => ?_) fun k ρ m' hk h => ?_
    · obtain ⟨a2, a3, cs, rfl, rfl, lc, hc⟩ := h
      repeat walk_at "s"
      exact q cs lc hc
    obtain ⟨a2, a3, cs, rfl, rfl, lc, hc⟩ := h
    repeat walk_at "s"
    refine v_ixl (by omega) (by omega) ?_
    obtain ⟨y0, y1⟩ := hc _ (nth_mem (xs := cs) (i := 1 + (k : Int)) (by omega) (by omega))
    generalize nth cs (1 + (k : Int)) = y at y0 y1 ⊢
    repeat walk_at "s"
    refine v_ixl (by omega) (by omega) ?_
    obtain ⟨z0, z1⟩ := hc _ (nth_mem (xs := cs) (i := 1 + (k : Int) - 1) (by omega) (by omega))
    generalize nth cs (1 + (k : Int) - 1) = z at z0 z1 ⊢
    have bz : bd 31 z := by unfold bd; omega
    repeat walk_at "s"
    refine v_mul (mulok bz (bd_lit (n := 15) (by decide))) ?_
    repeat walk_at "s"
    have v0 := Int.fmod_nonneg_of_pos (y + z * 16807) (show (0 : Int) < 2147483647 by decide)
    have v1 := Int.fmod_lt_of_pos (y + z * 16807) (show (0 : Int) < 2147483647 by decide)
    refine v_kSIz (by omega) (by omega) ?_
    obtain ⟨p1, p2⟩ := fold_set (j := (1 + (k : Int)).toNat) lc hc v0 v1
    exact ⟨_, _, _, rfl, rfl, p1, p2⟩
  · obtain ⟨a2, a3, cs, rfl, rfl, lc, hc⟩ := h
    have k0 := Int.fmod_nonneg_of_pos (j : Int) (show (0 : Int) < 64 by decide)
    have k1 := Int.fmod_lt_of_pos (j : Int) (show (0 : Int) < 64 by decide)
    repeat walk_at "s"
    refine v_ixl k0 (by omega) ?_
    obtain ⟨z0, z1⟩ := hc _ (nth_mem (xs := cs) k0 (by omega))
    generalize nth cs ((j : Int).fmod 64) = z at z0 z1 ⊢
    have bz : bd 31 z := by unfold bd; omega
    repeat walk_at "s"
    refine v_mul (mulok bz (bd_lit (n := 16) (by decide))) ?_
    repeat walk_at "s"
    have v0 := Int.fmod_nonneg_of_pos (z * 48271 + x) (show (0 : Int) < 2147483647 by decide)
    have v1 := Int.fmod_lt_of_pos (z * 48271 + x) (show (0 : Int) < 2147483647 by decide)
    refine v_kSIz k0 (by omega) ?_
    obtain ⟨p1, p2⟩ := fold_set (j := ((j : Int).fmod 64).toNat) lc hc v0 v1
    exact hN _ _ ⟨_, _, _, rfl, rfl, p1, p2⟩
end RR

namespace RR
open PySem PySem.Spec PyProof.Rows L2
def topS (i : Nat) : Stmt := PySem.Challenge.pw_rootring_k29_balanced_rows.main.body.getD i (.Pass ⟨0, 0, 0, 0⟩)
end RR
namespace RR
open PySem PySem.Spec PyProof.Rows L2
local macro_rules | `(tactic| walk_at "bd") => `(tactic| first | assumption | exact bd_lit (by decide) | (with_reducible refine bd_mul ?_ ?_ <;> walk_at "bd") | (with_reducible refine bd_add ?_ ?_ <;> walk_at "bd") | (with_reducible refine bd_sub ?_ ?_ <;> walk_at "bd") | (with_reducible refine bd_neg ?_ <;> walk_at "bd"))
local macro_rules | `(tactic| walk_at "s") => `(tactic| with_reducible first
  | refine v_then ?_ | refine v_set ?_ | (apply v_var; · with_unfolding_all exact rfl) | refine v_bin ?_ | refine v_c ?_ | refine v_g0 ?_ | refine v_add ?_ | refine v_cons ?_ | refine v_nil ?_ | refine v_call ?_ | refine v_dB ?_ | refine v_next ?_ | refine v_ret ?_
  | refine v_ite ?_ | refine v_tst ?_ | refine v_kT ?_ | refine v_eqi ?_ | refine v_nei ?_ | refine v_eqr ?_ | refine v_ner ?_ | refine v_eqr0 ?_ | refine v_ner0 ?_ | refine v_eql ?_ | refine v_nel ?_ | refine v_eql0 ?_ | refine v_nel0 ?_ | refine v_isN ?_ | refine v_notN ?_
  | (apply v_bor; · with_unfolding_all exact rfl) | (apply v_own; · with_unfolding_all exact rfl) | refine v_tup ?_ | refine v_lst ?_ | (refine v_sz ?_ ?_; (· with_unfolding_all exact Nat.le_of_ble_eq_true rfl)) | (refine v_gIIz ?_ ?_; (· first | decide | omega))
  | refine v_lentz ?_ | refine v_lenlz ?_ | refine v_lent ?_ | refine v_lenl ?_ | refine v_I1 ?_ | refine v_I2 ?_ | refine v_int ?_ | refine v_seqlz ?_ | refine v_seqtz ?_ | refine v_sl ?_ | refine v_kSll ?_ | refine v_kSlt ?_ | refine v_ono ?_ | refine v_oso ?_ | refine v_kOS ?_
  | refine v_val ?_ | refine v_kVb ?_ | refine v_kVi ?_ | refine v_kVt ?_ | refine v_kVl ?_ | refine v_and ?_ | refine v_or ?_ | refine v_not ?_ | refine v_yes ?_ | refine v_if' ?_ | refine v_isi ?_ | refine v_kIii ?_ | refine v_kIib ?_ | refine v_kItt ?_
  | refine v_andV ?_ | refine v_orV ?_ | refine v_notV ?_ | refine v_kNV ?_ | refine v_neg ?_ | refine v_kNeg ?_ | refine v_seq ?_ | refine v_kSeql ?_ | refine v_kSeqt ?_ | refine v_rng1 ?_ | refine v_rng2 ?_ | refine v_enum ?_ | refine v_revr ?_ | refine v_rev ?_
  | (refine v_kR1 ?_ ?_ ?_; (· decide); (· decide))
  | (refine v_kR2 ?_ ?_ ?_ ?_ ?_; (· decide); (· decide); (· decide); (· decide))
  | refine v_gn ?_ | refine v_gt2 ?_ | refine v_gt3 ?_ | refine v_lc ?_ | refine v_for ?_ | refine v_setO ?_ | refine v_drop ?_ | (apply v_app; · with_unfolding_all exact rfl) | (apply v_setI; · with_unfolding_all exact rfl) | (apply v_rel; · with_unfolding_all exact rfl) | refine v_raise ?_ | refine v_par ?_ | refine v_kP ?_ | refine v_asg ?_
  | (apply v_aug; · with_unfolding_all exact rfl) | refine v_ifT ?_ | refine v_ifF ?_ | (refine v_pow ?_ ?_ ?_ ?_; (· decide); (· decide); (· decide)) | refine v_call0 ?_ | (apply v_lenr; · assumption) | (apply v_seqr; · assumption) | (apply v_kSeqr; · assumption) | (apply v_kSlr; · assumption))
def s_cut {M : Type} : DSp M := fun ds m Q Z => ∃ d xs, ds = [d] ∧ isRow d xs ∧ xs.length ≤ 100000 ∧ Q (.tup (zz (strip xs))) m
def b_cut {M : Type} : DS M :=
    (dThen (dSet 1 (dB gLen (dCons (dBor 0) dNil)))
    (dThen (dWhile (dAnd (dTst (dBin gGt (dVar 1) (dC (.int 0)))) (dTst (dBin gEq (dBin (gIx true) (dBor 0) (dBin (g0 fun i j => .int (i - j)) (dVar 1) (dC (.int 1)))) (dC (.int 0)))))
      (dSet 1 (dBin (g0 fun i j => .int (i - j)) (dVar 1) (dC (.int 1)))))
    (dRet (dB (gSeq .tup) (dCons (dSl (dBor 0) dONone (dOSome (dVar 1))) dNil)))))
theorem vc_cut {M : Type} : ∀ ds (m : M) Q Z, s_cut ds m Q Z → okK [true] ds ∧ b_cut { nx := fun _ m' => Q .non m', rt := Q, ex := Z } (st0 [true] ds 2) m := by
  rintro ds m Q Z ⟨d, xs, rfl, hd, hl, q⟩
  refine ⟨⟨fun h => (nomatch h), trivial⟩, ?_⟩
  unfold b_cut
  repeat walk_at "s"
  refine v_while (fun n ρ m' => m' = m ∧ ρ = [.bor d, .val (.int n)] ∧ n ≤ xs.length ∧ strip (xs.take n) = strip xs) xs.length ⟨rfl, rfl, Nat.le_refl _, by rw [List.take_length]⟩ fun n ρ m' h => ?_
  obtain ⟨rfl, rfl, hn, hs⟩ := h
  repeat walk_at "s"
  refine v_ifd (fun h => ?_) fun h => ?_
  · repeat walk_at "s"
    refine v_ixr hd (by omega) (by omega) ?_
    repeat walk_at "s"
    obtain ⟨k, rfl⟩ : ∃ k, n = k + 1 := ⟨n - 1, by omega⟩
    have e : ((k + 1 : Nat) : Int) - 1 = k := by omega
    rw [e, nth_get (by omega)]
    refine v_ifd (fun z => ?_) fun z => ?_
    · repeat walk_at "s"
      exact ⟨k, by omega, rfl, by rw [e]; rfl, by omega, by rw [← strip_step (by omega) z]; exact hs⟩
    · repeat walk_at "s"
      intro d' hd'
      rw [cutZ_to (by omega)] at hd'
      repeat walk_at "s"
      rw [Int.toNat_natCast, ← strip_stop (by omega) z, hs]
      exact q
  · repeat walk_at "s"
    intro d' hd'
    rw [cutZ_to (by omega)] at hd'
    repeat walk_at "s"
    have e : n = 0 := by omega
    subst e
    rw [← hs] at q
    exact q
def b_balanced {M : Type} : DS M :=
    (dThen (dSet 2 (dLc (dSeq false (dVar 0)) (dgN 3) dYes (dBin (gII Nz fun i j => .int (i.fmod j)) (dVar 3) (dVar 1)) [3]))
    (dRet (dCall s_cut [] (dCons (dLc (dSeq false (dVar 2)) (dgN 3) dYes (dIf (dTst (dBin gGt (dBin gMul (dC (.int 2)) (dVar 3)) (dVar 1))) (dBin (g0 fun i j => .int (i - j)) (dVar 3) (dVar 1)) (dVar 3)) [3]) dNil))))

def s_balanced {M : Type} : DSp M := fun ds m Q Z => ∃ xs by_, ds = [.tup (zz xs), .int by_] ∧ xs.length ≤ 100000 ∧ 0 < by_ ∧ bd 8000 by_ ∧ Q (.tup (zz (strip (xs.map fun x => near x by_)))) m
theorem vc_balanced {M : Type} : ∀ ds (m : M) Q Z, s_balanced ds m Q Z → okK [false, false] ds ∧ b_balanced { nx := fun _ m' => Q .non m', rt := Q, ex := Z } (st0 [false, false] ds 4) m := by
  rintro ds m Q Z ⟨xs, p, rfl, hl, h0, hb, q⟩
  refine ⟨⟨fun _ => nl_row xs, fun _ => rfl, trivial⟩, ?_⟩
  unfold b_balanced
  repeat walk_at "s"
  refine lc_zz (f := fun x => x.fmod p) xs (fun a ha m1 k l hk => ?_) (by omega) ?_
  · repeat walk_at "s"
    exact hk
  repeat walk_at "s"
  refine lc_zz (f := fun r => if p < 2 * r then r - p else r) (xs.map fun x => x.fmod p) (fun a ha m1 k l hk => ?_) (by rw [List.length_map]; omega) ?_
  · repeat walk_at "s"
    have ba : bd 8000 a := by
      obtain ⟨x, _, rfl⟩ := List.mem_map.mp ha
      exact bd_fmod hb h0
    refine v_mul (mulok (bd_lit (n := 2) (by decide)) ba) ?_
    repeat walk_at "s"
    refine v_ifd (fun h => ?_) fun h => ?_
    · repeat walk_at "s"
      rw [if_pos h] at hk
      exact hk
    · repeat walk_at "s"
      rw [if_neg h] at hk
      exact hk
  repeat walk_at "s"
  refine ⟨_, _, rfl, isRow_l, by rw [List.length_map, List.length_map]; exact hl, ?_⟩
  rw [List.map_map]
  exact q
def b__law_near {M : Type} : DS M :=
    (dThen (dSet 2 (dBin (gII Nz fun i j => .int (i.fmod j)) (dVar 0) (dVar 1)))
    (dThen (dSet 3 (dBin (g0 fun i j => .int (i - j)) (dVar 2) (dVar 1)))
    (dRet (dIf (dTst (dBin gLe (dVar 2) (dBin (g0 fun i j => .int (i - j)) (dC (.int 0)) (dVar 3)))) (dVar 2) (dVar 3)))))

def s__law_near {M : Type} : DSp M := fun ds m Q Z => ∃ x by_, ds = [.int x, .int by_] ∧ 0 < by_ ∧ Q (.int (near x by_)) m
theorem vc__law_near {M : Type} : ∀ ds (m : M) Q Z, s__law_near ds m Q Z → okK [false, false] ds ∧ b__law_near { nx := fun _ m' => Q .non m', rt := Q, ex := Z } (st0 [false, false] ds 4) m := by
  rintro ds m Q Z ⟨x, p, rfl, h0, q⟩
  refine ⟨⟨fun _ => rfl, fun _ => rfl, trivial⟩, ?_⟩
  unfold b__law_near
  repeat walk_at "s"
  unfold near at q
  refine v_ifd (fun h => ?_) fun h => ?_
  · repeat walk_at "s"
    rw [if_neg (by omega)] at q
    exact q
  · repeat walk_at "s"
    rw [if_pos (by omega)] at q
    exact q
def b__law_is {M : Type} : DS M :=
    (dThen (dIte (dOr (dNot (dVal (dIsi "tuple" (dVar 0)))) (dTst (dBin gNe (dVar 0) (dVar 1))))
      (dRet (dC (.bl false)))
      dNext)
    (dRet (dBin gEq (dLc (dSeq false (dVar 0)) (dgN 2) (dOr (dVal (dIsi "bool" (dVar 2))) (dNot (dVal (dIsi "int" (dVar 2))))) (dVar 2) [2]) (dLst dNil))))

def s__law_is {M : Type} : DSp M := fun ds m Q Z => ∃ xs ys, ds = [.tup (zz xs), .tup (zz ys)] ∧ xs.length ≤ 100000 ∧ Q (.bl (decide (xs = ys))) m
theorem vc__law_is {M : Type} : ∀ ds (m : M) Q Z, s__law_is ds m Q Z → okK [false, false] ds ∧ b__law_is { nx := fun _ m' => Q .non m', rt := Q, ex := Z } (st0 [false, false] ds 3) m := by
  rintro ds m Q Z ⟨xs, ys, rfl, hl, q⟩
  refine ⟨⟨fun _ => nl_row xs, fun _ => nl_row ys, trivial⟩, ?_⟩
  unfold b__law_is
  repeat walk_at "s"
  refine v_ifF ?_
  repeat walk_at "s"
  refine v_ifn (fun h => ?_) fun h => ?_
  · repeat walk_at "s"
    rw [decide_eq_false h] at q
    exact q
  · repeat walk_at "s"
    refine lc_none (inj := D.int) xs (fun a ha m1 k l hk => ?_) (by omega) ?_
    · repeat walk_at "s"
      exact hk
    · repeat walk_at "s"
      refine v_eql (xs := []) (ys := []) ?_
      rw [decide_eq_true h] at q
      exact q
def b__law_whole : DS (Option Nat) :=
    (dThen (dSet 1 (dBin (gIx false) (dLst (dCons (dC (.int 1)) (dCons (dC (.int 7)) (dCons (dC (.int 7)) (dCons (dC (.int 30)) (dCons (dC (.int 5000)) (dCons (dBin (gII CPow fun i j => .int (i ^ j.toNat)) (dC (.int 10)) (dC (.int 12))) (dCons (dBin (gII CPow fun i j => .int (i ^ j.toNat)) (dC (.int 10)) (dC (.int 60))) dNil)))))))) (dCall s__law_draw [] (dCons (dVar 0) (dCons (dC (.int 7)) dNil)))))
    (dRet (dBin (g0 fun i j => .int (i - j)) (dCall s__law_draw [] (dCons (dVar 0) (dCons (dBin gAdd (dBin gMul (dC (.int 2)) (dVar 1)) (dC (.int 1))) dNil))) (dVar 1))))

def s__law_whole : DSp (Option Nat) := fun ds m Q Z => ∃ N, ds = [.hnd 0] ∧ m = some (N + 2) ∧ ∀ x : Int, bd 201 x → Q (.int x) (some N)
theorem vc__law_whole : ∀ ds (m : Option Nat) Q Z, s__law_whole ds m Q Z → okK [false] ds ∧ b__law_whole { nx := fun _ m' => Q .non m', rt := Q, ex := Z } (st0 [false] ds 2) m := by
  rintro ds m Q Z ⟨N, rfl, rfl, q⟩
  refine ⟨⟨fun _ => rfl, trivial⟩, ?_⟩
  unfold b__law_whole
  repeat walk_at "s"
  refine v_draw (by decide) (by decide) fun x h0 h1 => ?_
  refine v_ixl (xs := [1, 7, 7, 30, 5000, 10 ^ (12 : Int).toNat, 10 ^ (60 : Int).toNat]) h0 h1 ?_
  have hm : ∀ s ∈ [1, 7, 7, 30, 5000, 10 ^ (12 : Int).toNat, 10 ^ (60 : Int).toNat], (1 : Int) ≤ s ∧ s ≤ 10 ^ 60 := by decide
  obtain ⟨s1, s2⟩ := hm _ (nth_mem h0 h1)
  have sb : bd 200 (nth [1, 7, 7, 30, 5000, 10 ^ (12 : Int).toNat, 10 ^ (60 : Int).toNat] x) := by
    have : (10 : Int) ^ 60 < 2 ^ 200 := by decide
    unfold bd; omega
  generalize nth [1, 7, 7, 30, 5000, 10 ^ (12 : Int).toNat, 10 ^ (60 : Int).toNat] x = s at s1 s2 sb ⊢
  repeat walk_at "s"
  refine v_mul (mulok (bd_lit (n := 2) (by decide)) sb) ?_
  repeat walk_at "s"
  refine v_draw (by omega) (by unfold bd at sb; omega) fun y h2 h3 => ?_
  repeat walk_at "s"
  refine q _ ?_
  unfold bd at sb ⊢; omega
def b__law_cut {M : Type} : DS M :=
    (dThen (dSet 1 (dB gLen (dCons (dBor 0) dNil)))
    (dThen (dWhile (dAnd (dTst (dBin gGt (dVar 1) (dC (.int 0)))) (dTst (dBin gEq (dBin (gIx true) (dBor 0) (dBin (g0 fun i j => .int (i - j)) (dVar 1) (dC (.int 1)))) (dC (.int 0)))))
      (dSet 1 (dBin (g0 fun i j => .int (i - j)) (dVar 1) (dC (.int 1)))))
    (dRet (dB (gSeq .tup) (dCons (dSl (dBor 0) dONone (dOSome (dVar 1))) dNil)))))

def s__law_cut {M : Type} : DSp M := s_cut
theorem vc__law_cut {M : Type} : ∀ ds (m : M) Q Z, s__law_cut ds m Q Z → okK [true] ds ∧ b__law_cut { nx := fun _ m' => Q .non m', rt := Q, ex := Z } (st0 [true] ds 2) m := vc_cut
def b_law : DS (Option Nat) :=
    (dThen (dSet 1 (dCall s__law_begun [] (dCons (dBor 0) dNil)))
    (dThen (dFor (dRng1 (dCons (dC (.int 20)) dNil)) (dgN 2)
      (dThen (dSet 3 (dCall s__law_cut [] (dCons (dLc (dRng1 (dCons (dCall s__law_draw [] (dCons (dVar 1) (dCons (dC (.int 12)) dNil))) dNil)) (dgN 8) dYes (dCall s__law_whole [] (dCons (dVar 1) dNil)) [8]) dNil)))
    (dThen (dSet 4 (dBin (gIx false) (dLst (dCons (dC (.int 1)) (dCons (dC (.int 2)) (dCons (dBin gAdd (dC (.int 1)) (dCall s__law_draw [] (dCons (dVar 1) (dCons (dC (.int 12)) dNil)))) (dCons (dBin gAdd (dC (.int 1)) (dCall s__law_draw [] (dCons (dVar 1) (dCons (dBin (gII CPow fun i j => .int (i ^ j.toNat)) (dC (.int 10)) (dC (.int 30))) dNil)))) (dCons (dBin gAdd (dC (.int 1)) (dB (gI1 iabs) (dCons (dCall s__law_whole [] (dCons (dVar 1) dNil)) dNil))) dNil)))))) (dCall s__law_draw [] (dCons (dVar 1) (dCons (dC (.int 5)) dNil)))))
    (dThen (dIte (dAnd (dTst (dBin gNe (dVar 3) (dTup dNil))) (dTst (dBin gEq (dCall s__law_draw [] (dCons (dVar 1) (dCons (dC (.int 3)) dNil))) (dC (.int 1)))))
      (dSet 4 (dB (gI2 imax) (dCons (dC (.int 1)) (dCons (dBin gMul (dC (.int 2)) (dB (gI1 iabs) (dCons (dBin (gIx false) (dVar 3) (dCall s__law_draw [] (dCons (dVar 1) (dCons (dB gLen (dCons (dVar 3) dNil)) dNil)))) dNil))) dNil))))
      dNext)
    (dThen (dSet 5 (dCall s__law_cut [] (dCons (dLc (dSeq false (dVar 3)) (dgN 9) dYes (dCall s__law_near [] (dCons (dVar 9) (dCons (dVar 4) dNil))) [9]) dNil)))
    (dFor (dRng1 (dCons (dC (.int 2)) dNil)) (dgN 6)
      (dThen (dSet 7 (dCall s_balanced [] (dCons (dVar 3) (dCons (dVar 4) dNil))))
    (dIte (dOr (dNot (dVal (dCall s__law_is [] (dCons (dVar 7) (dCons (dVar 5) dNil))))) (dTst (dBin gNe (dCall s_balanced [] (dCons (dVar 7) (dCons (dVar 4) dNil))) (dVar 5))))
      (dRet (dC (.bl false)))
      dNext))))))))
    (dRet (dC (.bl true)))))

theorem vc_law : ∀ ds (m : Option Nat) Q Z, s_law ds m Q Z → okK [true] ds ∧ b_law { nx := fun _ m' => Q .non m', rt := Q, ex := Z } (st0 [true] ds 10) m := by
  rintro ds m Q Z ⟨ns, rfl, hl, rfl, q⟩
  refine ⟨⟨fun h => (nomatch h), trivial⟩, ?_⟩
  unfold b_law
  repeat walk_at "s"
  refine ⟨ns, rfl, hl, rfl, ?_⟩
  repeat walk_at "s"
  refine v_kforR 20 (fun k ρ m => ∃ a2 a3 a4 a5 a6 a7 a8 a9 N, ρ = [.bor (.lst (zz ns)), .val (.hnd 0), a2, a3, a4, a5, a6, a7, a8, a9] ∧ m = some N ∧ 2 ^ 50 ≤ N + 100 * k) ⟨_, _, _, _, _, _, _, _, 2 ^ 50, rfl, rfl, by decide⟩ (fun ρ m h => ?_) fun k ρ m hk h => ?_
  · obtain ⟨a2, a3, a4, a5, a6, a7, a8, a9, N, rfl, rfl, hN⟩ := h
    repeat walk_at "s"
    exact q _
  obtain ⟨a2, a3, a4, a5, a6, a7, a8, a9, N, rfl, rfl, hN⟩ := h
  obtain ⟨N, rfl⟩ : ∃ B, N = B + 100 := ⟨N - 100, by omega⟩
  repeat walk_at "s"
  refine v_draw (by decide) (by decide) fun x h0 h1 => ?_
  repeat walk_at "s"
  refine v_kR1 (by omega) (by omega) ?_
  refine lc_rany (P := bd 201) (S := fun j m => m = some (N + 99 - 2 * x.toNat + 2 * j)) x.toNat (fun j d m k l s hk => ?_) (by omega) (congrArg some (by omega)) fun xs m1 lx px s1 => ?_
  · subst s
    repeat walk_at "s"
    exact ⟨_, rfl, rfl, fun y hy => hk y _ hy rfl⟩
  subst s1
  repeat walk_at "s"
  refine ⟨_, xs, rfl, isRow_l, by omega, ?_⟩
  have pr : ∀ z ∈ strip xs, bd 201 z := fun z hz => px z (strip_mem hz)
  have lr := strip_len xs
  generalize strip xs = row at pr lr ⊢
  obtain ⟨N1, hN1, hN1'⟩ : ∃ N1, N + 99 - 2 * x.toNat + 2 * 0 = N1 + 7 ∧ N ≤ N1 := ⟨N + 99 - 2 * x.toNat - 7, by omega, by omega⟩
  rw [hN1]
  repeat walk_at "s"
  refine v_draw (by decide) (by decide) fun a ha0 ha1 => ?_
  repeat walk_at "s"
  refine v_draw (by decide) (by decide) fun b hb0 hb1 => ?_
  repeat walk_at "s"
  refine ⟨_, rfl, rfl, fun c hc => ?_⟩
  repeat walk_at "s"
  refine v_draw (by decide) (by decide) fun e he0 he1 => ?_
  have hc' : iabs c < 2 ^ 201 ∧ 0 ≤ iabs c := by rw [iabs_eq]; unfold bd at hc; omega
  have pl : ∀ z ∈ [1, 2, 1 + a, 1 + b, 1 + iabs c], 0 < z ∧ bd 250 z := by
    have : (10 : Int) ^ (30 : Int).toNat < 2 ^ 201 := by decide
    intro z hz
    simp only [List.mem_cons, List.not_mem_nil, or_false] at hz
    unfold bd
    rcases hz with rfl | rfl | rfl | rfl | rfl <;> omega
  refine v_ixl (xs := [1, 2, 1 + a, 1 + b, 1 + iabs c]) he0 he1 ?_
  obtain ⟨p0, pb⟩ := pl _ (nth_mem (xs := [1, 2, 1 + a, 1 + b, 1 + iabs c]) he0 he1)
  generalize nth [1, 2, 1 + a, 1 + b, 1 + iabs c] e = p at p0 pb ⊢
  walk_at "s"
  refine v_join (fun ρ m => ∃ a2 a5 a6 a7 a8 a9 p N', ρ = [.bor (.lst (zz ns)), .val (.hnd 0), a2, .val (.tup (zz row)), .val (.int p), a5, a6, a7, a8, a9] ∧ 0 < p ∧ bd 250 p ∧ m = some N' ∧ N ≤ N') (fun ρ m h => ?_) fun nx' hj => ?_
  · obtain ⟨a2, a5, a6, a7, a8, a9, p, N', rfl, p0, pb, rfl, hN'⟩ := h
    repeat walk_at "s"
    refine lc_zz (f := fun z => near z p) row (fun a ha m1 k l hk => ?_) (by omega) ?_
    · repeat walk_at "s"
      exact ⟨_, _, rfl, p0, hk⟩
    repeat walk_at "s"
    refine ⟨_, _, rfl, isRow_l, by rw [List.length_map]; omega, ?_⟩
    repeat walk_at "s"
    refine v_kforR 2 (fun k ρ m => ∃ a2 a6 a7 a8 a9, ρ = [.bor (.lst (zz ns)), .val (.hnd 0), a2, .val (.tup (zz row)), .val (.int p), .val (.tup (zz (strip (row.map fun z => near z p)))), a6, a7, a8, a9] ∧ m = some N') ⟨_, _, _, _, _, rfl, rfl⟩ (fun ρ m h => ?_) fun k ρ m hk h => ?_
    · obtain ⟨a2, a6, a7, a8, a9, rfl, rfl⟩ := h
      exact ⟨_, _, _, _, _, _, _, _, _, rfl, rfl, by omega⟩
    obtain ⟨a2, a6, a7, a8, a9, rfl, rfl⟩ := h
    have l2 := strip_len (row.map fun z => near z p)
    rw [List.length_map] at l2
    repeat walk_at "s"
    refine ⟨_, _, rfl, by omega, p0, bd_mono pb (by decide), ?_⟩
    repeat walk_at "s"
    refine ⟨_, _, rfl, by omega, ?_⟩
    rw [decide_eq_true rfl]
    repeat walk_at "s"
    refine v_ifF ?_
    repeat walk_at "s"
    refine ⟨_, _, rfl, by omega, p0, bd_mono pb (by decide), ?_⟩
    have e1 : strip ((strip (row.map fun z => near z p)).map fun z => near z p) = strip (row.map fun z => near z p) := by
      rw [← strip_map (f := fun z => near z p) (near0 p0), List.map_map]
      congr 1
      exact List.map_congr_left fun z _ => near_idem p0
    rw [e1]
    repeat walk_at "s"
    refine v_ifn (fun h => absurd rfl h) fun _ => ?_
    repeat walk_at "s"
    exact ⟨_, _, _, _, _, rfl, rfl⟩
  · repeat walk_at "s"
    refine v_ifn (fun hne => ?_) fun hne => ?_
    · repeat walk_at "s"
      refine v_draw (by decide) (by decide) fun y _ _ => ?_
      repeat walk_at "s"
      refine v_ifd (fun _ => ?_) fun _ => ?_
      · repeat walk_at "s"
        have l0 : 0 < row.length := List.length_pos_iff.mpr hne
        refine v_draw (by omega) (by omega) fun i hi0 hi1 => ?_
        refine v_ixt hi0 hi1 ?_
        have hz := pr _ (nth_mem hi0 hi1)
        generalize nth row i = z at hz ⊢
        repeat walk_at "s"
        have ha : bd 201 (iabs z) := bd_abs hz
        refine v_mul (mulok (bd_lit (n := 2) (by decide)) ha) ?_
        repeat walk_at "s"
        refine hj _ _ ⟨_, _, _, _, _, _, _, _, rfl, ?_, ?_, rfl, by omega⟩
        · rw [imax_eq]; omega
        · rw [imax_eq]; rw [iabs_eq] at ha ⊢; unfold bd at ha ⊢; omega
      · repeat walk_at "s"
        exact hj _ _ ⟨_, _, _, _, _, _, _, _, rfl, p0, pb, rfl, by omega⟩
    · repeat walk_at "s"
      exact hj _ _ ⟨_, _, _, _, _, _, _, _, rfl, p0, pb, rfl, by omega⟩
end RR

namespace RR
open PySem PySem.Spec PyProof.Rows L2
section
variable {P : Program} {w : World} {K : PySem.W.Frag} {mg : Str → Option Value} {base : Heap} {W : Wd}
abbrev st_cut : Stmt := topS 1
def N_cut : List Str := ["numbers", "many"]
theorem sc_cut : FnScope N_cut ["numbers"] (defScope st_cut) := ⟨rfl, rfl, rfl, by decide +kernel, rfl, by decide +kernel, by decide +kernel⟩
theorem w_cut (m_len : mg "len" = none) (m_tuple : mg "tuple" = none) : BodyJ P w K mg base W 0 N_cut "cut" st_cut b_cut := by
  intro f cdv A outer s H E F0 hr
  have nd : N_cut.Nodup := by decide +kernel
  have tk := takes_of (X := XOf P w K mg base N_cut "cut" (defScope st_cut) f cdv A outer s H E) rfl rfl rfl rfl
  have hp := passes_of (X := XOf P w K mg base N_cut "cut" (defScope st_cut) f cdv A outer s H E) rfl
  exact (jss_cons (js_set 1 nd ((j_callB ca_len m_len (by decide +kernel) (ja_cons ncl_w (j_bor 0) ja_nil))).sf)
    (jss_cons (js_while hp (JW.t (jw_and (jt_cmp ok_gt ((j_var 1)).sw (j_int).fw) (jw_and1 (jt_cmp (ok_eq hr.units) ((j_ixw (j_bor 0) ((j_bin ok_sub ((j_var 1)).sw (j_int).fw)).fw)).sw (j_int).fw))))
      (jss_one (js_set 1 nd ((j_bin ok_sub ((j_var 1)).sw (j_int).fw)).sf)))
    (jss_one (js_ret ((j_callTy ca_tuple m_tuple (by decide +kernel) (ja_cons ncl_w ((j_sl (j_bor 0) jo_none (jo_some ((j_var 1)).sw))).fw ja_nil))).fr))))

abbrev st_balanced : Stmt := topS 3
def N_balanced : List Str := ["row", "m", "found", "number"]
theorem sc_balanced : FnScope N_balanced ["row", "m"] (defScope st_balanced) := ⟨rfl, rfl, rfl, by decide +kernel, rfl, by decide +kernel, by decide +kernel⟩
theorem w_balanced (h_cut : FD P w K mg base W 1 "cut" [] s_cut) : BodyJ P w K mg base W 1 N_balanced "balanced" st_balanced b_balanced := by
  intro f cdv A outer s H E F0 hr
  have nd : N_balanced.Nodup := by decide +kernel
  have tk := takes_of (X := XOf P w K mg base N_balanced "balanced" (defScope st_balanced) f cdv A outer s H E) rfl rfl rfl rfl
  have hp := passes_of (X := XOf P w K mg base N_balanced "balanced" (defScope st_balanced) f cdv A outer s H E) rfl
  exact (jss_cons (js_setLc 2 rfl nd (own := [("number", 3)]) (ws := [3]) (JI.weak (ji_seq (j_var 0))) (blkOk_by (N := N_balanced) (sc := defScope st_balanced) (by decide +kernel)) (fun _ _ _ _ _ => (jg_name 3 nd)) (fun _ _ _ _ _ => jts_nil) (fun _ _ _ _ _ => ((j_bin ok_mod ((j_var 3)).sw ((j_var 1)).sw)).sf) (by decide))
    (jss_one (js_ret ((j_call h_cut (hr.mono (by decide)) tk (by rfl) (ja_cons ncl_w ((j_lc rfl nd (own := [("number", 3)]) (ws := [3]) (JI.weak (ji_seq (j_var 2))) (blkOk_by (N := N_balanced) (sc := defScope st_balanced) (by decide +kernel)) (fun _ _ _ _ _ => (jg_name 3 nd)) (fun _ _ _ _ _ => jts_nil) (fun _ _ _ _ _ => (j_if (jt_cmp ok_gt ((j_bind okd_mul (j_int).fd ((j_var 3)).sd)).fw ((j_var 1)).sw) ((j_bin ok_sub ((j_var 3)).sw ((j_var 1)).sw)).sf (j_var 3))) (by decide))).fw ja_nil))).fr)))

abbrev st__law_mixed : Stmt := topS 5
def N__law_mixed : List Str := ["_law_cell", "_law_k", "_law_number"]
theorem sc__law_mixed : FnScope N__law_mixed ["_law_cell", "_law_k"] (defScope st__law_mixed) := ⟨rfl, rfl, rfl, by decide +kernel, rfl, by decide +kernel, by decide +kernel⟩
theorem w__law_mixed  : BodyJ P w K mg base W 0 N__law_mixed "_law_mixed" st__law_mixed b__law_mixed := by
  intro f cdv A outer s H E F0 hr
  have nd : N__law_mixed.Nodup := by decide +kernel
  have tk := takes_of (X := XOf P w K mg base N__law_mixed "_law_mixed" (defScope st__law_mixed) f cdv A outer s H E) rfl rfl rfl rfl
  have hp := passes_of (X := XOf P w K mg base N__law_mixed "_law_mixed" (defScope st__law_mixed) f cdv A outer s H E) rfl
  exact (jss_cons (js_set 2 nd ((j_bind okd_add ((j_bind okd_add ((j_bin ok_mod ((j_bind okd_mul ((j_bind okd_mul ((j_var 0)).sd ((j_bind okd_add (j_int).fd ((j_bind okd_mul (j_int).fd ((j_var 1)).sd)).fd)).fd)).fd (j_int).fd)).fw (j_int).fw)).fd ((j_bind okd_mul ((j_bind okd_mul (j_int).fd ((j_var 1)).sd)).fd ((j_var 1)).sd)).fd)).fd ((j_bind okd_mul (j_int).fd ((j_var 1)).sd)).fd)).sf)
    (jss_one (js_ret ((j_bin ok_fdiv ((j_bin ok_mod ((j_bind okd_mul ((j_var 2)).sd (j_int).fd)).fw (j_int).fw)).fw (j_int).fw)).fr)))

abbrev st__law_folded : Stmt := topS 6
def N__law_folded : List Str := ["_law_script", "_law_found", "_law_k", "_law_cell"]
theorem sc__law_folded : FnScope N__law_folded ["_law_script"] (defScope st__law_folded) := ⟨rfl, rfl, rfl, by decide +kernel, rfl, by decide +kernel, by decide +kernel⟩
theorem w__law_folded (m_enumerate : mg "enumerate" = none) (m_range : mg "range" = none) : BodyJ P w K mg base W 0 N__law_folded "_law_folded" st__law_folded b__law_folded := by
  intro f cdv A outer s H E F0 hr
  have nd : N__law_folded.Nodup := by decide +kernel
  have tk := takes_of (X := XOf P w K mg base N__law_folded "_law_folded" (defScope st__law_folded) f cdv A outer s H E) rfl rfl rfl rfl
  have hp := passes_of (X := XOf P w K mg base N__law_folded "_law_folded" (defScope st__law_folded) f cdv A outer s H E) rfl
  exact (jss_cons (js_setLcO 1 rfl nd (own := [("_law_k", 2)]) (ws := [2]) (ji_range1 (st := false) m_range (ja_cons ncl_w (j_int).fw ja_nil)) (blkOk_by (N := N__law_folded) (sc := defScope st__law_folded) (by decide +kernel)) (fun _ _ _ _ _ => (jg_name 2 nd)) (fun _ _ _ _ _ => jts_nil) (fun _ _ _ _ _ => ((j_bind okd_add (j_int).fd ((j_var 2)).sd)).sf) (by decide))
    (jss_cons (js_for hp rfl (ji_enumb 0 m_enumerate) (jg_tup rfl (jgs_cons (jg_name 2 nd) (jgs_cons (jg_name 3 nd) jgs_nil)))
      (jss_one (js_seti 1 ((j_bin ok_mod ((j_bind okd_add ((j_bind okd_mul ((j_ixw (j_own 1) ((j_bin ok_mod ((j_var 2)).sw (j_int).fw)).fw)).sd (j_int).fd)).fd ((j_var 3)).sd)).fw (j_int).fw)).sf ((j_bin ok_mod ((j_var 2)).sw (j_int).fw)).fw)))
    (jss_cons (js_for hp rfl (ji_range2 (st := true) m_range (ja_cons ncl_w (j_int).fw (ja_cons ncl_w (j_int).fw ja_nil))) (jg_name 2 nd)
      (jss_one (js_seti 1 ((j_bin ok_mod ((j_bind okd_add ((j_ixw (j_own 1) ((j_var 2)).sw)).sd ((j_bind okd_mul ((j_ixw (j_own 1) ((j_bin ok_sub ((j_var 2)).sw (j_int).fw)).fw)).sd (j_int).fd)).fd)).fw (j_int).fw)).sf ((j_var 2)).sw)))
    (jss_one (js_ret (j_ownr 1))))))

abbrev st__law_cut : Stmt := topS 9
def N__law_cut : List Str := ["_law_numbers", "_law_size"]
theorem sc__law_cut : FnScope N__law_cut ["_law_numbers"] (defScope st__law_cut) := ⟨rfl, rfl, rfl, by decide +kernel, rfl, by decide +kernel, by decide +kernel⟩
theorem w__law_cut (m_len : mg "len" = none) (m_tuple : mg "tuple" = none) : BodyJ P w K mg base W 0 N__law_cut "_law_cut" st__law_cut b__law_cut := by
  intro f cdv A outer s H E F0 hr
  have nd : N__law_cut.Nodup := by decide +kernel
  have tk := takes_of (X := XOf P w K mg base N__law_cut "_law_cut" (defScope st__law_cut) f cdv A outer s H E) rfl rfl rfl rfl
  have hp := passes_of (X := XOf P w K mg base N__law_cut "_law_cut" (defScope st__law_cut) f cdv A outer s H E) rfl
  exact (jss_cons (js_set 1 nd ((j_callB ca_len m_len (by decide +kernel) (ja_cons ncl_w (j_bor 0) ja_nil))).sf)
    (jss_cons (js_while hp (JW.t (jw_and (jt_cmp ok_gt ((j_var 1)).sw (j_int).fw) (jw_and1 (jt_cmp (ok_eq hr.units) ((j_ixw (j_bor 0) ((j_bin ok_sub ((j_var 1)).sw (j_int).fw)).fw)).sw (j_int).fw))))
      (jss_one (js_set 1 nd ((j_bin ok_sub ((j_var 1)).sw (j_int).fw)).sf)))
    (jss_one (js_ret ((j_callTy ca_tuple m_tuple (by decide +kernel) (ja_cons ncl_w ((j_sl (j_bor 0) jo_none (jo_some ((j_var 1)).sw))).fw ja_nil))).fr))))

abbrev st__law_whole : Stmt := topS 10
def N__law_whole : List Str := ["_law_m", "_law_size"]
theorem sc__law_whole : FnScope N__law_whole ["_law_m"] (defScope st__law_whole) := ⟨rfl, rfl, rfl, by decide +kernel, rfl, by decide +kernel, by decide +kernel⟩
theorem w__law_whole (h__law_draw : FD P w K mg base DrW 2 "_law_draw" [] s__law_draw) : BodyJ P w K mg base DrW 2 N__law_whole "_law_whole" st__law_whole b__law_whole := by
  intro f cdv A outer s H E F0 hr
  have nd : N__law_whole.Nodup := by decide +kernel
  have tk := takes_of (X := XOf P w K mg base N__law_whole "_law_whole" (defScope st__law_whole) f cdv A outer s H E) rfl rfl rfl rfl
  have hp := passes_of (X := XOf P w K mg base N__law_whole "_law_whole" (defScope st__law_whole) f cdv A outer s H E) rfl
  exact (jss_cons (js_set 1 nd (j_ix ((j_lst (ja_cons ncl_s (j_int).sf (ja_cons ncl_s (j_int).sf (ja_cons ncl_s (j_int).sf (ja_cons ncl_s (j_int).sf (ja_cons ncl_s (j_int).sf (ja_cons ncl_s ((j_bin ok_pow (j_int).fw (j_int).fw)).sf (ja_cons ncl_s ((j_bin ok_pow (j_int).fw (j_int).fw)).sf ja_nil))))))))).sf ((j_call h__law_draw (hr.mono (by decide)) tk (by rfl) (ja_cons ncl_w ((j_var 0)).sw (ja_cons ncl_w (j_int).fw ja_nil)))).fw))
    (jss_one (js_ret ((j_bin ok_sub ((j_call h__law_draw (hr.mono (by decide)) tk (by rfl) (ja_cons ncl_w ((j_var 0)).sw (ja_cons ncl_w ((j_bind okd_add ((j_bind okd_mul (j_int).fd ((j_var 1)).sd)).fd (j_int).fd)).fw ja_nil)))).fw ((j_var 1)).sw)).fr)))

abbrev st__law_is : Stmt := topS 11
def N__law_is : List Str := ["_law_found", "_law_due", "_law_one"]
theorem sc__law_is : FnScope N__law_is ["_law_found", "_law_due"] (defScope st__law_is) := ⟨rfl, rfl, rfl, by decide +kernel, rfl, by decide +kernel, by decide +kernel⟩
theorem w__law_is (m_bool : mg "bool" = none) (m_int : mg "int" = none) (m_isinstance : mg "isinstance" = none) (m_tuple : mg "tuple" = none) : BodyJ P w K mg base W 0 N__law_is "_law_is" st__law_is b__law_is := by
  intro f cdv A outer s H E F0 hr
  have nd : N__law_is.Nodup := by decide +kernel
  have tk := takes_of (X := XOf P w K mg base N__law_is "_law_is" (defScope st__law_is) f cdv A outer s H E) rfl rfl rfl rfl
  have hp := passes_of (X := XOf P w K mg base N__law_is "_law_is" (defScope st__law_is) f cdv A outer s H E) rfl
  exact (jss_cons (js_if (JW.t (jw_or (jt_not (jt_val ((j_isi isi_tuple ((j_var 0)).sw m_isinstance m_tuple (by decide +kernel))).fw)) (jw_or1 (jt_cmp (ok_ne hr.units) ((j_var 0)).sw ((j_var 1)).sw))))
      (jss_one (js_ret (j_bl).fr))
      jss_nil)
    (jss_one (js_ret ((j_cmp (ok_eq hr.units) ((j_lc rfl nd (own := [("_law_one", 2)]) (ws := [2]) (JI.weak (ji_seq (j_var 0))) (blkOk_by (N := N__law_is) (sc := defScope st__law_is) (by decide +kernel)) (fun _ _ _ _ _ => (jg_name 2 nd)) (fun _ _ _ _ _ => (jts_one (JW.t (jw_or (jt_val ((j_isi isi_bool ((j_var 2)).sw m_isinstance m_bool (by decide +kernel))).fw) (jw_or1 (jt_not (jt_val ((j_isi isi_int ((j_var 2)).sw m_isinstance m_int (by decide +kernel))).fw))))))) (fun _ _ _ _ _ => (j_var 2)) (by decide))).fw ((j_lst ja_nil)).fw)).fr)))

abbrev st__law_near : Stmt := topS 12
def N__law_near : List Str := ["_law_number", "_law_by", "_law_low", "_law_high"]
theorem sc__law_near : FnScope N__law_near ["_law_number", "_law_by"] (defScope st__law_near) := ⟨rfl, rfl, rfl, by decide +kernel, rfl, by decide +kernel, by decide +kernel⟩
theorem w__law_near  : BodyJ P w K mg base W 0 N__law_near "_law_near" st__law_near b__law_near := by
  intro f cdv A outer s H E F0 hr
  have nd : N__law_near.Nodup := by decide +kernel
  have tk := takes_of (X := XOf P w K mg base N__law_near "_law_near" (defScope st__law_near) f cdv A outer s H E) rfl rfl rfl rfl
  have hp := passes_of (X := XOf P w K mg base N__law_near "_law_near" (defScope st__law_near) f cdv A outer s H E) rfl
  exact (jss_cons (js_set 2 nd ((j_bin ok_mod ((j_var 0)).sw ((j_var 1)).sw)).sf)
    (jss_cons (js_set 3 nd ((j_bin ok_sub ((j_var 2)).sw ((j_var 1)).sw)).sf)
    (jss_one (js_ret ((j_if (jt_cmp ok_le ((j_var 2)).sw ((j_bin ok_sub (j_int).fw ((j_var 3)).sw)).fw) (j_var 2) (j_var 3))).sr))))

abbrev st_law : Stmt := topS 13
def N_law : List Str := ["_law_script", "_law_m", "_law_turn", "_law_row", "_law_by", "_law_due", "_law_again", "_law_found", "_law_k", "_law_number"]
theorem sc_law : FnScope N_law ["_law_script"] (defScope st_law) := ⟨rfl, rfl, rfl, by decide +kernel, rfl, by decide +kernel, by decide +kernel⟩
theorem w_law (m_abs : mg "abs" = none) (m_len : mg "len" = none) (m_max : mg "max" = none) (m_range : mg "range" = none) (h__law_begun : FD P w K mg base DrW 2 "_law_begun" [] s__law_begun) (h__law_cut : FD P w K mg base DrW 1 "_law_cut" [] s__law_cut) (h__law_draw : FD P w K mg base DrW 2 "_law_draw" [] s__law_draw) (h__law_is : FD P w K mg base DrW 1 "_law_is" [] s__law_is) (h__law_near : FD P w K mg base DrW 1 "_law_near" [] s__law_near) (h__law_whole : FD P w K mg base DrW 3 "_law_whole" [] s__law_whole) (h_balanced : FD P w K mg base DrW 2 "balanced" [] s_balanced) : BodyJ P w K mg base DrW 3 N_law "law" st_law b_law := by
  intro f cdv A outer s H E F0 hr
  have nd : N_law.Nodup := by decide +kernel
  have tk := takes_of (X := XOf P w K mg base N_law "law" (defScope st_law) f cdv A outer s H E) rfl rfl rfl rfl
  have hp := passes_of (X := XOf P w K mg base N_law "law" (defScope st_law) f cdv A outer s H E) rfl
  exact (jss_cons (js_set 1 nd ((j_call h__law_begun (hr.mono (by decide)) tk (by rfl) (ja_cons ncl_w (j_bor 0) ja_nil))).sf)
    (jss_cons (js_for hp rfl (ji_range1 (st := true) m_range (ja_cons ncl_w (j_int).fw ja_nil)) (jg_name 2 nd)
      (jss_cons (js_set 3 nd ((j_call h__law_cut (hr.mono (by decide)) tk (by rfl) (ja_cons ncl_w ((j_lc rfl nd (own := [("_law_k", 8)]) (ws := [8]) (ji_range1 (st := false) m_range (ja_cons ncl_w ((j_call h__law_draw (hr.mono (by decide)) tk (by rfl) (ja_cons ncl_w ((j_var 1)).sw (ja_cons ncl_w (j_int).fw ja_nil)))).fw ja_nil)) (blkOk_by (N := N_law) (sc := defScope st_law) (by decide +kernel)) (fun _ _ _ _ _ => (jg_name 8 nd)) (fun _ _ _ _ _ => jts_nil) (fun _ _ _ _ _ => ((j_call h__law_whole (hr.mono (by decide)) takes0 (by rfl) (ja_cons ncl_w ((j_var 1)).sw ja_nil))).sf) (by decide))).fw ja_nil))).sf)
    (jss_cons (js_set 4 nd (j_ix ((j_lst (ja_cons ncl_s (j_int).sf (ja_cons ncl_s (j_int).sf (ja_cons ncl_s ((j_bind okd_add (j_int).fd ((j_call h__law_draw (hr.mono (by decide)) tk (by rfl) (ja_cons ncl_w ((j_var 1)).sw (ja_cons ncl_w (j_int).fw ja_nil)))).fd)).sf (ja_cons ncl_s ((j_bind okd_add (j_int).fd ((j_call h__law_draw (hr.mono (by decide)) tk (by rfl) (ja_cons ncl_w ((j_var 1)).sw (ja_cons ncl_w ((j_bin ok_pow (j_int).fw (j_int).fw)).fw ja_nil)))).fd)).sf (ja_cons ncl_s ((j_bind okd_add (j_int).fd ((j_callB ca_abs m_abs (by decide +kernel) (ja_cons ncl_w ((j_call h__law_whole (hr.mono (by decide)) tk (by rfl) (ja_cons ncl_w ((j_var 1)).sw ja_nil))).fw ja_nil))).fd)).sf ja_nil))))))).sf ((j_call h__law_draw (hr.mono (by decide)) tk (by rfl) (ja_cons ncl_w ((j_var 1)).sw (ja_cons ncl_w (j_int).fw ja_nil)))).fw))
    (jss_cons (js_if (JW.t (jw_and (jt_cmp (ok_ne hr.units) ((j_var 3)).sw ((j_tup ja_nil)).fw) (jw_and1 (jt_cmp (ok_eq hr.units) ((j_call h__law_draw (hr.mono (by decide)) tk (by rfl) (ja_cons ncl_w ((j_var 1)).sw (ja_cons ncl_w (j_int).fw ja_nil)))).fw (j_int).fw))))
      (jss_one (js_set 4 nd ((j_callB (ca_max rfl) m_max (by decide +kernel) (ja_cons ncl_w (j_int).fw (ja_cons ncl_w ((j_bind okd_mul (j_int).fd ((j_callB ca_abs m_abs (by decide +kernel) (ja_cons ncl_w ((j_ix (j_var 3) ((j_call h__law_draw (hr.mono (by decide)) tk (by rfl) (ja_cons ncl_w ((j_var 1)).sw (ja_cons ncl_w ((j_callB ca_len m_len (by decide +kernel) (ja_cons ncl_w ((j_var 3)).sw ja_nil))).fw ja_nil)))).fw)).sw ja_nil))).fd)).fw ja_nil)))).sf))
      jss_nil)
    (jss_cons (js_set 5 nd ((j_call h__law_cut (hr.mono (by decide)) tk (by rfl) (ja_cons ncl_w ((j_lc rfl nd (own := [("_law_number", 9)]) (ws := [9]) (JI.weak (ji_seq (j_var 3))) (blkOk_by (N := N_law) (sc := defScope st_law) (by decide +kernel)) (fun _ _ _ _ _ => (jg_name 9 nd)) (fun _ _ _ _ _ => jts_nil) (fun _ _ _ _ _ => ((j_call h__law_near (hr.mono (by decide)) takes0 (by rfl) (ja_cons ncl_w ((j_var 9)).sw (ja_cons ncl_w ((j_var 4)).sw ja_nil)))).sf) (by decide))).fw ja_nil))).sf)
    (jss_one (js_for hp rfl (ji_range1 (st := true) m_range (ja_cons ncl_w (j_int).fw ja_nil)) (jg_name 6 nd)
      (jss_cons (js_set 7 nd ((j_call h_balanced (hr.mono (by decide)) tk (by rfl) (ja_cons ncl_w ((j_var 3)).sw (ja_cons ncl_w ((j_var 4)).sw ja_nil)))).sf)
    (jss_one (js_if (JW.t (jw_or (jt_not (jt_val ((j_call h__law_is (hr.mono (by decide)) tk (by rfl) (ja_cons ncl_w ((j_var 7)).sw (ja_cons ncl_w ((j_var 5)).sw ja_nil)))).fw)) (jw_or1 (jt_cmp (ok_ne hr.units) ((j_call h_balanced (hr.mono (by decide)) tk (by rfl) (ja_cons ncl_w ((j_var 7)).sw (ja_cons ncl_w ((j_var 4)).sw ja_nil)))).fw ((j_var 5)).sw))))
      (jss_one (js_ret (j_bl).fr))
      jss_nil))))))))))
    (jss_one (js_ret (j_bl).fr))))

abbrev st__law_draw : Stmt := topS 7
theorem sc__law_draw : FnScope N__law_draw ["_law_m", "_law_many"] (defScope st__law_draw) := ⟨rfl, rfl, rfl, by decide +kernel, rfl, by decide +kernel, by decide +kernel⟩
theorem x__law_draw (DF : Dfn K mg "_law_draw" st__law_draw ["_law_m", "_law_many"]) (hm : FD P w K mg base W0 1 "_law_mixed" [] s__law_mixed) (ml : mg "len" = none) : FD P w K mg base DrW 2 "_law_draw" [] s__law_draw := by
  obtain ⟨f, fd, F, gf, bf⟩ := DF.ex
  obtain ⟨fm, fdm, psm, dsm, dvs, G, gm, km, bm, hd, hdd⟩ := hm
  have e0 : dvs = [] := List.length_eq_zero_iff.mp (hdd [] (fun _ => none)).length
  subst e0
  have G := hMix_of G
  refine ⟨f, fd, _, [], [], ?_, gf, F.kp, bf, .nil, fun _ _ => .nil⟩
  have S := sc__law_draw
  refine F.okX S (fun vs H Q E h => ?_) fun cdv A outer s H vs Q E hr h => ?_
  · obtain ⟨F, m, ds, Qd, Zd, rz, dv, ⟨N, many, rfl, _⟩, _⟩ := h
    exact dv.length
  have hu : (A.deeper (envOfC "_law_draw" (defScope st__law_draw) s.heap.objs.size f cdv)).units + 1 < cLine := by have := hr.units; omega
  have tk := takes_of (X := XOf P w K mg base N__law_draw "_law_draw" (defScope st__law_draw) f cdv A outer s H E) rfl rfl rfl rfl
  refine ⟨_, pss_cons (ps_set (i := 2) S.nd rfl (.inl rfl) (pe_dget hu (pv 0) pe_str (fun _ _ => rfl)))
    (pss_cons (ps_dput hu (pv 0) pe_str (pe_op op_add (pv 2) pe_int) rfl)
    (pss_cons (ps_if (pt_cmpR (op_neD hr.units) (pe_dget hu (pv 0) pe_str (fun _ _ => rfl)) (pe_lst pa_nil) (nomark _))
      (pss_cons (ps_set (i := 3) S.nd rfl (.inl rfl) (pe_op op_modN (pv 2) (pe_callB call_len_seq (by rfl) ml PySem.boot_len (pa_cons (pe_dget hu (pv 0) pe_str (fun _ _ => rfl)) pa_nil))))
      (pss_cons (ps_set (i := 4) S.nd rfl (.inl rfl) (pe_ix ix_list (pe_dget hu (pv 0) pe_str (fun _ _ => rfl)) (pv 3) (fun _ _ => rfl)))
      (pss_one (ps_if (pt_cmpR op_notIn_seq (pv 4) (pe_tup (pa_cons pe_int (pa_cons (pe_un un_neg pe_int) pa_nil))) rfl)
        (pss_cons (ps_asg (pe_op op_fdivA (pv 4) (pv 1)) (pg_sub (pe_dget hu (pv 0) pe_str (fun _ _ => rfl)) (pv 3) set_list (fun _ => rfl)))
        (pss_one (ps_ret (pe_op op_modN (pv 4) (pv 1)))))
        pss_nil))))
      pss_nil)
    (pss_one (ps_ret (pe_op op_modN (pe_callSD (E := fun σ cls d H' => E cls d H') (dvs := []) G (hr.mono (by decide)) (by rfl) gm km bm hd (fun σ => passAt tk σ)
      (pa_cons (pe_callSD (E := fun σ cls d H' => E cls d H') (dvs := []) G (hr.mono (by decide)) (by rfl) gm km bm hd (fun σ => passAt tk σ)
        (pa_cons (pe_op op_add (pe_ix ix_list (pe_dget hu (pv 0) pe_str (fun _ _ => rfl)) (pe_op op_modN (pv 2) pe_int) (fun _ _ => rfl)) (pe_op op_mulA pe_int (pe_op op_fdivA (pv 2) pe_int))) (pa_cons (pv 2) pa_nil)))
      (pa_cons (pe_op op_add (pv 2) pe_int) pa_nil))) (pv 1)))))), ?_⟩
  exact rd_draw (mg := mg) h
abbrev st__law_begun : Stmt := topS 8
theorem sc__law_begun : FnScope N__law_begun ["_law_script"] (defScope st__law_begun) := ⟨rfl, rfl, rfl, by decide +kernel, rfl, by decide +kernel, by decide +kernel⟩
theorem x__law_begun (DF : Dfn K mg "_law_begun" st__law_begun ["_law_script"]) (hm : FD P w K mg base W0 1 "_law_folded" [] s__law_folded) : FD P w K mg base DrW 2 "_law_begun" [] s__law_begun := by
  obtain ⟨f, fd, F, gf, bf⟩ := DF.ex
  obtain ⟨fm, fdm, psm, dsm, dvs, G, gm, km, bm, hd, hdd⟩ := hm
  have e0 : dvs = [] := List.length_eq_zero_iff.mp (hdd [] (fun _ => none)).length
  subst e0
  have G := hFold_of G
  refine ⟨f, fd, _, [], [], ?_, gf, F.kp, bf, .nil, fun _ _ => .nil⟩
  have S := sc__law_begun
  refine F.okX S (fun vs H Q E h => ?_) fun cdv A outer s H vs Q E hr h => ?_
  · obtain ⟨F, m, ds, Qd, Zd, rz, dv, ⟨ns, rfl, _⟩, _⟩ := h
    exact dv.length
  have hu : (A.deeper (envOfC "_law_begun" (defScope st__law_begun) s.heap.objs.size f cdv)).units + 1 < cLine := by have := hr.units; omega
  have tk := takes_of (X := XOf P w K mg base N__law_begun "_law_begun" (defScope st__law_begun) f cdv A outer s H E) rfl rfl rfl rfl
  refine ⟨_, pss_cons (ps_set (i := 1) S.nd rfl (.inl rfl) (pe_disp (pps_cons pe_str (pe_callSD (E := fun σ cls d H' => E cls d H') (dvs := []) G (hr.mono (by decide)) (by rfl) gm km bm hd (fun σ => passAt tk σ) (pa_cons (pv 0) pa_nil))
      (pps_cons pe_str (pe_lst pa_nil) (pps_cons pe_str pe_int pps_nil))) rfl rfl (by decide) (by decide)))
    (pss_cons (ps_if (PW.pt (pw_and (pt_cmpR (op_neD hr.units) (pv 0) (pe_lst pa_nil) (nomark _)) (pw_and1 (pt_cmpR op_eq (pe_op op_modN (pe_ix ix_list (pv 0) pe_int (fun _ _ => rfl)) pe_int) pe_int (nomark _)))))
      (pss_one (ps_dput hu (pv 1) pe_str (pe_op op_cat (pe_lst (pa_cons (pe_op op_fdivA (pe_ix ix_list (pv 0) pe_int (fun _ _ => rfl)) pe_int) pa_nil)) (pe_slice sl_list (pv 0) (po_some pe_int) po_none)) rfl))
      pss_nil)
    (pss_one (ps_ret (pv 1)))), ?_⟩
  exact rd_begun (mg := mg) h
theorem ok_law {f : Addr} {fd : FuncData} (F : Fun K "law" "law" st_law f fd) (D__law_folded : Dfn K mg "_law_folded" st__law_folded ["_law_script"]) (D__law_begun : Dfn K mg "_law_begun" st__law_begun ["_law_script"]) (D__law_cut : Dfn K mg "_law_cut" st__law_cut ["_law_numbers"]) (D__law_mixed : Dfn K mg "_law_mixed" st__law_mixed ["_law_cell", "_law_k"]) (D__law_draw : Dfn K mg "_law_draw" st__law_draw ["_law_m", "_law_many"]) (D_cut : Dfn K mg "cut" st_cut ["numbers"]) (D_balanced : Dfn K mg "balanced" st_balanced ["row", "m"]) (D__law_whole : Dfn K mg "_law_whole" st__law_whole ["_law_m"]) (D__law_near : Dfn K mg "_law_near" st__law_near ["_law_number", "_law_by"]) (D__law_is : Dfn K mg "_law_is" st__law_is ["_law_found", "_law_due"]) (m_abs : mg "abs" = none) (m_bool : mg "bool" = none) (m_enumerate : mg "enumerate" = none) (m_int : mg "int" = none) (m_isinstance : mg "isinstance" = none) (m_len : mg "len" = none) (m_max : mg "max" = none) (m_range : mg "range" = none) (m_tuple : mg "tuple" = none) : FnOk P w K mg base (L2.CX P w) 4 f fd ["_law_script"] (spLaw K) := by
  have h__law_begun : FD P w K mg base DrW 2 "_law_begun" [] s__law_begun := x__law_begun D__law_begun (D__law_folded.go [true] sc__law_folded (w__law_folded m_enumerate m_range) vc__law_folded)
  have h__law_cut : FD P w K mg base DrW 1 "_law_cut" [] s__law_cut := D__law_cut.go [true] sc__law_cut (w__law_cut m_len m_tuple) vc__law_cut
  have h__law_draw : FD P w K mg base DrW 2 "_law_draw" [] s__law_draw := x__law_draw D__law_draw (D__law_mixed.go [false, false] sc__law_mixed w__law_mixed vc__law_mixed) m_len
  have h_cut : FD P w K mg base DrW 1 "cut" [] s_cut := D_cut.go [true] sc_cut (w_cut m_len m_tuple) vc_cut
  have h_balanced : FD P w K mg base DrW 2 "balanced" [] s_balanced := D_balanced.go [false, false] sc_balanced (w_balanced h_cut) vc_balanced
  have h__law_whole : FD P w K mg base DrW 3 "_law_whole" [] s__law_whole := D__law_whole.go [false] sc__law_whole (w__law_whole h__law_draw) vc__law_whole
  have h__law_near : FD P w K mg base DrW 1 "_law_near" [] s__law_near := D__law_near.go [false, false] sc__law_near (w__law_near ) vc__law_near
  have h__law_is : FD P w K mg base DrW 1 "_law_is" [] s__law_is := D__law_is.go [false, false] sc__law_is (w__law_is m_bool m_int m_isinstance m_tuple) vc__law_is
  exact law_go F sc_law (w_law m_abs m_len m_max m_range h__law_begun h__law_cut h__law_draw h__law_is h__law_near h__law_whole h_balanced) vc_law
end
theorem all_mk {l : PySem.W.OpenLaw} {w : World} {K : PySem.W.Frag} {h : Heap} {mg : Str → Option Value} {fa f0 f1 f2 f3 f4 f5 f6 f7 f8 f9 f10 : Addr} (X : K.In h) (G : h.Ns mainGlobals mg) (hfa : mg "law" = some (.ref fa))
    {od0 an0 od1 an1 od2 an2 od3 an3 od4 an4 od5 an5 od6 an6 od7 an7 od8 an8 od9 an9 od10 an10 : Option Addr} {sl0 sl1 sl2 sl3 sl4 sl5 sl6 sl7 sl8 sl9 sl10 : Array (Option Value)} {oc0 kV0 dc0 pm0 cd0 ct0 oc1 kV1 dc1 pm1 cd1 ct1 oc2 kV2 dc2 pm2 cd2 ct2 oc3 kV3 dc3 pm3 cd3 ct3 oc4 kV4 dc4 pm4 cd4 ct4 oc5 kV5 dc5 pm5 cd5 ct5 oc6 kV6 dc6 pm6 cd6 ct6 oc7 kV7 dc7 pm7 cd7 ct7 oc8 kV8 dc8 pm8 cd8 ct8 oc9 kV9 dc9 pm9 cd9 ct9 oc10 kV10 dc10 pm10 cd10 ct10 : Value}
    (a0 : PySem.W.nsIn K mainGlobals "_law_folded" = some (some (.ref f0))) (l0 : K.lookup f0 = some ⟨oc0, od0, .func (PySem.W.fnOf "_law_folded" "_law_folded" (defArgs st__law_folded) (defBody st__law_folded) (defScope st__law_folded) .none kV0 dc0 pm0 an0 cd0 ct0), sl0⟩) (c0 : PySem.W.codeIn K cd0 "_law_folded" = true) (k0 : PySem.W.keepIn K (.ref f0) = true)
    (a1 : PySem.W.nsIn K mainGlobals "_law_begun" = some (some (.ref f1))) (l1 : K.lookup f1 = some ⟨oc1, od1, .func (PySem.W.fnOf "_law_begun" "_law_begun" (defArgs st__law_begun) (defBody st__law_begun) (defScope st__law_begun) .none kV1 dc1 pm1 an1 cd1 ct1), sl1⟩) (c1 : PySem.W.codeIn K cd1 "_law_begun" = true) (k1 : PySem.W.keepIn K (.ref f1) = true)
    (a2 : PySem.W.nsIn K mainGlobals "_law_cut" = some (some (.ref f2))) (l2 : K.lookup f2 = some ⟨oc2, od2, .func (PySem.W.fnOf "_law_cut" "_law_cut" (defArgs st__law_cut) (defBody st__law_cut) (defScope st__law_cut) .none kV2 dc2 pm2 an2 cd2 ct2), sl2⟩) (c2 : PySem.W.codeIn K cd2 "_law_cut" = true) (k2 : PySem.W.keepIn K (.ref f2) = true)
    (a3 : PySem.W.nsIn K mainGlobals "_law_mixed" = some (some (.ref f3))) (l3 : K.lookup f3 = some ⟨oc3, od3, .func (PySem.W.fnOf "_law_mixed" "_law_mixed" (defArgs st__law_mixed) (defBody st__law_mixed) (defScope st__law_mixed) .none kV3 dc3 pm3 an3 cd3 ct3), sl3⟩) (c3 : PySem.W.codeIn K cd3 "_law_mixed" = true) (k3 : PySem.W.keepIn K (.ref f3) = true)
    (a4 : PySem.W.nsIn K mainGlobals "_law_draw" = some (some (.ref f4))) (l4 : K.lookup f4 = some ⟨oc4, od4, .func (PySem.W.fnOf "_law_draw" "_law_draw" (defArgs st__law_draw) (defBody st__law_draw) (defScope st__law_draw) .none kV4 dc4 pm4 an4 cd4 ct4), sl4⟩) (c4 : PySem.W.codeIn K cd4 "_law_draw" = true) (k4 : PySem.W.keepIn K (.ref f4) = true)
    (a5 : PySem.W.nsIn K mainGlobals "cut" = some (some (.ref f5))) (l5 : K.lookup f5 = some ⟨oc5, od5, .func (PySem.W.fnOf "cut" "cut" (defArgs st_cut) (defBody st_cut) (defScope st_cut) .none kV5 dc5 pm5 an5 cd5 ct5), sl5⟩) (c5 : PySem.W.codeIn K cd5 "cut" = true) (k5 : PySem.W.keepIn K (.ref f5) = true)
    (a6 : PySem.W.nsIn K mainGlobals "balanced" = some (some (.ref f6))) (l6 : K.lookup f6 = some ⟨oc6, od6, .func (PySem.W.fnOf "balanced" "balanced" (defArgs st_balanced) (defBody st_balanced) (defScope st_balanced) .none kV6 dc6 pm6 an6 cd6 ct6), sl6⟩) (c6 : PySem.W.codeIn K cd6 "balanced" = true) (k6 : PySem.W.keepIn K (.ref f6) = true)
    (a7 : PySem.W.nsIn K mainGlobals "_law_whole" = some (some (.ref f7))) (l7 : K.lookup f7 = some ⟨oc7, od7, .func (PySem.W.fnOf "_law_whole" "_law_whole" (defArgs st__law_whole) (defBody st__law_whole) (defScope st__law_whole) .none kV7 dc7 pm7 an7 cd7 ct7), sl7⟩) (c7 : PySem.W.codeIn K cd7 "_law_whole" = true) (k7 : PySem.W.keepIn K (.ref f7) = true)
    (a8 : PySem.W.nsIn K mainGlobals "_law_near" = some (some (.ref f8))) (l8 : K.lookup f8 = some ⟨oc8, od8, .func (PySem.W.fnOf "_law_near" "_law_near" (defArgs st__law_near) (defBody st__law_near) (defScope st__law_near) .none kV8 dc8 pm8 an8 cd8 ct8), sl8⟩) (c8 : PySem.W.codeIn K cd8 "_law_near" = true) (k8 : PySem.W.keepIn K (.ref f8) = true)
    (a9 : PySem.W.nsIn K mainGlobals "_law_is" = some (some (.ref f9))) (l9 : K.lookup f9 = some ⟨oc9, od9, .func (PySem.W.fnOf "_law_is" "_law_is" (defArgs st__law_is) (defBody st__law_is) (defScope st__law_is) .none kV9 dc9 pm9 an9 cd9 ct9), sl9⟩) (c9 : PySem.W.codeIn K cd9 "_law_is" = true) (k9 : PySem.W.keepIn K (.ref f9) = true)
    (a10 : PySem.W.nsIn K mainGlobals "law" = some (some (.ref f10))) (l10 : K.lookup f10 = some ⟨oc10, od10, .func (PySem.W.fnOf "law" "law" (defArgs st_law) (defBody st_law) (defScope st_law) .none kV10 dc10 pm10 an10 cd10 ct10), sl10⟩) (c10 : PySem.W.codeIn K cd10 "law" = true) (k10 : PySem.W.keepIn K (.ref f10) = true)
    (z0 : PySem.W.nsIn K mainGlobals "abs" = some none) (z1 : PySem.W.nsIn K mainGlobals "bool" = some none) (z2 : PySem.W.nsIn K mainGlobals "enumerate" = some none) (z3 : PySem.W.nsIn K mainGlobals "int" = some none) (z4 : PySem.W.nsIn K mainGlobals "isinstance" = some none) (z5 : PySem.W.nsIn K mainGlobals "len" = some none) (z6 : PySem.W.nsIn K mainGlobals "max" = some none) (z7 : PySem.W.nsIn K mainGlobals "range" = some none) (z8 : PySem.W.nsIn K mainGlobals "tuple" = some none) :
    ∃ fd : FuncData, (∀ (s : Shared) (v : Value), BindsTo s fd ⟨[v], []⟩ [("_law_script", v)]) ∧ ∀ base : Heap, K.In base → base.Ns mainGlobals mg → FnOk l.prog w K mg base (L2.CX l.prog w) 4 fa fd ["_law_script"] (spLaw K) := by
  have e := hfa.symm.trans (PySem.W.mg_of X G a10)
  cases e
  have D0 : Dfn K mg "_law_folded" st__law_folded ["_law_script"] := ⟨_, _, fun_mk (st := st__law_folded) l0 c0 k0, PySem.W.mg_of X G a0, (fun_mk (st := st__law_folded) l0 c0 k0).binds (ps := ["_law_script"]) fun _ _ _ _ _ _ us hl => match us, hl with | [_], _ => rfl⟩
  have D1 : Dfn K mg "_law_begun" st__law_begun ["_law_script"] := ⟨_, _, fun_mk (st := st__law_begun) l1 c1 k1, PySem.W.mg_of X G a1, (fun_mk (st := st__law_begun) l1 c1 k1).binds (ps := ["_law_script"]) fun _ _ _ _ _ _ us hl => match us, hl with | [_], _ => rfl⟩
  have D2 : Dfn K mg "_law_cut" st__law_cut ["_law_numbers"] := ⟨_, _, fun_mk (st := st__law_cut) l2 c2 k2, PySem.W.mg_of X G a2, (fun_mk (st := st__law_cut) l2 c2 k2).binds (ps := ["_law_numbers"]) fun _ _ _ _ _ _ us hl => match us, hl with | [_], _ => rfl⟩
  have D3 : Dfn K mg "_law_mixed" st__law_mixed ["_law_cell", "_law_k"] := ⟨_, _, fun_mk (st := st__law_mixed) l3 c3 k3, PySem.W.mg_of X G a3, (fun_mk (st := st__law_mixed) l3 c3 k3).binds (ps := ["_law_cell", "_law_k"]) fun _ _ _ _ _ _ us hl => match us, hl with | [_, _], _ => rfl⟩
  have D4 : Dfn K mg "_law_draw" st__law_draw ["_law_m", "_law_many"] := ⟨_, _, fun_mk (st := st__law_draw) l4 c4 k4, PySem.W.mg_of X G a4, (fun_mk (st := st__law_draw) l4 c4 k4).binds (ps := ["_law_m", "_law_many"]) fun _ _ _ _ _ _ us hl => match us, hl with | [_, _], _ => rfl⟩
  have D5 : Dfn K mg "cut" st_cut ["numbers"] := ⟨_, _, fun_mk (st := st_cut) l5 c5 k5, PySem.W.mg_of X G a5, (fun_mk (st := st_cut) l5 c5 k5).binds (ps := ["numbers"]) fun _ _ _ _ _ _ us hl => match us, hl with | [_], _ => rfl⟩
  have D6 : Dfn K mg "balanced" st_balanced ["row", "m"] := ⟨_, _, fun_mk (st := st_balanced) l6 c6 k6, PySem.W.mg_of X G a6, (fun_mk (st := st_balanced) l6 c6 k6).binds (ps := ["row", "m"]) fun _ _ _ _ _ _ us hl => match us, hl with | [_, _], _ => rfl⟩
  have D7 : Dfn K mg "_law_whole" st__law_whole ["_law_m"] := ⟨_, _, fun_mk (st := st__law_whole) l7 c7 k7, PySem.W.mg_of X G a7, (fun_mk (st := st__law_whole) l7 c7 k7).binds (ps := ["_law_m"]) fun _ _ _ _ _ _ us hl => match us, hl with | [_], _ => rfl⟩
  have D8 : Dfn K mg "_law_near" st__law_near ["_law_number", "_law_by"] := ⟨_, _, fun_mk (st := st__law_near) l8 c8 k8, PySem.W.mg_of X G a8, (fun_mk (st := st__law_near) l8 c8 k8).binds (ps := ["_law_number", "_law_by"]) fun _ _ _ _ _ _ us hl => match us, hl with | [_, _], _ => rfl⟩
  have D9 : Dfn K mg "_law_is" st__law_is ["_law_found", "_law_due"] := ⟨_, _, fun_mk (st := st__law_is) l9 c9 k9, PySem.W.mg_of X G a9, (fun_mk (st := st__law_is) l9 c9 k9).binds (ps := ["_law_found", "_law_due"]) fun _ _ _ _ _ _ us hl => match us, hl with | [_, _], _ => rfl⟩
  exact ⟨PySem.W.fnOf "law" "law" (defArgs st_law) (defBody st_law) (defScope st_law) .none kV10 dc10 pm10 an10 cd10 ct10, fun s v => .of_eq rfl, fun base _ _ => ok_law (fun_mk (st := st_law) l10 c10 k10) D0 D1 D2 D3 D4 D5 D6 D7 D8 D9 (PySem.W.mg_none_of X G z0) (PySem.W.mg_none_of X G z1) (PySem.W.mg_none_of X G z2) (PySem.W.mg_none_of X G z3) (PySem.W.mg_none_of X G z4) (PySem.W.mg_none_of X G z5) (PySem.W.mg_none_of X G z6) (PySem.W.mg_none_of X G z7) (PySem.W.mg_none_of X G z8)⟩
end RR
open PySem PySem.W PyProof.Rows
set_option maxHeartbeats 0 in
theorem PySem.Challenge.cw_rootring_k29_balanced_rows_holds : PySem.Challenge.rw_rootring_k29_balanced_rows.Holds := by
  w_on; o_law; k_head; (case hw => w_witness2)
  k_fill
  refine L2.walk_of (l := PySem.Challenge.rw_rootring_k29_balanced_rows) (n := 63) (k := 4) (x := "_law_script") (CX := fun w => L2.CX PySem.Challenge.pw_rootring_k29_balanced_rows w) (sp := fun w => RR.spLaw _) rfl (by decide) rfl ⟨rfl, by decide, by decide⟩ (fun w h Y => PySem.W.kIn_of Y) ?F (fun _ _ a ns hl _ hS => ⟨a, ns, rfl, hS, hl, fun _ => rfl⟩) (fun _ _ _ _ _ h => by obtain ⟨_, _, _, _, _, _, _, _, _, _, _, _, z⟩ := h; exact z)
  case F =>
    intro w mg fa h KX G hmg
    refine' RR.all_mk KX G hmg ?a0 ?l0 ?c0 ?k0 ?a1 ?l1 ?c1 ?k1 ?a2 ?l2 ?c2 ?k2 ?a3 ?l3 ?c3 ?k3 ?a4 ?l4 ?c4 ?k4 ?a5 ?l5 ?c5 ?k5 ?a6 ?l6 ?c6 ?k6 ?a7 ?l7 ?c7 ?k7 ?a8 ?l8 ?c8 ?k8 ?a9 ?l9 ?c9 ?k9 ?a10 ?l10 ?c10 ?k10 ?z0 ?z1 ?z2 ?z3 ?z4 ?z5 ?z6 ?z7 ?z8
    (case a0 => k_is); (case l0 => k_is); (case c0 => k_is); (case k0 => k_is); (case a1 => k_is); (case l1 => k_is); (case c1 => k_is); (case k1 => k_is); (case a2 => k_is); (case l2 => k_is); (case c2 => k_is); (case k2 => k_is); (case a3 => k_is); (case l3 => k_is); (case c3 => k_is); (case k3 => k_is); (case a4 => k_is); (case l4 => k_is); (case c4 => k_is); (case k4 => k_is); (case a5 => k_is); (case l5 => k_is); (case c5 => k_is); (case k5 => k_is); (case a6 => k_is); (case l6 => k_is); (case c6 => k_is); (case k6 => k_is); (case a7 => k_is); (case l7 => k_is); (case c7 => k_is); (case k7 => k_is); (case a8 => k_is); (case l8 => k_is); (case c8 => k_is); (case k8 => k_is); (case a9 => k_is); (case l9 => k_is); (case c9 => k_is); (case k9 => k_is); (case a10 => k_is); (case l10 => k_is); (case c10 => k_is); (case k10 => k_is); (case z0 => k_is); (case z1 => k_is); (case z2 => k_is); (case z3 => k_is); (case z4 => k_is); (case z5 => k_is); (case z6 => k_is); (case z7 => k_is); (case z8 => k_is)
