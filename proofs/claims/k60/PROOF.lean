import PyProof.Rows.All
import Wide.All
import OpenK.AllK
import Wide.FinOn
import HandS.CallRecv
import HandS.CallSlots
import HandS.Conv
import HandS.Deep
import HandS.Defaults
import HandS.EndTab
import HandS.Ends
import HandS.ExcIs
import HandS.ExcOwn
import HandS.FStrTup
import HandS.ForExc
import HandS.ForMost
import HandS.IntHex
import HandS.IsInst
import HandS.Lambda
import HandS.More
import HandS.RaiseMore
import HandS.ReplaceLit
import HandS.Rev
import HandS.RevRange
import HandS.StrMore
import HandS.Style
import HandS.Text
import HandS.TryOnly
import HandS.TupAny
import HandS.TupMul
import HandS.Walk
import HandS.Wide
import HandS.WordsExc
import HandS.Zip
import HandS.Zip0
import KE.KNestM
import KE.KRevSl
import KE.SortData
import KE.SortKeyHeap
import PyProof.Draws
import PyProof.EnumMake
import PyProof.NeKinds
import PyProof.ReprRoads
import PyProof.Rows.Digits
import PyProof.Rows.IntBool
import PyProof.StrLawsRepr
import PyProof.Draws
import PyProof.EnumMake
import PyProof.ExcBaseAll.ValueError
import PySem.Challenge.RW_rootring_k60_composed_rows
set_option Elab.async false
set_option linter.all false
set_option maxRecDepth 100000
set_option maxHeartbeats 4000000
set_option exponentiation.threshold 20000
namespace RR
open PySem PySem.Spec PyProof.Rows L2
inductive D where
  | non | bl (b : Bool) | int (i : Int) | str (s : Str) | tup (xs : List D) | lst (xs : List D) | hnd (n : Nat) | dic | exc (x : Str) | fn (x : Str) | ptr (a : Addr)
  deriving Inhabited
mutual
def D.nl : D → Bool
  | .lst _ => false
  | .dic => false
  | .tup xs => D.nls xs
  | _ => true
def D.nls : List D → Bool
  | [] => true
  | x :: r => x.nl && D.nls r
end
def IsT : HO → Prop
  | .tup _ => True
  | .ext _ => True
  | _ => False
def IsL : HO → Prop
  | .lst _ => True
  | .dK _ => True
  | _ => False
def KT (K : PySem.W.Frag) (a : Addr) (xs : List V) : Prop :=
  ∃ (o : Obj) (its : Array Value) (n : Nat), K.lookup a = some o ∧ o.cls = .type "tuple" ∧ o.data = .seq its n ∧ its.size ≤ sizeLine ∧ Vals xs its.toList
def Tp (K : PySem.W.Frag) (G : Hp) (a : Addr) (xs : List V) : Prop := G a = some (.tup xs) ∨ KT K a xs
def Ls : Bool → PySem.W.Frag → Hp → Addr → List V → Prop
  | true, _, G, a, xs => G a = some (.lst xs)
  | false, K, G, a, xs => SqL K G a xs
def ExI (C a : Addr) : HO := .ext fun h => PySem.W.InstAt h a ((h.get? a).getD default) C none
def NsC (K : PySem.W.Frag) (x : Str) (C : Addr) : Prop := PySem.W.nsIn K mainGlobals x = some (some (.ref C))
mutual
inductive Dn (s : Bool) (K : PySem.W.Frag) (F : List Addr) (G : Hp) : V → D → Prop
  | non : Dn s K F G .non .non
  | bl (b : Bool) : Dn s K F G (.bl b) (.bl b)
  | int (i : Int) : Dn s K F G (.int i) (.int i)
  | str (x : Str) : Dn s K F G (.str x) (.str x)
  | tup {a : Addr} {xs : List V} {ds : List D} : Tp K G a xs → DnA s K F G xs ds → Dn s K F G (.ref a) (.tup ds)
  | lst {a : Addr} {xs : List V} {ds : List D} : Ls s K G a xs → DnA s K F G xs ds → Dn s K F G (.ref a) (.lst ds)
  | hnd {n : Nat} {a : Addr} : F[n]? = some a → Dn s K F G (.ref a) (.hnd n)
  | dic {a : Addr} : G a = some (.dK []) → Dn s K F G (.ref a) .dic
  | exc {x : Str} {a C : Addr} : G a = some (ExI C a) → NsC K x C → Dn s K F G (.ref a) (.exc x)
  | fn {x : Str} {a : Addr} : NsC K x a → Dn s K F G (.ref a) (.fn x)
  | ptr {a : Addr} : Dn s K F G (.ref a) (.ptr a)
inductive DnA (s : Bool) (K : PySem.W.Frag) (F : List Addr) (G : Hp) : List V → List D → Prop
  | nil : DnA s K F G [] []
  | cons {v : V} {vs : List V} {d : D} {ds : List D} : Dn s K F G v d → DnA s K F G vs ds → DnA s K F G (v :: vs) (d :: ds)
end
section
variable {s : Bool} {K : PySem.W.Frag} {F F' : List Addr} {G G' : Hp}
theorem Tp.sq {a : Addr} {xs : List V} (h : Tp K G a xs) : SqT K G a xs := h.elim (fun h => .inl (.inl h)) .inr
theorem Ls.sq {a : Addr} {xs : List V} (h : Ls s K G a xs) : SqL K G a xs := by
  cases s with
  | true => exact .inl (.inl h)
  | false => exact h
theorem Tp.mono (hG : ∀ a xs, G a = some (.tup xs) → G' a = some (.tup xs)) {a : Addr} {xs : List V} (h : Tp K G a xs) : Tp K G' a xs := h.imp (hG a xs) id
theorem Ls.mono (hG : ∀ a o, G a = some o → G' a = some o) {a : Addr} {xs : List V} (h : Ls s K G a xs) : Ls s K G' a xs := by
  cases s with
  | true => exact hG _ _ h
  | false => exact Same.seq (H := G) (H' := G') hG h
mutual
theorem Dn.mono (hF : ∃ F1, F' = F ++ F1) (hG : ∀ a o, G a = some o → G' a = some o) : ∀ {v : V} {d : D}, Dn s K F G v d → Dn s K F' G' v d
  | _, _, .non => .non
  | _, _, .bl b => .bl b
  | _, _, .int i => .int i
  | _, _, .str x => .str x
  | _, _, .tup h r => .tup (h.mono fun a xs => hG a _) (DnA.mono hF hG r)
  | _, _, .lst h r => .lst (h.mono hG) (DnA.mono hF hG r)
  | _, _, .hnd h => .hnd (by obtain ⟨F1, rfl⟩ := hF; rw [List.getElem?_append_left (List.getElem?_eq_some_iff.mp h).1]; exact h)
  | _, _, .dic h => .dic (hG _ _ h)
  | _, _, .exc h n => .exc (hG _ _ h) n
  | _, _, .fn h => .fn h
  | _, _, .ptr => .ptr
theorem DnA.mono (hF : ∃ F1, F' = F ++ F1) (hG : ∀ a o, G a = some o → G' a = some o) : ∀ {vs : List V} {ds : List D}, DnA s K F G vs ds → DnA s K F' G' vs ds
  | _, _, .nil => .nil
  | _, _, .cons h r => .cons (Dn.mono hF hG h) (DnA.mono hF hG r)
end
mutual
theorem Dn.flat {s' : Bool} (hF : ∃ F1, F' = F ++ F1) (hG : ∀ a o, IsT o → G a = some o → G' a = some o) : ∀ {v : V} {d : D}, Dn s K F G v d → d.nl = true → Dn s' K F' G' v d
  | _, _, .non, _ => .non
  | _, _, .bl b, _ => .bl b
  | _, _, .int i, _ => .int i
  | _, _, .str x, _ => .str x
  | _, _, .tup h r, n => .tup (h.mono fun a xs => hG a _ trivial) (DnA.flat hF hG r n)
  | _, _, .dic _, n => by cases n
  | _, _, .exc h c, _ => .exc (hG _ _ trivial h) c
  | _, _, .fn h, _ => .fn h
  | _, _, .ptr, _ => .ptr
  | _, _, .lst h r, n => by cases n
  | _, _, .hnd h, _ => .hnd (by obtain ⟨F1, rfl⟩ := hF; rw [List.getElem?_append_left (List.getElem?_eq_some_iff.mp h).1]; exact h)
theorem DnA.flat {s' : Bool} (hF : ∃ F1, F' = F ++ F1) (hG : ∀ a o, IsT o → G a = some o → G' a = some o) : ∀ {vs : List V} {ds : List D}, DnA s K F G vs ds → D.nls ds = true → DnA s' K F' G' vs ds
  | _, _, .nil, _ => .nil
  | _, _, .cons h r, n => by
    rw [D.nls, Bool.and_eq_true] at n
    exact .cons (Dn.flat hF hG h n.1) (DnA.flat hF hG r n.2)
end
mutual
theorem Dn.weak : ∀ {v : V} {d : D}, Dn true K F G v d → Dn false K F G v d
  | _, _, .non => .non
  | _, _, .bl b => .bl b
  | _, _, .int i => .int i
  | _, _, .str x => .str x
  | _, _, .tup h r => .tup h (DnA.weak r)
  | _, _, .lst h r => .lst (.inl (.inl h)) (DnA.weak r)
  | _, _, .hnd h => .hnd h
  | _, _, .dic h => .dic h
  | _, _, .exc h n => .exc h n
  | _, _, .fn h => .fn h
  | _, _, .ptr => .ptr
theorem DnA.weak : ∀ {vs : List V} {ds : List D}, DnA true K F G vs ds → DnA false K F G vs ds
  | _, _, .nil => .nil
  | _, _, .cons h r => .cons (Dn.weak h) (DnA.weak r)
end
theorem DnA.length : ∀ {vs : List V} {ds : List D}, DnA s K F G vs ds → vs.length = ds.length
  | _, _, .nil => rfl
  | _, _, .cons _ r => congrArg (· + 1) (DnA.length r)
theorem DnA.get : ∀ {vs : List V} {ds : List D} {i : Nat} {v : V}, DnA s K F G vs ds → vs[i]? = some v → ∃ d, ds[i]? = some d ∧ Dn s K F G v d
  | _, _, _, _, .nil, e => by simp at e
  | _, _, 0, _, .cons h _, e => by simp at e; subst e; exact ⟨_, rfl, h⟩
  | _, _, i + 1, _, .cons _ r, e => by
    obtain ⟨d, h1, h2⟩ := DnA.get (i := i) r (by simpa using e)
    exact ⟨d, by simpa using h1, h2⟩
theorem DnA.getD : ∀ {vs : List V} {ds : List D} {i : Nat} {d : D}, DnA s K F G vs ds → ds[i]? = some d → ∃ v, vs[i]? = some v ∧ Dn s K F G v d
  | _, _, _, _, .nil, e => by simp at e
  | _, _, 0, _, .cons h _, e => by simp at e; subst e; exact ⟨_, rfl, h⟩
  | _, _, i + 1, _, .cons _ r, e => by
    obtain ⟨d, h1, h2⟩ := DnA.getD (i := i) r (by simpa using e)
    exact ⟨d, by simpa using h1, h2⟩
theorem DnA.app : ∀ {vs ws : List V} {ds es : List D}, DnA s K F G vs ds → DnA s K F G ws es → DnA s K F G (vs ++ ws) (ds ++ es)
  | _, _, _, _, .nil, r => r
  | _, _, _, _, .cons h t, r => .cons h (DnA.app t r)
theorem DnA.take : ∀ {vs : List V} {ds : List D} (n : Nat), DnA s K F G vs ds → DnA s K F G (vs.take n) (ds.take n)
  | _, _, 0, _ => .nil
  | _, _, _ + 1, .nil => .nil
  | _, _, n + 1, .cons h t => .cons h (DnA.take n t)
theorem DnA.drop : ∀ {vs : List V} {ds : List D} (n : Nat), DnA s K F G vs ds → DnA s K F G (vs.drop n) (ds.drop n)
  | _, _, 0, r => r
  | _, _, _ + 1, .nil => .nil
  | _, _, n + 1, .cons _ t => DnA.drop n t
theorem DnA.set {x : V} {d : D} (r : Dn s K F G x d) : ∀ {xs : List V} {ds : List D} (i : Nat), DnA s K F G xs ds → DnA s K F G (xs.set i x) (ds.set i d)
  | _, _, _, .nil => .nil
  | _, _, 0, .cons _ t => .cons r t
  | _, _, i + 1, .cons q t => .cons q (DnA.set r i t)
theorem DnA.rep {vs : List V} {ds : List D} (h : DnA s K F G vs ds) : ∀ k : Nat, DnA s K F G (List.replicate k vs).flatten (List.replicate k ds).flatten
  | 0 => .nil
  | k + 1 => by
    rw [List.replicate_succ, List.replicate_succ, List.flatten_cons, List.flatten_cons]
    exact h.app (DnA.rep h k)
end
noncomputable def vw (p : Addr → HO → Prop) (H : Hp) : Hp := fun a => (H a).bind fun o => open Classical in if p a o then some o else none
theorem vw_iff {p : Addr → HO → Prop} {H : Hp} {a : Addr} {o : HO} : vw p H a = some o ↔ H a = some o ∧ p a o := by
  unfold vw
  cases e : H a with
  | none => simp
  | some u =>
    simp only [Option.bind_some]
    by_cases q : p a u
    · rw [if_pos q]
      exact Iff.intro (fun z => by cases z; exact ⟨rfl, q⟩) (fun z => z.1)
    · rw [if_neg q]
      exact Iff.intro (fun z => by cases z) (fun z => by obtain ⟨z1, z2⟩ := z; cases z1; exact absurd z2 q)
theorem IsT.not_L {o : HO} (h : IsT o) (h' : IsL o) : False := by cases o <;> first | exact h | exact h'
noncomputable def sv (H0 : Hp) (Pr : Addr → Prop) (H : Hp) : Hp := vw (fun a o => IsT o ∨ (IsL o ∧ ¬ Pr a ∧ H0 a = none)) H
noncomputable def wv (F : List Addr) (H : Hp) : Hp := vw (fun a _ => a ∉ F) H
theorem sv_le {H0 : Hp} {Pr : Addr → Prop} {H : Hp} {a : Addr} {o : HO} (h : sv H0 Pr H a = some o) : H a = some o := (vw_iff.mp h).1
theorem wv_le {F : List Addr} {H : Hp} {a : Addr} {o : HO} (h : wv F H a = some o) : H a = some o := (vw_iff.mp h).1
structure Wd where
  M : Type
  Rz : M → List Addr → Hp → Prop
  keep : ∀ {m F H H'}, Rz m F H → (∀ a ∈ F, H' a = H a) → (∀ a o, IsT o → H a = some o → H' a = some o) → Rz m F H'
  there : ∀ {m F H}, Rz m F H → ∀ a ∈ F, ∃ o, H a = some o ∧ ¬ IsT o
inductive Sl where
  | un | val (d : D) | bor (d : D) | own (ds : List D) | dct (kvs : List (List Int × Int))
abbrev En := List Sl
structure Cn where
  W : Wd
  /-- what a view leaves out: all lists that stood at the entry but those that are handed over to be kept -/
  H0 : Hp
  F0 : List Addr
  wx : WX
  /-- all that stood at the entry -/
  K0 : Hp
  sub : ∀ a o, H0 a = some o → K0 a = some o
theorem Cn.k0 (C : Cn) {a : Addr} (h : C.K0 a = none) : C.H0 a = none := by
  cases e : C.H0 a with
  | none => rfl
  | some o => rw [C.sub a o e] at h; cases h
structure Tr (Pr : Addr → Prop) (F : List Addr) (H : Hp) (Pr' : Addr → Prop) (F' : List Addr) (H' : Hp) : Prop where
  pre : ∃ F1, F' = F ++ F1
  prn : ∀ a, Pr' a → ¬ Pr a → H a = none
  fn : ∀ a ∈ F', a ∉ F → H a = none
  stay : ∀ a o, H a = some o → ∃ o', H' a = some o'
  keep : ∀ a o, ¬ Pr a → H a = some o → H' a = some o
structure Te (Pr : Addr → Prop) (F : List Addr) (H : Hp) (Pr' : Addr → Prop) (F' : List Addr) (H' : Hp) : Prop extends Tr Pr F H Pr' F' H' where
  prm : ∀ a, Pr a → Pr' a
  all : ∀ a o, a ∉ F → H a = some o → H' a = some o
def entI (x : List Int × Int) : List Key × V := (x.1.map Sum.inl, .int x.2)
def Sk (K : PySem.W.Frag) (C : Cn) (Pr : Addr → Prop) (F : List Addr) (H : Hp) (v? : Option (Option V)) : Sl → Prop
  | .un => True
  | .val d => ∃ v, v? = some (some v) ∧ Dn true K F (sv C.H0 Pr H) v d
  | .bor d => ∃ v, v? = some (some v) ∧ Dn false K C.F0 (wv C.F0 C.K0) v d
  | .own ds => ∃ p vs, v? = some (some (.ref p)) ∧ H p = some (.lst vs) ∧ Pr p ∧ p ∉ F ∧ DnA true K F (sv C.H0 Pr H) vs ds
  | .dct kvs => ∃ p, v? = some (some (.ref p)) ∧ H p = some (.dT (kvs.map entI)) ∧ Pr p ∧ p ∉ F
structure SR (K : PySem.W.Frag) (C : Cn) (Pr : Addr → Prop) (F : List Addr) (σ : L2.St) (ρ : En) (m : C.W.M) (H : Hp) : Prop where
  keep : ∀ a o, a ∉ C.F0 → C.K0 a = some o → H a = some o
  pre : ∃ F1, F = C.F0 ++ F1
  new : ∀ a ∈ F, a ∉ C.F0 → C.K0 a = none
  prs : ∀ a, Pr a → ∃ o, H a = some o ∧ ¬ IsT o
  prn : ∀ a, Pr a → a ∉ F → C.K0 a = none
  prf : ∀ a ∈ F, Pr a
  rz : C.W.Rz m F H
  len : ρ.length = σ.length
  slot : ∀ (i : Nat) (s : Sl), ρ[i]? = some s → Sk K C Pr F H σ[i]? s
  dist : ∀ (i j : Nat) (ds es : List D) (p : Addr), i ≠ j → ρ[i]? = some (.own ds) → ρ[j]? = some (.own es) → σ[i]? = some (some (.ref p)) → σ[j]? = some (some (.ref p)) → False
section
variable {Pr Pr1 Pr2 : Addr → Prop} {F F1 F2 : List Addr} {H H1 H2 : Hp}
theorem pre_trans (a : ∃ G, F1 = F ++ G) (b : ∃ G, F2 = F1 ++ G) : ∃ G, F2 = F ++ G := by
  obtain ⟨x, rfl⟩ := a
  obtain ⟨y, rfl⟩ := b
  exact ⟨x ++ y, by rw [List.append_assoc]⟩
theorem pre_mem (a : ∃ G, F1 = F ++ G) {x : Addr} (h : x ∈ F) : x ∈ F1 := by
  obtain ⟨y, rfl⟩ := a
  exact List.mem_append_left _ h
theorem some_of {a : Addr} (h : ∀ o, H a = some o → ∃ o', H1 a = some o') (e : H1 a = none) : H a = none := by
  cases q : H a with
  | none => rfl
  | some o =>
    obtain ⟨o', z⟩ := h o q
    rw [e] at z; cases z
theorem Tr.refl : Tr Pr F H Pr F H := ⟨⟨[], by simp⟩, fun _ h n => absurd h n, fun _ h n => absurd h n, fun _ o h => ⟨o, h⟩, fun _ _ _ h => h⟩
theorem Te.refl : Te Pr F H Pr F H := ⟨Tr.refl, fun _ h => h, fun _ _ _ h => h⟩
theorem Tr.trans (a : Tr Pr F H Pr1 F1 H1) (b : Tr Pr1 F1 H1 Pr2 F2 H2) : Tr Pr F H Pr2 F2 H2 := by
  refine ⟨pre_trans a.pre b.pre, fun x h n => ?_, fun x h n => ?_, fun x o h => ?_, fun x o n h => ?_⟩
  · by_cases q : Pr1 x
    · exact a.prn x q n
    · exact some_of (a.stay x) (b.prn x h q)
  · by_cases q : x ∈ F1
    · exact a.fn x q n
    · exact some_of (a.stay x) (b.fn x h q)
  · obtain ⟨o', h'⟩ := a.stay x o h
    exact b.stay x o' h'
  · refine b.keep x o (fun q => ?_) (a.keep x o n h)
    have z := a.prn x q n
    rw [h] at z; cases z
theorem Te.trans (a : Te Pr F H Pr1 F1 H1) (b : Te Pr1 F1 H1 Pr2 F2 H2) : Te Pr F H Pr2 F2 H2 := by
  refine ⟨a.toTr.trans b.toTr, fun x h => b.prm x (a.prm x h), fun x o n h => b.all x o (fun q => ?_) (a.all x o n h)⟩
  have z := a.fn x q n
  rw [h] at z; cases z
theorem sv_tr {H0 : Hp} (t : Tr Pr F H Pr1 F1 H1) (hp : ∀ a, Pr a → ∃ o, H a = some o ∧ ¬ IsT o) : ∀ a o, sv H0 Pr H a = some o → sv H0 Pr1 H1 a = some o := fun a o h => by
  obtain ⟨e, q⟩ := vw_iff.mp h
  have np : ¬ Pr a := fun z => by
    rcases q with q | q
    · obtain ⟨o', e', n⟩ := hp a z
      rw [e] at e'; cases e'
      exact n q
    · exact q.2.1 z
  refine vw_iff.mpr ⟨t.keep a o np e, q.imp id fun q => ⟨q.1, fun z => ?_, q.2.2⟩⟩
  have z := t.prn a z np
  rw [e] at z; cases z
theorem wv_te (t : Te Pr F H Pr1 F1 H1) : ∀ a o, wv F H a = some o → wv F1 H1 a = some o := fun a o h => by
  obtain ⟨e, q⟩ := vw_iff.mp h
  refine vw_iff.mpr ⟨t.all a o q e, fun z => ?_⟩
  have z := t.fn a z q
  rw [e] at z; cases z
theorem Dn.tr {K : PySem.W.Frag} {H0 : Hp} {v : V} {d : D} (t : Tr Pr F H Pr1 F1 H1) (hp : ∀ a, Pr a → ∃ o, H a = some o ∧ ¬ IsT o) (h : Dn true K F (sv H0 Pr H) v d) : Dn true K F1 (sv H0 Pr1 H1) v d :=
  h.mono t.pre (sv_tr t hp)
theorem Dn.te {K : PySem.W.Frag} {v : V} {d : D} (t : Te Pr F H Pr1 F1 H1) (h : Dn false K F (wv F H) v d) : Dn false K F1 (wv F1 H1) v d := h.mono t.pre (wv_te t)
end
end RR
namespace RR
open PySem PySem.Spec PyProof.Rows L2
variable {K : PySem.W.Frag} {C : Cn} {Pr Pr' : Addr → Prop} {F F' : List Addr} {σ : L2.St} {ρ : En} {m m' : C.W.M} {H H' : Hp}
theorem SR.h0 (S : SR K C Pr F σ ρ m H) {a : Addr} (e : H a = none) : a ∉ C.F0 → C.K0 a = none := fun n => by
  cases q : C.K0 a with
  | none => rfl
  | some o =>
    have z := S.keep a o n q
    rw [e] at z; cases z
theorem SR.pf0 (S : SR K C Pr F σ ρ m H) {a : Addr} (h : a ∈ C.F0) : a ∈ F := pre_mem S.pre h
theorem SR.nf {a : Addr} (S : SR K C Pr F σ ρ m H) (e : H a = none) : a ∉ F := fun z => by
  obtain ⟨o, q, _⟩ := S.prs a (S.prf a z)
  rw [e] at q; cases q
theorem SR.np {a : Addr} (S : SR K C Pr F σ ρ m H) (e : H a = none) : ¬ Pr a := fun z => by
  obtain ⟨o, q, _⟩ := S.prs a z
  rw [e] at q; cases q
theorem SR.k0n (S : SR K C Pr F σ ρ m H) {a : Addr} (e : H a = none) : C.K0 a = none := S.h0 e fun z => S.nf e (S.pf0 z)
theorem SR.h0n (S : SR K C Pr F σ ρ m H) {a : Addr} (e : H a = none) : C.H0 a = none := C.k0 (S.k0n e)
theorem SR.te (S : SR K C Pr F σ ρ m H) (k : ∀ a o, H a = some o → H' a = some o) : Te Pr F H Pr F H' :=
  ⟨⟨⟨[], by simp⟩, fun _ h n => absurd h n, fun _ h n => absurd h n, fun a o h => ⟨o, k a o h⟩, fun a o _ h => k a o h⟩, fun _ h => h, fun a o _ h => k a o h⟩
theorem Sk.tr {v? : Option (Option V)} (hs : ∀ a, Pr a → ∃ o, H a = some o ∧ ¬ IsT o) (t : Tr Pr F H Pr' F' H') (ko : ∀ p, Pr p → p ∉ F → ∀ o, H p = some o → H' p = some o) (po : ∀ p, Pr p → p ∉ F → Pr' p) :
    ∀ {s : Sl}, Sk K C Pr F H v? s → Sk K C Pr' F' H' v? s
  | .un, _ => trivial
  | .val d, ⟨v, e, h⟩ => ⟨v, e, h.tr t hs⟩
  | .bor d, h => h
  | .own ds, ⟨p, vs, e, hp, pp, nf, h⟩ => ⟨p, vs, e, ko p pp nf _ hp, po p pp nf, (fun z => by
      have q := t.fn p z nf
      rw [hp] at q
      cases q), h.mono t.pre (sv_tr t hs)⟩
  | .dct kvs, ⟨p, e, hp, pp, nf⟩ => ⟨p, e, ko p pp nf _ hp, po p pp nf, fun z => by
      have q := t.fn p z nf
      rw [hp] at q
      cases q⟩
theorem SR.grow (S : SR K C Pr F σ ρ m H) (k : ∀ a o, H a = some o → H' a = some o) : SR K C Pr F σ ρ m H' where
  keep := fun a o n e => k a o (S.keep a o n e)
  pre := S.pre
  new := S.new
  prs := fun a p => let ⟨o, e, n⟩ := S.prs a p; ⟨o, k a o e, n⟩
  prn := S.prn
  prf := S.prf
  rz := C.W.keep S.rz (fun a h => by
    obtain ⟨o, e, _⟩ := S.prs a (S.prf a h)
    rw [e, k a o e]) fun a o _ e => k a o e
  len := S.len
  slot := fun i s e => Sk.tr S.prs (S.te k).toTr (fun p _ _ o h => k p o h) (fun p h _ => h) (S.slot i s e)
  dist := S.dist
theorem SR.new1 (S : SR K C Pr F σ ρ m H) {p : Addr} {o : HO} (h : H p = none) : SR K C Pr F σ ρ m (upd H p o) ∧ Te Pr F H Pr F (upd H p o) := by
  have k : ∀ a u, H a = some u → upd H p o a = some u := fun a u e => by rw [upd_ne (ne_of_none e h)]; exact e
  exact ⟨S.grow k, S.te k⟩
theorem SR.turned (S : SR K C Pr F σ ρ m H) (rz : C.W.Rz m' F' H') (pre : ∃ G, F' = F ++ G) (fr : ∀ a ∈ F', a ∉ F → H a = none) (k : ∀ a o, a ∉ F → H a = some o → H' a = some o) :
    SR K C (fun a => Pr a ∨ a ∈ F') F' σ ρ m' H' ∧ Te Pr F H (fun a => Pr a ∨ a ∈ F') F' H' := by
  have t : Te Pr F H (fun a => Pr a ∨ a ∈ F') F' H' := by
    refine ⟨⟨pre, fun a h n => ?_, fr, fun a o h => ?_, fun a o n h => ?_⟩, fun _ h => .inl h, k⟩
    · rcases h with h | h
      · exact absurd h n
      · exact fr a h fun z => n (S.prf a z)
    · by_cases q : a ∈ F
      · obtain ⟨o', e, _⟩ := C.W.there rz a (pre_mem pre q)
        exact ⟨o', e⟩
      · exact ⟨o, k a o q h⟩
    · exact k a o (fun z => n (S.prf a z)) h
  refine ⟨⟨fun a o n e => k a o (fun z => ?_) (S.keep a o n e), pre_trans S.pre pre, fun a h n => ?_, fun a h => ?_, fun a h n => ?_, fun a h => .inr h, rz, S.len, fun i s e => Sk.tr S.prs t.toTr (fun p _ nf o h => k p o nf h) (fun p h _ => .inl h) (S.slot i s e), S.dist⟩, t⟩
  · have z := S.new a z n
    rw [e] at z; cases z
  · by_cases q : a ∈ F
    · exact S.new a q n
    · exact S.h0 (fr a h q) n
  · by_cases q : a ∈ F'
    · exact C.W.there rz a q
    · rcases h with h | h
      · obtain ⟨o, e, n⟩ := S.prs a h
        exact ⟨o, k a o (fun z => q (pre_mem pre z)) e, n⟩
      · exact absurd h q
  · rcases h with h | h
    · exact S.prn a h fun z => n (pre_mem pre z)
    · exact absurd h n
theorem get_set {α : Type} {l : List α} {i j : Nat} {x y : α} (h : (l.set i x)[j]? = some y) : (j = i ∧ y = x) ∨ (j ≠ i ∧ l[j]? = some y) := by
  by_cases e : j = i
  · subst e
    refine .inl ⟨rfl, ?_⟩
    by_cases q : j < l.length
    · rw [List.getElem?_set_self q] at h
      exact (Option.some.inj h).symm
    · rw [List.getElem?_eq_none (by simpa using Nat.le_of_not_lt q)] at h; cases h
  · rw [List.getElem?_set_ne (Ne.symm e)] at h
    exact .inr ⟨e, h⟩
theorem lt_of_set {α : Type} {l : List α} {i : Nat} {x y : α} (h : (l.set i x)[i]? = some y) : i < l.length := by
  have z := (List.getElem?_eq_some_iff.mp h).1
  simpa using z
theorem SR.set (S : SR K C Pr F σ ρ m H) {v : V} {d : D} (i : Nat) (h : Dn true K F (sv C.H0 Pr H) v d) : SR K C Pr F (σ.set i (some v)) (ρ.set i (.val d)) m H where
  keep := S.keep
  pre := S.pre
  new := S.new
  prs := S.prs
  prn := S.prn
  prf := S.prf
  rz := S.rz
  len := by simpa using S.len
  slot := fun j s e => by
    rcases get_set e with ⟨rfl, rfl⟩ | ⟨ne, e⟩
    · have hi : j < σ.length := by rw [← S.len]; exact lt_of_set e
      exact ⟨v, by rw [List.getElem?_set_self hi], h⟩
    · rw [List.getElem?_set_ne (Ne.symm ne)]
      exact S.slot j s e
  dist := fun a b ds es p ne ea eb sa sb => by
    rcases get_set ea with ⟨rfl, q⟩ | ⟨na, ea⟩
    · cases q
    · rcases get_set eb with ⟨rfl, q⟩ | ⟨nb, eb⟩
      · cases q
      · rw [List.getElem?_set_ne (Ne.symm na)] at sa
        rw [List.getElem?_set_ne (Ne.symm nb)] at sb
        exact S.dist a b ds es p ne ea eb sa sb
theorem SR.drop (S : SR K C Pr F σ ρ m H) (i : Nat) (x : Option V) : SR K C Pr F (σ.set i x) (ρ.set i .un) m H where
  keep := S.keep
  pre := S.pre
  new := S.new
  prs := S.prs
  prn := S.prn
  prf := S.prf
  rz := S.rz
  len := by simpa using S.len
  slot := fun j s e => by
    rcases get_set e with ⟨rfl, rfl⟩ | ⟨ne, e⟩
    · trivial
    · rw [List.getElem?_set_ne (Ne.symm ne)]
      exact S.slot j s e
  dist := fun a b ds es p ne ea eb sa sb => by
    rcases get_set ea with ⟨rfl, q⟩ | ⟨na, ea⟩
    · cases q
    · rcases get_set eb with ⟨rfl, q⟩ | ⟨nb, eb⟩
      · cases q
      · rw [List.getElem?_set_ne (Ne.symm na)] at sa
        rw [List.getElem?_set_ne (Ne.symm nb)] at sb
        exact S.dist a b ds es p ne ea eb sa sb
theorem SR.ownedN (S : SR K C Pr F σ ρ m H) (t : Te Pr F H Pr' F' H') (S' : SR K C Pr' F' σ ρ m' H') {p : Addr} {vs : List V} {ds : List D} (i : Nat) (hn : H p = none) (hp : H' p = some (.lst vs)) (np : ¬ Pr' p)
    (h : DnA true K F' (sv C.H0 (fun a => Pr' a ∨ a = p) H') vs ds) :
    SR K C (fun a => Pr' a ∨ a = p) F' (σ.set i (some (.ref p))) (ρ.set i (.own ds)) m' H' ∧ Te Pr F H (fun a => Pr' a ∨ a = p) F' H' := by
  have t2 : Te Pr F H (fun a => Pr' a ∨ a = p) F' H' := by
    refine ⟨⟨t.pre, fun a h n => ?_, t.fn, t.stay, t.keep⟩, fun a h => .inl (t.prm a h), t.all⟩
    rcases h with h | rfl
    · exact t.prn a h n
    · exact hn
  have nf : p ∉ F' := fun z => np (S'.prf p z)
  have h0p : C.K0 p = none := S.k0n hn
  refine ⟨⟨S'.keep, S'.pre, S'.new, fun a ha => ?_, fun a ha n => ?_, fun a ha => .inl (S'.prf a ha), S'.rz, by simpa using S'.len, fun j s e => ?_, fun a b ds es q ne ea eb sa sb => ?_⟩, t2⟩
  · rcases ha with ha | rfl
    · exact S'.prs a ha
    · exact ⟨_, hp, fun z => z⟩
  · rcases ha with ha | rfl
    · exact S'.prn a ha n
    · exact h0p
  · rcases get_set e with ⟨rfl, rfl⟩ | ⟨ne, e⟩
    · have hi : j < σ.length := by rw [← S.len]; exact lt_of_set e
      exact ⟨p, vs, by rw [List.getElem?_set_self hi], hp, .inr rfl, nf, h⟩
    · rw [List.getElem?_set_ne (Ne.symm ne)]
      cases s with
      | un => trivial
      | bor d => exact S.slot j _ e
      | val d =>
        obtain ⟨v, e1, q⟩ := S.slot j _ e
        exact ⟨v, e1, q.tr t2.toTr S.prs⟩
      | dct kvs => exact Sk.tr S.prs t2.toTr (fun q _ nq o hq => t.all q o nq hq) (fun q pq _ => .inl (t.prm q pq)) (S.slot j _ e)
      | own ds' =>
        exact Sk.tr S.prs t2.toTr (fun q _ nq o hq => t.all q o nq hq) (fun q pq _ => .inl (t.prm q pq)) (S.slot j _ e)
  · have own : ∀ c es', c ≠ i → ρ[c]? = some (.own es') → σ[c]? = some (some (.ref p)) → False := fun c es' nc ec sc => by
      obtain ⟨q', ws, e1, h1, h2, _⟩ := S'.slot c _ ec
      rw [sc] at e1
      cases e1
      exact np h2
    by_cases ha : a = i
    · subst ha
      have hi : a < σ.length := by rw [← S.len]; exact lt_of_set ea
      rw [List.getElem?_set_self hi] at sa
      cases sa
      rw [List.getElem?_set_ne ne] at eb sb
      exact own b _ (Ne.symm ne) eb sb
    · rw [List.getElem?_set_ne (Ne.symm ha)] at ea sa
      by_cases hb : b = i
      · subst hb
        have hi : b < σ.length := by rw [← S.len]; exact lt_of_set eb
        rw [List.getElem?_set_self hi] at sb
        cases sb
        exact own a _ ha ea sa
      · rw [List.getElem?_set_ne (Ne.symm hb)] at eb sb
        exact S.dist a b _ _ q ne ea eb sa sb
theorem SR.owned (S : SR K C Pr F σ ρ m H) (t : Te Pr F H Pr' F' H') (S' : SR K C Pr' F' σ ρ m' H') {p : Addr} {vs : List V} {ds : List D} (i : Nat) (hn : H p = none) (hp : H' p = some (.lst vs)) (np : ¬ Pr' p)
    (h : DnA true K F' (sv C.H0 Pr' H') vs ds) (n : D.nls ds = true) :
    SR K C (fun a => Pr' a ∨ a = p) F' (σ.set i (some (.ref p))) (ρ.set i (.own ds)) m' H' ∧ Te Pr F H (fun a => Pr' a ∨ a = p) F' H' :=
  S.ownedN t S' i hn hp np (h.flat ⟨[], by simp⟩ (fun a o i q => vw_iff.mpr ⟨sv_le q, .inl i⟩) n)
theorem SR.change (S : SR K C Pr F σ ρ m H) {i : Nat} {p : Addr} {ds es : List D} {ws : List V} (e : ρ[i]? = some (.own ds)) (e1 : σ[i]? = some (some (.ref p))) (h : DnA true K F (sv C.H0 Pr H) ws es) :
    SR K C Pr F σ (ρ.set i (.own es)) m (upd H p (.lst ws)) ∧ Tr Pr F H Pr F (upd H p (.lst ws)) := by
  obtain ⟨p', vs, e2, hp, pp, nf, h4⟩ := S.slot i _ e
  rw [e1] at e2
  cases e2
  have t : Tr Pr F H Pr F (upd H p (.lst ws)) := ⟨⟨[], by simp⟩, fun _ h n => absurd h n, fun _ h n => absurd h n, fun a o h => by
    by_cases q : a = p
    · exact ⟨_, by rw [q, upd_same]⟩
    · exact ⟨o, by rw [upd_ne q]; exact h⟩, fun a o n h => by rw [upd_ne (fun q => n (by rw [q]; exact pp))]; exact h⟩
  have h0p : C.K0 p = none := S.prn p pp nf
  refine ⟨⟨fun a o n e => ?_, S.pre, S.new, fun a ha => ?_, S.prn, S.prf, C.W.keep S.rz (fun a ha => upd_ne fun q => nf (q ▸ ha)) (fun a o it e => by rw [upd_ne (fun q => by rw [q, hp] at e; cases e; exact it)]; exact e), by simpa using S.len, fun j s e => ?_, fun a b ds' es' q ne ea eb sa sb => ?_⟩, t⟩
  · rw [upd_ne (fun q => by rw [q, h0p] at e; cases e)]
    exact S.keep a o n e
  · by_cases q : a = p
    · exact ⟨.lst ws, by rw [q, upd_same], fun z => z⟩
    · obtain ⟨o, e, n⟩ := S.prs a ha
      exact ⟨o, by rw [upd_ne q]; exact e, n⟩
  · rcases get_set e with ⟨rfl, rfl⟩ | ⟨ne, e⟩
    · exact ⟨p, ws, e1, upd_same, pp, nf, h.mono ⟨[], by simp⟩ (sv_tr t S.prs)⟩
    · cases s with
      | un => trivial
      | bor d => exact S.slot j _ e
      | val d =>
        obtain ⟨v, e1, q⟩ := S.slot j _ e
        exact ⟨v, e1, q.tr t S.prs⟩
      | dct kvs =>
        obtain ⟨q, e3, h1, h2, h3⟩ := S.slot j _ e
        refine ⟨q, e3, ?_, h2, h3⟩
        rw [upd_ne (fun z => ?_)]
        · exact h1
        · subst z; rw [hp] at h1; cases h1
      | own ds' =>
        obtain ⟨q, ws', e3, h1, h2, h3, h4⟩ := S.slot j _ e
        refine ⟨q, ws', e3, ?_, h2, h3, h4.mono ⟨[], by simp⟩ (sv_tr t S.prs)⟩
        rw [upd_ne (fun z => ?_)]
        · exact h1
        · subst z
          exact S.dist j i _ _ _ ne e ‹ρ[i]? = some (.own ds)› e3 e1
  · have old : ∀ (c : Nat) (x : List D), (ρ.set i (.own es))[c]? = some (Sl.own x) → ∃ y, ρ[c]? = some (Sl.own y) := fun c x h => by
      rcases get_set h with ⟨q', z⟩ | ⟨_, z⟩
      · exact ⟨ds, by rw [q']; exact e⟩
      · exact ⟨x, z⟩
    obtain ⟨y, ea⟩ := old a _ ea
    obtain ⟨z, eb⟩ := old b _ eb
    exact S.dist a b y z q ne ea eb sa sb
theorem SR.release (S : SR K C Pr F σ ρ m H) {i : Nat} {ds : List D} (e : ρ[i]? = some (.own ds)) :
    ∃ Pr', SR K C Pr' F σ (ρ.set i (.val (.lst ds))) m H ∧ Tr Pr F H Pr' F H := by
  obtain ⟨p, vs, e1, hp, pp, nf, h4⟩ := S.slot i _ e
  have h0p : C.K0 p = none := S.prn p pp nf
  have t : Tr Pr F H (fun a => Pr a ∧ a ≠ p) F H := ⟨⟨[], by simp⟩, fun _ h n => absurd h.1 n, fun _ h n => absurd h n, fun a o h => ⟨o, h⟩, fun _ _ _ h => h⟩
  refine ⟨_, ⟨S.keep, S.pre, S.new, fun a h => S.prs a h.1, fun a h n => S.prn a h.1 n, fun a h => ⟨S.prf a h, fun q => nf (q ▸ h)⟩, S.rz, by simpa using S.len, fun j s ej => ?_, fun a b ds' es' q ne ea eb sa sb => ?_⟩, t⟩
  · rcases get_set ej with ⟨rfl, rfl⟩ | ⟨ne, ej⟩
    · refine ⟨.ref p, e1, .lst (vw_iff.mpr ⟨hp, .inr ⟨trivial, fun z => z.2 rfl, C.k0 h0p⟩⟩) (h4.mono ⟨[], by simp⟩ (sv_tr t S.prs))⟩
    · cases s with
      | un => trivial
      | bor d => exact S.slot j _ ej
      | val d =>
        obtain ⟨v, e1, q⟩ := S.slot j _ ej
        exact ⟨v, e1, q.tr t S.prs⟩
      | dct kvs =>
        obtain ⟨q, e3, h1, h2, h3⟩ := S.slot j _ ej
        exact ⟨q, e3, h1, ⟨h2, fun z => by subst z; rw [hp] at h1; cases h1⟩, h3⟩
      | own ds' =>
        obtain ⟨q, ws', e3, h1, h2, h3, h4⟩ := S.slot j _ ej
        refine ⟨q, ws', e3, h1, ⟨h2, fun z => ?_⟩, h3, h4.mono ⟨[], by simp⟩ (sv_tr t S.prs)⟩
        subst z
        exact S.dist j i _ _ _ ne ej e e3 e1
  · rcases get_set ea with ⟨rfl, z⟩ | ⟨na, ea⟩
    · cases z
    · rcases get_set eb with ⟨rfl, z⟩ | ⟨nb, eb⟩
      · cases z
      · exact S.dist a b _ _ q ne ea eb sa sb
def wipeD (ρ : En) : List Nat → En
  | [] => ρ
  | i :: r => (wipeD ρ r).set i .un
theorem SR.wipe : ∀ (vs : List Nat) {σ : L2.St} {ρ : En}, SR K C Pr F σ ρ m H → SR K C Pr F (L2.wipe σ vs) (wipeD ρ vs) m H
  | [], _, _, S => S
  | i :: r, σ, ρ, S => by
    unfold L2.wipe wipeD
    exact (SR.wipe r S).drop i none
theorem SR.back {σ' : L2.St} {ρ' : En} (S : SR K C Pr F σ ρ m H) (t : Te Pr F H Pr' F' H') (S' : SR K C Pr' F' σ' ρ' m' H') : SR K C Pr' F' σ ρ m' H' where
  keep := S'.keep
  pre := S'.pre
  new := S'.new
  prs := S'.prs
  prn := S'.prn
  prf := S'.prf
  rz := S'.rz
  len := S.len
  slot := fun i s e => Sk.tr S.prs t.toTr (fun p _ nf o h => t.all p o nf h) (fun p h _ => t.prm p h) (S.slot i s e)
  dist := S.dist
end RR
namespace RR
open PySem PySem.Spec PyProof.Rows L2
abbrev DT (M : Type) := En → M → (D → M → Prop) → (Str → M → Prop) → Prop
abbrev DTT (M : Type) := En → M → (Bool → M → Prop) → (Str → M → Prop) → Prop
abbrev DTA (M : Type) := En → M → (List D → M → Prop) → (Str → M → Prop) → Prop
inductive Cl where
  | w | s | f | r
def Dv (K : PySem.W.Frag) (C : Cn) : Cl → (Addr → Prop) → List Addr → Hp → Hp → V → D → Prop
  | .w, _, F', _, H', v, d => Dn false K F' (wv F' H') v d
  | .s, Pr', F', _, H', v, d => Dn true K F' (sv C.H0 Pr' H') v d
  | .r, _, F', _, H', v, d => Dn true K F' (sv C.H0 (· ∈ F') H') v d
  | .f, Pr', F', H, H', v, d => Dn true K F' (sv C.H0 Pr' H') v d ∧ ∀ ds, d = .lst ds → ∃ p vs, v = .ref p ∧ H p = none ∧ ¬ Pr' p ∧ H' p = some (.lst vs) ∧ DnA true K F' (sv C.H0 Pr' H') vs ds
def DvA (K : PySem.W.Frag) (C : Cn) : Cl → (Addr → Prop) → List Addr → Hp → List V → List D → Prop
  | .w, _, F', H', v, d => DnA false K F' (wv F' H') v d
  | .r, _, F', H', v, d => DnA true K F' (sv C.H0 (· ∈ F') H') v d
  | _, Pr', F', H', v, d => DnA true K F' (sv C.H0 Pr' H') v d
def Post (K : PySem.W.Frag) (C : Cn) (c : Cl) (Pr : Addr → Prop) (F : List Addr) (H : Hp) (σ : L2.St) (ρ : En) (Q : D → C.W.M → Prop) : VK := fun v H' =>
  ∃ Pr' F' m' d, SR K C Pr' F' σ ρ m' H' ∧ Te Pr F H Pr' F' H' ∧ Dv K C c Pr' F' H H' v d ∧ Q d m'
def PostA (K : PySem.W.Frag) (C : Cn) (c : Cl) (Pr : Addr → Prop) (F : List Addr) (H : Hp) (σ : L2.St) (ρ : En) (Q : List D → C.W.M → Prop) : List V → Hp → Prop := fun vs H' =>
  ∃ Pr' F' m' ds, SR K C Pr' F' σ ρ m' H' ∧ Te Pr F H Pr' F' H' ∧ DvA K C c Pr' F' H' vs ds ∧ Q ds m'
def PostT (K : PySem.W.Frag) (C : Cn) (Pr : Addr → Prop) (F : List Addr) (H : Hp) (σ : L2.St) (ρ : En) (Q : Bool → C.W.M → Prop) : Bool → Hp → Prop := fun b H' =>
  ∃ Pr' F' m', SR K C Pr' F' σ ρ m' H' ∧ Te Pr F H Pr' F' H' ∧ Q b m'
def Ex (X : Cx) (C : Cn) (Pr : Addr → Prop) (F : List Addr) (H : Hp) (σ : L2.St) (ρ : En) (Z : Str → C.W.M → Prop) : Prop :=
  ∀ x cls Pr' F' m' H', X.mg x = some cls → SR X.K C Pr' F' σ ρ m' H' → Tr Pr F H Pr' F' H' → Z x m' → C.wx cls none σ H'
def J (c : Cl) (X : Cx) (C : Cn) (e : Expr) (t : DT C.W.M) : Prop := ∃ te, PE X e te ∧
  ∀ σ H Pr F ρ m Q Z (R : VK), SR X.K C Pr F σ ρ m H → Ex X C Pr F H σ ρ Z → t ρ m Q Z → (∀ v H', Post X.K C c Pr F H σ ρ Q v H' → R v H') → te σ H R
def JT (X : Cx) (C : Cn) (e : Expr) (t : DTT C.W.M) : Prop := ∃ te, PT X e te ∧
  ∀ σ H Pr F ρ m Q Z (R : Bool → Hp → Prop), SR X.K C Pr F σ ρ m H → Ex X C Pr F H σ ρ Z → t ρ m Q Z → (∀ v H', PostT X.K C Pr F H σ ρ Q v H' → R v H') → te σ H R
def JW (X : Cx) (C : Cn) (e : Expr) (t : DTT C.W.M) : Prop := ∃ te, PW X e te ∧
  ∀ σ H Pr F ρ m Q Z (R : Bool → Hp → Prop), SR X.K C Pr F σ ρ m H → Ex X C Pr F H σ ρ Z → t ρ m Q Z → (∀ v H', PostT X.K C Pr F H σ ρ Q v H' → R v H') → te σ H R
def JA (c : Cl) (X : Cx) (C : Cn) (es : List Expr) (t : DTA C.W.M) : Prop := ∃ te, PA X es te ∧
  ∀ σ H Pr F ρ m Q Z (R : List V → Hp → Prop), SR X.K C Pr F σ ρ m H → Ex X C Pr F H σ ρ Z → t ρ m Q Z → (∀ v H', PostA X.K C c Pr F H σ ρ Q v H' → R v H') → te σ H R
section
variable {K : PySem.W.Frag} {C : Cn} {Pr Pr' Pr2 : Addr → Prop} {F F' F2 : List Addr} {σ : L2.St} {ρ : En} {m m' : C.W.M} {H H' H2 : Hp} {v : V} {d : D} {vs : List V} {ds : List D}
theorem SR.sv_wv (S : SR K C Pr F σ ρ m H) : ∀ a o, sv C.H0 Pr H a = some o → wv F H a = some o := fun a o h => by
  obtain ⟨e, q⟩ := vw_iff.mp h
  refine vw_iff.mpr ⟨e, fun z => ?_⟩
  rcases q with q | q
  · obtain ⟨o', e', n⟩ := S.prs a (S.prf a z)
    rw [e] at e'; cases e'
    exact n q
  · exact q.2.1 (S.prf a z)
theorem SR.sv_rv (S : SR K C Pr F σ ρ m H) : ∀ a o, sv C.H0 Pr H a = some o → sv C.H0 (· ∈ F) H a = some o := fun a o h => by
  obtain ⟨e, q⟩ := vw_iff.mp h
  exact vw_iff.mpr ⟨e, q.imp id fun q => ⟨q.1, fun z => q.2.1 (S.prf a z), q.2.2⟩⟩
theorem rv_te {H0 : Hp} (t : Te Pr F H Pr' F' H') (ht : ∀ a ∈ F, ∃ o, H a = some o ∧ ¬ IsT o) : ∀ a o, sv H0 (· ∈ F) H a = some o → sv H0 (· ∈ F') H' a = some o := fun a o h => by
  obtain ⟨e, q⟩ := vw_iff.mp h
  have nf : a ∉ F := fun z => by
    rcases q with q | q
    · obtain ⟨o', e', n⟩ := ht a z
      rw [e] at e'; cases e'
      exact n q
    · exact q.2.1 z
  refine vw_iff.mpr ⟨t.all a o nf e, q.imp id fun q => ⟨q.1, fun z => ?_, q.2.2⟩⟩
  have z := t.fn a z nf
  rw [e] at z; cases z
theorem Dv.sw (S : SR K C Pr' F' σ ρ m H') (h : Dv K C .s Pr' F' H H' v d) : Dv K C .w Pr' F' H H' v d := Dn.weak (Dn.mono ⟨[], by simp⟩ S.sv_wv (show Dn true K F' (sv C.H0 Pr' H') v d from h))
theorem Dv.sr (S : SR K C Pr' F' σ ρ m H') (h : Dv K C .s Pr' F' H H' v d) : Dv K C .r Pr' F' H H' v d := Dn.mono ⟨[], by simp⟩ S.sv_rv (show Dn true K F' (sv C.H0 Pr' H') v d from h)
theorem Dv.fs (h : Dv K C .f Pr' F' H H' v d) : Dv K C .s Pr' F' H H' v d := h.1
theorem Post.imp {c c' : Cl} {Q : D → C.W.M → Prop} (h : Post K C c Pr F H σ ρ Q v H') (i : ∀ Pr' F' m' d, SR K C Pr' F' σ ρ m' H' → Dv K C c Pr' F' H H' v d → Dv K C c' Pr' F' H H' v d) : Post K C c' Pr F H σ ρ Q v H' := by
  obtain ⟨Pr', F', m', d, S, t, q, r⟩ := h
  exact ⟨Pr', F', m', d, S, t, i _ _ _ _ S q, r⟩
theorem Dv.te {c : Cl} (hc : c ≠ .f) (S : SR K C Pr F σ ρ m H) (t : Te Pr F H Pr' F' H') {Ha Hb : Hp} (h : Dv K C c Pr F Ha H v d) : Dv K C c Pr' F' Hb H' v d := by
  cases c with
  | w => exact Dn.te t h
  | s => exact Dn.tr t.toTr S.prs h
  | r => exact Dn.mono t.pre (rv_te t fun a z => S.prs a (S.prf a z)) h
  | f => exact absurd rfl hc
theorem DvA.cons {c : Cl} (hc : c ≠ .f) {Ha : Hp} (h : Dv K C c Pr F Ha H v d) (r : DvA K C c Pr F H vs ds) : DvA K C c Pr F H (v :: vs) (d :: ds) := by
  cases c with
  | w => exact DnA.cons h r
  | s => exact DnA.cons h r
  | r => exact DnA.cons h r
  | f => exact absurd rfl hc
theorem Ex.te {X : Cx} {Z : Str → C.W.M → Prop} (h : Ex X C Pr F H σ ρ Z) (t : Tr Pr F H Pr' F' H') : Ex X C Pr' F' H' σ ρ Z := fun x cls P2 F2 m2 H2 e S t2 z => h x cls P2 F2 m2 H2 e S (t.trans t2) z
theorem Post.te {c : Cl} {Q : D → C.W.M → Prop} (t : Te Pr F H Pr' F' H') (h : Post K C c Pr' F' H' σ ρ Q v H2) : Post K C c Pr F H σ ρ Q v H2 := by
  obtain ⟨P2, F2, m2, d, S, t2, q, r⟩ := h
  refine ⟨P2, F2, m2, d, S, t.trans t2, ?_, r⟩
  cases c with
  | w => exact q
  | s => exact q
  | r => exact q
  | f =>
    refine ⟨q.1, fun ds e => ?_⟩
    obtain ⟨p, vs, e1, e2, e3⟩ := q.2 ds e
    exact ⟨p, vs, e1, some_of (t.stay p) e2, e3⟩
theorem PostA.te {c : Cl} {Q : List D → C.W.M → Prop} (t : Te Pr F H Pr' F' H') (h : PostA K C c Pr' F' H' σ ρ Q vs H2) : PostA K C c Pr F H σ ρ Q vs H2 := by
  obtain ⟨P2, F2, m2, d, S, t2, q, r⟩ := h
  exact ⟨P2, F2, m2, d, S, t.trans t2, q, r⟩
theorem PostT.te {Q : Bool → C.W.M → Prop} {b : Bool} (t : Te Pr F H Pr' F' H') (h : PostT K C Pr' F' H' σ ρ Q b H2) : PostT K C Pr F H σ ρ Q b H2 := by
  obtain ⟨P2, F2, m2, S, t2, r⟩ := h
  exact ⟨P2, F2, m2, S, t.trans t2, r⟩
theorem dv_flat (S : SR K C Pr' F' σ ρ m H') (h : Dn true K F' (sv C.H0 Pr' H') v d) (n : ∀ ds, d ≠ .lst ds) : Dv K C .f Pr' F' H H' v d := ⟨h, fun ds e => absurd e (n ds)⟩
end
section
variable {X : Cx} {C : Cn} {e : Expr} {es : List Expr} {pos : Pos}
theorem J.up {c c' : Cl} {t : DT C.W.M} (h : J c X C e t) (i : ∀ Pr' F' m' d H H' v σ ρ, SR X.K C Pr' F' σ ρ m' H' → Dv X.K C c Pr' F' H H' v d → Dv X.K C c' Pr' F' H H' v d) : J c' X C e t := by
  obtain ⟨te, p, q⟩ := h
  exact ⟨te, p, fun σ H Pr F ρ m Q Z R S E h k => q σ H Pr F ρ m Q Z R S E h fun v H' z => k v H' (z.imp fun _ _ _ _ S => i _ _ _ _ _ _ _ _ _ S)⟩
theorem J.sf {t : DT C.W.M} (h : J .f X C e t) : J .s X C e t := h.up fun _ _ _ _ _ _ _ _ _ S q => q.fs
theorem J.sw {t : DT C.W.M} (h : J .s X C e t) : J .w X C e t := h.up fun _ _ _ _ _ _ _ _ _ S q => q.sw S
theorem J.sr {t : DT C.W.M} (h : J .s X C e t) : J .r X C e t := h.up fun _ _ _ _ _ _ _ _ _ S q => q.sr S
theorem J.fw {t : DT C.W.M} (h : J .f X C e t) : J .w X C e t := h.sf.sw
theorem J.fr {t : DT C.W.M} (h : J .f X C e t) : J .r X C e t := h.sf.sr
def dVar {M : Type} (i : Nat) : DT M := fun ρ m Q _ => match ρ[i]? with | some (.val d) => Q d m | _ => False
def dBor {M : Type} (i : Nat) : DT M := fun ρ m Q _ => match ρ[i]? with | some (.bor d) => Q d m | _ => False
def dOwn {M : Type} (i : Nat) : DT M := fun ρ m Q _ => match ρ[i]? with | some (.own ds) => Q (.lst ds) m | _ => False
def dC {M : Type} (d : D) : DT M := fun _ m Q _ => Q d m
theorem j_var (i : Nat) {x : Str} (hN : X.N[i]? = some x := by rfl) (hv : Vis X.env.scope x := by first | exact Or.inl rfl | exact Or.inr (Or.inl rfl) | exact Or.inr (Or.inr rfl)) (hd : (x == ("__debug__" : Str)) = false := by decide)
    (hcd : (x == ("__classdict__" : Str)) = false := by decide) : J .s X C (.Name x pos) (dVar i) := by
  refine ⟨_, pe_var hN hv hd hcd, fun σ H Pr F ρ m Q Z R S E h k => ?_⟩
  unfold dVar at h
  split at h
  · rename_i d e
    obtain ⟨v, e1, q⟩ := S.slot i _ e
    exact ⟨v, e1, k _ _ ⟨Pr, F, m, d, S, Te.refl, q, h⟩⟩
  · exact h.elim
theorem j_bor (i : Nat) {x : Str} (hN : X.N[i]? = some x := by rfl) (hv : Vis X.env.scope x := by first | exact Or.inl rfl | exact Or.inr (Or.inl rfl) | exact Or.inr (Or.inr rfl)) (hd : (x == ("__debug__" : Str)) = false := by decide)
    (hcd : (x == ("__classdict__" : Str)) = false := by decide) : J .w X C (.Name x pos) (dBor i) := by
  refine ⟨_, pe_var hN hv hd hcd, fun σ H Pr F ρ m Q Z R S E h k => ?_⟩
  unfold dBor at h
  split at h
  · rename_i d e
    obtain ⟨v, e1, q⟩ := S.slot i _ e
    refine ⟨v, e1, k _ _ ⟨Pr, F, m, d, S, Te.refl, q.mono S.pre fun a o z => ?_, h⟩⟩
    obtain ⟨e, n⟩ := vw_iff.mp z
    refine vw_iff.mpr ⟨S.keep a o n e, fun z => ?_⟩
    rw [S.new a z n] at e; cases e
  · exact h.elim
theorem j_own (i : Nat) {x : Str} (hN : X.N[i]? = some x := by rfl) (hv : Vis X.env.scope x := by first | exact Or.inl rfl | exact Or.inr (Or.inl rfl) | exact Or.inr (Or.inr rfl)) (hd : (x == ("__debug__" : Str)) = false := by decide)
    (hcd : (x == ("__classdict__" : Str)) = false := by decide) : J .w X C (.Name x pos) (dOwn i) := by
  refine ⟨_, pe_var hN hv hd hcd, fun σ H Pr F ρ m Q Z R S E h k => ?_⟩
  unfold dOwn at h
  split at h
  · rename_i d e
    obtain ⟨p, vs, e1, hp, pp, nf, q⟩ := S.slot i _ e
    exact ⟨.ref p, e1, k _ _ ⟨Pr, F, m, .lst d, S, Te.refl, .lst (.inl (.inl (vw_iff.mpr ⟨hp, nf⟩))) (q.mono ⟨[], by simp⟩ S.sv_wv).weak, h⟩⟩
  · exact h.elim
theorem j_ownr (i : Nat) {x : Str} (hN : X.N[i]? = some x := by rfl) (hv : Vis X.env.scope x := by first | exact Or.inl rfl | exact Or.inr (Or.inl rfl) | exact Or.inr (Or.inr rfl)) (hd : (x == ("__debug__" : Str)) = false := by decide)
    (hcd : (x == ("__classdict__" : Str)) = false := by decide) : J .r X C (.Name x pos) (dOwn i) := by
  refine ⟨_, pe_var hN hv hd hcd, fun σ H Pr F ρ m Q Z R S E h k => ?_⟩
  unfold dOwn at h
  split at h
  · rename_i d e
    obtain ⟨p, vs, e1, hp, pp, nf, q⟩ := S.slot i _ e
    exact ⟨.ref p, e1, k _ _ ⟨Pr, F, m, .lst d, S, Te.refl, .lst (vw_iff.mpr ⟨hp, .inr ⟨trivial, nf, C.k0 (S.prn p pp nf)⟩⟩) (q.mono ⟨[], by simp⟩ S.sv_rv), h⟩⟩
  · exact h.elim
theorem j_cst {te : V} {d : D} (p : PE X e (tC te)) (h : ∀ F G, Dn true X.K F G te d) (n : ∀ ds, d ≠ .lst ds) : J .f X C e (dC d) :=
  ⟨_, p, fun σ H Pr F ρ m Q Z R S E q k => k _ _ ⟨Pr, F, m, d, S, Te.refl, dv_flat S (h _ _) n, q⟩⟩
theorem j_int {i j} : J .f X C (.Constant (.int i) j pos) (dC (.int i)) := j_cst pe_int (fun _ _ => .int i) (fun _ h => nomatch h)
theorem j_bl {b j} : J .f X C (.Constant (.bool b) j pos) (dC (.bl b)) := j_cst pe_bl (fun _ _ => .bl b) (fun _ h => nomatch h)
theorem j_non {j} : J .f X C (.Constant .none j pos) (dC .non) := j_cst pe_non (fun _ _ => .non) (fun _ h => nomatch h)
def Cst (K : PySem.W.Frag) (mg : Str → Option Value) (x : Str) (d : D) : Prop := ∃ u v, mg x = some u ∧ RelV v u ∧ Dn true K [] (fun _ => none) v d
theorem j_glob {x : Str} {d : D} (hg : Gl X x) (h : Cst X.K X.mg x d) (hd : (x == ("__debug__" : Str)) = false := by decide) : J .f X C (.Name x pos) (dC d) := by
  obtain ⟨u, v, hm, r, q⟩ := h
  refine j_cst (pe_glob hg hm r hd) (fun F G => q.mono ⟨F, by simp⟩ fun a o z => by cases z) fun ds e => ?_
  subst e
  cases q with
  | lst h _ => cases h
def dNil {M : Type} : DTA M := fun _ m Q _ => Q [] m
def dCons {M : Type} (t : DT M) (u : DTA M) : DTA M := fun ρ m Q Z => t ρ m (fun d m1 => u ρ m1 (fun ds m2 => Q (d :: ds) m2) Z) Z
theorem ja_nil {c : Cl} : JA c X C [] dNil := ⟨_, pa_nil, fun σ H Pr F ρ m Q Z R S E h k => k _ _ ⟨Pr, F, m, [], S, Te.refl, by cases c <;> exact .nil, h⟩⟩
theorem ja_cons {c : Cl} {t : DT C.W.M} {u : DTA C.W.M} (hc : c ≠ .f) (h : J c X C e t) (r : JA c X C es u) (hs : starEach (e :: es) X.env = (false, eval e X.env) :: starEach es X.env := by rfl) : JA c X C (e :: es) (dCons t u) := by
  obtain ⟨te, p, q⟩ := h
  obtain ⟨tr, p', q'⟩ := r
  refine ⟨_, pa_cons p p' hs, fun σ H Pr F ρ m Q Z R S E h k => ?_⟩
  refine q σ H Pr F ρ m _ Z _ S E h fun v H1 z => ?_
  obtain ⟨P1, F1, m1, d, S1, t1, dv, z⟩ := z
  refine q' σ H1 P1 F1 ρ m1 _ Z _ S1 (E.te t1.toTr) z fun vs H2 z => k _ _ ?_
  obtain ⟨P2, F2, m2, ds, S2, t2, dvs, z⟩ := z
  exact ⟨P2, F2, m2, d :: ds, S2, t1.trans t2, DvA.cons hc (dv.te hc S1 t2 (Hb := H)) dvs, z⟩
def dTup {M : Type} (t : DTA M) : DT M := fun ρ m Q Z => t ρ m (fun ds m1 => ds.length ≤ sizeLine ∧ Q (.tup ds) m1) Z
def dLst {M : Type} (t : DTA M) : DT M := fun ρ m Q Z => t ρ m (fun ds m1 => ds.length ≤ sizeLine ∧ Q (.lst ds) m1) Z
theorem DvA.len {K : PySem.W.Frag} {c : Cl} {Pr : Addr → Prop} {F : List Addr} {H : Hp} {vs : List V} {ds : List D} (h : DvA K C c Pr F H vs ds) : vs.length = ds.length := by
  cases c <;> exact DnA.length h
theorem j_tup {t : DTA C.W.M} {k} (h : JA .s X C es t) : J .f X C (.Tuple es k pos) (dTup t) := by
  obtain ⟨te, p, q⟩ := h
  refine ⟨_, pe_tup p, fun σ H Pr F ρ m Q Z R S E h k => ?_⟩
  refine q σ H Pr F ρ m _ Z _ S E h fun vs H1 ⟨P1, F1, m1, ds, S1, t1, dv, z, r⟩ => ⟨by rw [dv.len]; exact z, fun p hp => k _ _ ?_⟩
  obtain ⟨S2, t2⟩ := S1.new1 (o := .tup vs) hp
  exact ⟨P1, F1, m1, .tup ds, S2, t1.trans t2, dv_flat S2 (.tup (.inl (vw_iff.mpr ⟨upd_same, .inl trivial⟩)) (DnA.mono t2.pre (sv_tr t2.toTr S1.prs) dv)) (fun _ h => nomatch h), r⟩
theorem j_lst {t : DTA C.W.M} (h : JA .s X C es t) : J .f X C (.List es pos) (dLst t) := by
  obtain ⟨te, p, q⟩ := h
  refine ⟨_, pe_lst p, fun σ H Pr F ρ m Q Z R S E h k => ?_⟩
  refine q σ H Pr F ρ m _ Z _ S E h fun vs H1 ⟨P1, F1, m1, ds, S1, t1, dv, z, r⟩ => ⟨by rw [dv.len]; exact z, fun p hp => k _ _ ?_⟩
  obtain ⟨S2, t2⟩ := S1.new1 (o := .lst vs) hp
  have np := S1.np hp
  have dv2 : DnA true X.K F1 (sv C.H0 P1 (upd H1 p (.lst vs))) vs ds := DnA.mono t2.pre (sv_tr t2.toTr S1.prs) dv
  exact ⟨P1, F1, m1, .lst ds, S2, t1.trans t2, ⟨.lst (vw_iff.mpr ⟨upd_same, .inr ⟨trivial, np, S1.h0n hp⟩⟩) dv2, fun ds' e => by cases e; exact ⟨p, vs, rfl, some_of (t1.stay p) hp, np, upd_same, dv2⟩⟩, r⟩
abbrev G2 := D → D → (D → Prop) → Prop
def OpOk (X : Cx) (C : Cn) (f : Value → Value → Sem Value) (g : G2) : Prop := ∃ r, OpR X f r ∧
  ∀ σ H Pr F ρ m x y dx dy Q (R : VK), SR X.K C Pr F σ ρ m H → Dn false X.K F (wv F H) x dx → Dn false X.K F (wv F H) y dy → g dx dy (fun d => Q d m) → (∀ v H', Post X.K C .f Pr F H σ ρ Q v H' → R v H') → r x y H R
def dBin {M : Type} (g : G2) (t u : DT M) : DT M := fun ρ m Q Z => t ρ m (fun x m1 => u ρ m1 (fun y m2 => g x y fun d => Q d m2) Z) Z
variable {a b c : Expr} {ta tb tc : DT C.W.M}
theorem j_bin {op : Operator} {g : G2} (o : OpOk X C (binaryOp op) g) (ha : J .w X C a ta) (hb : J .w X C b tb) : J .f X C (.BinOp a op b pos) (dBin g ta tb) := by
  obtain ⟨r, ho, q⟩ := o
  obtain ⟨te, p, q1⟩ := ha
  obtain ⟨te', p', q2⟩ := hb
  refine ⟨_, pe_op ho p p', fun σ H Pr F ρ m Q Z R S E h k => ?_⟩
  refine q1 σ H Pr F ρ m _ Z _ S E h fun v H1 ⟨P1, F1, m1, d, S1, t1, dv, z⟩ => ?_
  refine q2 σ H1 P1 F1 ρ m1 _ Z _ S1 (E.te t1.toTr) z fun w H2 ⟨P2, F2, m2, d2, S2, t2, dv2, z2⟩ => ?_
  exact q σ H2 P2 F2 ρ m2 v w d d2 Q R S2 (Dn.te t2 dv) dv2 z2 fun v H' z => k v H' ((z.te t2).te t1)
theorem post_here {C : Cn} {K : PySem.W.Frag} {Pr : Addr → Prop} {F : List Addr} {H : Hp} {σ : L2.St} {ρ : En} {m : C.W.M} {Q : D → C.W.M → Prop} {v : V} {d : D} (S : SR K C Pr F σ ρ m H) (h : Dn true K F (sv C.H0 Pr H) v d) (n : ∀ ds, d ≠ .lst ds) (q : Q d m) :
    Post K C .f Pr F H σ ρ Q v H := ⟨Pr, F, m, d, S, Te.refl, dv_flat S h n, q⟩
def gII (P : Int → Int → Prop) (f : Int → Int → D) : G2 := fun x y Q => match x, y with | .int i, .int j => P i j ∧ Q (f i j) | _, _ => False
theorem Dn.toInt {s : Bool} {K : PySem.W.Frag} {F : List Addr} {G : Hp} {v : V} {i : Int} (h : Dn s K F G v (.int i)) : v = .int i := by cases h; rfl
theorem opok_int {f : Value → Value → Sem Value} {P : Int → Int → Prop} {g : Int → Int → Int} (h : OpR X f (rI P fun i j => .int (g i j))) : OpOk X C f (gII P fun i j => .int (g i j)) := by
  refine ⟨_, h, fun σ H Pr F ρ m x y dx dy Q R S hx hy q k => ?_⟩
  unfold gII at q
  split at q
  · rw [hx.toInt, hy.toInt]
    exact ⟨_, _, rfl, rfl, q.1, k _ _ (post_here S (.int _) (fun _ h => nomatch h) q.2)⟩
  · exact q.elim
def g0 (f : Int → Int → D) : G2 := fun x y Q => match x, y with | .int i, .int j => Q (f i j) | _, _ => False
theorem opok_int0 {f : Value → Value → Sem Value} {g : Int → Int → Int} (h : OpR X f (rI0 fun i j => .int (g i j))) : OpOk X C f (g0 fun i j => .int (g i j)) := by
  refine ⟨_, h, fun σ H Pr F ρ m x y dx dy Q R S hx hy q k => ?_⟩
  unfold g0 at q
  split at q
  · rw [hx.toInt, hy.toInt]
    exact ⟨_, _, rfl, rfl, k _ _ (post_here S (.int _) (fun _ h => nomatch h) q)⟩
  · exact q.elim
theorem opok_cmp0 {f : Value → Value → Sem Value} {g : Int → Int → Bool} (h : OpR X f (rI0 fun i j => .bl (g i j))) : OpOk X C f (g0 fun i j => .bl (g i j)) := by
  refine ⟨_, h, fun σ H Pr F ρ m x y dx dy Q R S hx hy q k => ?_⟩
  unfold g0 at q
  split at q
  · rw [hx.toInt, hy.toInt]
    exact ⟨_, _, rfl, rfl, k _ _ (post_here S (.bl _) (fun _ h => nomatch h) q)⟩
  · exact q.elim
theorem ok_sub : OpOk X C (binaryOp .Sub) (g0 fun i j => .int (i - j)) := opok_int0 op_sub
theorem ok_pow : OpOk X C (binaryOp .Pow) (gII CPow fun i j => .int (i ^ j.toNat)) := opok_int op_pow
theorem op_mulA : OpR X (binaryOp .Mult) (rI IntMulOk fun i j => .int (i * j)) := opI fun _ _ _ _ _ _ _ hc q => mul_int q hc
def Nz (_ j : Int) : Prop := j ≠ 0
theorem ok_mod : OpOk X C (binaryOp .Mod) (gII Nz fun i j => .int (i.fmod j)) := opok_int op_modN
def Nd (i j : Int) : Prop := j ≠ 0 ∧ Builtin.divisionGoesByPylong i j = false
theorem op_fdivA : OpR X (binaryOp .FloorDiv) (rI Nd fun i j => .int (i.fdiv j)) := opI fun _ _ _ _ _ _ _ hc q => floordiv_int hc.1 q (.inl hc.2)
theorem ok_fdiv : OpOk X C (binaryOp .FloorDiv) (gII Nd fun i j => .int (i.fdiv j)) := opok_int op_fdivA
end
end RR
namespace RR
open PySem PySem.Spec PyProof.Rows L2
structure RoomG (k : Nat) (A : Around) : Prop extends Room k A where
  gd : A.guards = some []
theorem RoomG.mono {i k : Nat} {A : Around} (r : RoomG k A) (h : i ≤ k) : RoomG i A := ⟨r.toRoom.mono h, r.gd⟩
theorem RoomG.next {k : Nat} {A : Around} (r : RoomG (k + 1) A) (env : Env) : RoomG k (A.deeper env) := ⟨r.toRoom.deeper env, r.gd⟩
structure FnG (P : Program) (w : World) (K : PySem.W.Frag) (mg : Str → Option Value) (B : Heap) (C : CXT) (k : Nat) (f : Addr) (fd : FuncData) (ps : List Str) (sp : Sp) : Prop where
  ln : ∀ {vs H Q E}, sp vs H Q E → vs.length = ps.length
  go : ∀ {A : Around} {out : List Env} {s : Shared} {H : Hp} {args : Args} {us : List Value} {vs : List V} {Q : VK} {E : XK}, RoomG k A → Env0 P w K mg B A out s H → BindsTo s fd args (ps.zip us) → Vals vs us → sp vs H Q E →
    codeAny (model P w) A (.call (.ref f) args) (CR C out P w H s Q E) s
section
variable {P : Program} {w : World} {K : PySem.W.Frag} {mg : Str → Option Value} {B : Heap} {C : CXT} {k : Nat} {f : Addr} {fd : FuncData} {ps : List Str} {sp sp' : Sp}
theorem FnG.mono {j : Nat} (F : FnG P w K mg B C j f fd ps sp) (h : j ≤ k) : FnG P w K mg B C k f fd ps sp := ⟨F.ln, fun r => F.go (r.mono h)⟩
theorem FnG.imp (F : FnG P w K mg B C k f fd ps sp) (h : ∀ vs H Q E, sp' vs H Q E → sp vs H Q E) : FnG P w K mg B C k f fd ps sp' := ⟨fun q => F.ln (h _ _ _ _ q), fun r e b v q => F.go r e b v (h _ _ _ _ q)⟩
theorem fnG_mk {oc dV kV doc pm cdv ct : Value} {od an : Option Addr} {osl : Array (Option Value)} {nm ql : Str} {par : Arguments} {bd : List Stmt} {sc : Scope} {N : List Str}
    (lk : K.lookup f = some ⟨oc, od, .func (PySem.W.fnOf nm ql par bd sc dV kV doc pm an cdv ct), osl⟩) (cd : PySem.W.codeIn K cdv ql = true) (S : FnScope N ps sc) (ln : ∀ vs H Q E, sp vs H Q E → vs.length = ps.length)
    (body : ∀ {A : Around} {out : List Env} {s : Shared} {H : Hp} {vs : List V} {Q : VK} {E : XK}, RoomG k (A.deeper (envOfC ql sc s.heap.objs.size f cdv)) → sp vs H Q E →
      ∃ t, PSs (cxOf C P w K mg B N ql sc f cdv A out s H E) bd t ∧ t { nx := fun _ H1 => Q .non H1, rt := Q } (start N vs) H) : FnG P w K mg B C (k + 1) f (PySem.W.fnOf nm ql par bd sc dV kV doc pm an cdv ct) ps sp := by
  constructor
  · exact fun q => ln _ _ _ _ q
  intro A out s H args us vs Q E room env binds vals asked
  obtain ⟨t, walked, told⟩ := body (A := A) (out := out) (s := s) (H := H) (vs := vs) (Q := Q) (E := E) (room.next _) asked
  have there : ∀ b o, B.get? b = some o → s.heap.get? b = some o := fun b o q => (env.bs b o q).1
  have inS : K.In s.heap := env.mod.kin.keeps there
  have kinds : ∀ y ∈ ps.zip us, sc.names.lookup y.1 = some .local ∨ (sc.names.lookup y.1 = some .cell ∧ ((cellsFrom (s.heap.objs.size + 1) sc.names []).lookup y.1).isSome = true) := by
    rintro ⟨n, u⟩ hy
    exact (S.par n (List.of_mem_zip hy).1).imp id fun q => ⟨q, PySem.W.cellsFrom_some _ _ _ (.inl q)⟩
  refine codeAny_call_function room.toRoom.depth (inS _ _ lk) rfl S.co S.gen rfl (PySem.W.codeRec_of inS cd) (binds _ _ _ _ ?_)
  refine wpAny_newFunctionEnv_cells S.kind kinds fun ev he s1 x => ?_
  subst he
  refine ⟨(env.mod.nolimit.keeps there).keeps x.toInCall.keep, codeAny_func ?_⟩
  have inv := inv_start (CX := C) (E := E) S room.toRoom.hd env (ln _ _ _ _ asked) vals x
  refine wpAny_mono (walked.run [] s1 (start N vs) H _ inv told) (fun fl s2 z => ?_) fun _ _ z => z
  have close : ∀ {σ : L2.St} {H2 : Hp} {v : V} {u : Value}, Inv (cxOf C P w K mg B N ql sc f cdv A out s H E) [] σ H2 s2 → RelV v u → Q v H2 → CE out P w H s Q u s2 := fun J rv q => ⟨_, _, J.os, J.bare, J.base, J.hok, rv, q⟩
  match fl, z with
  | .ret _, ⟨_, _, _, J, rv, q⟩ => exact close J rv q
  | .next, ⟨_, _, J, q⟩ => exact close (v := .non) (u := Value.none) J rfl q
  | .brk, ⟨_, _, _, q⟩ => exact q.elim
  | .cont, ⟨_, _, _, q⟩ => exact q.elim
theorem okG {x ql : Str} {st : Stmt} {N : List Str} (F : Fun K x ql st f fd) (S : FnScope N ps (defScope st)) (ln : ∀ vs H Q E, sp vs H Q E → vs.length = ps.length)
    (body : ∀ (cdv : Value) (A : Around) (out : List Env) (s : Shared) (H : Hp) (vs : List V) (Q : VK) (E : XK), RoomG k (A.deeper (envOfC ql (defScope st) s.heap.objs.size f cdv)) → sp vs H Q E →
      ∃ t, PSs (cxOf (L2.CX P w) P w K mg B N ql (defScope st) f cdv A out s H E) (defBody st) t ∧ t { nx := fun _ H1 => Q .non H1, rt := Q } (start N vs) H) : FnG P w K mg B (L2.CX P w) (k + 1) f fd ps sp := by
  obtain ⟨_, _, _, _, _, _, cdv, _, _, rfl, lk, cd⟩ := F.ex
  exact fnG_mk lk cd S ln fun room asked => body cdv _ _ _ _ _ _ _ room asked
end
section
variable {X : Cx} {C : CXT} {k : Nat} {f : Addr} {fd : FuncData} {ps : List Str} {sp : Sp} {ds : List Value} {dvs : List V} {E : L2.St → XK} {x : Str} {p pos : Pos} {e : Expr} {es : List Expr} {t : TA}
theorem pe_callG (F : FnG X.prog X.w X.K X.mg X.base C k f fd ps sp) (room : RoomG k X.A) (gl : Gl X x) (gm : X.mg x = some (.ref f)) (kp : PySem.W.keepIn X.K (.ref f) = true) (bn : Binds X.K fd ps ds) (dv : Vals dvs ds) (px : ∀ σ, PassesAt C X σ (E σ)) (ha : PA X (e :: es) t)
    (db : (x == ("__debug__" : Str)) = false := by decide) (he : starEach (e :: es) X.env = (false, eval e X.env) :: starEach es X.env := by rfl) (hpl : (backTo pos (starEach es X.env)).any (·.1) = false := by rfl) : PE X (.Call (.Name x p) (e :: es) [] pos) (tCallSD sp dvs E t) := by
  constructor
  intro pins s σ H Q I asked
  refine wpAny_Call_Name_kw (ld_glob I gl gm ?_ db)
  refine PySem.W.callWith_K (h₀ := X.base) I.ok.mod.kin kp (thn (ha.run pos pins s σ H _ I asked) ?_) he hpl
  rintro us s1 ⟨vs, H1, I1, r, z⟩
  have both : Vals (vs ++ dvs) (us ++ ds) := r.append dv
  have size : (us ++ ds).length = ps.length := both.length.symm.trans (F.ln z)
  refine ⟨I1.kIn, wpAny_call (codeAny_mono (F.go (args := ⟨us, []⟩) room I1.env0 (bn s1 us I1.kIn size) both z) fun r s2 z2 => ?_)⟩
  match r, z2 with
  | .error e, z2 => exact px σ pins H1 s1 e s2 I1 z2
  | .ok (.ret u), z2 => exact I1.after z2
  | .ok .next, z2 => exact z2.elim
  | .ok .brk, z2 => exact z2.elim
  | .ok .cont, z2 => exact z2.elim
end
end RR
namespace RR
open PySem PySem.Spec PyProof.Rows L2
section
variable {P : Program} {w : World} {K : PySem.W.Frag} {mg mb : Str → Option Value} {C : CXT} {k : Nat} {fa a : Addr} {fd : FuncData} {x : Str} {sp : Sp} {s : Shared} {us : List Value} {zs : List Int}
abbrev scrObj (us : List Value) : Obj := { cls := .type "list", data := .seq us.toArray }
theorem call_in (H : Hp) (inK : K.In s.heap) (ns : s.heap.Ns mainGlobals mg) (nb : s.heap.Ns builtinsNs mb) (bb : ∀ y : Str, y ≠ "__name__" → mb y = bootBuiltins y) (nl : s.heap.NoLimit) (ng : s.gens = #[]) (at_ : s.heap.get? a = some (scrObj us))
    (told : ∀ b u, H b = some u → b = a ∧ (∃ ys, u = .frz (scrObj us) (.lst ys)) ∧ K.lookup a = none) (ok : HOk P w H s.heap) (room : Room k callerA) (F : ∀ B : Heap, K.In B → B.Ns mainGlobals mg → FnG P w K mg B C k fa fd [x] sp) (bind : ∀ (s : Shared) (u : Value), BindsTo s fd ⟨[u], []⟩ [(x, u)])
    (asked : sp [.ref a] H (fun v _ => v = .bl true) fun _ _ _ => False) (noX : ∀ e s2, C [] H s (fun _ _ _ => False) e s2 → False) :
    codeAny (model P w) callerA (.call (.ref fa) ⟨[.ref a], []⟩) (fun r s2 => r = .ok (.ret (.bool true)) ∧ OldK s.heap s2.heap ∧ s2.os = s.os ∧ AllBare s2.gens) s := by
  -- what isn't the script stands in the hidden heap as it stood
  have stays : ∀ {b : Addr} {o : Obj}, s.heap.get? b = some o → b ≠ a → (hidT s.heap H).get? b = some o := fun {b o} e n =>
    hidT_get e (Option.eq_none_iff_forall_ne_some.mpr fun u z => n (told b u z).1)
  have table : ∀ {b : Addr} {m : Str → Option Value}, s.heap.Ns b m → (hidT s.heap H).Ns b m := by
    rintro b m ⟨o, es, ep, e, d, r⟩
    refine ⟨o, es, ep, stays e fun z => ?_, d, r⟩
    rw [z, at_] at e
    have e2 := Option.some.inj e
    rw [← e2] at d
    exact Data.noConfusion d
  have inH : K.In (hidT s.heap H) := fun b o e => by
    by_cases z : H b = none
    · exact hidT_get (inK b o e) z
    · obtain ⟨u, hu⟩ := Option.ne_none_iff_exists'.mp z
      obtain ⟨rfl, _, no⟩ := told b u hu
      rw [no] at e
      exact nomatch e
  obtain ⟨mc, nc1, nc2⟩ := nl
  have env : Env0 P w K mg (hidT s.heap H) callerA [] s H := { frames := rfl, mod := ⟨inH, table ns, ⟨mb, table nb, bb⟩, ⟨mc, table nc1, nc2⟩⟩, bs := fun b o => of_hidT, bsz := Nat.le_of_eq (hidT_size _ _), funs := trivial, frf := fun b hb => (nomatch hb), hok := ok, bare := .of_eq ng }
  refine codeAny_mono ((F _ inH (table ns)).go (args := ⟨[.ref a], []⟩) (us := [.ref a]) (vs := [.ref a]) ⟨room, rfl⟩ env (bind s (.ref a)) (.cons rfl .nil) asked) fun r s2 z => ?_
  match r, z with
  | .error e, z => exact (noX e s2 z).elim
  | .ok .next, z => exact z.elim
  | .ok .brk, z => exact z.elim
  | .ok .cont, z => exact z.elim
  | .ok (.ret u), ⟨v, H2, os, bare, un, ok2, rel, q⟩ =>
    have q : v = .bl true := q
    subst q
    obtain rfl : u = Value.bool true := rel
    refine ⟨rfl, .of_keep fun b o e => ?_, os, bare⟩
    cases hb : H b with
    | none => exact un.keep b o e hb (List.not_mem_nil) List.not_mem_nil
    | some u =>
      obtain ⟨_, ⟨ys, rfl⟩, _⟩ := told b u hb
      have f1 := (ok b _ hb).1
      have f2 := (ok2 b _ (un.frzs b _ _ hb)).1
      exact f2.trans (f1.symm.trans e)
theorem law_callG (inK : K.In s.heap) (ns : s.heap.Ns mainGlobals mg) (nb : s.heap.Ns builtinsNs mb) (bb : ∀ y : Str, y ≠ "__name__" → mb y = bootBuiltins y) (nl : s.heap.NoLimit) (ng : s.gens = #[]) (at_ : s.heap.get? a = some (scrObj us)) (isI : IntsAre us zs) (sz : zs.length ≤ sizeLine)
    (room : Room k callerA) (F : ∀ B : Heap, K.In B → B.Ns mainGlobals mg → FnG P w K mg B C k fa fd [x] sp) (bind : ∀ (s : Shared) (u : Value), BindsTo s fd ⟨[u], []⟩ [(x, u)])
    (asked : ∀ H : Hp, SqL K H a (zs.map V.int) → sp [.ref a] H (fun v _ => v = .bl true) fun _ _ _ => False) (noX : ∀ H e s2, C [] H s (fun _ _ _ => False) e s2 → False) :
    codeAny (model P w) callerA (.call (.ref fa) ⟨[.ref a], []⟩) (fun r s2 => r = .ok (.ret (.bool true)) ∧ OldK s.heap s2.heap ∧ s2.os = s.os ∧ AllBare s2.gens) s := by
  have rel := vals_ints isI
  have same := isI.length
  rcases hk : K.lookup a with _ | o
  · let H : Hp := fun b => if b = a then some (.frz (scrObj us) (.lst (zs.map V.int))) else none
    have told : ∀ b u, H b = some u → b = a ∧ u = .frz (scrObj us) (.lst (zs.map V.int)) := fun b u z => by
      by_cases hb : b = a
      · exact ⟨hb, (Option.some.inj ((if_pos hb).symm.trans z)).symm⟩
      · exact nomatch (if_neg hb).symm.trans z
    refine call_in H inK ns nb bb nl ng at_ (fun b u z => ⟨(told b u z).1, ⟨_, (told b u z).2⟩, hk⟩) (fun b u z => ?_) room F bind (asked H (.inl (.inr ⟨scrObj us, if_pos rfl⟩))) (noX H)
    obtain ⟨rfl, rfl⟩ := told b u z
    exact ⟨at_, by rw [List.length_map]; exact sz, us, _, rel, at_⟩
  · have e := Option.some.inj (at_.symm.trans (inK a o hk))
    subst e
    exact call_in (fun _ => none) inK ns nb bb nl ng at_ (fun b u z => nomatch z) (fun b u z => nomatch z) room F bind (asked _ (.inr ⟨_, us.toArray, _, hk, rfl, rfl, rfl, by rw [List.size_toArray, same]; exact sz, by simpa using rel⟩)) (noX _)
end
theorem walk_ofG {l : PySem.W.OpenLaw} {n k : Nat} {q : Program} {loose : List Str} {XP : (Str → Option Value) → Heap → Prop} {YP : World → Heap → Prop} {d : DefRec} {K : Params → PySem.W.Frag} {C : World → CXT} {sp : World → Sp} {x : Str}
    (most : l.most = some n) (n2 : n ≤ sizeLine) (nodef : d.params.defaults = []) (room : Room k callerA) (ground : ∀ (w : World) (h : Heap), YP w h → (K w.params).In h)
    (F : ∀ (w : World) (mg : Str → Option Value) (fa : Addr) (h : Heap), (K w.params).In h → h.Ns mainGlobals mg → mg d.name = some (.ref fa) →
      ∃ fd : FuncData, (∀ (s : Shared) (u : Value), BindsTo s fd ⟨[u], []⟩ [(x, u)]) ∧ ∀ B : Heap, (K w.params).In B → B.Ns mainGlobals mg → FnG l.prog w (K w.params) mg B (C w) k fa fd [x] (sp w))
    (asked : ∀ (w : World) (H : Hp) (a : Addr) (zs : List Int), zs.length ≤ n → SqL (K w.params) H a (zs.map V.int) → sp w [.ref a] H (fun v _ => v = .bl true) fun _ _ _ => False)
    (noX : ∀ (w : World) (H : Hp) (s : Shared) (e : Value) (s2 : Shared), C w [] H s (fun _ _ _ => False) e s2 → False) : PySem.W.WalkO q loose XP YP l.row.toRowW d [] (fun f vs => PySem.call f vs) :=
  Att.attach_call most nodef fun w s0 s1 mg mb fa o pm cd doc a us zs G Y _ _ _ hmg script isI len gens => by
    have inK := ground w _ Y
    obtain ⟨fd, bind, prom⟩ := F w mg fa _ inK G.T.g hmg
    exact law_callG inK G.T.g G.T.b G.T.builtins G.T.nolimit gens script isI (Nat.le_trans len n2) room prom bind (fun H hS => asked w H a zs len hS) fun H e s2 => noX w H s1 e s2
end RR
namespace RR
open PySem PySem.Spec PyProof.Rows L2
mutual
def D.py : D → PyData
  | .non => .none | .bl b => .bool b | .int i => .int i | .str x => .str x | .tup xs => .tuple (D.pys xs) | .lst xs => .list (D.pys xs) | .hnd _ => .none | .dic => .none | .exc _ => .none | .fn _ => .none | .ptr _ => .none
def D.pys : List D → List PyData
  | [] => []
  | x :: r => x.py :: D.pys r
end
def D.q : Nat → D → Bool
  | _, .non | _, .bl _ | _, .int _ => true
  | _, .str x => PyData.strOk x
  | _, .hnd _ => false
  | _, .dic => false
  | _, .exc _ => false
  | _, .fn _ => false
  | _, .ptr _ => false
  | n + 1, .tup xs => xs.all (D.q n)
  | n + 1, .lst xs => xs.all (D.q n)
  | 0, .tup _ | 0, .lst _ => false
mutual
def D.eqv : D → D → Bool
  | .non, .non => true
  | .bl a, .bl b => a == b
  | .bl a, .int j => (if a then 1 else 0) == j
  | .int i, .bl b => i == (if b then 1 else 0)
  | .int i, .int j => decide (i = j)
  | .str x, .str y => x == y
  | .lst xs, .lst ys => D.eqvs xs ys
  | .tup xs, .tup ys => D.eqvs xs ys
  | _, _ => false
def D.eqvs : List D → List D → Bool
  | [], [] => true
  | x :: xs, y :: ys => x.eqv y && D.eqvs xs ys
  | _, _ => false
end
mutual
theorem py_eqv : ∀ {n : Nat} {x y : D}, x.q n = true → y.q n = true → PyData.eqv x.py y.py = x.eqv y
  | n, .hnd _, _, h, _ => by cases n <;> cases h
  | n, .dic, _, h, _ => by cases n <;> cases h
  | n, .exc _, _, h, _ => by cases n <;> cases h
  | n, .fn _, _, h, _ => by cases n <;> cases h
  | n, .ptr _, _, h, _ => by cases n <;> cases h
  | n, _, .hnd _, _, h => by cases n <;> cases h
  | n, _, .dic, _, h => by cases n <;> cases h
  | n, _, .exc _, _, h => by cases n <;> cases h
  | n, _, .fn _, _, h => by cases n <;> cases h
  | n, _, .ptr _, _, h => by cases n <;> cases h
  | n + 1, .tup xs, .tup ys, h, h' => by
    simp only [D.py, D.eqv, PyData.eqv]
    exact pys_eqv (List.all_eq_true.mp h) (List.all_eq_true.mp h')
  | n + 1, .lst xs, .lst ys, h, h' => by
    simp only [D.py, D.eqv, PyData.eqv]
    exact pys_eqv (List.all_eq_true.mp h) (List.all_eq_true.mp h')
  | 0, .tup xs, _, h, _ => by cases h
  | 0, .lst xs, _, h, _ => by cases h
  | _, .non, .non, _, _ | _, .non, .bl _, _, _ | _, .non, .int _, _, _ | _, .non, .str _, _, _ | _, .non, .tup _, _, _ | _, .non, .lst _, _, _ => rfl
  | _, .bl _, .non, _, _ | _, .bl _, .bl _, _, _ | _, .bl _, .int _, _, _ | _, .bl _, .str _, _, _ | _, .bl _, .tup _, _, _ | _, .bl _, .lst _, _, _ => rfl
  | _, .int _, .non, _, _ | _, .int _, .bl _, _, _ | _, .int _, .str _, _, _ | _, .int _, .tup _, _, _ | _, .int _, .lst _, _, _ => rfl
  | _, .int i, .int j, _, _ => by simp only [D.py, D.eqv, PyData.eqv, Bool.beq_eq_decide_eq]
  | _, .str _, .non, _, _ | _, .str _, .bl _, _, _ | _, .str _, .int _, _, _ | _, .str _, .str _, _, _ | _, .str _, .tup _, _, _ | _, .str _, .lst _, _, _ => rfl
  | n + 1, .tup _, .non, _, _ | n + 1, .tup _, .bl _, _, _ | n + 1, .tup _, .int _, _, _ | n + 1, .tup _, .str _, _, _ | n + 1, .tup _, .lst _, _, _ => rfl
  | n + 1, .lst _, .non, _, _ | n + 1, .lst _, .bl _, _, _ | n + 1, .lst _, .int _, _, _ | n + 1, .lst _, .str _, _, _ | n + 1, .lst _, .tup _, _, _ => rfl
theorem pys_eqv : ∀ {n : Nat} {xs ys : List D}, (∀ x ∈ xs, x.q n = true) → (∀ x ∈ ys, x.q n = true) → PyData.eqvAll (D.pys xs) (D.pys ys) = D.eqvs xs ys
  | _, [], [], _, _ => rfl
  | _, [], _ :: _, _, _ => rfl
  | _, _ :: _, [], _, _ => rfl
  | n, x :: xs, y :: ys, h, h' => by
    simp only [D.pys, D.eqvs, PyData.eqvAll]
    rw [py_eqv (h x List.mem_cons_self) (h' y List.mem_cons_self), pys_eqv (fun z hz => h z (List.mem_cons_of_mem _ hz)) (fun z hz => h' z (List.mem_cons_of_mem _ hz))]
end
mutual
theorem py_lay : ∀ {n : Nat} {x : D}, x.q n = true → x.py.canLay0 = true ∧ x.py.depth ≤ n
  | n, .hnd _, h => by cases n <;> cases h
  | n, .dic, h => by cases n <;> cases h
  | n, .exc _, h => by cases n <;> cases h
  | n, .fn _, h => by cases n <;> cases h
  | n, .ptr _, h => by cases n <;> cases h
  | n, .non, _ => ⟨rfl, Nat.zero_le _⟩
  | n, .bl _, _ => ⟨rfl, Nat.zero_le _⟩
  | n, .int _, _ => ⟨rfl, Nat.zero_le _⟩
  | 0, .str _, h => ⟨h, Nat.zero_le _⟩
  | n + 1, .str _, h => ⟨h, Nat.zero_le _⟩
  | n + 1, .tup xs, h => let ⟨a, b⟩ := pys_lay (List.all_eq_true.mp h); ⟨a, Nat.succ_le_succ b⟩
  | n + 1, .lst xs, h => let ⟨a, b⟩ := pys_lay (List.all_eq_true.mp h); ⟨a, Nat.succ_le_succ b⟩
  | 0, .tup _, h => by cases h
  | 0, .lst _, h => by cases h
theorem pys_lay : ∀ {n : Nat} {xs : List D}, (∀ x ∈ xs, x.q n = true) → PyData.canLayAll0 (D.pys xs) = true ∧ PyData.depthAll (D.pys xs) ≤ n
  | n, [], _ => ⟨rfl, Nat.zero_le _⟩
  | n, x :: xs, h => by
    obtain ⟨a, b⟩ := py_lay (h x List.mem_cons_self)
    obtain ⟨c, d⟩ := pys_lay fun z hz => h z (List.mem_cons_of_mem _ hz)
    simp only [D.pys, PyData.canLayAll0, PyData.depthAll, a, c, Bool.and_self, true_and]
    omega
end
theorem shaped_q {x : D} (h : x.q 8 = true) : SeqAt.shaped x.py = true := by
  obtain ⟨a, b⟩ := py_lay h
  unfold SeqAt.shaped
  rw [a, decide_eq_true (by omega)] <;> rfl
mutual
theorem Dn.dp {s : Bool} {K : PySem.W.Frag} {F : List Addr} {G H : Hp} (hG : ∀ a o, G a = some o → H a = some o) : ∀ {n : Nat} {v : V} {d : D}, Dn s K F G v d → d.q n = true → Dp K H v d.py
  | _, _, _, .non, _ => .non
  | _, _, _, .bl b, _ => .bl b
  | _, _, _, .int i, _ => .int i
  | _, _, _, .str x, _ => .str x
  | n + 1, _, _, .tup h r, q => .tup ((h.mono fun a xs => hG a _).sq) (DnA.dp hG r (List.all_eq_true.mp q))
  | n + 1, _, _, .lst h r, q => .lst ((h.mono hG).sq) (DnA.dp hG r (List.all_eq_true.mp q))
  | 0, _, _, .tup _ _, q => by cases q
  | 0, _, _, .lst _ _, q => by cases q
  | n, _, _, .hnd h, q => by cases n <;> cases q
  | n, _, _, .dic h, q => by cases n <;> cases q
  | n, _, _, .exc h _, q => by cases n <;> cases q
  | n, _, _, .fn h, q => by cases n <;> cases q
  | n, _, _, .ptr, q => by cases n <;> cases q
theorem DnA.dp {s : Bool} {K : PySem.W.Frag} {F : List Addr} {G H : Hp} (hG : ∀ a o, G a = some o → H a = some o) : ∀ {n : Nat} {vs : List V} {ds : List D}, DnA s K F G vs ds → (∀ x ∈ ds, x.q n = true) → DpAll K H vs (D.pys ds)
  | _, _, _, .nil, _ => .nil
  | _, _, _, .cons h r, q => .cons (Dn.dp hG h (q _ List.mem_cons_self)) (DnA.dp hG r fun x hx => q x (List.mem_cons_of_mem _ hx))
end
def gEq : G2 := fun x y Q => (x.q 8 = true ∧ y.q 8 = true ∧ Q (.bl (x.eqv y))) ∨ ∃ a b, x = .str a ∧ y = .str b ∧ Q (.bl (decide (a = b)))
def gNe : G2 := fun x y Q => (x.q 8 = true ∧ y.q 8 = true ∧ Q (.bl (!x.eqv y))) ∨ ∃ a b, x = .str a ∧ y = .str b ∧ Q (.bl (!decide (a = b)))
section
variable {X : Cx} {C : Cn} {e a b c : Expr} {es : List Expr} {pos : Pos} {ta tb tc : DT C.W.M}
theorem ok_eq (hu : X.A.units + 64 < cLine) : OpOk X C (compareOp .Eq) gEq := by
  refine ⟨_, (op_eqD hu).or op_eq, fun σ H Pr F ρ m x y dx dy Q R S hx hy q k => ?_⟩
  rcases q with ⟨q1, q2, q⟩ | ⟨a, b, rfl, rfl, q⟩
  · refine .inl ⟨_, _, hx.dp (fun _ _ => wv_le) q1, hy.dp (fun _ _ => wv_le) q2, shaped_q q1, shaped_q q2, k _ _ (post_here S (.bl _) (fun _ h => nomatch h) ?_)⟩
    rw [py_eqv q1 q2]
    exact q
  · cases hx; cases hy
    refine .inr ⟨rfl, k _ _ (post_here S (.bl _) (fun _ h => nomatch h) ?_)⟩
    rw [show decide (V.str a = V.str b) = decide (a = b) from by rw [Bool.eq_iff_iff]; simp]
    exact q
theorem ok_ne (hu : X.A.units + 64 < cLine) : OpOk X C (compareOp .NotEq) gNe := by
  refine ⟨_, (op_neD hu).or op_ne, fun σ H Pr F ρ m x y dx dy Q R S hx hy q k => ?_⟩
  rcases q with ⟨q1, q2, q⟩ | ⟨a, b, rfl, rfl, q⟩
  · refine .inl ⟨_, _, hx.dp (fun _ _ => wv_le) q1, hy.dp (fun _ _ => wv_le) q2, shaped_q q1, shaped_q q2, k _ _ (post_here S (.bl _) (fun _ h => nomatch h) ?_)⟩
    rw [py_eqv q1 q2]
    exact q
  · cases hx; cases hy
    refine .inr ⟨rfl, k _ _ (post_here S (.bl _) (fun _ h => nomatch h) ?_)⟩
    rw [show decide (V.str a = V.str b) = decide (a = b) from by rw [Bool.eq_iff_iff]; simp]
    exact q
abbrev gLt : G2 := g0 fun i j => .bl (decide (i < j))
abbrev gLe : G2 := g0 fun i j => .bl (decide (i ≤ j))
abbrev gGt : G2 := g0 fun i j => .bl (decide (j < i))
theorem ok_lt : OpOk X C (compareOp .Lt) gLt := opok_cmp0 op_lt
theorem ok_le : OpOk X C (compareOp .LtE) gLe := opok_cmp0 op_le
theorem ok_gt : OpOk X C (compareOp .Gt) gGt := opok_cmp0 op_gt
def D.isN : D → Bool
  | .non => true
  | _ => false
def gIsN : G2 := fun x y Q => y.isN = true ∧ Q (.bl x.isN)
def gNotN : G2 := fun x y Q => y.isN = true ∧ Q (.bl (!x.isN))
def dTst {M : Type} (t : DT M) : DTT M := fun ρ m Q Z => t ρ m (fun d m' => match d with | .bl b => Q b m' | _ => False) Z
theorem post_tst {K : PySem.W.Frag} {c : Cl} {Pr : Addr → Prop} {F : List Addr} {H H' : Hp} {σ : L2.St} {ρ : En} {Q : Bool → C.W.M → Prop} {v : V} (h : Post K C c Pr F H σ ρ (fun d m' => match d with | .bl b => Q b m' | _ => False) v H') : ∃ b, v = .bl b ∧ PostT K C Pr F H σ ρ Q b H' := by
  obtain ⟨P1, F1, m1, d, S1, t1, dv, z⟩ := h
  split at z
  · rename_i b
    refine ⟨b, ?_, P1, F1, m1, S1, t1, z⟩
    cases c with
    | f =>
      have dv := dv.1
      cases dv
      rfl
    | w =>
      have dv : Dn false K F1 (wv F1 H') v (.bl b) := dv
      cases dv
      rfl
    | s =>
      have dv : Dn true K F1 (sv C.H0 P1 H') v (.bl b) := dv
      cases dv
      rfl
    | r =>
      have dv : Dn true K F1 (sv C.H0 (· ∈ F1) H') v (.bl b) := dv
      cases dv
      rfl
  · exact z.elim
theorem jt_cmp {op : CmpOp} {g : G2} (o : OpOk X C (compareOp op) g) (ha : J .w X C a ta) (hb : J .w X C b tb) (hm : behindInMarks op b = false := by exact nomark _) : JT X C (.Compare a [op] [b] pos) (dTst (dBin g ta tb)) := by
  obtain ⟨r, ho, q⟩ := o
  obtain ⟨te, p, q1⟩ := ha
  obtain ⟨te', p', q2⟩ := hb
  refine ⟨_, pt_cmpR ho p p' hm, fun σ H Pr F ρ m Q Z R S E h k => ?_⟩
  refine q1 σ H Pr F ρ m _ Z _ S E h fun v H1 ⟨P1, F1, m1, d, S1, t1, dv, z⟩ => ?_
  refine q2 σ H1 P1 F1 ρ m1 _ Z _ S1 (E.te t1.toTr) z fun w H2 ⟨P2, F2, m2, d2, S2, t2, dv2, z2⟩ => ?_
  exact q σ H2 P2 F2 ρ m2 v w d d2 _ _ S2 (Dn.te t2 dv) dv2 z2 fun v H' z => by
    obtain ⟨b, e, z⟩ := post_tst ((z.te t2).te t1)
    exact ⟨b, e, k b H' z⟩
def D.tr : D → Option Bool
  | .non => some false
  | .bl b => some b
  | .int i => some (i != 0)
  | .tup xs | .lst xs => some (!xs.isEmpty)
  | .str _ => none
  | .hnd _ => none
  | .dic => none
  | .exc _ => none
  | .fn _ => none
  | .ptr _ => none
def dVal {M : Type} (t : DT M) : DTT M := fun ρ m Q Z => t ρ m (fun d m' => match d.tr with | some b => Q b m' | none => False) Z
theorem jt_val {t : DT C.W.M} (h : J .w X C e t) (he : ∀ whole, isTrue e X.env whole = (do let v ← whole; standAt e.pos; holding [v] (truthy v)) := by intro _; rfl) :
    JT X C e (dVal t) := by
  obtain ⟨te, p, q⟩ := h
  refine ⟨_, pt_truth p he, fun σ H Pr F ρ m Q Z R S E h k => ?_⟩
  refine q σ H Pr F ρ m _ Z _ S E h fun v H1 ⟨P1, F1, m1, d, S1, t1, dv, z⟩ => ?_
  have dv : Dn false X.K F1 (wv F1 H1) v d := dv
  try dsimp only at z
  split at z
  · rename_i b e
    refine ⟨b, ?_, k b H1 ⟨P1, F1, m1, S1, t1, z⟩⟩
    have el : ∀ {vs : List V} {ds : List D}, DnA false X.K F1 (wv F1 H1) vs ds → (!ds.isEmpty) = !vs.isEmpty := fun h => by cases h <;> rfl
    cases dv with
    | non => exact (Option.some.inj e).symm
    | bl b => exact (Option.some.inj e).symm
    | int i => exact (Option.some.inj e).symm
    | str x => cases e
    | hnd h => cases e
    | dic h => cases e
    | exc h _ => cases e
    | fn h => cases e
    | ptr => cases e
    | tup h r => exact .inr (.inl ⟨_, (h.mono fun a xs => wv_le).sq, (Option.some.inj e).symm.trans (el r)⟩)
    | lst h r => exact .inl ⟨_, (h.mono fun a xs => wv_le).sq, (Option.some.inj e).symm.trans (el r)⟩
  · exact z.elim
variable {rest : List Expr} {tt uu : DTT C.W.M}
def dAnd {M : Type} (t u : DTT M) : DTT M := fun ρ m Q Z => t ρ m (fun b m1 => if b = true then u ρ m1 Q Z else Q false m1) Z
def dOr {M : Type} (t u : DTT M) : DTT M := fun ρ m Q Z => t ρ m (fun b m1 => if b = true then Q true m1 else u ρ m1 Q Z) Z
def dNot {M : Type} (t : DTT M) : DTT M := fun ρ m Q Z => t ρ m (fun b m1 => Q (!b) m1) Z
theorem JW.t (h : JW X C e tt) : JT X C e tt := by
  obtain ⟨te, p, q⟩ := h
  exact ⟨te, p.pt, q⟩
theorem jw_and1 (h : JT X C a tt) : JW X C (.BoolOp .And [a] pos) tt := by
  obtain ⟨te, p, q⟩ := h
  exact ⟨te, pw_and1 p, q⟩
theorem jw_or1 (h : JT X C a tt) : JW X C (.BoolOp .Or [a] pos) tt := by
  obtain ⟨te, p, q⟩ := h
  exact ⟨te, pw_or1 p, q⟩
theorem jw_and (h : JT X C a tt) (r : JW X C (.BoolOp .And (b :: rest) pos) uu) : JW X C (.BoolOp .And (a :: b :: rest) pos) (dAnd tt uu) := by
  obtain ⟨te, p, q⟩ := h
  obtain ⟨te', p', q'⟩ := r
  refine ⟨_, pw_and p p', fun σ H Pr F ρ m Q Z R S E h k => ?_⟩
  refine q σ H Pr F ρ m _ Z _ S E h fun v H1 ⟨P1, F1, m1, S1, t1, z⟩ => ?_
  cases v with
  | true => exact iteT (q' σ H1 P1 F1 ρ m1 Q Z R S1 (E.te t1.toTr) z fun w H2 z => k w H2 (z.te t1))
  | false => exact iteF (k false H1 ⟨P1, F1, m1, S1, t1, z⟩)
theorem jw_or (h : JT X C a tt) (r : JW X C (.BoolOp .Or (b :: rest) pos) uu) : JW X C (.BoolOp .Or (a :: b :: rest) pos) (dOr tt uu) := by
  obtain ⟨te, p, q⟩ := h
  obtain ⟨te', p', q'⟩ := r
  refine ⟨_, pw_or p p', fun σ H Pr F ρ m Q Z R S E h k => ?_⟩
  refine q σ H Pr F ρ m _ Z _ S E h fun v H1 ⟨P1, F1, m1, S1, t1, z⟩ => ?_
  cases v with
  | false => exact iteF (q' σ H1 P1 F1 ρ m1 Q Z R S1 (E.te t1.toTr) z fun w H2 z => k w H2 (z.te t1))
  | true => exact iteT (k true H1 ⟨P1, F1, m1, S1, t1, z⟩)
theorem jt_not (h : JT X C a tt) : JT X C (.UnaryOp .Not a pos) (dNot tt) := by
  obtain ⟨te, p, q⟩ := h
  refine ⟨_, pt_not p, fun σ H Pr F ρ m Q Z R S E h k => ?_⟩
  exact q σ H Pr F ρ m _ Z _ S E h fun v H1 ⟨P1, F1, m1, S1, t1, z⟩ => k _ H1 ⟨P1, F1, m1, S1, t1, z⟩
def dAndV {M : Type} (t u : DT M) : DT M := fun ρ m Q Z => t ρ m (fun d m1 => match d with | .bl true => u ρ m1 Q Z | .bl false => Q (.bl false) m1 | _ => False) Z
def dOrV {M : Type} (t u : DT M) : DT M := fun ρ m Q Z => t ρ m (fun d m1 => match d with | .bl false => u ρ m1 Q Z | .bl true => Q (.bl true) m1 | _ => False) Z
def dNotV {M : Type} (t : DT M) : DT M := fun ρ m Q Z => t ρ m (fun d m1 => match d with | .bl b => Q (.bl (!b)) m1 | _ => False) Z
theorem j_one {op} {t : DT C.W.M} {c : Cl} (h : J c X C a t) : J c X C (.BoolOp op [a] pos) t := by
  obtain ⟨te, p, q⟩ := h
  exact ⟨te, pe_one p, q⟩
theorem post_bl {K : PySem.W.Frag} {Pr : Addr → Prop} {F : List Addr} {H H' : Hp} {v : V} {b : Bool} (h : Dv K C .f Pr F H H' v (.bl b)) : v = .bl b := by
  have h := h.1
  cases h
  rfl
theorem j_and (ha : J .f X C a ta) (r : J .f X C (.BoolOp .And (b :: rest) pos) tb) : J .f X C (.BoolOp .And (a :: b :: rest) pos) (dAndV ta tb) := by
  obtain ⟨te, p, q⟩ := ha
  obtain ⟨te', p', q'⟩ := r
  refine ⟨_, pe_and p p', fun σ H Pr F ρ m Q Z R S E h k => ?_⟩
  refine q σ H Pr F ρ m _ Z _ S E h fun v H1 ⟨P1, F1, m1, d, S1, t1, dv, z⟩ => ?_
  try dsimp only at z
  split at z
  · exact ⟨true, post_bl dv, iteT (q' σ H1 P1 F1 ρ m1 Q Z R S1 (E.te t1.toTr) z fun w H2 z => k w H2 (z.te t1))⟩
  · exact ⟨false, post_bl dv, iteF (k _ _ ((post_here (d := .bl false) S1 (.bl false) (fun _ h => nomatch h) z).te t1))⟩
  · exact z.elim
theorem j_not (ha : J .f X C a ta) : J .f X C (.UnaryOp .Not a pos) (dNotV ta) := by
  obtain ⟨te, p, q⟩ := ha
  refine ⟨_, pe_not p, fun σ H Pr F ρ m Q Z R S E h k => ?_⟩
  refine q σ H Pr F ρ m _ Z _ S E h fun v H1 ⟨P1, F1, m1, d, S1, t1, dv, z⟩ => ?_
  try dsimp only at z
  split at z
  · rename_i b
    exact ⟨b, post_bl dv, k _ _ ((post_here (d := .bl (!b)) S1 (.bl _) (fun _ h => nomatch h) z).te t1)⟩
  · exact z.elim
def dNeg {M : Type} (t : DT M) : DT M := fun ρ m Q Z => t ρ m (fun d m1 => match d with | .int i => Q (.int (-i)) m1 | _ => False) Z
theorem j_neg (ha : J .w X C a ta) : J .f X C (.UnaryOp .USub a pos) (dNeg ta) := by
  obtain ⟨te, p, q⟩ := ha
  refine ⟨_, pe_un un_neg p, fun σ H Pr F ρ m Q Z R S E h k => ?_⟩
  refine q σ H Pr F ρ m _ Z _ S E h fun v H1 ⟨P1, F1, m1, d, S1, t1, dv, z⟩ => ?_
  have dv : Dn false X.K F1 (wv F1 H1) v d := dv
  try dsimp only at z
  split at z
  · exact ⟨_, dv.toInt, k _ _ ((post_here S1 (.int _) (fun _ h => nomatch h) z).te t1)⟩
  · exact z.elim
def dIf {M : Type} (t : DTT M) (u w : DT M) : DT M := fun ρ m Q Z => t ρ m (fun b m1 => if b = true then u ρ m1 Q Z else w ρ m1 Q Z) Z
theorem j_if {cl : Cl} (hc : JT X C c tt) (ha : J cl X C a ta) (hb : J cl X C b tb) : J cl X C (.IfExp c a b pos) (dIf tt ta tb) := by
  obtain ⟨tc, p, q⟩ := hc
  obtain ⟨te, p1, q1⟩ := ha
  obtain ⟨te', p2, q2⟩ := hb
  refine ⟨_, pe_ifExp p p1 p2, fun σ H Pr F ρ m Q Z R S E h k => ?_⟩
  refine q σ H Pr F ρ m _ Z _ S E h fun v H1 ⟨P1, F1, m1, S1, t1, z⟩ => ?_
  cases v with
  | true => exact iteT (q1 σ H1 P1 F1 ρ m1 Q Z R S1 (E.te t1.toTr) z fun w H2 z => k w H2 (z.te t1))
  | false => exact iteF (q2 σ H1 P1 F1 ρ m1 Q Z R S1 (E.te t1.toTr) z fun w H2 z => k w H2 (z.te t1))
abbrev DSp (M : Type) := List D → M → (D → M → Prop) → (Str → M → Prop) → Prop
def spD (K : PySem.W.Frag) (mg : Str → Option Value) (W : Wd) (sp : DSp W.M) : Sp := fun vs H Q E => ∃ F m ds Qd Zd, W.Rz m F H ∧ DnA false K F (wv F H) vs ds ∧ sp ds m Qd Zd ∧
  (∀ v H' F' d m', W.Rz m' F' H' → (∃ G, F' = F ++ G) → (∀ a ∈ F', a ∉ F → H a = none) → (∀ a o, a ∉ F → H a = some o → H' a = some o) → Dn true K F' (sv H (· ∈ F') H') v d → Qd d m' → Q v H') ∧
  (∀ x cls H' F' m', mg x = some cls → W.Rz m' F' H' → (∃ G, F' = F ++ G) → (∀ a ∈ F', a ∉ F → H a = none) → (∀ a o, a ∉ F → H a = some o → H' a = some o) → Zd x m' → E cls none H')
def FD (P : Program) (w : World) (K : PySem.W.Frag) (mg : Str → Option Value) (base : Heap) (W : Wd) (k : Nat) (x : Str) (dds : List D) (sp : DSp W.M) : Prop :=
  ∃ f fd ps ds dvs, FnG P w K mg base (L2.CX P w) k f fd ps (spD K mg W sp) ∧ mg x = some (.ref f) ∧ PySem.W.keepIn K (.ref f) = true ∧ Binds K fd ps ds ∧ Vals dvs ds ∧ ∀ F G, DnA false K F G dvs dds
def dCall {M : Type} (sp : DSp M) (dds : List D) (t : DTA M) : DT M := fun ρ m Q Z => t ρ m (fun ds m1 => sp (ds ++ dds) m1 Q Z) Z
theorem j_call {x : Str} {k : Nat} {dds : List D} {sp : DSp C.W.M} {ta : DTA C.W.M} {p : Pos} (h : FD X.prog X.w X.K X.mg X.base C.W k x dds sp) (hr : RoomG k X.A) (tk : Takes X C.wx) (hg : Gl X x) (ha : JA .w X C (e :: es) ta)
    (hdb : (x == ("__debug__" : Str)) = false := by decide) (he : starEach (e :: es) X.env = (false, eval e X.env) :: starEach es X.env := by rfl) (hpl : (backTo pos (starEach es X.env)).any (·.1) = false := by rfl) :
    J .f X C (.Call (.Name x p) (e :: es) [] pos) (dCall sp dds ta) := by
  obtain ⟨f, fd, ps, ds, dvs, G, hm, hk, hb, hd, hdd⟩ := h
  obtain ⟨te, pa, q⟩ := ha
  refine ⟨_, pe_callG (E := fun σ cls d H' => C.wx cls d σ H') G hr hg hm hk hb hd (fun σ => passAt tk σ) pa hdb he hpl, fun σ H Pr F ρ m Q Z R S E h k => ?_⟩
  refine q σ H Pr F ρ m _ Z _ S E h fun vs H1 ⟨P1, F1, m1, ds1, S1, t1, dv, z⟩ => ?_
  have dv : DnA false X.K F1 (wv F1 H1) vs ds1 := dv
  refine ⟨F1, m1, ds1 ++ dds, Q, Z, S1.rz, dv.app (hdd _ _), z, fun v H' F' d m' rz pre fr kp dn q => ?_, fun x cls H' F' m' hx rz pre fr kp z => ?_⟩
  · obtain ⟨S2, t2⟩ := S1.turned rz pre fr kp
    have np : ∀ {a o}, sv H1 (· ∈ F') H' a = some o → IsL o → ¬ (P1 a ∨ a ∈ F') ∧ C.H0 a = none ∧ H1 a = none := fun {a o} h l => by
      obtain ⟨e, q⟩ := vw_iff.mp h
      rcases q with q | q
      · exact (IsT.not_L q l).elim
      · exact ⟨fun z => z.elim (S1.np q.2.2) q.2.1, S1.h0n q.2.2, q.2.2⟩
    have up : ∀ a o, sv H1 (· ∈ F') H' a = some o → sv C.H0 (fun a => P1 a ∨ a ∈ F') H' a = some o := fun a o h => by
      obtain ⟨e, q⟩ := vw_iff.mp h
      refine vw_iff.mpr ⟨e, q.imp id fun q => ⟨q.1, (np h q.1).1, (np h q.1).2.1⟩⟩
    refine k v H' ⟨_, F', m', d, S2, t1.trans t2, ⟨dn.mono ⟨[], by simp⟩ up, fun ds e => ?_⟩, q⟩
    subst e
    cases dn with
    | lst h r =>
      rename_i a xs
      have h : sv H1 (· ∈ F') H' a = some (.lst xs) := h
      obtain ⟨n1, n2, n3⟩ := np h trivial
      exact ⟨a, xs, rfl, some_of (t1.stay a) n3, n1, sv_le h, DnA.mono ⟨[], by simp⟩ up r⟩
  · obtain ⟨S2, t2⟩ := S1.turned rz pre fr kp
    exact E x cls _ F' m' H' hx S2 (t1.trans t2).toTr z
def CaOk (X : Cx) (C : Cn) (c : Cl) (f : Value) (g : List D → (D → Prop) → Prop) : Prop := ∃ r, CallR X f r ∧
  ∀ σ H Pr F ρ m vs ds Q (R : VK), SR X.K C Pr F σ ρ m H → DvA X.K C c Pr F H vs ds → g ds (fun d => Q d m) → (∀ v H', Post X.K C .f Pr F H σ ρ Q v H' → R v H') → r vs H R
def dB {M : Type} (g : List D → (D → Prop) → Prop) (t : DTA M) : DT M := fun ρ m Q Z => t ρ m (fun ds m1 => g ds fun d => Q d m1) Z
theorem j_callB {cl : Cl} {id : String} {x : Str} {g : List D → (D → Prop) → Prop} {ta : DTA C.W.M} {p : Pos} (h : CaOk X C cl (.builtin id) g) (hm : X.mg x = none) (hv : bootBuiltins x = some (.builtin id)) (ha : JA cl X C (e :: es) ta) (hg : Gl X x := by rfl) (hn : x ≠ "__name__" := by decide) (hdb : (x == ("__debug__" : Str)) = false := by decide)
    (he : starEach (e :: es) X.env = (false, eval e X.env) :: starEach es X.env := by rfl) (hpl : (backTo pos (starEach es X.env)).any (·.1) = false := by rfl) : J .f X C (.Call (.Name x p) (e :: es) [] pos) (dB g ta) := by
  obtain ⟨r, hc, q'⟩ := h
  obtain ⟨te, pa, q⟩ := ha
  refine ⟨_, pe_callB hc hg hm hv pa hn hdb he hpl, fun σ H Pr F ρ m Q Z R S E h k => ?_⟩
  refine q σ H Pr F ρ m _ Z _ S E h fun vs H1 ⟨P1, F1, m1, ds1, S1, t1, dv, z⟩ => ?_
  exact q' σ H1 P1 F1 ρ m1 vs ds1 Q R S1 dv z fun v H' z => k v H' (z.te t1)
theorem j_callTy {cl : Cl} {T : String} {x : Str} {g : List D → (D → Prop) → Prop} {ta : DTA C.W.M} {p : Pos} (h : CaOk X C cl (.type T) g) (hm : X.mg x = none) (hv : bootBuiltins x = some (.type T)) (ha : JA cl X C (e :: es) ta) (hg : Gl X x := by rfl) (hn : x ≠ "__name__" := by decide) (hdb : (x == ("__debug__" : Str)) = false := by decide)
    (he : starEach (e :: es) X.env = (false, eval e X.env) :: starEach es X.env := by rfl) (hpl : (backTo pos (starEach es X.env)).any (·.1) = false := by rfl) : J .f X C (.Call (.Name x p) (e :: es) [] pos) (dB g ta) := by
  obtain ⟨r, hc, q'⟩ := h
  obtain ⟨te, pa, q⟩ := ha
  refine ⟨_, pe_callTy hc hg hm hv pa hn hdb he hpl, fun σ H Pr F ρ m Q Z R S E h k => ?_⟩
  refine q σ H Pr F ρ m _ Z _ S E h fun vs H1 ⟨P1, F1, m1, ds1, S1, t1, dv, z⟩ => ?_
  exact q' σ H1 P1 F1 ρ m1 vs ds1 Q R S1 dv z fun v H' z => k v H' (z.te t1)
theorem Dn.sqT {s : Bool} {K : PySem.W.Frag} {F : List Addr} {G H : Hp} {v : V} {ds : List D} (hG : ∀ a o, G a = some o → H a = some o) (h : Dn s K F G v (.tup ds)) : ∃ a vs, v = .ref a ∧ SqT K H a vs ∧ vs.length = ds.length ∧ DnA s K F G vs ds := by
  cases h with
  | tup h r => exact ⟨_, _, rfl, (h.mono fun a xs => hG a _).sq, r.length, r⟩
theorem Dn.sqL {s : Bool} {K : PySem.W.Frag} {F : List Addr} {G H : Hp} {v : V} {ds : List D} (hG : ∀ a o, G a = some o → H a = some o) (h : Dn s K F G v (.lst ds)) : ∃ a vs, v = .ref a ∧ SqL K H a vs ∧ vs.length = ds.length ∧ DnA s K F G vs ds := by
  cases h with
  | lst h r => exact ⟨_, _, rfl, (h.mono hG).sq, r.length, r⟩
def gLen : List D → (D → Prop) → Prop
  | [.lst xs], Q | [.tup xs], Q => Q (.int xs.length)
  | [.str z], Q => z.length ≤ sizeLine ∧ Q (.int z.length)
  | _, _ => False
theorem ca_len : CaOk X C .w (.builtin "len") gLen := by
  refine ⟨_, call_len_seq.or call_len_str, fun σ H Pr F ρ m vs ds Q R S dv q k => ?_⟩
  have dv : DnA false X.K F (wv F H) vs ds := dv
  unfold gLen at q
  split at q
  · cases dv with
    | cons h r =>
      cases r
      obtain ⟨a, us, rfl, hs, hl, _⟩ := h.sqL (fun _ _ => wv_le)
      refine .inl ⟨a, us, rfl, .inl hs, ?_⟩
      rw [hl]
      exact k _ _ (post_here S (.int _) (fun _ h => nomatch h) q)
  · cases dv with
    | cons h r =>
      cases r
      obtain ⟨a, us, rfl, hs, hl, _⟩ := h.sqT (fun _ _ => wv_le)
      refine .inl ⟨a, us, rfl, .inr hs, ?_⟩
      rw [hl]
      exact k _ _ (post_here S (.int _) (fun _ h => nomatch h) q)
  · cases dv with
    | cons h r =>
      cases r
      cases h
      exact .inr ⟨_, rfl, q.1, k _ _ (post_here S (.int _) (fun _ h => nomatch h) q.2)⟩
  · exact q.elim
def gI1 (f : Int → Int) : List D → (D → Prop) → Prop
  | [.int i], Q => Q (.int (f i))
  | _, _ => False
def gI2 (f : Int → Int → Int) : List D → (D → Prop) → Prop
  | [.int i, .int j], Q => Q (.int (f i j))
  | _, _ => False
theorem ca_I1 {f : Value} {g : Int → Int} (h : CallR X f (fun xs H Q => ∃ i, xs = [.int i] ∧ Q (.int (g i)) H)) : CaOk X C .w f (gI1 g) := by
  refine ⟨_, h, fun σ H Pr F ρ m vs ds Q R S dv q k => ?_⟩
  have dv : DnA false X.K F (wv F H) vs ds := dv
  unfold gI1 at q
  split at q
  · cases dv with
    | cons h r =>
      cases r
      cases h
      exact ⟨_, rfl, k _ _ (post_here S (.int _) (fun _ h => nomatch h) q)⟩
  · exact q.elim
theorem ca_I2 {f : Value} {g : Int → Int → Int} (h : CallR X f (fun xs H Q => ∃ i j, xs = [.int i, .int j] ∧ Q (.int (g i j)) H)) : CaOk X C .w f (gI2 g) := by
  refine ⟨_, h, fun σ H Pr F ρ m vs ds Q R S dv q k => ?_⟩
  have dv : DnA false X.K F (wv F H) vs ds := dv
  unfold gI2 at q
  split at q
  · cases dv with
    | cons h r =>
      cases r with
      | cons h' r =>
        cases r
        cases h
        cases h'
        exact ⟨_, _, rfl, k _ _ (post_here S (.int _) (fun _ h => nomatch h) q)⟩
  · exact q.elim
def iabs (i : Int) : Int := if i < 0 then -i else i
def imax (i j : Int) : Int := if j > i then j else i
def imin (i j : Int) : Int := if j < i then j else i
theorem ca_abs : CaOk X C .w (.builtin "abs") (gI1 iabs) := ca_I1 call_abs
theorem ca_max (hc : X.calm = true) : CaOk X C .w (.builtin "max") (gI2 imax) := ca_I2 (call_max2 hc)
theorem ca_min (hc : X.calm = true) : CaOk X C .w (.builtin "min") (gI2 imin) := ca_I2 (call_min2 hc)
def gInt : List D → (D → Prop) → Prop
  | [.int i], Q => Q (.int i)
  | [.bl b], Q => Q (.int (if b then 1 else 0))
  | _, _ => False
theorem post_new {K : PySem.W.Frag} {Pr : Addr → Prop} {F : List Addr} {H : Hp} {σ : L2.St} {ρ : En} {m : C.W.M} {Q : D → C.W.M → Prop} {p : Addr} {vs : List V} {ds : List D} (S : SR K C Pr F σ ρ m H) (hp : H p = none) (dv : DnA true K F (sv C.H0 Pr H) vs ds) (q : Q (.lst ds) m) :
    Post K C .f Pr F H σ ρ Q (.ref p) (upd H p (.lst vs)) := by
  obtain ⟨S2, t2⟩ := S.new1 (o := .lst vs) hp
  have np := S.np hp
  have dv2 : DnA true K F (sv C.H0 Pr (upd H p (.lst vs))) vs ds := DnA.mono t2.pre (sv_tr t2.toTr S.prs) dv
  exact ⟨Pr, F, m, .lst ds, S2, t2, ⟨.lst (vw_iff.mpr ⟨upd_same, .inr ⟨trivial, np, S.h0n hp⟩⟩) dv2, fun ds' e => by cases e; exact ⟨p, vs, rfl, hp, np, upd_same, dv2⟩⟩, q⟩
theorem post_newT {K : PySem.W.Frag} {Pr : Addr → Prop} {F : List Addr} {H : Hp} {σ : L2.St} {ρ : En} {m : C.W.M} {Q : D → C.W.M → Prop} {p : Addr} {vs : List V} {ds : List D} (S : SR K C Pr F σ ρ m H) (hp : H p = none) (dv : DnA true K F (sv C.H0 Pr H) vs ds) (q : Q (.tup ds) m) :
    Post K C .f Pr F H σ ρ Q (.ref p) (upd H p (.tup vs)) := by
  obtain ⟨S2, t2⟩ := S.new1 (o := .tup vs) hp
  exact ⟨Pr, F, m, .tup ds, S2, t2, dv_flat S2 (.tup (.inl (vw_iff.mpr ⟨upd_same, .inl trivial⟩)) (DnA.mono t2.pre (sv_tr t2.toTr S.prs) dv)) (fun _ h => nomatch h), q⟩
theorem DnA.up {K : PySem.W.Frag} {Pr : Addr → Prop} {F : List Addr} {H : Hp} {vs : List V} {ds : List D} (h : DnA false K F (wv F H) vs ds) (n : D.nls ds = true) : DnA true K F (sv C.H0 Pr H) vs ds :=
  h.flat ⟨[], by simp⟩ (fun a o i q => vw_iff.mpr ⟨wv_le q, .inl i⟩) n
theorem Dn.up {K : PySem.W.Frag} {Pr : Addr → Prop} {F : List Addr} {H : Hp} {v : V} {d : D} (h : Dn false K F (wv F H) v d) (n : d.nl = true) : Dn true K F (sv C.H0 Pr H) v d :=
  h.flat ⟨[], by simp⟩ (fun a o i q => vw_iff.mpr ⟨wv_le q, .inl i⟩) n
def gSeq (mk : List D → D) : List D → (D → Prop) → Prop
  | [.lst xs], Q | [.tup xs], Q => D.nls xs = true ∧ Q (mk xs)
  | _, _ => False
theorem ca_list : CaOk X C .w (.type "list") (gSeq .lst) := by
  refine ⟨_, call_list_of, fun σ H Pr F ρ m vs ds Q R S dv q k => ?_⟩
  have dv : DnA false X.K F (wv F H) vs ds := dv
  unfold gSeq at q
  split at q
  · cases dv with
    | cons h r =>
      cases r
      obtain ⟨a, us, rfl, hs, hl, hd⟩ := h.sqL (fun _ _ => wv_le)
      exact ⟨a, us, rfl, .inl hs, fun l hl => k _ _ (post_new S hl (hd.up q.1) q.2)⟩
  · cases dv with
    | cons h r =>
      cases r
      obtain ⟨a, us, rfl, hs, hl, hd⟩ := h.sqT (fun _ _ => wv_le)
      exact ⟨a, us, rfl, .inr hs, fun l hl => k _ _ (post_new S hl (hd.up q.1) q.2)⟩
  · exact q.elim
theorem ca_tuple : CaOk X C .w (.type "tuple") (gSeq .tup) := by
  refine ⟨_, call_tuple_of, fun σ H Pr F ρ m vs ds Q R S dv q k => ?_⟩
  have dv : DnA false X.K F (wv F H) vs ds := dv
  unfold gSeq at q
  split at q
  · cases dv with
    | cons h r =>
      cases r
      obtain ⟨a, us, rfl, hs, hl, hd⟩ := h.sqL (fun _ _ => wv_le)
      exact ⟨a, us, rfl, .inl ⟨hs, fun l hl => k _ _ (post_newT S hl (hd.up q.1) q.2)⟩⟩
  · cases dv with
    | cons h r =>
      cases r
      have hs := Dn.up (C := C) (Pr := Pr) h q.1
      obtain ⟨a, us, rfl, hs', hl, hd⟩ := h.sqT (fun _ _ => wv_le)
      exact ⟨a, us, rfl, .inr ⟨hs', k _ _ (post_here S hs (fun _ h => nomatch h) q.2)⟩⟩
  · exact q.elim
def D.ty : D → Option String
  | .non => some "NoneType" | .bl _ => some "bool" | .int _ => some "int" | .str _ => some "str" | .tup _ => some "tuple" | .lst _ => some "list" | .hnd _ => none | .dic => some "dict" | .exc _ => none | .fn _ => none | .ptr _ => none
def isiB (t T : String) : Bool := t == T || (t == "bool" && T == "int")
def IsiT (T : String) : Prop := ∀ t ∈ ["NoneType", "bool", "int", "str", "tuple", "list", "dict"], kitB t T = some (isiB t T)
theorem ty_of {K : PySem.W.Frag} {F : List Addr} {G H : Hp} {v : V} {d : D} (hG : ∀ a o, G a = some o → H a = some o) (h : Dn false K F G v d) {t : String} (e : d.ty = some t) : TyX K H v (.type t) := by
  cases h with
  | non => cases e; exact .base .non
  | bl b => cases e; exact .base (.bl b)
  | int i => cases e; exact .base (.int i)
  | str x => cases e; exact .base (.str x)
  | hnd h => cases e
  | exc h _ => cases e
  | fn h => cases e
  | ptr => cases e
  | dic h => cases e; exact .base (.dK (hG _ _ h))
  | tup h r =>
    cases e
    rcases h with h | ⟨o, its, n, h, c, _⟩
    · exact .base (.tup (hG _ _ h))
    · exact .kTuple h c
  | lst h r =>
    cases e
    rcases h with (h | ⟨o, h⟩) | ⟨o, its, n, h, c, _⟩
    · exact .base (.lst (hG _ _ h))
    · exact .base (.frz (hG _ _ h))
    · exact .kList h c
def dIsi {M : Type} (T : String) (t : DT M) : DT M := fun ρ m Q Z => t ρ m (fun d m1 => match d.ty with | some ty => Q (.bl (isiB ty T)) m1 | none => False) Z
theorem j_isi {T : String} {x : Str} {p p2 : Pos} {t : DT C.W.M} (hT : IsiT T) (ha : J .w X C a t) (mi : X.mg "isinstance" = none) (mx : X.mg x = none) (hv : bootBuiltins x = some (.type T)) (gi : Gl X "isinstance" := by rfl) (gx : Gl X x := by rfl) (hn : x ≠ "__name__" := by decide) (hdb : (x == ("__debug__" : Str)) = false := by decide)
    (he : starEach [a, .Name x p2] X.env = (false, eval a X.env) :: starEach [.Name x p2] X.env := by rfl) (hpl : (backTo pos (starEach [.Name x p2] X.env)).any (·.1) = false := by rfl) :
    J .f X C (.Call (.Name "isinstance" p) [a, .Name x p2] [] pos) (dIsi T t) := by
  obtain ⟨te, pa, q⟩ := ha
  refine ⟨_, pe_callB call_isi gi mi (by decide +kernel) (pa_cons pa (pa_cons (pe_bltn gx mx hv (v := .ty T) rfl hn hdb) pa_nil) he) (by decide) (by decide) he hpl, fun σ H Pr F ρ m Q Z R S E h k => ?_⟩
  refine q σ H Pr F ρ m _ Z _ S E h fun v H1 ⟨P1, F1, m1, d, S1, t1, dv, z⟩ => ?_
  try dsimp only at z
  split at z
  · rename_i ty e
    refine ⟨v, .ty T, .type ty, .type T, _, rfl, .ty T, ty_of (fun _ _ => wv_le) dv e, kit_ty (hT ty ?_), k _ _ ((post_here (d := .bl (isiB ty T)) S1 (.bl _) (fun _ h => nomatch h) z).te t1)⟩
    cases d <;> first | (cases e; simp) | cases e
  · exact z.elim
theorem isi_tuple : IsiT "tuple" := by unfold IsiT; decide +kernel
theorem isi_bool : IsiT "bool" := by unfold IsiT; decide +kernel
theorem isi_int : IsiT "int" := by unfold IsiT; decide +kernel
def gIx (n : Bool) : G2 := fun x y Q => match x, y with
  | .lst ds, .int i | .tup ds, .int i => (match atI ds i with | some d => (n = true → d.nl = true) ∧ Q d | none => False)
  | .str z, .int i => z.length ≤ sizeLine ∧ (match atI z.cps.toList i with | some c => Q (.str ⟨#[c]⟩) | none => False)
  | _, _ => False
theorem atI_dn {s : Bool} {K : PySem.W.Frag} {F : List Addr} {G : Hp} {vs : List V} {ds : List D} {i : Int} {d : D} (h : DnA s K F G vs ds) (e : atI ds i = some d) : ∃ v, atI vs i = some v ∧ Dn s K F G v d := by
  unfold atI at e ⊢
  rw [h.length]
  cases q : ixN ds.length i with
  | none => rw [q] at e; cases e
  | some j =>
    rw [q] at e
    exact h.getD (by simpa using e)
theorem ix_core {n sb : Bool} {K : PySem.W.Frag} {F : List Addr} {G H : Hp} {v w : V} {d d2 : D} {R : VK} {Q : D → Prop} (hG : ∀ a o, G a = some o → H a = some o) (dv : Dn sb K F G v d) (dw : w = .int 0 ∨ ∀ i, d2 = .int i → w = .int i)
    (hw : ∀ i, d2 = .int i → w = .int i) (q : gIx n d d2 Q) (fin : ∀ v' d', Dn sb K F G v' d' → (n = true → d'.nl = true) → Q d' → R v' H) : rIx K v w H R := by
  unfold gIx at q
  split at q
  · split at q
    · rename_i e
      cases dv with
      | lst hl hr =>
        obtain ⟨v', e', r'⟩ := atI_dn hr e
        exact .inl ⟨_, _, _, v', rfl, hw _ rfl, (hl.mono hG).sq, e', fin _ _ r' q.1 q.2⟩
    · exact q.elim
  · split at q
    · rename_i e
      cases dv with
      | tup hl hr =>
        obtain ⟨v', e', r'⟩ := atI_dn hr e
        exact .inr (.inl ⟨_, _, _, v', rfl, hw _ rfl, (hl.mono fun a xs => hG a _).sq, e', fin _ _ r' q.1 q.2⟩)
    · exact q.elim
  · obtain ⟨hz, q⟩ := q
    split at q
    · rename_i c e
      cases dv
      exact .inr (.inr ⟨_, _, c, rfl, hw _ rfl, hz, e, fin _ (.str ⟨#[c]⟩) (.str _) (fun _ => rfl) q⟩)
    · exact q.elim
  · exact q.elim
theorem j_ix {ta tb : DT C.W.M} (ha : J .s X C a ta) (hb : J .w X C b tb) (hs : PlainIx b := by exact fun _ _ => rfl) : J .s X C (.Subscript a b pos) (dBin (gIx false) ta tb) := by
  obtain ⟨te, p, q1⟩ := ha
  obtain ⟨te', p', q2⟩ := hb
  refine ⟨_, pe_ix ix_seq p p' hs, fun σ H Pr F ρ m Q Z R S E h k => ?_⟩
  refine q1 σ H Pr F ρ m _ Z _ S E h fun v H1 ⟨P1, F1, m1, d, S1, t1, dv, z⟩ => ?_
  refine q2 σ H1 P1 F1 ρ m1 _ Z _ S1 (E.te t1.toTr) z fun w H2 ⟨P2, F2, m2, d2, S2, t2, dv2, z2⟩ => ?_
  have dv2 : Dn false X.K F2 (wv F2 H2) w d2 := dv2
  have hw : ∀ i, d2 = .int i → w = .int i := fun i e => by rw [e] at dv2; exact dv2.toInt
  exact ix_core (fun _ _ => sv_le) (Dn.tr (H0 := C.H0) t2.toTr S1.prs dv) (.inr hw) hw z2 fun v' d' h _ q => k _ _ ⟨P2, F2, m2, d', S2, t1.trans t2, h, q⟩
theorem j_ixw {ta tb : DT C.W.M} (ha : J .w X C a ta) (hb : J .w X C b tb) (hs : PlainIx b := by exact fun _ _ => rfl) : J .s X C (.Subscript a b pos) (dBin (gIx true) ta tb) := by
  obtain ⟨te, p, q1⟩ := ha
  obtain ⟨te', p', q2⟩ := hb
  refine ⟨_, pe_ix ix_seq p p' hs, fun σ H Pr F ρ m Q Z R S E h k => ?_⟩
  refine q1 σ H Pr F ρ m _ Z _ S E h fun v H1 ⟨P1, F1, m1, d, S1, t1, dv, z⟩ => ?_
  refine q2 σ H1 P1 F1 ρ m1 _ Z _ S1 (E.te t1.toTr) z fun w H2 ⟨P2, F2, m2, d2, S2, t2, dv2, z2⟩ => ?_
  have dv2 : Dn false X.K F2 (wv F2 H2) w d2 := dv2
  have hw : ∀ i, d2 = .int i → w = .int i := fun i e => by rw [e] at dv2; exact dv2.toInt
  exact ix_core (fun _ _ => wv_le) (Dn.te t2 dv) (.inr hw) hw z2 fun v' d' h n q => k _ _ ⟨P2, F2, m2, d', S2, t1.trans t2, h.up (n rfl), q⟩
abbrev DTO (M : Type) := En → M → (Option Int → M → Prop) → (Str → M → Prop) → Prop
def JO (X : Cx) (C : Cn) (e : Option Expr) (t : DTO C.W.M) : Prop := ∃ te, PO X e te ∧
  ∀ σ H Pr F ρ m Q Z (R : Option Int → Hp → Prop), SR X.K C Pr F σ ρ m H → Ex X C Pr F H σ ρ Z → t ρ m Q Z → (∀ o H', (∃ Pr' F' m', SR X.K C Pr' F' σ ρ m' H' ∧ Te Pr F H Pr' F' H' ∧ Q o m') → R o H') → te σ H R
def dONone {M : Type} : DTO M := fun _ m Q _ => Q none m
def dOSome {M : Type} (t : DT M) : DTO M := fun ρ m Q Z => t ρ m (fun d m1 => match d with | .int i => Q (some i) m1 | _ => False) Z
theorem jo_none : JO X C none dONone := ⟨_, po_none, fun σ H Pr F ρ m Q Z R S E h k => k _ _ ⟨Pr, F, m, S, Te.refl, h⟩⟩
theorem jo_some {t : DT C.W.M} (h : J .w X C e t) : JO X C (some e) (dOSome t) := by
  obtain ⟨te, p, q⟩ := h
  refine ⟨_, po_some p, fun σ H Pr F ρ m Q Z R S E h k => ?_⟩
  refine q σ H Pr F ρ m _ Z _ S E h fun v H1 ⟨P1, F1, m1, d, S1, t1, dv, z⟩ => ?_
  have dv : Dn false X.K F1 (wv F1 H1) v d := dv
  try dsimp only at z
  split at z
  · exact ⟨_, dv.toInt, k _ _ ⟨P1, F1, m1, S1, t1, z⟩⟩
  · exact z.elim
def cutD (xs : List D) (lo hi : Option Int) : List D := (xs.drop (HT.sIx xs.length 0 lo)).take (HT.sIx xs.length xs.length hi - HT.sIx xs.length 0 lo)
theorem cut_dn {s : Bool} {K : PySem.W.Frag} {F : List Addr} {G : Hp} {vs : List V} {ds : List D} {lo hi : Option Int} (h : DnA s K F G vs ds) : DnA s K F G (cutV vs lo hi) (cutD ds lo hi) := by
  unfold cutV cutD
  rw [h.length]
  exact (h.drop _).take _
def dSl {M : Type} (t : DT M) (lo hi : DTO M) : DT M := fun ρ m Q Z => t ρ m (fun x m1 => lo ρ m1 (fun l m2 => hi ρ m2 (fun u m3 => match x with
  | .lst ds => D.nls ds = true ∧ Q (.lst (cutD ds l u)) m3
  | .tup ds => D.nls ds = true ∧ Q (.tup (cutD ds l u)) m3
  | _ => False) Z) Z) Z
theorem nls_all : ∀ {ds : List D}, D.nls ds = true ↔ ∀ d ∈ ds, d.nl = true
  | [] => by simp [D.nls]
  | d :: ds => by rw [D.nls, Bool.and_eq_true, nls_all]; simp
theorem nls_sub {ds es : List D} (h : D.nls ds = true) (s : ∀ d ∈ es, d ∈ ds) : D.nls es = true := nls_all.mpr fun d hd => nls_all.mp h d (s d hd)
theorem nls_cut {ds : List D} {l u : Option Int} (h : D.nls ds = true) : D.nls (cutD ds l u) = true := nls_sub h fun d hd => List.mem_of_mem_drop (List.mem_of_mem_take hd)
theorem j_sl {lo hi : Option Expr} {t : DT C.W.M} {tl th : DTO C.W.M} {p2 : Pos} (ha : J .w X C e t) (hl : JO X C lo tl) (hh : JO X C hi th) : J .f X C (.Subscript e (.Slice lo hi none p2) pos) (dSl t tl th) := by
  obtain ⟨te, p, q1⟩ := ha
  obtain ⟨te', p', q2⟩ := hl
  obtain ⟨te'', p'', q3⟩ := hh
  refine ⟨_, pe_slice (sl_list.or sl_tupA) p p' p'', fun σ H Pr F ρ m Q Z R S E h k => ?_⟩
  refine q1 σ H Pr F ρ m _ Z _ S E h fun v H1 ⟨P1, F1, m1, d, S1, t1, dv, z⟩ => ?_
  refine q2 σ H1 P1 F1 ρ m1 _ Z _ S1 (E.te t1.toTr) z fun l H2 ⟨P2, F2, m2, S2, t2, z2⟩ => ?_
  refine q3 σ H2 P2 F2 ρ m2 _ Z _ S2 (E.te (t1.trans t2).toTr) z2 fun u H3 ⟨P3, F3, m3, S3, t3, z3⟩ => ?_
  have dv : Dn false X.K F3 (wv F3 H3) v d := Dn.te (t2.trans t3) dv
  have t4 := t1.trans (t2.trans t3)
  try dsimp only at z3
  split at z3
  · obtain ⟨a, us, rfl, hs, hl, hd⟩ := dv.sqL (fun _ _ => wv_le)
    exact .inl ⟨a, us, rfl, hs, fun p hp => k _ _ ((post_new S3 hp (cut_dn hd |>.up (nls_cut z3.1)) z3.2).te t4)⟩
  · have hst := Dn.up (C := C) (Pr := P3) dv z3.1
    generalize hds : (D.tup _) = dd at hst
    cases hds
    obtain ⟨a, us, rfl, hs, hl, hd⟩ := dv.sqT (fun _ _ => wv_le)
    refine .inr ⟨a, us, rfl, hs, fun w => ?_, fun _ p hp => k _ _ ((post_newT S3 hp (cut_dn hd |>.up (nls_cut z3.1)) z3.2).te t4)⟩
    have e : ∀ {ds : List D}, us.length = ds.length → cutD ds l u = ds := fun {ds} hl => by
      unfold cutD
      rw [← hl, w.1, w.2, List.drop_zero, Nat.sub_zero, hl, List.take_length]
    rw [e hl] at z3
    exact k _ _ ((post_here S3 hst (fun _ h => nomatch h) z3.2).te t4)
  · exact z3.elim
end
end RR
namespace RR
open PySem PySem.Spec PyProof.Rows L2
theorem tup_mul0 (l : Addr) (xs : Array Value) (n : Nat) (dd : Option Addr) (sl : Array (Option Value)) (x : Int) (u : Tok) (h0 : x ≤ 0) (hl : -(2 ^ 63) ≤ x) (ne : xs.isEmpty = false) :
    Meets (Builtin.«tuple.__mul__» ⟨[.ref l, .int x u], []⟩) (fun _ R s => s.heap.get? l = some ⟨.type "tuple", dd, .seq xs n, sl⟩ ∧ R (.ok (.ret (.ref s.heap.objs.size))) { s with heap := s.heap.push { cls := .type "tuple", data := .seq #[] }, toks := s.toks }) := by
  refine .of_wp fun prog w A R s h => ?_
  obtain ⟨hp, g, d, tk, os⟩ := s
  obtain ⟨at_, h⟩ := h
  have q0 : (decide (x < -(2 ^ 63)) || decide (x ≥ 2 ^ 63)) = false := by rw [decide_eq_false (by omega), decide_eq_false (by omega)]; rfl
  have q1 : (xs.isEmpty || x == 1) = false := by rw [ne, Bool.false_or]; exact beq_eq_false_iff_ne.mpr (by omega)
  have q2 : (decide (x ≤ 0) || xs.isEmpty) = true := by rw [decide_eq_true h0]; rfl
  have f1 := AutoSeq1.idx_int
  wp_walk using wpAny_loadPart' at_
  repeat (first
    | (refine wpAny_ite_false (decide_eq_false (fun z => Bool.false_ne_true (q0.symm.trans z))) ?_; wp_walk using wpAny_loadPart' at_)
    | (refine wpAny_ite_false (decide_eq_false (fun z => Bool.false_ne_true (q1.symm.trans z))) ?_; wp_walk using wpAny_loadPart' at_)
    | (refine wpAny_ite_true (decide_eq_true q2) ?_; wp_walk using wpAny_loadPart' at_)
    | exact ⟨_, rfl, h⟩)
theorem tup_mul1 (l : Addr) (xs : Array Value) (n : Nat) (dd : Option Addr) (sl : Array (Option Value)) (u : Tok) :
    Meets (Builtin.«tuple.__mul__» ⟨[.ref l, .int 1 u], []⟩) (fun _ R s => s.heap.get? l = some ⟨.type "tuple", dd, .seq xs n, sl⟩ ∧ R (.ok (.ret (.ref l))) s) := by
  refine .of_wp fun prog w A R s h => ?_
  obtain ⟨hp, g, d, tk, os⟩ := s
  obtain ⟨at_, h⟩ := h
  have q0 : (decide ((1 : Int) < -(2 ^ 63)) || decide ((1 : Int) ≥ 2 ^ 63)) = false := by decide
  have q1 : (xs.isEmpty || (1 : Int) == 1) = true := by simp
  have f1 := AutoSeq1.idx_int
  wp_walk using wpAny_loadPart' at_
  repeat (first
    | (refine wpAny_ite_false (decide_eq_false (fun z => Bool.false_ne_true (q0.symm.trans z))) ?_; wp_walk using wpAny_loadPart' at_)
    | (refine wpAny_ite_true (decide_eq_true q1) ?_; wp_walk using wpAny_loadPart' at_)
    | exact ⟨_, rfl, h⟩)
def rRepF (K : PySem.W.Frag) : R2 := fun x y H Q => ∃ l k xs, x = .ref l ∧ y = .int k ∧ SqT K H l xs ∧ xs ≠ [] ∧ -(2 ^ 63) ≤ k ∧ ((k ≤ 0 ∧ ∀ p, H p = none → Q (.ref p) (upd H p (.tup []))) ∨ (k = 1 ∧ Q (.ref l) H))
theorem op_repF {X : Cx} : OpR X (binaryOp .Mult) (rRepF X.K) := by
  intro pins s σ H x y v u Q I rx ry h
  obtain ⟨l, k, xs, rfl, rfl, sq, ne, kl, h⟩ := h
  cases rx
  obtain ⟨t, rfl⟩ := ry
  obtain ⟨its, r, ⟨⟨cls, dd, data, sl⟩, at_, hc, n, hd⟩, hs⟩ := I.tuple sq
  simp only at hc hd
  subst hc
  subst hd
  have full : its.toArray.isEmpty = false := by
    cases its with
    | nil => cases r; exact absurd rfl ne
    | cons a b => rfl
  rcases h with ⟨k0, q⟩ | ⟨rfl, q⟩
  · have mul := tup_mul0 l its.toArray n dd sl k t k0 kl full
    refine wpAny_binaryOp_repeat_ref (T := "tuple") (U := "int") (by decide) ⟨_, at_, rfl⟩ (fun s' => typeIs_int s' k t) noFill_tuple_mul F.fills_int_mul F.slot_int_rmul repeat_tuple F.slot_int_index.lookup ?_
    refine call_meets F.slot_int_rmul (typeIs_int s k t) F.entry_int_rmul (F.args_int_rmul_2 _ _) (int_rmul_tuple k t l its.toArray n dd sl) ⟨at_, rfl, ⟨_, at_, rfl⟩, ?_⟩
    refine call_meets F.slot_tuple_mul ⟨_, at_, rfl⟩ F.entry_tuple_mul (F.args_tuple_mul_2 _ _) mul ⟨at_, ?_⟩
    exact ⟨.ref s.heap.objs.size, _, I.laid (t' := s.toks) (o := .tup []) (fun b ob q => Heap.get?_push_of_some _ q) (Nat.le_refl _) ⟨Nat.zero_le _, [], .nil, IsTup.new _ _⟩, rfl, q _ (I.hok.fresh (Nat.le_refl _))⟩
  · have mul := tup_mul1 l its.toArray n dd sl t
    refine wpAny_binaryOp_repeat_ref (T := "tuple") (U := "int") (by decide) ⟨_, at_, rfl⟩ (fun s' => typeIs_int s' 1 t) noFill_tuple_mul F.fills_int_mul F.slot_int_rmul repeat_tuple F.slot_int_index.lookup ?_
    refine call_meets F.slot_int_rmul (typeIs_int s 1 t) F.entry_int_rmul (F.args_int_rmul_2 _ _) (int_rmul_tuple 1 t l its.toArray n dd sl) ⟨at_, rfl, ⟨_, at_, rfl⟩, ?_⟩
    refine call_meets F.slot_tuple_mul ⟨_, at_, rfl⟩ F.entry_tuple_mul (F.args_tuple_mul_2 _ _) mul ⟨at_, ?_⟩
    exact ⟨.ref l, H, I, rfl, q⟩
end RR
namespace RR
open PySem PyProof.Rows
open PySem.AutoSeq1 (wpAny_loadPart')
theorem draws_tuple {prog : Program} {w : World} {A : Around} (hh : A.handled = none) (it l : Addr) (hne : l ≠ it) (items : Array Value) :
    Draws prog w A it [it, l] items.size (fun i v => items[i]? = some v) (fun i h => h.IsTupleIter it l i ∧ h.IsTuple l items) where
  live := fun _ _ st => let ⟨o, ho, _⟩ := st.1; ⟨o, ho⟩
  frame := fun _ _ _ st hk => ⟨st.1.at fun o e => hk it (by simp) o e, by
    obtain ⟨o, e, r⟩ := st.2
    exact ⟨o, hk l (by simp) o e, r⟩⟩
  item := fun i s Q E hi st hQ => by
    refine RZ.nextOf_tuple_item st.1 st.2 (x := items[i]) (by simp [hi]) fun h' hit' hs' => ?_
    refine hQ _ h' s.toks (by simp [hi]) ⟨hit', ?_⟩ hs'
    obtain ⟨o, e, r⟩ := st.2
    exact ⟨o, (hs'.2 l hne).trans e, r⟩
  done := fun s Q E st hE => RZ.nextOf_tuple_end hh st.1 st.2 (by simp) hE
theorem meets_enumerate_newT (l : Addr) (items : Array Value) :
    Meets (Builtin.«enumerate.__new__» ⟨[.type "enumerate", .ref l], []⟩) (fun _ R s => s.heap.IsTuple l items ∧
      R (.ok (.ret (.ref (s.heap.push { cls := .type "tuple_iterator", data := .fields #[.ref l, .int 0 0] }).objs.size)))
        { s with heap := (s.heap.push { cls := .type "tuple_iterator", data := .fields #[.ref l, .int 0 0] }).push { cls := .type "enumerate", data := .fields #[.none, .bool false, .ref s.heap.objs.size, rawInt 0, .none, .none] } }) :=
  .of_wp fun prog w A R s h => by
    obtain ⟨hp, g, d, tk, os⟩ := s; obtain ⟨hl, h⟩ := h
    have hsub := sub_enumerate
    have hL : Heap.IsTuple (Shared.heap ⟨hp, g, d, tk, os⟩) l items := hl
    wp_walk using wpAny_pyIter_tuple hL
    refine wpAny_stack_any fun st => wpAny_pure ?_
    split
    · rename_i c _ _ _ _ _
      cases (c == Value.type "enumerate")
      · wp_walk using wpAny_pyIter_tuple hL
        exact ⟨_, rfl, h⟩
      · wp_walk using wpAny_pyIter_tuple hL
        exact ⟨_, rfl, h⟩
    · wp_walk using wpAny_pyIter_tuple hL
      exact ⟨_, rfl, h⟩
section
variable {prog : Program} {w : World} {A : Around} {E : Value → Shared → Prop} {s : Shared}
theorem call_enumerate_tuple {l : Addr} {items : Array Value} {Q : Value → Shared → Prop} (hL : s.heap.IsTuple l items)
    (h : ∀ h', IsEnum h' (s.heap.objs.size + 1) s.heap.objs.size 0 .none → h'.IsTupleIter s.heap.objs.size l 0 → h'.objs.size = s.heap.objs.size + 2 →
      (∀ b o, s.heap.get? b = some o → h'.get? b = some o) → Q (.ref (s.heap.objs.size + 1)) { s with heap := h' }) :
    wpAny (model prog w) A (call (.type "enumerate") [.ref l]) Q E s := by
  refine callType_new F.called_enumerate (by decide) (F.typeCall_enumerate_1 _) (F.newCall_enumerate_1 _) (fun obj => F.args_object_init_2 obj _) F.entry_enumerate_new
    (meets_enumerate_newT l items) ⟨hL, ?_⟩
  have hz : (s.heap.push { cls := .type "tuple_iterator", data := .fields #[.ref l, .int 0 0] }).objs.size = s.heap.objs.size + 1 := Heap.size_push ..
  show _ ∧ _
  rw [hz]
  have he : IsEnum ((s.heap.push { cls := .type "tuple_iterator", data := .fields #[.ref l, .int 0 0] }).push
      { cls := .type "enumerate", data := .fields #[.none, .bool false, .ref s.heap.objs.size, rawInt 0, .none, .none] }) (s.heap.objs.size + 1) s.heap.objs.size 0 .none := by
    have := Heap.get?_push_size (s.heap.push { cls := .type "tuple_iterator", data := .fields #[.ref l, .int 0 0] })
      (o := { cls := .type "enumerate", data := .fields #[.none, .bool false, .ref s.heap.objs.size, rawInt 0, .none, .none] }) rfl
    rw [hz] at this; exact this
  refine ⟨⟨_, he, rfl⟩, h _ he ⟨_, Heap.get?_push_of_some _ (Heap.get?_push_size _ rfl), rfl, rfl⟩ (by rw [Heap.size_push, hz]) fun b o x => Heap.get?_push_of_some _ (Heap.get?_push_of_some _ x)⟩
end
open PySem.Spec L2
def IteT (K : PySem.W.Frag) (a : Addr) : It :=
  ⟨fun i H => ∃ (xs : List V) (x : V), SqT K H a xs ∧ xs[i]? = some x, fun i H v H' => ∃ T x, v = .ref T ∧ H T = none ∧ H' = upd H T (.tup [.int (i : Nat), x]) ∧ ∀ xs, SqT K H a xs → xs[i]? = some x, fun i H => ∃ xs : List V, SqT K H a xs ∧ xs.length ≤ i⟩
theorem turn_enumT {P : Program} {w : World} {K : PySem.W.Frag} {elts : List Expr} {kk : Nat} {tpos : Pos} (a e it : Addr) :
    Turn P w K (.Tuple elts kk tpos) (IteT K a) [e, it] e (fun i h => (∃ old, IsEnum h e it ((i : Nat) : Int) old) ∧ h.IsTupleIter it a i ∧ e ≠ it) where
  mem := by simp
  obj := fun i h st b hb => by
    obtain ⟨⟨old, he⟩, ⟨o, ho, hc, hd⟩, _⟩ := st
    have e' : b = e ∨ b = it := by simpa using hb
    rcases e' with z | z
    · rw [z]; exact ⟨_, he, fun v q => nomatch q⟩
    · rw [z]; exact ⟨o, ho, fun v q => by rw [hd] at q; cases q⟩
  keep := fun i h h' st k => let ⟨⟨old, he⟩, hi, hne⟩ := st; ⟨⟨old, k e (by simp) _ he⟩, hi.at fun o q => k it (by simp) o q, hne⟩
  item := by
    intro X hP hw hK hc i pins s σ H E I hf st hg
    subst hP hw hK
    obtain ⟨⟨old, he⟩, hit, hne⟩ := st
    obtain ⟨xs, x, hq, hx⟩ := hg
    obtain ⟨its, rv, p, hz⟩ := I.tuple hq
    obtain ⟨u, hu, ru⟩ := rv.get hx
    have hel : e < s.heap.objs.size := Heap.lt_size he
    have hil : it < s.heap.objs.size := by obtain ⟨_, q, _⟩ := hit; exact Heap.lt_size q
    have hai : a ≠ it := fun z => by
      obtain ⟨o, q, c, _⟩ := p
      obtain ⟨o', q', c', _⟩ := hit
      rw [z, q'] at q; cases q
      rw [c'] at c; exact absurd c (by decide)
    have hae : a ≠ e := fun z => by
      obtain ⟨o, q, c, _⟩ := p
      rw [z, he] at q; cases q
      exact absurd (show Value.type "enumerate" = Value.type "tuple" from c) (by decide)
    refine wpAny_pyNext_enum_itemD (draws_tuple (A := X.A.in1) (I.ok.hd hc) it a hai its.toArray) he ⟨hit, p⟩ (by simpa using (List.getElem?_eq_some_iff.mp hu).1) hne (fun z => by
      have e' : e = it ∨ e = a := by simpa using z
      exact e'.elim hne fun z => hae z.symm) fun y h' tk hy ho hst hT hsz hk => ?_
    have ey : y = u := by
      have hy : its.toArray[i]? = some y := hy
      rw [List.getElem?_toArray, hu] at hy
      exact (Option.some.inj hy).symm
    subst ey
    refine ⟨_, rfl, wpAny_letOwnedTupleGo_enum (s := { s with heap := h', toks := tk + 1 }) ho fun h'' he' sb => ?_⟩
    have hT2 : h''.get? s.heap.objs.size = some { cls := .type "tuple", data := .seq #[.int i tk, y] } := (sb.2 _ (Nat.ne_of_gt hel)).trans hT
    have new : ObjOk X.prog X.w (upd H s.heap.objs.size (.tup [.int (i : Nat), x])) h'' s.heap.objs.size (.tup [.int (i : Nat), x]) :=
      ⟨by show 2 ≤ sizeLine; decide, [.int i tk, y], .cons ⟨_, rfl⟩ (.cons ru .nil), ⟨_, hT2, rfl, _, rfl⟩⟩
    have I1 : Inv X pins σ (upd H s.heap.objs.size (.tup [.int (i : Nat), x])) { s with heap := h'', toks := tk + 1 } :=
      I.turnedNew (t' := tk + 1) (ch := [e, it]) (fun b ob hb q => (sb.2 b (fun z => hb (by simp [z]))).trans (hk b ob (fun z => hb (by simp [z])) (fun z => hb (by simp [z])) q)) hf (Nat.le_refl _) new
    refine ⟨.ref s.heap.objs.size, _, I1, rfl, ⟨_, x, rfl, I.hok.fresh (Nat.le_refl _), rfl, fun ys hy => by rw [I.tuple_inj hy hq]; exact hx⟩, ⟨⟨y, ?_⟩, hst.1.at fun o q => (sb.2 it (Ne.symm hne)).trans q, hne⟩, fun b hb => ?_⟩
    · have e1 : ((i + 1 : Nat) : Int) = (i : Int) + 1 := by omega
      rw [e1]; exact he'
    · have hb' : b < s.heap.objs.size := by
        have e' : b = e ∨ b = it := by simpa using hb
        rcases e' with z | z
        · rw [z]; exact hel
        · rw [z]; exact hil
      rw [upd_ne (Nat.ne_of_lt hb')]
      exact (hf b hb).1
  done := by
    intro X hP hw hK hc i pins s σ H E I hf st hg
    subst hP hw hK
    obtain ⟨⟨old, he⟩, hit, hne⟩ := st
    obtain ⟨xs, hq, hx⟩ := hg
    obtain ⟨its, rv, p, hz⟩ := I.tuple hq
    obtain ⟨f0, f1, f2, f3, f4, f5⟩ := hf it (by simp)
    have hl := rv.length
    have hT : s.TypeIs (.ref e) "enumerate" := ⟨_, he, rfl⟩
    show wpAny _ X.A (pyNext (.ref e)) _ E s
    unfold pyNext
    refine wpAny_bind (wpAny_attempt (wpAny_callSpecial?_slot (name := Str.ofString "__next__") hT F.slot_enumerate_next
      (wpAny_call_entry F.slot_enumerate_next hT F.entry_enumerate_next ?_ (F.args_enumerate_next_1 _))))
    show wpAny _ _ (field (.ref e) 2 >>= _) _ _ _
    refine wpAny_bind (wpAny_field he rfl (x := .ref it) rfl ?_)
    refine wpAny_bind (RZ.nextOf_tuple_end (A := X.A.in1) (I.ok.hd hc) hit p (by simp; omega) fun h' x he' hx' => ?_)
    obtain ⟨o, ho, hcx⟩ := hx'
    refine wpAny_bind (wpAny_isInstance (T := "StopIteration") (b := true) ⟨o, ho, hcx⟩ isSubtype_stop ?_)
    exact wpAny_pure ⟨rfl, I.turned (t' := s.toks) (fun b o hb q => he' b o hb q) f0 f1 f3 f4 f5⟩
  self := fun A i s Q E st h => let ⟨⟨_, he⟩, _⟩ := st; wpAny_pyIter_enum he h
def iEnumA (K : PySem.W.Frag) (ta : TA) : TI := fun σ H R => ta σ H fun vs H1 => ∃ a xs, vs = [.ref a] ∧ ((SqL K H1 a xs ∧ R (Ite K a) H1) ∨ (SqT K H1 a xs ∧ R (IteT K a) H1))
theorem pi_enumA {X : Cx} {e : Expr} {ta : TA} {p pos tpos : Pos} {elts : List Expr} {kk : Nat} (hg : Gl X "enumerate") (hm : X.mg "enumerate" = none) (ha : PA X [e] ta) (hs : starEach [e] X.env = [(false, eval e X.env)] := by rfl) :
    PI X (.Tuple elts kk tpos) (.Call (.Name "enumerate" p) [e] [] pos) (iEnumA X.K ta) := by
  refine ⟨fun pins s σ H R I h => ?_⟩
  refine Call_ (ld_blt I hg hm boot_enumerate (PyProof.Rows.callWith_type1 (thn (ha.run pos pins s σ H _ I h) fun us s1 ⟨vs, H1, I1, r1, q1⟩ => ?_) hs rfl))
  obtain ⟨a, xs, ex, q1⟩ := q1
  subst ex
  have fin : ∀ {b : Addr}, (b = s1.heap.objs.size + 1 ∨ b = s1.heap.objs.size) → FpOk X pins H1 b := fun {b} e' => by
    have hle : s1.heap.objs.size ≤ b := by
      rcases e' with z | z
      · rw [z]; exact Nat.le_add_right _ _
      · rw [z]; exact Nat.le_refl _
    exact I1.fpOk hle (I1.hok.fresh hle)
  cases r1 with
  | cons r rr =>
    cases rr
    cases r
    rcases q1 with ⟨hq, q⟩ | ⟨hq, q⟩
    · obtain ⟨its, rv, p', hz⟩ := I1.list hq
      refine call_enumerate_list p'.isList fun h' he hit hsz hk => wpAny_pyIter_enum he ?_
      have I2 : Inv X pins σ H1 { s1 with heap := h' } := I1.kept (t' := s1.toks) hk
      exact ⟨s1.heap.objs.size + 1, [s1.heap.objs.size + 1, s1.heap.objs.size], _, _, H1, rfl, I2, turn_enum a (s1.heap.objs.size + 1) s1.heap.objs.size, ⟨⟨.none, he⟩, hit, Nat.succ_ne_self _⟩, fun b hb => fin (by simpa using hb), q⟩
    · obtain ⟨its, rv, p', hz⟩ := I1.tuple hq
      refine call_enumerate_tuple p' fun h' he hit hsz hk => wpAny_pyIter_enum he ?_
      have I2 : Inv X pins σ H1 { s1 with heap := h' } := I1.kept (t' := s1.toks) hk
      exact ⟨s1.heap.objs.size + 1, [s1.heap.objs.size + 1, s1.heap.objs.size], _, _, H1, rfl, I2, turn_enumT a (s1.heap.objs.size + 1) s1.heap.objs.size, ⟨⟨.none, he⟩, hit, Nat.succ_ne_self _⟩, fun b hb => fin (by simpa using hb), q⟩
theorem walk_enumT {K : PySem.W.Frag} {a : Addr} {xs : List V} : Walk (IteT K a) xs.length (fun H => SqT K H a xs) (YPair (fun i => some (.int (i : Nat))) (fun i => xs[i]?)) := by
  refine ⟨fun i _ hi q => ⟨xs, xs[i], q, by simp [hi]⟩, fun _ q => ⟨xs, q, Nat.le_refl _⟩, fun i H v H' _ q y => ?_⟩
  obtain ⟨T, x, h1, h2, h3, h4⟩ := y
  exact ⟨T, .int (i : Nat), x, h1, h2, h3, rfl, h4 xs q⟩
def iSeq (K : PySem.W.Frag) (tl : TE) : TI := fun σ H R => tl σ H fun x H1 => ∃ a xs, x = .ref a ∧ ((SqL K H1 a xs ∧ R (Itl K a) H1) ∨ (SqT K H1 a xs ∧ R (Itt K a) H1))
theorem pi_seq {X : Cx} {tg l : Expr} {tl : TE} (hl : PE X l tl) : PI X tg l (iSeq X.K tl) := by
  refine ⟨fun pins s σ H R I h => ?_⟩
  refine thn (hl.run pins s σ H _ I h) fun v s1 ⟨x, H1, I1, r1, q1⟩ => ?_
  obtain ⟨a, xs, e, q⟩ := q1
  subst e
  cases r1
  rcases q with ⟨hq, q⟩ | ⟨hq, q⟩
  · obtain ⟨its, rv, p, hz⟩ := I1.list hq
    refine wpAny_pyIter_list p.isList ?_
    refine ⟨s1.heap.objs.size, [s1.heap.objs.size], _, _, H1, rfl, I1.kept (t' := s1.toks) fun b o e => Heap.get?_push_of_some _ e, turn_list a _, ⟨_, Heap.get?_push_size _ rfl, rfl, rfl⟩, fun b hb => ?_, q⟩
    have e : b = s1.heap.objs.size := by simpa using hb
    subst e
    exact I1.fpOk (Nat.le_refl _) (I1.hok.fresh (Nat.le_refl _))
  · obtain ⟨its, rv, p, hz⟩ := I1.tuple hq
    refine wpAny_pyIter_tuple (show s1.heap.IsTuple a its.toArray from p) ?_
    refine ⟨s1.heap.objs.size, [s1.heap.objs.size], _, _, H1, rfl, I1.kept (t' := s1.toks) fun b o e => Heap.get?_push_of_some _ e, turn_tuple a _, ⟨_, Heap.get?_push_size _ rfl, rfl, rfl⟩, fun b hb => ?_, q⟩
    have e : b = s1.heap.objs.size := by simpa using hb
    subst e
    exact I1.fpOk (Nat.le_refl _) (I1.hok.fresh (Nat.le_refl _))
end RR
namespace RR
open PySem PySem.Spec PyProof.Rows L2
def JD (X : Cx) (C : Cn) (e : Expr) (t : DT C.W.M) : Prop := ∃ te, PE X e te ∧
  ∀ σ H Pr F ρ m Q Z (R : VK), SR X.K C Pr F σ ρ m H → Ex X C Pr F H σ ρ Z → t ρ m Q Z →
    (∀ v H', (∃ Pr' F' m' d, SR X.K C Pr' F' σ ρ m' H' ∧ Te Pr F H Pr' F' H' ∧ Dn true X.K F' (wv F' H') v d ∧ Q d m') → R v H') → te σ H R
section
variable {X : Cx} {C : Cn} {e a b : Expr} {pos : Pos}
theorem J.sd {t : DT C.W.M} (h : J .s X C e t) : JD X C e t := by
  obtain ⟨te, p, q⟩ := h
  exact ⟨te, p, fun σ H Pr F ρ m Q Z R S E h k => q σ H Pr F ρ m Q Z R S E h fun v H' ⟨P1, F1, m1, d, S1, t1, dv, z⟩ => k v H' ⟨P1, F1, m1, d, S1, t1, Dn.mono ⟨[], by simp⟩ S1.sv_wv dv, z⟩⟩
theorem J.fd {t : DT C.W.M} (h : J .f X C e t) : JD X C e t := h.sf.sd
theorem Dn.ted {K : PySem.W.Frag} {Pr Pr1 : Addr → Prop} {F F1 : List Addr} {H H1 : Hp} {v : V} {d : D} (t : Te Pr F H Pr1 F1 H1) (h : Dn true K F (wv F H) v d) : Dn true K F1 (wv F1 H1) v d := h.mono t.pre (wv_te t)
def OpD (X : Cx) (C : Cn) (f : Value → Value → Sem Value) (g : G2) : Prop := ∃ r, OpR X f r ∧
  ∀ σ H Pr F ρ m x y dx dy Q (R : VK), SR X.K C Pr F σ ρ m H → Dn true X.K F (wv F H) x dx → Dn true X.K F (wv F H) y dy → g dx dy (fun d => Q d m) → (∀ v H', Post X.K C .f Pr F H σ ρ Q v H' → R v H') → r x y H R
theorem j_bind {op : Operator} {g : G2} {ta tb : DT C.W.M} (o : OpD X C (binaryOp op) g) (ha : JD X C a ta) (hb : JD X C b tb) : J .f X C (.BinOp a op b pos) (dBin g ta tb) := by
  obtain ⟨r, ho, q⟩ := o
  obtain ⟨te, p, q1⟩ := ha
  obtain ⟨te', p', q2⟩ := hb
  refine ⟨_, pe_op ho p p', fun σ H Pr F ρ m Q Z R S E h k => ?_⟩
  refine q1 σ H Pr F ρ m _ Z _ S E h fun v H1 ⟨P1, F1, m1, d, S1, t1, dv, z⟩ => ?_
  refine q2 σ H1 P1 F1 ρ m1 _ Z _ S1 (E.te t1.toTr) z fun w H2 ⟨P2, F2, m2, d2, S2, t2, dv2, z2⟩ => ?_
  exact q σ H2 P2 F2 ρ m2 v w d d2 Q R S2 (dv.ted t2) dv2 z2 fun v H' z => k v H' ((z.te t2).te t1)
def gAdd : G2 := fun x y Q => match x, y with
  | .int i, .int j => Q (.int (i + j))
  | .lst xs, .lst ys => xs.length + ys.length ≤ sizeLine ∧ D.nls xs = true ∧ D.nls ys = true ∧ Q (.lst (xs ++ ys))
  | .tup xs, .tup ys => xs.length + ys.length ≤ sizeLine ∧ D.nls xs = true ∧ D.nls ys = true ∧ Q (.tup (xs ++ ys))
  | .str s, .str t => s.length + t.length ≤ sizeLine ∧ Q (.str (s ++ t))
  | _, _ => False
theorem nls_app {xs ys : List D} (h : D.nls xs = true) (h' : D.nls ys = true) : D.nls (xs ++ ys) = true := nls_all.mpr fun d hd => (List.mem_append.mp hd).elim (nls_all.mp h d) (nls_all.mp h' d)
theorem okd_add : OpD X C (binaryOp .Add) gAdd := by
  refine ⟨_, op_add.or (op_cat.or (op_catA.or op_add_str)), fun σ H Pr F ρ m x y dx dy Q R S hx hy q k => ?_⟩
  unfold gAdd at q
  split at q
  · rw [hx.toInt, hy.toInt]
    exact .inl ⟨_, _, rfl, rfl, k _ _ (post_here S (.int _) (fun _ h => nomatch h) q)⟩
  · obtain ⟨q1, q2, q3, q⟩ := q
    cases hx with
    | lst h r =>
      cases hy with
      | lst h' r' =>
        refine .inr (.inl ⟨_, _, _, _, rfl, rfl, wv_le h, wv_le h', by rw [r.length, r'.length]; exact q1, fun p hp => k _ _ (post_new S hp ?_ q)⟩)
        exact ((r.weak).app r'.weak).up (nls_app q2 q3)
  · obtain ⟨q1, q2, q3, q⟩ := q
    cases hx with
    | tup h r =>
      cases hy with
      | tup h' r' =>
        have s1 := (Dn.tup h r).weak.up (C := C) (Pr := Pr) (show D.nl (.tup _) = true from q2)
        have s2 := (Dn.tup h' r').weak.up (C := C) (Pr := Pr) (show D.nl (.tup _) = true from q3)
        refine .inr (.inr (.inl ⟨_, _, _, _, rfl, rfl, (h.mono fun a xs => wv_le).sq, (h'.mono fun a xs => wv_le).sq, by rw [r.length, r'.length]; exact q1, fun e => k _ _ ?_, fun _ e => k _ _ ?_, fun _ _ p hp => k _ _ (post_newT S hp ?_ q)⟩))
        · subst e
          cases r
          exact post_here S s2 (fun _ h => nomatch h) q
        · subst e
          cases r'
          rw [List.append_nil] at q
          exact post_here S s1 (fun _ h => nomatch h) q
        · exact ((r.weak).app r'.weak).up (nls_app q2 q3)
  · cases hx
    cases hy
    exact .inr (.inr (.inr ⟨_, _, rfl, rfl, q.1, k _ _ (post_here S (.str _) (fun _ h => nomatch h) q.2)⟩))
  · exact q.elim
def rep (k : Int) (xs : List D) : List D := (List.replicate k.toNat xs).flatten
def gMul : G2 := fun x y Q => match x, y with
  | .int i, .int j => IntMulOk i j ∧ Q (.int (i * j))
  | .lst xs, .int k => -(2 ^ 63) ≤ k ∧ k < 2 ^ 63 ∧ xs.length * k.toNat ≤ sizeLine ∧ D.nls xs = true ∧ Q (.lst (rep k xs))
  | .tup xs, .int k => xs ≠ [] ∧ -(2 ^ 63) ≤ k ∧ k ≤ 1000 ∧ xs.length ≤ 1000 ∧ D.nls xs = true ∧ Q (.tup (rep k xs))
  | _, _ => False
theorem nls_rep {xs : List D} {k : Int} (h : D.nls xs = true) : D.nls (rep k xs) = true := nls_sub h fun d hd => by
  obtain ⟨l, hl, hd⟩ := List.mem_flatten.mp hd
  rw [List.eq_of_mem_replicate hl] at hd
  exact hd
theorem okd_mul : OpD X C (binaryOp .Mult) gMul := by
  refine ⟨_, op_mulA.or (op_rep.or (op_repT.or op_repF)), fun σ H Pr F ρ m x y dx dy Q R S hx hy q k => ?_⟩
  unfold gMul at q
  split at q
  · rw [hx.toInt, hy.toInt]
    exact .inl ⟨_, _, rfl, rfl, q.1, k _ _ (post_here S (.int _) (fun _ h => nomatch h) q.2)⟩
  · obtain ⟨q1, q2, q3, q4, q⟩ := q
    cases hx with
    | lst h r =>
      refine .inr (.inl ⟨_, _, _, rfl, hy.toInt, wv_le h, q1, q2, by rw [r.length]; exact q3, fun p hp => k _ _ (post_new S hp ?_ q)⟩)
      exact ((r.weak).rep _).up (nls_rep q4)
  · rename_i xs' k'
    obtain ⟨q1, q2, q3, q4, q5, q⟩ := q
    cases hx with
    | tup h r =>
      have nn : ∀ {vs : List V}, DnA true X.K F (wv F H) vs xs' → vs ≠ [] := fun z e => q1 (by subst e; cases z; rfl)
      by_cases k1 : k' ≤ 1
      · refine .inr (.inr (.inr ⟨_, _, _, rfl, hy.toInt, (h.mono fun a xs => wv_le).sq, nn r, q2, ?_⟩))
        by_cases k0 : k' ≤ 0
        · refine .inl ⟨k0, fun p hp => k _ _ (post_newT S hp .nil ?_)⟩
          unfold rep at q
          rw [show k'.toNat = 0 by omega] at q
          exact q
        · obtain rfl : k' = 1 := by omega
          have s1 := (Dn.tup h r).weak.up (C := C) (Pr := Pr) (show D.nl (.tup _) = true from q5)
          refine .inr ⟨rfl, k _ _ (post_here S s1 (fun _ h => nomatch h) ?_)⟩
          unfold rep at q
          rw [show (1 : Int).toNat = 1 from rfl, List.replicate_one, List.flatten_cons, List.flatten_nil, List.append_nil] at q
          exact q
      · refine .inr (.inr (.inl ⟨_, _, _, rfl, hy.toInt, (h.mono fun a xs => wv_le).sq, nn r, by omega, q3, by rw [r.length]; exact q4, fun p hp => k _ _ (post_newT S hp ?_ q)⟩))
        exact ((r.weak).rep _).up (nls_rep q5)
  · exact q.elim
def Wk (K : PySem.W.Frag) (C : Cn) (st : Bool) (Pr : Addr → Prop) (F : List Addr) (H : Hp) (items : List D) (J : It) : Prop := ∃ (G : Hp → Prop) (Y : Nat → Hp → V → Hp → Prop), Walk J items.length G Y ∧
  ∀ Pr' F' H', (if st = true then Tr Pr F H Pr' F' H' else Te Pr F H Pr' F' H') → G H' ∧ ∀ i v H2, Y i H' v H2 → (∀ a o, H' a = some o → H2 a = some o) ∧ ∃ d, items[i]? = some d ∧ Dn true K F' (sv C.H0 Pr' H2) v d
def JI (st : Bool) (X : Cx) (C : Cn) (tg iter : Expr) (t : DTA C.W.M) : Prop := ∃ wi, PI X tg iter wi ∧
  ∀ σ H Pr F ρ m Q Z (R : It → Hp → Prop), SR X.K C Pr F σ ρ m H → Ex X C Pr F H σ ρ Z → t ρ m Q Z →
    (∀ J H', (∃ Pr' F' m' items, SR X.K C Pr' F' σ ρ m' H' ∧ Te Pr F H Pr' F' H' ∧ Wk X.K C st Pr' F' H' items J ∧ Q items m') → R J H') → wi σ H R
def dSeq {M : Type} (n : Bool) (t : DT M) : DTA M := fun ρ m Q Z => t ρ m (fun d m1 => match d with | .lst ds | .tup ds => (n = true → D.nls ds = true) ∧ Q ds m1 | _ => False) Z
theorem tr_of {Pr Pr' : Addr → Prop} {F F' : List Addr} {H H' : Hp} {st : Bool} (t : if st = true then Tr Pr F H Pr' F' H' else Te Pr F H Pr' F' H') : Tr Pr F H Pr' F' H' := by
  cases st with
  | true => exact t
  | false => exact Te.toTr (show Te Pr F H Pr' F' H' from t)
theorem Tp.at {K : PySem.W.Frag} {H0 : Hp} {Pr : Addr → Prop} {H : Hp} {a : Addr} {xs : List V} (h : Tp K (sv H0 Pr H) a xs) : SqT K H a xs := (h.mono fun a xs => sv_le).sq
theorem dn_get {K : PySem.W.Frag} {F : List Addr} {G : Hp} {s : Bool} {vs : List V} {ds : List D} {i : Nat} {v : V} (h : DnA s K F G vs ds) (e : vs[i]? = some v) : ∃ d, ds[i]? = some d ∧ Dn s K F G v d := h.get e
theorem ji_seq {tg : Expr} {t : DT C.W.M} (h : J .s X C e t) : JI true X C tg e (dSeq false t) := by
  obtain ⟨te, p, q⟩ := h
  refine ⟨_, pi_seq p, fun σ H Pr F ρ m Q Z R S E h k => ?_⟩
  refine q σ H Pr F ρ m _ Z _ S E h fun v H1 ⟨P1, F1, m1, d, S1, t1, dv, z⟩ => ?_
  have dv : Dn true X.K F1 (sv C.H0 P1 H1) v d := dv
  cases dv with
  | lst h r =>
    have h : sv C.H0 P1 H1 _ = some (.lst _) := h
    refine ⟨_, _, rfl, .inl ⟨.inl (.inl (sv_le h)), k _ _ ⟨P1, F1, m1, _, S1, t1, ⟨_, _, by rw [← r.length]; exact walk_list, fun P2 F2 H2 t2 => ⟨SqL.of (K := X.K) (sv_le (sv_tr (tr_of t2) S1.prs _ _ h)), fun i v H3 y => ?_⟩⟩, z.2⟩⟩⟩
    obtain ⟨rfl, e⟩ := y
    exact ⟨fun _ _ h => h, dn_get (DnA.mono (tr_of t2).pre (sv_tr (tr_of t2) S1.prs) r) e⟩
  | tup h r =>
    refine ⟨_, _, rfl, .inr ⟨h.at, k _ _ ⟨P1, F1, m1, _, S1, t1, ⟨_, _, by rw [← r.length]; exact walk_tup, fun P2 F2 H2 t2 => ⟨(h.mono fun a xs => sv_tr (tr_of t2) S1.prs a _).at, fun i v H3 y => ?_⟩⟩, z.2⟩⟩⟩
    obtain ⟨rfl, e⟩ := y
    exact ⟨fun _ _ h => h, dn_get (DnA.mono (tr_of t2).pre (sv_tr (tr_of t2) S1.prs) r) e⟩
  | _ => exact z.elim
theorem Ls.wv {K : PySem.W.Frag} {F : List Addr} {H : Hp} {s : Bool} {a : Addr} {xs : List V} (h : Ls s K (wv F H) a xs) : SqL K H a xs := (h.mono fun _ _ => wv_le).sq
theorem Tp.wv {K : PySem.W.Frag} {F : List Addr} {H : Hp} {a : Addr} {xs : List V} (h : Tp K (wv F H) a xs) : SqT K H a xs := (h.mono fun a xs => wv_le).sq
theorem bor_tr {K : PySem.W.Frag} {Pr Pr' : Addr → Prop} {F F' : List Addr} {σ : L2.St} {ρ : En} {m : C.W.M} {H H' : Hp} (S : SR K C Pr F σ ρ m H) (t : Tr Pr F H Pr' F' H') : ∀ a o, wv C.F0 C.K0 a = some o → wv F' H' a = some o := fun a o h => by
  obtain ⟨e, n⟩ := vw_iff.mp h
  have nf : a ∉ F := fun z => by rw [S.new a z n] at e; cases e
  have np : ¬ Pr a := fun z => by rw [S.prn a z nf] at e; cases e
  have e1 := S.keep a o n e
  refine vw_iff.mpr ⟨t.keep a o np e1, fun z => ?_⟩
  have z := t.fn a z nf
  rw [e1] at z; cases z
theorem ji_bor {tg : Expr} (i : Nat) {x : Str} (hN : X.N[i]? = some x := by rfl) (hv : Vis X.env.scope x := by first | exact Or.inl rfl | exact Or.inr (Or.inl rfl) | exact Or.inr (Or.inr rfl)) (hd : (x == ("__debug__" : Str)) = false := by decide)
    (hcd : (x == ("__classdict__" : Str)) = false := by decide) : JI true X C tg (.Name x pos) (dSeq true (dBor i)) := by
  refine ⟨_, pi_seq (pe_var hN hv hd hcd), fun σ H Pr F ρ m Q Z R S E h k => ?_⟩
  unfold dSeq dBor at h
  split at h
  · rename_i d e
    obtain ⟨v, e1, dv⟩ := S.slot i _ e
    refine ⟨v, e1, ?_⟩
    have b1 := bor_tr S (Tr.refl (Pr := Pr))
    cases dv with
    | lst hl r =>
      refine ⟨_, _, rfl, .inl ⟨(hl.mono b1).wv, k _ _ ⟨Pr, F, m, _, S, Te.refl, ⟨_, _, by rw [← r.length]; exact walk_list, fun P2 F2 H2 t2 => ⟨(hl.mono (bor_tr S t2)).wv, fun i v H3 y => ?_⟩⟩, h.2⟩⟩⟩
      obtain ⟨rfl, e⟩ := y
      exact ⟨fun _ _ h => h, dn_get ((DnA.mono (pre_trans S.pre (tr_of t2).pre) (bor_tr S t2) r).up (h.1 rfl)) e⟩
    | tup hl r =>
      refine ⟨_, _, rfl, .inr ⟨(hl.mono fun a xs => b1 a _).wv, k _ _ ⟨Pr, F, m, _, S, Te.refl, ⟨_, _, by rw [← r.length]; exact walk_tup, fun P2 F2 H2 t2 => ⟨(hl.mono fun a xs => bor_tr S t2 a _).wv, fun i v H3 y => ?_⟩⟩, h.2⟩⟩⟩
      obtain ⟨rfl, e⟩ := y
      exact ⟨fun _ _ h => h, dn_get ((DnA.mono (pre_trans S.pre (tr_of t2).pre) (bor_tr S t2) r).up (h.1 rfl)) e⟩
    | _ => exact h.elim
  · exact h.elim
def iota (lo : Int) (n : Nat) : List D := (List.range n).map fun k => D.int (lo + (k : Nat))
theorem iota_get {lo : Int} {n i : Nat} (h : i < n) : (iota lo n)[i]? = some (.int (lo + i)) := by
  unfold iota
  rw [List.getElem?_map, List.getElem?_range h]
  rfl
theorem iota_len {lo : Int} {n : Nat} : (iota lo n).length = n := by unfold iota; simp
theorem wk_range {K : PySem.W.Frag} {st : Bool} {Pr : Addr → Prop} {F : List Addr} {H : Hp} {lo : Int} {n : Nat} : Wk K C st Pr F H (iota lo n) (Itr lo n) := by
  refine ⟨_, fun i H x H' => i < n ∧ H' = H ∧ x = .int (lo + i), by rw [iota_len]; exact ⟨walk_range.goes, walk_range.stops, fun i H x H' hi g y => ⟨hi, walk_range.yields i H x H' hi g y⟩⟩, fun P2 F2 H2 t2 => ⟨trivial, fun i v H3 y => ?_⟩⟩
  obtain ⟨hi, rfl, rfl⟩ := y
  exact ⟨fun _ _ h => h, _, iota_get hi, .int _⟩
def dRng1 {M : Type} (t : DTA M) : DTA M := fun ρ m Q Z => t ρ m (fun ds m1 => match ds with | [.int j] => -(2 ^ 62) ≤ j ∧ j < 2 ^ 62 ∧ Q (iota 0 j.toNat) m1 | _ => False) Z
def dRng2 {M : Type} (t : DTA M) : DTA M := fun ρ m Q Z => t ρ m (fun ds m1 => match ds with | [.int i, .int j] => (-(2 ^ 62) ≤ i ∧ i < 2 ^ 62 ∧ -(2 ^ 62) ≤ j ∧ j < 2 ^ 62) ∧ Q (iota i (j - i).toNat) m1 | _ => False) Z
theorem dnA1 {s : Bool} {K : PySem.W.Frag} {F : List Addr} {G : Hp} {vs : List V} {j : Int} (h : DnA s K F G vs [.int j]) : vs = [.int j] := by
  cases h with
  | cons h r =>
    cases r
    cases h
    rfl
theorem dnA2 {s : Bool} {K : PySem.W.Frag} {F : List Addr} {G : Hp} {vs : List V} {i j : Int} (h : DnA s K F G vs [.int i, .int j]) : vs = [.int i, .int j] := by
  cases h with
  | cons h r =>
    cases h
    rw [dnA1 r]
theorem ji_range1 {st : Bool} {tg : Expr} {t : DTA C.W.M} {p : Pos} (hm : X.mg "range" = none) (ha : JA .w X C [a] t) (hg : Gl X "range" := by rfl) (hs : starEach [a] X.env = [(false, eval a X.env)] := by rfl) : JI st X C tg (.Call (.Name "range" p) [a] [] pos) (dRng1 t) := by
  obtain ⟨te, pa, q⟩ := ha
  refine ⟨_, pi_range1 hg hm pa hs, fun σ H Pr F ρ m Q Z R S E h k => ?_⟩
  refine q σ H Pr F ρ m _ Z _ S E h fun vs H1 ⟨P1, F1, m1, ds, S1, t1, dv, z⟩ => ?_
  have dv : DnA false X.K F1 (wv F1 H1) vs ds := dv
  dsimp only at z
  split at z
  · exact ⟨_, dnA1 dv, z.1, z.2.1, k _ _ ⟨P1, F1, m1, _, S1, t1, wk_range, z.2.2⟩⟩
  · exact z.elim
theorem ji_range2 {st : Bool} {tg : Expr} {t : DTA C.W.M} {p : Pos} (hm : X.mg "range" = none) (ha : JA .w X C [a, b] t) (hg : Gl X "range" := by rfl) (hs : starEach [a, b] X.env = [(false, eval a X.env), (false, eval b X.env)] := by rfl) (hs2 : starEach [b] X.env = [(false, eval b X.env)] := by rfl) :
    JI st X C tg (.Call (.Name "range" p) [a, b] [] pos) (dRng2 t) := by
  obtain ⟨te, pa, q⟩ := ha
  refine ⟨_, pi_range2 hg hm pa hs hs2, fun σ H Pr F ρ m Q Z R S E h k => ?_⟩
  refine q σ H Pr F ρ m _ Z _ S E h fun vs H1 ⟨P1, F1, m1, ds, S1, t1, dv, z⟩ => ?_
  have dv : DnA false X.K F1 (wv F1 H1) vs ds := dv
  dsimp only at z
  split at z
  · exact ⟨_, _, dnA2 dv, z.1, k _ _ ⟨P1, F1, m1, _, S1, t1, wk_range, z.2⟩⟩
  · exact z.elim
def enumD (n : Nat) : List D → List D
  | [] => []
  | d :: r => .tup [.int (n : Nat), d] :: enumD (n + 1) r
theorem enum_len : ∀ {n : Nat} {ds : List D}, (enumD n ds).length = ds.length
  | _, [] => rfl
  | n, _ :: r => congrArg (· + 1) (enum_len (n := n + 1) (ds := r))
theorem enum_get : ∀ {n : Nat} {ds : List D} {i : Nat} {d : D}, ds[i]? = some d → (enumD n ds)[i]? = some (.tup [.int ((n + i : Nat) : Int), d])
  | _, [], _, _, h => by simp at h
  | n, x :: r, 0, d, h => by simp at h; subst h; rfl
  | n, x :: r, i + 1, d, h => by
    have := enum_get (n := n + 1) (ds := r) (i := i) (d := d) (by simpa using h)
    rw [show n + 1 + i = n + (i + 1) by omega] at this
    exact this
def dEnum {M : Type} (n : Bool) (t : DT M) : DTA M := fun ρ m Q Z => dSeq n t ρ m (fun ds m1 => Q (enumD 0 ds) m1) Z
theorem pair_dn {K : PySem.W.Frag} {Pr : Addr → Prop} {F : List Addr} {H : Hp} {T : Addr} {x y : V} {dx dy : D} (nT : H T = none) (hx : Dn true K F (sv C.H0 Pr H) x dx) (hy : Dn true K F (sv C.H0 Pr H) y dy) : (∀ a o, H a = some o → upd H T (.tup [x, y]) a = some o) ∧ Dn true K F (sv C.H0 Pr (upd H T (.tup [x, y]))) (.ref T) (.tup [dx, dy]) := by
  have k : ∀ a o, H a = some o → upd H T (.tup [x, y]) a = some o := fun a o e => by rw [upd_ne (ne_of_none e nT)]; exact e
  have up : ∀ a o, sv C.H0 Pr H a = some o → sv C.H0 Pr (upd H T (.tup [x, y])) a = some o := fun a o e => by
    obtain ⟨e, q⟩ := vw_iff.mp e
    exact vw_iff.mpr ⟨k a o e, q⟩
  exact ⟨k, .tup (.inl (vw_iff.mpr ⟨upd_same, .inl trivial⟩)) (.cons (hx.mono ⟨[], by simp⟩ up) (.cons (hy.mono ⟨[], by simp⟩ up) .nil))⟩
theorem wk_enumL {K : PySem.W.Frag} {st : Bool} {Pr : Addr → Prop} {F : List Addr} {H : Hp} {a : Addr} {xs : List V} {ds : List D} (hl : xs.length = ds.length)
    (g : ∀ Pr' F' H', (if st = true then Tr Pr F H Pr' F' H' else Te Pr F H Pr' F' H') → SqL K H' a xs ∧ DnA true K F' (sv C.H0 Pr' H') xs ds) : Wk K C st Pr F H (enumD 0 ds) (Ite K a) := by
  refine ⟨_, _, by rw [enum_len, ← hl]; exact walk_enum (xs := xs), fun P2 F2 H2 t2 => ⟨(g P2 F2 H2 t2).1, fun i v H3 y => ?_⟩⟩
  obtain ⟨T, x, z, rfl, nT, rfl, e1, e2⟩ := y
  cases e1
  obtain ⟨d, e, h⟩ := dn_get (g P2 F2 H2 t2).2 e2
  obtain ⟨k, h2⟩ := pair_dn nT (.int ((i : Nat) : Int)) h
  exact ⟨k, _, by rw [enum_get e, Nat.zero_add], h2⟩
theorem wk_enumT {K : PySem.W.Frag} {st : Bool} {Pr : Addr → Prop} {F : List Addr} {H : Hp} {a : Addr} {xs : List V} {ds : List D} (hl : xs.length = ds.length)
    (g : ∀ Pr' F' H', (if st = true then Tr Pr F H Pr' F' H' else Te Pr F H Pr' F' H') → SqT K H' a xs ∧ DnA true K F' (sv C.H0 Pr' H') xs ds) : Wk K C st Pr F H (enumD 0 ds) (IteT K a) := by
  refine ⟨_, _, by rw [enum_len, ← hl]; exact walk_enumT (xs := xs), fun P2 F2 H2 t2 => ⟨(g P2 F2 H2 t2).1, fun i v H3 y => ?_⟩⟩
  obtain ⟨T, x, z, rfl, nT, rfl, e1, e2⟩ := y
  cases e1
  obtain ⟨d, e, h⟩ := dn_get (g P2 F2 H2 t2).2 e2
  obtain ⟨k, h2⟩ := pair_dn nT (.int ((i : Nat) : Int)) h
  exact ⟨k, _, by rw [enum_get e, Nat.zero_add], h2⟩
theorem ji_enum {t : DT C.W.M} {p tpos : Pos} {elts : List Expr} {kk : Nat} (h : J .s X C e t) (hm : X.mg "enumerate" = none) (hg : Gl X "enumerate" := by rfl) (hs : starEach [e] X.env = [(false, eval e X.env)] := by rfl) :
    JI true X C (.Tuple elts kk tpos) (.Call (.Name "enumerate" p) [e] [] pos) (dEnum false t) := by
  obtain ⟨te, pe, q⟩ := h
  refine ⟨_, pi_enumA hg hm (pa_cons pe pa_nil hs) hs, fun σ H Pr F ρ m Q Z R S E h k => ?_⟩
  refine q σ H Pr F ρ m _ Z _ S E h fun v H1 ⟨P1, F1, m1, d, S1, t1, dv, z⟩ => ?_
  have dv : Dn true X.K F1 (sv C.H0 P1 H1) v d := dv
  cases dv with
  | lst h r =>
    have h : sv C.H0 P1 H1 _ = some (.lst _) := h
    exact ⟨_, _, rfl, .inl ⟨.inl (.inl (sv_le h)), k _ _ ⟨P1, F1, m1, _, S1, t1, wk_enumL r.length fun P2 F2 H2 t2 => ⟨.inl (.inl (sv_le (sv_tr (tr_of t2) S1.prs _ _ h))), DnA.mono (tr_of t2).pre (sv_tr (tr_of t2) S1.prs) r⟩, z.2⟩⟩⟩
  | tup h r =>
    exact ⟨_, _, rfl, .inr ⟨h.at, k _ _ ⟨P1, F1, m1, _, S1, t1, wk_enumT r.length fun P2 F2 H2 t2 => ⟨(h.mono fun a xs => sv_tr (tr_of t2) S1.prs a _).at, DnA.mono (tr_of t2).pre (sv_tr (tr_of t2) S1.prs) r⟩, z.2⟩⟩⟩
  | _ => exact z.elim
theorem ji_enumb {p tpos pos' : Pos} {elts : List Expr} {kk : Nat} (i : Nat) {x : Str} (hm : X.mg "enumerate" = none) (hN : X.N[i]? = some x := by rfl) (hv : Vis X.env.scope x := by first | exact Or.inl rfl | exact Or.inr (Or.inl rfl) | exact Or.inr (Or.inr rfl)) (hg : Gl X "enumerate" := by rfl) (hd : (x == ("__debug__" : Str)) = false := by decide)
    (hcd : (x == ("__classdict__" : Str)) = false := by decide) : JI true X C (.Tuple elts kk tpos) (.Call (.Name "enumerate" p) [.Name x pos'] [] pos) (dEnum true (dBor i)) := by
  refine ⟨_, pi_enumA hg hm (pa_cons (pe_var hN hv hd hcd) pa_nil rfl) rfl, fun σ H Pr F ρ m Q Z R S E h k => ?_⟩
  unfold dEnum dSeq dBor at h
  split at h
  · rename_i d e
    obtain ⟨v, e1, dv⟩ := S.slot i _ e
    refine ⟨v, e1, ?_⟩
    have b1 := bor_tr S (Tr.refl (Pr := Pr))
    cases dv with
    | lst hl r =>
      exact ⟨_, _, rfl, .inl ⟨(hl.mono b1).wv, k _ _ ⟨Pr, F, m, _, S, Te.refl, wk_enumL r.length fun P2 F2 H2 t2 => ⟨(hl.mono (bor_tr S t2)).wv, (DnA.mono (pre_trans S.pre (tr_of t2).pre) (bor_tr S t2) r).up (h.1 rfl)⟩, h.2⟩⟩⟩
    | tup hl r =>
      exact ⟨_, _, rfl, .inr ⟨(hl.mono fun a xs => b1 a _).wv, k _ _ ⟨Pr, F, m, _, S, Te.refl, wk_enumT r.length fun P2 F2 H2 t2 => ⟨(hl.mono fun a xs => bor_tr S t2 a _).wv, (DnA.mono (pre_trans S.pre (tr_of t2).pre) (bor_tr S t2) r).up (h.1 rfl)⟩, h.2⟩⟩⟩
    | _ => exact h.elim
  · exact h.elim
end
end RR
namespace RR
open PySem PySem.Spec PyProof.Rows L2 RZ RT
section
variable {X : Cx} {C : Cn} {e a b : Expr} {pos : Pos}
def zipD : List D → List D → List D
  | x :: xs, y :: ys => .tup [x, y] :: zipD xs ys
  | _, _ => []
theorem zip_len : ∀ {xs ys : List D}, (zipD xs ys).length = min xs.length ys.length
  | [], _ => by simp [zipD]
  | _ :: _, [] => by simp [zipD]
  | _ :: xs, _ :: ys => by rw [zipD, List.length_cons, zip_len]; simp <;> omega
theorem zip_get : ∀ {xs ys : List D} {i : Nat} {x y : D}, xs[i]? = some x → ys[i]? = some y → (zipD xs ys)[i]? = some (.tup [x, y])
  | [], _, _, _, _, h, _ => by simp at h
  | _ :: _, [], _, _, _, _, h => by simp at h
  | a :: xs, b :: ys, 0, x, y, h, h' => by simp at h h'; subst h h'; rfl
  | a :: xs, b :: ys, i + 1, x, y, h, h' => zip_get (xs := xs) (ys := ys) (i := i) (by simpa using h) (by simpa using h')
theorem walk_zipT {K : PySem.W.Frag} {a b : Addr} {xs ys : List V} {n : Nat} (hn : n = min xs.length ys.length) : Walk (ItzT K a b) n (fun H => SqT K H a xs ∧ SqT K H b ys) (YPair (fun i => xs[i]?) (fun i => ys[i]?)) := by
  subst hn
  refine ⟨fun i _ hi q => ?_, fun _ q => ⟨xs, ys, q.1, q.2, by omega⟩, fun i H v H' _ q y => ?_⟩
  · have h1 : i < xs.length := by omega
    have h2 : i < ys.length := by omega
    exact ⟨xs, ys, xs[i], ys[i], q.1, q.2, by simp [h1], by simp [h2]⟩
  · obtain ⟨T, x, z, h1, h2, h3, h4, h5⟩ := y
    exact ⟨T, x, z, h1, h2, h3, h4 xs q.1, h5 ys q.2⟩
def dZip {M : Type} (n : Bool) (t u : DT M) : DTA M := fun ρ m Q Z => t ρ m (fun x m1 => u ρ m1 (fun y m2 => match x, y with
  | .lst xs, .lst ys | .tup xs, .tup ys => (n = true → D.nls xs = true ∧ D.nls ys = true) ∧ Q (zipD xs ys) m2
  | _, _ => False) Z) Z
theorem wk_zip {K : PySem.W.Frag} {st : Bool} {Pr : Addr → Prop} {F : List Addr} {H : Hp} {J : It} {xs ys : List V} {ds es : List D} {G : Hp → Prop} (hl : xs.length = ds.length) (hl' : ys.length = es.length)
    (w : ∀ n, n = min xs.length ys.length → Walk J n G (YPair (fun i => xs[i]?) (fun i => ys[i]?)))
    (g : ∀ Pr' F' H', (if st = true then Tr Pr F H Pr' F' H' else Te Pr F H Pr' F' H') → G H' ∧ DnA true K F' (sv C.H0 Pr' H') xs ds ∧ DnA true K F' (sv C.H0 Pr' H') ys es) : Wk K C st Pr F H (zipD ds es) J := by
  refine ⟨G, _, w _ (by rw [zip_len, hl, hl']), fun P2 F2 H2 t2 => ⟨(g P2 F2 H2 t2).1, fun i v H3 y => ?_⟩⟩
  obtain ⟨T, x, z, rfl, nT, rfl, e1, e2⟩ := y
  obtain ⟨d, ed, hd⟩ := dn_get (g P2 F2 H2 t2).2.1 e1
  obtain ⟨d', ed', hd'⟩ := dn_get (g P2 F2 H2 t2).2.2 e2
  obtain ⟨k, h2⟩ := pair_dn nT hd hd'
  exact ⟨k, _, zip_get ed ed', h2⟩
theorem ji_zip {t u : DT C.W.M} {p tpos : Pos} {elts : List Expr} {kk : Nat} (ha : J .s X C a t) (hb : J .s X C b u) (hm : X.mg "zip" = none) (hg : Gl X "zip" := by rfl)
    (hs : starEach [a, b] X.env = (false, eval a X.env) :: starEach [b] X.env := by rfl) (hs2 : starEach [b] X.env = (false, eval b X.env) :: starEach [] X.env := by rfl) (hpl : (backTo pos (starEach [b] X.env)).any (·.1) = false := by rfl) :
    JI true X C (.Tuple elts kk tpos) (.Call (.Name "zip" p) [a, b] [] pos) (dZip false t u) := by
  obtain ⟨te, pe, q⟩ := ha
  obtain ⟨te', pe', q'⟩ := hb
  refine ⟨_, pi_zipA hg hm (pa_cons pe (pa_cons pe' pa_nil hs2) hs) hs hpl, fun σ H Pr F ρ m Q Z R S E h k => ?_⟩
  refine q σ H Pr F ρ m _ Z _ S E h fun v H1 ⟨P1, F1, m1, d, S1, t1, dv, z⟩ => ?_
  refine q' σ H1 P1 F1 ρ m1 _ Z _ S1 (E.te t1.toTr) z fun w H2 ⟨P2, F2, m2, d2, S2, t2, dv2, z2⟩ => ?_
  have dv : Dn true X.K F2 (sv C.H0 P2 H2) v d := Dn.tr (H0 := C.H0) t2.toTr S1.prs dv
  have dv2 : Dn true X.K F2 (sv C.H0 P2 H2) w d2 := dv2
  dsimp only at z2
  split at z2
  · cases dv with
    | lst h r =>
      cases dv2 with
      | lst h' r' =>
        have h : sv C.H0 P2 H2 _ = some (.lst _) := h
        have h' : sv C.H0 P2 H2 _ = some (.lst _) := h'
        exact ⟨_, _, _, _, rfl, .inl ⟨SqL.of (sv_le h), SqL.of (sv_le h'), k _ _ ⟨P2, F2, m2, _, S2, t1.trans t2, wk_zip r.length r'.length (fun n hn => walk_zip hn) fun P3 F3 H3 t3 =>
          ⟨⟨SqL.of (sv_le (sv_tr (tr_of t3) S2.prs _ _ h)), SqL.of (sv_le (sv_tr (tr_of t3) S2.prs _ _ h'))⟩, DnA.mono (tr_of t3).pre (sv_tr (tr_of t3) S2.prs) r, DnA.mono (tr_of t3).pre (sv_tr (tr_of t3) S2.prs) r'⟩, z2.2⟩⟩⟩
  · cases dv with
    | tup h r =>
      cases dv2 with
      | tup h' r' =>
        exact ⟨_, _, _, _, rfl, .inr ⟨h.at, h'.at, k _ _ ⟨P2, F2, m2, _, S2, t1.trans t2, wk_zip r.length r'.length (fun n hn => walk_zipT hn) fun P3 F3 H3 t3 =>
          ⟨⟨(h.mono fun a xs => sv_tr (tr_of t3) S2.prs a _).at, (h'.mono fun a xs => sv_tr (tr_of t3) S2.prs a _).at⟩, DnA.mono (tr_of t3).pre (sv_tr (tr_of t3) S2.prs) r, DnA.mono (tr_of t3).pre (sv_tr (tr_of t3) S2.prs) r'⟩, z2.2⟩⟩⟩
  · exact z2.elim
def dRev {M : Type} (n : Bool) (t : DT M) : DTA M := fun ρ m Q Z => dSeq n t ρ m (fun ds m1 => Q ds.reverse m1) Z
def dRevR {M : Type} (t : DT M) : DTA M := fun ρ m Q Z => t ρ m (fun d m1 => match d with | .int j => -(2 ^ 62) ≤ j ∧ j < 2 ^ 62 ∧ Q (iota 0 j.toNat).reverse m1 | _ => False) Z
def signs (z : Str) : List D := z.cps.toList.map fun c => D.str ⟨#[c]⟩
abbrev DG := D → En → (En → Prop) → Prop
abbrev DGs := List D → En → (En → Prop) → Prop
def JG (X : Cx) (C : Cn) (tg : Expr) (ws : List Nat) (g : DG) : Prop := ∃ tgt, PG X tg tgt ∧
  ∀ σ H Pr F ρ (m : C.W.M) v d Q (R : L2.St → Hp → Prop), SR X.K C Pr F σ ρ m H → Dn true X.K F (sv C.H0 Pr H) v d → g d ρ Q →
    (∀ σ' ρ', SR X.K C Pr F σ' ρ' m H → (∀ vs, (∀ i ∈ ws, i ∈ vs) → L2.wipe σ' vs = L2.wipe σ vs) → Q ρ' → R σ' H) → tgt v σ H R
def JGs (X : Cx) (C : Cn) (tgs : List Expr) (ws : List Nat) (g : DGs) : Prop := ∃ tgt, PGs X tgs tgt ∧
  ∀ σ H Pr F ρ (m : C.W.M) vs ds Q (R : L2.St → Hp → Prop), SR X.K C Pr F σ ρ m H → DnA true X.K F (sv C.H0 Pr H) vs ds → g ds ρ Q →
    (∀ σ' ρ', SR X.K C Pr F σ' ρ' m H → (∀ vs, (∀ i ∈ ws, i ∈ vs) → L2.wipe σ' vs = L2.wipe σ vs) → Q ρ' → R σ' H) → tgt vs σ H R
def dgN (i : Nat) : DG := fun d ρ Q => Q (ρ.set i (.val d))
def dgT (n : Nat) (g : DGs) : DG := fun d ρ Q => match d with | .tup ds => ds.length = n ∧ g ds ρ Q | _ => False
def dgNil : DGs := fun ds ρ Q => match ds with | [] => Q ρ | _ => False
def dgCons (g : DG) (r : DGs) : DGs := fun ds ρ Q => match ds with | d :: ds => g d ρ fun ρ' => r ds ρ' Q | _ => False
theorem wipe_set {σ : L2.St} {i : Nat} {x : Option V} : ∀ {vs : List Nat}, i ∈ vs → L2.wipe (σ.set i x) vs = L2.wipe σ vs
  | v :: vs, h => by
    unfold L2.wipe
    by_cases e : i ∈ vs
    · rw [wipe_set e]
    · have ev : i = v := (List.mem_cons.mp h).resolve_right e
      subst ev
      have out : ∀ {vs : List Nat}, i ∉ vs → L2.wipe (σ.set i x) vs = (L2.wipe σ vs).set i x := fun {vs} => by
        induction vs with
        | nil => intro _; rfl
        | cons w r ih =>
          intro h
          unfold L2.wipe
          rw [ih fun z => h (List.mem_cons_of_mem _ z), List.set_comm _ _ (fun z => h (by rw [z]; exact List.mem_cons_self))]
      rw [out e, List.set_set]
theorem jg_name (i : Nat) {x : Str} (hN : X.N.Nodup) (hi : X.N[i]? = some x := by rfl) (hx : Loc X.env.scope x := by first | exact .inl rfl | exact .inr rfl) (hf : X.fn x = true ∨ X.env.scope.names.lookup x = some .local := by first | exact .inl rfl | exact .inr rfl) : JG X C (.Name x pos) [i] (dgN i) := by
  refine ⟨_, pg_name hN hi hx hf, fun σ H Pr F ρ m v d Q R S dv q k => ?_⟩
  exact k _ _ (S.set i dv) (fun vs h => wipe_set (h i (by simp))) q
theorem jgs_nil : JGs X C [] [] dgNil := by
  refine ⟨_, pgs_nil, fun σ H Pr F ρ m vs ds Q R S dv q k => ?_⟩
  unfold dgNil at q
  split at q
  · cases dv
    exact ⟨rfl, k σ ρ S (fun _ _ => rfl) q⟩
  · exact q.elim
theorem jgs_cons {es : List Expr} {w1 w2 : List Nat} {g : DG} {r : DGs} (h : JG X C e w1 g) (h' : JGs X C es w2 r) (hs : (assignEach (e :: es) X.env).map (·.2) = assign e X.env :: (assignEach es X.env).map (·.2) := by rfl) : JGs X C (e :: es) (w1 ++ w2) (dgCons g r) := by
  obtain ⟨t1, p1, q1⟩ := h
  obtain ⟨t2, p2, q2⟩ := h'
  refine ⟨_, pgs_cons p1 p2 hs, fun σ H Pr F ρ m vs ds Q R S dv q k => ?_⟩
  unfold dgCons at q
  split at q
  · cases dv with
    | cons dh dt =>
      refine ⟨_, _, rfl, q1 σ H Pr F ρ m _ _ _ _ S dh q fun σ1 ρ1 S1 w1' z => ?_⟩
      refine q2 σ1 H Pr F ρ1 m _ _ Q R S1 dt z fun σ2 ρ2 S2 w2' z => k σ2 ρ2 S2 (fun vs h => ?_) z
      rw [w2' vs fun i hi => h i (List.mem_append_right _ hi), w1' vs fun i hi => h i (List.mem_append_left _ hi)]
  · exact q.elim
theorem jg_tup {es : List Expr} {ws : List Nat} {g : DGs} {k n : Nat} (hc : X.calm = true) (h : JGs X C es ws g) (hn : (assignEach es X.env).length = n := by rfl) (hst : (assignEach es X.env).findIdx? (·.1) = none := by rfl) : JG X C (.Tuple es k pos) ws (dgT n g) := by
  obtain ⟨t1, p1, q1⟩ := h
  refine ⟨_, pg_tup hc p1 hn hst, fun σ H Pr F ρ m v d Q R S dv q kk => ?_⟩
  unfold dgT at q
  split at q
  · cases dv with
    | tup h r =>
      exact ⟨_, _, rfl, h.at, by rw [r.length]; exact q.1, q1 σ H Pr F ρ m _ _ Q R S r q.2 kk⟩
  · exact q.elim
def lcGo {M : Type} (g : DG) (tt : DTT M) (te : DT M) (ρ : En) : List D → List D → M → (List D → M → Prop) → Prop
  | [], acc, m, Q => Q acc m
  | x :: r, acc, m, Q => g x ρ fun ρ2 => tt ρ2 m (fun b m1 => if b = true then te ρ2 m1 (fun y m2 => acc.length < sizeLine ∧ lcGo g tt te ρ r (acc ++ [y]) m2 Q) (fun _ _ => False) else lcGo g tt te ρ r acc m1 Q) (fun _ _ => False)
def dLc {M : Type} (ti : DTA M) (g : DG) (tt : DTT M) (te : DT M) (vs : List Nat) : DT M := fun ρ m Q Z => ti ρ m (fun items m1 => lcGo g tt te (wipeD ρ vs) items [] m1 (fun ds m2 => Q (.lst ds) m2)) Z
def JTs (X : Cx) (C : Cn) (ifs : List Expr) (t : DTT C.W.M) : Prop := ∃ te, PTs X ifs te ∧
  ∀ σ H Pr F ρ m Q Z (R : Bool → Hp → Prop), SR X.K C Pr F σ ρ m H → Ex X C Pr F H σ ρ Z → t ρ m Q Z → (∀ v H', PostT X.K C Pr F H σ ρ Q v H' → R v H') → te σ H R
def dYes {M : Type} : DTT M := fun _ m Q _ => Q true m
theorem jts_nil : JTs X C [] dYes := ⟨_, pts_nil, fun σ H Pr F ρ m Q Z R S E h k => k _ _ ⟨Pr, F, m, S, Te.refl, h⟩⟩
theorem jts_one {c : Expr} {t : DTT C.W.M} (h : JT X C c t) : JTs X C [c] t := by
  obtain ⟨te, p, q⟩ := h
  exact ⟨_, pts_one p, q⟩
abbrev Cn.nox (C : Cn) : Cn := { C with wx := fun _ _ _ _ => False }
theorem SR.nox {K : PySem.W.Frag} {Pr : Addr → Prop} {F : List Addr} {σ : L2.St} {ρ : En} {m : C.W.M} {H : Hp} (S : SR K C Pr F σ ρ m H) : SR K C.nox Pr F σ ρ m H := ⟨S.keep, S.pre, S.new, S.prs, S.prn, S.prf, S.rz, S.len, S.slot, S.dist⟩
theorem SR.unnox {K : PySem.W.Frag} {Pr : Addr → Prop} {F : List Addr} {σ : L2.St} {ρ : En} {m : C.W.M} {H : Hp} (S : SR K C.nox Pr F σ ρ m H) : SR K C Pr F σ ρ m H := ⟨S.keep, S.pre, S.new, S.prs, S.prn, S.prf, S.rz, S.len, S.slot, S.dist⟩
abbrev Blk (X : Cx) (scope : Scope) (s : Shared) (H : Hp) (c : Addr) (cl : List (Str × Addr)) (fp : List Addr) : Cx := X.blk s H scope (compEnvC scope cl c X.env) fp
theorem wipe_comm {σ : L2.St} {i : Nat} : ∀ {vs : List Nat}, (L2.wipe σ vs).set i none = L2.wipe (σ.set i none) vs
  | [] => rfl
  | v :: vs => by
    unfold L2.wipe
    by_cases e : v = i
    · subst e
      rw [List.set_set, ← wipe_comm (vs := vs), List.set_set]
    · rw [List.set_comm _ _ e, wipe_comm (vs := vs)]
theorem wipe_wipe {σ : L2.St} {us : List Nat} : ∀ {vs : List Nat}, (∀ i ∈ vs, i ∈ us) → L2.wipe (L2.wipe σ us) vs = L2.wipe σ us
  | [], _ => rfl
  | v :: vs, h => by
    show (L2.wipe (L2.wipe σ us) vs).set v none = L2.wipe σ us
    rw [wipe_wipe fun i hi => h i (List.mem_cons_of_mem _ hi), wipe_comm, wipe_set (h v List.mem_cons_self)]
theorem SR.guard {K : PySem.W.Frag} {Pr : Addr → Prop} {F : List Addr} {σ : L2.St} {ρ : En} {m : C.W.M} {H : Hp} (S : SR K C Pr F σ ρ m H) {p : Addr} {vs : List V} (hp : H p = none) :
    SR K C (fun a => Pr a ∨ a = p) F σ ρ m (upd H p (.lst vs)) ∧ Te Pr F H (fun a => Pr a ∨ a = p) F (upd H p (.lst vs)) := by
  have k : ∀ a u, H a = some u → upd H p (.lst vs) a = some u := fun a u e => by rw [upd_ne (ne_of_none e hp)]; exact e
  have t : Te Pr F H (fun a => Pr a ∨ a = p) F (upd H p (.lst vs)) := ⟨⟨⟨[], by simp⟩, fun a h n => by
    rcases h with h | h
    · exact absurd h n
    · rw [h]; exact hp, fun _ h n => absurd h n, fun a o h => ⟨o, k a o h⟩, fun a o _ h => k a o h⟩, fun _ h => .inl h, fun a o _ h => k a o h⟩
  refine ⟨⟨fun a o n e => k a o (S.keep a o n e), S.pre, S.new, fun a h => ?_, fun a h n => ?_, fun a h => .inl (S.prf a h), C.W.keep S.rz (fun a h => upd_ne fun z => S.nf hp (z ▸ h)) (fun a o _ e => k a o e), S.len, fun i s e => Sk.tr S.prs t.toTr (fun p _ _ o h => k p o h) (fun p h _ => .inl h) (S.slot i s e), S.dist⟩, t⟩
  · rcases h with h | h
    · obtain ⟨o, e, n⟩ := S.prs a h
      exact ⟨o, k a o e, n⟩
    · exact ⟨.lst vs, by rw [h]; exact upd_same, fun z => z⟩
  · rcases h with h | h
    · exact S.prn a h n
    · rw [h]; exact S.k0n hp
theorem SR.poke {K : PySem.W.Frag} {Pr : Addr → Prop} {F : List Addr} {σ : L2.St} {ρ : En} {m : C.W.M} {H : Hp} (S : SR K C Pr F σ ρ m H) {p : Addr} {vs ws : List V} (pp : Pr p) (nF : p ∉ F) (hp : H p = some (.lst vs)) (h0 : C.K0 p = none)
    (nown : ∀ (i : Nat) (ds : List D) (q : Addr), ρ[i]? = some (.own ds) → σ[i]? = some (some (.ref q)) → q ≠ p) :
    SR K C Pr F σ ρ m (upd H p (.lst ws)) ∧ ∀ a o, sv C.H0 Pr H a = some o → sv C.H0 Pr (upd H p (.lst ws)) a = some o := by
  have up : ∀ a o, sv C.H0 Pr H a = some o → sv C.H0 Pr (upd H p (.lst ws)) a = some o := fun a o e => by
    obtain ⟨e, q⟩ := vw_iff.mp e
    refine vw_iff.mpr ⟨?_, q⟩
    rw [upd_ne fun z => ?_]
    · exact e
    · rcases q with q | q
      · rw [z, hp] at e; cases e; exact q
      · exact q.2.1 (z ▸ pp)
  refine ⟨⟨fun a o n e => ?_, S.pre, S.new, fun a h => ?_, S.prn, S.prf, C.W.keep S.rz (fun a h => upd_ne fun z => nF (z ▸ h)) (fun a o it e => by rw [upd_ne (fun q => by rw [q, hp] at e; cases e; exact it)]; exact e), S.len, fun i s e => ?_, S.dist⟩, up⟩
  · rw [upd_ne fun z => by rw [z, h0] at e; cases e]
    exact S.keep a o n e
  · by_cases z : a = p
    · exact ⟨.lst ws, by rw [z]; exact upd_same, fun z => z⟩
    · obtain ⟨o, e, n⟩ := S.prs a h
      exact ⟨o, by rw [upd_ne z]; exact e, n⟩
  · cases s with
    | un => trivial
    | bor d => exact S.slot i _ e
    | val d =>
      obtain ⟨v, e1, q⟩ := S.slot i _ e
      exact ⟨v, e1, q.mono ⟨[], by simp⟩ up⟩
    | own ds =>
      obtain ⟨q, us, e1, h1, h2, h3, h4⟩ := S.slot i _ e
      exact ⟨q, us, e1, by rw [upd_ne (nown i ds q e e1)]; exact h1, h2, h3, h4.mono ⟨[], by simp⟩ up⟩
    | dct kvs =>
      obtain ⟨q, e1, h1, h2, h3⟩ := S.slot i _ e
      exact ⟨q, e1, by rw [upd_ne (fun z => by subst z; rw [hp] at h1; cases h1)]; exact h1, h2, h3⟩
theorem SR.unguard {K : PySem.W.Frag} {Pr : Addr → Prop} {F : List Addr} {σ : L2.St} {ρ : En} {m : C.W.M} {H : Hp} (S : SR K C Pr F σ ρ m H) {p : Addr} {vs : List V} (hp : H p = some (.lst vs)) (nF : p ∉ F) (h0 : C.H0 p = none)
    (nown : ∀ (i : Nat) (ds : List D) (q : Addr), ρ[i]? = some (.own ds) → σ[i]? = some (some (.ref q)) → q ≠ p) :
    SR K C (fun a => Pr a ∧ a ≠ p) F σ ρ m H ∧ ∀ a o, sv C.H0 Pr H a = some o → sv C.H0 (fun a => Pr a ∧ a ≠ p) H a = some o := by
  have up : ∀ a o, sv C.H0 Pr H a = some o → sv C.H0 (fun a => Pr a ∧ a ≠ p) H a = some o := fun a o e => by
    obtain ⟨e, q⟩ := vw_iff.mp e
    exact vw_iff.mpr ⟨e, q.imp id fun q => ⟨q.1, fun z => q.2.1 z.1, q.2.2⟩⟩
  refine ⟨⟨S.keep, S.pre, S.new, fun a h => S.prs a h.1, fun a h n => S.prn a h.1 n, fun a h => ⟨S.prf a h, fun z => nF (z ▸ h)⟩, S.rz, S.len, fun i s e => ?_, S.dist⟩, up⟩
  cases s with
  | un => trivial
  | bor d => exact S.slot i _ e
  | val d =>
    obtain ⟨v, e1, q⟩ := S.slot i _ e
    exact ⟨v, e1, q.mono ⟨[], by simp⟩ up⟩
  | own ds =>
    obtain ⟨q, us, e1, h1, h2, h3, h4⟩ := S.slot i _ e
    exact ⟨q, us, e1, h1, ⟨h2, nown i ds q e e1⟩, h3, h4.mono ⟨[], by simp⟩ up⟩
  | dct kvs =>
    obtain ⟨q, e1, h1, h2, h3⟩ := S.slot i _ e
    exact ⟨q, e1, h1, ⟨h2, fun z => by subst z; rw [hp] at h1; cases h1⟩, h3⟩
theorem lc_read {wi : TI} {tg : TG} {tt : TT} {te : TE} {ti : DTA C.W.M} {g : DG} {dt : DTT C.W.M} {de : DT C.W.M} {vs ws : List Nat} {σ : L2.St} {H : Hp} {Pr : Addr → Prop} {F : List Addr} {ρ : En} {m : C.W.M} {Q : D → C.W.M → Prop} {Z : Str → C.W.M → Prop} {R : VK}
    (hw : ∀ i ∈ ws, i ∈ vs)
    (qi : ∀ (R : It → Hp → Prop), (∀ J H', (∃ Pr' F' m' items, SR X.K C Pr' F' σ ρ m' H' ∧ Te Pr F H Pr' F' H' ∧ Wk X.K C false Pr' F' H' items J ∧ lcGo g dt de (wipeD ρ vs) items [] m' (fun ds m2 => Q (.lst ds) m2)) → R J H') → wi σ H R)
    (qg : ∀ σ H Pr F ρ (m : C.W.M) v d Q (R : L2.St → Hp → Prop), SR X.K C.nox Pr F σ ρ m H → Dn true X.K F (sv C.H0 Pr H) v d → g d ρ Q → (∀ σ' ρ', SR X.K C.nox Pr F σ' ρ' m H → (∀ vs, (∀ i ∈ ws, i ∈ vs) → L2.wipe σ' vs = L2.wipe σ vs) → Q ρ' → R σ' H) → tg v σ H R)
    (qt : ∀ σ H Pr F ρ m Q (R : Bool → Hp → Prop), SR X.K C.nox Pr F σ ρ m H → dt ρ m Q (fun _ _ => False) → (∀ v H', PostT X.K C.nox Pr F H σ ρ Q v H' → R v H') → tt σ H R)
    (qe : ∀ σ H Pr F ρ m Q (R : VK), SR X.K C.nox Pr F σ ρ m H → de ρ m Q (fun _ _ => False) → (∀ v H', Post X.K C.nox .s Pr F H σ ρ Q v H' → R v H') → te σ H R)
    (S : SR X.K C Pr F σ ρ m H) (k : ∀ v H', Post X.K C .f Pr F H σ ρ Q v H' → R v H') : tLc wi tg tt te vs σ H R := by
  refine qi _ fun J H1 ⟨P1, F1, m1, items, S1, t1, wk, z⟩ L0 hD => ?_
  obtain ⟨G, Y, w, hG⟩ := wk
  obtain ⟨SD, tD⟩ := S1.new1 (o := .lst []) hD
  obtain ⟨SD, tD⟩ := S1.guard (vs := []) hD
  generalize hP1 : (fun a => P1 a ∨ a = L0) = P1' at SD tD
  let Pv : Nat → Hp → Prop := fun i H' => ∃ P' F' m' acc ds, SR X.K C P' F' σ ρ m' H' ∧ Te P1 F1 H1 P' F' H' ∧ P' L0 ∧ L0 ∉ F' ∧ H' L0 = some (.lst acc) ∧ DnA true X.K F' (sv C.H0 P' H') acc ds ∧ lcGo g dt de (wipeD ρ vs) (items.drop i) ds m' (fun ds m2 => Q (.lst ds) m2)
  have hn0 : C.K0 L0 = none := S1.k0n hD
  have nown : ∀ (i : Nat) (ds : List D) (p : Addr), ρ[i]? = some (.own ds) → σ[i]? = some (some (.ref p)) → p ≠ L0 := fun i ds p e e1 z => by
    obtain ⟨p', us, e2, hp, _⟩ := S1.slot i _ e
    rw [e1] at e2; cases e2
    rw [z, hD] at hp; cases hp
  refine lc_it w Pv ⟨P1', F1, m1, [], [], SD, tD, (by rw [← hP1]; exact .inr rfl), S1.nf hD, upd_same, .nil, z⟩ (fun i H' _ p => ?_) (fun i x H' H2 hi p y => ?_) (fun H' p => ?_)
  · obtain ⟨P', F', m', acc, ds, S', t', _⟩ := p
    exact (hG P' F' H' t').1
  · obtain ⟨P', F', m', acc, ds, S', t', pD, nF, eD, da, z⟩ := p
    obtain ⟨k2, d, ed, hd⟩ := (hG P' F' H' t').2 i x H2 y
    have S2 := S'.grow k2
    have t2 := S'.te k2
    have ei : items.drop i = d :: items.drop (i + 1) := by
      obtain ⟨hlt, e⟩ := List.getElem?_eq_some_iff.mp ed
      rw [List.drop_eq_getElem_cons hlt, e]
    rw [ei] at z
    unfold lcGo at z
    refine qg (L2.wipe σ vs) H2 P' F' (wipeD ρ vs) m' x d _ _ (S2.wipe vs).nox hd z fun σ2 ρ2 S3 hw2 z => ?_
    refine ⟨by rw [hw2 vs hw, wipe_wipe fun _ h => h], ?_⟩
    refine qt σ2 H2 P' F' ρ2 m' _ _ S3 z fun b H3 ⟨P3, F3, m3, S4, t3, z⟩ => ?_
    have t3 := t2.trans t3
    have stepD : ∀ {P4 F4 H4}, Te P' F' H' P4 F4 H4 → P4 L0 ∧ L0 ∉ F4 ∧ H4 L0 = some (.lst acc) := fun {P4 F4 H4} t => ⟨t.prm L0 pD, (fun z => by
      have q := t.fn L0 z nF
      rw [eD] at q
      cases q), t.all L0 _ nF eD⟩
    cases b with
    | false =>
      refine iteF ?_
      have z : lcGo g dt de (wipeD ρ vs) (items.drop (i + 1)) ds m3 (fun ds m2 => Q (.lst ds) m2) := z
      obtain ⟨d1, d2, d3⟩ := stepD t3
      exact ⟨P3, F3, m3, acc, ds, S'.back t3 S4.unnox, t'.trans t3, d1, d2, d3, DnA.mono t3.pre (sv_tr t3.toTr S'.prs) da, z⟩
    | true =>
      refine iteT ?_
      refine qe σ2 H3 P3 F3 ρ2 m3 _ _ S4 z fun v H4 ⟨P4, F4, m4, y4, S5, t4, dv, z⟩ => ?_
      have t4 := t3.trans t4
      obtain ⟨d1, d2, d3⟩ := stepD t4
      have dv : Dn true X.K F4 (sv C.H0 P4 H4) v y4 := dv
      have S6 := S'.back t4 S5.unnox
      obtain ⟨S7, up⟩ := S6.poke (ws := acc ++ [v]) d1 d2 d3 hn0 nown
      have la : acc.length = ds.length := da.length
      refine ⟨acc, d3, by rw [la]; exact z.1, P4, F4, m4, acc ++ [v], ds ++ [y4], S7, ⟨⟨(t'.trans t4).pre, (t'.trans t4).prn, (t'.trans t4).fn, fun a o h => ?_, fun a o n h => ?_⟩, (t'.trans t4).prm, fun a o n h => ?_⟩, d1, d2, upd_same,
        DnA.mono ⟨[], by simp⟩ up (DnA.app (DnA.mono t4.pre (sv_tr t4.toTr S'.prs) da) (.cons dv .nil)), z.2⟩
      · obtain ⟨o', e⟩ := (t'.trans t4).stay a o h
        exact ⟨o', by rw [upd_ne (ne_of_none h hD)]; exact e⟩
      · rw [upd_ne (ne_of_none h hD)]
        exact (t'.trans t4).keep a o n h
      · rw [upd_ne (ne_of_none h hD)]
        exact (t'.trans t4).all a o n h
  · obtain ⟨P', F', m', acc, ds, S', t', pD, nF, eD, da, z⟩ := p
    rw [List.drop_length] at z
    unfold lcGo at z
    obtain ⟨S2, up⟩ := S'.unguard eD nF (C.k0 hn0) nown
    refine k _ _ ⟨fun a => P' a ∧ a ≠ L0, F', m', .lst ds, S2, t1.trans ⟨⟨t'.pre, fun a h n => t'.prn a h.1 n, t'.fn, t'.stay, t'.keep⟩, fun a h => ⟨t'.prm a h, fun z => S1.np hD (z ▸ h)⟩, t'.all⟩, ?_, z⟩
    have da2 : DnA true X.K F' (sv C.H0 (fun a => P' a ∧ a ≠ L0) H') acc ds := DnA.mono ⟨[], by simp⟩ up da
    exact ⟨.lst (vw_iff.mpr ⟨eD, .inr ⟨trivial, fun z => z.2 rfl, C.k0 hn0⟩⟩) da2, fun ds' e => by cases e; exact ⟨L0, acc, rfl, some_of (t1.stay L0) hD, fun z => z.2 rfl, eD, da2⟩⟩
variable {elt tg iter : Expr} {ifs : List Expr} {scope : Scope} {own : List (Str × Nat)} {ti : DTA C.W.M} {g : DG} {dt : DTT C.W.M} {de : DT C.W.M} {ws : List Nat} {st : Bool}
theorem JI.weak (h : JI st X C tg iter ti) : JI false X C tg iter ti := by
  obtain ⟨wi, p, q⟩ := h
  refine ⟨wi, p, fun σ H Pr F ρ m Q Z R S E h k => q σ H Pr F ρ m Q Z R S E h fun J H' ⟨P1, F1, m1, items, S1, t1, ⟨G, Y, w, hG⟩, z⟩ => k J H' ⟨P1, F1, m1, items, S1, t1, ⟨G, Y, w, fun P2 F2 H2 t2 => hG P2 F2 H2 ?_⟩, z⟩⟩
  cases st with
  | true => exact Te.toTr (show Te P1 F1 H' P2 F2 H2 from t2)
  | false => exact t2
def cnE (c : Cl) (K : PySem.W.Frag) (C : Cn) (t : DT C.W.M) : TE := fun σ H R => ∃ Pr F ρ m Q, SR K C Pr F σ ρ m H ∧ t ρ m Q (fun _ _ => False) ∧ ∀ v H', Post K C c Pr F H σ ρ Q v H' → R v H'
def cnT (K : PySem.W.Frag) (C : Cn) (t : DTT C.W.M) : TT := fun σ H R => ∃ Pr F ρ m Q, SR K C Pr F σ ρ m H ∧ t ρ m Q (fun _ _ => False) ∧ ∀ v H', PostT K C Pr F H σ ρ Q v H' → R v H'
def cnG (K : PySem.W.Frag) (C : Cn) (ws : List Nat) (g : DG) : TG := fun v σ H R => ∃ Pr F ρ, ∃ m : C.W.M, ∃ d Q, SR K C Pr F σ ρ m H ∧ Dn true K F (sv C.H0 Pr H) v d ∧ g d ρ Q ∧
    (∀ σ' ρ', SR K C Pr F σ' ρ' m H → (∀ vs, (∀ i ∈ ws, i ∈ vs) → L2.wipe σ' vs = L2.wipe σ vs) → Q ρ' → R σ' H)
theorem exF {X : Cx} {C : Cn} {Pr : Addr → Prop} {F : List Addr} {H : Hp} {σ : L2.St} {ρ : En} : Ex X C Pr F H σ ρ (fun _ _ => False) := fun _ _ _ _ _ _ _ _ _ z => z.elim
theorem J.cn {X : Cx} {C : Cn} {c : Cl} {e : Expr} {t : DT C.W.M} (h : J c X C e t) : PE X e (cnE c X.K C t) := by
  obtain ⟨te, p, q⟩ := h
  exact ⟨fun pins s σ H R I ⟨Pr, F, ρ, m, Q, S, z, k⟩ => p.run pins s σ H R I (q σ H Pr F ρ m Q _ R S exF z k)⟩
theorem JTs.cn {X : Cx} {C : Cn} {es : List Expr} {t : DTT C.W.M} (h : JTs X C es t) : PTs X es (cnT X.K C t) := by
  obtain ⟨te, p, q⟩ := h
  exact ⟨fun pins s σ H R I ⟨Pr, F, ρ, m, Q, S, z, k⟩ => p.run pins s σ H R I (q σ H Pr F ρ m Q _ R S exF z k)⟩
theorem JG.cn {X : Cx} {C : Cn} {ws : List Nat} {e : Expr} {g : DG} (h : JG X C e ws g) : PG X e (cnG X.K C ws g) := by
  obtain ⟨te, p, q⟩ := h
  exact ⟨fun pins s σ H v u R I r ⟨Pr, F, ρ, m, d, Q, S, dv, z, k⟩ => p.run pins s σ H v u R I r (q σ H Pr F ρ m v d Q R S dv z k)⟩
theorem lc_all {wi : TI} (qi : ∀ σ H Pr F ρ m Q Z (R : It → Hp → Prop), SR X.K C Pr F σ ρ m H → Ex X C Pr F H σ ρ Z → ti ρ m Q Z →
    (∀ J H', (∃ Pr' F' m' items, SR X.K C Pr' F' σ ρ m' H' ∧ Te Pr F H Pr' F' H' ∧ Wk X.K C false Pr' F' H' items J ∧ Q items m') → R J H') → wi σ H R) (hw : ∀ i ∈ ws, i ∈ own.map (·.2))
    {σ : L2.St} {H : Hp} {Pr : Addr → Prop} {F : List Addr} {ρ : En} {m : C.W.M} {Q : D → C.W.M → Prop} {Z : Str → C.W.M → Prop} {R : VK} (S : SR X.K C Pr F σ ρ m H) (E : Ex X C Pr F H σ ρ Z) (h : dLc ti g dt de (own.map (·.2)) ρ m Q Z)
    (k : ∀ v H', Post X.K C .f Pr F H σ ρ Q v H' → R v H') : tLc wi (cnG X.K C.nox ws g) (cnT X.K C.nox dt) (cnE .s X.K C.nox de) (own.map (·.2)) σ H R :=
  lc_read (ti := ti) (Z := Z) (g := g) (dt := dt) (de := de) hw (fun R' k' => qi σ H Pr F ρ m _ Z R' S E h k') (fun σ H Pr F ρ m v d Q R S dv z k => ⟨Pr, F, ρ, m, d, Q, S, dv, z, k⟩) (fun σ H Pr F ρ m Q R S z k => ⟨Pr, F, ρ, m, Q, S, z, k⟩) (fun σ H Pr F ρ m Q R S z k => ⟨Pr, F, ρ, m, Q, S, z, k⟩) S k
theorem j_lc (hc : X.calm = true) (hN : X.N.Nodup) (hi : JI false X C tg iter ti) (ok : BlkOk X.N X.env.scope scope own) (hg : ∀ s H c cl fp, JG (Blk X scope s H c cl fp) C.nox tg ws g) (ht : ∀ s H c cl fp, JTs (Blk X scope s H c cl fp) C.nox ifs dt) (he : ∀ s H c cl fp, J .s (Blk X scope s H c cl fp) C.nox elt de)
    (hw : ∀ i ∈ ws, i ∈ own.map (·.2)) (hs : ∀ x, foldedSetIterable iter X.env x = pure x := by intro _; rfl) : J .f X C (.ListComp elt [⟨tg, iter, ifs, 0⟩] scope pos) (dLc ti g dt de (own.map (·.2))) := by
  obtain ⟨wi, pi, qi⟩ := hi
  refine ⟨_, pe_lc (g := cnG X.K C.nox ws g) (tt := cnT X.K C.nox dt) (te := cnE .s X.K C.nox de) hc hN pi ok (fun s H c cl fp => (hg s H c cl fp).cn) (fun s H c cl fp => (ht s H c cl fp).cn) (fun s H c cl fp => (he s H c cl fp).cn) hs, fun σ H Pr F ρ m Q Z R S E h k => ?_⟩
  exact lc_all qi hw S E h k
end
end RR
namespace RR
open PySem PySem.Spec PyProof.Rows L2
structure DE (M : Type) where
  nx : En → M → Prop
  rt : D → M → Prop
  bk : En → M → Prop := fun _ _ => False
  ct : En → M → Prop := fun _ _ => False
  ex : Str → M → Prop := fun _ _ => False
abbrev DS (M : Type) := DE M → En → M → Prop
structure Lk (X : Cx) (C : Cn) (Pr : Addr → Prop) (F : List Addr) (H : Hp) (E : DE C.W.M) (D' : Ends) : Prop where
  nx : ∀ σ' H' ρ' m' Pr' F', SR X.K C Pr' F' σ' ρ' m' H' → Tr Pr F H Pr' F' H' → E.nx ρ' m' → D'.nx σ' H'
  rt : ∀ v H' d m' Pr' F' σ' ρ' H1, SR X.K C Pr' F' σ' ρ' m' H' → Tr Pr F H Pr' F' H' → Dv X.K C .r Pr' F' H1 H' v d → E.rt d m' → D'.rt v H'
  bk : ∀ σ' H' ρ' m' Pr' F', SR X.K C Pr' F' σ' ρ' m' H' → Tr Pr F H Pr' F' H' → E.bk ρ' m' → D'.bk σ' H'
  ct : ∀ σ' H' ρ' m' Pr' F', SR X.K C Pr' F' σ' ρ' m' H' → Tr Pr F H Pr' F' H' → E.ct ρ' m' → D'.ct σ' H'
  ex : ∀ σ' ρ', Ex X C Pr F H σ' ρ' E.ex
theorem Lk.tr {X : Cx} {C : Cn} {Pr Pr1 : Addr → Prop} {F F1 : List Addr} {H H1 : Hp} {E : DE C.W.M} {D' : Ends} (l : Lk X C Pr F H E D') (t : Tr Pr F H Pr1 F1 H1) : Lk X C Pr1 F1 H1 E D' :=
  ⟨fun σ' H' ρ' m' P2 F2 S t2 q => l.nx σ' H' ρ' m' P2 F2 S (t.trans t2) q, fun v H' d m' P2 F2 σ' ρ' H3 S t2 dv q => l.rt v H' d m' P2 F2 σ' ρ' H3 S (t.trans t2) dv q, fun σ' H' ρ' m' P2 F2 S t2 q => l.bk σ' H' ρ' m' P2 F2 S (t.trans t2) q,
    fun σ' H' ρ' m' P2 F2 S t2 q => l.ct σ' H' ρ' m' P2 F2 S (t.trans t2) q, fun σ' ρ' => (l.ex σ' ρ').te t⟩
def JS (X : Cx) (C : Cn) (st : Stmt) (t : DS C.W.M) : Prop := ∃ ts, PS X st ts ∧ ∀ σ H Pr F ρ m E D', SR X.K C Pr F σ ρ m H → Lk X C Pr F H E D' → t E ρ m → ts D' σ H
def JSs (X : Cx) (C : Cn) (st : List Stmt) (t : DS C.W.M) : Prop := ∃ ts, PSs X st ts ∧ ∀ σ H Pr F ρ m E D', SR X.K C Pr F σ ρ m H → Lk X C Pr F H E D' → t E ρ m → ts D' σ H
section
variable {X : Cx} {C : Cn} {e : Expr} {st : Stmt} {rest body els : List Stmt} {pos pos' : Pos} {t u : DS C.W.M}
def dNext {M : Type} : DS M := fun E ρ m => E.nx ρ m
def dThen {M : Type} (t u : DS M) : DS M := fun E ρ m => t { E with nx := u E } ρ m
theorem jss_nil : JSs X C [] dNext := ⟨_, pss_nil, fun σ H Pr F ρ m E D' S l h => l.nx _ _ _ _ _ _ S Tr.refl h⟩
theorem jss_cons (h : JS X C st t) (r : JSs X C rest u) : JSs X C (st :: rest) (dThen t u) := by
  obtain ⟨t1, p1, q1⟩ := h
  obtain ⟨t2, p2, q2⟩ := r
  refine ⟨_, pss_cons p1 p2, fun σ H Pr F ρ m E D' S l h => ?_⟩
  exact q1 σ H Pr F ρ m { E with nx := u E } { D' with nx := t2 D' } S ⟨fun σ' H' ρ' m' P1 F1 S1 t1 q => q2 σ' H' P1 F1 ρ' m' E D' S1 (l.tr t1) q, l.rt, l.bk, l.ct, l.ex⟩ h
theorem jss_one (h : JS X C st t) : JSs X C [st] t := by
  obtain ⟨t1, p1, q1⟩ := h
  exact ⟨_, pss_one p1, q1⟩
def dDrop {M : Type} (t : DT M) : DS M := fun E ρ m => t ρ m (fun _ m' => E.nx ρ m') E.ex
def dRet {M : Type} (t : DT M) : DS M := fun E ρ m => t ρ m E.rt E.ex
theorem js_expr {c : Cl} {te : DT C.W.M} (h : J c X C e te) (hs : swapsWith e none pos.line X.env = pure false := by rfl) : JS X C (.Expr e pos) (dDrop te) := by
  obtain ⟨t1, p, q⟩ := h
  exact ⟨_, ps_expr p hs, fun σ H Pr F ρ m E D' S l h => q σ H Pr F ρ m _ _ _ S (l.ex σ ρ) h fun v H1 ⟨P1, F1, m1, d, S1, t1, dv, z⟩ => l.nx _ _ _ _ _ _ S1 t1.toTr z⟩
theorem js_ret {te : DT C.W.M} (h : J .r X C e te) : JS X C (.Return (some e) pos) (dRet te) := by
  obtain ⟨t1, p, q⟩ := h
  exact ⟨_, ps_ret p, fun σ H Pr F ρ m E D' S l h => q σ H Pr F ρ m _ _ _ S (l.ex σ ρ) h fun v H1 ⟨P1, F1, m1, d, S1, t1, dv, z⟩ => l.rt _ _ d m1 P1 F1 σ ρ H S1 t1.toTr dv z⟩
def dIte {M : Type} (c : DTT M) (t u : DS M) : DS M := fun E ρ m => c ρ m (fun b m1 => if b = true then t E ρ m1 else u E ρ m1) E.ex
theorem js_if {c : Expr} {tc : DTT C.W.M} (hc : JT X C c tc) (h1 : JSs X C body t) (h2 : JSs X C els u) : JS X C (.If c body els pos) (dIte tc t u) := by
  obtain ⟨tt, p, q⟩ := hc
  obtain ⟨t1, p1, q1⟩ := h1
  obtain ⟨t2, p2, q2⟩ := h2
  refine ⟨_, ps_if p p1 p2, fun σ H Pr F ρ m E D' S l h => ?_⟩
  refine q σ H Pr F ρ m _ _ _ S (l.ex σ ρ) h fun b H1 ⟨P1, F1, m1, S1, t1, z⟩ => ?_
  cases b with
  | true => exact iteT (q1 σ H1 P1 F1 ρ m1 E D' S1 (l.tr t1.toTr) z)
  | false => exact iteF (q2 σ H1 P1 F1 ρ m1 E D' S1 (l.tr t1.toTr) z)
def dSet {M : Type} (i : Nat) (t : DT M) : DS M := fun E ρ m => t ρ m (fun d m' => E.nx (ρ.set i (.val d)) m') E.ex
def dSetO {M : Type} (i : Nat) (t : DT M) : DS M := fun E ρ m => t ρ m (fun d m' => match d with | .lst ds => D.nls ds = true ∧ E.nx (ρ.set i (.own ds)) m' | _ => False) E.ex
abbrev LocF (X : Cx) (x : Str) : Prop := X.fn x = true ∨ X.env.scope.names.lookup x = some .local
theorem own_read {σ : L2.St} {H : Hp} {Pr : Addr → Prop} {F : List Addr} {ρ : En} {m : C.W.M} {E : DE C.W.M} {D' : Ends} (i : Nat) (S : SR X.K C Pr F σ ρ m H) (l : Lk X C Pr F H E D') {v : V} {H1 : Hp}
    (h : Post X.K C .f Pr F H σ ρ (fun d m' => match d with | .lst ds => D.nls ds = true ∧ E.nx (ρ.set i (.own ds)) m' | _ => False) v H1) : D'.nx (σ.set i (some v)) H1 := by
  obtain ⟨P1, F1, m1, d, S1, t1, dv, z⟩ := h
  try dsimp only at z
  split at z
  · obtain ⟨p, vs, rfl, hn, np, hp, hd⟩ := dv.2 _ rfl
    obtain ⟨S2, t2⟩ := S.owned t1 S1 i hn hp np hd z.1
    exact l.nx _ _ _ _ _ _ S2 t2.toTr z.2
  · exact z.elim
theorem js_set (i : Nat) {x : Str} {te : DT C.W.M} (hN : X.N.Nodup) (h : J .s X C e te) (hi : X.N[i]? = some x := by rfl) (hx : Loc X.env.scope x := by first | exact .inl rfl | exact .inr rfl) (hf : LocF X x := by first | exact .inl rfl | exact .inr rfl) (hs : swapsWith e (some (.Name x pos')) pos.line X.env = pure false := by rfl) :
    JS X C (.Assign [.Name x pos'] e pos) (dSet i te) := by
  obtain ⟨t1, p, q⟩ := h
  exact ⟨_, ps_set hN hi hx p hs hf, fun σ H Pr F ρ m E D' S l h => q σ H Pr F ρ m _ _ _ S (l.ex σ ρ) h fun v H1 ⟨P1, F1, m1, d, S1, t1, dv, z⟩ => l.nx _ _ _ _ _ _ (S1.set i dv) t1.toTr z⟩
theorem js_setO (i : Nat) {x : Str} {te : DT C.W.M} (hN : X.N.Nodup) (h : J .f X C e te) (hi : X.N[i]? = some x := by rfl) (hx : Loc X.env.scope x := by first | exact .inl rfl | exact .inr rfl) (hf : LocF X x := by first | exact .inl rfl | exact .inr rfl) (hs : swapsWith e (some (.Name x pos')) pos.line X.env = pure false := by rfl) :
    JS X C (.Assign [.Name x pos'] e pos) (dSetO i te) := by
  obtain ⟨t1, p, q⟩ := h
  exact ⟨_, ps_set hN hi hx p hs hf, fun σ H Pr F ρ m E D' S l h => q σ H Pr F ρ m _ _ _ S (l.ex σ ρ) h fun v H1 z => own_read i S l z⟩
theorem js_setLc (i : Nat) {x : Str} {py : Pos} {elt tg iter : Expr} {ifs : List Expr} {scope : Scope} {own : List (Str × Nat)} {ti : DTA C.W.M} {g : DG} {dt : DTT C.W.M} {de : DT C.W.M} {ws : List Nat} {lp : Pos} (hc : X.calm = true) (hN : X.N.Nodup) (hi : JI false X C tg iter ti) (ok : BlkOk X.N X.env.scope scope own)
    (hg : ∀ s H c cl fp, JG (Blk X scope s H c cl fp) C.nox tg ws g) (ht : ∀ s H c cl fp, JTs (Blk X scope s H c cl fp) C.nox ifs dt) (he : ∀ s H c cl fp, J .s (Blk X scope s H c cl fp) C.nox elt de)
    (hw : ∀ i ∈ ws, i ∈ own.map (·.2)) (hy : X.N[i]? = some x := by rfl) (hyl : X.env.scope.names.lookup x = some .local := by rfl) (hsw : swapsWith (.ListComp elt [⟨tg, iter, ifs, 0⟩] scope lp) (some (.Name x py)) pos.line X.env = pure true := by exact sw_true rfl rfl rfl (by decide +kernel)) (hs : ∀ z, foldedSetIterable iter X.env z = pure z := by intro _; rfl) :
    JS X C (.Assign [.Name x py] (.ListComp elt [⟨tg, iter, ifs, 0⟩] scope lp) pos) (dSet i (dLc ti g dt de (own.map (·.2)))) := by
  obtain ⟨wi, pi, qi⟩ := hi
  refine ⟨_, ps_setLc (g := cnG X.K C.nox ws g) (tt := cnT X.K C.nox dt) (te := cnE .s X.K C.nox de) hc hN hy hyl hsw pi ok (fun s H c cl fp => (hg s H c cl fp).cn) (fun s H c cl fp => (ht s H c cl fp).cn) (fun s H c cl fp => (he s H c cl fp).cn) hs, fun σ H Pr F ρ m E D' S l h => ?_⟩
  exact lc_all qi hw S (l.ex σ ρ) h fun v H1 ⟨P1, F1, m1, d, S1, t1, dv, z⟩ => l.nx _ _ _ _ _ _ (S1.set i dv.1) t1.toTr z
theorem js_setLcO (i : Nat) {x : Str} {py : Pos} {elt tg iter : Expr} {ifs : List Expr} {scope : Scope} {own : List (Str × Nat)} {ti : DTA C.W.M} {g : DG} {dt : DTT C.W.M} {de : DT C.W.M} {ws : List Nat} {lp : Pos} (hc : X.calm = true) (hN : X.N.Nodup) (hi : JI false X C tg iter ti) (ok : BlkOk X.N X.env.scope scope own)
    (hg : ∀ s H c cl fp, JG (Blk X scope s H c cl fp) C.nox tg ws g) (ht : ∀ s H c cl fp, JTs (Blk X scope s H c cl fp) C.nox ifs dt) (he : ∀ s H c cl fp, J .s (Blk X scope s H c cl fp) C.nox elt de)
    (hw : ∀ i ∈ ws, i ∈ own.map (·.2)) (hy : X.N[i]? = some x := by rfl) (hyl : X.env.scope.names.lookup x = some .local := by rfl) (hsw : swapsWith (.ListComp elt [⟨tg, iter, ifs, 0⟩] scope lp) (some (.Name x py)) pos.line X.env = pure true := by exact sw_true rfl rfl rfl (by decide +kernel)) (hs : ∀ z, foldedSetIterable iter X.env z = pure z := by intro _; rfl) :
    JS X C (.Assign [.Name x py] (.ListComp elt [⟨tg, iter, ifs, 0⟩] scope lp) pos) (dSetO i (dLc ti g dt de (own.map (·.2)))) := by
  obtain ⟨wi, pi, qi⟩ := hi
  refine ⟨_, ps_setLc (g := cnG X.K C.nox ws g) (tt := cnT X.K C.nox dt) (te := cnE .s X.K C.nox de) hc hN hy hyl hsw pi ok (fun s H c cl fp => (hg s H c cl fp).cn) (fun s H c cl fp => (ht s H c cl fp).cn) (fun s H c cl fp => (he s H c cl fp).cn) hs, fun σ H Pr F ρ m E D' S l h => ?_⟩
  exact lc_all qi hw S (l.ex σ ρ) h fun v H1 z => own_read i S l z
def dAsg {M : Type} (t : DT M) (g : DG) : DS M := fun E ρ m => t ρ m (fun d m' => g d ρ fun ρ' => E.nx ρ' m') E.ex
def dPar {M : Type} (i j : Nat) (t : DTA M) : DS M := fun E ρ m => t ρ m (fun ds m' => match ds with | [x, y] => E.nx ((ρ.set i (.val x)).set j (.val y)) m' | _ => False) E.ex
theorem js_par (i j : Nat) {x y : Str} {a b : Expr} {ta : DTA C.W.M} {px py pt : Pos} {kt k2 pt2} (hc : X.calm = true) (hN : X.N.Nodup) (ha : JA .s X C [a, b] ta) (hw : swappedStores [.Tuple [.Name x px, .Name y py] kt pt] (.Tuple [a, b] k2 pt2) X.env = pure (some [x, y]) := by rfl)
    (hi : X.N[i]? = some x := by rfl) (hj : X.N[j]? = some y := by rfl) (hij : i ≠ j := by decide) (hx : X.env.scope.names.lookup x = some .local := by rfl) (hy : X.env.scope.names.lookup y = some .local := by rfl)
    (hs : swapsWithSole [.Tuple [.Name x px, .Name y py] kt pt] (.Tuple [a, b] k2 pt2) pos.line X.env = pure false := by rfl) : JS X C (.Assign [.Tuple [.Name x px, .Name y py] kt pt] (.Tuple [a, b] k2 pt2) pos) (dPar i j ta) := by
  obtain ⟨t1, p, q⟩ := ha
  refine ⟨_, ps_par hc hN hi hj hij hx hy p hw hs, fun σ H Pr F ρ m E D' S l h => q σ H Pr F ρ m _ _ _ S (l.ex σ ρ) h fun vs H1 ⟨P1, F1, m1, ds, S1, t1, dv, z⟩ => ?_⟩
  have dv : DnA true X.K F1 (sv C.H0 P1 H1) vs ds := dv
  try dsimp only at z
  split at z
  · cases dv with
    | cons h1 r =>
      cases r with
      | cons h2 r =>
        cases r
        exact ⟨_, _, rfl, l.nx _ _ _ _ _ _ ((S1.set i h1).set j h2) t1.toTr z⟩
  · exact z.elim
def dAug {M : Type} (i : Nat) (f : Int → Int → Int) (t : DT M) : DS M := fun E ρ m => match ρ[i]? with
  | some (.val (.int x)) => t ρ m (fun y m' => match y with | .int y => E.nx (ρ.set i (.val (.int (f x y)))) m' | _ => False) E.ex
  | _ => False
theorem js_aug (i : Nat) {x : Str} {op : Operator} {f : Int → Int → Int} {te : DT C.W.M} (ho : PIp X op (ipI f)) (hN : X.N.Nodup) (h : J .w X C e te) (hi : X.N[i]? = some x := by rfl) (hx : Loc X.env.scope x := by first | exact .inl rfl | exact .inr rfl) (hf : LocF X x := by first | exact .inl rfl | exact .inr rfl) :
    JS X C (.AugAssign (.Name x pos') op e pos) (dAug i f te) := by
  obtain ⟨t1, p, q⟩ := h
  refine ⟨_, ps_aug hN hi hx p ho hf, fun σ H Pr F ρ m E D' S l h => ?_⟩
  unfold dAug at h
  split at h
  · rename_i z e0
    obtain ⟨v, ev, dz⟩ := S.slot i _ e0
    refine ⟨v, ev, q σ H Pr F ρ m _ _ _ S (l.ex σ ρ) h fun w H1 ⟨P1, F1, m1, d, S1, t1, dv, z⟩ => ?_⟩
    have dv : Dn false X.K F1 (wv F1 H1) w d := dv
    dsimp only at z
    split at z
    · exact ⟨_, _, dz.toInt, dv.toInt, l.nx _ _ _ _ _ _ (S1.set i (.int _)) t1.toTr z⟩
    · exact z.elim
  · exact h.elim
def dApp {M : Type} (i : Nat) (t : DT M) : DS M := fun E ρ m => match ρ[i]? with
  | some (.own ds) => t ρ m (fun d m' => d.nl = true ∧ ds.length < sizeLine ∧ E.nx (ρ.set i (.own (ds ++ [d]))) m') E.ex
  | _ => False
theorem js_append (i : Nat) {x : Str} {np apos cpos : Pos} {te : DT C.W.M} (h : J .s X C e te) (hN : X.N[i]? = some x := by rfl) (hv : Vis X.env.scope x := by first | exact Or.inl rfl | exact Or.inr (Or.inl rfl) | exact Or.inr (Or.inr rfl)) (hd : (x == ("__debug__" : Str)) = false := by decide) (hcd : (x == ("__classdict__" : Str)) = false := by decide)
    (hfew : ((backTo cpos (starEach [e] X.env)).all (fun x => !x.1) && (backToKw cpos (keywordEach [] X.env)).all (fun x => x.1.isSome) && decide ([e].length + ([] : List Keyword).length + (if ([] : List Keyword).isEmpty then 0 else 1) < 30)) = true := by rfl)
    (hline : (apos.endLine == cpos.line) = true := by rfl) (hs : starEach [e] X.env = (false, eval e X.env) :: starEach [] X.env := by rfl) :
    JS X C (.Expr (.Call (.Attribute (.Name x np) "append" apos) [e] [] cpos) pos) (dApp i te) := by
  obtain ⟨t1, p, q⟩ := h
  refine ⟨_, ps_expr (pe_bm PySem.F.plainAttrs_list PySem.F.slot_list_append PySem.F.type_list_append mt_append (pe_var hN hv hd hcd) (pa_cons p pa_nil hs) rfl hfew hline hs rfl) rfl, fun σ H Pr F ρ m E D' S l h => ?_⟩
  unfold dApp at h
  split at h
  · rename_i ds e0
    obtain ⟨p0, vs, e1, hp, pp, nf, hds⟩ := S.slot i _ e0
    refine ⟨.ref p0, e1, .inl ⟨rfl, vs, SqL.of hp⟩, q σ H Pr F ρ m _ _ _ S (l.ex σ ρ) h fun w H1 ⟨P1, F1, m1, d, S1, t1, dv, z⟩ => ?_⟩
    have dv : Dn true X.K F1 (sv C.H0 P1 H1) w d := dv
    obtain ⟨p1, us, e2, hp1, pp1, nf1, hds1⟩ := S1.slot i _ e0
    rw [e1] at e2; cases e2
    obtain ⟨S2, t2⟩ := S1.change e0 e1 (hds1.app (.cons dv .nil))
    exact ⟨p0, us, w, rfl, rfl, hp1, by rw [hds1.length]; exact z.2.1, l.nx _ _ _ _ _ _ S2 (t1.toTr.trans t2) z.2.2⟩
  · exact h.elim
def dAppL {M : Type} (i : Nat) (t : DT M) : DS M := fun E ρ m => match ρ[i]? with
  | some (.own ds) => t ρ m (fun d m' => ds.length < sizeLine ∧ E.nx (ρ.set i (.own (ds ++ [d]))) m') E.ex
  | _ => False
theorem js_appendL (i : Nat) {x : Str} {np apos cpos : Pos} {te : DT C.W.M} (h : J .s X C e te) (hN : X.N[i]? = some x := by rfl) (hv : Vis X.env.scope x := by first | exact Or.inl rfl | exact Or.inr (Or.inl rfl) | exact Or.inr (Or.inr rfl)) (hd : (x == ("__debug__" : Str)) = false := by decide) (hcd : (x == ("__classdict__" : Str)) = false := by decide)
    (hfew : ((backTo cpos (starEach [e] X.env)).all (fun x => !x.1) && (backToKw cpos (keywordEach [] X.env)).all (fun x => x.1.isSome) && decide ([e].length + ([] : List Keyword).length + (if ([] : List Keyword).isEmpty then 0 else 1) < 30)) = true := by rfl)
    (hline : (apos.endLine == cpos.line) = true := by rfl) (hs : starEach [e] X.env = (false, eval e X.env) :: starEach [] X.env := by rfl) :
    JS X C (.Expr (.Call (.Attribute (.Name x np) "append" apos) [e] [] cpos) pos) (dAppL i te) := by
  obtain ⟨t1, p, q⟩ := h
  refine ⟨_, ps_expr (pe_bm PySem.F.plainAttrs_list PySem.F.slot_list_append PySem.F.type_list_append mt_append (pe_var hN hv hd hcd) (pa_cons p pa_nil hs) rfl hfew hline hs rfl) rfl, fun σ H Pr F ρ m E D' S l h => ?_⟩
  unfold dAppL at h
  split at h
  · rename_i ds e0
    obtain ⟨p0, vs, e1, hp, pp, nf, hds⟩ := S.slot i _ e0
    refine ⟨.ref p0, e1, .inl ⟨rfl, vs, SqL.of hp⟩, q σ H Pr F ρ m _ _ _ S (l.ex σ ρ) h fun w H1 ⟨P1, F1, m1, d, S1, t1, dv, z⟩ => ?_⟩
    have dv : Dn true X.K F1 (sv C.H0 P1 H1) w d := dv
    obtain ⟨p1, us, e2, hp1, pp1, nf1, hds1⟩ := S1.slot i _ e0
    rw [e1] at e2; cases e2
    obtain ⟨S2, t2⟩ := S1.change e0 e1 (hds1.app (.cons dv .nil))
    exact ⟨p0, us, w, rfl, rfl, hp1, by rw [hds1.length]; exact z.1, l.nx _ _ _ _ _ _ S2 (t1.toTr.trans t2) z.2⟩
  · exact h.elim
def dSetI {M : Type} (i : Nat) (te tk : DT M) : DS M := fun E ρ m => match ρ[i]? with
  | some (.own ds) => te ρ m (fun d m1 => tk ρ m1 (fun k m2 => match k with
    | .int k => (match ixN ds.length k with | some j => d.nl = true ∧ E.nx (ρ.set i (.own (ds.set j d))) m2 | none => False) | _ => False) E.ex) E.ex
  | _ => False
theorem js_seti (i : Nat) {x : Str} {np sp : Pos} {k : Expr} {te tk : DT C.W.M} (h : J .s X C e te) (hk : J .w X C k tk) (hN : X.N[i]? = some x := by rfl) (hv : Vis X.env.scope x := by first | exact Or.inl rfl | exact Or.inr (Or.inl rfl) | exact Or.inr (Or.inr rfl)) (hd : (x == ("__debug__" : Str)) = false := by decide) (hcd : (x == ("__classdict__" : Str)) = false := by decide)
    (ha : ∀ v, assign (.Subscript (.Name x np) k sp) X.env v = (do
      let ov ← holding [v] (eval (.Name x np) X.env)
      let iv ← holding [v, ov] (eval k X.env)
      standAt sp
      holding [v, ov, iv] (setItem ov iv v)
      release [v, ov, iv] []) := by intro _; rfl)
    (hs : swapsWithSole [.Subscript (.Name x np) k sp] e pos.line X.env = pure false := by rfl) (hw : swappedStores [.Subscript (.Name x np) k sp] e X.env = pure none := by rfl) (h1 : (assignEach [.Subscript (.Name x np) k sp] X.env).map (·.2) = [assign (.Subscript (.Name x np) k sp) X.env] := by rfl) :
    JS X C (.Assign [.Subscript (.Name x np) k sp] e pos) (dSetI i te tk) := by
  obtain ⟨t1, p, q⟩ := h
  obtain ⟨t2, p2, q2⟩ := hk
  refine ⟨_, ps_asg p (pg_sub (pe_var hN hv hd hcd) p2 set_list ha) hs hw h1, fun σ H Pr F ρ m E D' S l h => ?_⟩
  unfold dSetI at h
  split at h
  · rename_i ds e0
    obtain ⟨p0, vs, e1, hp, pp, nf, hds⟩ := S.slot i _ e0
    refine q σ H Pr F ρ m _ _ _ S (l.ex σ ρ) h fun w H1 ⟨P1, F1, m1, d, S1, t1, dv, z⟩ => ?_
    have dv : Dn true X.K F1 (sv C.H0 P1 H1) w d := dv
    refine ⟨.ref p0, e1, q2 σ H1 P1 F1 ρ m1 _ _ _ S1 ((l.ex σ ρ).te t1.toTr) z fun kv H2 ⟨P2, F2, m2, kd, S2, t2, dk, z2⟩ => ?_⟩
    have dk : Dn false X.K F2 (wv F2 H2) kv kd := dk
    dsimp only at z2
    split at z2
    · split at z2
      · rename_i j ej
        obtain ⟨p1, us, e2, hp1, pp1, nf1, hds1⟩ := S2.slot i _ e0
        rw [e1] at e2; cases e2
        obtain ⟨S3, t3⟩ := S2.change e0 e1 (hds1.set (dv.tr t2.toTr S1.prs) j)
        exact ⟨p0, us, _, j, rfl, dk.toInt, hp1, by rw [hds1.length]; exact ej, l.nx _ _ _ _ _ _ S3 ((t1.trans t2).toTr.trans t3) z2.2⟩
      · exact z2.elim
    · exact z2.elim
  · exact h.elim
def dAugI {M : Type} (i : Nat) (f : Int → Int → Int) (tk te : DT M) : DS M := fun E ρ m => match ρ[i]? with
  | some (.own ds) => tk ρ m (fun k m1 => match k with
    | .int k => (match ixN ds.length k with
      | some j => (match ds[j]? with
        | some (.int x) => te ρ m1 (fun d m2 => match d with | .int y => E.nx (ρ.set i (.own (ds.set j (.int (f x y))))) m2 | _ => False) E.ex
        | _ => False)
      | none => False)
    | _ => False) E.ex
  | _ => False
def dWhile {M : Type} (c : DTT M) (t : DS M) : DS M := fun E ρ m => ∃ W : Nat → En → M → Prop, (∃ n, W n ρ m) ∧ ∀ n ρ m, W n ρ m →
  c ρ m (fun b m1 => if b = true then t { E with nx := fun ρ' m' => ∃ n', n' < n ∧ W n' ρ' m', ct := fun ρ' m' => ∃ n', n' < n ∧ W n' ρ' m', bk := E.nx } ρ m1 else E.nx ρ m1) E.ex
theorem js_while {c : Expr} {tc : DTT C.W.M} (hp : PassesOwn (model X.prog X.w) X.A X.env X.xe) (hc : JT X C c tc) (hb : JSs X C body t) : JS X C (.While c body [] pos) (dWhile tc t) := by
  obtain ⟨tt, p, q⟩ := hc
  obtain ⟨t1, p1, q1⟩ := hb
  refine ⟨_, ps_while hp p p1, fun σ H Pr F ρ m E D' S l h => ?_⟩
  obtain ⟨W, ⟨n0, w0⟩, turn⟩ := h
  refine ⟨fun n σ' H' => ∃ ρ' m' Pr' F', SR X.K C Pr' F' σ' ρ' m' H' ∧ Tr Pr F H Pr' F' H' ∧ W n ρ' m', ⟨n0, ρ, m, Pr, F, S, Tr.refl, w0⟩, ?_⟩
  rintro n σ1 H1 ⟨ρ1, m1, P1, F1, S1, t1, w1⟩
  refine q σ1 H1 P1 F1 ρ1 m1 _ _ _ S1 ((l.ex σ1 ρ1).te t1) (turn n ρ1 m1 w1) fun b H2 ⟨P2, F2, m2, S2, t2, z⟩ => ?_
  have t2 := t1.trans t2.toTr
  cases b with
  | false => exact iteF (l.nx _ _ _ _ _ _ S2 t2 z)
  | true =>
    refine iteT ⟨fun σ' H' => ∃ n', n' < n ∧ ∃ ρ' m' Pr' F', SR X.K C Pr' F' σ' ρ' m' H' ∧ Tr Pr F H Pr' F' H' ∧ W n' ρ' m', fun σ' H' h => h, ?_⟩
    refine q1 σ1 H2 P2 F2 ρ1 m2 { E with nx := fun ρ' m' => ∃ n', n' < n ∧ W n' ρ' m', ct := fun ρ' m' => ∃ n', n' < n ∧ W n' ρ' m', bk := E.nx } _ S2 ⟨fun σ' H' ρ' m' P3 F3 S3 t3 ⟨n', hn, w'⟩ => ⟨n', hn, ρ', m', P3, F3, S3, t2.trans t3, w'⟩, (l.tr t2).rt, (l.tr t2).nx, fun σ' H' ρ' m' P3 F3 S3 t3 ⟨n', hn, w'⟩ => ⟨n', hn, ρ', m', P3, F3, S3, t2.trans t3, w'⟩, (l.tr t2).ex⟩ z
def dFor {M : Type} (ti : DTA M) (g : DG) (t : DS M) : DS M := fun E ρ m => ti ρ m (fun items m1 => ∃ W : List D → En → M → Prop, W items ρ m1 ∧ (∀ ρ m, W [] ρ m → E.nx ρ m) ∧
  ∀ x r ρ m, W (x :: r) ρ m → g x ρ fun ρ2 => t { E with nx := W r, ct := W r, bk := E.nx } ρ2 m) E.ex
theorem js_for {tg iter : Expr} {ti : DTA C.W.M} {ws : List Nat} {g : DG} (hp : PassesOwn (model X.prog X.w) X.A X.env X.xe) (hc : X.calm = true) (hi : JI true X C tg iter ti) (hg : JG X C tg ws g) (hb : JSs X C body t) (hs : ∀ x, foldedSetIterable iter X.env x = pure x := by intro _; rfl) :
    JS X C (.For tg iter body [] pos) (dFor ti g t) := by
  obtain ⟨wi, pi, qi⟩ := hi
  obtain ⟨tgt, pg, qg⟩ := hg
  obtain ⟨t1, p1, q1⟩ := hb
  refine ⟨_, ps_for hp hc pi pg p1 hs, fun σ H Pr F ρ m E D' S l h => ?_⟩
  refine qi σ H Pr F ρ m _ _ _ S (l.ex σ ρ) h fun J H1 ⟨P1, F1, m1, items, S1, t1, ⟨G, Y, w, hG⟩, z⟩ => ?_
  obtain ⟨W, w0, wd, turn⟩ := z
  refine for_it w (fun i σ' H' => ∃ ρ' m' Pr' F', SR X.K C Pr' F' σ' ρ' m' H' ∧ Tr P1 F1 H1 Pr' F' H' ∧ W (items.drop i) ρ' m') ⟨ρ, m1, P1, F1, S1, Tr.refl, w0⟩ (fun i σ' H' _ ⟨ρ', m', P2, F2, S2, t2, _⟩ => (hG P2 F2 H' t2).1) (fun i x σ' H' H2 hi ⟨ρ', m', P2, F2, S2, t2, w2⟩ y => ?_) (fun σ' H' ⟨ρ', m', P2, F2, S2, t2, w2⟩ => ?_)
  · obtain ⟨k2, d, ed, hd⟩ := (hG P2 F2 H' t2).2 i x H2 y
    have S3 := S2.grow k2
    have t3 := t2.trans (S2.te k2).toTr
    have ei : items.drop i = d :: items.drop (i + 1) := by
      obtain ⟨hlt, e⟩ := List.getElem?_eq_some_iff.mp ed
      rw [List.drop_eq_getElem_cons hlt, e]
    rw [ei] at w2
    refine qg σ' H2 P2 F2 ρ' m' x d _ _ S3 hd (turn d _ ρ' m' w2) fun σ2 ρ2 S4 _ z => ?_
    have t4 := t1.toTr.trans t3
    exact q1 σ2 H2 P2 F2 ρ2 m' { E with nx := W (items.drop (i + 1)), ct := W (items.drop (i + 1)), bk := E.nx } _ S4 ⟨fun σ5 H5 ρ5 m5 P5 F5 S5 t5 w5 => ⟨ρ5, m5, P5, F5, S5, t3.trans t5, w5⟩, (l.tr t4).rt, (l.tr t4).nx, fun σ5 H5 ρ5 m5 P5 F5 S5 t5 w5 => ⟨ρ5, m5, P5, F5, S5, t3.trans t5, w5⟩, (l.tr t4).ex⟩ z
  · rw [List.drop_length] at w2
    exact l.nx _ _ _ _ _ _ S2 (t1.toTr.trans t2) (wd _ _ w2)
def dRel {M : Type} (i : Nat) (t : DS M) : DS M := fun E ρ m => match ρ[i]? with | some (.own ds) => t E (ρ.set i (.val (.lst ds))) m | _ => False
theorem jss_rel (i : Nat) {sts : List Stmt} (h : JSs X C sts t) : JSs X C sts (dRel i t) := by
  obtain ⟨t1, p, q⟩ := h
  refine ⟨t1, p, fun σ H Pr F ρ m E D' S l h => ?_⟩
  unfold dRel at h
  split at h
  · rename_i ds e0
    obtain ⟨P1, S1, t1⟩ := S.release e0
    exact q σ H P1 F _ m E D' S1 (l.tr t1) h
  · exact h.elim
def dRaise {M : Type} (x : Str) : DS M := fun E _ m => E.ex x m
def ExcF (K : PySem.W.Frag) (mg : Str → Option Value) (x : Str) : Prop := ∃ Cc bmB newId initId, ExcBaseFacts "ValueError" newId initId bmB ∧ mg x = some (.ref Cc) ∧ PySem.W.excIn K Cc bmB newId = true ∧ PySem.W.keepIn K (.ref Cc) = true ∧ PySem.W.subIn K (.ref Cc) (.type "BaseException") = some true ∧ PySem.W.typeIn K (.ref Cc) = some (.type "type")
theorem js_raise {x msg : Str} {j : Nat} {p p2 cp : Pos} (hc : X.calm = true) (tk : Takes X C.wx) (h : ExcF X.K X.mg x) (hg : Gl X x := by rfl) (hdb : (x == ("__debug__" : Str)) = false := by decide) :
    JS X C (.Raise (some (.Call (.Name x p) [.Constant (.str msg) j p2] [] cp)) none pos) (dRaise x) := by
  obtain ⟨Cc, bmB, newId, initId, Fx, gC, qx, kC, r1, r2⟩ := h
  refine ⟨_, ps_raise hc tk (pmk_own Fx qx gC kC (raises_own r1 r2) hg hdb), fun σ H Pr F ρ m E D' S l h => ?_⟩
  exact l.ex σ ρ x (.ref Cc) Pr F m H gC S Tr.refl h
end
end RR
namespace RR
open PySem PySem.Spec PyProof.Rows L2
structure LkL (X : Cx) (C : Cn) (E : DE C.W.M) (D' : Ends) : Prop where
  nx : ∀ σ' H' ρ' m' Pr' F', SR X.K C Pr' F' σ' ρ' m' H' → E.nx ρ' m' → D'.nx σ' H'
  rt : ∀ v H' d m' Pr' F' σ' ρ' H1, SR X.K C Pr' F' σ' ρ' m' H' → Dv X.K C .r Pr' F' H1 H' v d → E.rt d m' → D'.rt v H'
  bk : ∀ σ' H' ρ' m' Pr' F', SR X.K C Pr' F' σ' ρ' m' H' → E.bk ρ' m' → D'.bk σ' H'
  ct : ∀ σ' H' ρ' m' Pr' F', SR X.K C Pr' F' σ' ρ' m' H' → E.ct ρ' m' → D'.ct σ' H'
  ex : ∀ σ ρ x cls Pr' F' m' H', X.mg x = some cls → SR X.K C Pr' F' σ ρ m' H' → E.ex x m' → C.wx cls none σ H'
section
variable {X : Cx} {C : Cn} {e : Expr} {st : Stmt} {rest body els : List Stmt} {pos pos' : Pos} {t u : DS C.W.M}
theorem LkL.lk {E : DE C.W.M} {D' : Ends} {Pr : Addr → Prop} {F : List Addr} {H : Hp} (l : LkL X C E D') : Lk X C Pr F H E D' :=
  ⟨fun σ' H' ρ' m' P F S _ q => l.nx σ' H' ρ' m' P F S q, fun v H' d m' P F σ' ρ' H1 S _ dv q => l.rt v H' d m' P F σ' ρ' H1 S dv q, fun σ' H' ρ' m' P F S _ q => l.bk σ' H' ρ' m' P F S q, fun σ' H' ρ' m' P F S _ q => l.ct σ' H' ρ' m' P F S q, fun σ' ρ' x cls P F m' H' hm S _ z => l.ex σ' ρ' x cls P F m' H' hm S z⟩
def JSLs (X : Cx) (C : Cn) (st : List Stmt) (t : DS C.W.M) : Prop := ∃ ts, PSs X st ts ∧ ∀ σ H Pr F ρ m E D', SR X.K C Pr F σ ρ m H → LkL X C E D' → t E ρ m → ts D' σ H
theorem jls_of (h : JSs X C rest t) : JSLs X C rest t := by
  obtain ⟨t1, p, q⟩ := h
  exact ⟨t1, p, fun σ H Pr F ρ m E D' S l h => q σ H Pr F ρ m E D' S l.lk h⟩
noncomputable def bef (Hs G : Hp) : Hp := fun a => if (Hs a).isSome then G a else none
theorem bef_iff {Hs G : Hp} {a : Addr} {o : HO} : bef Hs G a = some o ↔ (Hs a).isSome = true ∧ G a = some o := by
  unfold bef
  by_cases h : (Hs a).isSome = true
  · rw [if_pos h]; simp [h]
  · rw [if_neg h]; simp [h]
structure Sole (K : PySem.W.Frag) (C : Cn) (i : Nat) (Hs : Hp) (Pr : Addr → Prop) (F : List Addr) (H : Hp) (σ : L2.St) (ρ : En) : Prop where
  h0 : ∀ a, Hs a = none → C.K0 a = none
  me : ∀ d, ρ[i]? = some (.val d) → ∃ v, σ[i]? = some (some v) ∧ Dn true K F (sv Hs Pr H) v d
  others : ∀ k d, k ≠ i → ρ[k]? = some (.val d) → ∃ v, σ[k]? = some (some v) ∧ Dn true K F (bef Hs (sv C.H0 Pr H)) v d
  owns : ∀ (k : Nat) (ds : List D), ρ[k]? = some (Sl.own ds) → ∃ p vs, σ[k]? = some (some (.ref p)) ∧ H p = some (.lst vs) ∧ Pr p ∧ p ∉ F ∧ DnA true K F (bef Hs (sv C.H0 Pr H)) vs ds
theorem Sole.tr {K : PySem.W.Frag} {i : Nat} {Hs : Hp} {Pr Pr1 : Addr → Prop} {F F1 : List Addr} {H H1 : Hp} {σ : L2.St} {ρ : En} (s : Sole K C i Hs Pr F H σ ρ) (t : Te Pr F H Pr1 F1 H1) (hp : ∀ a, Pr a → ∃ o, H a = some o ∧ ¬ IsT o) : Sole K C i Hs Pr1 F1 H1 σ ρ :=
  ⟨s.h0, fun d e => let ⟨v, a, c⟩ := s.me d e; ⟨v, a, c.tr t.toTr hp⟩, fun k d n e => let ⟨v, a, b⟩ := s.others k d n e; ⟨v, a, b.mono t.pre fun a o h => bef_iff.mpr ⟨(bef_iff.mp h).1, sv_tr t.toTr hp a o (bef_iff.mp h).2⟩⟩, fun k ds e => let ⟨p, vs, a, hq, pq, nf, b⟩ := s.owns k ds e; ⟨p, vs, a, t.all p _ nf hq, t.prm p pq, (fun z => by
    have y := t.fn p z nf
    rw [hq] at y; cases y), b.mono t.pre fun a o h => bef_iff.mpr ⟨(bef_iff.mp h).1, sv_tr t.toTr hp a o (bef_iff.mp h).2⟩⟩⟩
end
end RR
namespace RR
open PySem PySem.Spec PyProof.Rows L2
theorem ncl_w : Cl.w ≠ Cl.f := fun h => nomatch h
theorem ncl_s : Cl.s ≠ Cl.f := fun h => nomatch h
def st0 : List Bool → List D → Nat → En
  | b :: ks, d :: ds, n + 1 => (if b = true then .bor d else .val d) :: st0 ks ds n
  | _, _, n => List.replicate n .un
def okK : List Bool → List D → Prop
  | b :: ks, d :: ds => (b = false → d.nl = true) ∧ okK ks ds
  | [], [] => True
  | _, _ => False
theorem st0_len : ∀ {ks : List Bool} {ds : List D} {n : Nat}, (st0 ks ds n).length = n
  | _ :: ks, _ :: ds, n + 1 => congrArg (· + 1) (st0_len (ks := ks) (ds := ds) (n := n))
  | [], _, n => by simp [st0]
  | _ :: _, [], n => by simp [st0]
  | _ :: _, _ :: _, 0 => by simp [st0]
theorem st0_slot {K : PySem.W.Frag} {C : Cn} {F : List Addr} {H : Hp} (hF : C.F0 = F) (hH : C.K0 = H) : ∀ {ks : List Bool} {ds : List D} {vs : List V} {n : Nat}, DnA false K F (wv F H) vs ds → okK ks ds →
    ∀ (i : Nat) (s : Sl), (st0 ks ds n)[i]? = some s → Sk K C (· ∈ F) F H (vs.map some ++ List.replicate (n - vs.length) none)[i]? s
  | [], _, _, n, _, _, i, s, e => by
    have z : s = .un := by
      simp only [st0] at e
      exact (List.mem_replicate.mp (List.mem_of_getElem? e)).2
    subst z; trivial
  | _ :: _, [], _, n, _, _, i, s, e => by
    have z : s = .un := by
      simp only [st0] at e
      exact (List.mem_replicate.mp (List.mem_of_getElem? e)).2
    subst z; trivial
  | _ :: _, _ :: _, _, 0, _, _, i, s, e => by simp [st0] at e
  | b :: ks, d :: ds, _, n + 1, .cons (v := v) (vs := vs) h r, ok, 0, s, e => by
    have e : (if b = true then Sl.bor d else Sl.val d) = s := by simpa [st0] using e
    subst e
    cases b with
    | true =>
      rw [if_pos rfl]
      exact ⟨v, by simp, by rw [hF, hH]; exact h⟩
    | false =>
      rw [if_neg Bool.false_ne_true]
      exact ⟨v, by simp, h.up (ok.1 rfl)⟩
  | b :: ks, d :: ds, _, n + 1, .cons (v := v) (vs := vs) h r, ok, i + 1, s, e => by
    have e : (st0 ks ds n)[i]? = some s := by simpa [st0] using e
    have := st0_slot (n := n) hF hH r ok.2 i s e
    simpa [Nat.add_sub_add_right] using this
theorem st0_own {ks : List Bool} {ds : List D} {n : Nat} : ∀ (i : Nat) (es : List D), (st0 ks ds n)[i]? ≠ some (.own es) := by
  intro i es e
  induction ks generalizing ds n i with
  | nil =>
    simp only [st0] at e
    exact nomatch (List.mem_replicate.mp (List.mem_of_getElem? e)).2
  | cons b ks ih =>
    cases ds with
    | nil =>
      simp only [st0] at e
      exact nomatch (List.mem_replicate.mp (List.mem_of_getElem? e)).2
    | cons d ds =>
      cases n with
      | zero => simp [st0] at e
      | succ n =>
        cases i with
        | zero =>
          simp only [st0, List.getElem?_cons_zero, Option.some.injEq] at e
          split at e <;> cases e
        | succ i => exact ih i (by simpa [st0] using e)
section
variable {P : Program} {w : World} {K : PySem.W.Frag} {mg : Str → Option Value} {base : Heap} {W : Wd}
theorem sr_entry {C : Cn} {F : List Addr} {H : Hp} {m : C.W.M} {ks : List Bool} {ds : List D} {vs : List V} {N : List Str} (hF : C.F0 = F) (hH : C.K0 = H) (rz : C.W.Rz m F H) (dv : DnA false K F (wv F H) vs ds) (ok : okK ks ds) (hl : vs.length ≤ N.length) :
    SR K C (· ∈ F) F (L2.start N vs) (st0 ks ds N.length) m H where
  keep := fun a o _ e => by rw [hH] at e; exact e
  pre := ⟨[], by rw [hF]; simp⟩
  new := fun a h n => absurd h (by rw [hF] at n; exact n)
  prs := fun a h => C.W.there rz a h
  prn := fun a h n => absurd h n
  prf := fun a h => h
  rz := rz
  len := by
    rw [st0_len]
    unfold L2.start
    rw [List.length_append, List.length_map, List.length_replicate]
    omega
  slot := st0_slot hF hH dv ok
  dist := fun i j ds' es p _ e => absurd e (st0_own i ds')
abbrev XOf (P : Program) (w : World) (K : PySem.W.Frag) (mg : Str → Option Value) (base : Heap) (N : List Str) (x : Str) (sc : Scope) (f : Addr) (cdv : Value) (A : Around) (outer : List Env) (s : Shared) (H : Hp) (E : XK) : Cx := cxOf (L2.CX P w) P w K mg base N x sc f cdv A outer s H E
theorem fn_dataR {x : Str} {st : Stmt} {f : Addr} {fd : FuncData} {N ps : List Str} {k : Nat} {sp : DSp W.M} {t : DS W.M} (ks : List Bool)
    (rule : ∀ {sq : Sp}, (∀ vs H Q E, sq vs H Q E → vs.length = ps.length) → (∀ (cdv : Value) (A : Around) (out : List Env) (s : Shared) (H : Hp) (vs : List V) (Q : VK) (E : XK), RoomG k (A.deeper (envOfC x (defScope st) s.heap.objs.size f cdv)) → sq vs H Q E →
      ∃ t, PSs (cxOf (L2.CX P w) P w K mg base N x (defScope st) f cdv A out s H E) (defBody st) t ∧ t { nx := fun _ H1 => Q .non H1, rt := Q } (start N vs) H) → FnG P w K mg base (L2.CX P w) (k + 1) f fd ps sq)
    (len : ∀ ds m Q Z, sp ds m Q Z → ds.length = ps.length) (hn : ps.length ≤ N.length)
    (body : ∀ (cdv : Value) (A : Around) (outer : List Env) (s : Shared) (H : Hp) (E : XK) (F0 : List Addr), RoomG k (A.deeper (envOfC x (defScope st) s.heap.objs.size f cdv)) →
      JSLs (XOf P w K mg base N x (defScope st) f cdv A outer s H E) ⟨W, H, F0, fun cls d _ H' => E cls d H', H, fun _ _ h => h⟩ (defBody st) t)
    (vc : ∀ ds m Q Z, sp ds m Q Z → okK ks ds ∧ t { nx := fun _ m' => Q .non m', rt := Q, ex := Z } (st0 ks ds N.length) m) :
    FnG P w K mg base (L2.CX P w) (k + 1) f fd ps (spD K mg W sp) := by
  have ln : ∀ vs H Q E, spD K mg W sp vs H Q E → vs.length = ps.length := fun vs H Q E h => by
    obtain ⟨F, m, ds, Qd, Zd, rz, dv, q, _⟩ := h
    rw [dv.length]
    exact len _ _ _ _ q
  refine rule ln fun cdv A outer s H vs Q E hr h => ?_
  have lv := ln _ _ _ _ h
  obtain ⟨F0, m, ds, Qd, Zd, rz, dv, q, hq, hz⟩ := h
  obtain ⟨ts, p, r⟩ := body cdv A outer s H E F0 hr
  obtain ⟨ok, v⟩ := vc _ _ _ _ q
  refine ⟨ts, p, r (L2.start N vs) H (· ∈ F0) F0 _ m { nx := fun _ m' => Qd .non m', rt := Qd, ex := Zd } _ (sr_entry (C := ⟨W, H, F0, fun cls d _ H' => E cls d H', H, fun _ _ h => h⟩) rfl rfl rz dv ok (by omega)) ⟨fun σ' H' ρ' m' P1 F1 S1 q => ?_, fun v H' d m' P1 F1 σ' ρ' H1 S1 dv q => ?_, fun _ _ _ _ _ _ _ q => q.elim, fun _ _ _ _ _ _ _ q => q.elim, fun σ' ρ' y cls P1 F1 m' H' hm S1 q => ?_⟩ v⟩
  · exact hq .non H' F1 .non m' S1.rz S1.pre (fun a h n => S1.new a h n) (fun a o n e => S1.keep a o n e) .non q
  · exact hq v H' F1 d m' S1.rz S1.pre (fun a h n => S1.new a h n) (fun a o n e => S1.keep a o n e) dv q
  · exact hz y cls H' F1 m' hm S1.rz S1.pre (fun a h n => S1.new a h n) (fun a o n e => S1.keep a o n e) q
theorem fn_data {x : Str} {st : Stmt} {f : Addr} {fd : FuncData} {N ps : List Str} {k : Nat} {sp : DSp W.M} {t : DS W.M} (ks : List Bool) (F : Fun K x x st f fd) (S : FnScope N ps (defScope st))
    (len : ∀ ds m Q Z, sp ds m Q Z → ds.length = ps.length) (hn : ps.length ≤ N.length)
    (body : ∀ (cdv : Value) (A : Around) (outer : List Env) (s : Shared) (H : Hp) (E : XK) (F0 : List Addr), RoomG k (A.deeper (envOfC x (defScope st) s.heap.objs.size f cdv)) →
      JSLs (XOf P w K mg base N x (defScope st) f cdv A outer s H E) ⟨W, H, F0, fun cls d _ H' => E cls d H', H, fun _ _ h => h⟩ (defBody st) t)
    (vc : ∀ ds m Q Z, sp ds m Q Z → okK ks ds ∧ t { nx := fun _ m' => Q .non m', rt := Q, ex := Z } (st0 ks ds N.length) m) :
    FnG P w K mg base (L2.CX P w) (k + 1) f fd ps (spD K mg W sp) := fn_dataR ks (fun ln bd => okG F S ln bd) len hn body vc
theorem fd_of {g x : Str} {st : Stmt} {f : Addr} {fd : FuncData} {N ps : List Str} {k : Nat} {sp : DSp W.M} {t : DS W.M} (ks : List Bool) (F : Fun K x x st f fd) (gf : mg g = some (.ref f)) (b : Binds K fd ps []) (S : FnScope N ps (defScope st))
    (len : ∀ ds m Q Z, sp ds m Q Z → ds.length = ps.length) (hn : ps.length ≤ N.length)
    (body : ∀ (cdv : Value) (A : Around) (outer : List Env) (s : Shared) (H : Hp) (E : XK) (F0 : List Addr), RoomG k (A.deeper (envOfC x (defScope st) s.heap.objs.size f cdv)) →
      JSLs (XOf P w K mg base N x (defScope st) f cdv A outer s H E) ⟨W, H, F0, fun cls d _ H' => E cls d H', H, fun _ _ h => h⟩ (defBody st) t)
    (vc : ∀ ds m Q Z, sp ds m Q Z → okK ks ds ∧ t { nx := fun _ m' => Q .non m', rt := Q, ex := Z } (st0 ks ds N.length) m) : FD P w K mg base W (k + 1) g [] sp :=
  ⟨f, fd, ps, [], [], fn_data ks F S len hn body vc, gf, F.kp, b, .nil, fun _ _ => .nil⟩
structure Dfn (K : PySem.W.Frag) (mg : Str → Option Value) (g x : Str) (st : Stmt) (ps : List Str) : Prop where
  ex : ∃ f fd, Fun K x x st f fd ∧ mg g = some (.ref f) ∧ Binds K fd ps []
abbrev BodyJ (P : Program) (w : World) (K : PySem.W.Frag) (mg : Str → Option Value) (base : Heap) (W : Wd) (k : Nat) (N : List Str) (x : Str) (st : Stmt) (t : DS W.M) : Prop :=
  ∀ (f : Addr) (cdv : Value) (A : Around) (outer : List Env) (s : Shared) (H : Hp) (E : XK) (F0 : List Addr), RoomG k (A.deeper (envOfC x (defScope st) s.heap.objs.size f cdv)) →
      JSLs (XOf P w K mg base N x (defScope st) f cdv A outer s H E) ⟨W, H, F0, fun cls d _ H' => E cls d H', H, fun _ _ h => h⟩ (defBody st) t
theorem Dfn.fd {g x : Str} {st : Stmt} {N ps : List Str} {k : Nat} {sp : DSp W.M} {t : DS W.M} (F : Dfn K mg g x st ps) (ks : List Bool) (S : FnScope N ps (defScope st)) (body : BodyJ P w K mg base W k N x st t)
    (len : ∀ ds m Q Z, sp ds m Q Z → ds.length = ps.length) (vc : ∀ ds m Q Z, sp ds m Q Z → okK ks ds ∧ t { nx := fun _ m' => Q .non m', rt := Q, ex := Z } (st0 ks ds N.length) m) (hn : ps.length ≤ N.length := by decide) : FD P w K mg base W (k + 1) g [] sp := by
  obtain ⟨f, fd, Fn, gf, b⟩ := F.ex
  exact fd_of ks Fn gf b S len hn (body f) vc
theorem FD.mono {j k : Nat} {x : Str} {dds : List D} {sp : DSp W.M} (h : FD P w K mg base W j x dds sp) (l : j ≤ k) : FD P w K mg base W k x dds sp := by
  obtain ⟨f, fd, ps, ds, dvs, F, r⟩ := h
  exact ⟨f, fd, ps, ds, dvs, F.mono l, r⟩
end
def W0 : Wd where
  M := Unit
  Rz := fun _ F _ => F = []
  keep := fun h _ _ => h
  there := fun h a ha => by rw [h] at ha; cases ha
def spLaw (K : PySem.W.Frag) : Sp := fun vs H Q _ => ∃ (a : Addr) (ns : List Int), vs = [.ref a] ∧ SqL K H a (ns.map V.int) ∧ ns.length ≤ 63 ∧ ∀ H', Q (.bl true) H'
theorem ints_dn {s : Bool} {K : PySem.W.Frag} {F : List Addr} {G : Hp} : ∀ ns : List Int, DnA s K F G (ns.map V.int) (ns.map D.int)
  | [] => .nil
  | n :: ns => .cons (.int n) (ints_dn ns)
theorem law_of {P : Program} {w : World} {K : PySem.W.Frag} {mg : Str → Option Value} {base : Heap} {W : Wd} {k : Nat} {f : Addr} {fd : FuncData} {ps : List Str} {sp : DSp W.M} {m0 : W.M} (F : FnG P w K mg base (L2.CX P w) k f fd ps (spD K mg W sp)) (r0 : ∀ H, W.Rz m0 [] H)
    (h : ∀ ns : List Int, ns.length ≤ 63 → sp [.lst (ns.map D.int)] m0 (fun d _ => d = .bl true) (fun _ _ => False)) : FnG P w K mg base (L2.CX P w) k f fd ps (spLaw K) := by
  refine F.imp fun vs H Q E h' => ?_
  obtain ⟨a, ns, rfl, hs, hl, q⟩ := h'
  refine ⟨[], m0, [.lst (ns.map D.int)], _, _, r0 H, .cons (.lst (Ls.mono (s := false) (fun a o e => vw_iff.mpr ⟨e, by simp⟩) (show Ls false K H a _ from hs)) (ints_dn ns)) .nil, h ns hl, fun v H' F' d m' _ _ _ _ dn e => ?_, fun _ _ _ _ _ _ _ _ _ _ z => z.elim⟩
  subst e
  cases dn
  exact q H'
end RR
namespace RR
open PySem PySem.Spec PyProof.Rows L2
structure DfD (K : PySem.W.Frag) (mg : Str → Option Value) (g x : Str) (st : Stmt) (ps : List Str) (zs : List Int) : Prop where
  ex : ∃ f fd, FunD K x x (defArgs st) (defBody st) (defScope st) (zs.map V.int) [] f fd ∧ mg g = some (.ref f) ∧ ∀ j, j ≤ zs.length → ∃ ds, Vals ((zs.map V.int).drop j) ds ∧ Binds K fd ps ds
section
variable {P : Program} {w : World} {K : PySem.W.Frag} {mg : Str → Option Value} {base : Heap} {W : Wd}
theorem DfD.go {g x : Str} {st : Stmt} {N ps : List Str} {zs : List Int} {k : Nat} {sp : DSp W.M} {t : DS W.M} (F : DfD K mg g x st ps zs) (j : Nat) (ks : List Bool) (S : FnScope N ps (defScope st)) (body : BodyJ P w K mg base W k N x st t)
    (vc : ∀ ds m Q Z, sp ds m Q Z → okK ks ds ∧ t { nx := fun _ m' => Q .non m', rt := Q, ex := Z } (st0 ks ds N.length) m) (len : ∀ ds m Q Z, sp ds m Q Z → ds.length = ps.length) (hj : j ≤ zs.length := by decide) (hn : ps.length ≤ N.length := by decide) :
    FD P w K mg base W (k + 1) g ((zs.drop j).map D.int) sp := by
  obtain ⟨f, fd, G, gf, bn⟩ := F.ex
  obtain ⟨ds, vds, bd⟩ := bn j hj
  have kp := G.kp
  obtain ⟨_, _, _, _, _, _, _, cdv, _, _, rfl, lk, cd, _, _⟩ := G.ex
  have ln : ∀ vs H Q E, spD K mg W sp vs H Q E → vs.length = ps.length := fun vs H Q E h => by
    obtain ⟨F0, m, ds, Qd, Zd, rz, dv, q, _⟩ := h
    rw [dv.length]
    exact len _ _ _ _ q
  refine ⟨f, _, ps, ds, (zs.map V.int).drop j, ?_, gf, kp, bd, vds, fun F0 G0 => by rw [← List.map_drop]; exact ints_dn _⟩
  exact fn_dataR (x := x) (st := st) ks (fun ln bd => fnG_mk lk cd S ln fun room asked => bd cdv _ _ _ _ _ _ _ room asked) len hn (body f) vc
end
end RR
namespace RR
open PySem PySem.Spec PyProof.Rows L2
def bd (n : Nat) (x : Int) : Prop := x.natAbs < 2 ^ n
theorem mulok {i j : Int} {a b : Nat} (ha : bd a i) (hb : bd b j) (h : a + b ≤ 100000000 := by decide) : IntMulOk i j := by
  have l : ∀ {x : Int} {n : Nat}, x.natAbs < 2 ^ n → Builtin.Int.intBits x ≤ n := fun {x n} h => by
    unfold Builtin.Int.intBits
    split
    · exact Nat.zero_le _
    · rename_i h0
      have h0 : x.natAbs ≠ 0 := by simpa using h0
      exact (Nat.log2_lt h0).mpr h
  have h1 := l ha
  have h2 := l hb
  have e : bitsLine = 134217728 := by decide
  intro z
  rw [Bool.and_eq_true] at z
  have z2 := z.2
  unfold Builtin.Int.intTooBig at z2
  have z3 := of_decide_eq_true z2
  rw [e] at z3
  omega
theorem bd_mul {a b : Nat} {x y : Int} (h : bd a x) (h' : bd b y) : bd (a + b) (x * y) := by
  unfold bd at *
  rw [Int.natAbs_mul, Nat.pow_add]
  exact Nat.mul_lt_mul'' h h'
theorem bd_mono {a b : Nat} {x : Int} (h : bd a x) (l : a ≤ b) : bd b x := Nat.lt_of_lt_of_le h (Nat.pow_le_pow_right (by decide) l)
theorem bd_add {a b : Nat} {x y : Int} (h : bd a x) (h' : bd b y) : bd (max a b + 1) (x + y) := by
  have h1 : bd (max a b) x := bd_mono h (by omega)
  have h2 : bd (max a b) y := bd_mono h' (by omega)
  unfold bd at *
  rw [Nat.pow_succ]
  omega
theorem bd_neg {a : Nat} {x : Int} (h : bd a x) : bd a (-x) := by unfold bd at *; omega
theorem bd_sub {a b : Nat} {x y : Int} (h : bd a x) (h' : bd b y) : bd (max a b + 1) (x - y) := by
  have := bd_add h (bd_neg h')
  rwa [← Int.sub_eq_add_neg] at this
theorem bd_lit {n : Nat} {x : Int} (h : x.natAbs < 2 ^ n) : bd n x := h
theorem bd_fmod {b : Nat} {x y : Int} (h : bd b y) (h0 : 0 < y) : bd b (x.fmod y) := by
  have h1 := Int.fmod_nonneg_of_pos x h0
  have h2 := Int.fmod_lt_of_pos x h0
  unfold bd at *
  omega
theorem iabs_eq (x : Int) : iabs x = (x.natAbs : Int) := by unfold iabs; split <;> omega
theorem imax_eq (x y : Int) : imax x y = max x y := by unfold imax; omega
theorem nd_small {i j : Int} {b : Nat} (h : j ≠ 0) (hb : bd b j) (l : b ≤ 9000 := by decide) : Nd i j := by
  refine ⟨h, PyProof.noPylong_of_log2 ?_⟩
  have h0 : j.natAbs ≠ 0 := by omega
  have := (Nat.log2_lt h0).mpr hb
  omega
theorem fdiv_pos {i j : Int} (h : 0 ≤ j) : i.fdiv j = i / j := Int.fdiv_eq_ediv_of_nonneg i h
theorem small_line {n : Nat} (h : n ≤ 16777216) : n ≤ sizeLine := by rw [sizeLine_eq]; exact h
theorem lt_line {n : Nat} (h : n < 16777216) : n < sizeLine := by rw [sizeLine_eq]; exact h
abbrev zz (xs : List Int) : List D := xs.map D.int
theorem nls_ints : ∀ xs : List Int, D.nls (zz xs) = true
  | [] => rfl
  | _ :: xs => nls_ints xs
theorem nl_row (xs : List Int) : D.nl (.tup (zz xs)) = true := nls_ints xs
theorem q_int {n : Nat} {i : Int} : (D.int i).q n = true := by cases n <;> rfl
theorem q_row {n : Nat} (xs : List Int) : (D.tup (zz xs)).q (n + 1) = true := List.all_eq_true.mpr fun d hd => by
  obtain ⟨i, _, rfl⟩ := List.mem_map.mp hd
  exact q_int
theorem q_lst {n : Nat} (xs : List Int) : (D.lst (zz xs)).q (n + 1) = true := List.all_eq_true.mpr fun d hd => by
  obtain ⟨i, _, rfl⟩ := List.mem_map.mp hd
  exact q_int
theorem eqvs_ints : ∀ xs ys : List Int, D.eqvs (zz xs) (zz ys) = decide (xs = ys)
  | [], [] => rfl
  | [], _ :: _ => rfl
  | _ :: _, [] => rfl
  | x :: xs, y :: ys => by
    show ((D.int x).eqv (.int y) && D.eqvs (zz xs) (zz ys)) = _
    rw [eqvs_ints xs ys]
    show (decide (x = y) && decide (xs = ys)) = _
    rw [Bool.eq_iff_iff]
    simp
theorem eqv_row (xs ys : List Int) : (D.tup (zz xs)).eqv (.tup (zz ys)) = decide (xs = ys) := eqvs_ints xs ys
theorem eqv_lst (xs ys : List Int) : (D.lst (zz xs)).eqv (.lst (zz ys)) = decide (xs = ys) := eqvs_ints xs ys
theorem atI_ints {xs : List Int} {i : Int} : atI (zz xs) i = (atI xs i).map D.int := by
  unfold atI
  rw [List.length_map]
  cases ixN xs.length i with
  | none => rfl
  | some j => simp
theorem atI_at {α : Type} {xs : List α} {i : Int} (h0 : 0 ≤ i) (h1 : i < xs.length) : atI xs i = some (xs[i.toNat]'(by omega)) := by
  unfold atI ixN
  rw [if_pos h0, if_pos h1]
  simp
theorem ixN_at {n : Nat} {i : Int} (h0 : 0 ≤ i) (h1 : i < n) : ixN n i = some i.toNat := by
  unfold ixN
  rw [if_pos h0, if_pos h1]
theorem iota_map (n : Nat) : iota 0 n = (List.range n).map fun k => D.int (k : Nat) := by
  unfold iota
  refine List.map_congr_left fun k _ => ?_
  rw [Int.zero_add]
theorem cut_upto {ds : List D} {k : Int} (h0 : 0 ≤ k) : cutD ds none (some k) = ds.take k.toNat := by
  unfold cutD
  obtain ⟨n, rfl⟩ := Int.eq_ofNat_of_zero_le h0
  rw [HT.sIx_none, HT.sIx_nat, List.drop_zero, Nat.sub_zero]
  simp only [Int.toNat_natCast]
  rcases Nat.le_total n ds.length with h | h
  · rw [Nat.min_eq_left h]
  · rw [Nat.min_eq_right h, List.take_length, List.take_of_length_le h]
section
variable {M : Type} {α : Type} {g : DG} {tt : DTT M} {te : DT M} {ρ : En}
theorem lcGo_filter {inj h : α → D} {keep : α → Bool} : ∀ (xs : List α) {acc : List D} {m : M} {Q : List D → M → Prop},
    (∀ a ∈ xs, ∀ m (k : D → M → Prop) (l : M → Prop), (keep a = true → k (h a) m) → (keep a = false → l m) → g (inj a) ρ fun ρ2 => tt ρ2 m (fun b m1 => if b = true then te ρ2 m1 k (fun _ _ => False) else l m1) (fun _ _ => False)) →
    acc.length + xs.length ≤ sizeLine → Q (acc ++ (xs.filter keep).map h) m → lcGo g tt te ρ (xs.map inj) acc m Q
  | [], acc, m, Q, _, _, q => by
    show Q acc m
    simpa using q
  | a :: xs, acc, m, Q, st, hl, q => by
    rw [List.length_cons] at hl
    refine st a List.mem_cons_self m _ _ (fun hk => ⟨by omega, ?_⟩) fun hk => ?_
    · refine lcGo_filter xs (fun b hb => st b (List.mem_cons_of_mem _ hb)) (by rw [List.length_append, List.length_cons, List.length_nil]; omega) ?_
      rw [List.filter_cons_of_pos hk, List.map_cons] at q
      simpa using q
    · refine lcGo_filter xs (fun b hb => st b (List.mem_cons_of_mem _ hb)) (by omega) ?_
      rw [List.filter_cons_of_neg (by simp [hk])] at q
      exact q
theorem lcGo_map {inj h : α → D} (xs : List α) {m : M} {Q : List D → M → Prop}
    (st : ∀ a ∈ xs, ∀ m (k : D → M → Prop) (l : M → Prop), k (h a) m → g (inj a) ρ fun ρ2 => tt ρ2 m (fun b m1 => if b = true then te ρ2 m1 k (fun _ _ => False) else l m1) (fun _ _ => False))
    (hl : xs.length ≤ sizeLine) (q : Q (xs.map h) m) : lcGo g tt te ρ (xs.map inj) [] m Q := by
  refine lcGo_filter (keep := fun _ => true) xs (fun a ha m k l h1 _ => st a ha m k l (h1 rfl)) (by simpa using hl) ?_
  rw [List.filter_eq_self.mpr fun _ _ => rfl]
  simpa using q
theorem lcGo_any {P : D → Prop} {S : Nat → M → Prop} : ∀ (items : List D) {acc : List D} {m : M} {Q : List D → M → Prop},
    (∀ x ∈ items, ∀ n m (k : D → M → Prop) (l : M → Prop), S (n + 1) m → (∀ y m1, P y → S n m1 → k y m1) → g x ρ fun ρ2 => tt ρ2 m (fun b m1 => if b = true then te ρ2 m1 k (fun _ _ => False) else l m1) (fun _ _ => False)) →
    acc.length + items.length ≤ sizeLine → S items.length m → (∀ ds m1, ds.length = items.length → (∀ d ∈ ds, P d) → S 0 m1 → Q (acc ++ ds) m1) → lcGo g tt te ρ items acc m Q
  | [], acc, m, Q, _, _, s, q => by
    have := q [] m rfl (fun _ h => nomatch h) s
    rw [List.append_nil] at this
    exact this
  | x :: xs, acc, m, Q, st, hl, s, q => by
    rw [List.length_cons] at hl
    refine st x List.mem_cons_self xs.length m _ _ s fun y m1 py s1 => ⟨by omega, ?_⟩
    refine lcGo_any xs (fun b hb => st b (List.mem_cons_of_mem _ hb)) (by rw [List.length_append, List.length_cons, List.length_nil]; omega) s1 fun ds m2 l p s2 => ?_
    have := q (y :: ds) m2 (by rw [List.length_cons, List.length_cons, l]) (fun d hd => (List.mem_cons.mp hd).elim (fun e => e ▸ py) (p d)) s2
    simpa using this
end
theorem ints_of {P : Int → Prop} : ∀ {ds : List D}, (∀ d ∈ ds, ∃ x, d = .int x ∧ P x) → ∃ xs : List Int, ds = zz xs ∧ ∀ x ∈ xs, P x
  | [], _ => ⟨[], rfl, fun _ h => nomatch h⟩
  | d :: ds, h => by
    obtain ⟨x, rfl, px⟩ := h d List.mem_cons_self
    obtain ⟨xs, rfl, p⟩ := ints_of fun e he => h e (List.mem_cons_of_mem _ he)
    exact ⟨x :: xs, rfl, fun y hy => (List.mem_cons.mp hy).elim (fun e => e ▸ px) (p y)⟩
end RR
namespace RR
open PySem PySem.Spec PyProof.Rows L2
section
variable {X : Cx}
end
mutual
theorem py_nodict : ∀ d : D, d.py.hasDict = false
  | .non => by simp only [D.py, PyData.hasDict]
  | .bl b => by simp only [D.py, PyData.hasDict]
  | .int i => by simp only [D.py, PyData.hasDict]
  | .str x => by simp only [D.py, PyData.hasDict]
  | .hnd n => by simp only [D.py, PyData.hasDict]
  | .dic => by simp only [D.py, PyData.hasDict]
  | .exc n => by simp only [D.py, PyData.hasDict]
  | .fn n => by simp only [D.py, PyData.hasDict]
  | .ptr n => by simp only [D.py, PyData.hasDict]
  | .tup xs => by simp only [D.py, PyData.hasDict]; exact pys_nodict xs
  | .lst xs => by simp only [D.py, PyData.hasDict]; exact pys_nodict xs
theorem pys_nodict : ∀ ds : List D, PyData.hasDictAll (D.pys ds) = false
  | [] => by simp only [D.pys, PyData.hasDictAll]
  | d :: ds => by simp only [D.pys, PyData.hasDictAll, py_nodict d, pys_nodict ds, Bool.or_self]
end
def D.rep (d : D) : Str := d.py.shown
section
variable {X : Cx} {C : Cn}
end
end RR
namespace RR
open PySem PySem.Spec PyProof.Rows L2
theorem q_up : ∀ {n : Nat} {d : D}, d.q n = true → d.q (n + 1) = true
  | n, .non, _ => by cases n <;> rfl
  | n, .bl b, _ => by cases n <;> rfl
  | n, .int i, _ => by cases n <;> rfl
  | n, .str x, h => by cases n <;> exact h
  | n, .hnd x, h => by cases n <;> cases h
  | n, .dic, h => by cases n <;> cases h
  | n, .exc x, h => by cases n <;> cases h
  | n, .fn x, h => by cases n <;> cases h
  | n, .ptr x, h => by cases n <;> cases h
  | 0, .tup xs, h => by cases h
  | 0, .lst xs, h => by cases h
  | n + 1, .tup xs, h => List.all_eq_true.mpr fun d hd => q_up (List.all_eq_true.mp h d hd)
  | n + 1, .lst xs, h => List.all_eq_true.mpr fun d hd => q_up (List.all_eq_true.mp h d hd)
theorem q_le {n k : Nat} {d : D} (h : d.q n = true) (l : n ≤ k) : d.q k = true := by
  induction l with
  | refl => exact h
  | step _ ih => exact q_up ih
structure Sh (k c : Nat) (d : D) : Prop where
  q : d.q k = true
  s : d.py.showable = true
  l : d.py.shown.length ≤ c
theorem Sh.le {k k' c c' : Nat} {d : D} (h : Sh k c d) (hk : k ≤ k') (hc : c ≤ c') : Sh k' c' d := ⟨q_le h.q hk, h.s, Nat.le_trans h.l hc⟩
end RR
namespace RR
open PySem PySem.Spec PyProof.Rows L2
section
variable {X : Cx} {pins : List (Addr × Obj)} {σ : L2.St} {H : Hp} {s : Shared}
theorem Inv.told {a : Addr} {o : HO} (I : Inv X pins σ H s) (h0 : X.s_0.heap.get? a = none) (hn : H a = none) (nL : a ≠ X.env.locals) (nC : ∀ x c, X.env.cells.lookup x = some c → c ≠ a) (nP : ∀ p ∈ X.pn ++ pins, p.1 ≠ a)
    (new : ObjOk X.prog X.w (upd H a o) s.heap a o) : Inv X pins σ (upd H a o) s := by
  have ne0 : ∀ {b u}, X.s_0.heap.get? b = some u → b ≠ a := fun e z => by rw [z, h0] at e; cases e
  have neH : ∀ {b u}, H b = some u → b ≠ a := fun e => ne_of_none e hn
  refine ⟨I.ok, I.os, I.bare, ⟨I.base.keep, I.base.slot, fun b u e n hx => ?_, I.base.there, fun b xs e => ?_, fun b u v e => ?_, fun b ps e => ?_⟩, I.loc, I.cell, ?_, fun x c e => ?_, fun p hp => ?_, fun b u e => ?_, I.len⟩
  · rw [upd_ne (ne0 e)]; exact I.base.free b u e n hx
  · have q := I.base.tups b xs e
    rw [upd_ne (neH q)]; exact q
  · have q := I.base.frzs b u v e
    rw [upd_ne (neH q)]; exact q
  · obtain ⟨m, q⟩ := I.base.tbls b ps e
    exact ⟨m, by rw [upd_ne (neH q)]; exact q⟩
  · rw [upd_ne nL.symm]; exact I.free
  · rw [upd_ne (nC x c e)]; exact I.freeC x c e
  · obtain ⟨e1, e2, e3⟩ := I.pin p hp
    exact ⟨e1, by rw [upd_ne (nP p hp)]; exact e2, e3⟩
  · by_cases hb : b = a
    · subst hb
      rw [upd_same] at e; cases e
      exact new
    · rw [upd_ne hb] at e
      exact (I.hok b u e).stay (fun c v _ q => q) (fun c q => by rw [upd_ne (neH q)]; exact q) fun c xs q => by rw [upd_ne (neH q)]; exact q
end
def wHold (K : PySem.W.Frag) (c : Value) (i j : Nat) (Wout : WX) (D : Ends) : WX := fun cls d σ H =>
  ∃ b, PySem.W.exmOne K cls c = some b ∧ (b = true → d = none ∧ ∃ C, cls = .ref C ∧ ∀ a, H a = none → D.nx (((σ.set i (some (.ref a))).set j (some (.ref a))).set i none) (upd H a (ExI C a))) ∧ (b = false → Wout cls d σ H)
section
variable {X : Cx} {x n y : Str} {c : Value} {i j : Nat} {body : List Stmt} {np n2 yp ap pos pos' : Pos} {tb : WX → TS} {Wout : WX}
theorem ps_hold (hst : X.stack = X.env :: X.outer) (hfm : X.env.frame = some X.env.locals) (hex : X.ex = []) (hN : X.N.Nodup) (hi : X.N[i]? = some n) (hj : X.N[j]? = some y) (hln : X.env.kindOf n = some .local) (hly : X.env.kindOf y = some .local) (hij : i ≠ j) (hc : Names X x c) (tk : Takes X Wout)
    (hb : ∀ (W : WX) (pn : List (Addr × Obj)) (xe : Value → Shared → Prop), Takes (X.tr pn xe) W → PassesOwn (model X.prog X.w) X.A X.env xe → PSs (X.tr pn xe) body (tb W))
    (hsu : ∀ (a : Addr) (oe : Obj) (pn : List (Addr × Obj)), PSs (X.suite a ((a, oe) :: pn)) [.Assign [.Name y yp] (.Name n n2) ap] (tSeq (tAsg (tVar i) (gName j)) tNext)) :
    PS X (.Try body [.ExceptHandler (some (.Name x np)) (some n) [.Assign [.Name y yp] (.Name n n2) ap] pos'] [] [] pos) (fun D σ H => tb (wHold X.K c i j Wout D) D σ H) := by
  constructor
  intro pins s σ H D I asked
  have ok := I.ok
  have frames : X.A.frames = some (X.env :: X.outer) := by rw [ok.frames, hst]
  let handler : List ExceptHandler := [.ExceptHandler (some (.Name x np)) (some n) [.Assign [.Name y yp] (.Name n n2) ap] pos']
  let air : Value → Shared → Prop := fun e t1 => wpAny (model X.prog X.w) X.A (noteFrame e X.env) (fun _ t2 => wpAny (model X.prog X.w) X.A (setFlight e none) (fun _ t3 => wpAny (model X.prog X.w) X.A (handleBy e X.env handler) (SP X pins D) X.xe t3) X.xe t2) X.xe t1
  refine wpAny_Try_except (wpAny_mono ((hb (wHold X.K c i j Wout D) (X.pn ++ pins) air (fun u s' caught => ?_) PassesOwn.looking).run [] s σ H D (I.toTry _) asked) (fun fl s1 end1 => ?_) fun _ _ z => z)
  · obtain ⟨a, B, sI, pins', σ', H', cls, d, rfl, JX, nb, up, sky, na, os, ag, b, isB, yes, no⟩ := caught
    have J : Inv X pins σ' H' sI := JX.ofTry ok
    rw [show X.tr (X.pn ++ pins) air = X.tr (X.pn ++ pins) air from rfl] at sky
    have sky2 : Sky B (X.env :: X.outer) a (Zc cls d) X.env.locals s'.heap := by rw [← hst]; exact sky
    refine Sky.land Zc.steady frames hfm sky2 fun h3 fly up3 => ?_
    have J3 : Inv X pins σ' H' { s' with heap := h3 } := J.landed nb fly.1 (up.trans up3) os ag
    have noFrame : ∀ {h : Heap} {o : Obj} {vs : Array Value}, h.FunFrames B (X.env :: X.outer) → h.get? a = some o → o.data = .fields vs → a ∉ frs (X.env :: X.outer) := fun ff e dd hm => by
      obtain ⟨_, o', e', nofields⟩ := ff.mem hm
      rw [e] at e'; cases e'
      exact nofields _ dd
    obtain ⟨oe3, vs3, at3, z3, dt3⟩ := fly.there
    have nfr := noFrame fly.2.2.1 at3 dt3
    have nL : a ≠ X.env.locals := fun z => nfr (List.mem_filterMap.mpr ⟨X.env, List.mem_cons_self, by rw [hfm, z]⟩)
    have nF : a ∉ X.fs := fun hm => by
      obtain ⟨e, he, q⟩ := List.mem_filterMap.mp hm
      exact nfr (List.mem_filterMap.mpr ⟨e, List.mem_cons_of_mem _ he, q⟩)
    have aI : sI.heap.get? a = none := by
      cases q : sI.heap.get? a with
      | none => rfl
      | some o =>
        have z := nb a o q (by rw [show (X.tr (X.pn ++ pins) air).stack = X.env :: X.outer from hst]; exact nfr)
        rw [fly.2.1] at z; cases z
    have a0 : X.s_0.heap.get? a = none := by
      cases q : X.s_0.heap.get? a with
      | none => rfl
      | some o =>
        obtain ⟨o', z⟩ := J.base.there a o q (by rw [hex]; simp)
        rw [aI] at z; cases z
    have aC : ∀ z c, X.env.cells.lookup z = some c → c ≠ a := fun z c e q => by
      obtain ⟨v, o, ho, _⟩ := J.cell z c e
      rw [q, aI] at ho; cases ho
    have aP : ∀ p ∈ X.pn ++ pins, p.1 ≠ a := fun p hp q => by
      have e1 := (J.pin p hp).1
      rw [q, aI] at e1; cases e1
    have S3 := J3.suite at3 dt3 na nL nF
    refine wpAny_handleBy_cons (codeAny_handlers_test ?_) (by intro q; cases q)
    have typed : PySem.W.Looks (model X.prog X.w) h3 (typeOf (.ref a)) cls := fun A Q E t k q => wpAny_typeOf_ref (k _ _ at3) (by rw [z3.1]; exact q)
    have test : ∀ {Q : Value → Shared → Prop} {E : Value → Shared → Prop}, Q c { s' with heap := h3 } → wpAny (model X.prog X.w) (X.A.mark (some (.ref a))) (eval (.Name x np) X.env) Q E { s' with heap := h3 } := fun q => by
      obtain ⟨hg, hdbg, hm | ⟨hm, hv, hnn⟩⟩ := hc
      · exact ld_glob (X := X.suite a ((a, oe3) :: (X.pn ++ pins))) S3 hg hm q hdbg
      · exact ld_blt (X := X.suite a ((a, oe3) :: (X.pn ++ pins))) S3 hg hm hv q hnn hdbg
    refine test ((PySem.W.exm_one (M := model X.prog X.w) J3.kIn typed isB).here ?_)
    cases b with
    | false =>
      show wpAny _ X.A (handleBy (.ref a) X.env []) _ _ _
      refine wpAny_handleBy_nil ?_
      obtain ⟨_, _, _, oe, vs, T, oT, ts', he, hz, hd, h1, hr⟩ := id fly
      unfold PySem.passOn
      refine wpAny_bind (wpAny_field he hd h1 ?_)
      rw [if_neg (show ¬ ((Value.ref T == Value.none) = true) from by simp)]
      have fin : wpAny (model X.prog X.w) X.A (setFlight (.ref a) X.env.frame) (fun _ t => wpAny (model X.prog X.w) X.A (throw (.ref a) : Sem Flow) (SP X pins D) X.xe t) X.xe { s' with heap := h3 } := by
        rw [hfm]
        refine HandSPX.setFlight_upZ fly fun h4 held up4 => wpAny_throw (tk _ _ ⟨a, B, sI, pins, σ', H', cls, d, rfl, J, nb, (up.trans up3).trans up4, .inr (.inr (by rw [hst]; exact held)), na, os, ag, no rfl⟩)
      first
        | exact wpAny_bind (wpAny_pure (wpAny_bind fin))
        | exact wpAny_bind fin
    | true =>
      obtain ⟨rfl, C, rfl, next⟩ := yes rfl
      refine codeAny_handlers_suite_as (HandSPX.lands_againZ fly fun h4 fly4 up4 => ?_)
      have J4 : Inv X pins σ' H' { s' with heap := h4 } := J.landed nb fly4.1 ((up.trans up3).trans up4) os ag
      obtain ⟨oe4, vs4, at4, z4, dt4⟩ := fly4.there
      have S4 := J4.suite at4 dt4 na nL nF
      refine store_ok (X := X.suite a ((a, oe4) :: (X.pn ++ pins))) (v := .ref a) S4 hN hi (.inl hln) rfl (fun s5 S5 => ?_) (.inr hln)
      let D5 : Ends := { nx := fun σ5 H5 => σ5 = (σ'.set i (some (.ref a))).set j (some (.ref a)) ∧ H5 = H', rt := fun _ _ => False, bk := fun _ _ => False, ct := fun _ _ => False }
      have hlt : i < σ'.length := by rw [J4.len]; exact (List.getElem?_eq_some_iff.mp hi).1
      refine wpAny_mono ((hsu a oe4 (X.pn ++ pins)).run [] s5 _ H' D5 S5 ⟨.ref a, by rw [List.getElem?_set_self hlt], rfl, rfl⟩) (fun fl s6 end6 => ?_) (fun _ _ z => False.elim z)
      cases fl with
      | next =>
        obtain ⟨σ6, H6, S6, rfl, rfl⟩ := end6
        refine gone_ok (X := X.suite a ((a, oe4) :: (X.pn ++ pins))) S6 hN hi hln fun s7 S7 => ?_
        obtain ⟨at7, _⟩ := S7.pin (a, oe4) (by simp)
        have J7 : L2.Inv X pins _ H6 s7 := S7.unsuite ok
        refine ⟨_, upd H6 a (ExI C a), Inv.told J7 a0 na nL aC aP ⟨?_, ⟨oe4, at7⟩, fun g1 g2 w k => ?_⟩, next a na⟩
        · have e : (s7.heap.get? a).getD default = oe4 := by rw [at7]; rfl
          show PySem.W.InstAt s7.heap a ((s7.heap.get? a).getD default) C none
          rw [e]
          obtain ⟨oc, od, oda, osl⟩ := oe4
          obtain ⟨q1, q2⟩ := z4
          dsimp only at q1 q2 dt4
          subst q1 q2 dt4
          exact ⟨at7, rfl, rfl, trivial⟩
        · obtain ⟨w1, w2, w3, w4⟩ := w
          have e := k _ w1
          have e2 : (g2.get? a).getD default = (g1.get? a).getD default := by rw [e]; rfl
          show PySem.W.InstAt g2 a ((g2.get? a).getD default) C none
          rw [e2]
          refine ⟨e, w2, w3, ?_⟩
          cases q : ((g1.get? a).getD default).dict with
          | none => trivial
          | some dx => rw [q] at w4; exact w4.elim
      | brk => obtain ⟨_, _, _, z⟩ := end6; exact z.elim
      | cont => obtain ⟨_, _, _, z⟩ := end6; exact z.elim
      | ret u => obtain ⟨_, _, _, _, _, z⟩ := end6; exact z.elim
  · cases fl with
    | next =>
      obtain ⟨σ', H', J', q⟩ := end1
      exact wpAny_execs_nil ⟨σ', H', J'.ofTry ok, q⟩
    | brk =>
      obtain ⟨σ', H', J', q⟩ := end1
      exact ⟨σ', H', J'.ofTry ok, q⟩
    | cont =>
      obtain ⟨σ', H', J', q⟩ := end1
      exact ⟨σ', H', J'.ofTry ok, q⟩
    | ret u =>
      obtain ⟨v, σ', H', J', r, q⟩ := end1
      exact ⟨v, σ', H', J'.ofTry ok, r, q⟩
end
end RR
namespace RR
open PySem PySem.Spec PyProof.Rows L2
section
variable {X : Cx} {C : Cn} {e a b : Expr} {es : List Expr} {pos : Pos} {ta tb : DT C.W.M}
def gIsB : G2 := fun x y Q => match x, y with | .bl i, .bl j => Q (.bl (decide (i = j))) | _, _ => False
def gNotB : G2 := fun x y Q => match x, y with | .bl i, .bl j => Q (.bl (!decide (i = j))) | _, _ => False
theorem DnA.bls {s : Bool} {K : PySem.W.Frag} {F : List Addr} {G : Hp} : ∀ {vs : List V} {bs : List Bool}, DnA s K F G vs (bs.map D.bl) → vs = bs.map V.bl
  | _, [], h => by cases h; rfl
  | _, b :: bs, h => by
    have h : DnA s K F G _ (.bl b :: bs.map D.bl) := h
    cases h with
    | cons x y => cases x; rw [DnA.bls y, List.map_cons]
def gAll : List D → (D → Prop) → Prop
  | [.lst ds], Q => ∃ bs : List Bool, ds = bs.map D.bl ∧ Q (.bl (bs.all id))
  | _, _ => False
theorem ca_all (hc : X.calm = true) : CaOk X C .w (.builtin "all") gAll := by
  refine ⟨_, cr_all hc, fun σ H Pr F ρ m vs ds Q R S dv q k => ?_⟩
  have dv : DnA false X.K F (wv F H) vs ds := dv
  unfold gAll at q
  split at q
  · obtain ⟨bs, rfl, q⟩ := q
    cases dv with
    | cons h r =>
      cases r
      obtain ⟨a, us, rfl, hs, hl, hr⟩ := h.sqL (fun _ _ => wv_le)
      rw [hr.bls] at hs
      exact ⟨a, bs, rfl, hs, k _ _ (post_here S (.bl _) (fun _ h => nomatch h) q)⟩
  · exact q.elim
def IsF (K : PySem.W.Frag) (mg : Str → Option Value) (x T : Str) (b : Bool) : Prop := ∃ D, ∃ cv : Value, NsC K x D ∧ ExcC K D ∧ ((∃ a, mg T = some (.ref a) ∧ cv = .ref a) ∨ ∃ t, mg T = none ∧ bootBuiltins T = some (.type t) ∧ T ≠ "__name__" ∧ cv = .type t) ∧ PySem.W.kitOne K (.ref D) cv = some b
def rIsX (K : PySem.W.Frag) (D : Addr) (cv : Value) : List V → Hp → VK → Prop := fun xs H Q => ∃ (a : Addr) (c : V) (b : Bool), xs = [.ref a, c] ∧ H a = some (ExI D a) ∧ (∀ u, RelV c u → u = cv) ∧ PySem.W.kitOne K (.ref D) cv = some b ∧ Q (.bl b) H
theorem call_isX {D : Addr} {cv : Value} (c : ExcC X.K D) : CallR X (.builtin "isinstance") (rIsX X.K D cv) := by
  intro pins s σ H xs us Q I r h
  obtain ⟨a, cc, b, rfl, ha, hcv, e, q⟩ := h
  cases r with
  | cons rx rr =>
    cases rr with
    | cons rt rr =>
      cases rr
      cases rx
      have ec := hcv _ rt
      subst ec
      obtain ⟨at_, _, _⟩ := I.hok a _ ha
      exact PySem.W.kia_one (PySem.W.handS_kitx_exc c.hg c.hk c.hs c.hd c.ha c.hn c.ht c.hm) I.kIn at_ e (fun z => nomatch z) fun tk => ⟨.bl b, H, I.kept (t' := tk) fun _ _ z => z, rfl, q⟩
def dIsE {M : Type} (bs : List (Str × Bool)) (t : DT M) : DT M := fun ρ m Q Z => t ρ m (fun d m1 => match d with | .exc x => (match bs.lookup x with | some b => Q (.bl b) m1 | none => False) | _ => False) Z
theorem nsc_inj {K : PySem.W.Frag} {x : Str} {D D' : Addr} (h : NsC K x D) (h' : NsC K x D') : D = D' := by
  unfold NsC at h h'
  rw [h] at h'
  cases h'; rfl
theorem pe_cls {T : Str} {p : Pos} {cv : Value} (hc : (∃ a, X.mg T = some (.ref a) ∧ cv = .ref a) ∨ ∃ t, X.mg T = none ∧ bootBuiltins T = some (.type t) ∧ T ≠ "__name__" ∧ cv = .type t) (hg : Gl X T) (hdb : (T == ("__debug__" : Str)) = false) :
    ∃ c, (∀ u, RelV c u → u = cv) ∧ PE X (.Name T p) (tC c) := by
  rcases hc with ⟨a, h, rfl⟩ | ⟨t, h, hv, hn, rfl⟩
  · exact ⟨.ref a, fun u r => r, pe_glob hg h rfl hdb⟩
  · exact ⟨.ty t, fun u r => r, pe_bltn hg h hv (v := .ty t) rfl hn hdb⟩
theorem j_isE {T : Str} {p p2 : Pos} {bs : List (Str × Bool)} (hT : ∀ x b, (x, b) ∈ bs → IsF X.K X.mg x T b) (hne : bs ≠ []) (ha : J .w X C a ta) (mi : X.mg "isinstance" = none) (gi : Gl X "isinstance" := by rfl) (gx : Gl X T := by rfl) (hdb : (T == ("__debug__" : Str)) = false := by decide)
    (he : starEach [a, .Name T p2] X.env = (false, eval a X.env) :: starEach [.Name T p2] X.env := by rfl) (hpl : (backTo pos (starEach [.Name T p2] X.env)).any (·.1) = false := by rfl) :
    J .f X C (.Call (.Name "isinstance" p) [a, .Name T p2] [] pos) (dIsE bs ta) := by
  obtain ⟨te, pa, q⟩ := ha
  have one : ∃ cv, ((∃ a, X.mg T = some (.ref a) ∧ cv = Value.ref a) ∨ ∃ t, X.mg T = none ∧ bootBuiltins T = some (.type t) ∧ T ≠ "__name__" ∧ cv = .type t) := by
    cases bs with
    | nil => exact absurd rfl hne
    | cons xb r =>
      obtain ⟨D, cv, _, _, h, _⟩ := hT xb.1 xb.2 List.mem_cons_self
      exact ⟨cv, h⟩
  obtain ⟨cv, hcv⟩ := one
  obtain ⟨c, hc, pc⟩ := pe_cls (p := p2) hcv gx hdb
  have uniq : ∀ {cv'}, ((∃ a, X.mg T = some (.ref a) ∧ cv' = Value.ref a) ∨ ∃ t, X.mg T = none ∧ bootBuiltins T = some (.type t) ∧ T ≠ "__name__" ∧ cv' = .type t) → cv' = cv := fun h => by
    rcases h with ⟨a, h, rfl⟩ | ⟨t, h, hv, _, rfl⟩
    · rcases hcv with ⟨a', h', rfl⟩ | ⟨t', h', _⟩
      · rw [h] at h'; cases h'; rfl
      · rw [h] at h'; cases h'
    · rcases hcv with ⟨a', h', rfl⟩ | ⟨t', h', hv', _, rfl⟩
      · rw [h] at h'; cases h'
      · rw [hv] at hv'; cases hv'; rfl
  have rule : CallR X (.builtin "isinstance") (fun xs H Q => ∃ D, ExcC X.K D ∧ rIsX X.K D cv xs H Q) := fun pins s σ H xs us Q I r ⟨D, e, h⟩ => call_isX e pins s σ H xs us Q I r h
  refine ⟨_, pe_callB rule gi mi (by decide +kernel) (pa_cons pa (pa_cons pc pa_nil) he) (by decide) (by decide) he hpl, fun σ H Pr F ρ m Q Z R S E h k => ?_⟩
  refine q σ H Pr F ρ m _ Z _ S E h fun v H1 ⟨P1, F1, m1, d, S1, t1, dv, z⟩ => ?_
  have dv : Dn false X.K F1 (wv F1 H1) v d := dv
  try dsimp only at z
  split at z
  · split at z
    · rename_i b eb
      obtain ⟨D, cv', nD, eD, hcv', kD⟩ := hT _ b (PySem.mem_of_lookup eb)
      obtain rfl := uniq hcv'
      cases dv with
      | exc hx hn =>
        obtain rfl := nsc_inj nD hn
        exact ⟨D, eD, _, c, b, rfl, wv_le hx, hc, kD, k _ _ ((post_here S1 (.bl _) (fun _ h => nomatch h) z).te t1)⟩
    · exact z.elim
  · exact z.elim
def JE (X : Cx) (C : Cn) (st : List Stmt) (t : DS C.W.M) : Prop := ∃ ts, PSs X st ts ∧ ∀ σ H Pr F ρ m (E : DE C.W.M) D', SR X.K C Pr F σ ρ m H → Ex X C Pr F H σ ρ E.ex →
  (∀ σ' H' ρ' m' Pr' F', SR X.K C Pr' F' σ' ρ' m' H' → Tr Pr F H Pr' F' H' → E.nx ρ' m' → D'.nx σ' H') → t E ρ m → ts D' σ H
variable {t u : DS C.W.M} {body els : List Stmt}
theorem je_expr {c : Cl} {te : DT C.W.M} (h : J c X C e te) (hs : swapsWith e none pos.line X.env = pure false := by rfl) : JE X C [.Expr e pos] (dDrop te) := by
  obtain ⟨t1, p, q⟩ := h
  exact ⟨_, pss_one (ps_expr p hs), fun σ H Pr F ρ m E D' S x nx h => q σ H Pr F ρ m _ _ _ S x h fun v H1 ⟨P1, F1, m1, d, S1, t1, dv, z⟩ => nx _ _ _ _ _ _ S1 t1.toTr z⟩
theorem je_if {c : Expr} {tc : DTT C.W.M} (hc : JT X C c tc) (h1 : JE X C body t) (h2 : JE X C els u) : JE X C [.If c body els pos] (dIte tc t u) := by
  obtain ⟨tt, p, q⟩ := hc
  obtain ⟨t1, p1, q1⟩ := h1
  obtain ⟨t2, p2, q2⟩ := h2
  refine ⟨_, pss_one (ps_if p p1 p2), fun σ H Pr F ρ m E D' S x nx h => ?_⟩
  refine q σ H Pr F ρ m _ _ _ S x h fun b H1 ⟨P1, F1, m1, S1, t1, z⟩ => ?_
  cases b with
  | true => exact iteT (q1 σ H1 P1 F1 ρ m1 E D' S1 (x.te t1.toTr) (fun σ' H' ρ' m' P2 F2 S2 t2 => nx σ' H' ρ' m' P2 F2 S2 (t1.toTr.trans t2)) z)
  | false => exact iteF (q2 σ H1 P1 F1 ρ m1 E D' S1 (x.te t1.toTr) (fun σ' H' ρ' m' P2 F2 S2 t2 => nx σ' H' ρ' m' P2 F2 S2 (t1.toTr.trans t2)) z)
def ErrF (K : PySem.W.Frag) (mg : Str → Option Value) (x T : Str) : Prop := ∃ D DT, mg x = some (.ref D) ∧ NsC K x D ∧ mg T = some (.ref DT) ∧ PySem.W.exmOne K (.ref D) (.ref DT) = some true
def dTry {M : Type} (xs : List Str) (i j : Nat) (t : DS M) : DS M := fun E ρ m => t ⟨E.nx, fun _ _ => False, fun _ _ => False, fun _ _ => False, fun x m' => x ∈ xs ∧ E.nx (((ρ.set i .un).set j (.val (.exc x))).set i .un) m'⟩ ρ m
theorem js_try (i j : Nat) {T n y : Str} {xs : List Str} {np n2 yp ap pos' : Pos} (hN : X.N.Nodup) (hxs : ∀ x ∈ xs, ErrF X.K X.mg x T) (hne : xs ≠ [])
    (hb : ∀ (W : WX) (pn : List (Addr × Obj)) (xe : Value → Shared → Prop), Takes (X.tr pn xe) W → JE (X.tr pn xe) { C with wx := W } body t) (gT : Gl X T := by rfl)
    (hst : X.stack = X.env :: X.outer := by rfl) (hfm : X.env.frame = some X.env.locals := by rfl) (hex : X.ex = [] := by rfl) (hi : X.N[i]? = some n := by rfl) (hj : X.N[j]? = some y := by rfl) (hln : X.env.kindOf n = some .local := by rfl) (hly : X.env.kindOf y = some .local := by rfl) (hij : i ≠ j := by decide)
    (dT : (T == ("__debug__" : Str)) = false := by decide) (dn : (n == ("__debug__" : Str)) = false := by decide) (cn : (n == ("__classdict__" : Str)) = false := by decide)
    (hsw : ∀ a oe pn, swapsWith (.Name n n2) (some (.Name y yp)) ap.line (X.suite a ((a, oe) :: pn)).env = pure false := by intros; rfl) (hvn : ∀ a pn, Vis (X.suite a pn).env.scope n := by intros; exact Or.inl rfl) (hly2 : ∀ a pn, Loc (X.suite a pn).env.scope y := by intros; exact Or.inl rfl) (hfn : ∀ a pn, LocF (X.suite a pn) y := by intros; exact .inl rfl) :
    JS X C (.Try body [.ExceptHandler (some (.Name T np)) (some n) [.Assign [.Name y yp] (.Name n n2) ap] pos'] [] [] pos) (dTry xs i j t) := by
  have one : ∃ DT, X.mg T = some (.ref DT) := by
    cases xs with
    | nil => exact absurd rfl hne
    | cons x r =>
      obtain ⟨D, DT, _, _, h, _⟩ := hxs x List.mem_cons_self
      exact ⟨DT, h⟩
  obtain ⟨DT, hDT⟩ := one
  let tb : WX → TS := fun W D σ H => ∃ Pr F ρ m E, SR X.K C Pr F σ ρ m H ∧ Ex X { C with wx := W } Pr F H σ ρ E.ex ∧ (∀ σ' H' ρ' m' Pr' F', SR X.K C Pr' F' σ' ρ' m' H' → Tr Pr F H Pr' F' H' → E.nx ρ' m' → D.nx σ' H') ∧ t E ρ m
  refine ⟨_, ps_hold (c := .ref DT) (tb := tb) (Wout := fun _ _ _ _ => False) hst hfm hex hN hi hj hln hly hij ⟨gT, dT, .inl hDT⟩ takes0 (fun W pn xe tk _ => ?_) (fun a oe pn => pss_cons (ps_set hN hj (hly2 a _) (pe_var hi (hvn a _) dn cn) (hsw a oe pn) (hfn a _)) pss_nil), fun σ H Pr F ρ m E D' S l h => ?_⟩
  · obtain ⟨ts, p, q⟩ := hb W pn xe tk
    refine ⟨fun pins s σ H D I ⟨Pr, F, ρ, m, E, S, ex, nx, h⟩ => p.run pins s σ H D I (q σ H Pr F ρ m E D ⟨S.keep, S.pre, S.new, S.prs, S.prn, S.prf, S.rz, S.len, S.slot, S.dist⟩ (fun x cls P1 F1 m1 H1 e S1 t1 z => ex x cls P1 F1 m1 H1 e ⟨S1.keep, S1.pre, S1.new, S1.prs, S1.prn, S1.prf, S1.rz, S1.len, S1.slot, S1.dist⟩ t1 z)
      (fun σ' H' ρ' m' P1 F1 S1 t1 z => nx σ' H' ρ' m' P1 F1 ⟨S1.keep, S1.pre, S1.new, S1.prs, S1.prn, S1.prf, S1.rz, S1.len, S1.slot, S1.dist⟩ t1 z) h)⟩
  · refine ⟨Pr, F, ρ, m, ⟨E.nx, fun _ _ => False, fun _ _ => False, fun _ _ => False, fun x m' => x ∈ xs ∧ E.nx (((ρ.set i .un).set j (.val (.exc x))).set i .un) m'⟩, S, fun x cls P1 F1 m1 H1 hx S1 t1 z => ?_, fun σ' H' ρ' m' P1 F1 S1 t1 z => l.nx _ _ _ _ _ _ S1 t1 z, h⟩
    have S1 : SR X.K C P1 F1 σ ρ m1 H1 := ⟨S1.keep, S1.pre, S1.new, S1.prs, S1.prn, S1.prf, S1.rz, S1.len, S1.slot, S1.dist⟩
    obtain ⟨D, DT', e1, e2, e3, e4⟩ := hxs x z.1
    rw [hDT] at e3; cases e3
    rw [e1] at hx; cases hx
    refine ⟨true, e4, fun _ => ⟨rfl, D, rfl, fun a ha => ?_⟩, fun h => nomatch h⟩
    obtain ⟨S2, t2⟩ := S1.new1 (o := ExI D a) ha
    have dv : Dn true X.K F1 (sv C.H0 P1 (upd H1 a (ExI D a))) (.ref a) (.exc x) := .exc (vw_iff.mpr ⟨upd_same, .inl trivial⟩) e2
    exact l.nx _ _ _ _ _ _ (((S2.drop i _).set j dv).drop i none) (t1.trans t2.toTr) z.2
end
end RR
namespace RR
open PySem PySem.Spec PyProof.Rows L2
section
variable {K : PySem.W.Frag} {mg : Str → Option Value} {T x : Str}
theorem isf_nil : ∀ y c, (y, c) ∈ ([] : List (Str × Bool)) → IsF K mg y T c := fun _ _ h => nomatch h
theorem isf_cons {b : Bool} {bs : List (Str × Bool)} (h : IsF K mg x T b) (r : ∀ y c, (y, c) ∈ bs → IsF K mg y T c) : ∀ y c, (y, c) ∈ (x, b) :: bs → IsF K mg y T c := fun y c m => by
  rcases List.mem_cons.mp m with e | e
  · cases e; exact h
  · exact r y c e
theorem err_nil : ∀ y ∈ ([] : List Str), ErrF K mg y T := fun _ h => nomatch h
theorem err_cons {xs : List Str} (h : ErrF K mg x T) (r : ∀ y ∈ xs, ErrF K mg y T) : ∀ y ∈ x :: xs, ErrF K mg y T := fun y m => by
  rcases List.mem_cons.mp m with e | e
  · rw [e]; exact h
  · exact r y e
end
end RR
namespace RR
open PySem PySem.Spec PyProof.Rows L2
section
variable {X : Cx} {C : Cn} {pos : Pos}
def dPar3 {M : Type} (i j l : Nat) (t : DTA M) : DS M := fun E ρ m => t ρ m (fun ds m' => match ds with | [x, y, z] => E.nx (((ρ.set i (.val x)).set j (.val y)).set l (.val z)) m' | _ => False) E.ex
end
end RR
namespace RR
open PySem PySem.Spec PyProof.Rows L2
section
variable {X : Cx} {C : Cn} {e : Expr} {es : List Expr} {pos : Pos} {k : Nat}
end
end RR
namespace RR
open PySem PySem.Spec PyProof.Rows L2 HT
section
variable {prog : Program} {w : World} {A : Around} {E : Value → Shared → Prop} {s : Shared}
theorem adjust_rev (n : Nat) : Builtin.Slice.sliceAdjust none none (-1) (n : Int) = ((n : Int) - 1, -1) := by
  unfold Builtin.Slice.sliceAdjust
  have h1 : ((-1 : Int) < 0) := by decide
  simp only [h1, if_true]
theorem places_rev (n : Nat) : Builtin.Slice.slicePlaces ((n : Int) - 1) (-1) (-1) = n := by
  unfold Builtin.Slice.slicePlaces
  have h1 : ¬ ((-1 : Int) > 0) := by decide
  have h2 : (- (-1) : Int) = 1 := by decide
  simp only [h1, if_false, h2, Int.ediv_one]
  split <;> omega
theorem pick_rev (xs : Array Value) : ((List.range xs.size).filterMap fun (m : Nat) => xs[(((xs.size : Int) - 1) + (m : Int) * (-1)).toNat]?).toArray = xs.toList.reverse.toArray := by
  have e : (List.range xs.size).map (fun (m : Nat) => (((xs.size : Int) - 1) + (m : Int) * (-1)).toNat) = (List.range xs.size).map fun k => xs.size - 1 - k := by
    refine List.map_congr_left fun k hk => ?_
    have := List.mem_range.mp hk
    omega
  have : (List.range xs.size).filterMap (fun (m : Nat) => xs[(((xs.size : Int) - 1) + (m : Int) * (-1)).toNat]?) = ((List.range xs.size).map (fun (m : Nat) => (((xs.size : Int) - 1) + (m : Int) * (-1)).toNat)).filterMap (xs[·]?) := by
    rw [List.filterMap_map]; rfl
  rw [this, e, PySem.W.krv_range, List.filterMap_reverse, PySem.W.krv_all]
theorem sliceApplied_rev {sl : Addr} {vl vu vs : Value} {n : Nat} {Q : Int × Int × Nat → Shared → Prop} (hs : s.heap.IsSliceOf sl vl vu vs) (pl : IsPart vl none) (pu : IsPart vu none) (ps : IsPart vs (some (-1)))
    (h : Q ((n : Int) - 1, -1, n) s) : wpAny (model prog w) A (Builtin.Slice.sliceApplied (.ref sl) (pure (n : Int))) Q E s := by
  obtain ⟨os, hos, hcs, hds⟩ := id hs
  unfold Builtin.Slice.sliceApplied Builtin.Slice.sliceFields
  refine wpAny_bind (wpAny_bind (wpAny_field hos hds (x := vl) rfl (wpAny_bind (wpAny_field hos hds (x := vu) rfl (wpAny_bind (wpAny_field hos hds (x := vs) rfl (wpAny_pure ?_)))))))
  refine wpAny_bind (slicePart_ ps ?_)
  show wpAny _ _ (if ((-1 : Int) == 0) = true then _ else _) _ _ s
  rw [if_neg (by decide)]
  refine wpAny_bind (slicePart_ pl (wpAny_bind (slicePart_ pu (wpAny_bind (wpAny_pure ?_)))))
  show wpAny _ _ (match Builtin.Slice.sliceAdjust none none (-1) (n : Int) with | (lo, hi) => pure (lo, (-1 : Int), Builtin.Slice.slicePlaces lo hi (-1))) _ _ s
  rw [adjust_rev n]
  show wpAny _ _ (pure ((n : Int) - 1, (-1 : Int), Builtin.Slice.slicePlaces ((n : Int) - 1) (-1) (-1))) _ _ s
  rw [places_rev]
  exact wpAny_pure h
theorem getItem_tuple_rev {t sl : Addr} {items : Array Value} {vl vu vs : Value} {Q : Value → Shared → Prop} (ht : IsTup s.heap t items) (hs : s.heap.IsSliceOf sl vl vu vs) (pl : IsPart vl none) (pu : IsPart vu none) (ps : IsPart vs (some (-1)))
    (h : Q (.ref s.heap.objs.size) { s with heap := s.heap.push { cls := .type "tuple", data := .seq items.toList.reverse.toArray } })
    (hsz : items.size ≤ sizeLine) : wpAny (model prog w) A (getItem (.ref t) (.ref sl)) Q E s := by
  have htake : sizeOk (.seq items.toList.reverse.toArray) := by
    show items.toList.reverse.toArray.size ≤ sizeLine
    rw [List.size_toArray, List.length_reverse, Array.length_toList]
    omega
  obtain ⟨os, hos, hcs, hds⟩ := id hs
  have hTs : s.TypeIs (.ref sl) "slice" := ⟨os, hos, hcs⟩
  unfold getItem
  try with_reducible refine wpAny_holding ?_
  first | refine wpAny_bind (wpAny_pure ?_) | skip
  refine wpAny_bind (wpAny_sequenceKey ht.typeIs (by decide) ?_)
  refine wpAny_bind (wpAny_callSpecial?_slot (name := Str.ofString "__getitem__") ht.typeIs PyProof.Rows.slot_tuple_getitem
    (wpAny_call_entry PyProof.Rows.slot_tuple_getitem ht.typeIs entry_tuple_getitem ?_ (args_tuple_getitem _ _)))
  show wpAny _ _ (Builtin.Tuple.tupleItemsOf (.ref t) >>= _) _ _ s
  refine wpAny_bind (tupleItemsOf_ ht ?_)
  refine wpAny_bind (wpAny_typeOf hTs ?_)
  rw [if_pos (by decide)]
  refine wpAny_bind (sliceApplied_rev hs pl pu ps ?_)
  have hno : ¬ (((items.size : Int) - 1 == 0 && (-1 : Int) == 1 && items.size == items.size) = true) := by
    rw [show ((-1 : Int) == 1) = false by decide, Bool.and_false, Bool.false_and]
    exact Bool.false_ne_true
  show wpAny _ _ (if ((items.size : Int) - 1 == 0 && (-1 : Int) == 1 && items.size == items.size) = true then _ else _) _ _ s
  rw [if_neg hno, pick_rev]
  first
    | exact wpAny_bind (m := Builtin.Tuple.tupleExact _) (wpAny_newObj_type (wpAny_pure ⟨_, rfl, wpAny_pure h⟩) htake)
    | exact wpAny_bind (m := Builtin.Tuple.tupleExact _) (wpAny_newObj_type (wpAny_bind (wpAny_pure (wpAny_pure ⟨_, rfl, wpAny_pure h⟩))) htake)
    | exact wpAny_bind (wpAny_bind (m := Builtin.Tuple.tupleExact _) (wpAny_newObj_type (wpAny_pure (wpAny_pure ⟨_, rfl, wpAny_pure h⟩)) htake))
    | exact wpAny_bind (wpAny_bind (m := Builtin.Tuple.tupleExact _) (wpAny_newObj_type (wpAny_pure ⟨_, rfl, wpAny_pure h⟩) htake))
end
section
variable {X : Cx}
def tRevA (K : PySem.W.Frag) (te : TE) : TE := fun σ H Q => te σ H fun x H1 => (∃ a xs, x = .ref a ∧ SqL K H1 a xs ∧ ∀ p, H1 p = none → Q (.ref p) (upd H1 p (.lst xs.reverse))) ∨ (∃ a xs, x = .ref a ∧ SqT K H1 a xs ∧ ∀ p, H1 p = none → Q (.ref p) (upd H1 p (.tup xs.reverse)))
theorem pe_revA {e : Expr} {te : TE} {k : Nat} {p1 p2 p3 pos : Pos} (he : PE X e te) : PE X (.Subscript e (.Slice none none (some (.UnaryOp .USub (.Constant (.int 1) k p1) p2)) p3) pos) (tRevA X.K te) := by
  refine ⟨fun pins s σ H Q I h => ?_⟩
  refine Subscript_ (thn (he.run pins s σ H _ I h) fun v s1 ⟨x, H1, I1, r1, q1⟩ => ?_)
  have hst : PO X (some (.UnaryOp .USub (.Constant (.int 1) k p1) p2)) (tPart (tUn (rU fun i => .int (-i)) (tC (.int 1)))) := po_some (pe_un un_neg pe_int)
  refine wpAny_Slice (thn (po_none.run pins s1 σ H1 (fun o H2 => o = none ∧ H2 = H1) I1 ⟨rfl, rfl⟩) fun vl s2 ⟨l, H2, I2, pl, el, e2⟩ => ?_)
  subst el e2
  refine thn (po_none.run pins s2 σ H2 (fun o H3 => o = none ∧ H3 = H2) I2 ⟨rfl, rfl⟩) fun vu s3 ⟨u, H3, I3, pu, eu, e3⟩ => ?_
  subst eu e3
  refine thn (hst.run pins s3 σ H3 (fun o H4 => o = some (-1) ∧ H4 = H3) I3 ⟨1, rfl, -1, rfl, rfl, rfl⟩) fun vs s4 ⟨o, H4, I4, ps, eo, e4⟩ => ?_
  subst eo e4
  have I5 : Inv X pins σ H4 { s4 with heap := s4.heap.push { cls := .type "slice", data := .fields #[vl, vu, vs] } } := I4.kept (t' := s4.toks) fun b ob q => Heap.get?_push_of_some _ q
  rcases q1 with ⟨a, xs, ex, hx, q⟩ | ⟨a, xs, ex, hx, q⟩
  · subst ex
    cases r1
    obtain ⟨its, r, ht, hz⟩ := I5.list hx
    have hlen := r.length
    show wpAny (model X.prog X.w) X.A (subscriptTail e (.Slice none none (some (.UnaryOp .USub (.Constant (.int 1) k p1) p2)) p3) (.ref a) (.ref s4.heap.objs.size)) (EP X pins σ Q) X.xe { s4 with heap := s4.heap.push { cls := .type "slice", data := .fields #[vl, vu, vs] } }
    refine tail_any (ops := [.ref a, .ref s4.heap.objs.size]) ht.isList.typeIs (PySem.slot_list_getitem.lookup) ?_ (by with_unfolding_all rfl)
    refine wpAny_getItem_list_slice ht.isList (Heap.IsSliceOf.new _ vl vu vs) pl pu ps (by decide) ?_ (by rw [List.size_toArray]; omega)
    rw [PySem.W.krv_pick]
    refine ⟨.ref _, _, I5.laid (t' := s4.toks) (o := .lst xs.reverse) (fun b ob q => Heap.get?_push_of_some _ q) (Nat.le_refl _) ?_, rfl, q _ (I5.hok.fresh (Nat.le_refl _))⟩
    exact ⟨by rw [List.length_reverse]; exact hz, _, 0, r.reverse, Heap.get?_push_size _ rfl⟩
  · subst ex
    cases r1
    obtain ⟨its, r, ht, hz⟩ := I5.tuple hx
    have hlen := r.length
    show wpAny (model X.prog X.w) X.A (subscriptTail e (.Slice none none (some (.UnaryOp .USub (.Constant (.int 1) k p1) p2)) p3) (.ref a) (.ref s4.heap.objs.size)) (EP X pins σ Q) X.xe { s4 with heap := s4.heap.push { cls := .type "slice", data := .fields #[vl, vu, vs] } }
    refine tail_any (ops := [.ref a, .ref s4.heap.objs.size]) ht.typeIs (PyProof.Rows.slot_tuple_getitem.lookup) ?_ (by with_unfolding_all rfl)
    refine getItem_tuple_rev ht (Heap.IsSliceOf.new _ vl vu vs) pl pu ps ?_ (by rw [List.size_toArray]; omega)
    refine ⟨.ref _, _, I5.laid (t' := s4.toks) (o := .tup xs.reverse) (fun b ob q => Heap.get?_push_of_some _ q) (Nat.le_refl _) ?_, rfl, q _ (I5.hok.fresh (Nat.le_refl _))⟩
    exact ⟨by rw [List.length_reverse]; exact hz, _, r.reverse, IsTup.new _ _⟩
end
theorem dna_rev {s : Bool} {K : PySem.W.Frag} {F : List Addr} {G : Hp} : ∀ {vs : List V} {ds : List D} {vs' : List V} {ds' : List D}, DnA s K F G vs ds → DnA s K F G vs' ds' → DnA s K F G (vs.reverse ++ vs') (ds.reverse ++ ds')
  | _, _, _, _, .nil, h => h
  | _, _, _, _, .cons h r, h' => by
    rw [List.reverse_cons, List.reverse_cons, List.append_assoc, List.append_assoc]
    exact dna_rev r (.cons h h')
theorem nls_rev {ds : List D} (h : D.nls ds = true) : D.nls ds.reverse = true := nls_sub h fun d hd => List.mem_reverse.mp hd
section
variable {X : Cx} {C : Cn} {e : Expr}
def dRvs {M : Type} (t : DT M) : DT M := fun ρ m Q Z => t ρ m (fun x m1 => match x with
  | .lst ds => D.nls ds = true ∧ Q (.lst ds.reverse) m1
  | .tup ds => D.nls ds = true ∧ Q (.tup ds.reverse) m1
  | _ => False) Z
theorem j_rvs {t : DT C.W.M} {k : Nat} {p1 p2 p3 pos : Pos} (ha : J .w X C e t) : J .f X C (.Subscript e (.Slice none none (some (.UnaryOp .USub (.Constant (.int 1) k p1) p2)) p3) pos) (dRvs t) := by
  obtain ⟨te, p, q1⟩ := ha
  refine ⟨_, pe_revA p, fun σ H Pr F ρ m Q Z R S E h k => ?_⟩
  refine q1 σ H Pr F ρ m _ Z _ S E h fun v H1 ⟨P1, F1, m1, d, S1, t1, dv, z⟩ => ?_
  try dsimp only at z
  split at z
  · obtain ⟨a, us, rfl, hs, hl, hd⟩ := dv.sqL (fun _ _ => wv_le)
    have hr := dna_rev hd .nil
    rw [List.append_nil, List.append_nil] at hr
    exact .inl ⟨a, us, rfl, hs, fun p hp => k _ _ ((post_new S1 hp (hr |>.up (nls_rev z.1)) z.2).te t1)⟩
  · obtain ⟨a, us, rfl, hs, hl, hd⟩ := dv.sqT (fun _ _ => wv_le)
    have hr := dna_rev hd .nil
    rw [List.append_nil, List.append_nil] at hr
    exact .inr ⟨a, us, rfl, hs, fun p hp => k _ _ ((post_newT S1 hp (hr |>.up (nls_rev z.1)) z.2).te t1)⟩
  · exact z.elim
end
end RR
namespace RR
open PySem PySem.Spec PyProof.Rows L2
section
variable {X : Cx} {C : Cn} {e f : Expr} {pos : Pos}
end
section
variable {M : Type} {ρ : En} {m : M} {Q : D → M → Prop} {Z : Str → M → Prop} {nx : En → M → Prop} {rt : D → M → Prop} {bk ct : En → M → Prop} {ex : Str → M → Prop} {ds es : List D}
theorem v_appL {i : Nat} {te : DT M} (e : ρ[i]? = some (.own ds)) (h : te ρ m (fun d m' => ds.length < sizeLine ∧ nx (ρ.set i (.own (ds ++ [d]))) m') ex) : dAppL i te ⟨nx, rt, bk, ct, ex⟩ ρ m := by
  unfold dAppL; rw [e]; exact h
end
end RR
namespace RR.ZM
open PySem PySem.Spec PyProof.Rows L2 RZ
section
variable {prog : Program} {w : World} {A : Around} {E : Value → Shared → Prop} {s : Shared} {z TI TO i1 i2 l1 l2 : Addr} {k1 k2 : Nat} {xs ys : Array Value} {x y a b : Value}
structure Wk2 (h : Heap) (z TI TO i1 i2 l1 l2 : Addr) (k1 k2 : Nat) (xs ys : Array Value) (a b : Value) : Prop where
  z0 : IsZip h z TI TO .none
  ti : IsPair h TI (.ref i1) (.ref i2)
  tg : IsPair h TO a b
  j1 : h.IsListIter i1 l1 k1
  j2 : h.IsTupleIter i2 l2 k2
  s1 : h.IsList l1 xs
  s2 : h.IsTuple l2 ys
def Stay (h h' : Heap) (z TO i1 i2 : Addr) : Prop := ∀ c o, c ≠ z → c ≠ TO → c ≠ i1 → c ≠ i2 → h.get? c = some o → h'.get? c = some o
theorem one_item {Q : Value → Shared → Prop} (D : ZipApart z TI TO i1 i2 l1 l2) (S : Wk2 s.heap z TI TO i1 i2 l1 l2 k1 k2 xs ys a b) (hx : xs[k1]? = some x) (hy : ys[k2]? = some y)
    (q : ∀ h', IsZip h' z TI TO (rawInt s.heap.objs.size) → IsPair h' TO x y → h'.IsListIter i1 l1 (k1 + 1) → h'.IsTupleIter i2 l2 (k2 + 1) → IsPair h' s.heap.objs.size x y → h'.objs.size = s.heap.objs.size + 1 → Stay s.heap h' z TO i1 i2 → Q (.ref s.heap.objs.size) { s with heap := h' }) :
    wpAny (model prog w) A (Builtin.«zip.__next__» ⟨[.ref z], []⟩) (fun r s' => ∃ v, r = .done (.ret v) ∧ Q v s') E s := by
  obtain ⟨z0, ti, tg, j1, j2, t1, t2⟩ := S
  (show wpAny _ _ (field (.ref _) 2 >>= _) _ _ _; refine wpAny_bind (wpAny_field z0 rfl (x := (.bool false)) rfl ?_))
  (show wpAny _ _ (field (.ref _) 3 >>= _) _ _ _; refine wpAny_bind (wpAny_field z0 rfl (x := (.ref TI)) rfl ?_))
  refine wpAny_bind (wpAny_seqItems ti rfl ?_)
  (show wpAny _ _ (Builtin.SmallTypes.ownedTupleIsFree (.ref z) >>= _) _ _ _); refine wpAny_bind ?_; unfold Builtin.SmallTypes.ownedTupleIsFree
  refine wpAny_bind (wpAny_field z0 rfl (x := .none) rfl (wpAny_pure ?_)); simp only [if_true]; refine wpAny_bind (wpAny_rule ?_); refine wpAny_bind (wpAny_field z0 rfl (x := .ref TO) rfl ?_)
  refine wpAny_bind (wpAny_setField_rec z0 (by simp) fun ha za ea => ?_); replace za : IsZip ha z TI TO .ellipsis := za
  refine wpAny_bind ?_; simp only [List.zipIdx_cons, List.zipIdx_nil, List.forIn_cons, List.forIn_nil]
  refine wpAny_bind (wpAny_bind (wpAny_onRaise ?_)); show wpAny _ _ (Builtin.SmallTypes.nextOf (.ref i1) >>= _) _ _ _
  refine wpAny_bind (wpAny_nextOf_list_item (j1.extBut ea.extBut D.i1z) (t1.extBut ea.extBut D.l1z) hx fun hb jb eb => wpAny_pure ?_)
  have pb : IsPair hb TO a b := eb.extBut _ _ D.TOi1 (ea.extBut _ _ D.TOz tg)
  refine wpAny_bind (wpAny_seqItems pb rfl ?_); refine wpAny_bind (wpAny_updateSeq_pair pb fun hc pc ec => ?_); replace pc : IsPair hc TO x b := pc
  refine wpAny_bind (wpAny_letGo (wpAny_pure ?_)); refine wpAny_bind (wpAny_bind (wpAny_onRaise ?_)); show wpAny _ _ (Builtin.SmallTypes.nextOf (.ref i2) >>= _) _ _ _
  have j2c : hc.IsTupleIter i2 l2 k2 := ((j2.extBut ea.extBut D.i2z).extBut eb.extBut D.i12.symm).extBut ec.extBut D.TOi2.symm
  have t2c : hc.IsTuple l2 ys := ((t2.extBut ea.extBut D.l2z).extBut eb.extBut D.l2i1).extBut ec.extBut D.l2TO
  refine wpAny_bind (nextOf_tuple_item j2c t2c hy fun hd jd ed => wpAny_pure ?_)
  have pd : IsPair hd TO x b := ed.extBut _ _ D.TOi2 pc
  refine wpAny_bind (wpAny_seqItems pd rfl ?_); refine wpAny_bind (wpAny_updateSeq_pair pd fun he pe ee => ?_); replace pe : IsPair he TO x y := pe
  refine wpAny_bind (wpAny_letGo (wpAny_pure (wpAny_pure ?_))); refine wpAny_bind (wpAny_seqItems pe rfl ?_); refine wpAny_bind (wpAny_newTuple ?_)
  have sz : he.objs.size = s.heap.objs.size := by rw [ee.1, ed.1, ec.1, eb.1, ea.1]
  have ze : IsZip he z TI TO .ellipsis := ee.extBut _ _ D.TOz.symm (ed.extBut _ _ D.i2z.symm (ec.extBut _ _ D.TOz.symm (eb.extBut _ _ D.i1z.symm za)))
  have st : Stay s.heap he z TO i1 i2 := fun c o c1 c2 c3 c4 e => ee.extBut _ _ c2 (ed.extBut _ _ c4 (ec.extBut _ _ c2 (eb.extBut _ _ c3 (ea.extBut _ _ c1 e))))
  have f1 : he.IsListIter i1 l1 (k1 + 1) := ((jb.extBut ec.extBut D.TOi1.symm).extBut ed.extBut D.i12).extBut ee.extBut D.TOi1.symm
  have f2 : he.IsTupleIter i2 l2 (k2 + 1) := jd.extBut ee.extBut D.TOi2.symm
  have zl : z < he.objs.size := Heap.lt_size ze
  (show wpAny _ _ (Builtin.SmallTypes.ownedTupleHandOut (.ref z) (.ref he.objs.size) >>= _) _ _ _); refine wpAny_bind ?_; unfold Builtin.SmallTypes.ownedTupleHandOut
  have zf : IsZip (he.push { cls := .type "tuple", data := .seq #[x, y] }) z TI TO .ellipsis := Heap.get?_push_of_some _ ze
  refine wpAny_bind (wpAny_setField_rec zf (by simp) fun hg zg eg => ?_); replace zg : IsZip hg z TI TO (rawInt he.objs.size) := zg
  refine wpAny_setField_rec zg (by simp) fun hi zi ei => ?_; replace zi : IsZip hi z TI TO (rawInt he.objs.size) := zi
  have go : ∀ c o, c ≠ z → he.get? c = some o → hi.get? c = some o := fun c o c1 e => ei.extBut _ _ c1 (eg.extBut _ _ c1 (Heap.get?_push_of_some _ e))
  have np : IsPair hi he.objs.size x y := ei.extBut _ _ (Nat.ne_of_gt zl) (eg.extBut _ _ (Nat.ne_of_gt zl) (Heap.get?_push_size _ rfl))
  have ns : hi.objs.size = he.objs.size + 1 := by rw [ei.1, eg.1, Heap.size_push]
  rw [sz] at zi np ns
  refine wpAny_pure ⟨_, rfl, ?_⟩
  show Q (.ref he.objs.size) _
  rw [sz]
  exact q hi zi (go _ _ D.TOz pe) (f1.at fun o e => go _ o D.i1z e) (f2.at fun o e => go _ o D.i2z e) np ns fun c o c1 c2 c3 c4 e => go c o c1 (st c o c1 c2 c3 c4 e)
theorem one_end {Q : Fin → Shared → Prop} (hh : A.handled = none) (D : ZipApart z TI TO i1 i2 l1 l2) (S : Wk2 s.heap z TI TO i1 i2 l1 l2 k1 k2 xs ys a b) (en : xs[k1]? = none ∨ ys[k2]? = none)
    (q : ∀ h' e, Stay s.heap h' z TO i1 i2 → (∃ o, h'.get? e = some o ∧ o.cls = .type "StopIteration") → E (.ref e) { s with heap := h' }) :
    wpAny (model prog w) A (Builtin.«zip.__next__» ⟨[.ref z], []⟩) Q E s := by
  obtain ⟨z0, ti, tg, j1, j2, t1, t2⟩ := S
  (show wpAny _ _ (field (.ref _) 2 >>= _) _ _ _; refine wpAny_bind (wpAny_field z0 rfl (x := (.bool false)) rfl ?_))
  (show wpAny _ _ (field (.ref _) 3 >>= _) _ _ _; refine wpAny_bind (wpAny_field z0 rfl (x := (.ref TI)) rfl ?_))
  refine wpAny_bind (wpAny_seqItems ti rfl ?_)
  (show wpAny _ _ (Builtin.SmallTypes.ownedTupleIsFree (.ref z) >>= _) _ _ _); refine wpAny_bind ?_; unfold Builtin.SmallTypes.ownedTupleIsFree
  refine wpAny_bind (wpAny_field z0 rfl (x := .none) rfl (wpAny_pure ?_)); simp only [if_true]; refine wpAny_bind (wpAny_rule ?_); refine wpAny_bind (wpAny_field z0 rfl (x := .ref TO) rfl ?_)
  refine wpAny_bind (wpAny_setField_rec z0 (by simp) fun ha za ea => ?_); replace za : IsZip ha z TI TO .ellipsis := za
  refine wpAny_bind ?_; simp only [List.zipIdx_cons, List.zipIdx_nil, List.forIn_cons, List.forIn_nil]
  refine wpAny_bind (wpAny_bind (wpAny_onRaise ?_)); show wpAny _ _ (Builtin.SmallTypes.nextOf (.ref i1) >>= _) _ _ _
  cases hx : xs[k1]? with
  | none =>
    refine wpAny_bind (wpAny_nextOf_list_end hh (j1.extBut ea.extBut D.i1z) (t1.extBut ea.extBut D.l1z) hx fun hb e eb he => ?_)
    obtain ⟨oe, oh, oc⟩ := he
    have zb : IsZip hb z TI TO .ellipsis := eb _ _ D.i1z.symm za
    have ne : e ≠ z := fun t => by subst t; rw [zb] at oh; cases oh; simp at oc
    exact wpAny_setField_rec zb (by simp) fun hc _ ec => q hc e (fun c o c1 _ c3 _ t => ec.extBut _ _ c1 (eb _ _ c3 (ea.extBut _ _ c1 t))) ⟨oe, ec.extBut _ _ ne oh, oc⟩
  | some x =>
    have hy : ys[k2]? = none := en.resolve_left fun t => by rw [hx] at t; cases t
    refine wpAny_bind (wpAny_nextOf_list_item (j1.extBut ea.extBut D.i1z) (t1.extBut ea.extBut D.l1z) hx fun hb jb eb => wpAny_pure ?_)
    have pb : IsPair hb TO a b := eb.extBut _ _ D.TOi1 (ea.extBut _ _ D.TOz tg)
    refine wpAny_bind (wpAny_seqItems pb rfl ?_); refine wpAny_bind (wpAny_updateSeq_pair pb fun hc pc ec => ?_)
    refine wpAny_bind (wpAny_letGo (wpAny_pure ?_)); refine wpAny_bind (wpAny_bind (wpAny_onRaise ?_)); show wpAny _ _ (Builtin.SmallTypes.nextOf (.ref i2) >>= _) _ _ _
    have j2c : hc.IsTupleIter i2 l2 k2 := ((j2.extBut ea.extBut D.i2z).extBut eb.extBut D.i12.symm).extBut ec.extBut D.TOi2.symm
    have t2c : hc.IsTuple l2 ys := ((t2.extBut ea.extBut D.l2z).extBut eb.extBut D.l2i1).extBut ec.extBut D.l2TO
    refine wpAny_bind (nextOf_tuple_end hh j2c t2c hy fun hd e ed he => ?_)
    obtain ⟨oe, oh, oc⟩ := he
    have zd : IsZip hd z TI TO .ellipsis := ed _ _ D.i2z.symm (ec.extBut _ _ D.TOz.symm (eb.extBut _ _ D.i1z.symm za))
    have ne : e ≠ z := fun t => by subst t; rw [zd] at oh; cases oh; simp at oc
    exact wpAny_setField_rec zd (by simp) fun hg _ eg => q hg e (fun c o c1 c2 c3 c4 t => eg.extBut _ _ c1 (ed _ _ c4 (ec.extBut _ _ c2 (eb.extBut _ _ c3 (ea.extBut _ _ c1 t))))) ⟨oe, eg.extBut _ _ ne oh, oc⟩
theorem next_item {Q : Option Value → Shared → Prop} (D : ZipApart z TI TO i1 i2 l1 l2) (S : Wk2 s.heap z TI TO i1 i2 l1 l2 k1 k2 xs ys a b) (hx : xs[k1]? = some x) (hy : ys[k2]? = some y)
    (q : ∀ h', IsZip h' z TI TO (rawInt s.heap.objs.size) → IsPair h' TO x y → h'.IsListIter i1 l1 (k1 + 1) → h'.IsTupleIter i2 l2 (k2 + 1) → IsPair h' s.heap.objs.size x y → h'.objs.size = s.heap.objs.size + 1 → Stay s.heap h' z TO i1 i2 → Q (some (.ref s.heap.objs.size)) { s with heap := h' }) :
    wpAny (model prog w) A (pyNext (.ref z)) Q E s := by
  have ty : s.TypeIs (.ref z) "zip" := ⟨_, S.z0, rfl⟩
  unfold pyNext
  refine wpAny_bind (wpAny_attempt (wpAny_callSpecial?_slot (name := Str.ofString "__next__") ty F.slot_zip_next (wpAny_call_entry F.slot_zip_next ty F.entry_zip_next ?_ (F.args_zip_next_1 _))))
  exact one_item D S hx hy fun h' p1 p2 p3 p4 p5 p6 p7 => wpAny_pure (q h' p1 p2 p3 p4 p5 p6 p7)
theorem next_end {Q : Option Value → Shared → Prop} (hh : A.handled = none) (D : ZipApart z TI TO i1 i2 l1 l2) (S : Wk2 s.heap z TI TO i1 i2 l1 l2 k1 k2 xs ys a b) (en : xs[k1]? = none ∨ ys[k2]? = none)
    (q : ∀ h', Stay s.heap h' z TO i1 i2 → Q none { s with heap := h' }) : wpAny (model prog w) A (pyNext (.ref z)) Q E s := by
  have ty : s.TypeIs (.ref z) "zip" := ⟨_, S.z0, rfl⟩
  unfold pyNext
  refine wpAny_bind (wpAny_attempt (wpAny_callSpecial?_slot (name := Str.ofString "__next__") ty F.slot_zip_next (wpAny_call_entry F.slot_zip_next ty F.entry_zip_next ?_ (F.args_zip_next_1 _))))
  refine one_end hh D S en fun h' e st oe => ?_
  obtain ⟨o, oh, oc⟩ := oe
  refine wpAny_bind (wpAny_isInstance (T := "StopIteration") (b := true) ⟨o, oh, oc⟩ isSubtype_stop ?_)
  exact wpAny_pure (q _ st)
end
abbrev y1 (h : Heap) (l1 : Addr) : Heap := h.push { cls := .type "list_iterator", data := .fields #[.ref l1, .int 0 0] }
abbrev y2 (h : Heap) (l1 l2 : Addr) : Heap := (y1 h l1).push { cls := .type "tuple_iterator", data := .fields #[.ref l2, .int 0 0] }
abbrev y3 (h : Heap) (l1 l2 : Addr) : Heap := (y2 h l1 l2).push { cls := .type "tuple", data := .seq #[.ref h.objs.size, .ref (y1 h l1).objs.size] }
abbrev y4 (h : Heap) (l1 l2 : Addr) : Heap := (y3 h l1 l2).push { cls := .type "tuple", data := .seq #[.none, .none] }
section
variable {prog : Program} {w : World} {A : Around} {E : Value → Shared → Prop} {s : Shared}
end
def ItM (K : PySem.W.Frag) (a b : Addr) : It :=
  ⟨fun i H => ∃ (us vs : List V) (u v : V), (SqL K H a us ∧ SqT K H b vs) ∧ us[i]? = some u ∧ vs[i]? = some v,
    fun i H p H' => ∃ T u v, p = .ref T ∧ H T = none ∧ H' = upd H T (.tup [u, v]) ∧ (∀ us, SqL K H a us → us[i]? = some u) ∧ ∀ vs, SqT K H b vs → vs[i]? = some v,
    fun i H => ∃ us vs : List V, (SqL K H a us ∧ SqT K H b vs) ∧ (us.length ≤ i ∨ vs.length ≤ i)⟩
abbrev five (z TI TO i1 i2 : Addr) : List Addr := [z, TI, TO, i1, i2]
theorem five_mem {z TI TO i1 i2 c : Addr} (h : c ∈ five z TI TO i1 i2) : c = z ∨ c = TI ∨ c = TO ∨ c = i1 ∨ c = i2 := by simpa using h
def Now (a b z TI TO i1 i2 : Addr) (i : Nat) (h : Heap) : Prop := IsZip h z TI TO .none ∧ IsPair h TI (.ref i1) (.ref i2) ∧ (∃ x y, IsPair h TO x y) ∧ h.IsListIter i1 a i ∧ h.IsTupleIter i2 b i
theorem Now.lt {a b z TI TO i1 i2 : Addr} {i : Nat} {h : Heap} (n : Now a b z TI TO i1 i2 i h) {c : Addr} (hc : c ∈ five z TI TO i1 i2) : c < h.objs.size := by
  obtain ⟨p1, p2, ⟨_, _, p3⟩, ⟨_, p4, _⟩, ⟨_, p5, _⟩⟩ := n
  rcases five_mem hc with rfl | rfl | rfl | rfl | rfl
  · exact Heap.lt_size p1
  · exact Heap.lt_size p2
  · exact Heap.lt_size p3
  · exact Heap.lt_size p4
  · exact Heap.lt_size p5
theorem turn {P : Program} {w : World} {K : PySem.W.Frag} {elts : List Expr} {kk : Nat} {tpos : Pos} {a b z TI TO i1 i2 : Addr} (D : ZipApart z TI TO i1 i2 a b) : Turn P w K (.Tuple elts kk tpos) (ItM K a b) (five z TI TO i1 i2) z (Now a b z TI TO i1 i2) where
  mem := by simp
  obj := fun i h n c hc => by
    obtain ⟨p1, p2, ⟨_, _, p3⟩, ⟨o1, p4, _, d1⟩, ⟨o2, p5, _, d2⟩⟩ := n
    rcases five_mem hc with rfl | rfl | rfl | rfl | rfl
    · exact ⟨_, p1, fun v t => nomatch t⟩
    · exact ⟨_, p2, fun v t => nomatch t⟩
    · exact ⟨_, p3, fun v t => nomatch t⟩
    · exact ⟨o1, p4, fun v t => by rw [d1] at t; cases t⟩
    · exact ⟨o2, p5, fun v t => by rw [d2] at t; cases t⟩
  keep := fun i h h' n k => by
    obtain ⟨p1, p2, ⟨u, v, p3⟩, p4, p5⟩ := n
    exact ⟨k z (by simp) _ p1, k TI (by simp) _ p2, ⟨u, v, k TO (by simp) _ p3⟩, p4.at fun o t => k i1 (by simp) o t, p5.at fun o t => k i2 (by simp) o t⟩
  item := by
    intro X hP hw hK hc i pins s σ H E I hf n hg
    subst hP hw hK
    have lt := @Now.lt _ _ _ _ _ _ _ _ _ n
    obtain ⟨p1, p2, ⟨u0, v0, p3⟩, p4, p5⟩ := n
    obtain ⟨us, vs, u, v, ⟨hu, hv⟩, eu, ev⟩ := hg
    obtain ⟨its, ru, lu, _⟩ := I.list hu
    obtain ⟨jts, rv, lv, _⟩ := I.tuple hv
    obtain ⟨m, mu, ru'⟩ := ru.get eu
    obtain ⟨m2, mv, rv'⟩ := rv.get ev
    have zl := lt (c := z) (by simp)
    refine next_item D ⟨p1, p2, p3, p4, p5, lu.isList, lv⟩ (x := m) (y := m2) (by simpa using mu) (by simpa using mv) fun h' g1 g2 g3 g4 g5 _ st => ?_
    refine ⟨_, rfl, wpAny_letOwnedTupleGo_zip (s := { s with heap := h' }) g1 fun h2 g6 sb => ?_⟩
    have nt : h2.get? s.heap.objs.size = some { cls := .type "tuple", data := .seq #[m, m2] } := (sb.2 _ (Nat.ne_of_gt zl)).trans g5
    have ok : ObjOk X.prog X.w (upd H s.heap.objs.size (.tup [u, v])) h2 s.heap.objs.size (.tup [u, v]) := ⟨by show 2 ≤ sizeLine; decide, [m, m2], .cons ru' (.cons rv' .nil), ⟨_, nt, rfl, _, rfl⟩⟩
    have I1 : Inv X pins σ (upd H s.heap.objs.size (.tup [u, v])) { s with heap := h2 } := I.turnedNew (t' := s.toks) (ch := five z TI TO i1 i2) (fun c o hb t => by
      have nz : c ≠ z := fun e => hb (by simp [e])
      exact (sb.2 c nz).trans (st c o nz (fun e => hb (by simp [e])) (fun e => hb (by simp [e])) (fun e => hb (by simp [e])) t)) hf (Nat.le_refl _) ok
    refine ⟨.ref s.heap.objs.size, _, I1, rfl, ⟨_, u, v, rfl, I.hok.fresh (Nat.le_refl _), rfl, fun l hl => by rw [I.list_inj hl hu]; exact eu, fun l hl => by rw [I.tuple_inj hl hv]; exact ev⟩, ⟨g6, (sb.2 _ D.TIz).trans (st _ _ D.TIz D.TITO D.TIi1 D.TIi2 p2), ⟨m, m2, (sb.2 _ D.TOz).trans g2⟩, g3.at fun o t => (sb.2 _ D.i1z).trans t, g4.at fun o t => (sb.2 _ D.i2z).trans t⟩, fun c hcm => ?_⟩
    rw [upd_ne (Nat.ne_of_lt (lt hcm))]
    exact (hf c hcm).1
  done := by
    intro X hP hw hK hc i pins s σ H E I hf n hg
    subst hP hw hK
    obtain ⟨p1, p2, ⟨u0, v0, p3⟩, p4, p5⟩ := n
    obtain ⟨us, vs, ⟨hu, hv⟩, en⟩ := hg
    obtain ⟨its, ru, lu, _⟩ := I.list hu
    obtain ⟨jts, rv, lv, _⟩ := I.tuple hv
    have n1 := ru.length
    have n2 := rv.length
    refine next_end (I.ok.hd hc) D ⟨p1, p2, p3, p4, p5, lu.isList, lv⟩ (en.imp (fun t => by simp; omega) fun t => by simp; omega) fun h' st => ⟨rfl, ?_⟩
    exact I.turnedL (t' := s.toks) (ch := five z TI TO i1 i2) (fun c o hb t => st c o (fun e => hb (by simp [e])) (fun e => hb (by simp [e])) (fun e => hb (by simp [e])) (fun e => hb (by simp [e])) t) hf
  self := fun A i s Q E n h => wpAny_pyIter_zip n.1 h
end RR.ZM
namespace RR
open PySem PySem.Spec PyProof.Rows L2
section
variable {X : Cx} {C : Cn} {a b : Expr} {pos : Pos}
end
section
variable {M : Type} {ρ : En} {m : M} {Z : Str → M → Prop} {QL : List D → M → Prop} {ds es : List D} {t u : DT M}
end
end RR
namespace RR.ZN
open PySem PySem.Spec PyProof.Rows L2 RZ
section
variable {prog : Program} {w : World} {A : Around} {E : Value → Shared → Prop} {s : Shared} {z TI TO i1 i2 l1 l2 : Addr} {k1 k2 : Nat} {xs ys : Array Value} {x y a b : Value}
structure Wk2 (h : Heap) (z TI TO i1 i2 l1 l2 : Addr) (k1 k2 : Nat) (xs ys : Array Value) (a b : Value) : Prop where
  z0 : IsZip h z TI TO .none
  ti : IsPair h TI (.ref i1) (.ref i2)
  tg : IsPair h TO a b
  j1 : h.IsTupleIter i1 l1 k1
  j2 : h.IsListIter i2 l2 k2
  s1 : h.IsTuple l1 xs
  s2 : h.IsList l2 ys
def Stay (h h' : Heap) (z TO i1 i2 : Addr) : Prop := ∀ c o, c ≠ z → c ≠ TO → c ≠ i1 → c ≠ i2 → h.get? c = some o → h'.get? c = some o
theorem one_item {Q : Value → Shared → Prop} (D : ZipApart z TI TO i1 i2 l1 l2) (S : Wk2 s.heap z TI TO i1 i2 l1 l2 k1 k2 xs ys a b) (hx : xs[k1]? = some x) (hy : ys[k2]? = some y)
    (q : ∀ h', IsZip h' z TI TO (rawInt s.heap.objs.size) → IsPair h' TO x y → h'.IsTupleIter i1 l1 (k1 + 1) → h'.IsListIter i2 l2 (k2 + 1) → IsPair h' s.heap.objs.size x y → h'.objs.size = s.heap.objs.size + 1 → Stay s.heap h' z TO i1 i2 → Q (.ref s.heap.objs.size) { s with heap := h' }) :
    wpAny (model prog w) A (Builtin.«zip.__next__» ⟨[.ref z], []⟩) (fun r s' => ∃ v, r = .done (.ret v) ∧ Q v s') E s := by
  obtain ⟨z0, ti, tg, j1, j2, t1, t2⟩ := S
  (show wpAny _ _ (field (.ref _) 2 >>= _) _ _ _; refine wpAny_bind (wpAny_field z0 rfl (x := (.bool false)) rfl ?_))
  (show wpAny _ _ (field (.ref _) 3 >>= _) _ _ _; refine wpAny_bind (wpAny_field z0 rfl (x := (.ref TI)) rfl ?_))
  refine wpAny_bind (wpAny_seqItems ti rfl ?_)
  (show wpAny _ _ (Builtin.SmallTypes.ownedTupleIsFree (.ref z) >>= _) _ _ _); refine wpAny_bind ?_; unfold Builtin.SmallTypes.ownedTupleIsFree
  refine wpAny_bind (wpAny_field z0 rfl (x := .none) rfl (wpAny_pure ?_)); simp only [if_true]; refine wpAny_bind (wpAny_rule ?_); refine wpAny_bind (wpAny_field z0 rfl (x := .ref TO) rfl ?_)
  refine wpAny_bind (wpAny_setField_rec z0 (by simp) fun ha za ea => ?_); replace za : IsZip ha z TI TO .ellipsis := za
  refine wpAny_bind ?_; simp only [List.zipIdx_cons, List.zipIdx_nil, List.forIn_cons, List.forIn_nil]
  refine wpAny_bind (wpAny_bind (wpAny_onRaise ?_)); show wpAny _ _ (Builtin.SmallTypes.nextOf (.ref i1) >>= _) _ _ _
  refine wpAny_bind (nextOf_tuple_item (j1.extBut ea.extBut D.i1z) (t1.extBut ea.extBut D.l1z) hx fun hb jb eb => wpAny_pure ?_)
  have pb : IsPair hb TO a b := eb.extBut _ _ D.TOi1 (ea.extBut _ _ D.TOz tg)
  refine wpAny_bind (wpAny_seqItems pb rfl ?_); refine wpAny_bind (wpAny_updateSeq_pair pb fun hc pc ec => ?_); replace pc : IsPair hc TO x b := pc
  refine wpAny_bind (wpAny_letGo (wpAny_pure ?_)); refine wpAny_bind (wpAny_bind (wpAny_onRaise ?_)); show wpAny _ _ (Builtin.SmallTypes.nextOf (.ref i2) >>= _) _ _ _
  have j2c : hc.IsListIter i2 l2 k2 := ((j2.extBut ea.extBut D.i2z).extBut eb.extBut D.i12.symm).extBut ec.extBut D.TOi2.symm
  have t2c : hc.IsList l2 ys := ((t2.extBut ea.extBut D.l2z).extBut eb.extBut D.l2i1).extBut ec.extBut D.l2TO
  refine wpAny_bind (wpAny_nextOf_list_item j2c t2c hy fun hd jd ed => wpAny_pure ?_)
  have pd : IsPair hd TO x b := ed.extBut _ _ D.TOi2 pc
  refine wpAny_bind (wpAny_seqItems pd rfl ?_); refine wpAny_bind (wpAny_updateSeq_pair pd fun he pe ee => ?_); replace pe : IsPair he TO x y := pe
  refine wpAny_bind (wpAny_letGo (wpAny_pure (wpAny_pure ?_))); refine wpAny_bind (wpAny_seqItems pe rfl ?_); refine wpAny_bind (wpAny_newTuple ?_)
  have sz : he.objs.size = s.heap.objs.size := by rw [ee.1, ed.1, ec.1, eb.1, ea.1]
  have ze : IsZip he z TI TO .ellipsis := ee.extBut _ _ D.TOz.symm (ed.extBut _ _ D.i2z.symm (ec.extBut _ _ D.TOz.symm (eb.extBut _ _ D.i1z.symm za)))
  have st : Stay s.heap he z TO i1 i2 := fun c o c1 c2 c3 c4 e => ee.extBut _ _ c2 (ed.extBut _ _ c4 (ec.extBut _ _ c2 (eb.extBut _ _ c3 (ea.extBut _ _ c1 e))))
  have f1 : he.IsTupleIter i1 l1 (k1 + 1) := ((jb.extBut ec.extBut D.TOi1.symm).extBut ed.extBut D.i12).extBut ee.extBut D.TOi1.symm
  have f2 : he.IsListIter i2 l2 (k2 + 1) := jd.extBut ee.extBut D.TOi2.symm
  have zl : z < he.objs.size := Heap.lt_size ze
  (show wpAny _ _ (Builtin.SmallTypes.ownedTupleHandOut (.ref z) (.ref he.objs.size) >>= _) _ _ _); refine wpAny_bind ?_; unfold Builtin.SmallTypes.ownedTupleHandOut
  have zf : IsZip (he.push { cls := .type "tuple", data := .seq #[x, y] }) z TI TO .ellipsis := Heap.get?_push_of_some _ ze
  refine wpAny_bind (wpAny_setField_rec zf (by simp) fun hg zg eg => ?_); replace zg : IsZip hg z TI TO (rawInt he.objs.size) := zg
  refine wpAny_setField_rec zg (by simp) fun hi zi ei => ?_; replace zi : IsZip hi z TI TO (rawInt he.objs.size) := zi
  have go : ∀ c o, c ≠ z → he.get? c = some o → hi.get? c = some o := fun c o c1 e => ei.extBut _ _ c1 (eg.extBut _ _ c1 (Heap.get?_push_of_some _ e))
  have np : IsPair hi he.objs.size x y := ei.extBut _ _ (Nat.ne_of_gt zl) (eg.extBut _ _ (Nat.ne_of_gt zl) (Heap.get?_push_size _ rfl))
  have ns : hi.objs.size = he.objs.size + 1 := by rw [ei.1, eg.1, Heap.size_push]
  rw [sz] at zi np ns
  refine wpAny_pure ⟨_, rfl, ?_⟩
  show Q (.ref he.objs.size) _
  rw [sz]
  exact q hi zi (go _ _ D.TOz pe) (f1.at fun o e => go _ o D.i1z e) (f2.at fun o e => go _ o D.i2z e) np ns fun c o c1 c2 c3 c4 e => go c o c1 (st c o c1 c2 c3 c4 e)
theorem one_end {Q : Fin → Shared → Prop} (hh : A.handled = none) (D : ZipApart z TI TO i1 i2 l1 l2) (S : Wk2 s.heap z TI TO i1 i2 l1 l2 k1 k2 xs ys a b) (en : xs[k1]? = none ∨ ys[k2]? = none)
    (q : ∀ h' e, Stay s.heap h' z TO i1 i2 → (∃ o, h'.get? e = some o ∧ o.cls = .type "StopIteration") → E (.ref e) { s with heap := h' }) :
    wpAny (model prog w) A (Builtin.«zip.__next__» ⟨[.ref z], []⟩) Q E s := by
  obtain ⟨z0, ti, tg, j1, j2, t1, t2⟩ := S
  (show wpAny _ _ (field (.ref _) 2 >>= _) _ _ _; refine wpAny_bind (wpAny_field z0 rfl (x := (.bool false)) rfl ?_))
  (show wpAny _ _ (field (.ref _) 3 >>= _) _ _ _; refine wpAny_bind (wpAny_field z0 rfl (x := (.ref TI)) rfl ?_))
  refine wpAny_bind (wpAny_seqItems ti rfl ?_)
  (show wpAny _ _ (Builtin.SmallTypes.ownedTupleIsFree (.ref z) >>= _) _ _ _); refine wpAny_bind ?_; unfold Builtin.SmallTypes.ownedTupleIsFree
  refine wpAny_bind (wpAny_field z0 rfl (x := .none) rfl (wpAny_pure ?_)); simp only [if_true]; refine wpAny_bind (wpAny_rule ?_); refine wpAny_bind (wpAny_field z0 rfl (x := .ref TO) rfl ?_)
  refine wpAny_bind (wpAny_setField_rec z0 (by simp) fun ha za ea => ?_); replace za : IsZip ha z TI TO .ellipsis := za
  refine wpAny_bind ?_; simp only [List.zipIdx_cons, List.zipIdx_nil, List.forIn_cons, List.forIn_nil]
  refine wpAny_bind (wpAny_bind (wpAny_onRaise ?_)); show wpAny _ _ (Builtin.SmallTypes.nextOf (.ref i1) >>= _) _ _ _
  cases hx : xs[k1]? with
  | none =>
    refine wpAny_bind (nextOf_tuple_end hh (j1.extBut ea.extBut D.i1z) (t1.extBut ea.extBut D.l1z) hx fun hb e eb he => ?_)
    obtain ⟨oe, oh, oc⟩ := he
    have zb : IsZip hb z TI TO .ellipsis := eb _ _ D.i1z.symm za
    have ne : e ≠ z := fun t => by subst t; rw [zb] at oh; cases oh; simp at oc
    exact wpAny_setField_rec zb (by simp) fun hc _ ec => q hc e (fun c o c1 _ c3 _ t => ec.extBut _ _ c1 (eb _ _ c3 (ea.extBut _ _ c1 t))) ⟨oe, ec.extBut _ _ ne oh, oc⟩
  | some x =>
    have hy : ys[k2]? = none := en.resolve_left fun t => by rw [hx] at t; cases t
    refine wpAny_bind (nextOf_tuple_item (j1.extBut ea.extBut D.i1z) (t1.extBut ea.extBut D.l1z) hx fun hb jb eb => wpAny_pure ?_)
    have pb : IsPair hb TO a b := eb.extBut _ _ D.TOi1 (ea.extBut _ _ D.TOz tg)
    refine wpAny_bind (wpAny_seqItems pb rfl ?_); refine wpAny_bind (wpAny_updateSeq_pair pb fun hc pc ec => ?_)
    refine wpAny_bind (wpAny_letGo (wpAny_pure ?_)); refine wpAny_bind (wpAny_bind (wpAny_onRaise ?_)); show wpAny _ _ (Builtin.SmallTypes.nextOf (.ref i2) >>= _) _ _ _
    have j2c : hc.IsListIter i2 l2 k2 := ((j2.extBut ea.extBut D.i2z).extBut eb.extBut D.i12.symm).extBut ec.extBut D.TOi2.symm
    have t2c : hc.IsList l2 ys := ((t2.extBut ea.extBut D.l2z).extBut eb.extBut D.l2i1).extBut ec.extBut D.l2TO
    refine wpAny_bind (wpAny_nextOf_list_end hh j2c t2c hy fun hd e ed he => ?_)
    obtain ⟨oe, oh, oc⟩ := he
    have zd : IsZip hd z TI TO .ellipsis := ed _ _ D.i2z.symm (ec.extBut _ _ D.TOz.symm (eb.extBut _ _ D.i1z.symm za))
    have ne : e ≠ z := fun t => by subst t; rw [zd] at oh; cases oh; simp at oc
    exact wpAny_setField_rec zd (by simp) fun hg _ eg => q hg e (fun c o c1 c2 c3 c4 t => eg.extBut _ _ c1 (ed _ _ c4 (ec.extBut _ _ c2 (eb.extBut _ _ c3 (ea.extBut _ _ c1 t))))) ⟨oe, eg.extBut _ _ ne oh, oc⟩
theorem next_item {Q : Option Value → Shared → Prop} (D : ZipApart z TI TO i1 i2 l1 l2) (S : Wk2 s.heap z TI TO i1 i2 l1 l2 k1 k2 xs ys a b) (hx : xs[k1]? = some x) (hy : ys[k2]? = some y)
    (q : ∀ h', IsZip h' z TI TO (rawInt s.heap.objs.size) → IsPair h' TO x y → h'.IsTupleIter i1 l1 (k1 + 1) → h'.IsListIter i2 l2 (k2 + 1) → IsPair h' s.heap.objs.size x y → h'.objs.size = s.heap.objs.size + 1 → Stay s.heap h' z TO i1 i2 → Q (some (.ref s.heap.objs.size)) { s with heap := h' }) :
    wpAny (model prog w) A (pyNext (.ref z)) Q E s := by
  have ty : s.TypeIs (.ref z) "zip" := ⟨_, S.z0, rfl⟩
  unfold pyNext
  refine wpAny_bind (wpAny_attempt (wpAny_callSpecial?_slot (name := Str.ofString "__next__") ty F.slot_zip_next (wpAny_call_entry F.slot_zip_next ty F.entry_zip_next ?_ (F.args_zip_next_1 _))))
  exact one_item D S hx hy fun h' p1 p2 p3 p4 p5 p6 p7 => wpAny_pure (q h' p1 p2 p3 p4 p5 p6 p7)
theorem next_end {Q : Option Value → Shared → Prop} (hh : A.handled = none) (D : ZipApart z TI TO i1 i2 l1 l2) (S : Wk2 s.heap z TI TO i1 i2 l1 l2 k1 k2 xs ys a b) (en : xs[k1]? = none ∨ ys[k2]? = none)
    (q : ∀ h', Stay s.heap h' z TO i1 i2 → Q none { s with heap := h' }) : wpAny (model prog w) A (pyNext (.ref z)) Q E s := by
  have ty : s.TypeIs (.ref z) "zip" := ⟨_, S.z0, rfl⟩
  unfold pyNext
  refine wpAny_bind (wpAny_attempt (wpAny_callSpecial?_slot (name := Str.ofString "__next__") ty F.slot_zip_next (wpAny_call_entry F.slot_zip_next ty F.entry_zip_next ?_ (F.args_zip_next_1 _))))
  refine one_end hh D S en fun h' e st oe => ?_
  obtain ⟨o, oh, oc⟩ := oe
  refine wpAny_bind (wpAny_isInstance (T := "StopIteration") (b := true) ⟨o, oh, oc⟩ isSubtype_stop ?_)
  exact wpAny_pure (q _ st)
end
abbrev y1 (h : Heap) (l1 : Addr) : Heap := h.push { cls := .type "tuple_iterator", data := .fields #[.ref l1, .int 0 0] }
abbrev y2 (h : Heap) (l1 l2 : Addr) : Heap := (y1 h l1).push { cls := .type "list_iterator", data := .fields #[.ref l2, .int 0 0] }
abbrev y3 (h : Heap) (l1 l2 : Addr) : Heap := (y2 h l1 l2).push { cls := .type "tuple", data := .seq #[.ref h.objs.size, .ref (y1 h l1).objs.size] }
abbrev y4 (h : Heap) (l1 l2 : Addr) : Heap := (y3 h l1 l2).push { cls := .type "tuple", data := .seq #[.none, .none] }
section
variable {prog : Program} {w : World} {A : Around} {E : Value → Shared → Prop} {s : Shared}
end
def ItM (K : PySem.W.Frag) (a b : Addr) : It :=
  ⟨fun i H => ∃ (us vs : List V) (u v : V), (SqT K H a us ∧ SqL K H b vs) ∧ us[i]? = some u ∧ vs[i]? = some v,
    fun i H p H' => ∃ T u v, p = .ref T ∧ H T = none ∧ H' = upd H T (.tup [u, v]) ∧ (∀ us, SqT K H a us → us[i]? = some u) ∧ ∀ vs, SqL K H b vs → vs[i]? = some v,
    fun i H => ∃ us vs : List V, (SqT K H a us ∧ SqL K H b vs) ∧ (us.length ≤ i ∨ vs.length ≤ i)⟩
abbrev five (z TI TO i1 i2 : Addr) : List Addr := [z, TI, TO, i1, i2]
theorem five_mem {z TI TO i1 i2 c : Addr} (h : c ∈ five z TI TO i1 i2) : c = z ∨ c = TI ∨ c = TO ∨ c = i1 ∨ c = i2 := by simpa using h
def Now (a b z TI TO i1 i2 : Addr) (i : Nat) (h : Heap) : Prop := IsZip h z TI TO .none ∧ IsPair h TI (.ref i1) (.ref i2) ∧ (∃ x y, IsPair h TO x y) ∧ h.IsTupleIter i1 a i ∧ h.IsListIter i2 b i
theorem Now.lt {a b z TI TO i1 i2 : Addr} {i : Nat} {h : Heap} (n : Now a b z TI TO i1 i2 i h) {c : Addr} (hc : c ∈ five z TI TO i1 i2) : c < h.objs.size := by
  obtain ⟨p1, p2, ⟨_, _, p3⟩, ⟨_, p4, _⟩, ⟨_, p5, _⟩⟩ := n
  rcases five_mem hc with rfl | rfl | rfl | rfl | rfl
  · exact Heap.lt_size p1
  · exact Heap.lt_size p2
  · exact Heap.lt_size p3
  · exact Heap.lt_size p4
  · exact Heap.lt_size p5
theorem turn {P : Program} {w : World} {K : PySem.W.Frag} {elts : List Expr} {kk : Nat} {tpos : Pos} {a b z TI TO i1 i2 : Addr} (D : ZipApart z TI TO i1 i2 a b) : Turn P w K (.Tuple elts kk tpos) (ItM K a b) (five z TI TO i1 i2) z (Now a b z TI TO i1 i2) where
  mem := by simp
  obj := fun i h n c hc => by
    obtain ⟨p1, p2, ⟨_, _, p3⟩, ⟨o1, p4, _, d1⟩, ⟨o2, p5, _, d2⟩⟩ := n
    rcases five_mem hc with rfl | rfl | rfl | rfl | rfl
    · exact ⟨_, p1, fun v t => nomatch t⟩
    · exact ⟨_, p2, fun v t => nomatch t⟩
    · exact ⟨_, p3, fun v t => nomatch t⟩
    · exact ⟨o1, p4, fun v t => by rw [d1] at t; cases t⟩
    · exact ⟨o2, p5, fun v t => by rw [d2] at t; cases t⟩
  keep := fun i h h' n k => by
    obtain ⟨p1, p2, ⟨u, v, p3⟩, p4, p5⟩ := n
    exact ⟨k z (by simp) _ p1, k TI (by simp) _ p2, ⟨u, v, k TO (by simp) _ p3⟩, p4.at fun o t => k i1 (by simp) o t, p5.at fun o t => k i2 (by simp) o t⟩
  item := by
    intro X hP hw hK hc i pins s σ H E I hf n hg
    subst hP hw hK
    have lt := @Now.lt _ _ _ _ _ _ _ _ _ n
    obtain ⟨p1, p2, ⟨u0, v0, p3⟩, p4, p5⟩ := n
    obtain ⟨us, vs, u, v, ⟨hu, hv⟩, eu, ev⟩ := hg
    obtain ⟨its, ru, lu, _⟩ := I.tuple hu
    obtain ⟨jts, rv, lv, _⟩ := I.list hv
    obtain ⟨m, mu, ru'⟩ := ru.get eu
    obtain ⟨m2, mv, rv'⟩ := rv.get ev
    have zl := lt (c := z) (by simp)
    refine next_item D ⟨p1, p2, p3, p4, p5, lu, lv.isList⟩ (x := m) (y := m2) (by simpa using mu) (by simpa using mv) fun h' g1 g2 g3 g4 g5 _ st => ?_
    refine ⟨_, rfl, wpAny_letOwnedTupleGo_zip (s := { s with heap := h' }) g1 fun h2 g6 sb => ?_⟩
    have nt : h2.get? s.heap.objs.size = some { cls := .type "tuple", data := .seq #[m, m2] } := (sb.2 _ (Nat.ne_of_gt zl)).trans g5
    have ok : ObjOk X.prog X.w (upd H s.heap.objs.size (.tup [u, v])) h2 s.heap.objs.size (.tup [u, v]) := ⟨by show 2 ≤ sizeLine; decide, [m, m2], .cons ru' (.cons rv' .nil), ⟨_, nt, rfl, _, rfl⟩⟩
    have I1 : Inv X pins σ (upd H s.heap.objs.size (.tup [u, v])) { s with heap := h2 } := I.turnedNew (t' := s.toks) (ch := five z TI TO i1 i2) (fun c o hb t => by
      have nz : c ≠ z := fun e => hb (by simp [e])
      exact (sb.2 c nz).trans (st c o nz (fun e => hb (by simp [e])) (fun e => hb (by simp [e])) (fun e => hb (by simp [e])) t)) hf (Nat.le_refl _) ok
    refine ⟨.ref s.heap.objs.size, _, I1, rfl, ⟨_, u, v, rfl, I.hok.fresh (Nat.le_refl _), rfl, fun l hl => by rw [I.tuple_inj hl hu]; exact eu, fun l hl => by rw [I.list_inj hl hv]; exact ev⟩, ⟨g6, (sb.2 _ D.TIz).trans (st _ _ D.TIz D.TITO D.TIi1 D.TIi2 p2), ⟨m, m2, (sb.2 _ D.TOz).trans g2⟩, g3.at fun o t => (sb.2 _ D.i1z).trans t, g4.at fun o t => (sb.2 _ D.i2z).trans t⟩, fun c hcm => ?_⟩
    rw [upd_ne (Nat.ne_of_lt (lt hcm))]
    exact (hf c hcm).1
  done := by
    intro X hP hw hK hc i pins s σ H E I hf n hg
    subst hP hw hK
    obtain ⟨p1, p2, ⟨u0, v0, p3⟩, p4, p5⟩ := n
    obtain ⟨us, vs, ⟨hu, hv⟩, en⟩ := hg
    obtain ⟨its, ru, lu, _⟩ := I.tuple hu
    obtain ⟨jts, rv, lv, _⟩ := I.list hv
    have n1 := ru.length
    have n2 := rv.length
    refine next_end (I.ok.hd hc) D ⟨p1, p2, p3, p4, p5, lu, lv.isList⟩ (en.imp (fun t => by simp; omega) fun t => by simp; omega) fun h' st => ⟨rfl, ?_⟩
    exact I.turnedL (t' := s.toks) (ch := five z TI TO i1 i2) (fun c o hb t => st c o (fun e => hb (by simp [e])) (fun e => hb (by simp [e])) (fun e => hb (by simp [e])) (fun e => hb (by simp [e])) t) hf
  self := fun A i s Q E n h => wpAny_pyIter_zip n.1 h
end RR.ZN
namespace RR
open PySem PySem.Spec PyProof.Rows L2
section
variable {X : Cx} {C : Cn} {a b : Expr} {pos : Pos}
end
section
variable {M : Type} {ρ : En} {m : M} {Z : Str → M → Prop} {QL : List D → M → Prop} {ds es : List D} {t u : DT M}
end
end RR
namespace RR
open PySem PySem.Spec PyProof.Rows L2
section
variable {X : Cx} {C : Cn} {a b : Expr} {pos : Pos} {ta tb : DT C.W.M}
end
end RR
namespace RR
open PySem PySem.Spec PyProof.Rows L2
section
variable {X : Cx} {C : Cn} {pos : Pos}
end
section
variable {M : Type} {ρ : En} {m : M} {nx bk ct : En → M → Prop} {rt : D → M → Prop} {ex : Str → M → Prop} {ds : List D} {d : D} {g : DG}
end
end RR
namespace RR
open PySem PySem.Spec PyProof.Rows L2
mutual
def D.pln : D → Bool
  | .non | .bl _ | .int _ | .str _ => true
  | .tup xs => D.plns xs
  | _ => false
def D.plns : List D → Bool
  | [] => true
  | x :: r => x.pln && D.plns r
end
section
variable {K : PySem.W.Frag} {F F' : List Addr} {G G' : Hp}
mutual
theorem Dn.kept (hG : ∀ a xs, G a = some (.tup xs) → G' a = some (.tup xs)) : ∀ {v : V} {d : D}, d.pln = true → Dn false K F G v d → Dn true K F' G' v d
  | _, _, _, .non => .non
  | _, _, _, .bl b => .bl b
  | _, _, _, .int i => .int i
  | _, _, _, .str x => .str x
  | _, _, p, .tup h r => .tup (h.mono hG) (DnA.kept hG p r)
  | _, _, p, .lst _ _ => by cases p
  | _, _, p, .hnd _ => by cases p
  | _, _, p, .dic _ => by cases p
  | _, _, p, .exc _ _ => by cases p
  | _, _, p, .fn _ => by cases p
  | _, _, p, .ptr => by cases p
theorem DnA.kept (hG : ∀ a xs, G a = some (.tup xs) → G' a = some (.tup xs)) : ∀ {v : List V} {d : List D}, D.plns d = true → DnA false K F G v d → DnA true K F' G' v d
  | _, _, _, .nil => .nil
  | _, _, p, .cons h r => by
    rw [D.plns, Bool.and_eq_true] at p
    exact .cons (Dn.kept hG p.1 h) (DnA.kept hG p.2 r)
end
end
section
variable {X : Cx} {C : Cn} {pos : Pos}
end
section
variable {M : Type} {ρ : En} {m : M} {Q : D → M → Prop} {Z : Str → M → Prop} {d : D}
end
end RR
namespace RR
open PySem PySem.Spec PyProof.Rows L2
section
variable {X : Cx} {C : Cn}
end
end RR
namespace RR
open PySem PySem.Spec PyProof.Rows L2 RZ RT
section
variable {X : Cx} {C : Cn}
end
end RR
namespace RR
open PySem PySem.Spec PyProof.Rows L2
section
variable {X : Cx} {C : Cn}
end
end RR
namespace RR
open PySem PySem.Spec PyProof.Rows L2 HT
def stepL {α : Type} (k : Nat) (xs : List α) : List α := (List.range (if xs.length = 0 then 0 else (xs.length - 1) / k + 1)).filterMap fun m => xs[m * k]?
section
variable {prog : Program} {w : World} {A : Around} {E : Value → Shared → Prop} {s : Shared}
theorem stepL_len {α : Type} {k : Nat} (xs : List α) : (stepL k xs).length ≤ xs.length := by
  unfold stepL
  refine Nat.le_trans (List.length_filterMap_le _ _) ?_
  rw [List.length_range]
  split
  · omega
  · have := Nat.div_le_self (xs.length - 1) k
    omega
end
theorem vals_pick {xs : List V} {us : List Value} (r : Vals xs us) : ∀ I : List Nat, Vals (I.filterMap fun m => xs[m]?) (I.filterMap fun m => us[m]?)
  | [] => .nil
  | i :: I => by
    have ih := vals_pick r I
    rw [List.filterMap_cons, List.filterMap_cons]
    cases e : xs[i]? with
    | none => rw [List.getElem?_eq_none (by rw [← r.length]; exact List.getElem?_eq_none_iff.mp e)]; exact ih
    | some x =>
      obtain ⟨u, eu, ru⟩ := r.get e
      rw [eu]; exact .cons ru ih
theorem dna_pick {s : Bool} {K : PySem.W.Frag} {F : List Addr} {G : Hp} {vs : List V} {ds : List D} (r : DnA s K F G vs ds) : ∀ I : List Nat, DnA s K F G (I.filterMap fun m => vs[m]?) (I.filterMap fun m => ds[m]?)
  | [] => .nil
  | i :: I => by
    have ih := dna_pick r I
    rw [List.filterMap_cons, List.filterMap_cons]
    cases e : vs[i]? with
    | none => rw [List.getElem?_eq_none (by rw [← r.length]; exact List.getElem?_eq_none_iff.mp e)]; exact ih
    | some x =>
      obtain ⟨d, ed, rd⟩ := r.get e
      rw [ed]; exact .cons rd ih
theorem stepL_map {α : Type} (k : Nat) (xs : List α) : stepL k xs = ((List.range (if xs.length = 0 then 0 else (xs.length - 1) / k + 1)).map (· * k)).filterMap fun m => xs[m]? := by
  unfold stepL; rw [List.filterMap_map]; rfl
theorem vals_st {xs : List V} {us : List Value} (k : Nat) (r : Vals xs us) : Vals (stepL k xs) (stepL k us) := by
  rw [stepL_map, stepL_map, r.length]; exact vals_pick r _
theorem dna_st {s : Bool} {K : PySem.W.Frag} {F : List Addr} {G : Hp} {vs : List V} {ds : List D} (k : Nat) (r : DnA s K F G vs ds) : DnA s K F G (stepL k vs) (stepL k ds) := by
  rw [stepL_map, stepL_map, r.length]; exact dna_pick r _
section
variable {X : Cx} {C : Cn} {e f : Expr}
theorem nls_st {k : Nat} {ds : List D} (h : D.nls ds = true) : D.nls (stepL k ds) = true := nls_sub h fun d hd => by
  obtain ⟨m, _, e⟩ := List.mem_filterMap.mp hd
  exact List.mem_of_getElem? e
end
section
variable {M : Type} {ρ : En} {m : M} {Q : D → M → Prop} {Z : Str → M → Prop} {t u : DT M}
end
end RR
namespace RR
open PySem PySem.Spec PyProof.Rows L2 HT
theorem slice_stL (xs : Array Value) {k : Nat} (hk : 1 ≤ k) : slicePick xs none none (some (k : Int)) = (stepL k xs.toList).toArray := by
  have e1 : sliceBounds none none (some (k : Int)) xs.size = (0, (xs.size : Int), (k : Int)) := by
    unfold sliceBounds
    have h1 : ((k : Int) > 0) := by omega
    simp only [Option.getD_some, h1, if_true]
  have e2 : sliceRange 0 (xs.size : Int) (k : Int) = (List.range (if xs.toList.length = 0 then 0 else (xs.toList.length - 1) / k + 1)).map (· * k) := by
    unfold sliceRange
    have h1 : ((k : Int) > 0) := by omega
    simp only [h1, if_true, Array.length_toList]
    have e3 : (if (0 : Int) < (xs.size : Int) then ((xs.size : Int) - 0 + (k : Int) - 1) / (k : Int) else 0).toNat = (if xs.size = 0 then 0 else (xs.size - 1) / k + 1) := by
      by_cases z : xs.size = 0
      · rw [z]; simp
      · rw [if_pos (by omega), if_neg z, show ((xs.size : Int) - 0 + (k : Int) - 1) = ((xs.size - 1 + k : Nat) : Int) by omega, ← Int.natCast_ediv, Int.toNat_natCast, Nat.add_div_right _ (by omega)]
    rw [e3]
    refine List.map_congr_left fun m _ => ?_
    rw [Int.zero_add, ← Int.natCast_mul, Int.toNat_natCast, Nat.mul_comm]
  unfold slicePick
  rw [e1]
  show (List.filterMap (fun x => xs[x]?) (sliceRange 0 (xs.size : Int) (k : Int))).toArray = _
  rw [e2, stepL_map]
  congr 1
  refine congrArg (fun f => List.filterMap f _) (funext fun m => ?_)
  rw [Array.getElem?_toList]
section
variable {X : Cx} {C : Cn} {e f : Expr}
def tStL (K : PySem.W.Frag) (te tf : TE) : TE := fun σ H Q => te σ H fun x H1 => tf σ H1 fun y H2 => ∃ a xs, ∃ k : Nat, x = .ref a ∧ y = .int (k : Int) ∧ 1 ≤ k ∧ SqL K H2 a xs ∧ ∀ p, H2 p = none → Q (.ref p) (upd H2 p (.lst (stepL k xs)))
theorem pe_stL {te tf : TE} {p3 pos : Pos} (he : PE X e te) (hf : PE X f tf) : PE X (.Subscript e (.Slice none none (some f) p3) pos) (tStL X.K te tf) := by
  refine ⟨fun pins s σ H Q I h => ?_⟩
  refine Subscript_ (thn (he.run pins s σ H _ I h) fun v s1 ⟨x, H1, I1, r1, q1⟩ => ?_)
  have hst : PO X (some f) (tPart tf) := po_some hf
  refine wpAny_Slice (thn (po_none.run pins s1 σ H1 (fun o H2 => o = none ∧ H2 = H1) I1 ⟨rfl, rfl⟩) fun vl s2 ⟨l, H2, I2, pl, el, e2⟩ => ?_)
  subst el e2
  refine thn (po_none.run pins s2 σ H2 (fun o H3 => o = none ∧ H3 = H2) I2 ⟨rfl, rfl⟩) fun vu s3 ⟨u, H3, I3, pu, eu, e3⟩ => ?_
  subst eu e3
  refine thn (hf.run pins s3 σ H3 _ I3 q1) fun vs s4 ⟨y, H4, I4, ry, a, xs, k, ex, ey, hk, hx, q⟩ => ?_
  subst ex ey
  obtain ⟨t, rfl⟩ := ry
  have ps : IsPart (.int (k : Int) t) (some (k : Int)) := .int _ _
  have I5 : Inv X pins σ H4 { s4 with heap := s4.heap.push { cls := .type "slice", data := .fields #[vl, vu, .int (k : Int) t] } } := I4.kept (t' := s4.toks) fun b ob q => Heap.get?_push_of_some _ q
  cases r1
  obtain ⟨its, r, ht, hz⟩ := I5.list hx
  have hlen := r.length
  show wpAny (model X.prog X.w) X.A (subscriptTail e (.Slice none none (some f) p3) (.ref a) (.ref s4.heap.objs.size)) (EP X pins σ Q) X.xe { s4 with heap := s4.heap.push { cls := .type "slice", data := .fields #[vl, vu, .int (k : Int) t] } }
  refine tail_any (ops := [.ref a, .ref s4.heap.objs.size]) ht.isList.typeIs (PySem.slot_list_getitem.lookup) ?_ (by with_unfolding_all rfl)
  refine wpAny_getItem_list_slice ht.isList (Heap.IsSliceOf.new _ vl vu (.int (k : Int) t)) pl pu ps (by simp; omega) ?_ (by rw [List.size_toArray]; omega)
  rw [slice_stL _ hk]
  refine ⟨.ref _, _, I5.laid (t' := s4.toks) (o := .lst (stepL k xs)) (fun b ob q => Heap.get?_push_of_some _ q) (Nat.le_refl _) ?_, rfl, q _ (I5.hok.fresh (Nat.le_refl _))⟩
  exact ⟨Nat.le_trans (stepL_len xs) hz, _, 0, vals_st k r, Heap.get?_push_size _ rfl⟩
def kStpL {M : Type} (Q : D → M → Prop) (x y : D) (m : M) : Prop := match x, y with
  | .lst ds, .int k => D.nls ds = true ∧ 1 ≤ k ∧ Q (.lst (stepL k.toNat ds)) m
  | _, _ => False
theorem kStpL_inv {M : Type} {Q : D → M → Prop} {x y : D} {m : M} (h : kStpL Q x y m) : ∃ (ds : List D) (j : Nat), x = .lst ds ∧ y = .int (j : Int) ∧ D.nls ds = true ∧ 1 ≤ j ∧ Q (.lst (stepL j ds)) m := by
  cases x <;> cases y <;> try exact h.elim
  rename_i ds k
  obtain ⟨a, b, c⟩ := h
  exact ⟨ds, k.toNat, rfl, by congr 1; omega, a, by omega, c⟩
def dStpL {M : Type} (t u : DT M) : DT M := fun ρ m Q Z => t ρ m (fun x m1 => u ρ m1 (fun y m2 => kStpL Q x y m2) Z) Z
theorem j_stpL {t u : DT C.W.M} {p3 pos : Pos} (ha : J .w X C e t) (hf : J .w X C f u) : J .f X C (.Subscript e (.Slice none none (some f) p3) pos) (dStpL t u) := by
  obtain ⟨te, p, q1⟩ := ha
  obtain ⟨tf, p', q2⟩ := hf
  refine ⟨_, pe_stL p p', fun σ H Pr F ρ m Q Z R S E h k => ?_⟩
  refine q1 σ H Pr F ρ m _ Z _ S E h fun v H1 ⟨P1, F1, m1, d, S1, t1, dv, z⟩ => ?_
  refine q2 σ H1 P1 F1 ρ m1 _ Z _ S1 (E.te t1.toTr) z fun w H2 ⟨P2, F2, m2, d2, S2, t2, dw, z2⟩ => ?_
  have dv : Dn false X.K F2 (wv F2 H2) v d := Dn.te t2 dv
  obtain ⟨ds, j, rfl, rfl, z3, z4, z5⟩ := kStpL_inv z2
  obtain ⟨a, us, rfl, hs, hl, hd⟩ := dv.sqL (fun _ _ => wv_le)
  cases dw
  have hr := dna_st j hd
  exact ⟨a, us, j, rfl, rfl, z4, hs, fun p hp => k _ _ ((post_new S2 hp (hr |>.up (nls_st z3)) z5).te (t1.trans t2))⟩
end
section
variable {M : Type} {ρ : En} {m : M} {Q : D → M → Prop} {Z : Str → M → Prop} {t u : DT M}
theorem v_stpL (h : t ρ m (fun x m1 => u ρ m1 (fun y m2 => kStpL Q x y m2) Z) Z) : dStpL t u ρ m Q Z := h
theorem v_kStpL {ds : List D} {k : Nat} (n : D.nls ds = true) (h2 : 1 ≤ k) (h : Q (.lst (stepL k ds)) m) : kStpL Q (.lst ds) (.int (k : Int)) m := ⟨n, by omega, h⟩
end
end RR
namespace RR
open PySem PySem.Spec PyProof.Rows L2
section
variable {K : PySem.W.Frag} {C : Cn} {Pr : Addr → Prop} {F : List Addr} {σ : L2.St} {ρ : En} {m : C.W.M} {H : Hp}
theorem set_far {α : Type} (l : List α) (x : α) : l.set l.length x = l := List.set_eq_of_length_le (Nat.le_refl _)
end
section
variable {X : Cx} {C : Cn} {pos : Pos}
end
end RR
namespace RR
open PySem PySem.Spec PyProof.Rows L2
section
variable {X : Cx} {C : Cn}
end
end RR
namespace RR
open PySem PySem.Spec PyProof.Rows L2
section
variable {K : PySem.W.Frag} {C : Cn} {Pr : Addr → Prop} {F : List Addr} {σ : L2.St} {ρ : En} {m : C.W.M} {H : Hp}
theorem SR.setB (S : SR K C Pr F σ ρ m H) {v : V} {d : D} (i : Nat) (h : Dn false K C.F0 (wv C.F0 C.K0) v d) : SR K C Pr F (σ.set i (some v)) (ρ.set i (.bor d)) m H where
  keep := S.keep
  pre := S.pre
  new := S.new
  prs := S.prs
  prn := S.prn
  prf := S.prf
  rz := S.rz
  len := by simpa using S.len
  slot := fun j s e => by
    rcases get_set e with ⟨rfl, rfl⟩ | ⟨ne, e⟩
    · have hi : j < σ.length := by rw [← S.len]; exact lt_of_set e
      exact ⟨v, by rw [List.getElem?_set_self hi], h⟩
    · rw [List.getElem?_set_ne (Ne.symm ne)]
      exact S.slot j s e
  dist := fun a b ds es p ne ea eb sa sb => by
    rcases get_set ea with ⟨rfl, q⟩ | ⟨na, ea⟩
    · cases q
    · rcases get_set eb with ⟨rfl, q⟩ | ⟨nb, eb⟩
      · cases q
      · rw [List.getElem?_set_ne (Ne.symm na)] at sa
        rw [List.getElem?_set_ne (Ne.symm nb)] at sb
        exact S.dist a b ds es p ne ea eb sa sb
end
section
variable {X : Cx} {C : Cn} {e a b : Expr} {pos : Pos}
def JGB (X : Cx) (C : Cn) (tg : Expr) (ws : List Nat) (g : DG) : Prop := ∃ tgt, PG X tg tgt ∧
  ∀ σ H Pr F ρ (m : C.W.M) v d Q (R : L2.St → Hp → Prop), SR X.K C Pr F σ ρ m H → Dn false X.K C.F0 (wv C.F0 C.K0) v d → g d ρ Q →
    (∀ σ' ρ', SR X.K C Pr F σ' ρ' m H → (∀ vs, (∀ i ∈ ws, i ∈ vs) → L2.wipe σ' vs = L2.wipe σ vs) → Q ρ' → R σ' H) → tgt v σ H R
def dgB (i : Nat) : DG := fun d ρ Q => Q (ρ.set i (.bor d))
theorem jgb_name (i : Nat) {x : Str} (hN : X.N.Nodup) (hi : X.N[i]? = some x := by rfl) (hx : Loc X.env.scope x := by first | exact .inl rfl | exact .inr rfl) (hf : X.fn x = true ∨ X.env.scope.names.lookup x = some .local := by first | exact .inl rfl | exact .inr rfl) : JGB X C (.Name x pos) [i] (dgB i) := by
  refine ⟨_, pg_name hN hi hx hf, fun σ H Pr F ρ m v d Q R S dv q k => ?_⟩
  exact k _ _ (S.setB i dv) (fun vs h => wipe_set (h i (by simp))) q
def WkB (K : PySem.W.Frag) (C : Cn) (Pr : Addr → Prop) (F : List Addr) (H : Hp) (items : List D) (J : It) : Prop := ∃ (G : Hp → Prop) (Y : Nat → Hp → V → Hp → Prop), Walk J items.length G Y ∧
  ∀ Pr' F' H', Te Pr F H Pr' F' H' → G H' ∧ ∀ i v H2, Y i H' v H2 → (∀ a o, H' a = some o → H2 a = some o) ∧ ∃ d, items[i]? = some d ∧ Dn false K C.F0 (wv C.F0 C.K0) v d
def JIB (X : Cx) (C : Cn) (tg iter : Expr) (t : DTA C.W.M) : Prop := ∃ wi, PI X tg iter wi ∧
  ∀ σ H Pr F ρ m Q Z (R : It → Hp → Prop), SR X.K C Pr F σ ρ m H → Ex X C Pr F H σ ρ Z → t ρ m Q Z →
    (∀ J H', (∃ Pr' F' m' items, SR X.K C Pr' F' σ ρ m' H' ∧ Te Pr F H Pr' F' H' ∧ WkB X.K C Pr' F' H' items J ∧ Q items m') → R J H') → wi σ H R
def dSeqB {M : Type} (i : Nat) : DTA M := fun ρ m Q _ => match ρ[i]? with | some (.bor (.lst ds)) | some (.bor (.tup ds)) => Q ds m | _ => False
theorem ji_borB {tg : Expr} (i : Nat) {x : Str} (hN : X.N[i]? = some x := by rfl) (hv : Vis X.env.scope x := by first | exact Or.inl rfl | exact Or.inr (Or.inl rfl) | exact Or.inr (Or.inr rfl)) (hd : (x == ("__debug__" : Str)) = false := by decide)
    (hcd : (x == ("__classdict__" : Str)) = false := by decide) : JIB X C tg (.Name x pos) (dSeqB i) := by
  refine ⟨_, pi_seq (pe_var hN hv hd hcd), fun σ H Pr F ρ m Q Z R S E h k => ?_⟩
  unfold dSeqB at h
  split at h
  · rename_i ds e
    obtain ⟨v, e1, dv⟩ := S.slot i _ e
    refine ⟨v, e1, ?_⟩
    have b1 := bor_tr S (Tr.refl (Pr := Pr))
    cases dv with
    | lst hl r =>
      refine ⟨_, _, rfl, .inl ⟨(hl.mono b1).wv, k _ _ ⟨Pr, F, m, _, S, Te.refl, ⟨_, _, by rw [← r.length]; exact walk_list, fun P2 F2 H2 t2 => ⟨(hl.mono (bor_tr S t2.toTr)).wv, fun i v H3 y => ?_⟩⟩, h⟩⟩⟩
      obtain ⟨rfl, e⟩ := y
      exact ⟨fun _ _ h => h, dn_get r e⟩
  · rename_i ds e
    obtain ⟨v, e1, dv⟩ := S.slot i _ e
    refine ⟨v, e1, ?_⟩
    have b1 := bor_tr S (Tr.refl (Pr := Pr))
    cases dv with
    | tup hl r =>
      refine ⟨_, _, rfl, .inr ⟨(hl.mono fun a xs => b1 a _).wv, k _ _ ⟨Pr, F, m, _, S, Te.refl, ⟨_, _, by rw [← r.length]; exact walk_tup, fun P2 F2 H2 t2 => ⟨(hl.mono fun a xs => bor_tr S t2.toTr a _).wv, fun i v H3 y => ?_⟩⟩, h⟩⟩⟩
      obtain ⟨rfl, e⟩ := y
      exact ⟨fun _ _ h => h, dn_get r e⟩
  · exact h.elim
variable {elt tg iter : Expr} {ifs : List Expr} {scope : Scope} {own : List (Str × Nat)} {ti : DTA C.W.M} {g : DG} {dt : DTT C.W.M} {de : DT C.W.M} {ws : List Nat}
def cnGB (K : PySem.W.Frag) (C : Cn) (ws : List Nat) (g : DG) : TG := fun v σ H R => ∃ Pr F ρ, ∃ m : C.W.M, ∃ d Q, SR K C Pr F σ ρ m H ∧ Dn false K C.F0 (wv C.F0 C.K0) v d ∧ g d ρ Q ∧
    (∀ σ' ρ', SR K C Pr F σ' ρ' m H → (∀ vs, (∀ i ∈ ws, i ∈ vs) → L2.wipe σ' vs = L2.wipe σ vs) → Q ρ' → R σ' H)
theorem JGB.cn {X : Cx} {C : Cn} {ws : List Nat} {e : Expr} {g : DG} (h : JGB X C e ws g) : PG X e (cnGB X.K C ws g) := by
  obtain ⟨te, p, q⟩ := h
  exact ⟨fun pins s σ H v u R I r ⟨Pr, F, ρ, m, d, Q, S, dv, z, k⟩ => p.run pins s σ H v u R I r (q σ H Pr F ρ m v d Q R S dv z k)⟩
end
section
variable {M : Type} {ρ : En} {m : M} {nx : En → M → Prop} {rt : D → M → Prop} {bk ct : En → M → Prop} {ex : Str → M → Prop} {Q : List D → M → Prop} {Z : Str → M → Prop} {ds : List D} {d : D}
end
end RR
namespace RR
open PySem PySem.Spec PyProof.Rows L2
theorem DnA.ints_inv {s : Bool} {K : PySem.W.Frag} {F : List Addr} {G : Hp} : ∀ {vs : List V} {ns : List Int}, DnA s K F G vs (zz ns) → vs = ns.map V.int
  | _, [], h => by cases h; rfl
  | _, n :: ns, h => by
    have h : DnA s K F G _ (.int n :: zz ns) := h
    cases h with
    | cons a b =>
      cases a
      rw [DnA.ints_inv b, List.map_cons]
def DrSt (N : Nat) (F : List Addr) (H : Hp) : Prop := ∃ (am ac ad : Addr) (cs ds : List Int) (n : Int), F = [am, ac, ad] ∧ am ≠ ac ∧ am ≠ ad ∧ ac ≠ ad ∧
  H am = some (.dK [(Sum.inr "cells", .ref ac), (Sum.inr "digits", .ref ad), (Sum.inr "at", .int n)]) ∧ H ac = some (.lst (cs.map V.int)) ∧ H ad = some (.lst (ds.map V.int)) ∧
  0 ≤ n ∧ n + (N : Int) ≤ 2 ^ 60 ∧ cs.length = 64 ∧ (∀ c ∈ cs, 0 ≤ c ∧ c < 2147483647) ∧ ds.length < sizeLine
def DrW : Wd where
  M := Option Nat
  Rz := fun m F H => match m with | none => F = [] | some N => DrSt N F H
  keep := fun {m F H H'} h k _ => by
    cases m with
    | none => exact h
    | some N =>
      obtain ⟨am, ac, ad, cs, ds, n, rfl, x1, x2, x3, e1, e2, e3, r⟩ := h
      exact ⟨am, ac, ad, cs, ds, n, rfl, x1, x2, x3, (k _ (by simp)).trans e1, (k _ (by simp)).trans e2, (k _ (by simp)).trans e3, r⟩
  there := fun {m F H} h a ha => by
    cases m with
    | none =>
      have h : F = [] := h
      rw [h] at ha; cases ha
    | some N =>
      obtain ⟨am, ac, ad, cs, ds, n, rfl, x1, x2, x3, e1, e2, e3, r⟩ := h
      simp only [List.mem_cons, List.not_mem_nil, or_false] at ha
      rcases ha with rfl | rfl | rfl
      · exact ⟨_, e1, fun h => h⟩
      · exact ⟨_, e2, fun h => h⟩
      · exact ⟨_, e3, fun h => h⟩
def s__law_mixed {M : Type} : DSp M := fun ds m Q Z => ∃ c k, ds = [.int c, .int k] ∧ c.natAbs < 2 ^ 70 ∧ 0 ≤ k ∧ k < 2 ^ 62 ∧ ∀ x, 0 ≤ x → x < 2 ^ 30 → Q (.int x) m
def s__law_folded {M : Type} : DSp M := fun ds m Q Z => ∃ ns, ds = [.lst (zz ns)] ∧ ns.length ≤ 63 ∧ ∀ cs : List Int, cs.length = 64 → (∀ c ∈ cs, 0 ≤ c ∧ c < 2147483647) → Q (.lst (zz cs)) m
abbrev hdl : Nat := 0
def s__law_draw : DSp (Option Nat) := fun ds m Q Z => ∃ N many, ds = [.hnd hdl, .int many] ∧ m = some (N + 1) ∧ 0 < many ∧ many.natAbs < 2 ^ 8000 ∧ ∀ x, 0 ≤ x → x < many → Q (.int x) (some N)
def s__law_begun : DSp (Option Nat) := fun ds m Q Z => ∃ ns, ds = [.lst (zz ns)] ∧ ns.length ≤ 63 ∧ m = none ∧ Q (.hnd hdl) (some (2 ^ 50))
def s0__law_draw : DSp (Option Nat) := fun ds m Q Z => ∃ N many, ds = [.hnd 0, .int many] ∧ m = some (N + 1) ∧ 0 < many ∧ many.natAbs < 2 ^ 8000 ∧ ∀ x, 0 ≤ x → x < many → Q (.int x) (some N)
def s0__law_begun : DSp (Option Nat) := fun ds m Q Z => ∃ ns, ds = [.lst (zz ns)] ∧ ns.length ≤ 63 ∧ m = none ∧ Q (.hnd 0) (some (2 ^ 50))
def hMix : Sp := fun vs H Q _ => ∃ c k, vs = [.int c, .int k] ∧ c.natAbs < 2 ^ 70 ∧ 0 ≤ k ∧ k < 2 ^ 62 ∧ ∀ x H', 0 ≤ x → x < 2 ^ 30 → Same H H' → Q (.int x) H'
def hFold (K : PySem.W.Frag) : Sp := fun vs H Q _ => ∃ (a : Addr) (ns : List Int), vs = [.ref a] ∧ SqL K H a (ns.map V.int) ∧ ns.length ≤ 63 ∧ ∀ (cs : List Int) p H', Same H H' → H p = none → H' p = some (.lst (cs.map V.int)) → cs.length = 64 → (∀ c ∈ cs, 0 ≤ c ∧ c < 2147483647) → Q (.ref p) H'
section
variable {P : Program} {w : World} {K : PySem.W.Frag} {mg : Str → Option Value} {base : Heap} {k : Nat} {f : Addr} {fd : FuncData} {ps : List Str}
theorem hMix_of (F : FnG P w K mg base (L2.CX P w) k f fd ps (spD K mg W0 s__law_mixed)) : FnG P w K mg base (L2.CX P w) k f fd ps hMix := by
  refine F.imp fun vs H Q E h => ?_
  obtain ⟨c, n, rfl, h1, h2, h3, q⟩ := h
  refine ⟨[], (), [.int c, .int n], fun d _ => ∃ x, d = .int x ∧ 0 ≤ x ∧ x < 2 ^ 30, fun _ _ => False, rfl, .cons (.int c) (.cons (.int n) .nil), ⟨c, n, rfl, h1, h2, h3, fun x a b => ⟨x, rfl, a, b⟩⟩, fun v H' F' d m' _ _ _ kp dn e => ?_, fun _ _ _ _ _ _ _ _ _ _ z => z.elim⟩
  obtain ⟨x, rfl, a, b⟩ := e
  cases dn
  exact q x H' a b fun a o e => kp a o (by simp) e
theorem hFold_of (F : FnG P w K mg base (L2.CX P w) k f fd ps (spD K mg W0 s__law_folded)) : FnG P w K mg base (L2.CX P w) k f fd ps (hFold K) := by
  refine F.imp fun vs H Q E h => ?_
  obtain ⟨a, ns, rfl, hs, hl, q⟩ := h
  refine ⟨[], (), [.lst (zz ns)], fun d _ => ∃ cs : List Int, d = .lst (zz cs) ∧ cs.length = 64 ∧ ∀ c ∈ cs, 0 ≤ c ∧ c < 2147483647, fun _ _ => False, rfl, .cons (.lst (Ls.mono (s := false) (fun a o e => vw_iff.mpr ⟨e, by simp⟩) (show Ls false K H a _ from hs)) (ints_dn ns)) .nil, ⟨ns, rfl, hl, fun cs a b => ⟨cs, rfl, a, b⟩⟩, fun v H' F' d m' _ _ _ kp dn e => ?_, fun _ _ _ _ _ _ _ _ _ _ z => z.elim⟩
  obtain ⟨cs, rfl, c1, c2⟩ := e
  cases dn with
  | lst g r =>
    rename_i p xs
    have g : sv H (· ∈ F') H' p = some (.lst xs) := g
    obtain ⟨e1, e2⟩ := vw_iff.mp g
    rcases e2 with e2 | e2
    · exact e2.elim
    · rw [r.ints_inv] at e1
      exact q cs p H' (fun a o e => kp a o (by simp) e) e2.2.2 e1 c1 c2
end
abbrev drV (ac ad : Addr) (n : Int) : List (L2.Key × V) := [(Sum.inr "cells", .ref ac), (Sum.inr "digits", .ref ad), (Sum.inr "at", .int n)]
abbrev N__law_draw : List Str := ["_law_m", "_law_many", "_law_k", "_law_at", "_law_cell"]
abbrev N__law_begun : List Str := ["_law_script", "_law_m"]
end RR
namespace RR
open PySem PySem.Spec PyProof.Rows L2
section
variable {K : PySem.W.Frag} {E : L2.St → XK}
abbrev tLen (K : PySem.W.Frag) (t : TA) : TE := tCB (fun xs H Q => ∃ p ys, xs = [V.ref p] ∧ (SqL K H p ys ∨ SqT K H p ys) ∧ Q (V.int ys.length) H) t
abbrev tFld (i : Nat) (x : Str) : TE := tDGet (tVar i) (tC (V.str x))
abbrev tMod (a b : TE) : TE := tOp (rI (fun _ j => j ≠ 0) fun i j => V.int (i.fmod j)) a b
abbrev tDiv (a b : TE) : TE := tOp (rI Nd fun i j => V.int (i.fdiv j)) a b
abbrev tAdd (a b : TE) : TE := tOp (rI0 fun i j => V.int (i + j)) a b
abbrev t_last (K : PySem.W.Frag) (E : L2.St → XK) : TE :=
  tMod (tCallSD hMix [] E (tCons (tCallSD hMix [] E (tCons (tAdd (tOp (rIxL K) (tFld 0 "cells") (tMod (tVar 2) (tC (V.int 64)))) (tOp (rI IntMulOk fun i j => V.int (i * j)) (tC (V.int 31)) (tDiv (tVar 2) (tC (V.int 64))))) (tCons (tVar 2) tNil)))
    (tCons (tAdd (tVar 2) (tC (V.int 7))) tNil))) (tVar 1)
abbrev t_draw (K : PySem.W.Frag) (E : L2.St → XK) : TS :=
  tSeq (tAsg (tFld 0 "at") (gName 2))
    (tSeq (sDPut (tVar 0) (tC (V.str "at")) (tAdd (tVar 2) (tC (V.int 1))))
    (tSeq (tIfS (tTest (tOp (rNeD K) (tFld 0 "digits") (tLst tNil)))
      (tSeq (tAsg (tMod (tVar 2) (tLen K (tCons (tFld 0 "digits") tNil))) (gName 3))
      (tSeq (tAsg (tOp (rIxL K) (tFld 0 "digits") (tVar 3)) (gName 4))
        (tIfS (tTest (tOp (rIn K true) (tVar 4) (tTup (tCons (tC (V.int 0)) (tCons (tUn (rU fun i => V.int (-i)) (tC (V.int 1))) tNil)))))
          (tSeq (tAsg (tDiv (tVar 4) (tVar 1)) (gSub (tFld 0 "digits") (tVar 3) rSetL)) (tRet (tMod (tVar 4) (tVar 1))))
          tNext)))
      tNext)
    (tRet (t_last K E))))
theorem rd_last {am ac ad : Addr} {cs : List Int} {n many : Int} {y3 y4 : Option V} {Q : VK} {H : Hp} (e1 : H am = some (.dK (drV ac ad (n + 1)))) (e2 : H ac = some (.lst (cs.map V.int))) (n0 : 0 ≤ n) (n1 : n < 2 ^ 60)
    (lc : cs.length = 64) (bc : ∀ c ∈ cs, 0 ≤ c ∧ c < 2147483647) (hp : 0 < many) (fin : ∀ H' x, Same H H' → 0 ≤ x → x < many → Q (.int x) H') :
    t_last K E [some (.ref am), some (.int many), some (.int n), y3, y4] H Q := by
  have k0 : 0 ≤ n.fmod 64 := Int.fmod_nonneg_of_pos _ (by decide)
  have k1 : n.fmod 64 < 64 := Int.fmod_lt_of_pos _ (by decide)
  have ci : (n.fmod 64).toNat < cs.length := by omega
  obtain ⟨b0, b1⟩ := bc _ (List.getElem_mem ci)
  have g : atI (cs.map V.int) (n.fmod 64) = some (.int cs[(n.fmod 64).toNat]) := by
    rw [atI_at k0 (by rw [List.length_map, lc]; exact k1), List.getElem_map]
  have d0 : n.fdiv 64 = n / 64 := fdiv_pos (by decide)
  refine ⟨.ref am, rfl, am, .ref ac, rfl, DGet.k (k := Sum.inr "cells") e1,   .int n, rfl, n, 64, rfl, rfl, (by decide : (64 : Int) ≠ 0), ac, _, _, _, rfl, rfl, .inl (.inl e2), g,
    .int n, rfl, n, 64, rfl, rfl, nd_small (b := 8) (by decide) (bd_lit (by decide)), 31, n.fdiv 64, rfl, rfl, mulok (a := 5) (b := 62) (bd_lit (by decide)) ?_, _, _, rfl, rfl, .int n, rfl, _, n, rfl, ?_, n0, by omega, fun x H1 h0 h1 s1 =>
    ⟨.int n, rfl, n, 7, rfl, rfl, x, n + 7, rfl, ?_, by omega, by omega, fun y H2 h2 h3 s2 => ⟨.int many, rfl, y, many, rfl, rfl, by omega, fin H2 _ (s1.trans s2) (Int.fmod_nonneg_of_pos _ hp) (Int.fmod_lt_of_pos _ hp)⟩⟩⟩
  · rw [d0]; unfold bd; omega
  · rw [d0]; omega
  · omega
theorem rd_draw {mg : Str → Option Value} {vs : List V} {H : Hp} {Q : VK} {X : XK} (h : spD K mg DrW s0__law_draw vs H Q X) : t_draw K E { nx := fun _ H' => Q .non H', rt := Q } (L2.start N__law_draw vs) H := by
  obtain ⟨F0, m, ds, Qd, Zd, rz, dv, ⟨N, many, rfl, rfl, hp, hb, q⟩, hq, _⟩ := h
  obtain ⟨am, ac, ad, cs, dg, n, rfl, x1, x2, x3, e1, e2, e3, n0, nN, lc, bc, ld⟩ := rz
  cases dv with
  | cons d1 dv =>
  cases dv with
  | cons d2 dv =>
  cases dv
  cases d1 with
  | hnd e =>
  cases d2
  cases (Option.some.inj e)
  have e1 : H am = some (.dK (drV ac ad n)) := e1
  have nN' : n + N + 1 ≤ 2 ^ 60 := by omega
  have fin : ∀ (H' : Hp) (dg' : List Int) x, H' am = some (.dK (drV ac ad (n + 1))) → H' ac = some (.lst (cs.map V.int)) → H' ad = some (.lst (dg'.map V.int)) → dg'.length = dg.length → (∀ a o, a ∉ [am, ac, ad] → H a = some o → H' a = some o) → 0 ≤ x → x < many → Q (.int x) H' :=
    fun H' dg' x f1 f2 f3 l kp h0 h1 => hq (.int x) H' [am, ac, ad] (.int x) (some N) ⟨am, ac, ad, cs, dg', n + 1, rfl, x1, x2, x3, f1, f2, f3, by omega, by omega, lc, bc, by omega⟩ ⟨[], by simp⟩ (fun a h z => absurd h z) kp (.int x) (q x h0 h1)
  refine ⟨.ref am, rfl, am, .int n, rfl, DGet.k (k := Sum.inr "at") e1, .int n, rfl, n, 1, rfl, rfl, .ref am, rfl, am, upd H am (.dK (drV ac ad (n + 1))), rfl, DPut.k (k := Sum.inr "at") e1 (lt_line (show 3 < 16777216 by decide)), ?_⟩
  have f1 : upd H am (.dK (drV ac ad (n + 1))) am = some (.dK (drV ac ad (n + 1))) := upd_same
  have f2 : upd H am (.dK (drV ac ad (n + 1))) ac = some (.lst (cs.map V.int)) := by rw [upd_ne x1.symm]; exact e2
  have f3 : upd H am (.dK (drV ac ad (n + 1))) ad = some (.lst (dg.map V.int)) := by rw [upd_ne x2.symm]; exact e3
  have kp : ∀ a o, a ∉ [am, ac, ad] → H a = some o → upd H am (.dK (drV ac ad (n + 1))) a = some o := fun a o z e => by
    rw [upd_ne (fun q => z (by rw [q]; simp))]; exact e
  generalize upd H am (.dK (drV ac ad (n + 1))) = H1 at f1 f2 f3 kp ⊢
  have last : ∀ (H' : Hp) (y3 y4 : Option V), Same H1 H' → t_last K E [some (.ref am), some (.int many), some (.int n), y3, y4] H' Q := fun H' y3 y4 s =>
    rd_last (s _ _ f1) (s _ _ f2) n0 (by omega) lc bc hp fun H2 x s2 h0 h1 => fin H2 dg x (s2 _ _ (s _ _ f1)) (s2 _ _ (s _ _ f2)) (s2 _ _ (s _ _ f3)) rfl (fun a o z e => s2 _ _ (s _ _ (kp a o z e))) h0 h1
  refine ⟨.ref am, rfl, am, .ref ad, rfl, DGet.k (k := Sum.inr "digits") f1, Nat.zero_le _, fun p np => ?_⟩
  have s1 : Same H1 (upd H1 p (.lst [])) := fun b o z => by rw [upd_ne (fun q => by rw [q, np] at z; cases z)]; exact z
  have fp : upd H1 p (.lst []) p = some (.lst []) := upd_same
  generalize upd H1 p (.lst []) = H2 at s1 fp ⊢
  have g1 := s1 _ _ f1
  have g2 := s1 _ _ f2
  have g3 := s1 _ _ f3
  have dn : Dn true K [] H2 (.ref ad) (.lst (zz dg)) := .lst (show Ls true K H2 ad _ from g3) (ints_dn dg)
  have dn0 : Dn true K [] H2 (.ref p) (.lst (zz [])) := .lst (show Ls true K H2 p _ from fp) .nil
  refine ⟨_, _, dn.dp (n := 8) (fun _ _ h => h) (q_lst dg), dn0.dp (n := 8) (fun _ _ h => h) (q_lst []), shaped_q (q_lst dg), shaped_q (q_lst []), _, rfl, ?_⟩
  rw [py_eqv (q_lst (n := 7) dg) (q_lst []), eqv_lst]
  by_cases hd : dg = []
  · rw [decide_eq_true hd]
    exact iteF (last H2 none none s1)
  · rw [decide_eq_false hd]
    refine iteT ?_
    have l0 : 0 < dg.length := List.length_pos_iff.mpr hd
    have k0 : 0 ≤ n.fmod dg.length := Int.fmod_nonneg_of_pos _ (by omega)
    have k1 : n.fmod dg.length < dg.length := Int.fmod_lt_of_pos _ (by omega)
    have em : n.fmod ((dg.map V.int).length : Int) = n.fmod dg.length := by rw [List.length_map]
    refine ⟨.int n, rfl, .ref am, rfl, am, .ref ad, rfl, DGet.k (k := Sum.inr "digits") g1, ad, _, rfl, .inl (.inl (.inl g3)), n, _, rfl, rfl, by rw [List.length_map]; omega, ?_⟩
    show gName 3 (.int (n.fmod ((dg.map V.int).length : Int))) _ _ _
    rw [em]
    generalize n.fmod dg.length = j at k0 k1 ⊢
    obtain ⟨c, gj⟩ : ∃ c, atI (dg.map V.int) j = some (.int c) := ⟨dg[j.toNat]'(by omega), by rw [atI_at k0 (by rw [List.length_map]; exact k1), List.getElem_map]⟩
    refine ⟨.ref am, rfl, am, .ref ad, rfl, DGet.k (k := Sum.inr "digits") g1, .int j, rfl, ad, _, _, _, rfl, rfl, .inl (.inl g3), gj, .int c, rfl, 1, rfl, show 2 ≤ sizeLine from small_line (by decide), fun t nt => ?_⟩
    have s2 : Same H2 (upd H2 t (.tup [.int 0, .int (-1)])) := fun b o z => by rw [upd_ne (fun q => by rw [q, nt] at z; cases z)]; exact z
    have ft : upd H2 t (.tup [.int 0, .int (-1)]) t = some (.tup [.int 0, .int (-1)]) := upd_same
    generalize upd H2 t (.tup [.int 0, .int (-1)]) = H3 at s2 ft ⊢
    refine ⟨t, _, rfl, .inr (.inl (.inl ft)), rfl, rfl, _, rfl, ite2 (fun z => ?_) fun z => ?_⟩
    · have nj : ixN (dg.map V.int).length j = some j.toNat := ixN_at k0 (by rw [List.length_map]; exact k1)
      refine ⟨.int c, rfl, .int many, rfl, c, many, rfl, rfl, nd_small (b := 8000) (by omega) hb, .ref am, rfl, am, .ref ad, rfl, DGet.k (k := Sum.inr "digits") (s2 _ _ g1), .int j, rfl, ad, _, j, j.toNat, rfl, rfl, s2 _ _ g3, nj,
        .int c, rfl, .int many, rfl, c, many, rfl, rfl, by omega, ?_⟩
      refine fin _ (dg.set j.toNat (c.fdiv many)) _ ?_ ?_ ?_ (List.length_set ..) (fun a o z e => ?_) (Int.fmod_nonneg_of_pos _ hp) (Int.fmod_lt_of_pos _ hp)
      · rw [upd_ne x2]; exact s2 _ _ g1
      · rw [upd_ne x3]; exact s2 _ _ g2
      · rw [upd_same, List.map_set]
      · rw [upd_ne (fun q => z (by rw [q]; simp))]; exact s2 _ _ (s1 _ _ (kp a o z e))
    · exact last H3 _ _ (s1.trans s2)
abbrev t_begun (K : PySem.W.Frag) (E : L2.St → XK) : TS :=
  tSeq (tAsg (tDisp [(tC (V.str "cells"), tCallSD (hFold K) [] E (tCons (tVar 0) tNil)), (tC (V.str "digits"), tLst tNil), (tC (V.str "at"), tC (V.int 0))]) (gName 1))
    (tSeq (tIfS (tAnd (tTest (tOp (rNeD K) (tVar 0) (tLst tNil))) (tTest (tOp rEq (tMod (tOp (rIxL K) (tVar 0) (tC (V.int 0))) (tC (V.int 2))) (tC (V.int 1)))))
      (sDPut (tVar 1) (tC (V.str "digits")) (tOp rCat (tLst (tCons (tDiv (tOp (rIxL K) (tVar 0) (tC (V.int 0))) (tC (V.int 2))) tNil)) (tSl (rSlL K) (tVar 0) (tPart (tC (V.int 1))) tNoPart)))
      tNext)
    (tRet (tVar 1)))
theorem same_new {H : Hp} {p : Addr} {o : HO} (n : H p = none) : Same H (upd H p o) := fun b x z => by rw [upd_ne (fun q => by rw [q, n] at z; cases z)]; exact z
theorem ne_none {H : Hp} {p q : Addr} {o : HO} (e : H p = some o) (n : H q = none) : p ≠ q := fun z => by rw [z, n] at e; cases e
theorem none_back {H H' : Hp} {a : Addr} (s : Same H H') (n : H' a = none) : H a = none := by
  cases e : H a with
  | none => rfl
  | some o => rw [s _ _ e] at n; cases n
theorem rd_begun {mg : Str → Option Value} {vs : List V} {H : Hp} {Q : VK} {X : XK} (h : spD K mg DrW s0__law_begun vs H Q X) : t_begun K E { nx := fun _ H' => Q .non H', rt := Q } (L2.start N__law_begun vs) H := by
  obtain ⟨F0, m, ds, Qd, Zd, rz, dv, ⟨ns, rfl, hl, rfl, q⟩, hq, _⟩ := h
  have rz : F0 = [] := rz
  subst rz
  cases dv with
  | cons d1 dv =>
  cases dv
  cases d1 with
  | lst hs hr =>
  rename_i a xs
  have hx := hr.ints_inv
  subst hx
  have hs : SqL K H a (ns.map V.int) := Ls.mono (s := false) (fun _ _ => wv_le) hs
  refine fun p np => ⟨.ref a, rfl, a, ns, rfl, (same_new np).seq hs, hl, fun cs c H1 s1 nc ec lc bc => ⟨Nat.zero_le _, fun g ng => ⟨?_, [(Sum.inr "cells", .ref c), (Sum.inr "digits", .ref g), (Sum.inr "at", .int 0)], rfl, (show 3 ≤ 15 by decide), ?_⟩⟩⟩
  · exact same_new ng _ _ (s1 _ _ upd_same)
  show tSeq _ _ _ [some (.ref a), some (.ref p)] (upd (upd H1 g (.lst [])) p (.dK (drV c g 0)))
  have npc : p ≠ c := fun z => by rw [← z, upd_same] at nc; cases nc
  have ncH : H c = none := by rw [upd_ne npc.symm] at nc; exact nc
  have ep1 : H1 p = some (.dK []) := s1 _ _ upd_same
  have npg : p ≠ g := ne_none ep1 ng
  have ncg : c ≠ g := ne_none ec ng
  have sH : ∀ b o, H b = some o → H1 b = some o := fun b o e => s1 _ _ (same_new np _ _ e)
  have ngH : H g = none := none_back sH ng
  have f1 : upd (upd H1 g (.lst [])) p (.dK (drV c g 0)) p = some (.dK (drV c g 0)) := upd_same
  have f2 : upd (upd H1 g (.lst [])) p (.dK (drV c g 0)) c = some (.lst (cs.map V.int)) := by rw [upd_ne npc.symm, upd_ne ncg]; exact ec
  have f3 : upd (upd H1 g (.lst [])) p (.dK (drV c g 0)) g = some (.lst []) := by rw [upd_ne npg.symm, upd_same]
  have s2 : Same H (upd (upd H1 g (.lst [])) p (.dK (drV c g 0))) := fun b o e => by
    rw [upd_ne (fun z => by rw [z, np] at e; cases e), upd_ne (fun z => by rw [z, ngH] at e; cases e)]
    exact sH b o e
  generalize upd (upd H1 g (.lst [])) p (.dK (drV c g 0)) = H2 at f1 f2 f3 s2 ⊢
  have fin : ∀ (H' : Hp) (d : Addr) (dg : List Int), H d = none → d ≠ p → d ≠ c → H' p = some (.dK (drV c d 0)) → H' c = some (.lst (cs.map V.int)) → H' d = some (.lst (dg.map V.int)) → dg.length < sizeLine → Same H H' → Q (.ref p) H' :=
    fun H' d dg nd n1 n2 e1 e2 e3 ld s => hq (.ref p) H' [p, c, d] (.hnd 0) (some (2 ^ 50)) ⟨p, c, d, cs, dg, 0, rfl, npc, n1.symm, n2.symm, e1, e2, e3, by decide, by decide, lc, bc, ld⟩ ⟨[p, c, d], rfl⟩
      (fun x hx _ => by simp only [List.mem_cons, List.not_mem_nil, or_false] at hx; rcases hx with rfl | rfl | rfl <;> assumption) (fun x o _ e => s x o e) (.hnd rfl) q
  have hs2 : SqL K H2 a (ns.map V.int) := s2.seq hs
  refine ⟨.ref a, rfl, Nat.zero_le _, fun t nt => ?_⟩
  have s3 := same_new (o := .lst []) nt
  have et : upd H2 t (.lst []) t = some (.lst []) := upd_same
  generalize upd H2 t (.lst []) = H3 at s3 et ⊢
  have dn : Dn false K [] H3 (.ref a) (.lst (zz ns)) := .lst (show Ls false K H3 a _ from s3.seq hs2) (ints_dn ns)
  have dn0 : Dn true K [] H3 (.ref t) (.lst (zz [])) := .lst (show Ls true K H3 t _ from et) .nil
  refine ⟨_, _, dn.dp (n := 8) (fun _ _ h => h) (q_lst ns), dn0.dp (n := 8) (fun _ _ h => h) (q_lst []), shaped_q (q_lst ns), shaped_q (q_lst []), _, rfl, ?_⟩
  rw [py_eqv (q_lst (n := 7) ns) (q_lst []), eqv_lst]
  have skip : ∀ H', Same H2 H' → Q (.ref p) H' := fun H' s => fin H' g [] ngH npg.symm ncg.symm (s _ _ f1) (s _ _ f2) (s _ _ f3) (lt_line (show 0 < 16777216 by decide)) (s2.trans s)
  by_cases hn : ns = []
  · rw [decide_eq_true hn]
    exact iteF ⟨.ref p, rfl, skip _ s3⟩
  · rw [decide_eq_false hn]
    refine iteT ?_
    obtain ⟨x, r, rfl⟩ := List.exists_cons_of_ne_nil hn
    have hs3 := s3.seq hs2
    have g0 : atI ((x :: r).map V.int) 0 = some (.int x) := atI_nat (j := 0) rfl
    refine ⟨.ref a, rfl, a, _, 0, _, rfl, rfl, hs3, g0, x, 2, rfl, rfl, (by decide : (2 : Int) ≠ 0), rfl, _, rfl, ite2 (fun _ => ?_) fun _ => ⟨.ref p, rfl, skip _ s3⟩⟩
    refine ⟨.ref a, rfl, a, _, 0, _, rfl, rfl, hs3, g0, x, 2, rfl, rfl, nd_small (b := 8) (by decide) (bd_lit (by decide)), show 1 ≤ sizeLine from small_line (by decide), fun u nu => ?_⟩
    have s4 := same_new (o := .lst [.int (x.fdiv 2)]) nu
    have eu : upd H3 u (.lst [.int (x.fdiv 2)]) u = some (.lst [.int (x.fdiv 2)]) := upd_same
    generalize upd H3 u (.lst [.int (x.fdiv 2)]) = H4 at s4 eu ⊢
    refine ⟨.ref a, rfl, 1, rfl, a, _, rfl, s4.seq hs3, fun v nv => ?_⟩
    have s5 := same_new (o := .lst (cutV ((x :: r).map V.int) (some 1) none)) nv
    have ev : upd H4 v (.lst (cutV ((x :: r).map V.int) (some 1) none)) v = some (.lst (cutV ((x :: r).map V.int) (some 1) none)) := upd_same
    generalize upd H4 v (.lst (cutV ((x :: r).map V.int) (some 1) none)) = H5 at s5 ev ⊢
    have lcut := cutV_length ((x :: r).map V.int) (some 1) none
    rw [List.length_map] at lcut
    refine ⟨u, v, _, _, rfl, rfl, s5 _ _ eu, ev, small_line (by rw [List.length_singleton]; omega), fun y ny => ?_⟩
    obtain ⟨more, em, lm⟩ : ∃ more : List Int, cutV ((x :: r).map V.int) (some 1) none = more.map V.int ∧ more.length ≤ 63 := by
      refine ⟨_, show List.take _ (List.drop _ (List.map V.int (x :: r))) = _ by rw [← List.map_drop, ← List.map_take], ?_⟩
      rw [List.length_take, List.length_drop]; omega
    rw [em]
    have s6 := same_new (o := .lst ([V.int (x.fdiv 2)] ++ more.map V.int)) ny
    have ey : upd H5 y (.lst ([V.int (x.fdiv 2)] ++ more.map V.int)) y = some (.lst ([V.int (x.fdiv 2)] ++ more.map V.int)) := upd_same
    have sA := ((s3.trans s4).trans s5)
    have nyH : H2 y = none := none_back sA ny
    generalize upd H5 y (.lst ([V.int (x.fdiv 2)] ++ more.map V.int)) = H6 at s6 ey ⊢
    have sB := sA.trans s6
    have nyp : y ≠ p := (ne_none f1 nyH).symm
    have nyc : y ≠ c := (ne_none f2 nyH).symm
    refine ⟨.ref p, rfl, p, upd H6 p (.dK (drV c y 0)), rfl, DPut.k (k := Sum.inr "digits") (sB _ _ f1) (lt_line (show 3 < 16777216 by decide)), .ref p, rfl, ?_⟩
    refine fin _ y (x.fdiv 2 :: more) (none_back s2 nyH) nyp nyc upd_same ?_ ?_ (lt_line (by rw [List.length_cons]; omega)) fun b o e => ?_
    · rw [upd_ne npc.symm]; exact sB _ _ f2
    · rw [upd_ne nyp]; exact ey
    · rw [upd_ne (fun z => by rw [z, np] at e; cases e)]; exact sB _ _ (s2 _ _ e)
end
theorem okK_len : ∀ {ks : List Bool} {ds : List D}, okK ks ds → ds.length = ks.length
  | [], [], _ => rfl
  | [], _ :: _, h => h.elim
  | _ :: _, [], h => h.elim
  | _ :: _, _ :: _, h => congrArg (· + 1) (okK_len h.2)
section
variable {P : Program} {w : World} {K : PySem.W.Frag} {mg : Str → Option Value} {base : Heap} {W : Wd}
theorem Dfn.go {g x : Str} {st : Stmt} {N ps : List Str} {k : Nat} {sp : DSp W.M} {t : DS W.M} (F : Dfn K mg g x st ps) (ks : List Bool) (S : FnScope N ps (defScope st)) (body : BodyJ P w K mg base W k N x st t)
    (vc : ∀ ds m Q Z, sp ds m Q Z → okK ks ds ∧ t { nx := fun _ m' => Q .non m', rt := Q, ex := Z } (st0 ks ds N.length) m) (hk : ks.length = ps.length := by rfl) (hn : ps.length ≤ N.length := by decide) : FD P w K mg base W (k + 1) g [] sp :=
  F.fd ks S body (fun ds m Q Z h => by rw [okK_len (vc ds m Q Z h).1, hk]) vc hn
def s_law : DSp (Option Nat) := fun ds m Q Z => ∃ ns : List Int, ds = [.lst (zz ns)] ∧ ns.length ≤ 63 ∧ m = none ∧ ∀ m', Q (.bl true) m'
theorem law_go {st : Stmt} {f : Addr} {fd : FuncData} {N ps : List Str} {k : Nat} {t : DS (Option Nat)} (F : Fun K "law" "law" st f fd) (S : FnScope N ps (defScope st)) (body : BodyJ P w K mg base DrW k N "law" st t)
    (vc : ∀ ds m Q Z, s_law ds m Q Z → okK [true] ds ∧ t { nx := fun _ m' => Q .non m', rt := Q, ex := Z } (st0 [true] ds N.length) m) (hk : ps.length = 1 := by rfl) (hn : ps.length ≤ N.length := by decide) : FnG P w K mg base (L2.CX P w) (k + 1) f fd ps (spLaw K) :=
  law_of (W := DrW) (m0 := none) (sp := s_law) (fn_data (W := DrW) [true] F S (fun ds m Q Z h => (okK_len (vc ds m Q Z h).1).trans hk.symm) hn (body f) vc) (fun _ => (rfl : ([] : List Addr) = [])) fun ns hl => ⟨ns, rfl, hl, rfl, fun _ => rfl⟩
end
end RR
namespace RR
open PySem PySem.Spec PyProof.Rows L2
section
variable {P : Program} {w : World} {K : PySem.W.Frag} {mg : Str → Option Value} {base : Heap} {W : Wd}
end
end RR
namespace RR
open PySem PySem.Spec PyProof.Rows L2
abbrev Mx := Nat × List (List Int)
def MxAt (F : List Addr) (H : Hp) (W : Wd) (m : W.M) (x : Mx) : Prop :=
  ∃ (Fa : List Addr) (p : Addr) (Fq qs : List Addr), F = Fa ++ p :: Fq ∧ Fa.length = x.1 ∧ W.Rz m Fa H ∧ H p = some (.lst (qs.map V.ref)) ∧ qs.length = x.2.length ∧ qs.Nodup ∧ p ∉ qs ∧ (∀ q ∈ qs, q ∉ Fa) ∧ p ∉ Fa ∧ (∀ q ∈ qs, q ∈ Fq) ∧ (∀ q ∈ Fq, ∃ vs, H q = some (.lst vs)) ∧
    ∀ (j : Nat) (q : Addr) (row : List Int), qs[j]? = some q → x.2[j]? = some row → H q = some (.lst (row.map V.int))
def WdX (W : Wd) (n0 : Nat) : Wd where
  M := W.M × Option Mx
  Rz := fun m F H => match m.2 with | none => W.Rz m.1 F H | some x => n0 ≤ x.1 ∧ MxAt F H W m.1 x
  keep := fun {m F H H'} h k t => by
    obtain ⟨m, o⟩ := m
    cases o with
    | none => exact W.keep h k t
    | some x =>
      obtain ⟨n, Fa, p, Fq, qs, rfl, e1, e2, e3, e4, e5, e6, e7, e8, e9, e9', e10⟩ := h
      refine ⟨n, Fa, p, Fq, qs, rfl, e1, W.keep e2 (fun a ha => k a (List.mem_append_left _ ha)) t, ?_, e4, e5, e6, e7, e8, e9, fun q hq => ?_, fun j q row h1 h2 => ?_⟩
      · rw [k p (by simp)]; exact e3
      · rw [k q (by simp [hq])]; exact e9' q hq
      · have hq : q ∈ qs := List.mem_of_getElem? h1
        rw [k q (by simp [e9 q hq])]
        exact e10 j q row h1 h2
  there := fun {m F H} h a ha => by
    obtain ⟨m, o⟩ := m
    cases o with
    | none => exact W.there h a ha
    | some x =>
      obtain ⟨n, Fa, p, Fq, qs, rfl, e1, e2, e3, e4, e5, e6, e7, e8, e9, e9', e10⟩ := h
      rcases List.mem_append.mp ha with h1 | h1
      · exact W.there e2 a h1
      · rcases List.mem_cons.mp h1 with rfl | h1
        · exact ⟨_, e3, fun z => z⟩
        · obtain ⟨vs, e⟩ := e9' a h1
          exact ⟨_, e, fun z => z⟩
section
variable {X : Cx} {W : Wd} {n0 : Nat} {H0 : Hp} {F0 : List Addr} {wx : WX}
abbrev CnX (W : Wd) (n0 : Nat) (H0 : Hp) (F0 : List Addr) (wx : WX) : Cn := ⟨WdX W n0, H0, F0, wx, H0, fun _ _ h => h⟩
def isMx {M : Type} (ρ : En) (i : Nat) (m : M × Option Mx) (A : List (List Int)) : Prop := ∃ h, ρ[i]? = some (.val (.hnd h)) ∧ m.2 = some (h, A)
theorem mx_at {K : PySem.W.Frag} {Pr : Addr → Prop} {F : List Addr} {σ : L2.St} {ρ : En} {m : W.M × Option Mx} {H : Hp} {A : List (List Int)} {i k : Nat} (S : SR K (CnX W n0 H0 F0 wx) Pr F σ ρ m H) (e : ρ[i]? = some (.val (.hnd k))) (em : m.2 = some (k, A)) :
    ∃ (p : Addr) (qs : List Addr), σ[i]? = some (some (.ref p)) ∧ F[k]? = some p ∧ Pr p ∧ H p = some (.lst (qs.map V.ref)) ∧ qs.length = A.length ∧ ∀ (j : Nat) (q : Addr) (row : List Int), qs[j]? = some q → A[j]? = some row → H q = some (.lst (row.map V.int)) := by
  obtain ⟨v, ev, hv⟩ := S.slot i _ e
  obtain ⟨m1, o⟩ := m
  have em : o = some (k, A) := em
  subst em
  obtain ⟨n, Fa, p, Fq, qs, rfl, e1, e2, e3, e4, e5, e6, e7, e8, e9, e9', e10⟩ := S.rz
  have e1 : Fa.length = k := e1
  have hp : (Fa ++ p :: Fq)[k]? = some p := by rw [List.getElem?_append_right (by omega), e1, Nat.sub_self]; rfl
  cases hv with
  | hnd ha =>
    rename_i a
    rw [hp] at ha
    cases ha
    exact ⟨p, qs, ev, hp, S.prf p (by simp), e3, e4, e10⟩
def SV (K : PySem.W.Frag) (C : Cn) (Pr : Addr → Prop) (F : List Addr) (σ : L2.St) (ρ : En) (H : Hp) : Prop := ∀ (i : Nat) (d : D), ρ[i]? = some (.val d) → ∃ v, σ[i]? = some (some v) ∧ Dn true K F (sv C.H0 Pr H) v d
theorem SR.toSV {K : PySem.W.Frag} {C : Cn} {Pr : Addr → Prop} {F : List Addr} {σ : L2.St} {ρ : En} {m : C.W.M} {H : Hp} (S : SR K C Pr F σ ρ m H) : SV K C Pr F σ ρ H := fun i d e => S.slot i _ e
theorem SV.poke {K : PySem.W.Frag} {C : Cn} {Pr : Addr → Prop} {F : List Addr} {σ : L2.St} {ρ : En} {H : Hp} {p : Addr} {us vs : List V} (S : SV K C Pr F σ ρ H) (pp : Pr p) (hp : H p = some (.lst us)) : SV K C Pr F σ ρ (upd H p (.lst vs)) := fun i d e => by
  obtain ⟨v, a, h⟩ := S i d e
  refine ⟨v, a, h.mono ⟨[], by simp⟩ fun a o e => ?_⟩
  obtain ⟨x, y⟩ := vw_iff.mp e
  refine vw_iff.mpr ⟨?_, y⟩
  rw [upd_ne]
  · exact x
  · intro z
    rcases y with y | y
    · rw [z, hp] at x; cases x; exact y
    · exact y.2.1 (z ▸ pp)
abbrev PR := En → (Int → Prop) → Prop
def JP (X : Cx) (C : Cn) (e : Expr) (t : PR) : Prop := ∃ te, PE X e te ∧
  ∀ σ H Pr F ρ Q (R : VK), SV X.K C Pr F σ ρ H → t ρ Q → (∀ n, Q n → R (.int n) H) → te σ H R
def pVar (i : Nat) : PR := fun ρ Q => match ρ[i]? with | some (.val (.int j)) => Q j | _ => False
def pC (j : Int) : PR := fun _ Q => Q j
def pIx (i : Nat) (j : Int) : PR := fun ρ Q => match ρ[i]? with | some (.val (.lst ds)) => ∃ n, atI ds j = some (.int n) ∧ Q n | _ => False
theorem jp_var {C : Cn} {pos : Pos} (i : Nat) {x : Str} (hN : X.N[i]? = some x := by rfl) (hv : Vis X.env.scope x := by first | exact Or.inl rfl | exact Or.inr (Or.inl rfl) | exact Or.inr (Or.inr rfl)) (hd : (x == ("__debug__" : Str)) = false := by decide)
    (hcd : (x == ("__classdict__" : Str)) = false := by decide) : JP X C (.Name x pos) (pVar i) := by
  refine ⟨_, pe_var hN hv hd hcd, fun σ H Pr F ρ Q R S h k => ?_⟩
  unfold pVar at h
  split at h
  · rename_i j e
    obtain ⟨v, e1, q⟩ := S i _ e
    cases q
    exact ⟨_, e1, k _ h⟩
  · exact h.elim
theorem jp_ix {C : Cn} {np pos : Pos} (i : Nat) {x : Str} {j : Int} {kj kpos} (hN : X.N[i]? = some x := by rfl) (hv : Vis X.env.scope x := by first | exact Or.inl rfl | exact Or.inr (Or.inl rfl) | exact Or.inr (Or.inr rfl)) (hd : (x == ("__debug__" : Str)) = false := by decide)
    (hcd : (x == ("__classdict__" : Str)) = false := by decide) : JP X C (.Subscript (.Name x np) (.Constant (.int j) kj kpos) pos) (pIx i j) := by
  refine ⟨_, pe_ix ix_seq (pe_var (pos := np) hN hv hd hcd) pe_int (fun _ _ => rfl), fun σ H Pr F ρ Q R S h k => ?_⟩
  unfold pIx at h
  split at h
  · rename_i ds e
    obtain ⟨n, ea, h⟩ := h
    obtain ⟨v, e1, q⟩ := S i _ e
    refine ⟨v, e1, ?_⟩
    cases q with
    | lst hl r =>
      rename_i a xs
      have hl : sv C.H0 Pr H a = some (.lst xs) := hl
      have ll := r.length
      unfold atI at ea
      cases ej : ixN ds.length j with
      | none => rw [ej] at ea; cases ea
      | some jj =>
        rw [ej] at ea
        obtain ⟨w, ew, hw⟩ := r.getD ea
        cases hw
        exact .inl ⟨a, xs, j, .int n, rfl, rfl, SqL.of (sv_le hl), by unfold atI; rw [ll, ej]; exact ew, k _ h⟩
  · exact h.elim
theorem at_nat {α : Type} {l : List α} {j : Nat} {x : α} (h : l[j]? = some x) : atI l (j : Int) = some x := by
  have l' := (List.getElem?_eq_some_iff.mp h).1
  unfold atI ixN
  rw [if_pos (by omega), Int.toNat_natCast, if_pos (by omega)]
  exact h
theorem at_same {α β : Type} {xs : List α} {ys : List β} (l : xs.length = ys.length) {i : Int} {y : β} (h : atI ys i = some y) : ∃ j x, ixN xs.length i = some j ∧ j < ys.length ∧ xs[j]? = some x ∧ ys[j]? = some y ∧ atI xs i = some x := by
  unfold atI at h ⊢
  cases ej : ixN ys.length i with
  | none => rw [ej] at h; cases h
  | some j =>
    rw [ej] at h
    have h : ys[j]? = some y := h
    have lj := (List.getElem?_eq_some_iff.mp h).1
    refine ⟨j, xs[j]'(by omega), by rw [l]; exact ej, lj, List.getElem?_eq_getElem (by omega), h, ?_⟩
    have ej' : ixN xs.length i = some j := by rw [l]; exact ej
    rw [ej']
    exact List.getElem?_eq_getElem (by omega)
def dMat {M : Type} (i : Nat) (t u : PR) : DT (M × Option Mx) := fun ρ m Q _ => ∃ A : List (List Int), isMx ρ i m A ∧ t ρ fun j => ∃ row : List Int, atI A j = some row ∧
  u ρ fun k => ∃ x : Int, atI row k = some x ∧ Q (.int x) m
theorem j_mat (i : Nat) {x : Str} {ej ek : Expr} {np sp pos : Pos} {t u : PR} (hj : JP X (CnX W n0 H0 F0 wx) ej t) (hk : JP X (CnX W n0 H0 F0 wx) ek u) (hN : X.N[i]? = some x := by rfl) (hv : Vis X.env.scope x := by first | exact Or.inl rfl | exact Or.inr (Or.inl rfl) | exact Or.inr (Or.inr rfl)) (hd : (x == ("__debug__" : Str)) = false := by decide)
    (hcd : (x == ("__classdict__" : Str)) = false := by decide) (hs : PlainIx ej := by exact fun _ _ => rfl) (hs2 : PlainIx ek := by exact fun _ _ => rfl) : J .f X (CnX W n0 H0 F0 wx) (.Subscript (.Subscript (.Name x np) ej sp) ek pos) (dMat i t u) := by
  obtain ⟨tj, pj, qj⟩ := hj
  obtain ⟨tk, pk, qk⟩ := hk
  refine ⟨_, pe_ix ix_seq (pe_ix (pos := sp) ix_seq (pe_var (pos := np) hN hv hd hcd) pj hs) pk hs2, fun σ H Pr F ρ m Q Z R S E h k => ?_⟩
  obtain ⟨A, ⟨h0, hA1, hA2⟩, h⟩ := h
  obtain ⟨p, qs, e1, _, _, e2, e3, e4⟩ := mx_at S hA1 hA2
  refine ⟨_, e1, qj σ H Pr F ρ _ _ S.toSV h fun j z => ?_⟩
  obtain ⟨row, ea, z⟩ := z
  obtain ⟨jj, q, _, _, q1, q2, q3⟩ := at_same e3 ea
  refine .inl ⟨p, qs.map V.ref, j, .ref q, rfl, rfl, SqL.of e2, ?_, ?_⟩
  · unfold atI at q3 ⊢
    rw [List.length_map]
    cases ej : ixN qs.length j with
    | none => rw [ej] at q3; cases q3
    | some j2 =>
      rw [ej] at q3
      have q3 : qs[j2]? = some q := q3
      show (qs.map V.ref)[j2]? = _
      rw [List.getElem?_map, q3]; rfl
  · refine qk σ H Pr F ρ _ _ S.toSV z fun k' z => ?_
    obtain ⟨x, ex, z⟩ := z
    obtain ⟨kk, v, _, _, w1, w2, w3⟩ := at_same (xs := row.map V.int) (by simp) ex
    rw [List.getElem?_map, w2] at w1
    cases w1
    refine .inl ⟨q, row.map V.int, k', .int x, rfl, rfl, SqL.of (e4 jj _ row q1 q2), w3, ?_⟩
    exact k _ _ (post_here S (.int _) (fun _ h => nomatch h) z)
def dLenM {M : Type} (i : Nat) : DT (M × Option Mx) := fun ρ m Q _ => ∃ A : List (List Int), isMx ρ i m A ∧ Q (.int A.length) m
theorem j_lenM (i : Nat) {x : Str} {np p pos : Pos} (hm : X.mg "len" = none) (hN : X.N[i]? = some x := by rfl) (hv : Vis X.env.scope x := by first | exact Or.inl rfl | exact Or.inr (Or.inl rfl) | exact Or.inr (Or.inr rfl)) (hd : (x == ("__debug__" : Str)) = false := by decide)
    (hcd : (x == ("__classdict__" : Str)) = false := by decide) (hg : Gl X "len" := by rfl) (he : starEach [.Name x np] X.env = (false, eval (.Name x np) X.env) :: starEach [] X.env := by rfl) (hpl : (backTo pos (starEach [] X.env)).any (·.1) = false := by rfl) :
    J .f X (CnX W n0 H0 F0 wx) (.Call (.Name "len" p) [.Name x np] [] pos) (dLenM i) := by
  refine ⟨_, pe_callB call_len_seq hg hm (by decide +kernel) (pa_cons (pe_var (pos := np) hN hv hd hcd) pa_nil he) (by decide) (by decide) he hpl, fun σ H Pr F ρ m Q Z R S E h k => ?_⟩
  obtain ⟨A, ⟨h0, hA1, hA2⟩, h⟩ := h
  obtain ⟨p, qs, e1, _, _, e2, e3, e4⟩ := mx_at S hA1 hA2
  refine ⟨_, e1, p, qs.map V.ref, rfl, .inl (SqL.of e2), ?_⟩
  rw [List.length_map, e3]
  exact k _ _ (post_here S (.int _) (fun _ h => nomatch h) h)
theorem SR.mset {K : PySem.W.Frag} {Pr : Addr → Prop} {F : List Addr} {σ : L2.St} {ρ : En} {m1 : W.M} {h : Nat} {A : List (List Int)} {H : Hp} {j : Nat} {row : List Int} (hn : F0.length ≤ n0) (S : SR K (CnX W n0 H0 F0 wx) Pr F σ ρ (m1, some (h, A)) H) (hj : j < A.length) :
    ∃ q, (∀ (p : Addr) (us : List V), F[h]? = some p → H p = some (.lst us) → us[j]? = some (.ref q)) ∧ (∀ old, A[j]? = some old → H q = some (.lst (old.map V.int))) ∧ SR K (CnX W n0 H0 F0 wx) Pr F σ ρ (m1, some (h, A.set j row)) (upd H q (.lst (row.map V.int))) ∧ Tr Pr F H Pr F (upd H q (.lst (row.map V.int))) := by
  obtain ⟨n, Fa, p, Fq, qs, eF, e1, e2, e3, e4, e5, e6, e7, e8, e9, e9', e10⟩ := S.rz
  have lj : j < qs.length := by have e4 : qs.length = A.length := e4; omega
  have q1 : qs[j]? = some qs[j] := List.getElem?_eq_getElem lj
  have hq : qs[j] ∈ qs := List.getElem_mem lj
  have qF : qs[j] ∈ F := by rw [eF]; simp [e9 _ hq]
  have qP := S.prf _ qF
  have old : ∃ o, H qs[j] = some o ∧ ¬ IsT o := S.prs _ qP
  have qF0 : qs[j] ∉ F0 := fun z => by
    obtain ⟨F1, e⟩ := S.pre
    have e : F = F0 ++ F1 := e
    have l0 : F0.length ≤ Fa.length := by have e1 : Fa.length = h := e1; have n : n0 ≤ h := n; omega
    have : qs[j] ∈ Fa := by
      rw [eF] at e
      have t := congrArg (List.take Fa.length) e
      rw [List.take_left'  rfl, List.take_append] at t
      rw [t]
      exact List.mem_append_left _ (by rw [List.take_of_length_le l0]; exact z)
    exact e7 _ hq this
  have h0 := S.new _ qF qF0
  have ne : ∀ {a : Addr}, ¬ Pr a → a ≠ qs[j] := fun np z => np (z ▸ qP)
  have up : ∀ a o, sv H0 Pr H a = some o → sv H0 Pr (upd H qs[j] (.lst (row.map V.int))) a = some o := fun a o e => by
    obtain ⟨x, y⟩ := vw_iff.mp e
    refine vw_iff.mpr ⟨?_, y⟩
    rw [upd_ne]
    · exact x
    · intro z
      rcases y with y | y
      · obtain ⟨o', w1, w2⟩ := old
        rw [z, w1] at x
        cases x
        exact w2 y
      · exact y.2.1 (z ▸ qP)
  have t : Tr Pr F H Pr F (upd H qs[j] (.lst (row.map V.int))) := ⟨⟨[], by simp⟩, fun _ h n => absurd h n, fun _ h n => absurd h n, fun a o h => by
    by_cases z : a = qs[j]
    · exact ⟨_, by rw [z, upd_same]⟩
    · exact ⟨o, by rw [upd_ne z]; exact h⟩, fun a o n h => by rw [upd_ne (ne n)]; exact h⟩
  have here : ∀ (p : Addr) (us : List V), F[h]? = some p → H p = some (.lst us) → us[j]? = some (.ref qs[j]) := fun p' us a b => by
    have e1 : Fa.length = h := e1
    rw [eF, List.getElem?_append_right (by omega), e1, Nat.sub_self] at a
    cases a
    rw [e3] at b
    cases b
    rw [List.getElem?_map, q1]; rfl
  refine ⟨qs[j], here, fun old ho => e10 j _ old q1 ho, ⟨fun a o n e => ?_, S.pre, S.new, fun a ha => ?_, S.prn, S.prf, ?_, S.len, fun k s e => ?_, S.dist⟩, t⟩
  · rw [upd_ne (fun z => by rw [z, h0] at e; cases e)]
    exact S.keep a o n e
  · by_cases z : a = qs[j]
    · exact ⟨.lst (row.map V.int), by rw [z, upd_same], fun z => z⟩
    · obtain ⟨o, e, n⟩ := S.prs a ha
      exact ⟨o, by rw [upd_ne z]; exact e, n⟩
  · refine ⟨n, Fa, p, Fq, qs, eF, e1, W.keep e2 (fun a ha => upd_ne fun z => e7 _ hq (z ▸ ha)) (fun a o it e => ?_), ?_, ?_, e5, e6, e7, e8, e9, fun a ha => ?_, fun k q' row' h1 h2 => ?_⟩
    · rw [upd_ne]
      · exact e
      · intro z
        obtain ⟨o', w1, w2⟩ := old
        rw [z, w1] at e
        cases e
        exact w2 it
    · rw [upd_ne (show p ≠ qs[j] from fun z => e6 (by rw [z]; exact hq))]; exact e3
    · show qs.length = (A.set j row).length
      rw [List.length_set]; exact e4
    · by_cases z : a = qs[j]
      · exact ⟨_, by rw [z]; exact upd_same⟩
      · obtain ⟨vs, y⟩ := e9' a ha
        exact ⟨vs, by rw [upd_ne z]; exact y⟩
    · have h2 : (A.set j row)[k]? = some row' := h2
      by_cases z : k = j
      · subst z
        rw [q1] at h1
        cases h1
        rw [List.getElem?_set_self hj] at h2
        cases h2
        exact upd_same
      · rw [List.getElem?_set_ne (Ne.symm z)] at h2
        rw [upd_ne]
        · exact e10 k q' row' h1 h2
        · intro y
          obtain ⟨lk, ek⟩ := List.getElem?_eq_some_iff.mp h1
          have : qs[k] = qs[j] := by rw [ek, y]
          exact z ((List.getElem_inj e5).mp this)
  · cases s with
    | un => trivial
    | bor d => exact S.slot k _ e
    | val d =>
      obtain ⟨v, e1, q⟩ := S.slot k _ e
      exact ⟨v, e1, q.mono ⟨[], by simp⟩ up⟩
    | dct kvs =>
      obtain ⟨q', e1, w1, w2, w3⟩ := S.slot k _ e
      exact ⟨q', e1, by rw [upd_ne (show q' ≠ qs[j] from fun z => w3 (by rw [z]; exact qF))]; exact w1, w2, w3⟩
    | own ds =>
      obtain ⟨q', us, e1, w1, w2, w3, w4⟩ := S.slot k _ e
      exact ⟨q', us, e1, by rw [upd_ne (show q' ≠ qs[j] from fun z => w3 (by rw [z]; exact qF))]; exact w1, w2, w3, w4.mono ⟨[], by simp⟩ up⟩
theorem at_ref {qs : List Addr} {k : Int} {j : Nat} (h : ixN qs.length k = some j) (lj : j < qs.length) : atI (qs.map V.ref) k = some (.ref qs[j]) := by
  unfold atI
  rw [List.length_map, h]
  show (qs.map V.ref)[j]? = _
  rw [List.getElem?_map, List.getElem?_eq_getElem lj]; rfl
def dMSet {M : Type} (i : Nat) (te : DT (M × Option Mx)) (t u : PR) : DS (M × Option Mx) := fun E ρ m => te ρ m (fun d m1 => ∃ y : Int, d = .int y ∧ ∃ (h : Nat) (A : List (List Int)), ρ[i]? = some (.val (.hnd h)) ∧ m1.2 = some (h, A) ∧
  t ρ fun j => ∃ jn row, ixN A.length j = some jn ∧ A[jn]? = some row ∧ u ρ fun k => ∃ kn, ixN row.length k = some kn ∧ E.nx ρ (m1.1, some (h, A.set jn (row.set kn y)))) E.ex
theorem js_mset (i : Nat) {x : Str} {e ej ek : Expr} {np sp sp2 pos : Pos} {te : DT (W.M × Option Mx)} {t u : PR} (hn : F0.length ≤ n0) (he : J .w X (CnX W n0 H0 F0 wx) e te) (hj : JP X (CnX W n0 H0 F0 wx) ej t) (hk : JP X (CnX W n0 H0 F0 wx) ek u) (hN : X.N[i]? = some x := by rfl)
    (hv : Vis X.env.scope x := by first | exact Or.inl rfl | exact Or.inr (Or.inl rfl) | exact Or.inr (Or.inr rfl)) (hd : (x == ("__debug__" : Str)) = false := by decide) (hcd : (x == ("__classdict__" : Str)) = false := by decide) (hs : PlainIx ej := by exact fun _ _ => rfl)
    (ha : ∀ v, assign (.Subscript (.Subscript (.Name x np) ej sp) ek sp2) X.env v = (do
      let ov ← holding [v] (eval (.Subscript (.Name x np) ej sp) X.env)
      let iv ← holding [v, ov] (eval ek X.env)
      standAt sp2
      holding [v, ov, iv] (setItem ov iv v)
      release [v, ov, iv] []) := by intro _; rfl)
    (hs2 : swapsWithSole [.Subscript (.Subscript (.Name x np) ej sp) ek sp2] e pos.line X.env = pure false := by rfl) (hw : swappedStores [.Subscript (.Subscript (.Name x np) ej sp) ek sp2] e X.env = pure none := by rfl) (h1 : (assignEach [.Subscript (.Subscript (.Name x np) ej sp) ek sp2] X.env).map (·.2) = [assign (.Subscript (.Subscript (.Name x np) ej sp) ek sp2) X.env] := by rfl) :
    JS X (CnX W n0 H0 F0 wx) (.Assign [.Subscript (.Subscript (.Name x np) ej sp) ek sp2] e pos) (dMSet i te t u) := by
  obtain ⟨t1, p1, q1⟩ := he
  obtain ⟨tj, pj, qj⟩ := hj
  obtain ⟨tk, pk, qk⟩ := hk
  refine ⟨_, ps_asg p1 (pg_sub (pe_ix ix_seq (pe_var (pos := np) hN hv hd hcd) pj hs) pk set_list ha) hs2 hw h1, fun σ H Pr F ρ m E D' S l h => ?_⟩
  refine q1 σ H Pr F ρ m _ _ _ S (l.ex σ ρ) h fun w H1 ⟨P1, F1, m1, d, S1, t1, dv, z⟩ => ?_
  have dv : Dn false X.K F1 (wv F1 H1) w d := dv
  obtain ⟨y, rfl, k, A, hA1, hA2, z⟩ := z
  have ew := dv.toInt
  subst ew
  obtain ⟨p, qs, e1, eF, pp, e2, e3, e4⟩ := mx_at S1 hA1 hA2
  refine ⟨_, e1, qj σ H1 P1 F1 ρ _ _ S1.toSV z fun j z => ?_⟩
  obtain ⟨jn, row, ej, er, z⟩ := z
  have lj := (List.getElem?_eq_some_iff.mp er).1
  obtain ⟨m1a, o⟩ := m1
  have hA2 : o = some (k, A) := hA2
  subst hA2
  refine .inl ⟨p, qs.map V.ref, j, .ref (qs[jn]'(by omega)), rfl, rfl, SqL.of e2, at_ref (by rw [e3]; exact ej) (by omega), ?_⟩
  · refine qk σ H1 P1 F1 ρ _ _ S1.toSV z fun k' z => ?_
    obtain ⟨kn, ek, z⟩ := z
    obtain ⟨q, c1, c2, S2, t2⟩ := S1.mset (row := row.set kn y) hn lj
    have eq : qs[jn]'(by omega) = q := by
      have := c1 p _ eF e2
      rw [List.getElem?_map, List.getElem?_eq_getElem (by omega)] at this
      have h := Option.some.inj this
      injection h
    refine ⟨q, row.map V.int, k', kn, by rw [eq], rfl, c2 row er, by rw [List.length_map]; exact ek, ?_⟩
    rw [show (row.map V.int).set kn (.int y) = (row.set kn y).map V.int from by rw [List.map_set]]
    exact l.nx _ _ _ _ _ _ S2 (t1.toTr.trans t2) z
theorem SR.mswap {K : PySem.W.Frag} {Pr : Addr → Prop} {F : List Addr} {σ : L2.St} {ρ : En} {m1 : W.M} {h : Nat} {A : List (List Int)} {H : Hp} {i j : Nat} {a b : List Int} {p : Addr} {qs : List Addr} (hn : F0.length ≤ n0) (S : SR K (CnX W n0 H0 F0 wx) Pr F σ ρ (m1, some (h, A)) H)
    (ep : F[h]? = some p) (eq : H p = some (.lst (qs.map V.ref))) (hi : A[i]? = some a) (hj : A[j]? = some b) (li : i < qs.length) (lj : j < qs.length) :
    SR K (CnX W n0 H0 F0 wx) Pr F σ ρ (m1, some (h, (A.set i b).set j a)) (upd H p (.lst (((qs.set i qs[j]).set j qs[i]).map V.ref))) ∧ Tr Pr F H Pr F (upd H p (.lst (((qs.set i qs[j]).set j qs[i]).map V.ref))) := by
  obtain ⟨n, Fa, p0, Fq, qs0, eF, e1, e2, e3, e4, e5, e6, e7, e8, e9, e9', e10⟩ := S.rz
  have e1 : Fa.length = h := e1
  have pe : p0 = p := by
    rw [eF, List.getElem?_append_right (by omega), e1, Nat.sub_self] at ep
    exact Option.some.inj ep
  subst pe
  rw [e3] at eq
  have qe : qs0 = qs := by
    injection eq with eq
    injection eq with eq
    exact (List.map_inj_right (fun x y h => by injection h)).mp eq
  subst qe
  have pF : p0 ∈ F := by rw [eF]; simp
  have pP := S.prf _ pF
  have pF0 : p0 ∉ F0 := fun z => by
    obtain ⟨F1, e⟩ := S.pre
    have e : F = F0 ++ F1 := e
    have l0 : F0.length ≤ Fa.length := by have n : n0 ≤ h := n; omega
    have : p0 ∈ Fa := by
      rw [eF] at e
      have t := congrArg (List.take Fa.length) e
      rw [List.take_left' rfl, List.take_append] at t
      rw [t]
      exact List.mem_append_left _ (by rw [List.take_of_length_le l0]; exact z)
    exact e8 this
  have h0 := S.new _ pF pF0
  have h0 : H0 p0 = none := h0
  generalize hus : (((qs0.set i qs0[j]).set j qs0[i]).map V.ref) = us
  have up : ∀ a o, sv H0 Pr H a = some o → sv H0 Pr (upd H p0 (.lst us)) a = some o := fun a o e => by
    obtain ⟨x, y⟩ := vw_iff.mp e
    refine vw_iff.mpr ⟨?_, y⟩
    rw [upd_ne]
    · exact x
    · intro z
      rcases y with y | y
      · rw [z, e3] at x; cases x; exact y
      · exact y.2.1 (by rw [z]; exact pP)
  have t : Tr Pr F H Pr F (upd H p0 (.lst us)) := ⟨⟨[], by simp⟩, fun _ h n => absurd h n, fun _ h n => absurd h n, fun a o h => by
    by_cases z : a = p0
    · exact ⟨_, by rw [z, upd_same]⟩
    · exact ⟨o, by rw [upd_ne z]; exact h⟩, fun a o n h => by rw [upd_ne (fun z => n (by rw [z]; exact pP))]; exact h⟩
  -- the exchanged references
  have mem : ∀ q, q ∈ (qs0.set i qs0[j]).set j qs0[i] → q ∈ qs0 := fun q hq => by
    rcases List.mem_or_eq_of_mem_set hq with z | z
    · rcases List.mem_or_eq_of_mem_set z with z | z
      · exact z
      · rw [z]; exact List.getElem_mem lj
    · rw [z]; exact List.getElem_mem li
  have len : ((qs0.set i qs0[j]).set j qs0[i]).length = qs0.length := by simp
  have at' : ∀ k (hk : k < qs0.length), ((qs0.set i qs0[j]).set j qs0[i])[k]'(by rw [len]; exact hk) = if k = j then qs0[i] else if k = i then qs0[j] else qs0[k] := fun k hk => by
    rw [List.getElem_set, List.getElem_set]
    by_cases z : j = k
    · subst z; rw [if_pos rfl, if_pos rfl]
    · rw [if_neg z, if_neg (Ne.symm z)]
      by_cases y : i = k
      · subst y; simp
      · rw [if_neg y, if_neg (Ne.symm y)]
  have inj : ∀ {k l : Nat} (hk : k < qs0.length) (hl : l < qs0.length), qs0[k] = qs0[l] → k = l := fun hk hl e => (List.getElem_inj e5).mp e
  let tr : Nat → Nat := fun k => if k = j then i else if k = i then j else k
  have trl : ∀ k, k < qs0.length → tr k < qs0.length := fun k hk => by
    dsimp only [tr]
    split
    · exact li
    · split
      · exact lj
      · exact hk
  have at2 : ∀ k (hk : k < qs0.length), ((qs0.set i qs0[j]).set j qs0[i])[k]'(by rw [len]; exact hk) = qs0[tr k]'(trl k hk) := fun k hk => by
    rw [at' k hk]
    dsimp only [tr]
    by_cases a : k = j
    · simp [a]
    · by_cases b : k = i
      · subst b; simp [a]
      · simp [a, b]
  have nd : ((qs0.set i qs0[j]).set j qs0[i]).Nodup := by
    refine List.pairwise_iff_getElem.mpr fun k l hk' hl kl => ?_
    have hl : l < qs0.length := by rw [len] at hl; exact hl
    intro z
    rw [at2 k (by omega), at2 l hl] at z
    have z := inj (trl k (by omega)) (trl l hl) z
    dsimp only [tr] at z
    split at z <;> split at z <;> first | omega | (split at z <;> first | omega | (split at z <;> omega))
  refine ⟨⟨fun a o n e => ?_, S.pre, S.new, fun a ha => ?_, S.prn, S.prf, ?_, S.len, fun k s e => ?_, S.dist⟩, t⟩
  · rw [upd_ne (fun z => by rw [z, show (CnX W n0 H0 F0 wx).K0 p0 = none from h0] at e; cases e)]
    exact S.keep a o n e
  · by_cases z : a = p0
    · exact ⟨.lst us, by rw [z, upd_same], fun z => z⟩
    · obtain ⟨o, e, n⟩ := S.prs a ha
      exact ⟨o, by rw [upd_ne z]; exact e, n⟩
  · have lA : qs0.length = A.length := e4
    refine ⟨n, Fa, p0, Fq, _, eF, e1, W.keep e2 (fun a ha => upd_ne fun z => e8 (z ▸ ha)) (fun a o it e => ?_), by rw [← hus]; exact upd_same, ?_, nd, fun z => e6 (mem _ z), fun q hq => e7 q (mem q hq), e8, fun q hq => e9 q (mem q hq), fun q hq => ?_, fun k q row h1 h2 => ?_⟩
    · rw [upd_ne (fun z => by rw [z, e3] at e; cases e; exact it)]
      exact e
    · rw [len]
      show qs0.length = ((A.set i b).set j a).length
      rw [List.length_set, List.length_set]; exact lA
    · by_cases z : q = p0
      · exact ⟨us, by rw [z]; exact upd_same⟩
      · obtain ⟨vs, y⟩ := e9' q hq
        exact ⟨vs, by rw [upd_ne z]; exact y⟩
    · have lk : k < qs0.length := by
        have := (List.getElem?_eq_some_iff.mp h1).1
        rw [len] at this; exact this
      rw [List.getElem?_eq_getElem (by rw [len]; exact lk)] at h1
      have g1 := Option.some.inj h1
      rw [at' k lk] at g1
      clear at2
      have h2 : ((A.set i b).set j a)[k]? = some row := h2
      have ne : ∀ {q}, q ∈ qs0 → q ≠ p0 := fun hq z => e6 (z ▸ hq)
      split at g1
      · rename_i z
        subst z
        rw [List.getElem?_set_self (by rw [List.length_set]; omega)] at h2
        cases h2
        subst g1
        rw [upd_ne (ne (List.getElem_mem li))]
        exact e10 i _ a (List.getElem?_eq_getElem li) hi
      · rename_i z
        rw [List.getElem?_set_ne (Ne.symm z)] at h2
        split at g1
        · rename_i y
          subst y
          rw [List.getElem?_set_self (by omega)] at h2
          cases h2
          subst g1
          rw [upd_ne (ne (List.getElem_mem lj))]
          exact e10 j _ b (List.getElem?_eq_getElem lj) hj
        · rename_i y
          rw [List.getElem?_set_ne (Ne.symm y)] at h2
          subst g1
          rw [upd_ne (ne (List.getElem_mem lk))]
          exact e10 k _ row (List.getElem?_eq_getElem lk) h2
  · cases s with
    | un => trivial
    | bor d => exact S.slot k _ e
    | val d =>
      obtain ⟨v, e1, q⟩ := S.slot k _ e
      exact ⟨v, e1, q.mono ⟨[], by simp⟩ up⟩
    | dct kvs =>
      obtain ⟨q', e1, w1, w2, w3⟩ := S.slot k _ e
      exact ⟨q', e1, by rw [upd_ne (show q' ≠ p0 from fun z => w3 (by rw [z]; exact pF))]; exact w1, w2, w3⟩
    | own ds =>
      obtain ⟨q', us', e1, w1, w2, w3, w4⟩ := S.slot k _ e
      exact ⟨q', us', e1, by rw [upd_ne (show q' ≠ p0 from fun z => w3 (by rw [z]; exact pF))]; exact w1, w2, w3, w4.mono ⟨[], by simp⟩ up⟩
def dMSwap {M : Type} (i : Nat) (t1 t2 t3 t4 : PR) : DS (M × Option Mx) := fun E ρ m => ∃ (h : Nat) (A : List (List Int)), ρ[i]? = some (.val (.hnd h)) ∧ m.2 = some (h, A) ∧
  t3 ρ fun k3 => ∃ (j : Nat) (b : List Int), ixN A.length k3 = some j ∧ A[j]? = some b ∧ t4 ρ fun k4 => ∃ (i' : Nat) (a : List Int), ixN A.length k4 = some i' ∧ A[i']? = some a ∧
  t1 ρ fun k1 => ixN A.length k1 = some i' ∧ t2 ρ fun k2 => ixN A.length k2 = some j ∧ E.nx ρ (m.1, some (h, (A.set i' b).set j a))
theorem js_mswap (i : Nat) {x : Str} {ea eb ec ed : Expr} {n1 n2 n3 n4 s1 s2 s3 s4 tp vp pos : Pos} {kt kv : Nat} {t1 t2 t3 t4 : PR} (hc : X.calm = true) (hn : F0.length ≤ n0) (h1 : JP X (CnX W n0 H0 F0 wx) ea t1) (h2 : JP X (CnX W n0 H0 F0 wx) eb t2) (h3 : JP X (CnX W n0 H0 F0 wx) ec t3) (h4 : JP X (CnX W n0 H0 F0 wx) ed t4) (hN : X.N[i]? = some x := by rfl)
    (hv : Vis X.env.scope x := by first | exact Or.inl rfl | exact Or.inr (Or.inl rfl) | exact Or.inr (Or.inr rfl)) (hd : (x == ("__debug__" : Str)) = false := by decide) (hcd : (x == ("__classdict__" : Str)) = false := by decide) (hs3 : PlainIx ec := by exact fun _ _ => rfl) (hs4 : PlainIx ed := by exact fun _ _ => rfl)
    (ha : ∀ v, assign (.Subscript (.Name x n1) ea s1) X.env v = (do
      let ov ← holding [v] (eval (.Name x n1) X.env)
      let iv ← holding [v, ov] (eval ea X.env)
      standAt s1
      holding [v, ov, iv] (setItem ov iv v)
      release [v, ov, iv] []) := by intro _; rfl)
    (hb : ∀ v, assign (.Subscript (.Name x n2) eb s2) X.env v = (do
      let ov ← holding [v] (eval (.Name x n2) X.env)
      let iv ← holding [v, ov] (eval eb X.env)
      standAt s2
      holding [v, ov, iv] (setItem ov iv v)
      release [v, ov, iv] []) := by intro _; rfl)
    (he : starEach [.Subscript (.Name x n3) ec s3, .Subscript (.Name x n4) ed s4] X.env = (false, eval (.Subscript (.Name x n3) ec s3) X.env) :: starEach [.Subscript (.Name x n4) ed s4] X.env := by rfl)
    (he2 : starEach [.Subscript (.Name x n4) ed s4] X.env = (false, eval (.Subscript (.Name x n4) ed s4) X.env) :: starEach [] X.env := by rfl)
    (hs : swapsWithSole [.Tuple [.Subscript (.Name x n1) ea s1, .Subscript (.Name x n2) eb s2] kt tp] (.Tuple [.Subscript (.Name x n3) ec s3, .Subscript (.Name x n4) ed s4] kv vp) pos.line X.env = pure false := by rfl)
    (hw : swappedStores [.Tuple [.Subscript (.Name x n1) ea s1, .Subscript (.Name x n2) eb s2] kt tp] (.Tuple [.Subscript (.Name x n3) ec s3, .Subscript (.Name x n4) ed s4] kv vp) X.env = pure none := by rfl)
    (ho : (assignEach [.Tuple [.Subscript (.Name x n1) ea s1, .Subscript (.Name x n2) eb s2] kt tp] X.env).map (·.2) = [assign (.Tuple [.Subscript (.Name x n1) ea s1, .Subscript (.Name x n2) eb s2] kt tp) X.env] := by rfl)
    (g1 : (assignEach [.Subscript (.Name x n1) ea s1, .Subscript (.Name x n2) eb s2] X.env).map (·.2) = assign (.Subscript (.Name x n1) ea s1) X.env :: (assignEach [.Subscript (.Name x n2) eb s2] X.env).map (·.2) := by rfl)
    (g2 : (assignEach [.Subscript (.Name x n2) eb s2] X.env).map (·.2) = assign (.Subscript (.Name x n2) eb s2) X.env :: (assignEach [] X.env).map (·.2) := by rfl)
    (gl : (assignEach [.Subscript (.Name x n1) ea s1, .Subscript (.Name x n2) eb s2] X.env).length = 2 := by rfl) (gs : (assignEach [.Subscript (.Name x n1) ea s1, .Subscript (.Name x n2) eb s2] X.env).findIdx? (·.1) = none := by rfl) :
    JS X (CnX W n0 H0 F0 wx) (.Assign [.Tuple [.Subscript (.Name x n1) ea s1, .Subscript (.Name x n2) eb s2] kt tp] (.Tuple [.Subscript (.Name x n3) ec s3, .Subscript (.Name x n4) ed s4] kv vp) pos) (dMSwap i t1 t2 t3 t4) := by
  obtain ⟨u1, p1, q1⟩ := h1
  obtain ⟨u2, p2, q2⟩ := h2
  obtain ⟨u3, p3, q3⟩ := h3
  obtain ⟨u4, p4, q4⟩ := h4
  refine ⟨_, ps_asg (pe_tup (pa_cons (pe_ix (pos := s3) ix_seq (pe_var (pos := n3) hN hv hd hcd) p3 hs3) (pa_cons (pe_ix (pos := s4) ix_seq (pe_var (pos := n4) hN hv hd hcd) p4 hs4) pa_nil he2) he)) (pg_tup hc (pgs_cons (pg_sub (pe_var (pos := n1) hN hv hd hcd) p1 set_list ha) (pgs_cons (pg_sub (pe_var (pos := n2) hN hv hd hcd) p2 set_list hb) pgs_nil g2) g1) gl gs) hs hw ho, fun σ H Pr F ρ m E D' S l h => ?_⟩
  obtain ⟨k, A, hA1, hA2, h⟩ := h
  obtain ⟨p, qs, e1, eF, pp, e2, e3, e4⟩ := mx_at S hA1 hA2
  refine ⟨_, e1, q3 σ H Pr F ρ _ _ S.toSV h fun k3 h => ?_⟩
  obtain ⟨j, b, ej, eb', h⟩ := h
  have lj : j < qs.length := by have := (List.getElem?_eq_some_iff.mp eb').1; omega
  refine .inl ⟨p, qs.map V.ref, k3, _, rfl, rfl, SqL.of e2, at_ref (by rw [e3]; exact ej) lj, ?_⟩
  refine ⟨_, e1, q4 σ H Pr F ρ _ _ S.toSV h fun k4 h => ?_⟩
  obtain ⟨i', a, ei, ea', h⟩ := h
  have li : i' < qs.length := by have := (List.getElem?_eq_some_iff.mp ea').1; omega
  refine .inl ⟨p, qs.map V.ref, k4, _, rfl, rfl, SqL.of e2, at_ref (by rw [e3]; exact ei) li, ?_⟩
  refine ⟨(show 2 ≤ sizeLine by decide), fun T hT => ?_⟩
  obtain ⟨S1, te1⟩ := S.new1 (o := .tup [.ref qs[j], .ref qs[i']]) hT
  have ne : p ≠ T := fun z => by rw [z, hT] at e2; cases e2
  have e2' : upd H T (.tup [.ref qs[j], .ref qs[i']]) p = some (.lst (qs.map V.ref)) := by rw [upd_ne ne]; exact e2
  refine ⟨T, [.ref qs[j], .ref qs[i']], rfl, .inl (.inl upd_same), rfl, .ref qs[j], [.ref qs[i']], rfl, .ref p, e1, ?_⟩
  refine q1 σ _ Pr F ρ _ _ S1.toSV h fun k1 h => ?_
  obtain ⟨h1e, h⟩ := h
  refine ⟨p, qs.map V.ref, k1, i', rfl, rfl, e2', by rw [List.length_map, e3]; exact h1e, .ref qs[i'], [], rfl, .ref p, e1, ?_⟩
  refine q2 σ _ Pr F ρ _ _ (S1.toSV.poke pp e2') h fun k2 h => ?_
  obtain ⟨h2e, h⟩ := h
  refine ⟨p, (qs.map V.ref).set i' (.ref qs[j]), k2, j, rfl, rfl, upd_same, by rw [List.length_set, List.length_map, e3]; exact h2e, rfl, ?_⟩
  obtain ⟨m1, o⟩ := m
  have hA2 : o = some (k, A) := hA2
  subst hA2
  obtain ⟨S2, t2⟩ := S1.mswap (i := i') (j := j) hn eF e2' ea' eb' li lj
  have eu : upd (upd (upd H T (.tup [.ref qs[j], .ref qs[i']])) p (.lst ((qs.map V.ref).set i' (.ref qs[j])))) p (.lst (((qs.map V.ref).set i' (.ref qs[j])).set j (.ref qs[i']))) = upd (upd H T (.tup [.ref qs[j], .ref qs[i']])) p (.lst (((qs.set i' qs[j]).set j qs[i']).map V.ref)) := by
    rw [List.map_set, List.map_set]
    funext y
    unfold upd
    split <;> rfl
  rw [eu]
  exact l.nx _ _ _ _ _ _ S2 (te1.toTr.trans t2) h
end
end RR
namespace RR
open PySem PySem.Spec PyProof.Rows L2
def mkGo {M : Type} (g : DG) (te : DT M) (ρ : En) : List D → List (List Int) → M → (List (List Int) → M → Prop) → Prop
  | [], acc, m, Q => Q acc m
  | x :: r, acc, m, Q => g x ρ fun ρ2 => te ρ2 m (fun y m2 => ∃ row : List Int, y = .lst (zz row) ∧ acc.length < sizeLine ∧ mkGo g te ρ r (acc ++ [row]) m2 Q) (fun _ _ => False)
def dMk {M : Type} (i : Nat) (ti : DTA (M × Option Mx)) (g : DG) (te : DT (M × Option Mx)) (vs : List Nat) : DS (M × Option Mx) := fun E ρ m => ti ρ m (fun items m1 => mkGo g te (wipeD ρ vs) items [] m1 (fun A m2 => m2.2 = none ∧ ∀ h, E.nx (ρ.set i (.val (.hnd h))) (m2.1, some (h, A)))) E.ex
section
variable {X : Cx} {W : Wd} {n0 : Nat} {H0 : Hp} {F0 : List Addr} {wx : WX}
def RowsAt (H : Hp) (qs : List Addr) (A : List (List Int)) : Prop := ∀ (j : Nat) (q : Addr) (row : List Int), qs[j]? = some q → A[j]? = some row → H q = some (.lst (row.map V.int))
theorem mk_read {wi : TI} {tg : TG} {te : TE} {g : DG} {de : DT (W.M × Option Mx)} {vs ws : List Nat} {σ : L2.St} {H : Hp} {Pr : Addr → Prop} {F : List Addr} {ρ : En} {m : W.M × Option Mx} {E : DE (W.M × Option Mx)} {D' : Ends} (i : Nat) (hn : F0.length = n0)
    (hw : ∀ i ∈ ws, i ∈ vs)
    (qi : ∀ (R : It → Hp → Prop), (∀ J H', (∃ Pr' F' m' items, SR X.K (CnX W n0 H0 F0 wx) Pr' F' σ ρ m' H' ∧ Te Pr F H Pr' F' H' ∧ WkB X.K (CnX W n0 H0 F0 wx) Pr' F' H' items J ∧ mkGo g de (wipeD ρ vs) items [] m' (fun A m2 => m2.2 = none ∧ ∀ h, E.nx (ρ.set i (.val (.hnd h))) (m2.1, some (h, A)))) → R J H') → wi σ H R)
    (qg : ∀ σ H Pr F ρ (m : W.M × Option Mx) v d Q (R : L2.St → Hp → Prop), SR X.K (CnX W n0 H0 F0 wx).nox Pr F σ ρ m H → Dn false X.K F0 (wv F0 H0) v d → g d ρ Q → (∀ σ' ρ', SR X.K (CnX W n0 H0 F0 wx).nox Pr F σ' ρ' m H → (∀ vs, (∀ i ∈ ws, i ∈ vs) → L2.wipe σ' vs = L2.wipe σ vs) → Q ρ' → R σ' H) → tg v σ H R)
    (qe : ∀ σ H Pr F ρ (m : W.M × Option Mx) Q (R : VK), SR X.K (CnX W n0 H0 F0 wx).nox Pr F σ ρ m H → de ρ m Q (fun _ _ => False) → (∀ v H', Post X.K (CnX W n0 H0 F0 wx).nox .f Pr F H σ ρ Q v H' → R v H') → te σ H R)
    (S : SR X.K (CnX W n0 H0 F0 wx) Pr F σ ρ m H) (l : Lk X (CnX W n0 H0 F0 wx) Pr F H E D') : tLc wi tg tYes te vs σ H (fun v H' => D'.nx (σ.set i (some v)) H') := by
  refine qi _ fun J H1 ⟨P1, F1, m1, items, S1, t1, wk, z⟩ L0 hD => ?_
  obtain ⟨G, Y, w, hG⟩ := wk
  obtain ⟨SD, tD⟩ := S1.guard (vs := []) hD
  generalize hP1 : (fun a => P1 a ∨ a = L0) = P1' at SD tD
  let Pv : Nat → Hp → Prop := fun j H' => ∃ P' F' m' qs A, SR X.K (CnX W n0 H0 F0 wx) P' F' σ ρ m' H' ∧ Te P1 F1 H1 P' F' H' ∧ P' L0 ∧ L0 ∉ F' ∧ H' L0 = some (.lst (qs.map V.ref)) ∧ qs.Nodup ∧ qs.length = A.length ∧
    (∀ q ∈ qs, P' q ∧ q ∉ F' ∧ q ≠ L0 ∧ H1 q = none) ∧ RowsAt H' qs A ∧ mkGo g de (wipeD ρ vs) (items.drop j) A m' (fun A m2 => m2.2 = none ∧ ∀ h, E.nx (ρ.set i (.val (.hnd h))) (m2.1, some (h, A)))
  have hn0 : H0 L0 = none := S1.h0n hD
  have nown : ∀ (i : Nat) (ds : List D) (p : Addr), ρ[i]? = some (.own ds) → σ[i]? = some (some (.ref p)) → p ≠ L0 := fun i ds p e e1 z => by
    obtain ⟨p', us, e2, hp, _⟩ := S1.slot i _ e
    rw [e1] at e2; cases e2
    rw [z, hD] at hp; cases hp
  refine lc_it w Pv ⟨P1', F1, m1, [], [], SD, tD, (by rw [← hP1]; exact .inr rfl), S1.nf hD, upd_same, List.nodup_nil, rfl, fun q h => absurd h List.not_mem_nil, fun j q row h => by simp at h, z⟩ (fun j H' _ p => ?_) (fun j x H' H2 hj p y => ?_) (fun H' p => ?_)
  · obtain ⟨P', F', m', qs, A, S', t', _⟩ := p
    exact (hG P' F' H' t').1
  · obtain ⟨P', F', m', qs, A, S', t', pD, nF, eD, nd, ll, hq, hr, z⟩ := p
    obtain ⟨k2, d, ed, hd⟩ := (hG P' F' H' t').2 j x H2 y
    have S2 := S'.grow k2
    have t2 := S'.te k2
    have ei : items.drop j = d :: items.drop (j + 1) := by
      obtain ⟨hlt, e⟩ := List.getElem?_eq_some_iff.mp ed
      rw [List.drop_eq_getElem_cons hlt, e]
    rw [ei] at z
    have z : g d (wipeD ρ vs) fun ρ2 => de ρ2 m' (fun y m2 => ∃ row : List Int, y = .lst (zz row) ∧ A.length < sizeLine ∧ mkGo g de (wipeD ρ vs) (items.drop (j + 1)) (A ++ [row]) m2 (fun A m2 => m2.2 = none ∧ ∀ h, E.nx (ρ.set i (.val (.hnd h))) (m2.1, some (h, A)))) (fun _ _ => False) := z
    refine qg (L2.wipe σ vs) H2 P' F' (wipeD ρ vs) m' x d _ _ (S2.wipe vs).nox hd z fun σ2 ρ2 S3 hw2 z => ?_
    refine ⟨by rw [hw2 vs hw, wipe_wipe fun _ h => h], ?_⟩
    refine iteT (B := Pv (j + 1) H2) ?_
    refine qe σ2 H2 P' F' ρ2 m' _ _ S3 z fun v H4 ⟨P4, F4, m4, y4, S5, t4, dv, z⟩ => ?_
    obtain ⟨row, ey, la, z⟩ := z
    have t4 := t2.trans t4
    obtain ⟨q, us, ev, q1, q2, q3, q4⟩ := dv.2 _ ey
    subst ev
    have eu := q4.ints_inv
    have S6 := S'.back t4 S5.unnox
    have hq1 : H' q = none := some_of (t2.stay q) q1
    obtain ⟨S7, t7⟩ := S'.owned t4 S6 σ.length hq1 q3 q2 (show DnA true X.K F4 (sv H0 P4 H4) us (zz row) from q4) (nls_ints row)
    rw [set_far, show ρ.set σ.length (.own (zz row)) = ρ from by rw [← S'.len]; exact set_far _ _] at S7
    have nq : q ∉ F4 := fun z => q2 (S6.prf _ z)
    have d1 : P4 L0 ∨ L0 = q := .inl (t4.prm L0 pD)
    have d2 : L0 ∉ F4 := fun z => by
      have y := t4.fn L0 z nF
      rw [eD] at y; cases y
    have d3 : H4 L0 = some (.lst (qs.map V.ref)) := t4.all L0 _ nF eD
    have nL : q ≠ L0 := fun z => by rw [z, eD] at hq1; cases hq1
    obtain ⟨S8, up⟩ := S7.poke (ws := qs.map V.ref ++ [.ref q]) d1 d2 d3 hn0 nown
    have tt := t'.trans t7
    refine ⟨qs.map V.ref, d3, by rw [List.length_map, ll]; exact la, _, F4, m4, qs ++ [q], A ++ [row], S8, ⟨⟨tt.pre, tt.prn, tt.fn, fun a o h => ?_, fun a o n h => ?_⟩, tt.prm, fun a o n h => ?_⟩, d1, d2, by rw [upd_same, List.map_append]; rfl, ?_, by simp [ll], fun p hp => ?_, fun k p r h1 h2 => ?_, z⟩
    · obtain ⟨o', e⟩ := tt.stay a o h
      exact ⟨o', by rw [upd_ne (ne_of_none h hD)]; exact e⟩
    · rw [upd_ne (ne_of_none h hD)]
      exact tt.keep a o n h
    · rw [upd_ne (ne_of_none h hD)]
      exact tt.all a o n h
    · refine List.nodup_append.mpr ⟨nd, by simp, fun a ha b hb => ?_⟩
      rw [List.mem_singleton.mp hb]
      intro z
      subst z
      obtain ⟨r, er⟩ : ∃ r, H' a = some r := by
        obtain ⟨k, hk, e⟩ := List.getElem_of_mem ha
        exact ⟨_, hr k a (A[k]'(by omega)) (by rw [List.getElem?_eq_getElem hk, e]) (List.getElem?_eq_getElem (by omega))⟩
      rw [hq1] at er; cases er
    · rcases List.mem_append.mp hp with h | h
      · obtain ⟨a1, a2, a3, a4⟩ := hq p h
        refine ⟨t7.prm p a1, fun z => ?_, a3, a4⟩
        have y := t4.fn p z a2
        obtain ⟨k, hk, e⟩ := List.getElem_of_mem h
        have := hr k p (A[k]'(by omega)) (by rw [List.getElem?_eq_getElem hk, e]) (List.getElem?_eq_getElem (by omega))
        rw [y] at this; cases this
      · rw [List.mem_singleton.mp h]
        exact ⟨.inr rfl, nq, nL, some_of (t'.stay q) hq1⟩
    · by_cases lk : k < qs.length
      · rw [List.getElem?_append_left lk] at h1
        rw [List.getElem?_append_left (by omega)] at h2
        obtain ⟨a1, a2, a3, a4⟩ := hq p (List.mem_of_getElem? h1)
        rw [upd_ne a3]
        exact t4.all p _ a2 (hr k p r h1 h2)
      · rw [List.getElem?_append_right (by omega)] at h1
        rw [List.getElem?_append_right (by omega), ← ll] at h2
        cases k' : k - qs.length with
        | succ n => rw [k'] at h1; simp at h1
        | zero =>
          rw [k'] at h1 h2
          simp at h1 h2
          subst h1
          subst h2
          rw [upd_ne nL, q3, eu]
  · obtain ⟨P', F', m', qs, A, S', t', pD, nF, eD, nd, ll, hq, hr, z⟩ := p
    rw [List.drop_length] at z
    have z : m'.2 = none ∧ ∀ h, E.nx (ρ.set i (.val (.hnd h))) (m'.1, some (h, A)) := z
    obtain ⟨m1', o⟩ := m'
    obtain ⟨z1, z⟩ := z
    have z1 : o = none := z1
    subst z1
    have tt := t1.trans t'
    have F0F : F0.length ≤ F'.length := by
      obtain ⟨F2, e⟩ := S'.pre
      have e : F' = F0 ++ F2 := e
      rw [e, List.length_append]; omega
    have qn : ∀ q ∈ qs, H q = none := fun q h => some_of (t1.stay q) (hq q h).2.2.2
    have Ln : H L0 = none := some_of (t1.stay L0) hD
    refine l.nx (σ.set i (some (.ref L0))) H' (ρ.set i (.val (.hnd F'.length))) (m1', some (F'.length, A)) P' (F' ++ L0 :: qs) ⟨S'.keep, ?_, fun a ha n => ?_, S'.prs, fun a pa n => S'.prn a pa fun z => n (List.mem_append_left _ z), fun a ha => ?_, ?_, by simpa using S'.len, fun j s e => ?_, fun a b ds es p ne ea eb sa sb => ?_⟩ ⟨?_, tt.prn, fun a ha n => ?_, tt.stay, tt.keep⟩ (z _)
    · obtain ⟨F2, e⟩ := S'.pre
      exact ⟨F2 ++ L0 :: qs, by rw [e, List.append_assoc]⟩
    · rcases List.mem_append.mp ha with h | h
      · exact S'.new a h n
      · rcases List.mem_cons.mp h with rfl | h
        · exact hn0
        · exact S1.h0n (hq a h).2.2.2
    · rcases List.mem_append.mp ha with h | h
      · exact S'.prf a h
      · rcases List.mem_cons.mp h with rfl | h
        · exact pD
        · exact (hq a h).1
    · refine ⟨show n0 ≤ F'.length by omega, F', L0, qs, qs, rfl, rfl, S'.rz, eD, ll, nd, fun z => (hq _ z).2.2.1 rfl, fun q h => (hq q h).2.1, nF, fun q h => h, fun q h => ?_, hr⟩
      obtain ⟨k, hk, e⟩ := List.getElem_of_mem h
      exact ⟨_, hr k q (A[k]'(by omega)) (by rw [List.getElem?_eq_getElem hk, e]) (List.getElem?_eq_getElem (by omega))⟩
    · rcases get_set e with ⟨rfl, rfl⟩ | ⟨ne, e⟩
      · have hi : j < σ.length := by rw [← S'.len]; exact lt_of_set e
        exact ⟨.ref L0, by rw [List.getElem?_set_self hi], .hnd (by rw [List.getElem?_append_right (Nat.le_refl _), Nat.sub_self]; rfl)⟩
      · rw [List.getElem?_set_ne (Ne.symm ne)]
        have pre : ∃ F1, F' ++ L0 :: qs = F' ++ F1 := ⟨_, rfl⟩
        cases s with
        | un => trivial
        | bor d => exact S'.slot j _ e
        | val d =>
          obtain ⟨v, e1, q⟩ := S'.slot j _ e
          exact ⟨v, e1, q.mono pre fun a o h => h⟩
        | dct kvs =>
          obtain ⟨q, e1, h1, h2, h3⟩ := S'.slot j _ e
          refine ⟨q, e1, h1, h2, fun z => ?_⟩
          rcases List.mem_append.mp z with y | y
          · exact h3 y
          · rcases List.mem_cons.mp y with y | y
            · rw [y, eD] at h1; cases h1
            · obtain ⟨p', e2, hp, _⟩ := S1.slot j _ e
              rw [e1] at e2; cases e2
              rw [(hq _ y).2.2.2] at hp; cases hp
        | own ds =>
          obtain ⟨q, us, e1, h1, h2, h3, h4⟩ := S'.slot j _ e
          refine ⟨q, us, e1, h1, h2, fun z => ?_, h4.mono pre fun a o h => h⟩
          rcases List.mem_append.mp z with y | y
          · exact h3 y
          · rcases List.mem_cons.mp y with y | y
            · exact nown j ds q e e1 y
            · obtain ⟨p', us', e2, hp, _⟩ := S1.slot j _ e
              rw [e1] at e2; cases e2
              rw [(hq _ y).2.2.2] at hp; cases hp
    · rcases get_set ea with ⟨rfl, y⟩ | ⟨na, ea⟩
      · cases y
      · rcases get_set eb with ⟨rfl, y⟩ | ⟨nb, eb⟩
        · cases y
        · rw [List.getElem?_set_ne (Ne.symm na)] at sa
          rw [List.getElem?_set_ne (Ne.symm nb)] at sb
          exact S'.dist a b ds es p ne ea eb sa sb
    · exact pre_trans tt.pre ⟨_, rfl⟩
    · rcases List.mem_append.mp ha with h | h
      · exact tt.fn a h n
      · rcases List.mem_cons.mp h with rfl | h
        · exact Ln
        · exact qn a h
variable {elt tg iter : Expr} {scope : Scope} {own : List (Str × Nat)} {ti : DTA (W.M × Option Mx)} {g : DG} {de : DT (W.M × Option Mx)} {ws : List Nat}
theorem js_mk (i : Nat) {x : Str} {py lp pos : Pos} (hn : F0.length = n0) (hN : X.N.Nodup) (hc : X.calm = true) (hi : JIB X (CnX W n0 H0 F0 wx) tg iter ti) (ok : BlkOk X.N X.env.scope scope own) (hg : ∀ s H c cl fp, JGB (Blk X scope s H c cl fp) (CnX W n0 H0 F0 wx).nox tg ws g) (he : ∀ s H c cl fp, J .f (Blk X scope s H c cl fp) (CnX W n0 H0 F0 wx).nox elt de)
    (hw : ∀ i ∈ ws, i ∈ own.map (·.2)) (hy : X.N[i]? = some x := by rfl) (hx : Loc X.env.scope x := by first | exact .inl rfl | exact .inr rfl) (hf : LocF X x := by first | exact .inl rfl | exact .inr rfl) (hs : ∀ x, foldedSetIterable iter X.env x = pure x := by intro _; rfl)
    (hsw : swapsWith (.ListComp elt [⟨tg, iter, [], 0⟩] scope lp) (some (.Name x py)) pos.line X.env = pure false := by rfl) :
    JS X (CnX W n0 H0 F0 wx) (.Assign [.Name x py] (.ListComp elt [⟨tg, iter, [], 0⟩] scope lp) pos) (dMk i ti g de (own.map (·.2))) := by
  obtain ⟨wi, pi, qi⟩ := hi
  refine ⟨_, ps_set hN hy hx (pe_lc (g := cnGB X.K (CnX W n0 H0 F0 wx).nox ws g) (tt := tYes) (te := cnE .f X.K (CnX W n0 H0 F0 wx).nox de) hc hN pi ok (fun s H c cl fp => (hg s H c cl fp).cn) (fun s H c cl fp => pts_nil) (fun s H c cl fp => (he s H c cl fp).cn) hs) hsw hf, fun σ H Pr F ρ m E D' S l h => ?_⟩
  exact mk_read i hn hw (fun R' k' => qi σ H Pr F ρ m _ _ R' S (l.ex σ ρ) h k') (fun σ H Pr F ρ m v d Q R S dv z k => ⟨Pr, F, ρ, m, d, Q, S, dv, z, k⟩) (fun σ H Pr F ρ m Q R S z k => ⟨Pr, F, ρ, m, Q, S, z, k⟩) S l
end
section
variable {P : Program} {w : World} {K : PySem.W.Frag} {mg : Str → Option Value} {base : Heap} {W : Wd}
abbrev BodyX (P : Program) (w : World) (K : PySem.W.Frag) (mg : Str → Option Value) (base : Heap) (W : Wd) (k : Nat) (N : List Str) (x : Str) (st : Stmt) (t : DS (W.M × Option Mx)) : Prop :=
  ∀ (f : Addr) (cdv : Value) (A : Around) (outer : List Env) (s : Shared) (H : Hp) (E : XK) (F0 : List Addr), RoomG k (A.deeper (envOfC x (defScope st) s.heap.objs.size f cdv)) →
      JSLs (XOf P w K mg base N x (defScope st) f cdv A outer s H E) (CnX W F0.length H F0 (fun cls d _ H' => E cls d H')) (defBody st) t
def exX {M : Type} (Q : D → M → Prop) : DE (M × Option Mx) := { nx := fun _ _ => False, rt := fun d m' => ∃ i : Int, d = .int i ∧ Q (.int i) m'.1 }
theorem Dfn.fdX {g x : Str} {st : Stmt} {N ps : List Str} {k : Nat} {sp : DSp W.M} {t : DS (W.M × Option Mx)} (Fd : Dfn K mg g x st ps) (ks : List Bool) (S : FnScope N ps (defScope st)) (body : BodyX P w K mg base W k N x st t)
    (len : ∀ ds m Q Z, sp ds m Q Z → ds.length = ps.length) (vc : ∀ ds m Q Z, sp ds m Q Z → okK ks ds ∧ t (exX Q) (st0 ks ds N.length) (m, none)) (hn : ps.length ≤ N.length := by decide) : FD P w K mg base W (k + 1) g [] sp := by
  obtain ⟨f, fd, Fn, gf, b⟩ := Fd.ex
  refine ⟨f, fd, ps, [], [], ?_, gf, Fn.kp, b, .nil, fun _ _ => .nil⟩
  have ln : ∀ vs H Q E, spD K mg W sp vs H Q E → vs.length = ps.length := fun vs H Q E h => by
    obtain ⟨F, m, ds, Qd, Zd, rz, dv, q, _⟩ := h
    rw [dv.length]
    exact len _ _ _ _ q
  refine okG Fn S ln fun cdv A outer s H vs Q E hr h => ?_
  have lv := ln _ _ _ _ h
  obtain ⟨F0, m, ds, Qd, Zd, rz, dv, q, hq, hz⟩ := h
  obtain ⟨ts, p, r⟩ := body f cdv A outer s H E F0 hr
  obtain ⟨ok, v⟩ := vc _ _ _ _ q
  refine ⟨ts, p, r (L2.start N vs) H (· ∈ F0) F0 _ (m, none) (exX Qd) _ (sr_entry (C := CnX W F0.length H F0 (fun cls d _ H' => E cls d H')) rfl rfl (show W.Rz m F0 H from rz) dv ok (by omega)) ⟨fun σ' H' ρ' m' P1 F1 S1 q => q.elim, fun v H' d m' P1 F1 σ' ρ' H1 S1 dv q => ?_, fun _ _ _ _ _ _ _ q => q.elim, fun _ _ _ _ _ _ _ q => q.elim, fun σ' ρ' y cls P1 F1 m' H' hm S1 q => q.elim⟩ v⟩
  obtain ⟨i, ed, q⟩ := q
  subst ed
  have dv : Dn true K F1 (sv H (· ∈ F1) H') v (.int i) := dv
  have ev := dv.toInt
  subst ev
  obtain ⟨m1, o⟩ := m'
  have S1n : ∀ a ∈ F1, a ∉ F0 → H a = none := S1.new
  have S1k : ∀ a o, a ∉ F0 → H a = some o → H' a = some o := S1.keep
  obtain ⟨F2, e2⟩ := S1.pre
  have e2 : F1 = F0 ++ F2 := e2
  cases o with
  | none => exact hq _ H' F1 _ m1 S1.rz S1.pre (fun a h n => S1n a h n) (fun a o n e => S1k a o n e) (.int i) q
  | some x =>
    obtain ⟨n, Fa, p0, Fq, qs, eF, e1, r1, _⟩ := S1.rz
    have lF : F0.length ≤ Fa.length := by have n : F0.length ≤ x.1 := n; omega
    have pre : ∃ G, Fa = F0 ++ G := by
      refine ⟨Fa.drop F0.length, ?_⟩
      have t1 := congrArg (List.take F0.length) (eF.symm.trans e2)
      rw [List.take_append_of_le_length lF, List.take_left' rfl] at t1
      conv => lhs; rw [← List.take_append_drop F0.length Fa, t1]
    exact hq _ H' Fa _ m1 r1 pre (fun a h n => S1n a (by rw [eF]; exact List.mem_append_left _ h) n) (fun a o n e => S1k a o n e) (.int i) q
theorem Dfn.goX {g x : Str} {st : Stmt} {N ps : List Str} {k : Nat} {sp : DSp W.M} {t : DS (W.M × Option Mx)} (Fd : Dfn K mg g x st ps) (ks : List Bool) (S : FnScope N ps (defScope st)) (body : BodyX P w K mg base W k N x st t)
    (vc : ∀ ds m Q Z, sp ds m Q Z → okK ks ds ∧ t (exX Q) (st0 ks ds N.length) (m, none)) (hk : ks.length = ps.length := by rfl) (hn : ps.length ≤ N.length := by decide) : FD P w K mg base W (k + 1) g [] sp :=
  Fd.fdX ks S body (fun ds m Q Z h => by rw [okK_len (vc ds m Q Z h).1, hk]) vc hn
end
end RR
namespace RR
open PySem PySem.Spec PyProof.Rows L2
section
variable {X : Cx} {C : Cn}
theorem jp_neg {i : Int} {j} {p pos : Pos} : JP X C (.UnaryOp .USub (.Constant (.int i) j p) pos) (pC (-i)) := ⟨_, pe_un un_neg pe_int, fun σ H Pr F ρ Q R S h k => ⟨_, rfl, k _ h⟩⟩
end
end RR
namespace RR
open PySem PySem.Spec PyProof.Rows L2
section
variable {X : Cx} {C : Cn} {e f a b : Expr} {ta tb : DT C.W.M} {pos : Pos}
end
section
variable {X : Cx} {C : Cn}
end
def ValT (d : D) (v : Value) : Prop := (∃ i t, d = .int i ∧ v = .int i t) ∨ ∃ z t, d = .str z ∧ v = .str z t
theorem ValT.rel {d : D} {u : Value} (h : ValT d u) : ∃ v, RelV v u ∧ (∀ (s : Bool) (K : PySem.W.Frag) (F : List Addr) (G : Hp), Dn s K F G v d) ∧ ∀ ds, d ≠ .lst ds := by
  rcases h with ⟨i, t, rfl, rfl⟩ | ⟨i, t, rfl, rfl⟩
  · exact ⟨.int i, ⟨t, rfl⟩, fun _ _ _ _ => .int i, fun _ h => nomatch h⟩
  · exact ⟨.str i, ⟨t, rfl⟩, fun _ _ _ _ => .str i, fun _ h => nomatch h⟩
section
variable {X : Cx} {C : Cn} {e f a b : Expr} {ta tb : DT C.W.M} {pos : Pos} {nm : Str} {tab : List (Str × D)}
end
end RR
namespace RR
open PySem PySem.Spec PyProof.Rows L2
abbrev XT (M : Type) := En → M → (D → En → M → Prop) → (Str → M → Prop) → Prop
def JX (X : Cx) (C : Cn) (e : Expr) (t : XT C.W.M) : Prop := ∃ te, PE X e te ∧
  ∀ σ H Pr F ρ m Q Z (R : VK), SR X.K C Pr F σ ρ m H → (∀ ρ, Ex X C Pr F H σ ρ Z) → t ρ m Q Z →
    (∀ v H', (∃ Pr' F' ρ' m' d, SR X.K C Pr' F' σ ρ' m' H' ∧ Tr Pr F H Pr' F' H' ∧ Dn true X.K F' (sv C.H0 Pr' H') v d ∧ Q d ρ' m') → R v H') → te σ H R
section
variable {X : Cx} {C : Cn} {e : Expr} {es : List Expr} {pos : Pos}
end
section
variable {M : Type} {ρ : En} {m : M} {nx bk ct : En → M → Prop} {rt : D → M → Prop} {ex : Str → M → Prop} {ds : List D} {d : D} {Z : Str → M → Prop}
end
end RR
namespace RR
open PySem PySem.Spec PyProof.Rows L2
section
variable {X : Cx} {CT : CXT} {k : Nat} {f C : Addr} {fd : FuncData} {ps : List Str} {sp : Sp} {ds : List Value} {dvs : List V} {E : L2.St → XK} {x m : Str} {p pos apos : Pos} {e o : Expr} {es : List Expr} {ta : TE} {t : TA}
end
end RR
namespace RR
open PySem PySem.Spec PyProof.Rows L2
mutual
def D.pl : D → Bool
  | .non => true
  | .bl _ => true
  | .int _ => true
  | .str _ => true
  | .tup xs => D.pls xs
  | _ => false
def D.pls : List D → Bool
  | [] => true
  | x :: r => x.pl && D.pls r
end
mutual
theorem pl_nl : ∀ {d : D}, d.pl = true → d.nl = true
  | .non, _ => rfl
  | .bl _, _ => rfl
  | .int _, _ => rfl
  | .str _, _ => rfl
  | .tup xs, h => pls_nls (show D.pls xs = true from h)
  | .lst _, h => by cases h
  | .hnd _, h => by cases h
  | .dic, h => by cases h
  | .exc _, h => by cases h
  | .fn _, h => by cases h
  | .ptr _, h => by cases h
theorem pls_nls : ∀ {ds : List D}, D.pls ds = true → D.nls ds = true
  | [], _ => rfl
  | x :: r, h => by
    rw [D.pls, Bool.and_eq_true] at h
    rw [D.nls, pl_nl h.1, pls_nls h.2]; rfl
end
mutual
theorem Dn.plain {s s' : Bool} {K : PySem.W.Frag} {F F' : List Addr} {G G' : Hp} (hG : ∀ a xs, G a = some (.tup xs) → G' a = some (.tup xs)) : ∀ {v : V} {d : D}, Dn s K F G v d → d.pl = true → Dn s' K F' G' v d
  | _, _, .non, _ => .non
  | _, _, .bl b, _ => .bl b
  | _, _, .int i, _ => .int i
  | _, _, .str x, _ => .str x
  | _, _, .tup h r, n => .tup (h.mono hG) (DnA.plain hG r n)
  | _, _, .lst h r, n => by cases n
  | _, _, .hnd h, n => by cases n
  | _, _, .dic h, n => by cases n
  | _, _, .exc h c, n => by cases n
  | _, _, .fn h, n => by cases n
  | _, _, .ptr, n => by cases n
theorem DnA.plain {s s' : Bool} {K : PySem.W.Frag} {F F' : List Addr} {G G' : Hp} (hG : ∀ a xs, G a = some (.tup xs) → G' a = some (.tup xs)) : ∀ {vs : List V} {ds : List D}, DnA s K F G vs ds → D.pls ds = true → DnA s' K F' G' vs ds
  | _, _, .nil, _ => .nil
  | _, _, .cons h r, n => by
    rw [D.pls, Bool.and_eq_true] at n
    exact .cons (Dn.plain hG h n.1) (DnA.plain hG r n.2)
end
inductive FV where
  | val (d : D) | lst (ds : List D) | free (ds : List D)
noncomputable def tv (H : Hp) : Hp := vw (fun _ o => IsT o) H
theorem tv_mono {H H' : Hp} (t : ∀ a o, IsT o → H a = some o → H' a = some o) : ∀ a o, tv H a = some o → tv H' a = some o := fun a o h => by
  obtain ⟨e, i⟩ := vw_iff.mp h
  exact vw_iff.mpr ⟨t a o i e, i⟩
inductive FvAt (K : PySem.W.Frag) (H : Hp) : List Addr → List (Str × FV) → List (Str × V) → Prop
  | nil : FvAt K H [] [] []
  | val {ls : List Addr} {fs : List (Str × FV)} {fv : List (Str × V)} {n : Str} {d : D} {v : V} : Dn true K [] (tv H) v d → d.pl = true → FvAt K H ls fs fv → FvAt K H ls ((n, .val d) :: fs) ((n, v) :: fv)
  | lst {ls : List Addr} {fs : List (Str × FV)} {fv : List (Str × V)} {n : Str} {ds : List D} {vs : List V} {l : Addr} : H l = some (.lst vs) → DnA true K [] (tv H) vs ds → D.pls ds = true → FvAt K H ls fs fv → FvAt K H (l :: ls) ((n, .lst ds) :: fs) ((n, .ref l) :: fv)
  | free {ls : List Addr} {fs : List (Str × FV)} {fv : List (Str × V)} {n : Str} {ds : List D} {vs : List V} {l : Addr} : H l = some (.lst vs) → DnA true K [] (tv H) vs ds → D.pls ds = true → FvAt K H ls fs fv → FvAt K H (l :: ls) ((n, .free ds) :: fs) fv
theorem FvAt.mono {K : PySem.W.Frag} {H H' : Hp} {ls : List Addr} {fs : List (Str × FV)} {fv : List (Str × V)} (h : FvAt K H ls fs fv) (k : ∀ a ∈ ls, H' a = H a) (t : ∀ a o, IsT o → H a = some o → H' a = some o) : FvAt K H' ls fs fv := by
  induction h with
  | nil => exact .nil
  | val a b _ ih => exact .val (a.mono ⟨[], rfl⟩ (tv_mono t)) b (ih k)
  | @lst ls fs fv n ds vs l a b c _ ih => exact .lst (by rw [k l (List.mem_cons_self ..)]; exact a) (b.mono ⟨[], rfl⟩ (tv_mono t)) c (ih fun x hx => k x (List.mem_cons_of_mem _ hx))
  | @free ls fs fv n ds vs l a b c _ ih => exact .free (by rw [k l (List.mem_cons_self ..)]; exact a) (b.mono ⟨[], rfl⟩ (tv_mono t)) c (ih fun x hx => k x (List.mem_cons_of_mem _ hx))
theorem FvAt.there {K : PySem.W.Frag} {H : Hp} {ls : List Addr} {fs : List (Str × FV)} {fv : List (Str × V)} (h : FvAt K H ls fs fv) : ∀ a ∈ ls, ∃ vs, H a = some (.lst vs) := by
  induction h with
  | nil => intro a ha; exact absurd ha List.not_mem_nil
  | val _ _ _ ih => exact ih
  | lst a _ _ _ ih =>
    intro x hx
    rcases List.mem_cons.mp hx with rfl | hx
    · exact ⟨_, a⟩
    · exact ih x hx
  | free a _ _ _ ih =>
    intro x hx
    rcases List.mem_cons.mp hx with rfl | hx
    · exact ⟨_, a⟩
    · exact ih x hx
def fget (f : Str) (fs : List (Str × FV)) : Option FV := fs.lookup f
theorem FvAt.get {K : PySem.W.Frag} {H : Hp} {ls : List Addr} {fs : List (Str × FV)} {fv : List (Str × V)} (h : FvAt K H ls fs fv) (f : Str) : (fget f fs = none → fv.lookup f = none) ∧ (∀ d, fget f fs = some (.val d) → ∃ v, fv.lookup f = some v ∧ Dn true K [] (tv H) v d ∧ d.pl = true) ∧
    ∀ ds, fget f fs = some (.lst ds) → ∃ l vs, fv.lookup f = some (.ref l) ∧ l ∈ ls ∧ H l = some (.lst vs) ∧ DnA true K [] (tv H) vs ds ∧ D.pls ds = true := by
  unfold fget
  induction h with
  | nil => exact ⟨fun _ => rfl, fun d e => (nomatch e), fun ds e => (nomatch e)⟩
  | @val ls fs fv n d v a b _ ih =>
    by_cases q : f = n
    · subst q
      have hb : (f == f) = true := beq_self_eq_true f
      simp only [List.lookup, hb]
      exact ⟨fun e => (nomatch e), fun d' e => by cases e; exact ⟨v, rfl, a, b⟩, fun ds e => (nomatch e)⟩
    · have hb : (f == n) = false := beq_eq_false_iff_ne.mpr q
      simp only [List.lookup, hb]
      exact ih
  | @lst ls fs fv n ds vs l a b c _ ih =>
    by_cases q : f = n
    · subst q
      have hb : (f == f) = true := beq_self_eq_true f
      simp only [List.lookup, hb]
      exact ⟨fun e => (nomatch e), fun d e => (nomatch e), fun ds' e => by cases e; exact ⟨l, vs, rfl, List.mem_cons_self .., a, b, c⟩⟩
    · have hb : (f == n) = false := beq_eq_false_iff_ne.mpr q
      simp only [List.lookup, hb]
      exact ⟨ih.1, ih.2.1, fun ds' e => by
        obtain ⟨l', vs', x1, x2, x3⟩ := ih.2.2 ds' e
        exact ⟨l', vs', x1, List.mem_cons_of_mem _ x2, x3⟩⟩
  | @free ls fs fv n ds vs l a b c _ ih =>
    by_cases q : f = n
    · subst q
      have hb : (f == f) = true := beq_self_eq_true f
      simp only [List.lookup, hb]
      exact ⟨fun e => (nomatch e), fun d e => (nomatch e), fun ds' e => (nomatch e)⟩
    · have hb : (f == n) = false := beq_eq_false_iff_ne.mpr q
      simp only [List.lookup, hb]
      exact ⟨ih.1, ih.2.1, fun ds' e => by
        obtain ⟨l', vs', x1, x2, x3⟩ := ih.2.2 ds' e
        exact ⟨l', vs', x1, List.mem_cons_of_mem _ x2, x3⟩⟩
section
variable {X : Cx} {Cl : Addr} {W : Wd} {H0 : Hp} {F0 : List Addr} {wx : WX}
def JH (X : Cx) (C : Cn) (e : Expr) (t : En → C.W.M → (D → Prop) → Prop) : Prop := ∃ te, PE X e te ∧
  ∀ σ H Pr F ρ m Q (R : VK), SR X.K C Pr F σ ρ m H → t ρ m Q → (∀ v d, Dn true X.K F (sv C.H0 Pr H) v d → (∀ ds, d ≠ .lst ds) → Q d → R v H) → te σ H R
def dH {M : Type} (t : En → M → (D → Prop) → Prop) : DT M := fun ρ m Q _ => t ρ m fun d => Q d m
theorem JH.j {C : Cn} {e : Expr} {t : En → C.W.M → (D → Prop) → Prop} (h : JH X C e t) : J .f X C e (dH t) := by
  obtain ⟨te, p, q⟩ := h
  exact ⟨te, p, fun σ H Pr F ρ m Q Z R S E h k => q σ H Pr F ρ m _ R S h fun v d dv n z => k v H (post_here S dv n z)⟩
end
end RR
namespace RR
open PySem PySem.Spec PyProof.Rows L2
theorem FvAt.other {K : PySem.W.Frag} {H : Hp} {l : Addr} {us vs : List V} {ls : List Addr} {fs : List (Str × FV)} {fv : List (Str × V)} (h : FvAt K H ls fs fv) (n : l ∉ ls) (hl : H l = some (.lst us)) : FvAt K (upd H l (.lst vs)) ls fs fv :=
  h.mono (fun a ha => upd_ne fun z => n (z ▸ ha)) fun a o it e => by rw [upd_ne (fun z => by rw [z, hl] at e; cases e; exact it)]; exact e
section
variable {X : Cx} {Cl : Addr} {W : Wd} {H0 : Hp} {F0 : List Addr} {wx : WX}
end
end RR
namespace RR
open PySem PySem.Spec PyProof.Rows L2
def FM (P : Program) (w : World) (K : PySem.W.Frag) (mg : Str → Option Value) (base : Heap) (W : Wd) (k : Nat) (Cl : Addr) (m : Str) (sp : DSp W.M) : Prop :=
  ∃ f fd ps, FnG P w K mg base (L2.CX P w) k f fd ps (spD K mg W sp) ∧ Meth K Cl m f ∧ Binds K fd ps []
theorem FM.mono {P : Program} {w : World} {K : PySem.W.Frag} {mg : Str → Option Value} {base : Heap} {W : Wd} {Cl : Addr} {m : Str} {sp : DSp W.M} {j k : Nat} (h : FM P w K mg base W j Cl m sp) (l : j ≤ k) : FM P w K mg base W k Cl m sp := by
  obtain ⟨f, fd, ps, F, r⟩ := h
  exact ⟨f, fd, ps, F.mono l, r⟩
section
variable {X : Cx} {Cl : Addr} {W : Wd} {H0 : Hp} {F0 : List Addr} {wx : WX}
end
structure DfnM (K : PySem.W.Frag) (Cl : Addr) (m ql : Str) (st : Stmt) (ps : List Str) : Prop where
  ex : ∃ f fd, Fun K m ql st f fd ∧ Meth K Cl m f ∧ Binds K fd ps []
section
variable {P : Program} {w : World} {K : PySem.W.Frag} {mg : Str → Option Value} {base : Heap} {W : Wd} {Cl : Addr}
theorem DfnM.go {m ql : Str} {st : Stmt} {N ps : List Str} {k : Nat} {sp : DSp W.M} {t : DS W.M} (F : DfnM K Cl m ql st ps) (ks : List Bool) (S : FnScope N ps (defScope st)) (body : BodyJ P w K mg base W k N ql st t)
    (vc : ∀ ds m Q Z, sp ds m Q Z → okK ks ds ∧ t { nx := fun _ m' => Q .non m', rt := Q, ex := Z } (st0 ks ds N.length) m) (hk : ks.length = ps.length := by rfl) (hn : ps.length ≤ N.length := by decide) : FM P w K mg base W (k + 1) Cl m sp := by
  obtain ⟨f, fd, Fn, hm, b⟩ := F.ex
  exact ⟨f, fd, ps, fn_dataR ks (fun ln bd => okG Fn S ln bd) (fun ds m Q Z h => by rw [okK_len (vc ds m Q Z h).1, hk]) hn (body f) vc, hm, b⟩
end
end RR
namespace RR
open PySem PySem.Spec PyProof.Rows L2
def lnth : Nat → List (Str × FV) → Option (List D)
  | _, [] => none
  | n, (_, .val _) :: r => lnth n r
  | 0, (_, .lst ds) :: _ => some ds
  | n + 1, (_, .lst _) :: r => lnth n r
  | 0, (_, .free _) :: _ => none
  | n + 1, (_, .free _) :: r => lnth n r
theorem FvAt.nth {K : PySem.W.Frag} {H : Hp} {ls : List Addr} {fs : List (Str × FV)} {fv : List (Str × V)} (h : FvAt K H ls fs fv) : ∀ {n : Nat} {ds : List D} {l : Addr}, lnth n fs = some ds → ls[n]? = some l → ∃ vs, H l = some (.lst vs) ∧ DnA true K [] (tv H) vs ds ∧ D.pls ds = true := by
  induction h with
  | nil => intro n ds l e; cases n <;> cases e
  | val _ _ _ ih =>
    intro n ds l e el
    cases n <;> exact ih e el
  | lst a b c _ ih =>
    intro n ds l e el
    cases n with
    | zero => cases e; cases el; exact ⟨_, a, b, c⟩
    | succ n => exact ih e el
  | free a b c _ ih =>
    intro n ds l e el
    cases n with
    | zero => cases e
    | succ n => exact ih e el
section
variable {X : Cx} {Cl : Addr} {W : Wd} {H0 : Hp} {F0 : List Addr} {wx : WX}
theorem FvAt.few {K : PySem.W.Frag} {H : Hp} {ls : List Addr} {fs : List (Str × FV)} {fv : List (Str × V)} (h : FvAt K H ls fs fv) : fv.length ≤ fs.length := by
  induction h with
  | nil => exact Nat.le_refl _
  | val _ _ _ ih => simp only [List.length_cons]; omega
  | lst _ _ _ _ ih => simp only [List.length_cons]; omega
  | free _ _ _ _ ih => simp only [List.length_cons]; omega
end
end RR
namespace RR
open PySem PySem.Spec PyProof.Rows L2
section
variable {X : Cx} {Cl : Addr} {W : Wd} {H0 : Hp} {F0 : List Addr} {wx : WX}
end
end RR
namespace RR
open PySem PySem.Spec PyProof.Rows L2
def hdel (H : Hp) (p : Addr) : Hp := fun a => if a = p then none else H a
theorem hdel_ne {H : Hp} {p a : Addr} (h : a ≠ p) : hdel H p a = H a := if_neg h
section
variable {K : PySem.W.Frag} {C : Cn} {Pr : Addr → Prop} {F : List Addr} {σ : L2.St} {ρ : En} {m : C.W.M} {H : Hp}
theorem SR.without (S : SR K C Pr F σ ρ m H) {i : Nat} {ds : List D} {p : Addr} (e : ρ[i]? = some (.own ds)) (e1 : σ[i]? = some (some (.ref p))) : SR K C (fun a => Pr a ∧ a ≠ p) F σ (ρ.set i .un) m (hdel H p) := by
  obtain ⟨p', vs, e2, hp, pp, nf, h4⟩ := S.slot i _ e
  rw [e1] at e2; cases e2
  have h0p : C.K0 p = none := S.prn p pp nf
  have up : ∀ a o, sv C.H0 Pr H a = some o → sv C.H0 (fun a => Pr a ∧ a ≠ p) (hdel H p) a = some o := fun a o h => by
    obtain ⟨h1, h2⟩ := vw_iff.mp h
    have na : a ≠ p := fun q => by
      subst q
      rcases h2 with h2 | h2
      · rw [hp] at h1; cases h1; exact h2
      · exact h2.2.1 pp
    exact vw_iff.mpr ⟨by rw [hdel_ne na]; exact h1, h2.imp id fun q => ⟨q.1, fun z => q.2.1 z.1, q.2.2⟩⟩
  refine ⟨fun a o n h => ?_, S.pre, S.new, fun a h => ?_, fun a h n => S.prn a h.1 n, fun a h => ⟨S.prf a h, fun q => nf (q ▸ h)⟩, C.W.keep S.rz (fun a h => hdel_ne fun q => nf (q ▸ h)) (fun a o it h => by rw [hdel_ne (fun q => by rw [q, hp] at h; cases h; exact it)]; exact h), by simpa using S.len, fun j s ej => ?_, fun a b ds' es' q ne ea eb sa sb => ?_⟩
  · rw [hdel_ne (fun q => by rw [q, h0p] at h; cases h)]
    exact S.keep a o n h
  · obtain ⟨o, h1, h2⟩ := S.prs a h.1
    exact ⟨o, by rw [hdel_ne h.2]; exact h1, h2⟩
  · rcases get_set ej with ⟨rfl, rfl⟩ | ⟨ne, ej⟩
    · trivial
    · cases s with
      | un => trivial
      | bor d => exact S.slot j _ ej
      | val d =>
        obtain ⟨v, e1, q⟩ := S.slot j _ ej
        exact ⟨v, e1, q.mono ⟨[], by simp⟩ up⟩
      | dct kvs =>
        obtain ⟨q, e3, h1, h2, h3⟩ := S.slot j _ ej
        have nq : q ≠ p := fun z => by subst z; rw [hp] at h1; cases h1
        exact ⟨q, e3, by rw [hdel_ne nq]; exact h1, ⟨h2, nq⟩, h3⟩
      | own ds' =>
        obtain ⟨q, ws', e3, h1, h2, h3, h4⟩ := S.slot j _ ej
        have nq : q ≠ p := fun z => by
          subst z
          exact S.dist j i _ _ _ ne ej e e3 e1
        exact ⟨q, ws', e3, by rw [hdel_ne nq]; exact h1, ⟨h2, nq⟩, h3, h4.mono ⟨[], by simp⟩ up⟩
  · rcases get_set ea with ⟨rfl, z⟩ | ⟨na, ea⟩
    · cases z
    · rcases get_set eb with ⟨rfl, z⟩ | ⟨nb, eb⟩
      · cases z
      · exact S.dist a b _ _ q ne ea eb sa sb
end
section
variable {X : Cx} {Cl : Addr} {W : Wd} {H0 : Hp} {F0 : List Addr} {wx : WX}
end
section
variable {X : Cx} {C : Cn} {e : Expr} {pos pos' : Pos}
end
section
variable {M : Type} {ρ : En} {m : M} {nx bk ct : En → M → Prop} {rt : D → M → Prop} {ex : Str → M → Prop} {ds : List D} {d : D} {g : DG} {t : DT M} {Z : Str → M → Prop}
variable {ta : DTA M} {QL : List D → M → Prop} {i j : Int}
end
end RR
namespace RR
open PySem PySem.Spec PyProof.Rows L2
def strip (xs : List Int) : List Int := (xs.reverse.dropWhile (· == 0)).reverse
theorem strip_snoc (xs : List Int) (a : Int) : strip (xs ++ [a]) = if a = 0 then strip xs else xs ++ [a] := by
  unfold strip
  rw [List.reverse_append, List.reverse_singleton, List.singleton_append, List.dropWhile_cons]
  by_cases h : a = 0
  · rw [if_pos h, if_pos (by simp [h])]
  · rw [if_neg h, if_neg (by simp [h]), List.reverse_cons, List.reverse_reverse]
theorem strip_ind {P : List Int → Prop} (h0 : P []) (h1 : ∀ xs a, P xs → P (xs ++ [a])) : ∀ xs, P xs := fun xs => by
  have : ∀ ys : List Int, P ys.reverse := fun ys => by
    induction ys with
    | nil => exact h0
    | cons y ys ih => rw [List.reverse_cons]; exact h1 _ _ ih
  have := this xs.reverse
  rwa [List.reverse_reverse] at this
theorem strip_len (xs : List Int) : (strip xs).length ≤ xs.length := by
  induction xs using strip_ind with
  | h0 => exact Nat.le_refl _
  | h1 xs a ih =>
    rw [strip_snoc]
    split
    · rw [List.length_append]; omega
    · exact Nat.le_refl _
theorem strip_mem {xs : List Int} {x : Int} : x ∈ strip xs → x ∈ xs := by
  induction xs using strip_ind with
  | h0 => exact id
  | h1 xs a ih =>
    rw [strip_snoc]
    split
    · exact fun h => List.mem_append_left _ (ih h)
    · exact id
def done (xs : List Int) : Prop := strip xs = xs
theorem strip_done (xs : List Int) : strip (strip xs) = strip xs := by
  induction xs using strip_ind with
  | h0 => rfl
  | h1 xs a ih =>
    by_cases h : a = 0
    · rw [strip_snoc, if_pos h]; exact ih
    · rw [strip_snoc, if_neg h, strip_snoc, if_neg h]
theorem take_snoc {xs : List Int} {n : Nat} (h : n < xs.length) : xs.take (n + 1) = xs.take n ++ [xs[n]] := by
  rw [List.take_add_one, List.getElem?_eq_getElem h]; rfl
theorem strip_step {xs : List Int} {n : Nat} (h : n < xs.length) (z : xs[n] = 0) : strip (xs.take (n + 1)) = strip (xs.take n) := by
  rw [take_snoc h, strip_snoc, if_pos z]
theorem strip_stop {xs : List Int} {n : Nat} (h : n < xs.length) (z : xs[n] ≠ 0) : strip (xs.take (n + 1)) = xs.take (n + 1) := by
  rw [take_snoc h, strip_snoc, if_neg z]
end RR
namespace RR
open PySem PySem.Spec PyProof.Rows L2
section
variable {M : Type} {ρ : En} {m : M} {Q : D → M → Prop} {QL : List D → M → Prop} {QB : Bool → M → Prop} {QO : Option Int → M → Prop} {Z ex : Str → M → Prop} {nx bk ct : En → M → Prop} {rt : D → M → Prop} {t u w : DT M} {ta : DTA M} {tt tu : DTT M} {s1 s2 : DS M} {q : D → Prop} {i j : Int} {d x y : D} {xs ys : List Int} {ds es : List D}
theorem v_then (h : s1 ⟨s2 ⟨nx, rt, bk, ct, ex⟩, rt, bk, ct, ex⟩ ρ m) : dThen s1 s2 ⟨nx, rt, bk, ct, ex⟩ ρ m := h
theorem v_next (h : nx ρ m) : dNext ⟨nx, rt, bk, ct, ex⟩ ρ m := h
theorem v_set {i : Nat} (h : t ρ m (fun d m' => nx (ρ.set i (.val d)) m') ex) : dSet i t ⟨nx, rt, bk, ct, ex⟩ ρ m := h
def kO (ρ : En) (i : Nat) (nx : En → M → Prop) : D → M → Prop := fun d m' => match d with | .lst ds => D.nls ds = true ∧ nx (ρ.set i (.own ds)) m' | _ => False
theorem v_setO {i : Nat} (h : t ρ m (kO ρ i nx) ex) : dSetO i t ⟨nx, rt, bk, ct, ex⟩ ρ m := h
theorem v_kO {i : Nat} (n : D.nls ds = true) (h : nx (ρ.set i (.own ds)) m) : kO ρ i nx (.lst ds) m := ⟨n, h⟩
theorem v_ret (h : t ρ m rt ex) : dRet t ⟨nx, rt, bk, ct, ex⟩ ρ m := h
theorem v_drop (h : t ρ m (fun _ m' => nx ρ m') ex) : dDrop t ⟨nx, rt, bk, ct, ex⟩ ρ m := h
theorem v_ite (h : tt ρ m (fun b m1 => if b = true then s1 ⟨nx, rt, bk, ct, ex⟩ ρ m1 else s2 ⟨nx, rt, bk, ct, ex⟩ ρ m1) ex) : dIte tt s1 s2 ⟨nx, rt, bk, ct, ex⟩ ρ m := h
theorem v_ifT {A B : Prop} (h : A) : if true = true then A else B := by rw [if_pos rfl]; exact h
theorem v_ifF {A B : Prop} (h : B) : if false = true then A else B := by rw [if_neg Bool.false_ne_true]; exact h
theorem v_ifd {p : Prop} [Decidable p] {A B : Prop} (h : p → A) (h' : ¬ p → B) : if decide p = true then A else B := by
  by_cases e : p
  · rw [if_pos (decide_eq_true e)]; exact h e
  · rw [if_neg (by simpa using e)]; exact h' e
theorem v_var {i : Nat} (e : ρ[i]? = some (.val d)) (h : Q d m) : dVar i ρ m Q Z := by unfold dVar; rw [e]; exact h
theorem v_bor {i : Nat} (e : ρ[i]? = some (.bor d)) (h : Q d m) : dBor i ρ m Q Z := by unfold dBor; rw [e]; exact h
theorem v_own {i : Nat} (e : ρ[i]? = some (.own ds)) (h : Q (.lst ds) m) : dOwn i ρ m Q Z := by unfold dOwn; rw [e]; exact h
theorem v_c (h : Q d m) : dC d ρ m Q Z := h
theorem v_nil (h : QL [] m) : dNil ρ m QL Z := h
theorem v_cons (h : t ρ m (fun d m1 => ta ρ m1 (fun ds m2 => QL (d :: ds) m2) Z) Z) : dCons t ta ρ m QL Z := h
theorem v_tup (h : ta ρ m (fun ds m1 => ds.length ≤ sizeLine ∧ Q (.tup ds) m1) Z) : dTup ta ρ m Q Z := h
theorem v_lst (h : ta ρ m (fun ds m1 => ds.length ≤ sizeLine ∧ Q (.lst ds) m1) Z) : dLst ta ρ m Q Z := h
theorem v_sz {n : Nat} {A : Prop} (e : n ≤ 16777216) (h : A) : n ≤ sizeLine ∧ A := ⟨small_line e, h⟩
theorem v_bin {g : G2} (h : t ρ m (fun x m1 => u ρ m1 (fun y m2 => g x y fun d => Q d m2) Z) Z) : dBin g t u ρ m Q Z := h
theorem v_g0 {f : Int → Int → D} (h : q (f i j)) : g0 f (.int i) (.int j) q := h
theorem v_gII {P : Int → Int → Prop} {f : Int → Int → D} (p : P i j) (h : q (f i j)) : gII P f (.int i) (.int j) q := ⟨p, h⟩
theorem v_gIIz {f : Int → Int → D} (p : j ≠ 0) (h : q (f i j)) : gII Nz f (.int i) (.int j) q := ⟨p, h⟩
theorem v_add (h : q (.int (i + j))) : gAdd (.int i) (.int j) q := h
theorem v_addl (a : ds.length + es.length ≤ 16777216) (b : D.nls ds = true) (c : D.nls es = true) (h : q (.lst (ds ++ es))) : gAdd (.lst ds) (.lst es) q := ⟨small_line a, b, c, h⟩
theorem v_mul (p : IntMulOk i j) (h : q (.int (i * j))) : gMul (.int i) (.int j) q := ⟨p, h⟩
theorem v_repl {k : Int} (a : 0 ≤ k) (b : ds.length * k.toNat ≤ 16777216) (hk : k < 2 ^ 63) (n : D.nls ds = true) (h : q (.lst (rep k ds))) : gMul (.lst ds) (.int k) q := ⟨by omega, hk, small_line b, n, h⟩
theorem v_eqi (h : q (.bl (decide (i = j)))) : gEq (.int i) (.int j) q := .inl ⟨q_int, q_int, h⟩
theorem v_nei (h : q (.bl (!decide (i = j)))) : gNe (.int i) (.int j) q := .inl ⟨q_int, q_int, h⟩
theorem v_eqr (h : q (.bl (decide (xs = ys)))) : gEq (.tup (zz xs)) (.tup (zz ys)) q := .inl ⟨q_row xs, q_row ys, by rw [eqv_row]; exact h⟩
theorem v_ner (h : q (.bl (!decide (xs = ys)))) : gNe (.tup (zz xs)) (.tup (zz ys)) q := .inl ⟨q_row xs, q_row ys, by rw [eqv_row]; exact h⟩
theorem v_eqr0 (h : q (.bl (decide (xs = [])))) : gEq (.tup (zz xs)) (.tup []) q := v_eqr (ys := []) h
theorem v_ner0 (h : q (.bl (!decide (xs = [])))) : gNe (.tup (zz xs)) (.tup []) q := v_ner (ys := []) h
theorem v_eql (h : q (.bl (decide (xs = ys)))) : gEq (.lst (zz xs)) (.lst (zz ys)) q := .inl ⟨q_lst xs, q_lst ys, by rw [eqv_lst]; exact h⟩
theorem v_nel (h : q (.bl (!decide (xs = ys)))) : gNe (.lst (zz xs)) (.lst (zz ys)) q := .inl ⟨q_lst xs, q_lst ys, by rw [eqv_lst]; exact h⟩
theorem v_eql0 (h : q (.bl (decide (xs = [])))) : gEq (.lst (zz xs)) (.lst []) q := v_eql (ys := []) h
theorem v_nel0 (h : q (.bl (!decide (xs = [])))) : gNe (.lst (zz xs)) (.lst []) q := v_nel (ys := []) h
theorem v_isN (h : q (.bl x.isN)) : gIsN x .non q := ⟨rfl, h⟩
theorem v_notN (h : q (.bl (!x.isN))) : gNotN x .non q := ⟨rfl, h⟩
def nth (xs : List Int) (i : Int) : Int := xs.getD i.toNat 0
theorem nth_get {n : Nat} (h : n < xs.length) : nth xs (n : Int) = xs[n] := by unfold nth; simp [List.getD, List.getElem?_eq_getElem h]
theorem nth_mem (h0 : 0 ≤ i) (h1 : i < xs.length) : nth xs i ∈ xs := by
  obtain ⟨n, rfl⟩ := Int.eq_ofNat_of_zero_le h0
  rw [nth_get (by omega)]
  exact List.getElem_mem _
theorem atI_nth (h0 : 0 ≤ i) (h1 : i < xs.length) : atI (zz xs) i = some (.int (nth xs i)) := by
  rw [atI_ints, atI_at h0 h1]
  obtain ⟨n, rfl⟩ := Int.eq_ofNat_of_zero_le h0
  rw [nth_get (by omega)]
  rfl
theorem v_ixl {n : Bool} (h0 : 0 ≤ i) (h1 : i < xs.length) (h : q (.int (nth xs i))) : gIx n (.lst (zz xs)) (.int i) q := by
  unfold gIx; dsimp only; rw [atI_nth h0 h1]; exact ⟨fun _ => rfl, h⟩
theorem v_ixt {n : Bool} (h0 : 0 ≤ i) (h1 : i < xs.length) (h : q (.int (nth xs i))) : gIx n (.tup (zz xs)) (.int i) q := by
  unfold gIx; dsimp only; rw [atI_nth h0 h1]; exact ⟨fun _ => rfl, h⟩
theorem v_dB {g : List D → (D → Prop) → Prop} (h : ta ρ m (fun ds m1 => g ds fun d => Q d m1) Z) : dB g ta ρ m Q Z := h
theorem v_lent (h : q (.int ds.length)) : gLen [.tup ds] q := h
theorem v_lenl (h : q (.int ds.length)) : gLen [.lst ds] q := h
theorem v_lentz (h : q (.int xs.length)) : gLen [.tup (zz xs)] q := by show q (.int (zz xs).length); rw [show (zz xs).length = xs.length from List.length_map _]; exact h
theorem v_lenlz (h : q (.int xs.length)) : gLen [.lst (zz xs)] q := by show q (.int (zz xs).length); rw [show (zz xs).length = xs.length from List.length_map _]; exact h
theorem v_I1 {f : Int → Int} (h : q (.int (f i))) : gI1 f [.int i] q := h
theorem v_I2 {f : Int → Int → Int} (h : q (.int (f i j))) : gI2 f [.int i, .int j] q := h
theorem v_int (h : q (.int i)) : gInt [.int i] q := h
theorem v_seqlz {mk : List D → D} (h : q (mk (zz xs))) : gSeq mk [.lst (zz xs)] q := ⟨nls_ints xs, h⟩
theorem v_seqtz {mk : List D → D} (h : q (mk (zz xs))) : gSeq mk [.tup (zz xs)] q := ⟨nls_ints xs, h⟩
def kSl (x : D) (l u : Option Int) (Q : D → M → Prop) (m3 : M) : Prop := match x with
  | .lst ds => D.nls ds = true ∧ Q (.lst (cutD ds l u)) m3
  | .tup ds => D.nls ds = true ∧ Q (.tup (cutD ds l u)) m3
  | _ => False
theorem v_sl {lo hi : DTO M} (h : t ρ m (fun x m1 => lo ρ m1 (fun l m2 => hi ρ m2 (fun u m3 => kSl x l u Q m3) Z) Z) Z) : dSl t lo hi ρ m Q Z := h
theorem v_kSll {l u : Option Int} (h : Q (.lst (cutD (zz xs) l u)) m) : kSl (.lst (zz xs)) l u Q m := ⟨nls_ints xs, h⟩
theorem v_kSlt {l u : Option Int} (h : Q (.tup (cutD (zz xs) l u)) m) : kSl (.tup (zz xs)) l u Q m := ⟨nls_ints xs, h⟩
theorem v_ono (h : QO none m) : dONone ρ m QO Z := h
def kOS (Q : Option Int → M → Prop) (d : D) (m1 : M) : Prop := match d with | .int i => Q (some i) m1 | _ => False
theorem v_oso (h : t ρ m (fun d m1 => kOS QO d m1) Z) : dOSome t ρ m QO Z := h
theorem v_kOS (h : QO (some i) m) : kOS QO (.int i) m := h
def kT (Q : Bool → M → Prop) (d : D) (m' : M) : Prop := match d with | .bl b => Q b m' | _ => False
theorem v_tst (h : t ρ m (fun d m' => kT QB d m') Z) : dTst t ρ m QB Z := h
theorem v_kT {b : Bool} (h : QB b m) : kT QB (.bl b) m := h
def kV (Q : Bool → M → Prop) (d : D) (m' : M) : Prop := match d.tr with | some b => Q b m' | none => False
theorem v_val (h : t ρ m (fun d m' => RR.kV QB d m') Z) : dVal t ρ m QB Z := h
theorem v_kVb {b : Bool} (h : QB b m) : RR.kV QB (.bl b) m := h
theorem v_kVi (h : QB (i != 0) m) : RR.kV QB (.int i) m := h
theorem v_kVt (h : QB (!ds.isEmpty) m) : RR.kV QB (.tup ds) m := h
theorem v_kVl (h : QB (!ds.isEmpty) m) : RR.kV QB (.lst ds) m := h
theorem v_and (h : tt ρ m (fun b m1 => if b = true then tu ρ m1 QB Z else QB false m1) Z) : dAnd tt tu ρ m QB Z := h
theorem v_or (h : tt ρ m (fun b m1 => if b = true then QB true m1 else tu ρ m1 QB Z) Z) : dOr tt tu ρ m QB Z := h
theorem v_not (h : tt ρ m (fun b m1 => QB (!b) m1) Z) : dNot tt ρ m QB Z := h
theorem v_yes (h : QB true m) : dYes ρ m QB Z := h
theorem v_if' (h : tt ρ m (fun b m1 => if b = true then t ρ m1 Q Z else u ρ m1 Q Z) Z) : dIf tt t u ρ m Q Z := h
def kI (T : String) (Q : D → M → Prop) (d : D) (m1 : M) : Prop := match d.ty with | some ty => Q (.bl (isiB ty T)) m1 | none => False
theorem v_isi {T : String} (h : t ρ m (fun d m1 => kI T Q d m1) Z) : dIsi T t ρ m Q Z := h
theorem v_kIii (h : Q (.bl true) m) : kI "int" Q (.int i) m := h
theorem v_kIib (h : Q (.bl false) m) : kI "bool" Q (.int i) m := h
theorem v_kItt (h : Q (.bl true) m) : kI "tuple" Q (.tup ds) m := h
def kAV (A : Prop) (Q : D → M → Prop) (d : D) (m1 : M) : Prop := match d with | .bl true => A | .bl false => Q (.bl false) m1 | _ => False
theorem v_andV (h : t ρ m (fun d m1 => kAV (u ρ m1 Q Z) Q d m1) Z) : dAndV t u ρ m Q Z := by
  unfold dAndV
  refine (?_ : t ρ m _ Z)
  exact h
def kOV (A : Prop) (Q : D → M → Prop) (d : D) (m1 : M) : Prop := match d with | .bl false => A | .bl true => Q (.bl true) m1 | _ => False
theorem v_orV (h : t ρ m (fun d m1 => kOV (u ρ m1 Q Z) Q d m1) Z) : dOrV t u ρ m Q Z := h
theorem v_kAV {b : Bool} {A : Prop} (h : b = true → A) (h' : b = false → Q (.bl false) m) : kAV A Q (.bl b) m := by
  cases b with
  | true => exact h rfl
  | false => exact h' rfl
def kNV (Q : D → M → Prop) (d : D) (m1 : M) : Prop := match d with | .bl b => Q (.bl (!b)) m1 | _ => False
theorem v_notV (h : t ρ m (fun d m1 => kNV Q d m1) Z) : dNotV t ρ m Q Z := h
theorem v_kNV {b : Bool} (h : Q (.bl (!b)) m) : kNV Q (.bl b) m := h
def kNeg (Q : D → M → Prop) (d : D) (m1 : M) : Prop := match d with | .int i => Q (.int (-i)) m1 | _ => False
theorem v_neg (h : t ρ m (fun d m1 => kNeg Q d m1) Z) : dNeg t ρ m Q Z := h
theorem v_kNeg (h : Q (.int (-i)) m) : kNeg Q (.int i) m := h
theorem v_call {sp : DSp M} {dds : List D} (h : ta ρ m (fun ds m1 => sp (ds ++ dds) m1 Q Z) Z) : dCall sp dds ta ρ m Q Z := h
theorem v_call0 {sp : DSp M} (h : sp ds m Q Z) : sp (ds ++ []) m Q Z := by rw [List.append_nil]; exact h
def kSeq (n : Bool) (Q : List D → M → Prop) (d : D) (m1 : M) : Prop := match d with | .lst ds | .tup ds => (n = true → D.nls ds = true) ∧ Q ds m1 | _ => False
theorem v_seq {n : Bool} (h : t ρ m (fun d m1 => kSeq n QL d m1) Z) : dSeq n t ρ m QL Z := by
  refine (?_ : t ρ m _ Z); exact h
theorem v_kSeql {n : Bool} (h : QL (zz xs) m) : kSeq n QL (.lst (zz xs)) m := ⟨fun _ => nls_ints xs, h⟩
theorem v_kSeqt {n : Bool} (h : QL (zz xs) m) : kSeq n QL (.tup (zz xs)) m := ⟨fun _ => nls_ints xs, h⟩
theorem v_kSeqL (h : QL ds m) : kSeq false QL (.lst ds) m := ⟨fun z => (nomatch z), h⟩
def kR1 (Q : List D → M → Prop) (ds : List D) (m1 : M) : Prop := match ds with | [.int j] => -(2 ^ 62) ≤ j ∧ j < 2 ^ 62 ∧ Q (iota 0 j.toNat) m1 | _ => False
theorem v_rng1 (h : ta ρ m (fun ds m1 => kR1 QL ds m1) Z) : dRng1 ta ρ m QL Z := by
  refine (?_ : ta ρ m _ Z); exact h
theorem v_kR1 (a : -(2 ^ 62) ≤ j) (b : j < 2 ^ 62) (h : QL (iota 0 j.toNat) m) : kR1 QL [.int j] m := ⟨a, b, h⟩
def kR2 (Q : List D → M → Prop) (ds : List D) (m1 : M) : Prop := match ds with | [.int i, .int j] => (-(2 ^ 62) ≤ i ∧ i < 2 ^ 62 ∧ -(2 ^ 62) ≤ j ∧ j < 2 ^ 62) ∧ Q (iota i (j - i).toNat) m1 | _ => False
theorem v_rng2 (h : ta ρ m (fun ds m1 => kR2 QL ds m1) Z) : dRng2 ta ρ m QL Z := by
  refine (?_ : ta ρ m _ Z); exact h
theorem v_kR2 (a : -(2 ^ 62) ≤ i) (b : i < 2 ^ 62) (c : -(2 ^ 62) ≤ j) (e : j < 2 ^ 62) (h : QL (iota i (j - i).toNat) m) : kR2 QL [.int i, .int j] m := ⟨⟨a, b, c, e⟩, h⟩
theorem v_enum {n : Bool} (h : dSeq n t ρ m (fun ds m1 => QL (enumD 0 ds) m1) Z) : dEnum n t ρ m QL Z := h
def kRR (Q : List D → M → Prop) (d : D) (m1 : M) : Prop := match d with | .int j => -(2 ^ 62) ≤ j ∧ j < 2 ^ 62 ∧ Q (iota 0 j.toNat).reverse m1 | _ => False
theorem v_revr (h : t ρ m (fun d m1 => kRR QL d m1) Z) : dRevR t ρ m QL Z := h
theorem v_rev {n : Bool} (h : dSeq n t ρ m (fun ds m1 => QL ds.reverse m1) Z) : dRev n t ρ m QL Z := h
theorem v_gn {i : Nat} {P : En → Prop} (h : P (ρ.set i (.val d))) : dgN i d ρ P := h
theorem v_gt2 {i j : Nat} {P : En → Prop} (h : P ((ρ.set i (.val x)).set j (.val y))) : dgT 2 (dgCons (dgN i) (dgCons (dgN j) dgNil)) (.tup [x, y]) ρ P := ⟨rfl, h⟩
theorem v_gt3 {i j k : Nat} {P : En → Prop} (h : P (((ρ.set i (.val x)).set j (.val y)).set k (.val d))) : dgT 3 (dgCons (dgN i) (dgCons (dgN j) (dgCons (dgN k) dgNil))) (.tup [x, y, d]) ρ P := ⟨rfl, h⟩
theorem v_lc {g : DG} {vs : List Nat} (h : ta ρ m (fun items m1 => lcGo g tt t (wipeD ρ vs) items [] m1 (fun ds m2 => Q (.lst ds) m2)) Z) : dLc ta g tt t vs ρ m Q Z := h
theorem v_while {c : DTT M} (W : Nat → En → M → Prop) (n : Nat) (h : W n ρ m) (st : ∀ n ρ m, W n ρ m → c ρ m (fun b m1 => if b = true then s1 ⟨fun ρ' m' => ∃ n', n' < n ∧ W n' ρ' m', rt, nx, fun ρ' m' => ∃ n', n' < n ∧ W n' ρ' m', ex⟩ ρ m1 else nx ρ m1) ex) : dWhile c s1 ⟨nx, rt, bk, ct, ex⟩ ρ m := ⟨W, ⟨n, h⟩, st⟩
def kFor (g : DG) (s1 : DS M) (E : DE M) (ρ : En) (items : List D) (m1 : M) : Prop := ∃ W : List D → En → M → Prop, W items ρ m1 ∧ (∀ ρ m, W [] ρ m → E.nx ρ m) ∧
  ∀ x r ρ m, W (x :: r) ρ m → g x ρ fun ρ2 => s1 { E with nx := W r, ct := W r, bk := E.nx } ρ2 m
theorem v_for {g : DG} (h : ta ρ m (fun items m1 => kFor g s1 ⟨nx, rt, bk, ct, ex⟩ ρ items m1) ex) : dFor ta g s1 ⟨nx, rt, bk, ct, ex⟩ ρ m := h
theorem v_kfor {g : DG} (W : List D → En → M → Prop) (h : W ds ρ m) (e : ∀ ρ m, W [] ρ m → nx ρ m) (st : ∀ x r ρ m, W (x :: r) ρ m → g x ρ fun ρ2 => s1 ⟨W r, rt, nx, W r, ex⟩ ρ2 m) : kFor g s1 ⟨nx, rt, bk, ct, ex⟩ ρ ds m := ⟨W, h, e, st⟩
theorem v_kforL {α : Type} {inj : α → D} {g : DG} (W : List α → En → M → Prop) (l : List α) (h : W l ρ m) (e : ∀ ρ m, W [] ρ m → nx ρ m) (st : ∀ x r ρ m, W (x :: r) ρ m → g (inj x) ρ fun ρ2 => s1 ⟨fun ρ m => ∃ r', r.map inj = r'.map inj ∧ W r' ρ m, rt, nx, fun ρ m => ∃ r', r.map inj = r'.map inj ∧ W r' ρ m, ex⟩ ρ2 m) :
    kFor g s1 ⟨nx, rt, bk, ct, ex⟩ ρ (l.map inj) m := by
  refine ⟨fun it ρ m => ∃ r', it = r'.map inj ∧ W r' ρ m, ⟨l, rfl, h⟩, fun ρ m h => ?_, fun x r ρ m h => ?_⟩
  · obtain ⟨r', e1, h⟩ := h
    cases r' with
    | nil => exact e ρ m h
    | cons a r' => cases e1
  · obtain ⟨r', e1, h⟩ := h
    cases r' with
    | nil => cases e1
    | cons a r' =>
      rw [List.map_cons] at e1
      cases e1
      exact st a r' ρ m h
theorem v_app {i : Nat} (e : ρ[i]? = some (.own ds)) (h : t ρ m (fun d m' => d.nl = true ∧ ds.length < sizeLine ∧ nx (ρ.set i (.own (ds ++ [d]))) m') ex) : dApp i t ⟨nx, rt, bk, ct, ex⟩ ρ m := by
  unfold dApp; rw [e]; exact h
def kSI (ρ : En) (i : Nat) (ds : List D) (nx : En → M → Prop) (d k : D) (m2 : M) : Prop := match k with
    | .int k => (match ixN ds.length k with | some j => d.nl = true ∧ nx (ρ.set i (.own (ds.set j d))) m2 | none => False) | _ => False
theorem v_setI {i : Nat} (e : ρ[i]? = some (.own ds)) (h : t ρ m (fun d m1 => u ρ m1 (fun k m2 => kSI ρ i ds nx d k m2) ex) ex) : dSetI i t u ⟨nx, rt, bk, ct, ex⟩ ρ m := by
  unfold dSetI; rw [e]; exact h
theorem v_kSI {i : Nat} {k : Int} (h0 : 0 ≤ k) (h1 : k < ds.length) (n : d.nl = true) (h : nx (ρ.set i (.own (ds.set k.toNat d))) m) : kSI ρ i ds nx d (.int k) m := by
  unfold kSI; dsimp only; rw [ixN_at h0 h1]; exact ⟨n, h⟩
theorem v_rel {i : Nat} (e : ρ[i]? = some (.own ds)) (h : s1 ⟨nx, rt, bk, ct, ex⟩ (ρ.set i (.val (.lst ds))) m) : dRel i s1 ⟨nx, rt, bk, ct, ex⟩ ρ m := by
  unfold dRel; rw [e]; exact h
theorem v_raise {x : Str} (h : ex x m) : dRaise x ⟨nx, rt, bk, ct, ex⟩ ρ m := h
def kP (ρ : En) (i j : Nat) (nx : En → M → Prop) (ds : List D) (m' : M) : Prop := match ds with | [x, y] => nx ((ρ.set i (.val x)).set j (.val y)) m' | _ => False
theorem v_par {i j : Nat} (h : ta ρ m (fun ds m' => kP ρ i j nx ds m') ex) : dPar i j ta ⟨nx, rt, bk, ct, ex⟩ ρ m := h
theorem v_kP {i j : Nat} (h : nx ((ρ.set i (.val x)).set j (.val y)) m) : kP ρ i j nx [x, y] m := h
theorem v_asg {g : DG} (h : t ρ m (fun d m' => g d ρ fun ρ' => nx ρ' m') ex) : dAsg t g ⟨nx, rt, bk, ct, ex⟩ ρ m := h
theorem v_aug {i : Nat} {f : Int → Int → Int} {a : Int} (e : ρ[i]? = some (.val (.int a))) (h : t ρ m (fun y m' => kOS (fun o m' => match o with | some y => nx (ρ.set i (.val (.int (f a y)))) m' | none => False) y m') ex) : dAug i f t ⟨nx, rt, bk, ct, ex⟩ ρ m := by
  unfold dAug; rw [e]
  exact h
def isRow (d : D) (xs : List Int) : Prop := d = .tup (zz xs) ∨ d = .lst (zz xs)
theorem isRow_t : isRow (.tup (zz xs)) xs := .inl rfl
theorem isRow_l : isRow (.lst (zz xs)) xs := .inr rfl
theorem v_lenr (hd : isRow d xs) (h : q (.int xs.length)) : gLen [d] q := by
  rcases hd with rfl | rfl
  · exact v_lentz h
  · exact v_lenlz h
theorem v_ixr {n : Bool} (hd : isRow d xs) (h0 : 0 ≤ i) (h1 : i < xs.length) (h : q (.int (nth xs i))) : gIx n d (.int i) q := by
  rcases hd with rfl | rfl
  · exact v_ixt h0 h1 h
  · exact v_ixl h0 h1 h
def cutZ (xs : List Int) (lo hi : Option Int) : List Int := (xs.drop (HT.sIx xs.length 0 lo)).take (HT.sIx xs.length xs.length hi - HT.sIx xs.length 0 lo)
theorem cutD_zz {l u : Option Int} : cutD (zz xs) l u = zz (cutZ xs l u) := by
  unfold cutD cutZ zz
  rw [List.length_map, List.map_take, List.map_drop]
theorem zz_inj {xs ys : List Int} (h : zz xs = zz ys) : xs = ys := by
  induction xs generalizing ys with
  | nil => cases ys with
    | nil => rfl
    | cons y ys => cases h
  | cons x xs ih => cases ys with
    | nil => cases h
    | cons y ys =>
      obtain ⟨h1, h2⟩ := List.cons.inj h
      cases h1
      rw [ih h2]
theorem cutZ_to {k : Int} (h0 : 0 ≤ k) : cutZ xs none (some k) = xs.take k.toNat := zz_inj (by rw [← cutD_zz, cut_upto h0]; exact (List.map_take ..).symm)
theorem v_kSlr {l u : Option Int} (hd : isRow d xs) (h : ∀ d', isRow d' (cutZ xs l u) → Q d' m) : kSl d l u Q m := by
  rcases hd with rfl | rfl
  · exact ⟨nls_ints xs, h _ (by rw [cutD_zz]; exact isRow_t)⟩
  · exact ⟨nls_ints xs, h _ (by rw [cutD_zz]; exact isRow_l)⟩
theorem v_seqr {mk : List D → D} (hd : isRow d xs) (h : q (mk (zz xs))) : gSeq mk [d] q := by
  rcases hd with rfl | rfl
  · exact v_seqtz h
  · exact v_seqlz h
theorem v_kSeqr {n : Bool} (hd : isRow d xs) (h : QL (zz xs) m) : kSeq n QL d m := by
  rcases hd with rfl | rfl
  · exact v_kSeqt h
  · exact v_kSeql h
theorem lc_zz {g : DG} {f : Int → Int} (xs : List Int) (st : ∀ a ∈ xs, ∀ m (k : D → M → Prop) (l : M → Prop), k (.int (f a)) m → g (.int a) ρ fun ρ2 => tt ρ2 m (fun b m1 => if b = true then t ρ2 m1 k (fun _ _ => False) else l m1) (fun _ _ => False))
    (hl : xs.length ≤ 16777216) (h : QL (zz (xs.map f)) m) : lcGo g tt t ρ (zz xs) [] m QL := by
  refine lcGo_map (h := fun a => .int (f a)) xs st (small_line hl) ?_
  rw [show xs.map (fun a => D.int (f a)) = zz (xs.map f) from (List.map_map ..).symm]
  exact h
theorem lc_zd {g : DG} {f : Int → D} (xs : List Int) (st : ∀ a ∈ xs, ∀ m (k : D → M → Prop) (l : M → Prop), k (f a) m → g (.int a) ρ fun ρ2 => tt ρ2 m (fun b m1 => if b = true then t ρ2 m1 k (fun _ _ => False) else l m1) (fun _ _ => False))
    (hl : xs.length ≤ 16777216) (h : QL (xs.map f) m) : lcGo g tt t ρ (zz xs) [] m QL := lcGo_map (h := f) xs st (small_line hl) h
theorem lc_rz {g : DG} {f : Nat → Int} (n : Nat) (st : ∀ a, a < n → ∀ m (k : D → M → Prop) (l : M → Prop), k (.int (f a)) m → g (.int a) ρ fun ρ2 => tt ρ2 m (fun b m1 => if b = true then t ρ2 m1 k (fun _ _ => False) else l m1) (fun _ _ => False))
    (hl : n ≤ 16777216) (h : QL (zz ((List.range n).map f)) m) : lcGo g tt t ρ (iota 0 n) [] m QL := by
  rw [iota_map]
  refine lcGo_map (h := fun a => .int (f a)) (List.range n) (fun a ha => st a (List.mem_range.mp ha)) (small_line (by rw [List.length_range]; exact hl)) ?_
  rw [show (List.range n).map (fun a => D.int (f a)) = zz ((List.range n).map f) from (List.map_map ..).symm]
  exact h
theorem lc_rany {g : DG} {P : Int → Prop} {S : Nat → M → Prop} (n : Nat) (st : ∀ j ds m (k : D → M → Prop) (l : M → Prop), S (j + 1) m → (∀ y m1, P y → S j m1 → k (.int y) m1) → g ds ρ fun ρ2 => tt ρ2 m (fun b m1 => if b = true then t ρ2 m1 k (fun _ _ => False) else l m1) (fun _ _ => False))
    (hl : n ≤ 16777216) (s : S n m) (h : ∀ xs m1, xs.length = n → (∀ x ∈ xs, P x) → S 0 m1 → QL (zz xs) m1) : lcGo g tt t ρ (iota 0 n) [] m QL := by
  have ln : (iota 0 n).length = n := by rw [iota_map, List.length_map, List.length_range]
  refine lcGo_any (P := fun d => ∃ x, d = .int x ∧ P x) (S := S) (iota 0 n) (fun x _ j m k l s h => st j x m k l s fun y m1 p s => h _ _ ⟨y, rfl, p⟩ s) (by rw [ln]; exact small_line (by simpa using hl)) (by rw [ln]; exact s) fun ds m1 l p s => ?_
  obtain ⟨xs, rfl, hp⟩ := ints_of p
  rw [List.nil_append]
  exact h xs m1 (by rw [ln] at l; simpa using l) hp s
theorem v_kforZ {g : DG} (W : List Int → En → M → Prop) (l : List Int) (h : W l ρ m) (e : ∀ ρ m, W [] ρ m → nx ρ m) (st : ∀ x r ρ m, W (x :: r) ρ m → g (.int x) ρ fun ρ2 => s1 ⟨fun ρ m => W r ρ m, rt, nx, fun ρ m => W r ρ m, ex⟩ ρ2 m) :
    kFor g s1 ⟨nx, rt, bk, ct, ex⟩ ρ (zz l) m := by
  refine ⟨fun it ρ m => ∃ r', it = zz r' ∧ W r' ρ m, ⟨l, rfl, h⟩, fun ρ m h => ?_, fun x r ρ m h => ?_⟩
  · obtain ⟨r', e1, h⟩ := h
    cases r' with
    | nil => exact e ρ m h
    | cons a r' => cases e1
  · obtain ⟨r', e1, h⟩ := h
    cases r' with
    | nil => cases e1
    | cons a r' =>
      cases e1
      have z := st a r' ρ m h
      have f1 : (fun ρ m => ∃ r'', zz r' = zz r'' ∧ W r'' ρ m) = fun ρ m => W r' ρ m := by
        funext ρ m
        refine propext ⟨fun ⟨r'', e, h⟩ => ?_, fun h => ⟨r', rfl, h⟩⟩
        rw [zz_inj e]; exact h
      show g (.int a) ρ fun ρ2 => s1 ⟨fun ρ m => ∃ r'', zz r' = zz r'' ∧ W r'' ρ m, rt, nx, fun ρ m => ∃ r'', zz r' = zz r'' ∧ W r'' ρ m, ex⟩ ρ2 m
      rw [f1]
      exact z
theorem v_kforR {g : DG} {i : Int} (n : Nat) (W : Nat → En → M → Prop) (h : W 0 ρ m) (e : ∀ ρ m, W n ρ m → nx ρ m) (st : ∀ k ρ m, k < n → W k ρ m → g (.int (i + k)) ρ fun ρ2 => s1 ⟨fun ρ m => W (k + 1) ρ m, rt, nx, fun ρ m => W (k + 1) ρ m, ex⟩ ρ2 m) :
    kFor g s1 ⟨nx, rt, bk, ct, ex⟩ ρ (iota i n) m := by
  have key : ∀ j, j ≤ n → ∀ it, it = (List.range' j (n - j)).map (fun k : Nat => D.int (i + k)) → True := fun _ _ _ _ => trivial
  refine ⟨fun it ρ m => ∃ j, j ≤ n ∧ it = (List.range' j (n - j)).map (fun k : Nat => D.int (i + k)) ∧ W j ρ m, ⟨0, Nat.zero_le _, ?_, h⟩, fun ρ m h => ?_, fun x r ρ m h => ?_⟩
  · unfold iota; rw [Nat.sub_zero, List.range_eq_range']
  · obtain ⟨j, hj, e1, h⟩ := h
    have : n - j = 0 := by
      have := congrArg List.length e1
      rw [List.length_map, List.length_range'] at this
      exact this.symm
    have : j = n := by omega
    subst this
    exact e ρ m h
  · obtain ⟨j, hj, e1, h⟩ := h
    have hlt : j < n := by
      have := congrArg List.length e1
      rw [List.length_map, List.length_range', List.length_cons] at this
      omega
    obtain ⟨p, hp⟩ : ∃ p, n - j = p + 1 := ⟨n - j - 1, by omega⟩
    rw [hp, List.range'_succ, List.map_cons] at e1
    obtain ⟨e2, e3⟩ := List.cons.inj e1
    subst e2
    have z := st j ρ m hlt h
    have f1 : (fun ρ m => ∃ j', j' ≤ n ∧ r = (List.range' j' (n - j')).map (fun k : Nat => D.int (i + k)) ∧ W j' ρ m) = fun ρ m => W (j + 1) ρ m := by
      funext ρ m
      refine propext ⟨fun ⟨j', h1, h2, h⟩ => ?_, fun h => ⟨j + 1, hlt, by rw [e3, show n - (j + 1) = p by omega], h⟩⟩
      have := congrArg List.length (e3.symm.trans h2)
      rw [List.length_map, List.length_range', List.length_map, List.length_range'] at this
      have : j' = j + 1 := by omega
      subst this
      exact h
    show g _ ρ fun ρ2 => s1 ⟨fun ρ m => ∃ j', j' ≤ n ∧ r = (List.range' j' (n - j')).map (fun k : Nat => D.int (i + k)) ∧ W j' ρ m, rt, nx, fun ρ m => ∃ j', j' ≤ n ∧ r = (List.range' j' (n - j')).map (fun k : Nat => D.int (i + k)) ∧ W j' ρ m, ex⟩ ρ2 m
    rw [f1]
    exact z
theorem v_kforE {g : DG} {i : Nat} (W : Nat → List Int → En → M → Prop) (l : List Int) (h : W i l ρ m) (e : ∀ j ρ m, W j [] ρ m → nx ρ m) (st : ∀ (j : Nat) x r ρ m (N : En → M → Prop), W j (x :: r) ρ m → (∀ ρ m, W (j + 1) r ρ m → N ρ m) → g (.tup [.int j, .int x]) ρ fun ρ2 => s1 ⟨N, rt, nx, N, ex⟩ ρ2 m) :
    kFor g s1 ⟨nx, rt, bk, ct, ex⟩ ρ (enumD i (zz l)) m := by
  refine ⟨fun it ρ m => ∃ j r', it = enumD j (zz r') ∧ W j r' ρ m, ⟨i, l, rfl, h⟩, fun ρ m h => ?_, fun x r ρ m h => ?_⟩
  · obtain ⟨j, r', e1, h⟩ := h
    cases r' with
    | nil => exact e j ρ m h
    | cons a r' => cases e1
  · obtain ⟨j, r', e1, h⟩ := h
    cases r' with
    | nil => cases e1
    | cons a r' =>
      cases e1
      exact st j a r' ρ m _ h fun ρ m h => ⟨_, _, rfl, h⟩
theorem v_kSIz {i : Nat} {k v : Int} (h0 : 0 ≤ k) (h1 : k < xs.length) (h : nx (ρ.set i (.own (zz (xs.set k.toNat v)))) m) : kSI ρ i (zz xs) nx (.int v) (.int k) m := by
  refine v_kSI h0 (by rw [List.length_map]; exact h1) rfl ?_
  rw [show zz (xs.set k.toNat v) = (zz xs).set k.toNat (.int v) from List.map_set ..] at h
  exact h
theorem v_join {s : DS M} (J : En → M → Prop) (h : ∀ ρ m, J ρ m → nx ρ m) (h2 : ∀ nx' : En → M → Prop, (∀ ρ m, J ρ m → nx' ρ m) → s ⟨nx', rt, bk, ct, ex⟩ ρ m) : s ⟨nx, rt, bk, ct, ex⟩ ρ m := h2 nx h
theorem v_pow (a : 0 ≤ j) (b : j ≤ 1000000) (c : i.natAbs < 2 ^ 64) (h : q (.int (i ^ j.toNat))) : gII CPow (fun i j => .int (i ^ j.toNat)) (.int i) (.int j) q := ⟨⟨a, b, c⟩, h⟩
theorem v_draw {N : Nat} {many : Int} {Q : D → Option Nat → Prop} {Z : Str → Option Nat → Prop} (h0 : 0 < many) (hb : many.natAbs < 2 ^ 250) (h : ∀ x, 0 ≤ x → x < many → Q (.int x) (some N)) : s__law_draw [.hnd hdl, .int many] (some (N + 1)) Q Z := ⟨N, many, rfl, rfl, h0, Nat.lt_of_lt_of_le hb (Nat.pow_le_pow_right (by decide) (by decide)), h⟩
end
end RR
namespace RR
structure Ser (K : Type) where
  co : Nat → K
namespace Ser
variable {K : Type}
theorem ext {f g : Ser K} (h : ∀ k, f.co k = g.co k) : f = g := by
  cases f; cases g; congr; funext k; exact h k
def tl (f : Ser K) : Ser K := ⟨fun k => f.co (k + 1)⟩
variable [Lean.Grind.CommRing K]
def mulc : Nat → Ser K → Ser K → K
  | 0, f, g => f.co 0 * g.co 0
  | k + 1, f, g => f.co 0 * g.co (k + 1) + mulc k f.tl g
def add (f g : Ser K) : Ser K := ⟨fun k => f.co k + g.co k⟩
def neg (f : Ser K) : Ser K := ⟨fun k => - f.co k⟩
def mul (f g : Ser K) : Ser K := ⟨fun k => mulc k f g⟩
def C (c : K) : Ser K := ⟨fun k => if k = 0 then c else 0⟩
instance : Add (Ser K) := ⟨add⟩
instance : Mul (Ser K) := ⟨mul⟩
instance : Neg (Ser K) := ⟨neg⟩
instance : Sub (Ser K) := ⟨fun f g => add f (neg g)⟩
local instance : NatCast K := Lean.Grind.Semiring.natCast
local instance : IntCast K := Lean.Grind.Ring.intCast
instance (n : Nat) : OfNat (Ser K) n := ⟨C (OfNat.ofNat n)⟩
instance : NatCast (Ser K) := ⟨fun n => C (NatCast.natCast n)⟩
instance : IntCast (Ser K) := ⟨fun n => C (IntCast.intCast n)⟩
def pow (f : Ser K) : Nat → Ser K
  | 0 => C 1
  | n + 1 => mul (pow f n) f
instance : HPow (Ser K) Nat (Ser K) := ⟨pow⟩
instance : SMul Nat (Ser K) := ⟨fun n f => ⟨fun k => n • f.co k⟩⟩
instance : SMul Int (Ser K) := ⟨fun n f => ⟨fun k => n • f.co k⟩⟩
theorem add_co (f g : Ser K) (k : Nat) : (f + g).co k = f.co k + g.co k := rfl
theorem neg_co (f : Ser K) (k : Nat) : (-f).co k = - f.co k := rfl
theorem sub_co (f g : Ser K) (k : Nat) : (f - g).co k = f.co k - g.co k := by show f.co k + - g.co k = _; grind
theorem mul_co (f g : Ser K) (k : Nat) : (f * g).co k = mulc k f g := rfl
theorem C_co (c : K) (k : Nat) : (C c).co k = if k = 0 then c else 0 := rfl
theorem mulc_right : ∀ (k : Nat) (f g : Ser K), mulc (k + 1) f g = f.co (k + 1) * g.co 0 + mulc k f g.tl
  | 0, f, g => by show f.co 0 * g.co 1 + f.co 1 * g.co 0 = f.co 1 * g.co 0 + f.co 0 * g.co 1; grind
  | k + 1, f, g => by
    have := mulc_right k f.tl g
    show f.co 0 * g.co (k + 2) + mulc (k + 1) f.tl g = f.co (k + 2) * g.co 0 + (f.co 0 * g.co (k + 2) + mulc k f.tl g.tl)
    rw [this]
    show _ + (f.co (k + 2) * g.co 0 + _) = _
    grind
theorem mulc_comm : ∀ (k : Nat) (f g : Ser K), mulc k f g = mulc k g f
  | 0, f, g => by show f.co 0 * g.co 0 = g.co 0 * f.co 0; grind
  | k + 1, f, g => by
    rw [mulc_right k g f]
    show f.co 0 * g.co (k + 1) + mulc k f.tl g = _
    rw [mulc_comm k f.tl g]; grind
theorem mulc_add : ∀ (k : Nat) (f g h : Ser K), mulc k (f + g) h = mulc k f h + mulc k g h
  | 0, f, g, h => by show (f.co 0 + g.co 0) * h.co 0 = f.co 0 * h.co 0 + g.co 0 * h.co 0; grind
  | k + 1, f, g, h => by
    show (f.co 0 + g.co 0) * h.co (k + 1) + mulc k (f.tl + g.tl) h = f.co 0 * h.co (k + 1) + mulc k f.tl h + (g.co 0 * h.co (k + 1) + mulc k g.tl h)
    rw [mulc_add k f.tl g.tl h]; grind
theorem mulc_scale : ∀ (k : Nat) (c : K) (f h : Ser K), mulc k ⟨fun j => c * f.co j⟩ h = c * mulc k f h
  | 0, c, f, h => by show c * f.co 0 * h.co 0 = c * (f.co 0 * h.co 0); grind
  | k + 1, c, f, h => by
    show (c * f.co 0) * h.co (k + 1) + mulc k ⟨fun j => c * f.tl.co j⟩ h = c * (f.co 0 * h.co (k + 1) + mulc k f.tl h)
    rw [mulc_scale k c f.tl h]; grind
theorem tl_mul (f g : Ser K) : (f * g).tl = (⟨fun j => f.co 0 * g.tl.co j⟩ : Ser K) + f.tl * g := ext fun k => rfl
theorem mulc_assoc : ∀ (k : Nat) (f g h : Ser K), mulc k (f * g) h = mulc k f (g * h)
  | 0, f, g, h => by show f.co 0 * g.co 0 * h.co 0 = f.co 0 * (g.co 0 * h.co 0); grind
  | k + 1, f, g, h => by
    show (f.co 0 * g.co 0) * h.co (k + 1) + mulc k (f * g).tl h = f.co 0 * mulc (k + 1) g h + mulc k f.tl (g * h)
    rw [tl_mul, mulc_add, mulc_assoc k f.tl g h, mulc_scale k (f.co 0) g.tl h]
    show _ = f.co 0 * (g.co 0 * h.co (k + 1) + mulc k g.tl h) + _
    grind
theorem tl_C (c : K) : (C c).tl = C 0 := ext fun j => by
  show (if j + 1 = 0 then c else 0) = if j = 0 then 0 else 0
  rw [if_neg (by omega)]; split <;> rfl
theorem mulc_zero : ∀ (k : Nat) (g : Ser K), mulc k (C 0) g = 0
  | 0, g => by show (if 0 = 0 then (0 : K) else 0) * g.co 0 = 0; rw [if_pos rfl]; grind
  | k + 1, g => by
    show (if 0 = 0 then (0 : K) else 0) * g.co (k + 1) + mulc k (C 0).tl g = 0
    rw [tl_C, mulc_zero k g, if_pos rfl]; grind
theorem mulc_C (k : Nat) (c : K) (g : Ser K) : mulc k (C c) g = c * g.co k := by
  cases k with
  | zero => rfl
  | succ k =>
    show (if 0 = 0 then c else 0) * g.co (k + 1) + mulc k (C c).tl g = c * g.co (k + 1)
    rw [tl_C, mulc_zero, if_pos rfl]; grind
theorem C_mul_co (c : K) (g : Ser K) (k : Nat) : (C c * g).co k = c * g.co k := mulc_C k c g
instance : Lean.Grind.CommRing (Ser K) where
  add_zero f := ext fun k => by show f.co k + (if k = 0 then (0 : K) else 0) = f.co k; split <;> grind
  add_comm f g := ext fun k => by show f.co k + g.co k = g.co k + f.co k; grind
  add_assoc f g h := ext fun k => by show f.co k + g.co k + h.co k = f.co k + (g.co k + h.co k); grind
  mul_assoc f g h := ext fun k => mulc_assoc k f g h
  mul_one f := ext fun k => by show mulc k f (C 1) = _; rw [mulc_comm, mulc_C]; grind
  one_mul f := ext fun k => by show mulc k (C 1) f = _; rw [mulc_C]; grind
  left_distrib f g h := ext fun k => by show mulc k f (g + h) = mulc k f g + mulc k f h; rw [mulc_comm, mulc_add, mulc_comm k g, mulc_comm k h]
  right_distrib f g h := ext fun k => mulc_add k f g h
  zero_mul f := ext fun k => by show mulc k (C 0) f = _; rw [mulc_C]; show (0 : K) * f.co k = if k = 0 then 0 else 0; split <;> grind
  mul_zero f := ext fun k => by show mulc k f (C 0) = _; rw [mulc_comm, mulc_C]; show (0 : K) * f.co k = if k = 0 then 0 else 0; split <;> grind
  pow_zero f := rfl
  pow_succ f n := rfl
  neg_add_cancel f := ext fun k => by show - f.co k + f.co k = if k = 0 then 0 else 0; split <;> grind
  sub_eq_add_neg f g := rfl
  mul_comm f g := ext fun k => mulc_comm k f g
  nsmul_eq_natCast_mul n f := ext fun k => by show n • f.co k = mulc k (C (NatCast.natCast n)) f; rw [mulc_C]; exact Lean.Grind.Semiring.nsmul_eq_natCast_mul n (f.co k)
  zsmul_natCast_eq_nsmul n f := ext fun k => Lean.Grind.Ring.zsmul_natCast_eq_nsmul n (f.co k)
  ofNat_succ n := ext fun k => by
    show (if k = 0 then (OfNat.ofNat (n + 1) : K) else 0) = (if k = 0 then (OfNat.ofNat n : K) else 0) + (if k = 0 then (1 : K) else 0)
    split
    · exact Lean.Grind.Semiring.ofNat_succ n
    · grind
  ofNat_eq_natCast n := ext fun k => by
    show (if k = 0 then (OfNat.ofNat n : K) else 0) = (if k = 0 then (NatCast.natCast n : K) else 0)
    split
    · exact Lean.Grind.Semiring.ofNat_eq_natCast n
    · rfl
  intCast_ofNat n := ext fun k => by
    show (if k = 0 then (IntCast.intCast (OfNat.ofNat n : Int) : K) else 0) = (if k = 0 then (OfNat.ofNat n : K) else 0)
    split
    · exact Lean.Grind.Ring.intCast_ofNat n
    · rfl
  intCast_neg i := ext fun k => by
    show (if k = 0 then (IntCast.intCast (-i) : K) else 0) = - (if k = 0 then (IntCast.intCast i : K) else 0)
    split
    · exact Lean.Grind.Ring.intCast_neg i
    · grind
  neg_zsmul i f := ext fun k => Lean.Grind.Ring.neg_zsmul i (f.co k)
end Ser
end RR
namespace RR
section
variable {K : Type} [Lean.Grind.CommRing K]
theorem zero_co (k : Nat) : (0 : Ser K).co k = 0 := by
  show (if k = 0 then (0 : K) else 0) = 0
  split <;> rfl
theorem one_co (k : Nat) : (1 : Ser K).co k = if k = 0 then 1 else 0 := rfl
def xp (k : Nat) : Ser K := ⟨fun j => if j = k then 1 else 0⟩
theorem xp_co (k j : Nat) : (xp k : Ser K).co j = if j = k then 1 else 0 := rfl
theorem xp0 : (xp 0 : Ser K) = 1 := Ser.ext fun j => rfl
theorem tl_xp (k : Nat) : (xp (k + 1) : Ser K).tl = xp k := Ser.ext fun j => by
  show (if j + 1 = k + 1 then (1 : K) else 0) = if j = k then 1 else 0
  by_cases h : j = k
  · rw [if_pos h, if_pos (by omega)]
  · rw [if_neg h, if_neg (by omega)]
theorem xp_mul_co (k : Nat) (f : Ser K) (j : Nat) : (xp k * f).co j = if k ≤ j then f.co (j - k) else 0 := by
  induction k generalizing j with
  | zero => rw [xp0, Lean.Grind.Semiring.one_mul, if_pos (Nat.zero_le _), Nat.sub_zero]
  | succ k ih =>
    cases j with
    | zero =>
      rw [if_neg (by omega)]
      show (if 0 = k + 1 then (1 : K) else 0) * f.co 0 = 0
      rw [if_neg (by omega)]; grind
    | succ j =>
      show (if 0 = k + 1 then (1 : K) else 0) * f.co (j + 1) + Ser.mulc j (xp (k + 1)).tl f = _
      rw [if_neg (by omega), tl_xp]
      rw [show Ser.mulc j (xp k) f = (xp k * f).co j from rfl, ih]
      by_cases h : k ≤ j
      · rw [if_pos h, if_pos (by omega), show j + 1 - (k + 1) = j - k by omega]; grind
      · rw [if_neg h, if_neg (by omega)]; grind
theorem xp_add (i j : Nat) : (xp (i + j) : Ser K) = xp i * xp j := Ser.ext fun k => by
  rw [xp_mul_co, xp_co, xp_co]
  by_cases h : i ≤ k
  · rw [if_pos h]
    by_cases e : k = i + j
    · rw [if_pos e, if_pos (by omega)]
    · rw [if_neg e, if_neg (by omega)]
  · rw [if_neg h, if_neg (by omega)]
theorem C_add (a b : K) : Ser.C (a + b) = Ser.C a + Ser.C b := Ser.ext fun k => by
  rw [Ser.add_co]; simp only [Ser.C_co]; split <;> grind
theorem C_mul (a b : K) : Ser.C (a * b) = Ser.C a * Ser.C b := Ser.ext fun k => by
  rw [Ser.C_mul_co]; simp only [Ser.C_co]; split <;> grind
theorem C_neg (a : K) : Ser.C (-a) = - Ser.C a := Ser.ext fun k => by rw [Ser.neg_co]; simp only [Ser.C_co]; split <;> grind
theorem C_sub (a b : K) : Ser.C (a - b) = Ser.C a - Ser.C b := Ser.ext fun k => by rw [Ser.sub_co]; simp only [Ser.C_co]; split <;> grind
theorem C_one : Ser.C (1 : K) = 1 := rfl
theorem C_zero : Ser.C (0 : K) = 0 := rfl
theorem C_inj {a b : K} (h : Ser.C a = Ser.C b) : a = b := by
  have := congrArg (fun f => Ser.co f 0) h
  simpa [Ser.C_co] using this
def far (n : Nat) (f : Ser K) : Prop := ∀ k, n ≤ k → f.co k = 0
theorem far_mono {n m : Nat} {f : Ser K} (h : far n f) (l : n ≤ m) : far m f := fun k hk => h k (Nat.le_trans l hk)
theorem far_zero {n : Nat} : far n (0 : Ser K) := fun k _ => zero_co k
theorem far_add {n : Nat} {f g : Ser K} (h : far n f) (h' : far n g) : far n (f + g) := fun k hk => by rw [Ser.add_co, h k hk, h' k hk]; grind
theorem far_sub {n : Nat} {f g : Ser K} (h : far n f) (h' : far n g) : far n (f - g) := fun k hk => by rw [Ser.sub_co, h k hk, h' k hk]; grind
theorem far_neg {n : Nat} {f : Ser K} (h : far n f) : far n (-f) := fun k hk => by rw [Ser.neg_co, h k hk]; grind
theorem far_C {c : K} : far 1 (Ser.C c) := fun k hk => by rw [Ser.C_co, if_neg (by omega)]
theorem far_one : far 1 (1 : Ser K) := fun k hk => by rw [one_co, if_neg (by omega)]
theorem far_scale {n : Nat} {c : K} {f : Ser K} (h : far n f) : far n (Ser.C c * f) := fun k hk => by rw [Ser.C_mul_co, h k hk]; grind
theorem far0 {f : Ser K} (h : far 0 f) : f = 0 := Ser.ext fun j => by rw [h j (Nat.zero_le _), zero_co]
theorem mul_far {n k : Nat} {f g : Ser K} (hf : far n f) (hg : far k g) : ∀ j, n + k ≤ j + 1 → (f * g).co j = 0 := by
  induction n generalizing f with
  | zero =>
    intro j _
    rw [far0 hf, Lean.Grind.Semiring.zero_mul, zero_co]
  | succ n ih =>
    intro j hj
    cases j with
    | zero =>
      show f.co 0 * g.co 0 = 0
      rw [hg 0 (by omega)]; grind
    | succ j =>
      show f.co 0 * g.co (j + 1) + (f.tl * g).co j = 0
      rw [ih (f := f.tl) (fun i hi => hf (i + 1) (by omega)) j (by omega), hg _ (by omega)]
      grind
theorem far_mul {n k : Nat} {f g : Ser K} (hf : far n f) (hg : far k g) : far (n + k - 1) (f * g) := fun j hj => mul_far hf hg j (by omega)
theorem mul_top {n k : Nat} {f g : Ser K} (hf : far (n + 1) f) (hg : far (k + 1) g) : (f * g).co (n + k) = f.co n * g.co k := by
  induction n generalizing f with
  | zero =>
    cases k with
    | zero => rfl
    | succ k =>
      have e : f.tl = 0 := Ser.ext fun j => by rw [zero_co]; exact hf (j + 1) (by omega)
      rw [Nat.zero_add]
      show f.co 0 * g.co (k + 1) + (f.tl * g).co k = _
      rw [e, Lean.Grind.Semiring.zero_mul, zero_co]; grind
  | succ n ih =>
    rw [show n + 1 + k = (n + k) + 1 by omega]
    show f.co 0 * g.co (n + k + 1) + (f.tl * g).co (n + k) = _
    rw [ih (f := f.tl) (fun i hi => hf (i + 1) (by omega)), hg _ (by omega)]
    show f.co 0 * 0 + f.co (n + 1) * g.co k = _
    grind
def top (n : Nat) (f : Ser K) : Prop := far (n + 1) f ∧ f.co n ≠ 0
theorem top_ne {n : Nat} {f : Ser K} (h : top n f) : f ≠ 0 := fun e => h.2 (by rw [e, zero_co])
theorem top_of {n : Nat} {f : Ser K} (h : far n f) (h0 : f ≠ 0) : ∃ k, k < n ∧ top k f := by
  induction n with
  | zero => exact absurd (far0 h) h0
  | succ n ih =>
    by_cases e : f.co n = 0
    · obtain ⟨k, hk, t⟩ := ih fun j hj => by
        by_cases q : j = n
        · rw [q]; exact e
        · exact h j (by omega)
      exact ⟨k, by omega, t⟩
    · exact ⟨n, by omega, h, e⟩
theorem top_uniq {n k : Nat} {f : Ser K} (h : top n f) (h' : top k f) : n = k := by
  rcases Nat.lt_trichotomy n k with l | l | l
  · exact absurd (h.1 k (by omega)) h'.2
  · exact l
  · exact absurd (h'.1 n (by omega)) h.2
theorem top_lt {n k : Nat} {f : Ser K} (h : top n f) (h' : far k f) : n < k := by
  refine Nat.lt_of_not_le fun l => h.2 (h' n l)
def Dom (K : Type) [Lean.Grind.CommRing K] : Prop := ∀ a b : K, a * b = 0 → a = 0 ∨ b = 0
theorem top_mul (D : Dom K) {n k : Nat} {f g : Ser K} (h : top n f) (h' : top k g) : top (n + k) (f * g) :=
  ⟨fun j hj => mul_far h.1 h'.1 j (by omega), fun e => by
    rw [mul_top h.1 h'.1] at e
    exact (D _ _ e).elim h.2 h'.2⟩
theorem div_uniq (D : Dom K) {n N : Nat} {g q q' r r' : Ser K} (hg : top n g) (hq : far N q) (hq' : far N q') (hr : far n r) (hr' : far n r') (e : q * g + r = q' * g + r') : q = q' ∧ r = r' := by
  have e1 : (q - q') * g = r' - r := by grind
  have e2 : q - q' = 0 := by
    refine Classical.byContradiction fun z => ?_
    obtain ⟨k, _, t⟩ := top_of (far_sub hq hq') z
    have := top_lt (top_mul D t hg) (f := (q - q') * g) (by rw [e1]; exact far_sub hr' hr)
    omega
  have e3 : q = q' := by grind
  subst e3
  exact ⟨rfl, by grind⟩
end
theorem dom_int : Dom Int := fun a b h => Int.mul_eq_zero.mp h
end RR
namespace RR
open PySem PySem.Spec PyProof.Rows L2
def ser (xs : List Int) : Ser Int := ⟨fun k => xs.getD k 0⟩
theorem ser_co (xs : List Int) (k : Nat) : (ser xs).co k = xs.getD k 0 := rfl
theorem ser_nil : ser [] = 0 := Ser.ext fun k => by
  show (0 : Int) = if k = 0 then ((0 : Nat) : Int) else 0
  split <;> rfl
theorem getD_snoc (xs : List Int) (a : Int) (k : Nat) : (xs ++ [a]).getD k 0 = if k = xs.length then a else xs.getD k 0 := by
  simp only [List.getD_eq_getElem?_getD, List.getElem?_append]
  by_cases h : k < xs.length
  · rw [if_pos h, if_neg (by omega)]
  · rw [if_neg h]
    by_cases e : k = xs.length
    · subst e; simp
    · rw [if_neg e, List.getElem?_eq_none (l := xs) (by omega), List.getElem?_eq_none (by simp; omega)]
theorem getD_far {xs : List Int} {k : Nat} (h : xs.length ≤ k) : xs.getD k 0 = 0 := by
  rw [List.getD_eq_getElem?_getD, List.getElem?_eq_none h]; rfl
theorem ser_strip (xs : List Int) : ser (strip xs) = ser xs := by
  refine Ser.ext fun k => ?_
  show (strip xs).getD k 0 = xs.getD k 0
  induction xs using strip_ind with
  | h0 => rfl
  | h1 xs a ih =>
    rw [strip_snoc]
    by_cases h : a = 0
    · rw [if_pos h, ih, getD_snoc, h]
      split
      · rename_i e; exact getD_far (Nat.le_of_eq e.symm)
      · rfl
    · rw [if_neg h]
theorem done_last {xs : List Int} (h : done xs) (n : xs ≠ []) : xs.getD (xs.length - 1) 0 ≠ 0 := by
  induction xs using strip_ind with
  | h0 => exact absurd rfl n
  | h1 xs a _ =>
    intro z
    rw [List.length_append, List.length_singleton, Nat.add_sub_cancel, getD_snoc, if_pos rfl] at z
    unfold done at h
    rw [strip_snoc, if_pos z] at h
    have := congrArg List.length h
    have := strip_len xs
    rw [List.length_append, List.length_singleton] at *
    omega
theorem done_uniq {xs ys : List Int} (hx : done xs) (hy : done ys) (h : ser xs = ser ys) : xs = ys := by
  have co : ∀ k, xs.getD k 0 = ys.getD k 0 := fun k => congrArg (fun f => Ser.co f k) h
  have le : ∀ {xs ys : List Int}, done xs → (∀ k, xs.getD k 0 = ys.getD k 0) → xs.length ≤ ys.length := fun {xs ys} hx co => by
    refine Nat.le_of_not_lt fun lt => ?_
    have n : xs ≠ [] := fun z => by rw [z] at lt; simp at lt
    exact done_last hx n (by rw [co, getD_far (by omega)])
  have el : xs.length = ys.length := Nat.le_antisymm (le hx co) (le hy fun k => (co k).symm)
  refine List.ext_getElem el fun i h1 h2 => ?_
  have := co i
  rwa [List.getD_eq_getElem?_getD, List.getD_eq_getElem?_getD, List.getElem?_eq_getElem h1, List.getElem?_eq_getElem h2] at this
theorem bd0 {n : Nat} : bd n 0 := by unfold bd; exact Nat.pow_pos (by decide)
def padTo (n : Nat) (xs : List Int) : List Int := xs ++ List.replicate (n - xs.length) 0
theorem pad_len {n : Nat} {xs : List Int} (h : xs.length ≤ n) : (padTo n xs).length = n := by unfold padTo; rw [List.length_append, List.length_replicate]; omega
theorem pad_co {n : Nat} {xs : List Int} (k : Nat) : (padTo n xs).getD k 0 = xs.getD k 0 := by
  unfold padTo
  simp only [List.getD_eq_getElem?_getD, List.getElem?_append]
  by_cases h : k < xs.length
  · rw [if_pos h]
  · rw [if_neg h, List.getElem?_eq_none (l := xs) (by omega), List.getElem?_replicate]
    split <;> rfl
theorem pad_mem {n : Nat} {xs : List Int} {x : Int} (h : x ∈ padTo n xs) : x ∈ xs ∨ x = 0 := (List.mem_append.mp h).imp id fun h => List.eq_of_mem_replicate h
theorem zip_co {g : Int → Int → Int} (h0 : g 0 0 = 0) {xs ys : List Int} (hl : xs.length = ys.length) (k : Nat) : (List.zipWith g xs ys).getD k 0 = g (xs.getD k 0) (ys.getD k 0) := by
  simp only [List.getD_eq_getElem?_getD]
  rw [List.getElem?_zipWith]
  by_cases h : k < xs.length
  · rw [List.getElem?_eq_getElem h, List.getElem?_eq_getElem (hl ▸ h)]; rfl
  · rw [List.getElem?_eq_none (Nat.le_of_not_lt h), List.getElem?_eq_none (by omega)]
    exact h0.symm
theorem map_co {g : Int → Int} (h0 : g 0 = 0) (xs : List Int) (k : Nat) : (xs.map g).getD k 0 = g (xs.getD k 0) := by
  simp only [List.getD_eq_getElem?_getD, List.getElem?_map]
  cases xs[k]? with
  | none => exact h0.symm
  | some x => rfl
theorem ser_scale (c : Int) (xs : List Int) : ser (xs.map fun x => c * x) = Ser.C c * ser xs := Ser.ext fun k => by rw [ser_co, map_co (by simp), Ser.C_mul_co]; rfl
theorem ser_cons (a : Int) (xs : List Int) : ser (a :: xs) = Ser.C a + xp 1 * ser xs := Ser.ext fun k => by
  rw [Ser.add_co, xp_mul_co]
  cases k with
  | zero => simp [ser, Ser.C]
  | succ k => simp [ser, Ser.C]
theorem ser_set {xs : List Int} {i : Nat} {v : Int} (h : i < xs.length) : ser (xs.set i v) = ser xs + Ser.C (v - xs.getD i 0) * xp i := Ser.ext fun k => by
  rw [ser_co, Ser.add_co, Ser.C_mul_co, xp_co, ser_co]
  simp only [List.getD_eq_getElem?_getD]
  by_cases e : k = i
  · subst e
    rw [List.getElem?_set_self h, List.getElem?_eq_getElem h]; simp; omega
  · rw [List.getElem?_set_ne (Ne.symm e), if_neg e]; simp
theorem ser_zeros (n : Nat) : ser (List.replicate n 0) = 0 := Ser.ext fun k => by
  rw [zero_co, ser_co, List.getD_eq_getElem?_getD, List.getElem?_replicate]
  split <;> rfl
theorem C_cancel {c : Int} {f g : Ser Int} (hc : c ≠ 0) (h : Ser.C c * f = Ser.C c * g) : f = g := Ser.ext fun k => by
  have := congrArg (fun f => Ser.co f k) h
  simp only [Ser.C_mul_co] at this
  exact Int.eq_of_mul_eq_mul_left hc this
structure R (f : Ser Int) (r : List Int) : Prop where
  dn : done r
  sr : ser r = f
structure B (n a : Nat) (f : Ser Int) : Prop where
  far : ∀ k, n ≤ k → f.co k = 0
  bd : ∀ k, RR.bd a (f.co k)
theorem R.uniq {f : Ser Int} {r r' : List Int} (h : R f r) (h' : R f r') : r = r' := done_uniq h.dn h'.dn (h.sr.trans h'.sr.symm)
theorem R.of {f : Ser Int} {xs : List Int} (e : ser xs = f) : R f (strip xs) := ⟨strip_done xs, (ser_strip xs).trans e⟩
theorem R.cong {f g : Ser Int} {r : List Int} (h : R f r) (e : f = g) : R g r := e ▸ h
theorem R.nil : R 0 [] := ⟨rfl, ser_nil⟩
theorem R.get {f : Ser Int} {r : List Int} (h : R f r) (k : Nat) : r.getD k 0 = f.co k := by rw [← h.sr]; rfl
theorem R.zero {f : Ser Int} {r : List Int} (h : R f r) : r = [] ↔ f = 0 := ⟨fun e => by rw [← h.sr, e, ser_nil], fun e => done_uniq h.dn rfl (by rw [h.sr, e, ser_nil])⟩
theorem R.len {n a : Nat} {f : Ser Int} {r : List Int} (h : R f r) (b : B n a f) : r.length ≤ n := by
  refine Nat.le_of_not_lt fun lt => ?_
  have n0 : r ≠ [] := fun z => by rw [z] at lt; simp at lt
  exact done_last h.dn n0 (by rw [h.get, b.far _ (by omega)])
theorem R.bds {n a : Nat} {f : Ser Int} {r : List Int} (h : R f r) (b : B n a f) : ∀ x ∈ r, RR.bd a x := fun x hx => by
  obtain ⟨i, hi, rfl⟩ := List.mem_iff_getElem.mp hx
  have := b.bd i
  rw [← h.get, List.getD_eq_getElem?_getD, List.getElem?_eq_getElem hi] at this
  exact this
theorem R.far {f : Ser Int} {r : List Int} (h : R f r) {k : Nat} (hk : r.length ≤ k) : f.co k = 0 := by rw [← h.get, getD_far hk]
theorem R.last {f : Ser Int} {r : List Int} (h : R f r) (n : r ≠ []) : f.co (r.length - 1) ≠ 0 := by rw [← h.get]; exact done_last h.dn n
theorem B.of {n a : Nat} {xs : List Int} (hl : xs.length ≤ n) (hb : ∀ x ∈ xs, RR.bd a x) : B n a (ser xs) := ⟨fun k hk => by rw [ser_co, getD_far (by omega)], fun k => by
  rw [ser_co]
  by_cases hk : k < xs.length
  · rw [List.getD_eq_getElem?_getD, List.getElem?_eq_getElem hk]; exact hb _ (List.getElem_mem hk)
  · rw [getD_far (by omega)]; exact bd0⟩
theorem B.mono {n a n' a' : Nat} {f : Ser Int} (h : B n a f) (hn : n ≤ n') (ha : a ≤ a') : B n' a' f := ⟨fun k hk => h.far k (by omega), fun k => bd_mono (h.bd k) ha⟩
theorem B.cong {n a : Nat} {f g : Ser Int} (h : B n a f) (e : f = g) : B n a g := e ▸ h
theorem B.zero {n a : Nat} : B n a 0 := ⟨fun k _ => zero_co k, fun k => by rw [zero_co]; exact bd0⟩
theorem B.add {n a k b : Nat} {f g : Ser Int} (h : B n a f) (h' : B k b g) : B (max n k) (max a b + 1) (f + g) := ⟨fun j hj => by rw [Ser.add_co, h.far j (by omega), h'.far j (by omega)]; rfl, fun j => by rw [Ser.add_co]; exact bd_add (h.bd j) (h'.bd j)⟩
theorem B.add' {n a : Nat} {f g : Ser Int} (h : B n a f) (h' : B n a g) : B n (a + 1) (f + g) := by
  have := h.add h'
  rwa [Nat.max_self, Nat.max_self] at this
theorem B.neg {n a : Nat} {f : Ser Int} (h : B n a f) : B n a (-f) := ⟨fun j hj => by rw [Ser.neg_co, h.far j hj]; rfl, fun j => by rw [Ser.neg_co]; exact bd_neg (h.bd j)⟩
theorem B.sub' {n a : Nat} {f g : Ser Int} (h : B n a f) (h' : B n a g) : B n (a + 1) (f - g) := by
  rw [Lean.Grind.Ring.sub_eq_add_neg]; exact h.add' h'.neg
theorem B.scale {n a c : Nat} {q : Int} {f : Ser Int} (hq : RR.bd c q) (h : B n a f) : B n (c + a) (Ser.C q * f) := ⟨fun j hj => by rw [Ser.C_mul_co, h.far j hj, Int.mul_zero], fun j => by rw [Ser.C_mul_co]; exact bd_mul hq (h.bd j)⟩
theorem B.shift {n a k : Nat} {f : Ser Int} (h : B n a f) : B (k + n) a (xp k * f) := ⟨fun j hj => by
  rw [xp_mul_co]; split
  · exact h.far _ (by omega)
  · rfl, fun j => by
  rw [xp_mul_co]; split
  · exact h.bd _
  · exact bd0⟩
theorem B.xp {k : Nat} : B (k + 1) 1 (RR.xp k : Ser Int) := ⟨fun j hj => by rw [xp_co, if_neg (by omega)], fun j => by rw [xp_co]; split <;> (unfold RR.bd; decide)⟩
theorem B.C {a : Nat} {c : Int} (h : RR.bd a c) : B 1 a (Ser.C c) := ⟨fun j hj => by rw [Ser.C_co, if_neg (by omega)], fun j => by
  rw [Ser.C_co]; split
  · exact h
  · exact bd0⟩
theorem mulc_le {a b : Nat} : ∀ (k n : Nat) (f g : Ser Int), (∀ j, n ≤ j → f.co j = 0) → (∀ j, (f.co j).natAbs ≤ 2 ^ a) → (∀ j, (g.co j).natAbs ≤ 2 ^ b) → (Ser.mulc k f g).natAbs ≤ n * 2 ^ (a + b)
  | k, 0, f, g, hf, ha, hb => by
    have e : f = 0 := Ser.ext fun j => by rw [hf j (Nat.zero_le _), zero_co]
    rw [e, show Ser.mulc k 0 g = 0 from Ser.mulc_zero k g]
    simp
  | 0, n + 1, f, g, hf, ha, hb => by
    show (f.co 0 * g.co 0).natAbs ≤ _
    rw [Int.natAbs_mul, Nat.pow_add]
    have := Nat.mul_le_mul (ha 0) (hb 0)
    rw [Nat.succ_mul]; omega
  | k + 1, n + 1, f, g, hf, ha, hb => by
    show (f.co 0 * g.co (k + 1) + Ser.mulc k f.tl g).natAbs ≤ _
    have h1 := mulc_le k n f.tl g (fun j hj => hf (j + 1) (by omega)) (fun j => ha (j + 1)) hb
    have h2 : (f.co 0 * g.co (k + 1)).natAbs ≤ 2 ^ (a + b) := by
      rw [Int.natAbs_mul, Nat.pow_add]; exact Nat.mul_le_mul (ha 0) (hb (k + 1))
    rw [Nat.succ_mul]; omega
theorem B.mul {n a k b : Nat} {f g : Ser Int} (h : B n a f) (h' : B k b g) : B (n + k) (a + b + n) (f * g) := ⟨fun j hj => mul_far h.far h'.far j (by omega), fun j => by
  have ha : ∀ j, (f.co j).natAbs ≤ 2 ^ a := fun j => Nat.le_of_lt (h.bd j)
  have hb : ∀ j, (g.co j).natAbs ≤ 2 ^ b := fun j => Nat.le_of_lt (h'.bd j)
  cases n with
  | zero =>
    have e : f = 0 := Ser.ext fun j => by rw [h.far j (Nat.zero_le _), zero_co]
    rw [e, Lean.Grind.Semiring.zero_mul, zero_co]; exact bd0
  | succ n =>
    have := mulc_le j (n + 1) f g h.far ha hb
    rw [Ser.mul_co]
    unfold RR.bd
    refine Nat.lt_of_le_of_lt this ?_
    rw [Nat.pow_add 2 (a + b), Nat.mul_comm]
    exact Nat.mul_lt_mul_of_pos_left (Nat.lt_two_pow_self) (Nat.pow_pos (by decide))⟩
end RR
namespace RR
open PySem PySem.Spec PyProof.Rows L2
section
variable {M : Type} {ρ : En} {m : M} {Q : D → M → Prop} {QL : List D → M → Prop} {QB : Bool → M → Prop} {Z ex : Str → M → Prop} {nx bk ct : En → M → Prop} {rt : D → M → Prop} {t u w : DT M} {ta : DTA M} {tt tu : DTT M} {s1 s2 : DS M} {q : D → Prop} {i j : Int} {d x y : D} {xs ys : List Int} {ds es : List D}
theorem v_ix0 (h : q x) : gIx false (.tup (x :: ds)) (.int 0) q := by
  unfold gIx; dsimp only
  rw [show atI (x :: ds) 0 = some x from by unfold atI ixN; rw [if_pos (by decide), if_pos (by rw [List.length_cons]; omega)]; rfl]
  exact ⟨(fun z => nomatch z), h⟩
theorem v_ix1 (h : q y) : gIx false (.tup (x :: y :: ds)) (.int 1) q := by
  unfold gIx; dsimp only
  rw [show atI (x :: y :: ds) 1 = some y from by unfold atI ixN; rw [if_pos (by decide), if_pos (by rw [List.length_cons, List.length_cons]; omega)]; rfl]
  exact ⟨(fun z => nomatch z), h⟩
theorem v_ix2 {z : D} (h : q z) : gIx false (.tup (x :: y :: z :: ds)) (.int 2) q := by
  unfold gIx; dsimp only
  rw [show atI (x :: y :: z :: ds) 2 = some z from by unfold atI ixN; rw [if_pos (by decide), if_pos (by simp only [List.length_cons]; omega)]; rfl]
  exact ⟨(fun z => nomatch z), h⟩
theorem v_ixm {n : Bool} (h0 : xs ≠ []) (h : q (.int (xs.getD (xs.length - 1) 0))) : gIx n (.tup (zz xs)) (.int (-1)) q := by
  have l0 := List.length_pos_iff.mpr h0
  unfold gIx; dsimp only
  have e : atI (zz xs) (-1) = some (.int (xs.getD (xs.length - 1) 0)) := by
    unfold atI ixN
    rw [List.length_map, if_neg (by decide), if_pos (by omega)]
    have e2 : (-1 + (xs.length : Int)).toNat = xs.length - 1 := by omega
    first
      | (rw [Option.bind_some, e2, List.getElem?_map, List.getElem?_eq_getElem (by omega), List.getD_eq_getElem?_getD, List.getElem?_eq_getElem (by omega)]; rfl)
      | (simp only [e2, List.getElem?_map, List.getD_eq_getElem?_getD]; rw [List.getElem?_eq_getElem (by omega)]; rfl)
  rw [e]
  exact ⟨fun _ => rfl, h⟩
theorem v_mulb {a b : Nat} (ha : bd a i) (hb : bd b j) (l : a + b ≤ 100000000) (h : q (.int (i * j))) : gMul (.int i) (.int j) q := v_mul (mulok ha hb l) h
theorem v_fdivb {b : Nat} (h0 : j ≠ 0) (hb : bd b j) (l : b ≤ 9000) (h : q (.int (i.fdiv j))) : gII Nd (fun i j => .int (i.fdiv j)) (.int i) (.int j) q := v_gII (nd_small h0 hb l) h
theorem nd_big {i j : Int} (h : j ≠ 0) (hi : bd 13400 i) : Nd i j := by
  refine ⟨h, ?_⟩
  have e : Builtin.divisionGoesByPylong i j = (decide ((if j == 0 then 0 else j.natAbs.log2 / 30 + 1) > 300) && decide ((if i == 0 then 0 else i.natAbs.log2 / 30 + 1) > (if j == 0 then 0 else j.natAbs.log2 / 30 + 1) + 150)) := rfl
  rw [e]
  by_cases i0 : i = 0
  · subst i0
    rw [if_pos (by rfl : ((0 : Int) == 0) = true)]
    rw [Bool.and_eq_false_iff]
    exact .inr (decide_eq_false (by omega))
  · have hl := (Nat.log2_lt (show i.natAbs ≠ 0 by omega)).mpr hi
    have h2 : (if i == 0 then 0 else i.natAbs.log2 / 30 + 1) ≤ 447 := by split <;> omega
    rw [Bool.and_eq_false_iff]
    by_cases q : (if j == 0 then 0 else j.natAbs.log2 / 30 + 1) > 300
    · exact .inr (decide_eq_false (by omega))
    · exact .inl (decide_eq_false q)
theorem v_fdivs (h0 : j ≠ 0) (hb : bd 9000 j ∨ bd 13400 i) (h : q (.int (i.fdiv j))) : gII Nd (fun i j => .int (i.fdiv j)) (.int i) (.int j) q := v_gII (hb.elim (fun hb => nd_small h0 hb (Nat.le_refl _)) fun hb => nd_big h0 hb) h
def Sm (xs : List Int) (d : Int) : Prop := bd 9000 d ∨ (bd 13400 d ∧ ∀ x ∈ xs, bd 13400 x)
theorem Sm.of {xs : List Int} {d : Int} {k j : Nat} (h : bd k d) (hx : ∀ x ∈ xs, bd j x) (l : k ≤ 9000 ∨ (k ≤ 13400 ∧ j ≤ 13400)) : Sm xs d := by
  rcases l with l | ⟨l, l'⟩
  · exact .inl (bd_mono h l)
  · exact .inr ⟨bd_mono h l, fun x m => bd_mono (hx x m) l'⟩
theorem Sm.le {xs : List Int} {d e : Int} (h : Sm xs d) (l : ∀ k, bd k d → bd k e) : (∀ x ∈ d :: xs, bd 9000 e ∨ bd 13400 x) := fun x hx => by
  rcases h with h | ⟨h, h'⟩
  · exact .inl (l _ h)
  · rcases List.mem_cons.mp hx with rfl | hx
    · exact .inr h
    · exact .inr (h' x hx)
theorem v_repl1 {v : Int} {k : Int} (h1 : k ≤ 16777216) (hm : -16777216 ≤ k) (h : q (.lst (zz (List.replicate k.toNat v)))) : gMul (.lst [.int v]) (.int k) q := by
  by_cases h0 : 0 ≤ k
  · refine v_repl h0 (by simp; omega) (by omega) rfl ?_
    unfold rep
    rw [show (List.replicate k.toNat [D.int v]).flatten = zz (List.replicate k.toNat v) from by
      simp only [zz, List.map_replicate]
      induction k.toNat with
      | zero => rfl
      | succ n ih => rw [List.replicate_succ, List.replicate_succ, List.flatten_cons, ih]; rfl]
    exact h
  · refine ⟨by omega, by omega, small_line (by rw [show k.toNat = 0 by omega]; simp), rfl, ?_⟩
    unfold rep
    rw [show k.toNat = 0 by omega] at h ⊢
    exact h
theorem zz_app : zz xs ++ zz ys = zz (xs ++ ys) := (List.map_append ..).symm
theorem v_addlz (a : xs.length + ys.length ≤ 16777216) (h : q (.lst (zz (xs ++ ys)))) : gAdd (.lst (zz xs)) (.lst (zz ys)) q := by
  refine v_addl (by simpa using a) (nls_ints _) (nls_ints _) ?_
  rw [zz_app]; exact h
def kAI (ρ : En) (i : Nat) (f : Int → Int → Int) (ds : List D) (nx : En → M → Prop) (te : DT M) (ex : Str → M → Prop) (k : D) (m1 : M) : Prop := match k with
    | .int k => (match ixN ds.length k with
      | some j => (match ds[j]? with
        | some (.int x) => te ρ m1 (fun d m2 => match d with | .int y => nx (ρ.set i (.own (ds.set j (.int (f x y))))) m2 | _ => False) ex
        | _ => False)
      | none => False)
    | _ => False
theorem v_augI {i : Nat} {f : Int → Int → Int} (e : ρ[i]? = some (.own ds)) (h : t ρ m (fun k m1 => kAI ρ i f ds nx u ex k m1) ex) : dAugI i f t u ⟨nx, rt, bk, ct, ex⟩ ρ m := by
  unfold dAugI; rw [e]; exact h
def kZip (n : Bool) (Q : List D → M → Prop) (x y : D) (m2 : M) : Prop := match x, y with
  | .lst xs, .lst ys | .tup xs, .tup ys => (n = true → D.nls xs = true ∧ D.nls ys = true) ∧ Q (zipD xs ys) m2
  | _, _ => False
theorem v_zip {n : Bool} (h : t ρ m (fun x m1 => u ρ m1 (fun y m2 => kZip n QL x y m2) Z) Z) : dZip n t u ρ m QL Z := by
  refine (?_ : t ρ m _ Z); exact h
abbrev pr2 (p : Int × Int) : D := .tup [.int p.1, .int p.2]
theorem zipD_zz : ∀ {xs ys : List Int}, zipD (zz xs) (zz ys) = (List.zip xs ys).map pr2
  | [], _ => by simp [zipD]
  | _ :: _, [] => by simp [zipD]
  | x :: xs, y :: ys => by
    show D.tup [.int x, .int y] :: zipD (zz xs) (zz ys) = _
    rw [zipD_zz, List.zip_cons_cons, List.map_cons]
theorem v_kZl {n : Bool} (h : QL ((List.zip xs ys).map pr2) m) : kZip n QL (.lst (zz xs)) (.lst (zz ys)) m := ⟨fun _ => ⟨nls_ints _, nls_ints _⟩, by rw [zipD_zz]; exact h⟩
theorem v_kZt {n : Bool} (h : QL ((List.zip xs ys).map pr2) m) : kZip n QL (.tup (zz xs)) (.tup (zz ys)) m := ⟨fun _ => ⟨nls_ints _, nls_ints _⟩, by rw [zipD_zz]; exact h⟩
theorem v_kZL {n : Bool} (e : n = true → D.nls ds = true ∧ D.nls es = true) (h : QL (zipD ds es) m) : kZip n QL (.lst ds) (.lst es) m := ⟨e, h⟩
theorem lc_zip {g : DG} {f : Int → Int → Int} (st : ∀ a ∈ xs, ∀ b ∈ ys, ∀ m (k : D → M → Prop) (l : M → Prop), k (.int (f a b)) m → g (.tup [.int a, .int b]) ρ fun ρ2 => tt ρ2 m (fun b m1 => if b = true then t ρ2 m1 k (fun _ _ => False) else l m1) (fun _ _ => False))
    (hl : xs.length ≤ 16777216) (q : QL (zz (List.zipWith f xs ys)) m) : lcGo g tt t ρ ((List.zip xs ys).map pr2) [] m QL := by
  refine lcGo_map (h := fun p => .int (f p.1 p.2)) (List.zip xs ys) (fun p hp m k l hk => ?_) (small_line (by rw [List.length_zip]; omega)) ?_
  · obtain ⟨h1, h2⟩ := List.of_mem_zip (show (p.1, p.2) ∈ _ from hp)
    exact st _ h1 _ h2 m k l hk
  · rw [show (List.zip xs ys).map (fun p => D.int (f p.1 p.2)) = zz (List.zipWith f xs ys) from by
      rw [List.zip, List.map_zipWith]
      exact (List.map_zipWith ..).symm]
    exact q
theorem zz_rev : (zz xs).reverse = zz xs.reverse := (List.map_reverse ..).symm
theorem v_try {es : List Str} {i j : Nat} (h : s1 ⟨nx, fun _ _ => False, fun _ _ => False, fun _ _ => False, fun x m' => x ∈ es ∧ nx (((ρ.set i .un).set j (.val (.exc x))).set i .un) m'⟩ ρ m) : dTry es i j s1 ⟨nx, rt, bk, ct, ex⟩ ρ m := h
def kIE (bs : List (Str × Bool)) (Q : D → M → Prop) (d : D) (m1 : M) : Prop := match d with | .exc x => (match bs.lookup x with | some b => Q (.bl b) m1 | none => False) | _ => False
theorem v_isE {bs : List (Str × Bool)} (h : t ρ m (fun d m1 => kIE bs Q d m1) Z) : dIsE bs t ρ m Q Z := h
theorem v_kIE {bs : List (Str × Bool)} {x : Str} {b : Bool} (e : bs.lookup x = some b) (h : Q (.bl b) m) : kIE bs Q (.exc x) m := by unfold kIE; dsimp only; rw [e]; exact h
theorem v_isB {a b : Bool} (h : q (.bl (decide (a = b)))) : gIsB (.bl a) (.bl b) q := h
theorem v_notB {a b : Bool} (h : q (.bl (!decide (a = b)))) : gNotB (.bl a) (.bl b) q := h
theorem v_all {bs : List Bool} (h : q (.bl (bs.all id))) : gAll [.lst (bs.map D.bl)] q := ⟨bs, rfl, h⟩
def kRv (Q : D → M → Prop) (x : D) (m1 : M) : Prop := match x with
  | .lst ds => D.nls ds = true ∧ Q (.lst ds.reverse) m1
  | .tup ds => D.nls ds = true ∧ Q (.tup ds.reverse) m1
  | _ => False
theorem v_rvs (h : t ρ m (fun x m1 => kRv Q x m1) Z) : dRvs t ρ m Q Z := h
theorem v_kRvl (h : Q (.lst (zz xs.reverse)) m) : kRv Q (.lst (zz xs)) m := ⟨nls_ints xs, by rw [zz_rev]; exact h⟩
theorem v_kRvt (h : Q (.tup (zz xs.reverse)) m) : kRv Q (.tup (zz xs)) m := ⟨nls_ints xs, by rw [zz_rev]; exact h⟩
theorem v_par3 {i j l : Nat} (h : ta ρ m (fun ds m' => match ds with | [x, y, z] => nx (((ρ.set i (.val x)).set j (.val y)).set l (.val z)) m' | _ => False) ex) : dPar3 i j l ta ⟨nx, rt, bk, ct, ex⟩ ρ m := h
theorem v_nes {x y : Str} (h : q (.bl (!decide (x = y)))) : gNe (.str x) (.str y) q := .inr ⟨_, _, rfl, rfl, h⟩
theorem v_eqs {x y : Str} (h : q (.bl (decide (x = y)))) : gEq (.str x) (.str y) q := .inr ⟨_, _, rfl, rfl, h⟩
theorem v_ifnT {A E : Prop} (h : E) : if (!true) = true then A else E := h
theorem v_ifnF {A E : Prop} (h : A) : if (!false) = true then A else E := h
end
end RR
local macro_rules | `(tactic| walk_at "bd") => `(tactic| first | assumption | exact RR.bd_lit (by decide) | (with_reducible refine RR.bd_mul ?_ ?_ <;> walk_at "bd") | (with_reducible refine RR.bd_add ?_ ?_ <;> walk_at "bd") | (with_reducible refine RR.bd_sub ?_ ?_ <;> walk_at "bd") | (with_reducible refine RR.bd_neg ?_ <;> walk_at "bd"))
namespace RR
open PySem PySem.Spec PyProof.Rows L2
local macro_rules | `(tactic| walk_at "s") => `(tactic| with_reducible first
  | refine v_then ?_ | refine v_set ?_ | (apply v_var; · with_unfolding_all exact rfl) | refine v_bin ?_ | refine v_c ?_ | refine v_g0 ?_ | refine v_add ?_ | refine v_cons ?_ | refine v_nil ?_ | refine v_call ?_ | refine v_dB ?_ | refine v_next ?_ | refine v_ret ?_
  | refine v_ite ?_ | refine v_tst ?_ | refine v_kT ?_ | refine v_eqi ?_ | refine v_nei ?_ | refine v_eqr ?_ | refine v_ner ?_ | refine v_eqr0 ?_ | refine v_ner0 ?_ | refine v_eql ?_ | refine v_nel ?_ | refine v_eql0 ?_ | refine v_nel0 ?_ | refine v_isN ?_ | refine v_notN ?_
  | (apply v_bor; · with_unfolding_all exact rfl) | (apply v_own; · with_unfolding_all exact rfl) | refine v_tup ?_ | refine v_lst ?_ | (refine v_sz ?_ ?_; (· with_unfolding_all exact Nat.le_of_ble_eq_true rfl)) | (refine v_gIIz ?_ ?_; (· first | decide | omega))
  | refine v_lentz ?_ | refine v_lenlz ?_ | refine v_lent ?_ | refine v_lenl ?_ | refine v_I1 ?_ | refine v_I2 ?_ | refine v_int ?_ | refine v_seqlz ?_ | refine v_seqtz ?_ | refine v_sl ?_ | refine v_kSll ?_ | refine v_kSlt ?_ | refine v_ono ?_ | refine v_oso ?_ | refine v_kOS ?_
  | refine v_val ?_ | refine v_kVb ?_ | refine v_kVi ?_ | refine v_kVt ?_ | refine v_kVl ?_ | refine v_and ?_ | refine v_or ?_ | refine v_not ?_ | refine v_yes ?_ | refine v_if' ?_ | refine v_isi ?_ | refine v_kIii ?_ | refine v_kIib ?_ | refine v_kItt ?_
  | refine v_andV ?_ | refine v_orV ?_ | refine v_notV ?_ | refine v_kNV ?_ | refine v_neg ?_ | refine v_kNeg ?_ | refine v_seq ?_ | refine v_kSeql ?_ | refine v_kSeqt ?_ | refine v_rng1 ?_ | refine v_rng2 ?_ | refine v_enum ?_ | refine v_revr ?_ | refine v_rev ?_
  | (refine v_kR1 ?_ ?_ ?_; (· decide); (· decide))
  | (refine v_kR2 ?_ ?_ ?_ ?_ ?_; (· decide); (· decide); (· decide); (· decide))
  | refine v_gn ?_ | refine v_gt2 ?_ | refine v_gt3 ?_ | refine v_lc ?_ | refine v_for ?_ | refine v_setO ?_ | refine v_drop ?_ | (apply v_app; · with_unfolding_all exact rfl) | (apply v_setI; · with_unfolding_all exact rfl) | (apply v_rel; · with_unfolding_all exact rfl) | refine v_raise ?_ | refine v_par ?_ | refine v_kP ?_ | refine v_asg ?_
  | (apply v_aug; · with_unfolding_all exact rfl) | refine v_ifT ?_ | refine v_ifF ?_ | (refine v_pow ?_ ?_ ?_ ?_; (· decide); (· decide); (· decide)) | refine v_call0 ?_ | (apply v_lenr; · assumption) | (apply v_seqr; · assumption) | (apply v_kSeqr; · assumption) | (apply v_kSlr; · assumption))
def b__law_mixed {M : Type} : DS M :=
    (dThen (dSet 2 (dBin gAdd (dBin gAdd (dBin (gII Nz fun i j => .int (i.fmod j)) (dBin gMul (dBin gMul (dVar 0) (dBin gAdd (dC (.int 1)) (dBin gMul (dC (.int 2)) (dVar 1)))) (dC (.int 48271))) (dC (.int 2147483647))) (dBin gMul (dBin gMul (dC (.int 7919)) (dVar 1)) (dVar 1))) (dBin gMul (dC (.int 104729)) (dVar 1))))
    (dRet (dBin (gII Nd fun i j => .int (i.fdiv j)) (dBin (gII Nz fun i j => .int (i.fmod j)) (dBin gMul (dVar 2) (dC (.int 69621))) (dC (.int 2147483629))) (dC (.int 7)))))
theorem vc__law_mixed {M : Type} : ∀ ds (m : M) Q Z, s__law_mixed ds m Q Z → okK [false, false] ds ∧ b__law_mixed { nx := fun _ m' => Q .non m', rt := Q, ex := Z } (st0 [false, false] ds 3) m := by
  rintro ds m Q Z ⟨c, k, rfl, hc, k0, k1, q⟩
  refine ⟨⟨fun _ => rfl, fun _ => rfl, trivial⟩, ?_⟩
  have bc : bd 70 c := hc
  have bk : bd 62 k := by unfold bd; omega
  unfold b__law_mixed
  repeat walk_at "s"
  refine v_mul (mulok (bd_lit (n := 2) (by decide)) bk) ?_
  repeat walk_at "s"
  have b1 : bd 64 (1 + 2 * k) := by unfold bd; omega
  refine v_mul (mulok bc b1) ?_
  repeat walk_at "s"
  refine v_mul (mulok (bd_mul bc b1) (bd_lit (n := 16) (by decide))) ?_
  repeat walk_at "s"
  refine v_mul (mulok (bd_lit (n := 13) (by decide)) bk) ?_
  repeat walk_at "s"
  refine v_mul (mulok (bd_mul (bd_lit (n := 13) (by decide)) bk) bk) ?_
  repeat walk_at "s"
  refine v_mul (mulok (bd_lit (n := 17) (by decide)) bk) ?_
  repeat walk_at "s"
  have b2 : bd 31 ((c * (1 + 2 * k) * 48271).fmod 2147483647) := bd_fmod (bd_lit (by decide)) (by decide)
  have b3 := bd_add (bd_add b2 (bd_mul (bd_mul (bd_lit (n := 13) (x := 7919) (by decide)) bk) bk)) (bd_mul (bd_lit (n := 17) (x := 104729) (by decide)) bk)
  refine v_mul (mulok b3 (bd_lit (n := 17) (by decide))) ?_
  repeat walk_at "s"
  refine v_gII (nd_small (b := 8) (by decide) (bd_lit (by decide))) ?_
  have h0 := Int.fmod_nonneg_of_pos (((c * (1 + 2 * k) * 48271).fmod 2147483647 + 7919 * k * k + 104729 * k) * 69621) (show (0 : Int) < 2147483629 by decide)
  have h1 := Int.fmod_lt_of_pos (((c * (1 + 2 * k) * 48271).fmod 2147483647 + 7919 * k * k + 104729 * k) * 69621) (show (0 : Int) < 2147483629 by decide)
  refine q _ ?_ ?_
  · rw [fdiv_pos (by decide)]; omega
  · rw [fdiv_pos (by decide)]; omega
def b__law_folded {M : Type} : DS M :=
    (dThen (dSetO 1 (dLc (dRng1 (dCons (dC (.int 64)) dNil)) (dgN 2) dYes (dBin gAdd (dC (.int 17)) (dVar 2)) [2]))
    (dThen (dFor (dEnum true (dBor 0)) (dgT 2 (dgCons (dgN 2) (dgCons (dgN 3) dgNil)))
      (dSetI 1 (dBin (gII Nz fun i j => .int (i.fmod j)) (dBin gAdd (dBin gMul (dBin (gIx true) (dOwn 1) (dBin (gII Nz fun i j => .int (i.fmod j)) (dVar 2) (dC (.int 64)))) (dC (.int 48271))) (dVar 3)) (dC (.int 2147483647))) (dBin (gII Nz fun i j => .int (i.fmod j)) (dVar 2) (dC (.int 64)))))
    (dThen (dFor (dRng2 (dCons (dC (.int 1)) (dCons (dC (.int 64)) dNil))) (dgN 2)
      (dSetI 1 (dBin (gII Nz fun i j => .int (i.fmod j)) (dBin gAdd (dBin (gIx true) (dOwn 1) (dVar 2)) (dBin gMul (dBin (gIx true) (dOwn 1) (dBin (g0 fun i j => .int (i - j)) (dVar 2) (dC (.int 1)))) (dC (.int 16807)))) (dC (.int 2147483647))) (dVar 2)))
    (dRet (dOwn 1)))))
theorem fold_set {cs : List Int} {j : Nat} {v : Int} (l : cs.length = 64) (h : ∀ c ∈ cs, 0 ≤ c ∧ c < 2147483647) (h0 : 0 ≤ v) (h1 : v < 2147483647) : (cs.set j v).length = 64 ∧ ∀ c ∈ cs.set j v, 0 ≤ c ∧ c < 2147483647 :=
  ⟨by rw [List.length_set]; exact l, fun c hc => (List.mem_or_eq_of_mem_set hc).elim (h c) fun e => by rw [e]; exact ⟨h0, h1⟩⟩
theorem vc__law_folded {M : Type} : ∀ ds (m : M) Q Z, s__law_folded ds m Q Z → okK [true] ds ∧ b__law_folded { nx := fun _ m' => Q .non m', rt := Q, ex := Z } (st0 [true] ds 4) m := by
  rintro ds m Q Z ⟨ns, rfl, hl, q⟩
  refine ⟨⟨fun h => (nomatch h), trivial⟩, ?_⟩
  unfold b__law_folded
  repeat walk_at "s"
  refine lc_rz (f := fun j => 17 + (j : Int)) 64 (fun a _ m1 k l hk => ?_) (by decide) ?_
  · repeat walk_at "s"
    exact hk
  have c0 : ∀ c ∈ (List.range 64).map (fun j : Nat => 17 + (j : Int)), 0 ≤ c ∧ c < 2147483647 := fun c hc => by
    obtain ⟨j, hj, rfl⟩ := List.mem_map.mp hc
    have := List.mem_range.mp hj
    omega
  have l0 : ((List.range 64).map (fun j : Nat => 17 + (j : Int))).length = 64 := by rw [List.length_map, List.length_range]
  generalize (List.range 64).map (fun j : Nat => 17 + (j : Int)) = cs at c0 l0 ⊢
  refine v_kO (nls_ints cs) ?_
  repeat walk_at "s"
  refine v_kforE (fun j r ρ m' => ∃ a2 a3 cs, ρ = [.bor (.lst (zz ns)), .own (zz cs), a2, a3] ∧ m' = m ∧ cs.length = 64 ∧ ∀ c ∈ cs, 0 ≤ c ∧ c < 2147483647) ns ⟨_, _, _, rfl, rfl, l0, c0⟩ (fun j ρ m' h => ?_) fun j x r ρ m' N h hN => ?_
  · obtain ⟨a2, a3, cs, rfl, rfl, lc, hc⟩ := h
    repeat walk_at "s"
    refine v_kforR 63 (fun k ρ m1 => ∃ a2 a3 cs, ρ = [.bor (.lst (zz ns)), .own (zz cs), a2, a3] ∧ m1 = m' ∧ cs.length = 64 ∧ ∀ c ∈ cs, 0 ≤ c ∧ c < 2147483647) ⟨_, _, _, rfl, rfl, lc, hc⟩ (fun ρ m' h => ?_) fun k ρ m' hk h => ?_
    · obtain ⟨a2, a3, cs, rfl, rfl, lc, hc⟩ := h
      repeat walk_at "s"
      exact q cs lc hc
    obtain ⟨a2, a3, cs, rfl, rfl, lc, hc⟩ := h
    repeat walk_at "s"
    refine v_ixl (by omega) (by omega) ?_
    obtain ⟨y0, y1⟩ := hc _ (nth_mem (xs := cs) (i := 1 + (k : Int)) (by omega) (by omega))
    generalize nth cs (1 + (k : Int)) = y at y0 y1 ⊢
    repeat walk_at "s"
    refine v_ixl (by omega) (by omega) ?_
    obtain ⟨z0, z1⟩ := hc _ (nth_mem (xs := cs) (i := 1 + (k : Int) - 1) (by omega) (by omega))
    generalize nth cs (1 + (k : Int) - 1) = z at z0 z1 ⊢
    have bz : bd 31 z := by unfold bd; omega
    repeat walk_at "s"
    refine v_mul (mulok bz (bd_lit (n := 15) (by decide))) ?_
    repeat walk_at "s"
    have v0 := Int.fmod_nonneg_of_pos (y + z * 16807) (show (0 : Int) < 2147483647 by decide)
    have v1 := Int.fmod_lt_of_pos (y + z * 16807) (show (0 : Int) < 2147483647 by decide)
    refine v_kSIz (by omega) (by omega) ?_
    obtain ⟨p1, p2⟩ := fold_set (j := (1 + (k : Int)).toNat) lc hc v0 v1
    exact ⟨_, _, _, rfl, rfl, p1, p2⟩
  · obtain ⟨a2, a3, cs, rfl, rfl, lc, hc⟩ := h
    have k0 := Int.fmod_nonneg_of_pos (j : Int) (show (0 : Int) < 64 by decide)
    have k1 := Int.fmod_lt_of_pos (j : Int) (show (0 : Int) < 64 by decide)
    repeat walk_at "s"
    refine v_ixl k0 (by omega) ?_
    obtain ⟨z0, z1⟩ := hc _ (nth_mem (xs := cs) k0 (by omega))
    generalize nth cs ((j : Int).fmod 64) = z at z0 z1 ⊢
    have bz : bd 31 z := by unfold bd; omega
    repeat walk_at "s"
    refine v_mul (mulok bz (bd_lit (n := 16) (by decide))) ?_
    repeat walk_at "s"
    have v0 := Int.fmod_nonneg_of_pos (z * 48271 + x) (show (0 : Int) < 2147483647 by decide)
    have v1 := Int.fmod_lt_of_pos (z * 48271 + x) (show (0 : Int) < 2147483647 by decide)
    refine v_kSIz k0 (by omega) ?_
    obtain ⟨p1, p2⟩ := fold_set (j := ((j : Int).fmod 64).toNat) lc hc v0 v1
    exact hN _ _ ⟨_, _, _, rfl, rfl, p1, p2⟩
end RR
namespace RR
open PySem PySem.Spec PyProof.Rows L2
def topS (i : Nat) : Stmt := PySem.Challenge.pw_rootring_k60_composed_rows.main.body.getD i (.Pass ⟨0, 0, 0, 0⟩)
end RR
local macro_rules | `(tactic| walk_at "s") => `(tactic| with_reducible first
  | refine RR.v_then ?_ | refine RR.v_set ?_ | (apply RR.v_var; · with_unfolding_all exact rfl) | refine RR.v_bin ?_ | refine RR.v_c ?_ | refine RR.v_g0 ?_ | refine RR.v_add ?_ | refine RR.v_cons ?_ | refine RR.v_nil ?_ | refine RR.v_call ?_ | refine RR.v_dB ?_ | refine RR.v_next ?_ | refine RR.v_ret ?_
  | refine RR.v_ite ?_ | refine RR.v_tst ?_ | refine RR.v_kT ?_ | refine RR.v_eqi ?_ | refine RR.v_nei ?_ | refine RR.v_eqr ?_ | refine RR.v_ner ?_ | refine RR.v_eqr0 ?_ | refine RR.v_ner0 ?_ | refine RR.v_eql ?_ | refine RR.v_nel ?_ | refine RR.v_eql0 ?_ | refine RR.v_nel0 ?_ | refine RR.v_isN ?_ | refine RR.v_notN ?_
  | (apply RR.v_bor; · with_unfolding_all exact rfl) | (apply RR.v_own; · with_unfolding_all exact rfl) | refine RR.v_tup ?_ | refine RR.v_lst ?_ | (refine RR.v_sz ?_ ?_; (· with_unfolding_all exact Nat.le_of_ble_eq_true rfl)) | (refine RR.v_gIIz ?_ ?_; (· first | decide | omega))
  | refine RR.v_lentz ?_ | refine RR.v_lenlz ?_ | refine RR.v_lent ?_ | refine RR.v_lenl ?_ | refine RR.v_I1 ?_ | refine RR.v_I2 ?_ | refine RR.v_int ?_ | refine RR.v_seqlz ?_ | refine RR.v_seqtz ?_ | refine RR.v_sl ?_ | refine RR.v_kSll ?_ | refine RR.v_kSlt ?_ | refine RR.v_ono ?_ | refine RR.v_oso ?_ | refine RR.v_kOS ?_
  | refine RR.v_val ?_ | refine RR.v_kVb ?_ | refine RR.v_kVi ?_ | refine RR.v_kVt ?_ | refine RR.v_kVl ?_ | refine RR.v_and ?_ | refine RR.v_or ?_ | refine RR.v_not ?_ | refine RR.v_yes ?_ | refine RR.v_if' ?_ | refine RR.v_isi ?_ | refine RR.v_kIii ?_ | refine RR.v_kIib ?_ | refine RR.v_kItt ?_
  | refine RR.v_andV ?_ | refine RR.v_orV ?_ | refine RR.v_notV ?_ | refine RR.v_kNV ?_ | refine RR.v_neg ?_ | refine RR.v_kNeg ?_ | refine RR.v_seq ?_ | refine RR.v_kSeql ?_ | refine RR.v_kSeqt ?_ | refine RR.v_rng1 ?_ | refine RR.v_rng2 ?_ | refine RR.v_enum ?_ | refine RR.v_revr ?_ | refine RR.v_rev ?_
  | (refine RR.v_kR1 ?_ ?_ ?_; (· decide); (· decide))
  | (refine RR.v_kR2 ?_ ?_ ?_ ?_ ?_; (· decide); (· decide); (· decide); (· decide))
  | refine RR.v_gn ?_ | refine RR.v_gt2 ?_ | refine RR.v_gt3 ?_ | refine RR.v_lc ?_ | refine RR.v_for ?_ | refine RR.v_setO ?_ | refine RR.v_drop ?_ | (apply RR.v_app; · with_unfolding_all exact rfl) | (apply RR.v_setI; · with_unfolding_all exact rfl) | (apply RR.v_rel; · with_unfolding_all exact rfl) | refine RR.v_raise ?_ | refine RR.v_par ?_ | refine RR.v_kP ?_ | refine RR.v_asg ?_
  | (apply RR.v_aug; · with_unfolding_all exact rfl) | refine RR.v_ifT ?_ | refine RR.v_ifF ?_ | (refine RR.v_pow ?_ ?_ ?_ ?_; (· decide); (· decide); (· decide)) | refine RR.v_call0 ?_ | (apply RR.v_lenr; · assumption) | (apply RR.v_seqr; · assumption) | (apply RR.v_kSeqr; · assumption) | (apply RR.v_kSlr; · assumption)
  | refine RR.v_ix0 ?_ | refine RR.v_ix1 ?_ | refine RR.v_ix2 ?_ | refine RR.v_zip ?_ | refine RR.v_kZl ?_ | refine RR.v_kZt ?_ | (apply RR.v_augI; · with_unfolding_all exact rfl) | refine RR.v_try ?_ | refine RR.v_isE ?_ | (refine RR.v_kIE ?_ ?_; (· with_unfolding_all exact rfl)) | refine RR.v_isB ?_ | refine RR.v_notB ?_ | refine RR.v_all ?_ | refine RR.v_par3 ?_ | refine RR.v_ifnT ?_ | refine RR.v_ifnF ?_ | refine RR.v_eqs ?_ | refine RR.v_nes ?_ | refine RR.v_rvs ?_ | refine RR.v_kRvl ?_ | refine RR.v_kRvt ?_
  | (refine RR.v_mulb (a := ?a) (b := ?b) ?ha ?hb ?l ?h; (case ha => assumption); (case hb => assumption); (case l => omega)) | (refine RR.v_fdivb (b := ?b) ?h0 ?hb ?l ?h; (case h0 => assumption); (case hb => assumption); (case l => omega)))
namespace RR
open PySem PySem.Spec PyProof.Rows L2
theorem gcd_step {x y : Int} (h0 : 0 ≤ x) (h1 : 0 < y) : Int.gcd y (x.fmod y) = Int.gcd x y := by
  rw [Int.fmod_eq_emod_of_nonneg x (Int.le_of_lt h1)]
  obtain ⟨a, rfl⟩ := Int.eq_ofNat_of_zero_le h0
  obtain ⟨b, rfl⟩ := Int.eq_ofNat_of_zero_le (Int.le_of_lt h1)
  rw [← Int.natCast_emod]
  show Nat.gcd _ _ = Nat.gcd _ _
  simp only [Int.natAbs_natCast]
  rw [Nat.gcd_comm, ← Nat.gcd_rec, Nat.gcd_comm]
theorem gcd_abs (x y : Int) : Int.gcd (iabs x) (iabs y) = Int.gcd x y := by
  rw [iabs_eq, iabs_eq]; unfold Int.gcd; simp
theorem gcd_zero {x : Int} (h : 0 ≤ x) : (Int.gcd x 0 : Int) = x := by rw [Int.gcd_zero]; omega
def b_numbers_common {M : Type} : DS M :=
    (dThen (dPar 0 1 (dCons (dB (gI1 iabs) (dCons (dVar 0) dNil)) (dCons (dB (gI1 iabs) (dCons (dVar 1) dNil)) dNil)))
    (dThen (dWhile (dTst (dBin gGt (dVar 1) (dC (.int 0))))
      (dPar 0 1 (dCons (dVar 1) (dCons (dBin (gII Nz fun i j => .int (i.fmod j)) (dVar 0) (dVar 1)) dNil))))
    (dRet (dVar 0))))
def s_numbers_common {M : Type} : DSp M := fun ds m Q Z => ∃ x y, ds = [.int x, .int y] ∧ Q (.int (Int.gcd x y)) m
theorem vc_numbers_common {M : Type} : ∀ ds (m : M) Q Z, s_numbers_common ds m Q Z → okK [false, false] ds ∧ b_numbers_common { nx := fun _ m' => Q .non m', rt := Q, ex := Z } (st0 [false, false] ds 2) m := by
  rintro ds m Q Z ⟨x, y, rfl, q⟩
  refine ⟨⟨fun _ => rfl, fun _ => rfl, trivial⟩, ?_⟩
  unfold b_numbers_common
  repeat walk_at "s"
  refine v_while (fun n ρ m' => m' = m ∧ ∃ a b : Int, ρ = [.val (.int a), .val (.int b)] ∧ 0 ≤ a ∧ 0 ≤ b ∧ n = b.toNat ∧ Int.gcd a b = Int.gcd x y) _ ⟨rfl, _, _, rfl, by rw [iabs_eq]; omega, by rw [iabs_eq]; omega, rfl, gcd_abs x y⟩ fun n ρ m' h => ?_
  obtain ⟨rfl, a, b, rfl, ha, hb, rfl, e⟩ := h
  repeat walk_at "s"
  refine v_ifd (fun h => ?_) fun h => ?_
  · have h1 := Int.fmod_nonneg_of_pos a h
    have h2 := Int.fmod_lt_of_pos a h
    repeat walk_at "s"
    exact ⟨_, by omega, rfl, _, _, rfl, hb, h1, rfl, by rw [gcd_step ha h]; exact e⟩
  · repeat walk_at "s"
    obtain rfl : b = 0 := by omega
    rw [← e, gcd_zero ha] at q
    exact q
def gcdL (xs : List Int) : Nat := xs.foldl (fun g x => Int.gcd g x) 0
abbrev pq (r : Rat) : D := .tup [.int r.num, .int r.den]
def part (n d : Int) : Int := if 0 < d then (Int.gcd n d : Int) else 0 - (Int.gcd n d : Int)
theorem part_ne {n d : Int} (hd : d ≠ 0) : part n d ≠ 0 := by
  have : Int.gcd n d ≠ 0 := fun e => hd (Int.gcd_eq_zero_iff.mp e).2
  unfold part; split <;> omega
theorem part_bd {n d : Int} {b : Nat} (hd : d ≠ 0) (h : bd b d) : bd b (part n d) := by
  have h1 : Int.gcd n d ≤ d.natAbs := Nat.le_of_dvd (by omega) (Nat.gcd_dvd_right _ _)
  unfold bd at *
  unfold part; split <;> omega
theorem low_num {n d : Int} (hd : d ≠ 0) : n.fdiv (part n d) = ((n : Rat) / (d : Rat)).num := by
  rw [← Rat.divInt_eq_div, Rat.num_divInt]
  have g0 : Int.gcd n d ≠ 0 := fun e => hd (Int.gcd_eq_zero_iff.mp e).2
  obtain ⟨k, hk⟩ : ((Int.gcd n d : Nat) : Int) ∣ n := Int.gcd_dvd_left ..
  rw [Int.gcd_comm d n]
  unfold part
  generalize hg : Int.gcd n d = g at *
  have gp : (0 : Int) < g := by omega
  by_cases h : 0 < d
  · rw [if_pos h, Int.sign_eq_one_of_pos h, Int.one_mul, fdiv_pos (by omega)]
  · rw [if_neg h, Int.sign_eq_neg_one_of_neg (by omega), hk]
    rw [show -1 * ((g : Int) * k) = g * (-k) by rw [Int.mul_neg]; omega, Int.mul_ediv_cancel_left _ (by omega), show (0 : Int) - g = -g by omega]
    rw [show (g : Int) * k = (-g) * (-k) by rw [Int.neg_mul_neg], Int.mul_fdiv_cancel_left _ (by omega)]
theorem low_den {n d : Int} (hd : d ≠ 0) : d.fdiv (part n d) = (((n : Rat) / (d : Rat)).den : Int) := by
  rw [← Rat.divInt_eq_div, Rat.den_divInt, if_neg hd]
  have g0 : Int.gcd n d ≠ 0 := fun e => hd (Int.gcd_eq_zero_iff.mp e).2
  obtain ⟨k, hk⟩ : ((Int.gcd n d : Nat) : Int) ∣ d := Int.gcd_dvd_right ..
  rw [Int.gcd_comm d n, Int.natCast_ediv]
  unfold part
  generalize hg : Int.gcd n d = g at *
  have gp : (0 : Int) < g := by omega
  by_cases h : 0 < d
  · rw [if_pos h, fdiv_pos (by omega), Int.natAbs_of_nonneg (by omega)]
  · rw [if_neg h, Int.ofNat_natAbs_of_nonpos (by omega)]
    rw [hk, show (0 : Int) - g = -g by omega, show -((g : Int) * k) = g * (-k) by rw [Int.mul_neg], Int.mul_ediv_cancel_left _ (by omega)]
    rw [show (g : Int) * k = (-g) * (-k) by rw [Int.neg_mul_neg], Int.mul_fdiv_cancel_left _ (by omega)]
def b_fractions_fraction {M : Type} : DS M :=
    (dThen (dIte (dTst (dBin gEq (dVar 1) (dC (.int 0))))
      (dRaise "ByNought")
      dNext)
    (dThen (dSet 2 (dCall s_numbers_common [] (dCons (dVar 0) (dCons (dVar 1) dNil))))
    (dThen (dSet 2 (dIf (dTst (dBin gGt (dVar 1) (dC (.int 0)))) (dVar 2) (dBin (g0 fun i j => .int (i - j)) (dC (.int 0)) (dVar 2))))
    (dRet (dTup (dCons (dBin (gII Nd fun i j => .int (i.fdiv j)) (dVar 0) (dVar 2)) (dCons (dBin (gII Nd fun i j => .int (i.fdiv j)) (dVar 1) (dVar 2)) dNil)))))))
def s_fractions_fraction {M : Type} : DSp M := fun ds m Q Z => ∃ n d, ds = [.int n, .int d] ∧ (d = 0 → Z "ByNought" m) ∧ (d ≠ 0 → Sm [n] d ∧ Q (pq ((n : Rat) / (d : Rat))) m)
theorem vc_fractions_fraction {M : Type} : ∀ ds (m : M) Q Z, s_fractions_fraction ds m Q Z → okK [false, false] ds ∧ b_fractions_fraction { nx := fun _ m' => Q .non m', rt := Q, ex := Z } (st0 [false, false] ds 3) m := by
  rintro ds m Q Z ⟨n, d, rfl, z, q⟩
  refine ⟨⟨fun _ => rfl, fun _ => rfl, trivial⟩, ?_⟩
  unfold b_fractions_fraction
  repeat walk_at "s"
  refine v_ifd (fun h => ?_) fun h => ?_
  · repeat walk_at "s"
    exact z h
  obtain ⟨hb, q⟩ := q h
  repeat walk_at "s"
  refine ⟨n, d, rfl, ?_⟩
  have pn := part_ne (n := n) h
  have pb := Sm.le hb fun _ z => part_bd (n := n) h z
  repeat walk_at "s"
  have fin : ∀ p, p = part n d → (dRet (dTup (dCons (dBin (gII Nd fun i j => .int (i.fdiv j)) (dVar 0) (dVar 2)) (dCons (dBin (gII Nd fun i j => .int (i.fdiv j)) (dVar 1) (dVar 2)) dNil))) : DS M)
      { nx := fun _ m' => Q .non m', rt := Q, ex := Z } [.val (.int n), .val (.int d), .val (.int p)] m := fun p e => by
    subst e
    repeat walk_at "s"
    refine v_fdivs pn (pb n (by simp)) ?_
    repeat walk_at "s"
    refine v_fdivs pn (pb d (by simp)) ?_
    repeat walk_at "s"
    rw [low_num h, low_den h]
    exact q
  refine v_ifd (fun h => ?_) fun h => ?_
  · repeat walk_at "s"
    exact fin _ (by unfold part; rw [if_pos h])
  · repeat walk_at "s"
    exact fin _ (by unfold part; rw [if_neg h])
end RR
namespace RR
open PySem PySem.Spec PyProof.Rows L2
def b_rows_row_of {M : Type} : DS M :=
    (dThen (dSet 1 (dB gLen (dCons (dBor 0) dNil)))
    (dThen (dWhile (dAnd (dTst (dBin gGt (dVar 1) (dC (.int 0)))) (dTst (dBin gEq (dBin (gIx true) (dBor 0) (dBin (g0 fun i j => .int (i - j)) (dVar 1) (dC (.int 1)))) (dC (.int 0)))))
      (dAug 1 (fun i j => i - j) (dC (.int 1))))
    (dRet (dB (gSeq .tup) (dCons (dSl (dBor 0) dONone (dOSome (dVar 1))) dNil)))))
def s_rows_row_of {M : Type} : DSp M := fun ds m Q Z => ∃ d xs, ds = [d] ∧ isRow d xs ∧ xs.length ≤ 16000000 ∧ ∀ r, R (ser xs) r → Q (.tup (zz r)) m
theorem vc_rows_row_of {M : Type} : ∀ ds (m : M) Q Z, s_rows_row_of ds m Q Z → okK [true] ds ∧ b_rows_row_of { nx := fun _ m' => Q .non m', rt := Q, ex := Z } (st0 [true] ds 2) m := by
  rintro ds m Q Z ⟨d, xs, rfl, hd, hl, q⟩
  have q := q (strip xs) (R.of rfl)
  refine ⟨⟨fun h => (nomatch h), trivial⟩, ?_⟩
  unfold b_rows_row_of
  repeat walk_at "s"
  refine v_while (fun n ρ m' => m' = m ∧ ρ = [.bor d, .val (.int n)] ∧ n ≤ xs.length ∧ strip (xs.take n) = strip xs) xs.length ⟨rfl, rfl, Nat.le_refl _, by rw [List.take_length]⟩ fun n ρ m' h => ?_
  obtain ⟨rfl, rfl, hn, hs⟩ := h
  repeat walk_at "s"
  refine v_ifd (fun h => ?_) fun h => ?_
  · repeat walk_at "s"
    refine v_ixr hd (by omega) (by omega) ?_
    repeat walk_at "s"
    obtain ⟨k, rfl⟩ : ∃ k, n = k + 1 := ⟨n - 1, by omega⟩
    have e : ((k + 1 : Nat) : Int) - 1 = k := by omega
    rw [e, nth_get (by omega)]
    refine v_ifd (fun z => ?_) fun z => ?_
    · repeat walk_at "s"
      exact ⟨k, by omega, rfl, by rw [e]; rfl, by omega, by rw [← strip_step (by omega) z]; exact hs⟩
    · repeat walk_at "s"
      intro d' hd'
      rw [cutZ_to (by omega)] at hd'
      repeat walk_at "s"
      rw [Int.toNat_natCast, ← strip_stop (by omega) z, hs]
      exact q
  · repeat walk_at "s"
    intro d' hd'
    rw [cutZ_to (by omega)] at hd'
    repeat walk_at "s"
    have e : n = 0 := by omega
    subst e
    rw [← hs] at q
    exact q
def b__law_cut {M : Type} : DS M :=
    (dThen (dSet 1 (dB gLen (dCons (dBor 0) dNil)))
    (dThen (dWhile (dAnd (dTst (dBin gGt (dVar 1) (dC (.int 0)))) (dTst (dBin gEq (dBin (gIx true) (dBor 0) (dBin (g0 fun i j => .int (i - j)) (dVar 1) (dC (.int 1)))) (dC (.int 0)))))
      (dSet 1 (dBin (g0 fun i j => .int (i - j)) (dVar 1) (dC (.int 1)))))
    (dRet (dB (gSeq .tup) (dCons (dSl (dBor 0) dONone (dOSome (dVar 1))) dNil)))))
def s__law_cut {M : Type} : DSp M := s_rows_row_of
theorem vc__law_cut {M : Type} : ∀ ds (m : M) Q Z, s__law_cut ds m Q Z → okK [true] ds ∧ b__law_cut { nx := fun _ m' => Q .non m', rt := Q, ex := Z } (st0 [true] ds 2) m := by
  rintro ds m Q Z ⟨d, xs, rfl, hd, hl, q⟩
  have q := q (strip xs) (R.of rfl)
  refine ⟨⟨fun h => (nomatch h), trivial⟩, ?_⟩
  unfold b__law_cut
  repeat walk_at "s"
  refine v_while (fun n ρ m' => m' = m ∧ ρ = [.bor d, .val (.int n)] ∧ n ≤ xs.length ∧ strip (xs.take n) = strip xs) xs.length ⟨rfl, rfl, Nat.le_refl _, by rw [List.take_length]⟩ fun n ρ m' h => ?_
  obtain ⟨rfl, rfl, hn, hs⟩ := h
  repeat walk_at "s"
  refine v_ifd (fun h => ?_) fun h => ?_
  · repeat walk_at "s"
    refine v_ixr hd (by omega) (by omega) ?_
    repeat walk_at "s"
    obtain ⟨k, rfl⟩ : ∃ k, n = k + 1 := ⟨n - 1, by omega⟩
    have e : ((k + 1 : Nat) : Int) - 1 = k := by omega
    rw [e, nth_get (by omega)]
    refine v_ifd (fun z => ?_) fun z => ?_
    · repeat walk_at "s"
      exact ⟨k, by omega, rfl, by rw [e]; rfl, by omega, by rw [← strip_step (by omega) z]; exact hs⟩
    · repeat walk_at "s"
      intro d' hd'
      rw [cutZ_to (by omega)] at hd'
      repeat walk_at "s"
      rw [Int.toNat_natCast, ← strip_stop (by omega) z, hs]
      exact q
  · repeat walk_at "s"
    intro d' hd'
    rw [cutZ_to (by omega)] at hd'
    repeat walk_at "s"
    have e : n = 0 := by omega
    subst e
    rw [← hs] at q
    exact q
theorem pad_toNat {xs : List Int} {n : Int} : xs ++ List.replicate (n - (xs.length : Int)).toNat 0 = padTo n.toNat xs := by
  unfold padTo
  rw [show (n - (xs.length : Int)).toNat = n.toNat - xs.length by omega]
theorem ser_zip {q : Int} {k : Nat} {xs ys : List Int} (h1 : xs.length ≤ k) (h2 : ys.length ≤ k) : ser (List.zipWith (fun x y => x + q * y) (padTo k xs) (padTo k ys)) = ser xs + Ser.C q * ser ys := Ser.ext fun j => by
  rw [ser_co, zip_co (by simp) (by rw [pad_len h1, pad_len h2]), pad_co, pad_co, Ser.add_co, Ser.C_mul_co]; rfl
def b__law_sum {M : Type} : DS M :=
    (dThen (dSet 3 (dB (gI2 imax) (dCons (dB gLen (dCons (dVar 0) dNil)) (dCons (dB gLen (dCons (dVar 1) dNil)) dNil))))
    (dThen (dSet 4 (dBin gAdd (dB (gSeq .lst) (dCons (dVar 0) dNil)) (dBin gMul (dLst (dCons (dC (.int 0)) dNil)) (dBin (g0 fun i j => .int (i - j)) (dVar 3) (dB gLen (dCons (dVar 0) dNil))))))
    (dThen (dSet 5 (dBin gAdd (dB (gSeq .lst) (dCons (dVar 1) dNil)) (dBin gMul (dLst (dCons (dC (.int 0)) dNil)) (dBin (g0 fun i j => .int (i - j)) (dVar 3) (dB gLen (dCons (dVar 1) dNil))))))
    (dRet (dCall s__law_cut [] (dCons (dLc (dZip false (dVar 4) (dVar 5)) (dgT 2 (dgCons (dgN 6) (dgCons (dgN 7) dgNil))) dYes (dBin gAdd (dVar 6) (dBin gMul (dVar 2) (dVar 7))) [6, 7]) dNil))))))
def s__law_sum {M : Type} : DSp M := fun ds m Q Z => ∃ xs ys q a b, ds = [.tup (zz xs), .tup (zz ys), .int q] ∧ xs.length ≤ 1000000 ∧ ys.length ≤ 1000000 ∧ bd a q ∧ (∀ y ∈ ys, bd b y) ∧ a + b ≤ 100000000 ∧ ∀ r, R (ser xs + Ser.C q * ser ys) r → Q (.tup (zz r)) m
theorem vc__law_sum {M : Type} : ∀ ds (m : M) Q Z, s__law_sum ds m Q Z → okK [false, false, false] ds ∧ b__law_sum { nx := fun _ m' => Q .non m', rt := Q, ex := Z } (st0 [false, false, false] ds 8) m := by
  rintro ds m Q Z ⟨xs, ys, f, a, b, rfl, h1, h2, ha, hb, hab, q⟩
  refine ⟨⟨fun _ => nl_row xs, fun _ => nl_row ys, fun _ => rfl, trivial⟩, ?_⟩
  unfold b__law_sum
  repeat walk_at "s"
  rw [imax_eq]
  refine v_repl1 (by omega) (by omega) ?_
  refine v_addlz (by rw [List.length_replicate]; omega) ?_
  repeat walk_at "s"
  refine v_repl1 (by omega) (by omega) ?_
  refine v_addlz (by rw [List.length_replicate]; omega) ?_
  rw [pad_toNat, pad_toNat]
  have e : (max (xs.length : Int) (ys.length : Int)).toNat = max xs.length ys.length := by omega
  rw [e]
  have p1 : (padTo (max xs.length ys.length) xs).length = max xs.length ys.length := pad_len (by omega)
  have p2 : (padTo (max xs.length ys.length) ys).length = max xs.length ys.length := pad_len (by omega)
  repeat walk_at "s"
  refine lc_zip (f := fun x y => x + f * y) (fun x _ y hy m k l hk => ?_) (by omega) ?_
  · have by_ : bd b y := (pad_mem hy).elim (hb y) fun e => by rw [e]; exact bd0
    repeat walk_at "s"
    exact hk
  repeat walk_at "s"
  refine ⟨_, _, rfl, isRow_l, by rw [List.length_zipWith]; omega, fun r hr => q r ?_⟩
  rw [ser_zip (by omega) (by omega)] at hr
  exact hr
def Lx (xs ys : List Int) : Int := imax 0 ((xs.length : Int) + ys.length - 1)
theorem prod_step {xs ys cs r r2 : List Int} {i j : Nat} {x y : Int} (hi : i + r.length + 1 = xs.length) (hj : j + (r2.length + 1) = ys.length) (hc : (cs.length : Int) = Lx xs ys) :
    0 ≤ (i : Int) + j ∧ (i : Int) + j < cs.length := by
  unfold Lx at hc; rw [imax_eq] at hc
  omega
theorem prod_ser {xs ys cs r r2 : List Int} {i j : Nat} {x y v : Int} (h : i + j < cs.length) (hv : v = cs.getD (i + j) 0 + x * y)
    (e : ser cs + xp (i + j) * Ser.C x * ser (y :: r2) + xp (i + 1) * ser r * ser ys = ser xs * ser ys) :
    ser (cs.set (i + j) v) + xp (i + (j + 1)) * Ser.C x * ser r2 + xp (i + 1) * ser r * ser ys = ser xs * ser ys := by
  rw [ser_set h, ← e, ser_cons, hv, show cs.getD (i + j) 0 + x * y - cs.getD (i + j) 0 = x * y by omega, C_mul, ← Nat.add_assoc, xp_add (i + j) 1]
  grind
def s_rows_times {M : Type} : DSp M := fun ds m Q Z => ∃ xs ys a b, ds = [.tup (zz xs), .tup (zz ys)] ∧ xs.length ≤ 100000 ∧ ys.length ≤ 100000 ∧ (∀ x ∈ xs, bd a x) ∧ (∀ y ∈ ys, bd b y) ∧ a + b ≤ 100000000 ∧ ∀ r, R (ser xs * ser ys) r → Q (.tup (zz r)) m
def b__law_product {M : Type} : DS M :=
    (dThen (dSetO 2 (dBin gMul (dLst (dCons (dC (.int 0)) dNil)) (dB (gI2 imax) (dCons (dC (.int 0)) (dCons (dBin (g0 fun i j => .int (i - j)) (dBin gAdd (dB gLen (dCons (dVar 0) dNil)) (dB gLen (dCons (dVar 1) dNil))) (dC (.int 1))) dNil)))))
    (dThen (dFor (dEnum false (dVar 0)) (dgT 2 (dgCons (dgN 3) (dgCons (dgN 4) dgNil)))
      (dFor (dEnum false (dVar 1)) (dgT 2 (dgCons (dgN 5) (dgCons (dgN 6) dgNil)))
      (dSetI 2 (dBin gAdd (dBin (gIx true) (dOwn 2) (dBin gAdd (dVar 3) (dVar 5))) (dBin gMul (dVar 4) (dVar 6))) (dBin gAdd (dVar 3) (dVar 5)))))
    (dRet (dCall s__law_cut [] (dCons (dOwn 2) dNil)))))
def s__law_product {M : Type} : DSp M := s_rows_times
theorem vc__law_product {M : Type} : ∀ ds (m : M) Q Z, s__law_product ds m Q Z → okK [false, false] ds ∧ b__law_product { nx := fun _ m' => Q .non m', rt := Q, ex := Z } (st0 [false, false] ds 7) m := by
  rintro ds m Q Z ⟨xs, ys, a, b, rfl, h1, h2, ha, hb, hab, q⟩
  refine ⟨⟨fun _ => nl_row xs, fun _ => nl_row ys, trivial⟩, ?_⟩
  unfold b__law_product
  repeat walk_at "s"
  refine v_repl1 (by rw [imax_eq]; omega) (by rw [imax_eq]; omega) ?_
  refine v_kO (nls_ints _) ?_
  repeat walk_at "s"
  refine v_kforE (fun i r ρ m' => m' = m ∧ ∃ cs a3 a4 a5 a6, ρ = [.val (.tup (zz xs)), .val (.tup (zz ys)), .own (zz cs), a3, a4, a5, a6] ∧ (cs.length : Int) = Lx xs ys ∧ i + r.length = xs.length ∧ (∀ x ∈ r, bd a x) ∧ ser cs + xp i * ser r * ser ys = ser xs * ser ys) xs
    ⟨rfl, _, _, _, _, _, rfl, by rw [List.length_replicate]; unfold Lx; rw [imax_eq]; omega, by omega, ha, by rw [ser_zeros, xp0]; grind⟩ (fun i ρ m' h => ?_) fun i x r ρ m' N h hN => ?_
  · obtain ⟨rfl, cs, _, _, _, _, rfl, hc, hi, _, e⟩ := h
    repeat walk_at "s"
    refine ⟨_, cs, rfl, isRow_l, by unfold Lx at hc; rw [imax_eq] at hc; omega, fun s hs => q s ?_⟩
    rw [ser_nil] at e
    refine hs.cong ?_
    rw [← e]; grind
  · obtain ⟨rfl, cs, _, _, _, _, rfl, hc, hi, hx, e⟩ := h
    rw [List.length_cons] at hi
    have bx : bd a x := hx x List.mem_cons_self
    repeat walk_at "s"
    refine v_kforE (fun j r2 ρ m1 => m1 = m' ∧ ∃ cs a5 a6, ρ = [.val (.tup (zz xs)), .val (.tup (zz ys)), .own (zz cs), .val (.int i), .val (.int x), a5, a6] ∧ (cs.length : Int) = Lx xs ys ∧ j + r2.length = ys.length ∧ (∀ y ∈ r2, bd b y) ∧
      ser cs + xp (i + j) * Ser.C x * ser r2 + xp (i + 1) * ser r * ser ys = ser xs * ser ys) ys ⟨rfl, _, _, _, rfl, hc, by omega, hb, by rw [← e, ser_cons, xp_add]; rw [xp_add, xp0]; grind⟩ (fun j ρ m1 h => ?_) fun j y r2 ρ m1 N2 h hN2 => ?_
    · obtain ⟨rfl, cs, _, _, rfl, hc, hj, _, e⟩ := h
      repeat walk_at "s"
      refine hN _ _ ⟨rfl, cs, _, _, _, _, rfl, hc, by omega, fun z hz => hx z (List.mem_cons_of_mem _ hz), ?_⟩
      rw [ser_nil] at e
      rw [← e]; grind
    · obtain ⟨rfl, cs, _, _, rfl, hc, hj, hy, e⟩ := h
      rw [List.length_cons] at hj
      have by_ : bd b y := hy y List.mem_cons_self
      have hp := prod_step (x := x) (y := y) (by omega) hj hc
      repeat walk_at "s"
      refine v_ixl hp.1 hp.2 ?_
      repeat walk_at "s"
      refine v_kSIz hp.1 hp.2 ?_
      have et : ((i : Int) + j).toNat = i + j := by omega
      rw [et]
      exact hN2 _ _ ⟨rfl, _, _, _, rfl, by rw [List.length_set]; exact hc, by omega, fun z hz => hy z (List.mem_cons_of_mem _ hz), prod_ser (by omega) (by unfold nth; rw [et]) e⟩
end RR
namespace RR
open PySem PySem.Spec PyProof.Rows L2
theorem v_drawN {N : Nat} {many : Int} {Q : D → Option Nat → Prop} {Z : Str → Option Nat → Prop} (hN : 1 ≤ N) (h0 : 0 < many) (hb : many.natAbs < 2 ^ 250) (h : ∀ x, 0 ≤ x → x < many → Q (.int x) (some (N - 1))) : s__law_draw [.hnd hdl, .int many] (some N) Q Z := by
  obtain ⟨k, rfl⟩ : ∃ k, N = k + 1 := ⟨N - 1, by omega⟩
  exact v_draw h0 hb h
theorem lc_drawn {g : DG} {tt : DTT (Option Nat)} {t : DT (Option Nat)} {ρ : En} {QL : List D → Option Nat → Prop} {P : Int → Prop} (n c N : Nat) (hN : n * c ≤ N)
    (st : ∀ ds N' (k : D → Option Nat → Prop) (l : Option Nat → Prop), c ≤ N' → (∀ y N'', P y → N' - c ≤ N'' → k (.int y) (some N'')) → g ds ρ fun ρ2 => tt ρ2 (some N') (fun b m1 => if b = true then t ρ2 m1 k (fun _ _ => False) else l m1) (fun _ _ => False))
    (hl : n ≤ 16777216) (q : ∀ xs N', xs.length = n → (∀ x ∈ xs, P x) → N - n * c ≤ N' → QL (zz xs) (some N')) : lcGo g tt t ρ (iota 0 n) [] (some N) QL := by
  refine lc_rany (P := P) (S := fun j m => ∃ N', m = some N' ∧ j * c + (N - n * c) ≤ N') n (fun j d m k l s hk => ?_) hl ⟨N, rfl, by omega⟩ fun xs m1 lx px s1 => ?_
  · obtain ⟨N', rfl, h⟩ := s
    rw [Nat.succ_mul] at h
    exact st d N' k l (by omega) fun y N'' hy hn => hk y _ hy ⟨N'', rfl, by omega⟩
  · obtain ⟨N', rfl, h⟩ := s1
    exact q xs N' lx px (by omega)
end RR
namespace RR
open PySem PySem.Spec PyProof.Rows L2
def qs (f : Ser Int) : Ser Rat := ⟨fun k => (f.co k : Rat)⟩
theorem qs_co (f : Ser Int) (k : Nat) : (qs f).co k = (f.co k : Rat) := rfl
theorem qs_C (c : Int) : qs (Ser.C c) = Ser.C (c : Rat) := Ser.ext fun k => by
  rw [qs_co, Ser.C_co, Ser.C_co]; split <;> rfl
theorem qs_mulc : ∀ (k : Nat) (f g : Ser Int), ((Ser.mulc k f g : Int) : Rat) = Ser.mulc k (qs f) (qs g)
  | 0, f, g => by show ((f.co 0 * g.co 0 : Int) : Rat) = _; rw [Rat.intCast_mul]; rfl
  | k + 1, f, g => by
    show ((f.co 0 * g.co (k + 1) + Ser.mulc k f.tl g : Int) : Rat) = (f.co 0 : Rat) * (g.co (k + 1) : Rat) + Ser.mulc k (qs f).tl (qs g)
    rw [Rat.intCast_add, Rat.intCast_mul, qs_mulc k f.tl g]; rfl
theorem qs_mul (f g : Ser Int) : qs (f * g) = qs f * qs g := Ser.ext fun k => qs_mulc k f g
theorem qs_zero : qs 0 = 0 := Ser.ext fun k => by rw [qs_co, zero_co, zero_co]; rfl
theorem qs_one : qs 1 = 1 := Ser.ext fun k => by rw [qs_co, one_co, one_co]; split <;> rfl
theorem cne {d : Int} (h : d ≠ 0) : (d : Rat) ≠ 0 := fun e => h (Rat.intCast_inj.mp e)
theorem Cq_cancel {c : Rat} {f g : Ser Rat} (hc : c ≠ 0) (h : Ser.C c * f = Ser.C c * g) : f = g := Ser.ext fun k => by
  have := congrArg (fun f => Ser.co f k) h
  simp only [Ser.C_mul_co] at this
  have e : c⁻¹ * (c * f.co k) = c⁻¹ * (c * g.co k) := by rw [this]
  rw [← Lean.Grind.Semiring.mul_assoc, ← Lean.Grind.Semiring.mul_assoc, Rat.inv_mul_cancel c hc] at e
  grind
theorem gcd_fold_dvd : ∀ (xs : List Int) (g : Nat), (xs.foldl (fun g x => Int.gcd g x) g) ∣ g ∧ ∀ x ∈ xs, ((xs.foldl (fun g x => Int.gcd g x) g : Nat) : Int) ∣ x
  | [], g => ⟨Nat.dvd_refl _, fun _ h => nomatch h⟩
  | x :: xs, g => by
    obtain ⟨h1, h2⟩ := gcd_fold_dvd xs (Int.gcd g x)
    have a : Int.gcd g x ∣ g := by have := Int.gcd_dvd_natAbs_left (g : Int) x; simpa using this
    have b : ((Int.gcd g x : Nat) : Int) ∣ x := Int.gcd_dvd_right ..
    refine ⟨Nat.dvd_trans h1 a, fun y hy => ?_⟩
    rcases List.mem_cons.mp hy with rfl | hy
    · exact Int.dvd_trans (Int.natCast_dvd_natCast.mpr h1) b
    · exact h2 y hy
theorem gcdL_dvd {xs : List Int} {x : Int} (h : x ∈ xs) : ((gcdL xs : Nat) : Int) ∣ x := (gcd_fold_dvd xs 0).2 x h
theorem gcd_fold_great : ∀ (xs : List Int) (g k : Nat), k ∣ g → (∀ x ∈ xs, (k : Int) ∣ x) → k ∣ xs.foldl (fun g x => Int.gcd g x) g
  | [], g, k, h, _ => h
  | x :: xs, g, k, h, hx => gcd_fold_great xs _ k (Int.natCast_dvd_natCast.mp (Int.dvd_coe_gcd (Int.natCast_dvd_natCast.mpr h) (hx x List.mem_cons_self))) fun y hy => hx y (List.mem_cons_of_mem _ hy)
theorem gcdL_great {xs : List Int} {k : Nat} (h : ∀ x ∈ xs, (k : Int) ∣ x) : k ∣ gcdL xs := gcd_fold_great xs 0 k (Nat.dvd_zero k) h
structure P (f : Ser Rat) (r : List Int) (d : Int) : Prop where
  pos : 0 < d
  dn : done r
  low : Int.gcd (gcdL r) d = 1
  eq : Ser.C (d : Rat) * f = qs (ser r)
theorem dvd_of_all {r : List Int} {d e : Int} (h : Int.gcd (gcdL r) d = 1) (a : ∀ x ∈ r, d ∣ x * e) : d ∣ e := by
  have fold : ∀ (xs : List Int) (g : Nat), (d ∣ (g : Int) * e) → (∀ x ∈ xs, d ∣ x * e) → d ∣ ((xs.foldl (fun g x => Int.gcd g x) g : Nat) : Int) * e := by
    intro xs
    induction xs with
    | nil => exact fun g h _ => h
    | cons x xs ih =>
      intro g hg hx
      refine ih _ ?_ fun y hy => hx y (List.mem_cons_of_mem _ hy)
      have := Int.dvd_coe_gcd hg (hx x List.mem_cons_self)
      rw [Int.gcd_mul_right] at this
      have e2 : ((Int.gcd g x : Int) * e).natAbs = Int.gcd g x * e.natAbs := by rw [Int.natAbs_mul]; simp
      exact Int.dvd_natAbs.mp (by rw [e2]; exact this)
  have h1 := fold r 0 (by simp) a
  have h1 : d ∣ (gcdL r : Int) * e := h1
  have h2 : d ∣ d * e := Int.dvd_mul_right ..
  have h3 := Int.dvd_coe_gcd h1 h2
  rw [Int.gcd_mul_right, h, Nat.one_mul] at h3
  exact Int.dvd_natAbs.mp h3
theorem P.get {f : Ser Rat} {r : List Int} {d : Int} (h : P f r d) (k : Nat) : (d : Rat) * f.co k = (r.getD k 0 : Int) := by
  have := congrArg (fun f => Ser.co f k) h.eq
  simp only [Ser.C_mul_co, qs_co, ser_co] at this
  exact this
theorem P.dq {f : Ser Rat} {r : List Int} {d : Int} (h : P f r d) : (d : Rat) ≠ 0 := cne (by have := h.pos; omega)
theorem P.uniq {f : Ser Rat} {r r' : List Int} {d d' : Int} (h : P f r d) (h' : P f r' d') : r = r' ∧ d = d' := by
  have cross : ∀ k, r.getD k 0 * d' = r'.getD k 0 * d := fun k => by
    have e1 := h.get k
    have e2 := h'.get k
    refine Rat.intCast_inj.mp ?_
    rw [Rat.intCast_mul, Rat.intCast_mul, ← e1, ← e2]; grind
  have dv : ∀ {r r' : List Int} {d d' : Int}, Int.gcd (gcdL r) d = 1 → (∀ k, r.getD k 0 * d' = r'.getD k 0 * d) → d ∣ d' := fun {r r' d d'} g c => dvd_of_all g fun x hx => by
    obtain ⟨i, hi, rfl⟩ := List.mem_iff_getElem.mp hx
    have := c i
    rw [List.getD_eq_getElem?_getD, List.getElem?_eq_getElem hi] at this
    exact ⟨r'.getD i 0, by rw [Int.mul_comm d]; exact this⟩
  have e : d = d' := Int.dvd_antisymm (Int.le_of_lt h.pos) (Int.le_of_lt h'.pos) (dv h.low cross) (dv h'.low fun k => (cross k).symm)
  subst e
  refine ⟨done_uniq h.dn h'.dn (Ser.ext fun k => ?_), rfl⟩
  have := cross k
  have d0 := h.pos
  exact Int.eq_of_mul_eq_mul_right (by omega) this
theorem P.inj {f g : Ser Rat} {r : List Int} {d : Int} (h : P f r d) (h' : P g r d) : f = g := Cq_cancel h.dq (h.eq.trans h'.eq.symm)
theorem P.cong {f g : Ser Rat} {r : List Int} {d : Int} (h : P f r d) (e : f = g) : P g r d := e ▸ h
theorem P.far {f : Ser Rat} {r : List Int} {d : Int} (h : P f r d) : RR.far r.length f := fun k hk => by
  have := h.get k
  rw [getD_far hk, Rat.intCast_zero] at this
  have e : (d : Rat)⁻¹ * ((d : Rat) * f.co k) = (d : Rat)⁻¹ * 0 := by rw [this]
  rw [← Lean.Grind.Semiring.mul_assoc, Rat.inv_mul_cancel _ h.dq] at e
  grind
theorem P.top {f : Ser Rat} {r : List Int} {d : Int} (h : P f r d) (n : r ≠ []) : RR.top (r.length - 1) f := by
  have l0 := List.length_pos_iff.mpr n
  refine ⟨fun k hk => h.far k (by omega), fun e => done_last h.dn n ?_⟩
  have := h.get (r.length - 1)
  rw [e, Lean.Grind.Semiring.mul_zero] at this
  exact Rat.intCast_inj.mp this.symm
theorem P.nil : P 0 [] 1 := ⟨by decide, rfl, by decide, by rw [ser_nil, qs_zero]; grind⟩
theorem P.zero {f : Ser Rat} {r : List Int} {d : Int} (h : P f r d) : f = 0 ↔ (r = [] ∧ d = 1) := by
  refine ⟨fun e => ?_, fun ⟨e, e'⟩ => ?_⟩
  · subst e; exact h.uniq P.nil
  · subst e e'; exact h.inj P.nil
def lowR (xs : List Int) (d : Int) : List Int := xs.map fun x => x.fdiv (part (gcdL xs) d)
def lowD (xs : List Int) (d : Int) : Int := d.fdiv (part (gcdL xs) d)
theorem part_dvd {n d : Int} : part n d ∣ n ∧ part n d ∣ d := by
  have h1 : ((Int.gcd n d : Nat) : Int) ∣ n := Int.gcd_dvd_left ..
  have h2 : ((Int.gcd n d : Nat) : Int) ∣ d := Int.gcd_dvd_right ..
  unfold part; split
  · exact ⟨h1, h2⟩
  · rw [show (0 : Int) - (Int.gcd n d : Int) = -(Int.gcd n d : Int) by omega]
    exact ⟨Int.neg_dvd.mpr h1, Int.neg_dvd.mpr h2⟩
theorem lowR_mul {xs : List Int} {d : Int} (hd : d ≠ 0) : xs = (lowR xs d).map fun x => part (gcdL xs) d * x := by
  unfold lowR
  rw [List.map_map]
  refine (List.map_id xs).symm.trans (List.map_congr_left fun x hx => ?_)
  have p0 := part_ne (n := (gcdL xs : Int)) hd
  obtain ⟨k, hk⟩ := Int.dvd_trans (part_dvd (n := (gcdL xs : Int)) (d := d)).1 (gcdL_dvd hx)
  show x = part (gcdL xs) d * x.fdiv (part (gcdL xs) d)
  generalize part (gcdL xs) d = p at *
  rw [hk, Int.mul_fdiv_cancel_left _ p0]
theorem lowD_mul {xs : List Int} {d : Int} (hd : d ≠ 0) : d = part (gcdL xs) d * lowD xs d := by
  unfold lowD
  have p0 := part_ne (n := (gcdL xs : Int)) hd
  obtain ⟨k, hk⟩ := (part_dvd (n := (gcdL xs : Int)) (d := d)).2
  generalize hp : part (gcdL xs) d = p at *
  rw [hk, Int.mul_fdiv_cancel_left _ p0]
theorem lowD_pos {xs : List Int} {d : Int} (hd : d ≠ 0) : 0 < lowD xs d := by
  have e := lowD_mul (xs := xs) hd
  have g0 : Int.gcd (gcdL xs) d ≠ 0 := fun e => hd (Int.gcd_eq_zero_iff.mp e).2
  have p : (0 < d → 0 < part (gcdL xs) d) ∧ (¬ 0 < d → part (gcdL xs) d < 0) := by
    unfold part; refine ⟨fun h => ?_, fun h => ?_⟩
    · rw [if_pos h]; omega
    · rw [if_neg h]; omega
  generalize part (gcdL xs) d = q at *
  generalize lowD xs d = l at *
  refine Classical.byContradiction fun nl => ?_
  by_cases h : 0 < d
  · have := Int.mul_nonneg (Int.le_of_lt (p.1 h)) (show 0 ≤ -l by omega)
    rw [Int.mul_neg] at this; omega
  · have := Int.mul_nonneg (show 0 ≤ -q by have := p.2 h; omega) (show 0 ≤ -l by omega)
    rw [Int.neg_mul_neg] at this; omega
theorem low_gcd {xs : List Int} {d : Int} (hd : d ≠ 0) : Int.gcd (gcdL (lowR xs d)) (lowD xs d) = 1 := by
  have g0 : Int.gcd (gcdL xs) d ≠ 0 := fun e => hd (Int.gcd_eq_zero_iff.mp e).2
  generalize hk : Int.gcd (gcdL (lowR xs d)) (lowD xs d) = k
  have k1 : ((k : Nat) : Int) ∣ (gcdL (lowR xs d) : Int) := hk ▸ Int.gcd_dvd_left ..
  have k2 : ((k : Nat) : Int) ∣ lowD xs d := hk ▸ Int.gcd_dvd_right ..
  have pn : (part (gcdL xs) d).natAbs = Int.gcd (gcdL xs) d := by unfold part; split <;> omega
  -- k times the part divides all of xs and d
  have h1 : (part (gcdL xs) d).natAbs * k ∣ gcdL xs := gcdL_great fun x hx => by
    rw [lowR_mul (xs := xs) hd] at hx
    obtain ⟨y, hy, rfl⟩ := List.mem_map.mp hx
    have := Int.dvd_trans k1 (gcdL_dvd hy)
    rw [Int.natCast_mul]
    refine Int.mul_dvd_mul ?_ this
    exact Int.natAbs_dvd.mpr (Int.dvd_refl _)
  have h2 : (((part (gcdL xs) d).natAbs * k : Nat) : Int) ∣ d := by
    have e := lowD_mul (xs := xs) hd
    generalize hpp : part (gcdL xs) d = p at *
    rw [e, Int.natCast_mul]
    exact Int.mul_dvd_mul (Int.natAbs_dvd.mpr (Int.dvd_refl _)) k2
  have h3 : (part (gcdL xs) d).natAbs * k ∣ Int.gcd (gcdL xs) d := Int.natCast_dvd_natCast.mp (Int.dvd_coe_gcd (Int.natCast_dvd_natCast.mpr h1) h2)
  rw [pn] at h3
  have h4 := Nat.le_of_dvd (by omega) h3
  have h5 : k ≠ 0 := fun e => by rw [e, Nat.mul_zero] at h3; exact g0 (Nat.eq_zero_of_zero_dvd h3)
  refine Classical.byContradiction fun n => ?_
  have : Int.gcd (gcdL xs) d * 2 ≤ Int.gcd (gcdL xs) d * k := Nat.mul_le_mul_left _ (by omega)
  omega
theorem strip_map_ne {g : Int → Int} {xs : List Int} (h : done xs) (hg : ∀ x ∈ xs, x ≠ 0 → g x ≠ 0) : done (xs.map g) := by
  unfold done at *
  induction xs using strip_ind with
  | h0 => rfl
  | h1 xs a _ =>
    rw [strip_snoc] at h
    by_cases e : a = 0
    · rw [if_pos e] at h
      have := congrArg List.length h
      have := strip_len xs
      rw [List.length_append, List.length_singleton] at *
      omega
    · rw [List.map_append, List.map_singleton, strip_snoc, if_neg (hg a (by simp) e)]
theorem lowR_done {xs : List Int} {d : Int} (hd : d ≠ 0) (h : done xs) : done (lowR xs d) := by
  refine strip_map_ne h fun x hx x0 e => x0 ?_
  have p0 := part_ne (n := (gcdL xs : Int)) hd
  obtain ⟨k, hk⟩ := Int.dvd_trans (part_dvd (n := (gcdL xs : Int)) (d := d)).1 (gcdL_dvd hx)
  generalize part (gcdL xs) d = p at *
  rw [hk, Int.mul_fdiv_cancel_left _ p0] at e
  rw [hk, e, Int.mul_zero]
theorem low_P {f : Ser Rat} {xs : List Int} {d : Int} (hd : d ≠ 0) (h : done xs) (e : Ser.C (d : Rat) * f = qs (ser xs)) : P f (lowR xs d) (lowD xs d) := by
  refine ⟨lowD_pos hd, lowR_done hd h, low_gcd hd, ?_⟩
  have p0 := cne (part_ne (n := (gcdL xs : Int)) hd)
  refine Cq_cancel p0 ?_
  have e1 : Ser.C (d : Rat) = Ser.C ((part (gcdL xs) d : Int) : Rat) * Ser.C ((lowD xs d : Int) : Rat) := by
    rw [← C_mul, ← Rat.intCast_mul, ← lowD_mul hd]
  have e2 : qs (ser xs) = Ser.C ((part (gcdL xs) d : Int) : Rat) * qs (ser (lowR xs d)) := by
    conv => lhs; rw [lowR_mul (xs := xs) hd]
    rw [ser_scale, qs_mul, qs_C]
  rw [← Lean.Grind.Semiring.mul_assoc, ← e1, e, e2]
theorem abs_part {n x : Int} {d : Int} (hd : d ≠ 0) (h : part n d ∣ x) : (x.fdiv (part n d)).natAbs ≤ x.natAbs := by
  have p0 := part_ne (n := n) hd
  obtain ⟨k, hk⟩ := h
  generalize part n d = p at *
  rw [hk, Int.mul_fdiv_cancel_left _ p0, Int.natAbs_mul]
  exact Nat.le_mul_of_pos_left _ (by omega)
theorem lowR_bd {xs : List Int} {d : Int} {a : Nat} (hd : d ≠ 0) (h : ∀ x ∈ xs, bd a x) : ∀ x ∈ lowR xs d, bd a x := fun y hy => by
  obtain ⟨x, hx, rfl⟩ := List.mem_map.mp hy
  have := abs_part hd (Int.dvd_trans (part_dvd (n := (gcdL xs : Int)) (d := d)).1 (gcdL_dvd hx))
  have := h x hx
  unfold bd at *; omega
theorem lowD_bd {xs : List Int} {d : Int} {a : Nat} (hd : d ≠ 0) (h : bd a d) : bd a (lowD xs d) := by
  have := abs_part hd (part_dvd (n := (gcdL xs : Int)) (d := d)).2
  unfold lowD bd at *; omega
theorem lowR_len {xs : List Int} {d : Int} : (lowR xs d).length = xs.length := by unfold lowR; rw [List.length_map]
structure PB (n a : Nat) (r : List Int) (d : Int) : Prop where
  ln : r.length ≤ n
  bd : ∀ x ∈ r, RR.bd a x
  dd : RR.bd a d
theorem P.PB {f : Ser Rat} {r xs : List Int} {d e : Int} {n a : Nat} (h : P f r d) (e0 : e ≠ 0) (eq : Ser.C (e : Rat) * f = qs (ser xs)) (ln : xs.length ≤ n) (b1 : ∀ x ∈ xs, RR.bd a x) (b2 : RR.bd a e) : RR.PB n a r d := by
  have dn := strip_done xs
  have h' := low_P e0 dn (by rw [ser_strip]; exact eq)
  obtain ⟨rfl, rfl⟩ := h.uniq h'
  exact ⟨by rw [lowR_len]; exact Nat.le_trans (strip_len xs) ln, lowR_bd e0 fun x hx => b1 x (strip_mem hx), lowD_bd e0 b2⟩
theorem PB.mono {n a n' a' : Nat} {r : List Int} {d : Int} (h : PB n a r d) (hn : n ≤ n') (ha : a ≤ a') : PB n' a' r d := ⟨Nat.le_trans h.ln hn, fun x hx => bd_mono (h.bd x hx) ha, bd_mono h.dd ha⟩
abbrev pd (r : List Int) (d : Int) : D := .tup [.tup (zz r), .int d]
end RR
namespace RR
abbrev Row := Ser Rat
abbrev rtl (l : List Row) : List Row := l.map Ser.tl
def altD (T : List Row → Rat) (suf : List Row) : List Row → List Row → Rat
  | _, [] => 0
  | pre, x :: xs => x.co 0 * T (rtl (pre ++ (xs ++ suf))) - altD T suf (pre ++ [x]) xs
def Dt : Nat → List Row → Rat
  | 0, _ => 1
  | n + 1, l => altD (Dt n) [] [] l
def sg (n : Nat) : Rat := if n % 2 = 0 then 1 else -1
theorem sg0 : sg 0 = 1 := rfl
theorem sg_s (n : Nat) : sg (n + 1) = - sg n := by
  unfold sg
  by_cases h : n % 2 = 0
  · rw [if_neg (by omega), if_pos h]
  · rw [if_pos (by omega), if_neg h]; grind
theorem sg_add (m n : Nat) : sg (m + n) = sg m * sg n := by
  induction n with
  | zero => rw [Nat.add_zero, sg0]; grind
  | succ n ih => rw [← Nat.add_assoc, sg_s, sg_s, ih]; grind
theorem alt_app (T : List Row → Rat) (suf : List Row) : ∀ (xs pre ys : List Row), altD T suf pre (xs ++ ys) = altD T (ys ++ suf) pre xs + sg xs.length * altD T suf (pre ++ xs) ys
  | [], pre, ys => by
    rw [List.nil_append, List.append_nil]
    show _ = 0 + sg 0 * _
    rw [sg0]; grind
  | x :: xs, pre, ys => by
    show x.co 0 * T (rtl (pre ++ ((xs ++ ys) ++ suf))) - altD T suf (pre ++ [x]) (xs ++ ys) = x.co 0 * T (rtl (pre ++ (xs ++ (ys ++ suf)))) - altD T (ys ++ suf) (pre ++ [x]) xs + sg (xs.length + 1) * _
    rw [alt_app T suf xs, sg_s, List.append_assoc xs, List.append_assoc pre [x] xs]
    show _ - (_ + sg xs.length * altD T suf (pre ++ x :: xs) ys) = _
    grind
structure Mul (n : Nat) (T : List Row → Rat) : Prop where
  swap : ∀ p a b s, (p ++ a :: b :: s).length = n → T (p ++ a :: b :: s) = - T (p ++ b :: a :: s)
  lin : ∀ p a b c s, (p ++ a :: s).length = n → T (p ++ (a + Ser.C c * b) :: s) = T (p ++ a :: s) + c * T (p ++ b :: s)
theorem alt_neg {T : List Row → Rat} {suf suf' : List Row} : ∀ (xs pre pre' : List Row), (∀ u x v, xs = u ++ x :: v → T (rtl (pre ++ u ++ (v ++ suf))) = - T (rtl (pre' ++ u ++ (v ++ suf')))) → altD T suf pre xs = - altD T suf' pre' xs
  | [], _, _, _ => by show (0 : Rat) = - 0; grind
  | x :: xs, pre, pre', h => by
    have h0 := h [] x xs rfl
    rw [List.append_nil, List.append_nil] at h0
    have ih := alt_neg (T := T) (suf := suf) (suf' := suf') xs (pre ++ [x]) (pre' ++ [x]) fun u y v e => by
      have := h (x :: u) y v (by rw [e]; rfl)
      simp only [List.append_assoc, List.cons_append, List.nil_append] at this ⊢
      exact this
    show x.co 0 * T _ - altD T suf (pre ++ [x]) xs = - (x.co 0 * T _ - altD T suf' (pre' ++ [x]) xs)
    rw [h0, ih]; grind
theorem alt_lin {T : List Row → Rat} {c : Rat} {s1 s2 s3 : List Row} : ∀ (xs p1 p2 p3 : List Row), (∀ u x v, xs = u ++ x :: v → T (rtl (p1 ++ u ++ (v ++ s1))) = T (rtl (p2 ++ u ++ (v ++ s2))) + c * T (rtl (p3 ++ u ++ (v ++ s3)))) → altD T s1 p1 xs = altD T s2 p2 xs + c * altD T s3 p3 xs
  | [], _, _, _, _ => by show (0 : Rat) = 0 + c * 0; grind
  | x :: xs, p1, p2, p3, h => by
    have h0 := h [] x xs rfl
    rw [List.append_nil, List.append_nil, List.append_nil] at h0
    have ih := alt_lin (T := T) (c := c) (s1 := s1) (s2 := s2) (s3 := s3) xs (p1 ++ [x]) (p2 ++ [x]) (p3 ++ [x]) fun u y v e => by
      have := h (x :: u) y v (by rw [e]; rfl)
      simp only [List.append_assoc, List.cons_append, List.nil_append] at this ⊢
      exact this
    show x.co 0 * T _ - altD T s1 (p1 ++ [x]) xs = (x.co 0 * T _ - altD T s2 (p2 ++ [x]) xs) + c * (x.co 0 * T _ - altD T s3 (p3 ++ [x]) xs)
    rw [h0, ih]; grind
theorem tl_lin (a b : Row) (c : Rat) : (a + Ser.C c * b).tl = a.tl + Ser.C c * b.tl := Ser.ext fun k => by
  show (a + Ser.C c * b).co (k + 1) = _
  rw [Ser.add_co, Ser.add_co, Ser.C_mul_co, Ser.C_mul_co]; rfl
theorem rtl_app (a b : List Row) : rtl (a ++ b) = rtl a ++ rtl b := List.map_append
theorem Mul.step {n : Nat} {T : List Row → Rat} (h : Mul n T) : Mul (n + 1) (altD T [] []) where
  swap := fun p a b s l => by
    have l : p.length + s.length + 1 = n := by simp at l; omega
    rw [alt_app, alt_app]
    have e1 : altD T ((a :: b :: s) ++ []) [] p = - altD T ((b :: a :: s) ++ []) [] p := alt_neg p [] [] fun u x v e => by
      have := h.swap (rtl (u ++ v)) a.tl b.tl (rtl s) (by rw [e] at l; simp at l ⊢; omega)
      simp only [rtl_app, List.append_nil, List.nil_append, List.append_assoc, List.map_cons] at this ⊢
      exact this
    have e2 : altD T [] ([] ++ p) (a :: b :: s) = - altD T [] ([] ++ p) (b :: a :: s) := by
      have e3 : altD T [] (([] ++ p) ++ [a] ++ [b]) s = - altD T [] (([] ++ p) ++ [b] ++ [a]) s := alt_neg s _ _ fun u x v e => by
        have := h.swap (rtl p) a.tl b.tl (rtl (u ++ v)) (by rw [e] at l; simp at l ⊢; omega)
        simp only [rtl_app, List.append_nil, List.nil_append, List.append_assoc, List.map_cons, List.cons_append, List.map_append] at this ⊢
        exact this
      show a.co 0 * T (rtl (([] ++ p) ++ ((b :: s) ++ []))) - (b.co 0 * T (rtl ((([] ++ p) ++ [a]) ++ (s ++ []))) - altD T [] (([] ++ p) ++ [a] ++ [b]) s) = - (b.co 0 * T (rtl (([] ++ p) ++ ((a :: s) ++ []))) - (a.co 0 * T (rtl ((([] ++ p) ++ [b]) ++ (s ++ []))) - altD T [] (([] ++ p) ++ [b] ++ [a]) s))
      rw [e3]
      simp only [List.append_nil, List.nil_append, List.append_assoc, List.singleton_append]
      grind
    rw [e1, e2]; grind
  lin := fun p a b c s l => by
    have l : p.length + s.length = n := by simp at l; omega
    rw [alt_app, alt_app, alt_app]
    have e1 : altD T (((a + Ser.C c * b) :: s) ++ []) [] p = altD T ((a :: s) ++ []) [] p + c * altD T ((b :: s) ++ []) [] p := alt_lin p [] [] [] fun u x v e => by
      have := h.lin (rtl (u ++ v)) a.tl b.tl c (rtl s) (by rw [e] at l; simp at l ⊢; omega)
      simp only [rtl_app, List.append_nil, List.nil_append, List.append_assoc, List.map_cons, tl_lin] at this ⊢
      exact this
    have e2 : altD T [] ([] ++ p) ((a + Ser.C c * b) :: s) = altD T [] ([] ++ p) (a :: s) + c * altD T [] ([] ++ p) (b :: s) := by
      have e3 : altD T [] (([] ++ p) ++ [a + Ser.C c * b]) s = altD T [] (([] ++ p) ++ [a]) s + c * altD T [] (([] ++ p) ++ [b]) s := alt_lin s _ _ _ fun u x v e => by
        have := h.lin (rtl p) a.tl b.tl c (rtl (u ++ v)) (by rw [e] at l; simp at l ⊢; omega)
        simp only [rtl_app, List.append_nil, List.nil_append, List.append_assoc, List.map_cons, List.cons_append, List.map_append, tl_lin] at this ⊢
        exact this
      show (a + Ser.C c * b).co 0 * T _ - altD T [] (([] ++ p) ++ [a + Ser.C c * b]) s = (a.co 0 * T _ - altD T [] (([] ++ p) ++ [a]) s) + c * (b.co 0 * T _ - altD T [] (([] ++ p) ++ [b]) s)
      rw [e3, Ser.add_co, Ser.C_mul_co]; grind
    rw [e1, e2]; grind
theorem Dt_mul : ∀ n, Mul n (Dt n)
  | 0 => ⟨fun p a b s l => by simp at l, fun p a b c s l => by simp at l⟩
  | n + 1 => (Dt_mul n).step
section
variable {n : Nat} {T : List Row → Rat} (h : Mul n T)
include h
theorem Mul.twice_adj {p s : List Row} {a : Row} (l : (p ++ a :: a :: s).length = n) : T (p ++ a :: a :: s) = 0 := by
  have := h.swap p a a s l
  grind
theorem Mul.twice : ∀ {m p s : List Row} {a : Row}, (p ++ a :: (m ++ a :: s)).length = n → T (p ++ a :: (m ++ a :: s)) = 0
  | [], p, s, a, l => h.twice_adj l
  | x :: m, p, s, a, l => by
    have e := h.swap p a x (m ++ a :: s) l
    have ih := Mul.twice (m := m) (p := p ++ [x]) (s := s) (a := a) (by simp at l ⊢; omega)
    rw [List.append_assoc] at ih
    show T (p ++ a :: x :: (m ++ a :: s)) = 0
    rw [e]
    have ih : T (p ++ x :: a :: (m ++ a :: s)) = 0 := ih
    rw [ih]; grind
theorem Mul.more {p s : List Row} {a b : Row} {c : Rat} (hb : b ∈ s) (l : (p ++ a :: s).length = n) : T (p ++ (a + Ser.C c * b) :: s) = T (p ++ a :: s) := by
  rw [h.lin p a b c s l]
  obtain ⟨m, s', rfl⟩ := List.append_of_mem hb
  rw [h.twice (by simpa using l)]; grind
theorem Mul.across : ∀ {m p s : List Row} {a : Row}, (p ++ a :: (m ++ s)).length = n → T (p ++ a :: (m ++ s)) = sg m.length * T (p ++ (m ++ a :: s))
  | [], p, s, a, l => by show T (p ++ a :: s) = sg 0 * T (p ++ a :: s); rw [sg0]; grind
  | x :: m, p, s, a, l => by
    have e := h.swap p a x (m ++ s) l
    have ih := Mul.across (m := m) (p := p ++ [x]) (s := s) (a := a) (by simp at l ⊢; omega)
    rw [List.append_assoc, List.append_assoc] at ih
    have ih : T (p ++ x :: a :: (m ++ s)) = sg m.length * T (p ++ x :: (m ++ a :: s)) := ih
    show T (p ++ a :: x :: (m ++ s)) = sg (m.length + 1) * T (p ++ x :: (m ++ a :: s))
    rw [e, ih, sg_s]; grind
theorem Mul.turn : ∀ {as bs : List Row}, (as ++ bs).length = n → T (as ++ bs) = sg (as.length * bs.length) * T (bs ++ as) := by
  have gen : ∀ (as p bs s : List Row), (p ++ (as ++ (bs ++ s))).length = n → T (p ++ (as ++ (bs ++ s))) = sg (as.length * bs.length) * T (p ++ (bs ++ (as ++ s))) := by
    intro as
    induction as with
    | nil => intro p bs s l; rw [List.length_nil, Nat.zero_mul, sg0]; show T (p ++ (bs ++ s)) = 1 * T (p ++ (bs ++ s)); grind
    | cons a as ih =>
      intro p bs s l
      have e1 := ih (p ++ [a]) bs s (by simp at l ⊢; omega)
      rw [List.append_assoc, List.append_assoc] at e1
      have e1 : T (p ++ a :: (as ++ (bs ++ s))) = sg (as.length * bs.length) * T (p ++ a :: (bs ++ (as ++ s))) := e1
      have e2 := h.across (m := bs) (p := p) (s := as ++ s) (a := a) (by simp at l ⊢; omega)
      show T (p ++ a :: (as ++ (bs ++ s))) = sg ((as.length + 1) * bs.length) * T (p ++ (bs ++ (a :: (as ++ s))))
      rw [e1, e2, Nat.add_mul, Nat.one_mul, sg_add]; grind
  intro as bs l
  have := gen as [] bs [] (by simpa using l)
  simpa using this
end
inductive Sp (s : List Row) : Row → Prop
  | zero : Sp s 0
  | add {y b : Row} (c : Rat) : Sp s y → b ∈ s → Sp s (y + Ser.C c * b)
theorem alt_zero {T : List Row → Rat} {suf : List Row} : ∀ (xs pre : List Row), (∀ x ∈ xs, x.co 0 = 0) → altD T suf pre xs = 0
  | [], _, _ => rfl
  | x :: xs, pre, h => by
    show x.co 0 * T _ - altD T suf (pre ++ [x]) xs = 0
    rw [h x (List.mem_cons_self ..), alt_zero xs _ fun y hy => h y (List.mem_cons_of_mem _ hy)]; grind
theorem Dt_first {n : Nat} {x : Row} {s : List Row} (h : ∀ y ∈ s, y.co 0 = 0) : Dt (n + 1) (x :: s) = x.co 0 * Dt n (rtl s) := by
  show x.co 0 * Dt n (rtl ([] ++ (s ++ []))) - altD (Dt n) [] ([] ++ [x]) s = _
  rw [alt_zero s _ h, List.nil_append, List.append_nil]; grind
def isI (x : Rat) : Prop := ∃ i : Int, x = (i : Rat)
theorem isI.mul {x y : Rat} : isI x → isI y → isI (x * y) := fun ⟨i, a⟩ ⟨j, b⟩ => ⟨i * j, by rw [a, b, Rat.intCast_mul]⟩
theorem isI.sub {x y : Rat} : isI x → isI y → isI (x - y) := fun ⟨i, a⟩ ⟨j, b⟩ => ⟨i - j, by rw [a, b, Rat.intCast_sub]⟩
def RowI (x : Row) : Prop := ∀ k, isI (x.co k)
theorem alt_int {T : List Row → Rat} {suf : List Row} (hs : ∀ x ∈ suf, RowI x) (hT : ∀ l, (∀ x ∈ l, RowI x) → isI (T l)) : ∀ (xs pre : List Row), (∀ x ∈ pre, RowI x) → (∀ x ∈ xs, RowI x) → isI (altD T suf pre xs)
  | [], _, _, _ => ⟨0, rfl⟩
  | x :: xs, pre, hp, h => by
    have hx := h x (List.mem_cons_self ..)
    have hxs : ∀ y ∈ xs, RowI y := fun y hy => h y (List.mem_cons_of_mem _ hy)
    refine ((hx 0).mul (hT _ fun y hy => ?_)).sub (alt_int hs hT xs _ (fun y hy => ?_) hxs)
    · obtain ⟨z, hz, rfl⟩ := List.mem_map.mp hy
      intro k
      rcases List.mem_append.mp hz with h1 | h1
      · exact hp z h1 (k + 1)
      · rcases List.mem_append.mp h1 with h2 | h2
        · exact hxs z h2 (k + 1)
        · exact hs z h2 (k + 1)
    · rcases List.mem_append.mp hy with h1 | h1
      · exact hp y h1
      · rw [List.mem_singleton.mp h1]; exact hx
theorem Dt_int : ∀ (n : Nat) (l : List Row), (∀ x ∈ l, RowI x) → isI (Dt n l)
  | 0, _, _ => ⟨1, rfl⟩
  | n + 1, l, h => alt_int (suf := []) (fun x hx => absurd hx List.not_mem_nil) (Dt_int n) l [] (fun x hx => absurd hx List.not_mem_nil) h
end RR
namespace RR
def rv (m : Nat) (f : Row) : Row := ⟨fun k => if k ≤ m then f.co (m - k) else 0⟩
theorem rv_co (m : Nat) (f : Row) (k : Nat) : (rv m f).co k = if k ≤ m then f.co (m - k) else 0 := rfl
def Syl (f : Row) (m : Nat) (g : Row) (n : Nat) : List Row := (List.range n).map (fun k => xp k * rv m f) ++ (List.range m).map (fun k => xp k * rv n g)
def Rs (f : Row) (m : Nat) (g : Row) (n : Nat) : Rat := Dt (n + m) (Syl f m g n)
theorem syl_len (f : Row) (m : Nat) (g : Row) (n : Nat) : (Syl f m g n).length = n + m := by unfold Syl; simp
end RR
namespace RR
inductive Agr (n : Nat) : List Row → List Row → Prop
  | nil : Agr n [] []
  | cons {x y : Row} {xs ys : List Row} : (∀ k, k < n → x.co k = y.co k) → Agr n xs ys → Agr n (x :: xs) (y :: ys)
theorem Agr.refl {n : Nat} : ∀ xs : List Row, Agr n xs xs
  | [] => .nil
  | _ :: xs => .cons (fun _ _ => rfl) (Agr.refl xs)
theorem Agr.app {n : Nat} {xs ys us vs : List Row} (h : Agr n xs ys) (h' : Agr n us vs) : Agr n (xs ++ us) (ys ++ vs) := by
  induction h with
  | nil => exact h'
  | cons a _ ih => exact .cons a ih
theorem Agr.tl {n : Nat} {xs ys : List Row} (h : Agr (n + 1) xs ys) : Agr n (rtl xs) (rtl ys) := by
  induction h with
  | nil => exact .nil
  | cons a _ ih => exact .cons (fun k hk => a (k + 1) (by omega)) ih
theorem Agr.map {n : Nat} {φ : Row → Row} : ∀ {xs : List Row}, (∀ x ∈ xs, ∀ k, k < n → (φ x).co k = x.co k) → Agr n (xs.map φ) xs
  | [], _ => .nil
  | x :: xs, h => .cons (h x (List.mem_cons_self ..)) (Agr.map fun y hy => h y (List.mem_cons_of_mem _ hy))
theorem alt_agr {n : Nat} {T : List Row → Rat} (hT : ∀ {us vs}, Agr n us vs → T us = T vs) {s s' : List Row} (hs : Agr (n + 1) s s') {xs ys : List Row} (h : Agr (n + 1) xs ys) : ∀ {p p' : List Row}, Agr (n + 1) p p' → altD T s p xs = altD T s' p' ys := by
  induction h with
  | nil => intro p p' _; rfl
  | @cons x y xs ys a r ih =>
    intro p p' hp
    show x.co 0 * T (rtl (p ++ (xs ++ s))) - altD T s (p ++ [x]) xs = y.co 0 * T (rtl (p' ++ (ys ++ s'))) - altD T s' (p' ++ [y]) ys
    rw [a 0 (by omega), hT (hp.app (r.app hs)).tl, ih (hp.app (.cons a .nil))]
theorem Dt_agr : ∀ {n : Nat} {xs ys : List Row}, Agr n xs ys → Dt n xs = Dt n ys
  | 0, _, _, _ => rfl
  | n + 1, _, _, h => alt_agr (fun h => Dt_agr h) .nil h .nil
theorem Dt_last : ∀ (n : Nat) (s : List Row) (x : Row), s.length = n → (∀ k, k < n → x.co k = 0) → Dt (n + 1) (s ++ [x]) = x.co n * Dt n s
  | 0, s, x, l, h => by
    have : s = [] := List.length_eq_zero_iff.mp l
    subst this
    show x.co 0 * 1 - 0 = x.co 0 * 1
    grind
  | n + 1, s, x, l, h => by
    show altD (Dt (n + 1)) [] [] (s ++ [x]) = x.co (n + 1) * altD (Dt n) [] [] s
    rw [alt_app]
    have z : altD (Dt (n + 1)) [] ([] ++ s) [x] = 0 := alt_zero [x] _ fun y hy => by rw [List.mem_singleton.mp hy]; exact h 0 (by omega)
    rw [z]
    -- the sum over the rows of s, each left out
    have gen : ∀ (xs p : List Row), p.length + xs.length = n + 1 → altD (Dt (n + 1)) ([x] ++ []) p xs = x.co (n + 1) * altD (Dt n) [] p xs := by
      intro xs
      induction xs with
      | nil => intro p _; show (0 : Rat) = _ * 0; grind
      | cons y xs ih =>
        intro p hl
        have e := Dt_last n (rtl (p ++ xs)) x.tl (by simp at hl ⊢; omega) fun k hk => h (k + 1) (by omega)
        have i := ih (p ++ [y]) (by simp at hl ⊢; omega)
        show y.co 0 * Dt (n + 1) (rtl (p ++ (xs ++ ([x] ++ [])))) - altD (Dt (n + 1)) ([x] ++ []) (p ++ [y]) xs = x.co (n + 1) * (y.co 0 * Dt n (rtl (p ++ (xs ++ []))) - altD (Dt n) [] (p ++ [y]) xs)
        rw [i, show rtl (p ++ (xs ++ ([x] ++ []))) = rtl (p ++ xs) ++ [x.tl] by simp, e, show p ++ (xs ++ []) = p ++ xs by simp]
        show y.co 0 * (x.co (n + 1) * _) - _ = _
        grind
    rw [gen s [] (by simpa using l)]
    grind
theorem Dt_low : ∀ (n k : Nat) (s t : List Row), s.length = k → s.length + t.length = n → k < n → (∀ x ∈ t, ∀ j, j ≤ k → x.co j = 0) → Dt n (s ++ t) = 0
  | 0, k, s, t, _, _, h, _ => absurd h (by omega)
  | n + 1, k, s, t, l, ln, hk, ht => by
    show altD (Dt n) [] [] (s ++ t) = 0
    rw [alt_app, alt_zero t _ fun y hy => ht y hy 0 (by omega)]
    have gen : ∀ (xs p : List Row), p.length + xs.length = k → altD (Dt n) (t ++ []) p xs = 0 := by
      intro xs
      induction xs with
      | nil => intro p _; rfl
      | cons y xs ih =>
        intro p hl
        have e := Dt_low n (k - 1) (rtl (p ++ xs)) (rtl t) (by simp at hl ⊢; omega) (by simp at hl ⊢; omega) (by simp at hl; omega) fun x hx j hj => by
          obtain ⟨z, hz, rfl⟩ := List.mem_map.mp hx
          exact ht z hz (j + 1) (by simp at hl; omega)
        show y.co 0 * Dt n (rtl (p ++ (xs ++ (t ++ [])))) - altD (Dt n) (t ++ []) (p ++ [y]) xs = 0
        rw [ih (p ++ [y]) (by simp at hl ⊢; omega), show rtl (p ++ (xs ++ (t ++ []))) = rtl (p ++ xs) ++ rtl t by simp, e]; grind
    rw [gen s [] (by simpa using l)]; grind
theorem Mul.mem {n : Nat} {T : List Row → Rat} (h : Mul n T) {p s : List Row} {a b : Row} {c : Rat} (hb : b ∈ p ++ s) (l : (p ++ a :: s).length = n) : T (p ++ (a + Ser.C c * b) :: s) = T (p ++ a :: s) := by
  rw [h.lin p a b c s l]
  have z : T (p ++ b :: s) = 0 := by
    rcases List.mem_append.mp hb with hb | hb
    · obtain ⟨p1, p2, rfl⟩ := List.append_of_mem hb
      have := h.twice (m := p2) (p := p1) (s := s) (a := b) (by simp at l ⊢; omega)
      rw [List.append_assoc]; exact this
    · obtain ⟨m, s', rfl⟩ := List.append_of_mem hb
      exact h.twice (by simpa using l)
  rw [z]; grind
theorem Mul.spans {n : Nat} {T : List Row → Rat} (h : Mul n T) {p s : List Row} {a y : Row} (hy : Sp (p ++ s) y) (l : (p ++ a :: s).length = n) : T (p ++ (a + y) :: s) = T (p ++ a :: s) := by
  induction hy with
  | zero => rw [show a + 0 = a by grind]
  | @add y b c _ hb ih =>
    have := h.mem (p := p) (s := s) (a := a + y) (c := c) hb (by simpa using l)
    rw [show a + (y + Ser.C c * b) = a + y + Ser.C c * b by grind, this, ih]
theorem Sp.mono {s t : List Row} {y : Row} (h : Sp s y) (i : ∀ x ∈ s, x ∈ t) : Sp t y := by
  induction h with
  | zero => exact .zero
  | add c _ hb ih => exact .add c ih (i _ hb)
theorem Sp.sum {s : List Row} {x y : Row} (h : Sp s x) (h' : Sp s y) : Sp s (x + y) := by
  induction h' with
  | zero => rw [show x + 0 = x by grind]; exact h
  | @add y b c _ hb ih => rw [show x + (y + Ser.C c * b) = x + y + Ser.C c * b by grind]; exact .add c ih hb
theorem C_C (c d : Rat) : (Ser.C c : Row) * Ser.C d = Ser.C (c * d) := Ser.ext fun k => by
  rw [Ser.C_mul_co, Ser.C_co, Ser.C_co]
  split <;> grind
theorem Sp.scale {s : List Row} {x : Row} (c : Rat) (h : Sp s x) : Sp s (Ser.C c * x) := by
  induction h with
  | zero => rw [show Ser.C c * (0 : Row) = 0 by grind]; exact .zero
  | @add y b d _ hb ih => rw [show Ser.C c * (y + Ser.C d * b) = Ser.C c * y + (Ser.C c * Ser.C d) * b by grind, C_C]; exact .add _ ih hb
theorem Dt_spans {n : Nat} {s : List Row} : ∀ (t : List (Row × Row)) (u : List Row), (∀ x ∈ t, Sp s x.2) → (s ++ (u ++ t.map (·.1))).length = n → Dt n (s ++ (u ++ t.map fun x => x.1 + x.2)) = Dt n (s ++ (u ++ t.map (·.1)))
  | [], _, _, _ => rfl
  | x :: t, u, h, l => by
    have ih := Dt_spans t (u ++ [x.1 + x.2]) (fun y hy => h y (List.mem_cons_of_mem _ hy)) (by simp at l ⊢; omega)
    rw [List.append_assoc, List.append_assoc] at ih
    have e := (Dt_mul n).spans (p := s ++ u) (s := t.map (·.1)) (a := x.1) (y := x.2) ((h x (List.mem_cons_self ..)).mono fun z hz => by simp [hz]) (by simp at l ⊢; omega)
    rw [List.append_assoc, List.append_assoc] at e
    show Dt n (s ++ (u ++ (x.1 + x.2) :: t.map fun x => x.1 + x.2)) = Dt n (s ++ (u ++ x.1 :: t.map (·.1)))
    rw [← e]
    exact ih
end RR
namespace RR
def IB (B : Nat) (x : Row) : Prop := ∀ k, ∃ i : Int, x.co k = (i : Rat) ∧ i.natAbs ≤ B
theorem alt_ib {N B τ : Nat} {T : List Row → Rat} (hT : ∀ l, l.length ≤ N → (∀ x ∈ l, IB B x) → ∃ i : Int, T l = (i : Rat) ∧ i.natAbs ≤ τ) (s : List Row) (hs : ∀ x ∈ s, IB B x) : ∀ (xs p : List Row), (∀ x ∈ p, IB B x) → (∀ x ∈ xs, IB B x) → p.length + xs.length + s.length ≤ N →
    ∃ i : Int, altD T s p xs = (i : Rat) ∧ i.natAbs ≤ xs.length * (B * τ)
  | [], _, _, _, _ => ⟨0, rfl, by simp⟩
  | x :: xs, p, hp, hx, l => by
    have h1 := hx x (List.mem_cons_self ..)
    have h2 : ∀ y ∈ xs, IB B y := fun y hy => hx y (List.mem_cons_of_mem _ hy)
    obtain ⟨a, ea, la⟩ := h1 0
    obtain ⟨b, eb, lb⟩ := hT (rtl (p ++ (xs ++ s))) (by simp at l ⊢; omega) fun y hy => by
      obtain ⟨z, hz, rfl⟩ := List.mem_map.mp hy
      have : IB B z := by
        rcases List.mem_append.mp hz with h | h
        · exact hp z h
        · rcases List.mem_append.mp h with h | h
          · exact h2 z h
          · exact hs z h
      exact fun k => this (k + 1)
    obtain ⟨c, ec, lc⟩ := alt_ib hT s hs xs (p ++ [x]) (fun y hy => by
      rcases List.mem_append.mp hy with h | h
      · exact hp y h
      · rw [List.mem_singleton.mp h]; exact h1) h2 (by simp at l ⊢; omega)
    refine ⟨a * b - c, ?_, ?_⟩
    · show x.co 0 * T (rtl (p ++ (xs ++ s))) - altD T s (p ++ [x]) xs = _
      rw [ea, eb, ec, Rat.intCast_sub, Rat.intCast_mul]
    · have h3 : (a * b).natAbs ≤ B * τ := by rw [Int.natAbs_mul]; exact Nat.mul_le_mul la lb
      have h4 : (a * b - c).natAbs ≤ (a * b).natAbs + c.natAbs := by omega
      rw [List.length_cons, Nat.add_mul, Nat.one_mul]
      omega
theorem Dt_ib {N B : Nat} : ∀ (n : Nat) (l : List Row), l.length ≤ N → (∀ x ∈ l, IB B x) → ∃ i : Int, Dt n l = (i : Rat) ∧ i.natAbs ≤ (N * B) ^ n
  | 0, _, _, _ => ⟨1, rfl, by simp⟩
  | n + 1, l, hl, h => by
    obtain ⟨i, ei, li⟩ := alt_ib (fun l a b => Dt_ib (N := N) n l a b) [] (fun x hx => absurd hx List.not_mem_nil) l [] (fun x hx => absurd hx List.not_mem_nil) h (by simpa using hl)
    refine ⟨i, ei, Nat.le_trans li ?_⟩
    rw [Nat.pow_succ, Nat.mul_comm ((N * B) ^ n), Nat.mul_assoc]
    exact Nat.mul_le_mul_right _ hl
def sel (k j : Nat) (x : Row) : Row := ⟨fun m => if m < k then x.co m else if m = k then x.co j else 0⟩
theorem sel_co (k j : Nat) (x : Row) (m : Nat) : (sel k j x).co m = if m < k then x.co m else if m = k then x.co j else 0 := rfl
theorem sel_add (k j : Nat) (x y : Row) : sel k j (x + y) = sel k j x + sel k j y := Ser.ext fun m => by
  rw [Ser.add_co, sel_co, sel_co, sel_co, Ser.add_co, Ser.add_co]
  split
  · rfl
  · split <;> grind
theorem sel_mul (k j : Nat) (c : Rat) (x : Row) : sel k j (Ser.C c * x) = Ser.C c * sel k j x := Ser.ext fun m => by
  rw [Ser.C_mul_co, sel_co, sel_co, Ser.C_mul_co, Ser.C_mul_co]
  split
  · rfl
  · split <;> grind
theorem sel_zero (k j : Nat) : sel k j 0 = 0 := Ser.ext fun m => by
  rw [sel_co]
  have z : ∀ m, (0 : Row).co m = 0 := fun m => by show (Ser.C (0 : Rat)).co m = 0; rw [Ser.C_co]; split <;> rfl
  rw [z, z]; split
  · rfl
  · split <;> rfl
theorem Sp.sel {s : List Row} {y : Row} (k j : Nat) (h : Sp s y) : Sp (s.map (sel k j)) (sel k j y) := by
  induction h with
  | zero => rw [sel_zero]; exact .zero
  | add c _ hb ih => rw [sel_add, sel_mul]; exact .add c ih (List.mem_map_of_mem hb)
theorem minor {k j : Nat} {s : List Row} {a y γ : Row} (l : s.length = k) (hy : Sp s y) (eγ : γ = a + y) (h0 : ∀ m, m < k → γ.co m = 0) : Dt (k + 1) (s.map (sel k j) ++ [sel k j a]) = γ.co j * Dt k s := by
  have e1 := (Dt_mul (k + 1)).spans (p := s.map (sel k j)) (s := []) (a := sel k j a) (y := sel k j y) (by simpa using hy.sel k j) (by simp [l])
  rw [← sel_add, ← eγ] at e1
  rw [← e1, Dt_last k _ _ (by simp [l]) (fun m hm => by rw [sel_co, if_pos hm]; exact h0 m hm), sel_co, if_neg (by omega), if_pos rfl]
  rw [Dt_agr (Agr.map fun x _ m hm => by rw [sel_co, if_pos hm])]
abbrev rws (p : List (List Int)) : List Row := p.map fun r => qs (ser r)
def ent (A : List (List Int)) (i j : Nat) : Int := (A.getD i []).getD j 0
theorem rw_co (r : List Int) (j : Nat) : (qs (ser r)).co j = ((r.getD j 0 : Int) : Rat) := rfl
structure Br (n k : Nat) (p A : List (List Int)) (b : Int) : Prop where
  lp : p.length = n
  kn : k ≤ n
  b0 : b ≠ 0
  det : (b : Rat) = Dt k (rws (p.take k))
  row : ∀ i, k ≤ i → i < n → ∃ γ y : Row, Sp (rws (p.take k)) y ∧ γ = qs (ser (p.getD i [])) + y ∧ (∀ m, m < k → γ.co m = 0) ∧ ∀ j, k ≤ j → j < n → (ent A i j : Rat) = b * γ.co j
theorem Br.start {n : Nat} {p : List (List Int)} (l : p.length = n) : Br n 0 p p 1 where
  lp := l
  kn := Nat.zero_le _
  b0 := by decide
  det := rfl
  row := fun i _ hi => ⟨_, 0, .zero, rfl, fun m hm => absurd hm (by omega), fun j _ _ => by
    rw [show qs (ser (p.getD i [])) + 0 = qs (ser (p.getD i [])) by grind, rw_co]
    show ((p.getD i []).getD j 0 : Rat) = ((1 : Int) : Rat) * _
    grind⟩
theorem take_s {α : Type} {d : α} {p : List α} {k : Nat} (hk : k < p.length) : p.take (k + 1) = p.take k ++ [p.getD k d] := by
  rw [List.take_succ, List.getElem?_eq_getElem hk]
  simp [List.getD_eq_getElem?_getD, List.getElem?_eq_getElem hk]
section
variable {n k : Nat} {p A : List (List Int)} {b : Int} (h : Br n k p A b)
include h
theorem Br.lt {i : Nat} : (rws (p.take k)).length = k := by
  have := h.lp
  have := h.kn
  simp; omega
theorem Br.minor {i j : Nat} (hi : k ≤ i) (ni : i < n) (hj : k ≤ j) (nj : j < n) : (ent A i j : Rat) = Dt (k + 1) ((rws (p.take k)).map (sel k j) ++ [sel k j (qs (ser (p.getD i [])))]) := by
  obtain ⟨γ, y, hy, eγ, z, e⟩ := h.row i hi ni
  rw [RR.minor (h.lt (i := i)) hy eγ z, e j hj nj, h.det]; grind
theorem Br.size {i j B : Nat} (hB : ∀ r ∈ p, ∀ x ∈ r, x.natAbs ≤ B) (hi : k ≤ i) (ni : i < n) (hj : k ≤ j) (nj : j < n) : (ent A i j).natAbs ≤ (n * B) ^ (k + 1) := by
  have m := h.minor hi ni hj nj
  have co : ∀ r ∈ p, ∀ m, (r.getD m 0).natAbs ≤ B := fun r hr m => by
    rw [List.getD_eq_getElem?_getD]
    cases e : r[m]? with
    | none => simp
    | some x => exact hB r hr x (List.mem_of_getElem? e)
  have ib : ∀ r ∈ p, IB B (sel k j (qs (ser r))) := fun r hr m => by
    rw [sel_co]
    split
    · exact ⟨_, rw_co r m, co r hr m⟩
    · split
      · exact ⟨_, rw_co r j, co r hr j⟩
      · exact ⟨0, rfl, by simp⟩
  have pi : p.getD i [] ∈ p := by
    have := h.lp
    rw [List.getD_eq_getElem?_getD, List.getElem?_eq_getElem (by omega)]
    exact List.getElem_mem _
  obtain ⟨z, ez, lz⟩ := Dt_ib (N := n) (B := B) (k + 1) ((rws (p.take k)).map (sel k j) ++ [sel k j (qs (ser (p.getD i [])))]) (by
    have := h.lt (i := i)
    simp at this ⊢; omega) fun x hx => by
      rcases List.mem_append.mp hx with hx | hx
      · obtain ⟨y, hy, rfl⟩ := List.mem_map.mp hx
        obtain ⟨r, hr, rfl⟩ := List.mem_map.mp hy
        exact ib r (List.mem_of_mem_take hr)
      · rw [List.mem_singleton.mp hx]; exact ib _ pi
  rw [ez] at m
  have m := Rat.intCast_inj.mp m
  rw [m]; exact lz
theorem Br.next (hk : k < n) (e : ent A k k ≠ 0) : (∀ i, k < i → i < n → ∃ γ y : Row, Sp (rws (p.take (k + 1))) y ∧ γ = qs (ser (p.getD i [])) + y ∧ (∀ m, m < k + 1 → γ.co m = 0) ∧ ∀ j, k < j → j < n → ∃ z : Int, ent A i j * ent A k k - ent A i k * ent A k j = b * z ∧ (z : Rat) = (ent A k k : Rat) * γ.co j) ∧ ((ent A k k : Int) : Rat) = Dt (k + 1) (rws (p.take (k + 1))) := by
  have lp := h.lp
  have tk : rws (p.take (k + 1)) = rws (p.take k) ++ [qs (ser (p.getD k []))] := by
    rw [take_s (d := []) (by omega)]; simp
  have b0 : (b : Rat) ≠ 0 := fun z => h.b0 (by exact_mod_cast (Rat.intCast_eq_zero_iff.mp z))
  have ekk : ((ent A k k : Int) : Rat) = Dt (k + 1) (rws (p.take (k + 1))) := by
    rw [h.minor (Nat.le_refl _) hk (Nat.le_refl _) hk, tk, ← show ((rws (p.take k)) ++ [qs (ser (p.getD k []))]).map (sel k k) = (rws (p.take k)).map (sel k k) ++ [sel k k (qs (ser (p.getD k [])))] by simp]
    refine Dt_agr (Agr.map fun x _ m hm => ?_)
    rw [sel_co]
    split
    · rfl
    · rw [if_pos (by omega), show m = k by omega]
  refine ⟨fun i hi ni => ?_, ekk⟩
  obtain ⟨γ, y, hy, eγ, z, ei⟩ := h.row i (by omega) ni
  obtain ⟨δ, u, hu, eδ, zd, ek⟩ := h.row k (Nat.le_refl _) hk
  have dk : δ.co k ≠ 0 := fun z => e (by
    have := ek k (Nat.le_refl _) hk
    rw [z] at this
    have : ((ent A k k : Int) : Rat) = 0 := by rw [this]; grind
    exact Rat.intCast_eq_zero_iff.mp this)
  let c : Rat := - (γ.co k / δ.co k)
  have hc : c * δ.co k = - γ.co k := by
    show - (γ.co k / δ.co k) * δ.co k = _
    rw [Rat.neg_mul, Rat.div_mul_cancel dk]
  let y' : Row := y + Ser.C c * (qs (ser (p.getD k [])) + u)
  let γ' : Row := γ + Ser.C c * δ
  have hy' : Sp (rws (p.take (k + 1))) y' := by
    rw [tk]
    refine Sp.sum (hy.mono fun x hx => List.mem_append_left _ hx) (Sp.scale c ?_)
    have h1 : Sp (rws (p.take k) ++ [qs (ser (p.getD k []))]) (0 + Ser.C 1 * qs (ser (p.getD k []))) := .add 1 .zero (by simp)
    have e1 : (0 : Row) + Ser.C 1 * qs (ser (p.getD k [])) = qs (ser (p.getD k [])) := Ser.ext fun m => by
      rw [Ser.add_co, Ser.C_mul_co]
      have z : (0 : Row).co m = 0 := by show (Ser.C (0 : Rat)).co m = 0; rw [Ser.C_co]; split <;> rfl
      rw [z]; grind
    rw [e1] at h1
    exact h1.sum (hu.mono fun x hx => List.mem_append_left _ hx)
  have eγ' : γ' = qs (ser (p.getD i [])) + y' := by
    show γ + Ser.C c * δ = qs (ser (p.getD i [])) + (y + Ser.C c * (qs (ser (p.getD k [])) + u))
    rw [eγ, eδ]; grind
  have z' : ∀ m, m < k + 1 → γ'.co m = 0 := fun m hm => by
    show (γ + Ser.C c * δ).co m = 0
    rw [Ser.add_co, Ser.C_mul_co]
    by_cases q : m < k
    · rw [z m q, zd m q]; grind
    · rw [show m = k by omega, hc]; grind
  refine ⟨γ', y', hy', eγ', z', fun j hj nj => ?_⟩
  have mi := RR.minor (k := k + 1) (j := j) (s := rws (p.take (k + 1))) (by simp; omega) hy' eγ' z'
  obtain ⟨w, hw⟩ := Dt_int (k + 2) ((rws (p.take (k + 1))).map (sel (k + 1) j) ++ [sel (k + 1) j (qs (ser (p.getD i [])))]) fun x hx => by
    have ri : ∀ r : List Int, RowI (sel (k + 1) j (qs (ser r))) := fun r m => by
      rw [sel_co]
      split
      · exact ⟨_, rw_co r m⟩
      · split
        · exact ⟨_, rw_co r j⟩
        · exact ⟨0, rfl⟩
    rcases List.mem_append.mp hx with hx | hx
    · obtain ⟨y, hy, rfl⟩ := List.mem_map.mp hx
      obtain ⟨r, hr, rfl⟩ := List.mem_map.mp hy
      exact ri r
    · rw [List.mem_singleton.mp hx]; exact ri _
  rw [hw, ← ekk] at mi
  have w1 : (w : Rat) = (ent A k k : Rat) * γ'.co j := by rw [mi]; grind
  refine ⟨w, ?_, w1⟩
  have e1 := ei j (by omega) nj
  have e2 := ek k (Nat.le_refl _) hk
  have e3 := ei k (by omega) hk
  have e4 := ek j (by omega) nj
  have e5 : γ'.co j = γ.co j + c * δ.co j := by show (γ + Ser.C c * δ).co j = _; rw [Ser.add_co, Ser.C_mul_co]
  have goal : ((ent A i j * ent A k k - ent A i k * ent A k j : Int) : Rat) = ((b * w : Int) : Rat) := by
    rw [Rat.intCast_sub, Rat.intCast_mul, Rat.intCast_mul, Rat.intCast_mul, w1, e5, e1, e2, e3, e4]
    generalize γ.co j = g1 at *
    generalize γ.co k = g2 at *
    generalize δ.co k = d1 at *
    generalize δ.co j = d2 at *
    have : (b : Rat) * (b * d1 * (g1 + c * d2)) = b * b * (d1 * g1) + b * b * ((c * d1) * d2) := by grind
    rw [this, hc]; grind
  exact Rat.intCast_inj.mp goal
theorem Br.step {A' : List (List Int)} (hk : k < n) (e : ent A k k ≠ 0) (hA : ∀ i, k < i → i < n → ∀ j, k < j → j < n → ent A' i j = (ent A i j * ent A k k - ent A i k * ent A k j).fdiv b) : Br n (k + 1) p A' (ent A k k) where
  lp := h.lp
  kn := hk
  b0 := e
  det := (h.next hk e).2
  row := fun i hi ni => by
    obtain ⟨γ, y, hy, eγ, z, q⟩ := (h.next hk e).1 i hi ni
    refine ⟨γ, y, hy, eγ, z, fun j hj nj => ?_⟩
    obtain ⟨w, ew, w1⟩ := q j hj nj
    rw [hA i hi ni j hj nj, ew, Int.mul_fdiv_cancel_left _ h.b0]
    exact w1
theorem Br.none (hk : k < n) (e : ∀ i, k ≤ i → i < n → ent A i k = 0) : Dt n (rws p) = 0 := by
  have lp := h.lp
  have b0 : (b : Rat) ≠ 0 := fun z => h.b0 (Rat.intCast_eq_zero_iff.mp z)
  have all : ∀ q : List (List Int), (∀ r ∈ q, ∃ γ y : Row, Sp (rws (p.take k)) y ∧ γ = qs (ser r) + y ∧ ∀ m, m ≤ k → γ.co m = 0) → ∃ t : List (Row × Row), t.map (·.1) = rws q ∧ (∀ x ∈ t, Sp (rws (p.take k)) x.2) ∧ ∀ x ∈ t.map (fun x => x.1 + x.2), ∀ m, m ≤ k → x.co m = 0 := by
    intro q
    induction q with
    | nil => intro _; exact ⟨[], rfl, fun x hx => absurd hx List.not_mem_nil, fun x hx => absurd hx List.not_mem_nil⟩
    | cons r q ih =>
      intro hq
      obtain ⟨γ, y, a1, a2, a3⟩ := hq r (List.mem_cons_self ..)
      obtain ⟨t, b1, b2, b3⟩ := ih fun s hs => hq s (List.mem_cons_of_mem _ hs)
      refine ⟨(qs (ser r), y) :: t, by rw [List.map_cons, b1]; rfl, fun x hx => ?_, fun x hx => ?_⟩
      · rcases List.mem_cons.mp hx with rfl | hx
        · exact a1
        · exact b2 x hx
      · rcases List.mem_cons.mp hx with rfl | hx
        · rw [a2] at a3; exact a3
        · exact b3 x hx
  obtain ⟨t, t1, t2, t3⟩ := all (p.drop k) fun r hr => by
    obtain ⟨i, hi, er⟩ := List.getElem_of_mem hr
    rw [List.getElem_drop] at er
    have ni : k + i < n := by simp at hi; omega
    obtain ⟨γ, y, a1, a2, a3, a4⟩ := h.row (k + i) (by omega) ni
    have eg : p.getD (k + i) [] = r := by rw [List.getD_eq_getElem?_getD, List.getElem?_eq_getElem (by omega), ← er]; rfl
    rw [eg] at a2
    refine ⟨γ, y, a1, a2, fun m hm => ?_⟩
    by_cases q : m < k
    · exact a3 m q
    · have := a4 k (Nat.le_refl _) hk
      rw [e (k + i) (by omega) ni] at this
      have this : (b : Rat) * γ.co k = 0 := this.symm
      rw [show m = k by omega]
      exact (Rat.mul_eq_zero.mp this).resolve_left b0
  have sp := Dt_spans (n := n) (s := rws (p.take k)) t [] t2 (by rw [t1]; simp; omega)
  rw [List.nil_append, List.nil_append, t1] at sp
  have ep : rws p = rws (p.take k) ++ rws (p.drop k) := by rw [← List.map_append, List.take_append_drop]
  rw [ep, ← sp]
  have lt : t.length = n - k := by
    have := congrArg List.length t1
    simp at this; omega
  exact Dt_low n k _ _ (h.lt (i := 0)) (by rw [h.lt (i := 0)]; simp; omega) hk t3
end
theorem Br.done {n : Nat} {p A : List (List Int)} {b : Int} (h : Br n n p A b) : (b : Rat) = Dt n (rws p) := by
  have := h.det
  rw [List.take_of_length_le (by have := h.lp; omega)] at this
  exact this
theorem Mul.xch {n : Nat} {T : List Row → Rat} (h : Mul n T) {p m s : List Row} {a b : Row} (l : (p ++ a :: (m ++ b :: s)).length = n) : T (p ++ a :: (m ++ b :: s)) = - T (p ++ b :: (m ++ a :: s)) := by
  have e1 := h.across (m := m) (p := p) (s := b :: s) (a := a) l
  have e2 := h.across (m := m) (p := p) (s := a :: s) (a := b) (by simp at l ⊢; omega)
  have e3 := h.swap (p ++ m) a b s (by simp at l ⊢; omega)
  rw [List.append_assoc, List.append_assoc] at e3
  rw [e1, e2, e3]; grind
def swp (p : List (List Int)) (i j : Nat) : List (List Int) := (p.set i (p.getD j [])).set j (p.getD i [])
theorem getD_set {α : Type} {d x : α} {p : List α} {i m : Nat} (hi : i < p.length) : (p.set i x).getD m d = if m = i then x else p.getD m d := by
  rw [List.getD_eq_getElem?_getD, List.getD_eq_getElem?_getD]
  by_cases e : m = i
  · subst e; rw [List.getElem?_set_self hi, if_pos rfl]; rfl
  · rw [List.getElem?_set_ne (Ne.symm e), if_neg e]
theorem swp_at {p : List (List Int)} {i j m : Nat} (hi : i < p.length) (hj : j < p.length) : (swp p i j).getD m [] = if m = j then p.getD i [] else if m = i then p.getD j [] else p.getD m [] := by
  unfold swp
  rw [getD_set (by simpa using hj), getD_set hi]
theorem swp_len (p : List (List Int)) (i j : Nat) : (swp p i j).length = p.length := by unfold swp; simp
theorem swp_mem {p : List (List Int)} {i j : Nat} (hi : i < p.length) (hj : j < p.length) {r : List Int} (h : r ∈ swp p i j) : r ∈ p := by
  have g : ∀ {m}, m < p.length → p.getD m [] ∈ p := fun {m} hm => by
    rw [List.getD_eq_getElem?_getD, List.getElem?_eq_getElem hm]; exact List.getElem_mem hm
  unfold swp at h
  rcases List.mem_or_eq_of_mem_set h with z | z
  · rcases List.mem_or_eq_of_mem_set z with z | z
    · exact z
    · rw [z]; exact g hj
  · rw [z]; exact g hi
theorem swp_Dt {n : Nat} {p : List (List Int)} (l : p.length = n) {i j : Nat} (ij : i < j) (hj : j < n) : Dt n (rws (swp p i j)) = - Dt n (rws p) := by
  have hp : p = p.take i ++ p.getD i [] :: ((p.drop (i + 1)).take (j - i - 1) ++ p.getD j [] :: p.drop (j + 1)) := by
    have e1 : p = p.take i ++ p.drop i := (List.take_append_drop i p).symm
    have e2 : p.drop i = p.getD i [] :: p.drop (i + 1) := by
      rw [List.drop_eq_getElem_cons (by omega), List.getD_eq_getElem?_getD, List.getElem?_eq_getElem (by omega)]; rfl
    have e3 : p.drop (i + 1) = (p.drop (i + 1)).take (j - i - 1) ++ (p.drop (i + 1)).drop (j - i - 1) := (List.take_append_drop _ _).symm
    have e4 : (p.drop (i + 1)).drop (j - i - 1) = p.getD j [] :: p.drop (j + 1) := by
      rw [List.drop_drop, show i + 1 + (j - i - 1) = j by omega, List.drop_eq_getElem_cons (by omega), List.getD_eq_getElem?_getD, List.getElem?_eq_getElem (by omega)]; rfl
    rw [e4] at e3
    rw [← e3, ← e2]; exact e1
  generalize hu : p.take i = u at hp
  generalize hm : (p.drop (i + 1)).take (j - i - 1) = m at hp
  generalize hs : p.drop (j + 1) = s at hp
  have lu : u.length = i := by rw [← hu]; simp; omega
  have lm : m.length = j - i - 1 := by rw [← hm]; simp; omega
  have hq : swp p i j = u ++ p.getD j [] :: (m ++ p.getD i [] :: s) := by
    generalize p.getD i [] = a at hp ⊢
    generalize hb : p.getD j [] = b at hp ⊢
    have : swp p i j = (p.set i b).set j a := by
      unfold swp
      rw [hb]
      congr 1
      have this : p.getD i [] = (u ++ a :: (m ++ b :: s)).getD i [] := congrArg (fun q : List (List Int) => q.getD i []) hp
      rw [this, List.getD_eq_getElem?_getD, List.getElem?_append_right (by omega), lu, Nat.sub_self]; rfl
    rw [this, hp, List.set_append_right _ _ (by omega), lu, Nat.sub_self, List.set_cons_zero, List.set_append_right _ _ (by omega), lu, show j - i = (j - i - 1) + 1 by omega, List.set_cons_succ, List.set_append_right _ _ (by omega), lm, Nat.sub_self, List.set_cons_zero]
  have ln : (rws u ++ qs (ser (p.getD i [])) :: (rws m ++ qs (ser (p.getD j [])) :: rws s)).length = n := by
    have := congrArg List.length hp
    simp at this ⊢; omega
  have x := (Dt_mul n).xch ln
  rw [hq]
  conv => rhs; rw [hp]
  simp only [rws, List.map_append, List.map_cons] at x ⊢
  rw [x]; grind
theorem Br.swap {n k : Nat} {p A : List (List Int)} {b : Int} (h : Br n k p A b) (lA : A.length = n) {i j : Nat} (ki : k ≤ i) (ij : i < j) (hj : j < n) : Br n k (swp p i j) (swp A i j) b where
  lp := by rw [swp_len]; exact h.lp
  kn := h.kn
  b0 := h.b0
  det := by
    have e : (swp p i j).take k = p.take k := by
      unfold swp
      rw [List.take_set, List.take_set, List.set_eq_of_length_le (by simp; omega), List.set_eq_of_length_le (by simp; omega)]
    rw [e]; exact h.det
  row := fun m km mn => by
    have lp := h.lp
    have e : (swp p i j).take k = p.take k := by
      unfold swp
      rw [List.take_set, List.take_set, List.set_eq_of_length_le (by simp; omega), List.set_eq_of_length_le (by simp; omega)]
    rw [e, swp_at (by omega) (by omega)]
    have ea : ∀ c, ent (swp A i j) m c = (if m = j then A.getD i [] else if m = i then A.getD j [] else A.getD m []).getD c 0 := fun c => by
      unfold ent
      rw [swp_at (by omega) (by omega)]
    by_cases mj : m = j
    · rw [if_pos mj]
      obtain ⟨γ, y, a1, a2, a3, a4⟩ := h.row i ki (by omega)
      exact ⟨γ, y, a1, a2, a3, fun c hc nc => by rw [ea, if_pos mj]; exact a4 c hc nc⟩
    · rw [if_neg mj]
      by_cases mi : m = i
      · rw [if_pos mi]
        obtain ⟨γ, y, a1, a2, a3, a4⟩ := h.row j (by omega) hj
        exact ⟨γ, y, a1, a2, a3, fun c hc nc => by rw [ea, if_neg mj, if_pos mi]; exact a4 c hc nc⟩
      · rw [if_neg mi]
        obtain ⟨γ, y, a1, a2, a3, a4⟩ := h.row m km mn
        exact ⟨γ, y, a1, a2, a3, fun c hc nc => by rw [ea, if_neg mj, if_neg mi]; exact a4 c hc nc⟩
theorem Br.sizeb {n k B : Nat} {p A : List (List Int)} {b : Int} (h : Br n k p A b) (hB : ∀ r ∈ p, ∀ x ∈ r, x.natAbs ≤ B) : b.natAbs ≤ (n * B) ^ k := by
  obtain ⟨z, ez, lz⟩ := Dt_ib (N := n) (B := B) k (rws (p.take k)) (by have := h.lp; have := h.kn; simp; omega) fun x hx m => by
    obtain ⟨r, hr, rfl⟩ := List.mem_map.mp hx
    refine ⟨_, rw_co r m, ?_⟩
    rw [List.getD_eq_getElem?_getD]
    cases e : r[m]? with
    | none => simp
    | some x => exact hB r (List.mem_of_mem_take hr) x (List.mem_of_getElem? e)
  have := h.det
  rw [ez] at this
  rw [Rat.intCast_inj.mp this]; exact lz
theorem ent_set {A : List (List Int)} {j c r d : Nat} {y : Int} (hj : j < A.length) (hc : c < (A.getD j []).length) : ent (A.set j ((A.getD j []).set c y)) r d = if r = j ∧ d = c then y else ent A r d := by
  unfold ent
  rw [getD_set hj]
  by_cases e : r = j
  · subst e
    rw [if_pos rfl, getD_set hc]
    by_cases q : d = c
    · rw [if_pos q, if_pos ⟨rfl, q⟩]
    · rw [if_neg q, if_neg fun z => q z.2]
  · rw [if_neg e, if_neg fun z => e z.1]
end RR
namespace RR
open PySem PySem.Spec PyProof.Rows L2
theorem ixN_n {n j : Nat} (hj : j < n) : ixN n (j : Int) = some j := by
  unfold ixN
  rw [if_pos (by omega), if_pos (by omega)]
  simp
def ri (r : List Int) : D := .lst (zz r)
theorem wipeD_len : ∀ (vs : List Nat) (ρ : En), (wipeD ρ vs).length = ρ.length
  | [], _ => rfl
  | i :: r, ρ => by unfold wipeD; rw [List.length_set]; exact wipeD_len r ρ
section
variable {M : Type} {ρ : En} {m : M × Option Mx} {Q : D → (M × Option Mx) → Prop} {Z : Str → (M × Option Mx) → Prop} {nx : En → (M × Option Mx) → Prop} {rt : D → (M × Option Mx) → Prop} {bk ct : En → (M × Option Mx) → Prop} {ex : Str → (M × Option Mx) → Prop}
theorem mk_rows {j : Nat} (hj : j < ρ.length) : ∀ (p acc : List (List Int)) {m : M × Option Mx} {QL : List (List Int) → (M × Option Mx) → Prop}, acc.length + p.length ≤ 16777216 → QL (acc ++ p) m →
    mkGo (dgB j) (dB (gSeq .lst) (dCons (dBor j) dNil)) ρ (p.map ri) acc m QL
  | [], acc, m, QL, _, q => by
    show QL acc m
    simpa using q
  | r :: p, acc, m, QL, l, q => by
    show dB (gSeq .lst) (dCons (dBor j) dNil) (ρ.set j (.bor (ri r))) m _ _
    have e : (ρ.set j (.bor (ri r)))[j]? = some (.bor (ri r)) := List.getElem?_set_self hj
    dsimp only [dB, dCons, dBor, dNil]
    rw [e]
    refine ⟨nls_ints r, r, rfl, small_line (by simp at l; omega), ?_⟩
    exact mk_rows hj p (acc ++ [r]) (by simp at l ⊢; omega) (by simpa using q)
theorem v_mk {i s j : Nat} {vs : List Nat} {p : List (List Int)} (e : ρ[s]? = some (.bor (.lst (p.map ri)))) (hj : j < ρ.length) (hm : m.2 = none) (l : p.length ≤ 16777216) (h : ∀ k, nx (ρ.set i (.val (.hnd k))) (m.1, some (k, p))) :
    dMk i (dSeqB s) (dgB j) (dB (gSeq .lst) (dCons (dBor j) dNil)) vs ⟨nx, rt, bk, ct, ex⟩ ρ m := by
  show dSeqB s ρ m _ _
  unfold dSeqB
  rw [e]
  exact mk_rows (by rw [wipeD_len]; exact hj) p [] (by simpa using l) ⟨hm, h⟩
theorem at_getD {α : Type} {d : α} {l : List α} {j : Nat} (h : j < l.length) : atI l (j : Int) = some (l.getD j d) := by
  refine at_nat ?_
  rw [List.getD_eq_getElem?_getD, List.getElem?_eq_getElem h]; rfl
theorem v_mat {i h a b ja jb : Nat} {A : List (List Int)} (e1 : ρ[i]? = some (.val (.hnd h))) (e2 : m.2 = some (h, A)) (ea : ρ[a]? = some (.val (.int (ja : Int)))) (eb : ρ[b]? = some (.val (.int (jb : Int)))) (la : ja < A.length) (lb : jb < (A.getD ja []).length) (q : Q (.int (ent A ja jb)) m) :
    dMat i (pVar a) (pVar b) ρ m Q Z := by
  refine ⟨A, ⟨h, e1, e2⟩, ?_⟩
  unfold pVar
  rw [ea]
  refine ⟨_, at_getD (d := []) la, ?_⟩
  dsimp only
  rw [eb]
  exact ⟨_, at_getD (d := 0) lb, q⟩
theorem v_lenM {i h : Nat} {A : List (List Int)} (e1 : ρ[i]? = some (.val (.hnd h))) (e2 : m.2 = some (h, A)) (q : Q (.int A.length) m) : dLenM i ρ m Q Z := ⟨A, ⟨h, e1, e2⟩, q⟩
def kMS {M : Type} (i : Nat) (t u : PR) (ρ : En) (nx : En → (M × Option Mx) → Prop) (d : D) (m1 : M × Option Mx) : Prop := ∃ y : Int, d = .int y ∧ ∃ (h : Nat) (A : List (List Int)), ρ[i]? = some (.val (.hnd h)) ∧ m1.2 = some (h, A) ∧
  t ρ fun j => ∃ jn row, ixN A.length j = some jn ∧ A[jn]? = some row ∧ u ρ fun k => ∃ kn, ixN row.length k = some kn ∧ nx ρ (m1.1, some (h, A.set jn (row.set kn y)))
theorem v_mset {i : Nat} {te : DT (M × Option Mx)} {t u : PR} (h : te ρ m (kMS i t u ρ nx) ex) : dMSet i te t u ⟨nx, rt, bk, ct, ex⟩ ρ m := h
theorem v_kMS {i h a b ja jb : Nat} {y : Int} {A : List (List Int)} (e1 : ρ[i]? = some (.val (.hnd h))) (e2 : m.2 = some (h, A)) (ea : ρ[a]? = some (.val (.int (ja : Int)))) (eb : ρ[b]? = some (.val (.int (jb : Int)))) (la : ja < A.length) (lb : jb < (A.getD ja []).length)
    (q : nx ρ (m.1, some (h, A.set ja ((A.getD ja []).set jb y)))) : kMS i (pVar a) (pVar b) ρ nx (.int y) m := by
  refine ⟨y, rfl, h, A, e1, e2, ?_⟩
  unfold pVar
  rw [ea]
  refine ⟨ja, A.getD ja [], ixN_n la, ?_, ?_⟩
  · rw [List.getD_eq_getElem?_getD, List.getElem?_eq_getElem la]; rfl
  · dsimp only
    rw [eb]
    exact ⟨jb, ixN_n lb, q⟩
theorem v_mswap {i h a s ja js : Nat} {A : List (List Int)} {ds : List D} (e1 : ρ[i]? = some (.val (.hnd h))) (e2 : m.2 = some (h, A)) (ea : ρ[a]? = some (.val (.int (ja : Int)))) (es : ρ[s]? = some (.val (.lst (.int (js : Int) :: ds)))) (la : ja < A.length) (ls : js < A.length)
    (q : nx ρ (m.1, some (h, swp A ja js))) : dMSwap i (pVar a) (pIx s 0) (pIx s 0) (pVar a) ⟨nx, rt, bk, ct, ex⟩ ρ m := by
  have g : ∀ {j : Nat}, j < A.length → A[j]? = some (A.getD j []) := fun {j} l => by rw [List.getD_eq_getElem?_getD, List.getElem?_eq_getElem l]; rfl
  have p1 : ∀ {R : Int → Prop}, R (js : Int) → pIx s 0 ρ R := fun {R} r => by
    unfold pIx
    rw [es]
    exact ⟨_, at_nat (j := 0) rfl, r⟩
  have p2 : ∀ {R : Int → Prop}, R (ja : Int) → pVar a ρ R := fun {R} r => by
    unfold pVar
    rw [ea]
    exact r
  refine ⟨h, A, e1, e2, p1 ⟨js, _, ixN_n ls, g ls, p2 ⟨ja, _, ixN_n la, g la, p2 ⟨ixN_n la, p1 ⟨ixN_n ls, q⟩⟩⟩⟩⟩
end
section
variable {M : Type} {α : Type} {g : DG} {tt : DTT M} {te : DT M} {ρ : En} {m : M}
theorem lcGo_keep {inj h : α → D} {keep : α → Bool} : ∀ (xs : List α) {acc : List D} {Q : List D → M → Prop},
    (∀ a ∈ xs, ∀ (k : D → M → Prop) (l : M → Prop), (keep a = true → k (h a) m) → (keep a = false → l m) → g (inj a) ρ fun ρ2 => tt ρ2 m (fun b m1 => if b = true then te ρ2 m1 k (fun _ _ => False) else l m1) (fun _ _ => False)) →
    acc.length + xs.length ≤ sizeLine → Q (acc ++ (xs.filter keep).map h) m → lcGo g tt te ρ (xs.map inj) acc m Q
  | [], acc, Q, _, _, q => by
    show Q acc m
    simpa using q
  | a :: xs, acc, Q, st, hl, q => by
    rw [List.length_cons] at hl
    refine st a List.mem_cons_self _ _ (fun hk => ⟨by omega, ?_⟩) fun hk => ?_
    · refine lcGo_keep xs (fun b hb => st b (List.mem_cons_of_mem _ hb)) (by rw [List.length_append, List.length_cons, List.length_nil]; omega) ?_
      rw [List.filter_cons_of_pos hk, List.map_cons] at q
      simpa using q
    · refine lcGo_keep xs (fun b hb => st b (List.mem_cons_of_mem _ hb)) (by omega) ?_
      rw [List.filter_cons_of_neg (by simp [hk])] at q
      exact q
end
end RR
namespace RR
open PySem PySem.Spec PyProof.Rows L2
def b__law_determinant {M : Type} : DS (M × Option Mx) :=
    (dThen (dMk 0 (dSeqB 0) (dgB 9) (dB (gSeq .lst) (dCons (dBor 9) dNil)) [9])
    (dThen (dSet 1 (dC (.int 1)))
    (dThen (dSet 2 (dC (.int 1)))
    (dThen (dFor (dRng1 (dCons (dBin (g0 fun i j => .int (i - j)) (dLenM 0) (dC (.int 1))) dNil)) (dgN 3)
      (dThen (dSet 4 (dLc (dRng2 (dCons (dVar 3) (dCons (dLenM 0) dNil))) (dgN 5) (dTst (dBin gNe (dMat 0 (pVar 5) (pVar 3)) (dC (.int 0)))) (dVar 5) [5]))
    (dThen (dIte (dTst (dBin gEq (dVar 4) (dLst dNil)))
      (dRet (dC (.int 0)))
      dNext)
    (dThen (dIte (dTst (dBin gNe (dBin (gIx false) (dVar 4) (dC (.int 0))) (dVar 3)))
      (dThen (dMSwap 0 (pVar 3) (pIx 4 0) (pIx 4 0) (pVar 3))
    (dSet 1 (dBin (g0 fun i j => .int (i - j)) (dC (.int 0)) (dVar 1))))
      dNext)
    (dThen (dFor (dRng2 (dCons (dBin gAdd (dVar 3) (dC (.int 1))) (dCons (dLenM 0) dNil))) (dgN 5)
      (dThen (dFor (dRng2 (dCons (dBin gAdd (dVar 3) (dC (.int 1))) (dCons (dLenM 0) dNil))) (dgN 6)
      (dThen (dSet 7 (dBin gMul (dMat 0 (pVar 5) (pVar 6)) (dMat 0 (pVar 3) (pVar 3))))
    (dThen (dSet 8 (dBin gMul (dMat 0 (pVar 5) (pVar 3)) (dMat 0 (pVar 3) (pVar 6))))
    (dMSet 0 (dBin (gII Nd fun i j => .int (i.fdiv j)) (dBin (g0 fun i j => .int (i - j)) (dVar 7) (dVar 8)) (dVar 2)) (pVar 5) (pVar 6)))))
    (dMSet 0 (dC (.int 0)) (pVar 5) (pVar 3))))
    (dSet 2 (dMat 0 (pVar 3) (pVar 3))))))))
    (dRet (dBin gMul (dVar 1) (dMat 0 (pC (-1)) (pC (-1)))))))))
theorem bd_of_le60 {x : Int} {a b : Nat} (h : x.natAbs ≤ 2 ^ a) (l : a < b) : bd b x := by
  unfold bd
  exact Nat.lt_of_le_of_lt h (Nat.pow_lt_pow_right (by decide) l)
theorem pow_le60 {n e k : Nat} (hn : n ≤ 16) (he : e ≤ 100) (hk : k ≤ 16) : (n * 2 ^ e) ^ k ≤ 2 ^ 1664 := by
  have h1 : n * 2 ^ e ≤ 2 ^ 104 := Nat.le_trans (Nat.mul_le_mul hn (Nat.pow_le_pow_right (by decide) he)) (by decide)
  refine Nat.le_trans (Nat.pow_le_pow_left h1 k) ?_
  rw [← Nat.pow_mul]
  exact Nat.pow_le_pow_right (by decide) (by omega)
theorem fit_ex60 {d : Nat} {f : Nat → Bool} (h : ((List.range d).filter f) ≠ []) : ∃ j r, (List.range d).filter f = j :: r ∧ j < d ∧ f j = true ∧ (f 0 = true → j = 0) := by
  cases e : (List.range d).filter f with
  | nil => exact absurd e h
  | cons j r =>
    have hj : j ∈ (List.range d).filter f := by rw [e]; exact List.mem_cons_self
    obtain ⟨h1, h2⟩ := List.mem_filter.mp hj
    refine ⟨j, r, rfl, List.mem_range.mp h1, h2, fun h0 => ?_⟩
    cases d with
    | zero => simp at h1
    | succ d =>
      rw [List.range_succ_eq_map, List.filter_cons_of_pos h0] at e
      injection e with e1 _
      exact e1.symm
theorem at_end60 {α : Type} {d : α} {l : List α} (h : 0 < l.length) : atI l (-1) = some (l.getD (l.length - 1) d) := by
  unfold atI ixN
  rw [if_neg (by decide), if_pos (by omega)]
  have e2 : (-1 + (l.length : Int)).toNat = l.length - 1 := by omega
  rw [Option.bind_some, e2, List.getD_eq_getElem?_getD, List.getElem?_eq_getElem (by omega)]; rfl
section
variable {M : Type} {ρ : En} {m : M × Option Mx} {Q : D → (M × Option Mx) → Prop} {Z : Str → (M × Option Mx) → Prop}
theorem v_matL {i h : Nat} {A : List (List Int)} (e1 : ρ[i]? = some (.val (.hnd h))) (e2 : m.2 = some (h, A)) (la : 0 < A.length) (lb : 0 < (A.getD (A.length - 1) []).length) (q : Q (.int (ent A (A.length - 1) ((A.getD (A.length - 1) []).length - 1))) m) :
    dMat i (pC (-1)) (pC (-1)) ρ m Q Z := by
  refine ⟨A, ⟨h, e1, e2⟩, ?_⟩
  unfold pC
  exact ⟨_, at_end60 (d := []) la, _, at_end60 (d := 0) lb, q⟩
end
theorem Br.last {n : Nat} {p A : List (List Int)} {b : Int} (n1 : 1 ≤ n) (h : Br n (n - 1) p A b) : ((ent A (n - 1) (n - 1) : Int) : Rat) = Dt n (rws p) := by
  by_cases z : ent A (n - 1) (n - 1) = 0
  · have := h.none (by omega) fun i ki ni => by
      rw [show i = n - 1 by omega]; exact z
    rw [this, z]; rfl
  · have := h.step (A' := A) (by omega) z fun i ki ni j kj nj => absurd ni (by omega)
    rw [show n - 1 + 1 = n by omega] at this
    exact this.done
def s__law_determinant {M : Type} : DSp M := fun ds m Q Z => ∃ (p : List (List Int)) (e : Nat), ds = [.lst (p.map ri)] ∧ 1 ≤ p.length ∧ (∀ r ∈ p, r.length = p.length) ∧ p.length ≤ 15 ∧ (∀ r ∈ p, ∀ x ∈ r, bd e x) ∧ e ≤ 100 ∧ ∀ z : Int, (z : Rat) = Dt p.length (rws p) → Q (.int z) m
theorem vc__law_determinant {M : Type} : ∀ ds (m : M) Q Z, s__law_determinant ds m Q Z → okK [true] ds ∧ b__law_determinant (exX Q) (st0 [true] ds 10) (m, none) := by
  rintro ds m Q Z ⟨p0, e, rfl, n1, hr, hn, hb, he, k⟩
  refine ⟨⟨fun z => (nomatch z), trivial⟩, ?_⟩
  have hB : ∀ r ∈ p0, ∀ x ∈ r, x.natAbs ≤ 2 ^ e := fun r a x b => Nat.le_of_lt (hb r a x b)
  generalize en : p0.length = n at n1 hr hn k
  unfold b__law_determinant exX
  repeat walk_at "s"
  refine v_mk rfl (by rw [st0_len]; decide) rfl (by omega) fun h => ?_
  repeat walk_at "s"
  refine v_lenM rfl rfl ?_
  repeat walk_at "s"
  rw [en]
  refine v_kR1 (by omega) (by omega) ?_
  rw [show ((n : Int) - 1).toNat = n - 1 by omega]
  refine v_kforR (n - 1) (fun k ρ m' => ∃ (p A : List (List Int)) (b s : Int) (a4 a5 a6 a7 a8 a9 a10 : Sl), m' = (m, some (h, A)) ∧ ρ = [.val (.hnd h), .val (.int s), .val (.int b), a4, a5, a6, a7, a8, a9, a10] ∧
    Br n k p A b ∧ A.length = n ∧ (∀ r, r < n → (A.getD r []).length = n) ∧ (∀ r ∈ p, ∀ x ∈ r, x.natAbs ≤ 2 ^ e) ∧ (s : Rat) * Dt n (rws p) = Dt n (rws p0) ∧ (s = 1 ∨ s = -1)) ?_ (fun ρ m' H => ?_) fun kk ρ m' hk H => ?_
  · refine ⟨p0, p0, 1, 1, _, _, _, _, _, _, _, rfl, by with_unfolding_all rfl, Br.start en, en, fun r hr' => ?_, hB, by show ((1 : Int) : Rat) * _ = _; grind, .inl rfl⟩
    refine hr _ ?_
    rw [List.getD_eq_getElem?_getD, List.getElem?_eq_getElem (by omega)]
    exact List.getElem_mem _
  · obtain ⟨p, A, b, s, a4, a5, a6, a7, a8, a9, a10, rfl, rfl, br, lA, lr, hp, hs, s1⟩ := H
    have sz : bd 1665 (ent A (n - 1) (n - 1)) := bd_of_le60 (Nat.le_trans (br.size hp (Nat.le_refl _) (by omega) (Nat.le_refl _) (by omega)) (pow_le60 (by omega) he (by omega))) (by decide)
    have hsb : bd 2 s := by rcases s1 with rfl | rfl <;> exact bd_lit (by decide)
    repeat walk_at "s"
    refine v_matL rfl rfl (by omega) (by rw [lA, lr _ (by omega)]; omega) ?_
    rw [lA, lr _ (by omega)]
    repeat walk_at "s"
    refine ⟨_, rfl, k _ ?_⟩
    rw [Rat.intCast_mul, br.last n1, ← hs]
  · obtain ⟨p, A, b, s, a4, a5, a6, a7, a8, a9, a10, rfl, rfl, br, lA, lr, hp, hs, s1⟩ := H
    have hk : kk < n := by omega
    rw [Int.zero_add]
    repeat walk_at "s"
    refine v_lenM rfl rfl ?_
    repeat walk_at "s"
    rw [lA]
    refine v_kR2 (by omega) (by omega) (by omega) (by omega) ?_
    rw [show ((n : Int) - (kk : Int)).toNat = n - kk by omega]
    refine lcGo_keep (inj := fun i : Nat => D.int ((kk : Int) + (i : Nat))) (h := fun i : Nat => D.int ((kk + i : Nat) : Int)) (keep := fun i => decide (ent A (kk + i) kk ≠ 0)) (List.range (n - kk)) (fun a ha K L h1 h2 => ?_) (by rw [List.length_range]; exact small_line (by simp; omega)) ?_
    · have ha := List.mem_range.mp ha
      rw [show (kk : Int) + (a : Nat) = ((kk + a : Nat) : Int) by omega]
      repeat walk_at "s"
      refine v_mat (ja := kk + a) (jb := kk) rfl rfl rfl rfl (by omega) (by rw [lr _ (by omega)]; omega) ?_
      repeat walk_at "s"
      by_cases z : ent A (kk + a) kk = 0
      · rw [decide_eq_true z]
        refine v_ifF ?_
        exact h2 (by simp [z])
      · rw [decide_eq_false z]
        refine v_ifT ?_
        repeat walk_at "s"
        exact h1 (by simp [z])
    · rw [List.nil_append, show ((List.range (n - kk)).filter fun i => decide (ent A (kk + i) kk ≠ 0)).map (fun i : Nat => D.int ((kk + i : Nat) : Int)) = zz (((List.range (n - kk)).filter fun i => decide (ent A (kk + i) kk ≠ 0)).map fun i : Nat => ((kk + i : Nat) : Int)) from (List.map_map ..).symm]
      repeat walk_at "s"
      by_cases hf : ((List.range (n - kk)).filter fun i => decide (ent A (kk + i) kk ≠ 0)) = []
      · rw [hf]
        try rw [decide_eq_true (show List.map _ [] = [] from rfl)]
        refine v_ifT ?_
        repeat walk_at "s"
        refine ⟨0, rfl, k 0 ?_⟩
        have dz := br.none hk fun i ki ni => by
          have : i - kk ∉ (List.range (n - kk)).filter fun i => decide (ent A (kk + i) kk ≠ 0) := by rw [hf]; exact List.not_mem_nil
          rw [List.mem_filter, List.mem_range, show kk + (i - kk) = i by omega] at this
          by_cases z : ent A i kk = 0
          · exact z
          · exact absurd ⟨by omega, by simpa using z⟩ this
        rw [← hs, dz]; show ((0 : Int) : Rat) = _; grind
      · obtain ⟨f, fr, ef, hfd, hf1, hf0⟩ := fit_ex60 hf
        rw [ef]
        rw [decide_eq_false (fun z => nomatch z)]
        refine v_ifF ?_
        refine v_next ?_
        refine v_then (v_join (fun ρ m' => ∃ (p A : List (List Int)) (s : Int) (a5 a6 a7 a8 a9 a10 : Sl), m' = (m, some (h, A)) ∧ ρ = [.val (.hnd h), .val (.int s), .val (.int b), .val (.int (kk : Int)), a5, a6, a7, a8, a9, a10] ∧
          Br n kk p A b ∧ ent A kk kk ≠ 0 ∧ A.length = n ∧ (∀ r, r < n → (A.getD r []).length = n) ∧ (∀ r ∈ p, ∀ x ∈ r, x.natAbs ≤ 2 ^ e) ∧ (s : Rat) * Dt n (rws p) = Dt n (rws p0) ∧ (s = 1 ∨ s = -1)) (fun ρ m' H => ?_) fun nx' hnx => ?_)
        · clear hs s1 br lA lr hp hf hf0 hf1 ef hfd
          obtain ⟨p, A, s, a5, a6, a7, a8, a9, a10, rfl, rfl, br, hne, lA, lr, hp, hs, s1⟩ := H
          let nw : Nat → Nat → Int := fun r c => (ent A r c * ent A kk kk - ent A r kk * ent A kk c).fdiv b
          have sz : ∀ r c, kk ≤ r → r < n → kk ≤ c → c < n → bd 1665 (ent A r c) := fun r c kr nr kc nc => bd_of_le60 (Nat.le_trans (br.size hp kr nr kc nc) (pow_le60 (by omega) he (by omega))) (by decide)
          have hbb : bd 1665 b := bd_of_le60 (Nat.le_trans (br.sizeb hp) (pow_le60 (by omega) he (by omega))) (by decide)
          have b0 : b ≠ 0 := br.b0
          repeat walk_at "s"
          refine v_lenM rfl rfl ?_
          repeat walk_at "s"
          rw [lA]
          refine v_kR2 (by omega) (by omega) (by omega) (by omega) ?_
          rw [show ((n : Int) - ((kk : Int) + 1)).toNat = n - kk - 1 by omega]
          refine v_kforR (n - kk - 1) (fun j ρ m' => ∃ (A' : List (List Int)) (a6 a7 a8 a9 : Sl), m' = (m, some (h, A')) ∧ ρ = [.val (.hnd h), .val (.int s), .val (.int b), .val (.int (kk : Int)), a5, a6, a7, a8, a9, a10] ∧ A'.length = n ∧ (∀ r, r < n → (A'.getD r []).length = n) ∧
            (∀ r c, kk < r → r < kk + 1 + j → kk < c → c < n → ent A' r c = nw r c) ∧ ∀ r c, ¬ (kk < r ∧ r < kk + 1 + j) → ent A' r c = ent A r c) ⟨A, a6, a7, a8, a9, rfl, rfl, lA, lr, fun r c h1 h2 => absurd h2 (by omega), fun r c _ => rfl⟩ (fun ρ m' H => ?_) fun j ρ m' hj H => ?_
          · obtain ⟨A', a6, a7, a8, a9, rfl, rfl, lA', lr', he1, he2⟩ := H
            repeat walk_at "s"
            refine v_mat (ja := kk) (jb := kk) rfl rfl rfl rfl (by omega) (by rw [lr' _ (by omega)]; omega) ?_
            refine ⟨p, A', ent A kk kk, s, _, _, _, _, _, _, _, rfl, by rw [he2 kk kk (by omega)]; with_unfolding_all rfl, br.step hk hne fun r kr nr c kc nc => by rw [he1 r c kr (by omega) kc nc], lA', lr', hp, hs, s1⟩
          · obtain ⟨A', a6, a7, a8, a9, rfl, rfl, lA', lr', he1, he2⟩ := H
            rw [show (kk : Int) + 1 + (j : Nat) = ((kk + 1 + j : Nat) : Int) by omega]
            repeat walk_at "s"
            refine v_lenM rfl rfl ?_
            repeat walk_at "s"
            rw [lA']
            refine v_kR2 (by omega) (by omega) (by omega) (by omega) ?_
            rw [show ((n : Int) - ((kk : Int) + 1)).toNat = n - kk - 1 by omega]
            refine v_kforR (n - kk - 1) (fun i ρ m' => ∃ (A' : List (List Int)) (a7 a8 a9 : Sl), m' = (m, some (h, A')) ∧ ρ = [.val (.hnd h), .val (.int s), .val (.int b), .val (.int (kk : Int)), a5, .val (.int ((kk + 1 + j : Nat) : Int)), a7, a8, a9, a10] ∧ A'.length = n ∧ (∀ r, r < n → (A'.getD r []).length = n) ∧
              (∀ r c, kk < r → r < kk + 1 + j → kk < c → c < n → ent A' r c = nw r c) ∧ (∀ c, kk < c → c < kk + 1 + i → ent A' (kk + 1 + j) c = nw (kk + 1 + j) c) ∧ (∀ c, ¬ (kk < c ∧ c < kk + 1 + i) → ent A' (kk + 1 + j) c = ent A (kk + 1 + j) c) ∧ ∀ r c, ¬ (kk < r ∧ r < kk + 1 + j + 1) → ent A' r c = ent A r c) ⟨A', a7, a8, a9, rfl, by with_unfolding_all rfl, lA', lr', he1, fun c h1 h2 => absurd h2 (by omega), fun c _ => he2 _ _ (by omega), fun r c q => he2 r c (by omega)⟩ (fun ρ m' H => ?_) fun i ρ m' hi H => ?_
            · clear he1 he2
              obtain ⟨A'', a7, a8, a9, rfl, rfl, lA'', lr'', h1, h2, h3, h4⟩ := H
              repeat walk_at "s"
              refine v_mset ?_
              repeat walk_at "s"
              refine v_kMS (ja := kk + 1 + j) (jb := kk) rfl rfl rfl rfl (by omega) (by rw [lr'' _ (by omega)]; omega) ?_
              refine ⟨_, _, _, _, _, rfl, by with_unfolding_all rfl, by rw [List.length_set]; exact lA'', fun r hr' => ?_, fun r c q1 q2 q3 q4 => ?_, fun r c q => ?_⟩
              · rw [getD_set (by omega)]
                split
                · rw [List.length_set]; exact lr'' _ (by omega)
                · exact lr'' r hr'
              · rw [ent_set (by omega) (by rw [lr'' _ (by omega)]; omega), if_neg (by omega)]
                by_cases e : r = kk + 1 + j
                · subst e; exact h2 c q3 (by omega)
                · exact h1 r c q1 (by omega) q3 q4
              · rw [ent_set (by omega) (by rw [lr'' _ (by omega)]; omega), if_neg (by omega)]
                exact h4 r c (by omega)
            · clear he1 he2
              obtain ⟨A'', a7, a8, a9, rfl, rfl, lA'', lr'', h1, h2, h3, h4⟩ := H
              rw [show (kk : Int) + 1 + (i : Nat) = ((kk + 1 + i : Nat) : Int) by omega]
              have e1 : ent A'' (kk + 1 + j) (kk + 1 + i) = ent A (kk + 1 + j) (kk + 1 + i) := h3 _ (by omega)
              have e2 : ent A'' kk kk = ent A kk kk := h4 _ _ (by omega)
              have e3 : ent A'' (kk + 1 + j) kk = ent A (kk + 1 + j) kk := h3 _ (by omega)
              have e4 : ent A'' kk (kk + 1 + i) = ent A kk (kk + 1 + i) := h4 _ _ (by omega)
              have b1 := sz (kk + 1 + j) (kk + 1 + i) (by omega) (by omega) (by omega) (by omega)
              have b2 := sz kk kk (by omega) (by omega) (by omega) (by omega)
              have b3 := sz (kk + 1 + j) kk (by omega) (by omega) (by omega) (by omega)
              have b4 := sz kk (kk + 1 + i) (by omega) (by omega) (by omega) (by omega)
              repeat walk_at "s"
              refine v_mat (ja := kk + 1 + j) (jb := kk + 1 + i) rfl rfl rfl rfl (by omega) (by rw [lr'' _ (by omega)]; omega) ?_
              refine v_mat (ja := kk) (jb := kk) rfl rfl rfl rfl (by omega) (by rw [lr'' _ (by omega)]; omega) ?_
              rw [e1, e2]
              repeat walk_at "s"
              refine v_mat (ja := kk + 1 + j) (jb := kk) rfl rfl rfl rfl (by omega) (by rw [lr'' _ (by omega)]; omega) ?_
              refine v_mat (ja := kk) (jb := kk + 1 + i) rfl rfl rfl rfl (by omega) (by rw [lr'' _ (by omega)]; omega) ?_
              rw [e3, e4]
              repeat walk_at "s"
              refine v_mset ?_
              repeat walk_at "s"
              refine v_kMS (ja := kk + 1 + j) (jb := kk + 1 + i) rfl rfl rfl rfl (by omega) (by rw [lr'' _ (by omega)]; omega) ?_
              refine ⟨_, _, _, _, rfl, by with_unfolding_all rfl, by rw [List.length_set]; exact lA'', fun r hr' => ?_, fun r c q1 q2 q3 q4 => ?_, fun c q1 q2 => ?_, fun c q => ?_, fun r c q => ?_⟩
              · rw [getD_set (by omega)]
                split
                · rw [List.length_set]; exact lr'' _ (by omega)
                · exact lr'' r hr'
              · rw [ent_set (by omega) (by rw [lr'' _ (by omega)]; omega), if_neg (by omega)]
                exact h1 r c q1 q2 q3 q4
              · rw [ent_set (by omega) (by rw [lr'' _ (by omega)]; omega)]
                by_cases e : c = kk + 1 + i
                · rw [if_pos ⟨rfl, e⟩, e]
                · rw [if_neg (by omega)]
                  exact h2 c q1 (by omega)
              · rw [ent_set (by omega) (by rw [lr'' _ (by omega)]; omega), if_neg (by omega)]
                exact h3 c (by omega)
              · rw [ent_set (by omega) (by rw [lr'' _ (by omega)]; omega), if_neg (by omega)]
                exact h4 r c q
        · have hlt : kk + f < n := by omega
          have hf1 : ent A (kk + f) kk ≠ 0 := by simpa using hf1
          rw [List.map_cons]
          repeat walk_at "s"
          refine v_ixl (by decide) (by simp <;> omega) ?_
          rw [show nth (((kk + f : Nat) : Int) :: fr.map fun i : Nat => ((kk + i : Nat) : Int)) 0 = ((kk + f : Nat) : Int) from rfl]
          repeat walk_at "s"
          by_cases z : f = 0
          · rw [show decide (((kk + f : Nat) : Int) = (kk : Int)) = true from decide_eq_true (by omega)]
            refine v_ifF ?_
            repeat walk_at "s"
            refine hnx _ _ ⟨p, A, s, _, _, _, _, _, _, rfl, by with_unfolding_all rfl, br, ?_, lA, lr, hp, hs, s1⟩
            rw [z, Nat.add_zero] at hf1; exact hf1
          · rw [show decide (((kk + f : Nat) : Int) = (kk : Int)) = false from decide_eq_false (by omega)]
            refine v_ifT ?_
            repeat walk_at "s"
            refine v_mswap (ja := kk) (js := kk + f) rfl rfl rfl rfl (by omega) (by omega) ?_
            repeat walk_at "s"
            refine hnx _ _ ⟨swp p kk (kk + f), swp A kk (kk + f), 0 - s, _, _, _, _, _, _, rfl, by with_unfolding_all rfl, br.swap lA (Nat.le_refl _) (by omega) hlt, ?_, by rw [swp_len]; exact lA, fun r hr' => ?_, fun r hr' => hp r (swp_mem (by rw [br.lp]; omega) (by rw [br.lp]; omega) hr'), ?_, by omega⟩
            · unfold ent
              rw [swp_at (by omega) (by omega), if_neg (by omega), if_pos rfl]
              exact hf1
            · rw [swp_at (by omega) (by omega)]
              split
              · exact lr _ (by omega)
              · split
                · exact lr _ (by omega)
                · exact lr _ hr'
            · rw [swp_Dt br.lp (by omega) hlt, Rat.intCast_sub, ← hs]; show (((0 : Int) : Rat) - _) * _ = _; grind
end RR
namespace RR
open PySem PySem.Spec PyProof.Rows L2
def ev (x : Rat) : List Int → Rat
  | [] => 0
  | c :: r => c + x * ev x r
theorem bd_num {n d : Int} {a : Nat} (hd : d ≠ 0) (h : bd a n) : bd a ((n : Rat) / d).num := by
  rw [← low_num hd]
  have p0 := part_ne (n := n) hd
  have : (n.fdiv (part n d)).natAbs ≤ n.natAbs := by
    have hdv : part n d ∣ n := by
      have : ((Int.gcd n d : Nat) : Int) ∣ n := Int.gcd_dvd_left ..
      unfold part; split
      · exact this
      · rw [show (0 : Int) - (Int.gcd n d : Int) = -(Int.gcd n d : Int) by omega]; exact Int.neg_dvd.mpr this
    obtain ⟨k, hk⟩ := hdv
    generalize part n d = p at *
    rw [hk, Int.mul_fdiv_cancel_left _ p0, Int.natAbs_mul]
    exact Nat.le_mul_of_pos_left _ (by omega)
  unfold bd at *; omega
theorem bd_den {n d : Int} {a : Nat} (hd : d ≠ 0) (h : bd a d) : bd a (((n : Rat) / d).den : Int) := by
  rw [← low_den hd]
  have p0 := part_ne (n := n) hd
  have : (d.fdiv (part n d)).natAbs ≤ d.natAbs := by
    have hdv : part n d ∣ d := by
      have : ((Int.gcd n d : Nat) : Int) ∣ d := Int.gcd_dvd_right ..
      unfold part; split
      · exact this
      · rw [show (0 : Int) - (Int.gcd n d : Int) = -(Int.gcd n d : Int) by omega]; exact Int.neg_dvd.mpr this
    obtain ⟨k, hk⟩ := hdv
    generalize part n d = p at *
    rw [hk, Int.mul_fdiv_cancel_left _ p0, Int.natAbs_mul]
    exact Nat.le_mul_of_pos_left _ (by omega)
  unfold bd at *; omega
def comp (g : Ser Int) : List Int → Ser Int
  | [] => 0
  | c :: r => Ser.C c + g * comp g r
theorem num_den (v : Rat) : (v.num : Rat) / ((v.den : Int) : Rat) = v := by
  rw [← Rat.divInt_eq_div]; exact Rat.num_divInt_den v
theorem den_ne (v : Rat) : (v.den : Int) ≠ 0 := by have := v.den_nz; omega
end RR
namespace RR
open PySem PySem.Spec PyProof.Rows L2
section
variable {q : D → Prop} {r r' : List Int} {d d' : Int}
end
def b_rows_content {M : Type} : DS M :=
    (dThen (dSet 1 (dC (.int 0)))
    (dThen (dFor (dSeq false (dVar 0)) (dgN 2)
      (dSet 1 (dCall s_numbers_common [] (dCons (dVar 1) (dCons (dVar 2) dNil)))))
    (dRet (dVar 1))))
def s_rows_content {M : Type} : DSp M := fun ds m Q Z => ∃ xs, ds = [.tup (zz xs)] ∧ Q (.int (gcdL xs)) m
theorem vc_rows_content {M : Type} : ∀ ds (m : M) Q Z, s_rows_content ds m Q Z → okK [false] ds ∧ b_rows_content { nx := fun _ m' => Q .non m', rt := Q, ex := Z } (st0 [false] ds 3) m := by
  rintro ds m Q Z ⟨xs, rfl, q⟩
  refine ⟨⟨fun _ => nl_row xs, trivial⟩, ?_⟩
  unfold b_rows_content
  repeat walk_at "s"
  refine v_kforZ (fun r ρ m' => m' = m ∧ ∃ (g : Nat) (a2 : Sl), ρ = [.val (.tup (zz xs)), .val (.int g), a2] ∧ r.foldl (fun g x => Int.gcd g x) g = gcdL xs) xs ⟨rfl, 0, _, rfl, rfl⟩ (fun ρ m' h => ?_) fun x r ρ m' h => ?_
  · obtain ⟨rfl, g, _, rfl, e⟩ := h
    repeat walk_at "s"
    rw [← e] at q
    exact q
  · obtain ⟨rfl, g, _, rfl, e⟩ := h
    repeat walk_at "s"
    refine ⟨_, _, rfl, ?_⟩
    repeat walk_at "s"
    exact ⟨rfl, Int.gcd g x, _, rfl, e⟩
theorem gcdL_snoc (xs : List Int) (d : Int) : gcdL (xs ++ [d]) = Int.gcd (gcdL xs) d := by
  unfold gcdL; rw [List.foldl_append]; rfl
end RR
namespace RR
open PySem PySem.Spec PyProof.Rows L2
theorem row_of {n : Nat} {f : Ser Int} (h : far n f) : ∃ xs : List Int, xs.length = n ∧ ser xs = f := by
  refine ⟨(List.range n).map f.co, by simp, Ser.ext fun k => ?_⟩
  rw [ser_co, List.getD_eq_getElem?_getD, List.getElem?_map]
  by_cases hk : k < n
  · rw [List.getElem?_range hk]; rfl
  · rw [List.getElem?_eq_none (by simp; omega), h k (by omega)]; rfl
theorem P.int {f : Ser Int} {r : List Int} (h : R f r) : P (qs f) r 1 := ⟨by decide, h.dn, Int.gcd_one, by rw [h.sr, show ((1 : Int) : Rat) = 1 from rfl, C_one]; grind⟩
theorem PB.dec {n a : Nat} {r : List Int} {d : Int} (h : (decide (r.length ≤ n) && r.all (fun x => decide (x.natAbs < 2 ^ a)) && decide (d.natAbs < 2 ^ a)) = true) : PB n a r d := by
  simp only [Bool.and_eq_true, List.all_eq_true, decide_eq_true_eq] at h
  exact ⟨h.1.1, fun x hx => h.1.2 x hx, h.2⟩
end RR
namespace RR
open PySem PySem.Spec PyProof.Rows L2
theorem P.one : P 1 [1] 1 := (P.int (r := [1]) ⟨rfl, by
  rw [ser_cons, ser_nil, C_one]
  exact (by grind : (1 : Ser Int) + xp 1 * 0 = 1)⟩).cong qs_one
theorem PB.one : PB 1 1 [1] 1 := PB.dec (by decide)
end RR
namespace RR
open PySem PySem.Spec PyProof.Rows L2
theorem enum_zz : ∀ (l : List Int) (i : Nat), enumD i (zz l) = (List.range l.length).map fun k => D.tup [.int ((i + k : Nat) : Int), .int (nth l k)]
  | [], i => rfl
  | a :: l, i => by
    show D.tup [.int (i : Int), .int a] :: enumD (i + 1) (zz l) = _
    rw [enum_zz l (i + 1), List.length_cons, List.range_succ_eq_map, List.map_cons, List.map_map]
    refine congr (congrArg List.cons rfl) (List.map_congr_left fun k _ => ?_)
    show D.tup [.int ((i + 1 + k : Nat) : Int), .int (nth l k)] = .tup [.int ((i + (k + 1) : Nat) : Int), .int (nth (a :: l) ((k + 1 : Nat) : Int))]
    rw [show i + 1 + k = i + (k + 1) by omega]
    congr 3
section
variable {M : Type} {ρ : En} {QL : List D → M → Prop} {tt : DTT M} {t : DT M}
theorem lc_enum {g : DG} {f : Nat → Int → Int} {m : M} (xs : List Int) (st : ∀ k, k < xs.length → ∀ m (K : D → M → Prop) (l : M → Prop), K (.int (f k (nth xs k))) m → g (.tup [.int k, .int (nth xs k)]) ρ fun ρ2 => tt ρ2 m (fun b m1 => if b = true then t ρ2 m1 K (fun _ _ => False) else l m1) (fun _ _ => False))
    (hl : xs.length ≤ 16777216) (h : QL (zz ((List.range xs.length).map fun k => f k (nth xs k))) m) : lcGo g tt t ρ (enumD 0 (zz xs)) [] m QL := by
  rw [enum_zz]
  refine lcGo_map (h := fun k => .int (f k (nth xs k))) (List.range xs.length) (fun k hk m K l hK => ?_) (small_line (by rw [List.length_range]; exact hl)) ?_
  · rw [Nat.zero_add]
    exact st k (List.mem_range.mp hk) m K l hK
  · rw [show (List.range xs.length).map (fun k : Nat => D.int (f k (nth xs k))) = zz ((List.range xs.length).map fun k => f k (nth xs k)) from (List.map_map ..).symm]
    exact h
end
def slope (r : List Int) : List Int := (List.range (r.length - 1)).map fun k : Nat => ((1 : Int) + k) * nth r (1 + k)
def whT (t : String) : Bool := isiB t "int" && !isiB t "bool"
def whD (d : D) : Bool := match d.ty with | some t => whT t | none => false
def NoRow (y : D) : Prop := (∃ t, y.ty = some t ∧ isiB t "tuple" = false) ∨ (∃ ys, y = .tup ys ∧ ys.length ≤ 1000 ∧ D.nls ys = true ∧ (∀ z ∈ ys, ∃ t, z.ty = some t) ∧ ∃ z ∈ ys, whD z = false)
end RR
namespace RR
open PySem PySem.Spec PyProof.Rows L2
theorem v_kIE1 {M : Type} {Q : D → M → Prop} {m : M} {x : Str} {b : Bool} (h : Q (.bl b) m) : kIE [(x, b)] Q (.exc x) m := v_kIE (by unfold List.lookup; rw [beq_self_eq_true]) h
local macro_rules | `(tactic| walk_at "s") => `(tactic| with_reducible refine v_kIE1 ?_)
end RR
namespace RR
open PySem PySem.Spec PyProof.Rows L2
section
variable {X : Cx} {C : Cn} {e f : Expr} {pos : Pos}
end
section
variable {M : Type} {ρ : En} {m : M} {Q : D → M → Prop} {Z : Str → M → Prop}
end
end RR
namespace RR
open PySem PySem.Spec PyProof.Rows L2
section
variable {X : Cx} {C : Cn} {e : Expr} {pos : Pos} {t u : DS C.W.M} {body : List Stmt}
end
section
variable {M : Type} {ρ : En} {m : M} {nx bk ct : En → M → Prop} {rt : D → M → Prop} {ex : Str → M → Prop} {s1 : DS M}
end
end RR
namespace RR
open PySem PySem.Spec PyProof.Rows L2
section
variable {X : Cx} {C : Cn} {e : Expr} {es : List Expr} {te : TE} {ta tb : TA} {pos : Pos}
def PEk (X : Cx) (e : Expr) (t : TE) : Prop :=
  ∀ (pins : List (Addr × Obj)) (s : Shared) (σ : L2.St) (H : Hp) (Q : VK), Inv X pins σ H s → t σ H Q → wpAny (model X.prog X.w) X.A (eval e X.env) (fun u s1 => 1 ≤ s1.toks ∧ EP X pins σ Q u s1) X.xe s
def JK (c : Cl) (X : Cx) (C : Cn) (e : Expr) (t : DT C.W.M) : Prop := ∃ te, PEk X e te ∧
  ∀ σ H Pr F ρ m Q Z (R : VK), SR X.K C Pr F σ ρ m H → Ex X C Pr F H σ ρ Z → t ρ m Q Z → (∀ v H', Post X.K C c Pr F H σ ρ Q v H' → R v H') → te σ H R
theorem JK.weak {t : DT C.W.M} (h : JK .f X C e t) : JK .w X C e t := by
  obtain ⟨te, p, q⟩ := h
  exact ⟨te, p, fun σ H Pr F ρ m Q Z R S E h k => q σ H Pr F ρ m Q Z R S E h fun v H' z => k v H' (z.imp fun _ _ _ _ S q => (Dv.fs q).sw S)⟩
theorem JK.strong {t : DT C.W.M} (h : JK .f X C e t) : JK .s X C e t := by
  obtain ⟨te, p, q⟩ := h
  exact ⟨te, p, fun σ H Pr F ρ m Q Z R S E h k => q σ H Pr F ρ m Q Z R S E h fun v H' z => k v H' (z.imp fun _ _ _ _ S q => Dv.fs q)⟩
def JTT (c : Cl) (X : Cx) (C : Cn) (e : Expr) (t : DT C.W.M) : Prop := ∃ te, PET X e te ∧
  ∀ σ H Pr F ρ m Q Z (R : VK), SR X.K C Pr F σ ρ m H → Ex X C Pr F H σ ρ Z → t ρ m Q Z → (∀ v H', Post X.K C c Pr F H σ ρ Q v H' → R v H') → te σ H R
theorem JTT.sf {t : DT C.W.M} (h : JTT .f X C e t) : JTT .s X C e t := by
  obtain ⟨te, p, q⟩ := h
  exact ⟨te, p, fun σ H Pr F ρ m Q Z R S E h k => q σ H Pr F ρ m Q Z R S E h fun v H' z => k v H' (z.imp fun _ _ _ _ S q => Dv.fs q)⟩
variable {st : Stmt} {rest body : List Stmt} {t u : DS C.W.M}
end
section
variable {M : Type} {ρ : En} {m : M} {Q : D → M → Prop} {Z : Str → M → Prop}
end
section
variable {X : Cx} {C : Cn} {a b : Expr} {ta tb : DT C.W.M} {pos : Pos}
end
end RR
namespace RR
open PySem PySem.Spec PyProof.Rows L2 PySem.NumText
theorem wp_maxd {M : Model} {A : Around} {E : Value → Shared → Prop} {s : Shared} {K : PySem.W.Frag} {Q : Nat → Shared → Prop} (kin : K.In s.heap) (hk : PySem.W.nsIn K cStatics "sys.int_max_str_digits" = some none) (h : Q 4300 s) : wpAny M A Builtin.intMaxStrDigits Q E s :=
  wpAny_bind ((PySem.W.looks_nsIn kin hk) A _ E s (fun _ _ e => e) (wpAny_pure h))
section
variable {X : Cx} {C : Cn} {a b c : Expr} {pos : Pos} {ta tb : DT C.W.M}
end
section
variable {M : Type} {q : D → Prop}
end
end RR
namespace RR
open PySem PySem.Spec PyProof.Rows L2
abbrev DigK (K : PySem.W.Frag) : Prop := PySem.W.nsIn K cStatics "sys.int_max_str_digits" = some none
theorem over_big {M : Model} {A : Around} {E : Value → Shared → Prop} {s : Shared} {K : PySem.W.Frag} {a : Int} {Q : Option Nat → Shared → Prop} (kin : K.In s.heap) (hk : DigK K) (h : a.natAbs.log2 < 12000) (q : Q none s) : wpAny M A (Builtin.overDigitLimit? a) Q E s := by
  unfold Builtin.overDigitLimit?
  by_cases hs : a.natAbs.log2 < 1920
  · rw [if_pos hs]
    exact wpAny_pure q
  · rw [if_neg hs]
    refine wpAny_bind (wp_maxd kin hk ?_)
    dsimp only
    rw [if_neg (show ¬ a.natAbs.log2 / 30 + 1 > 1000 by omega), if_pos (by
      have : a.natAbs.log2 < 3 * 4300 := by omega
      rw [decide_eq_true this]; rfl)]
    exact wpAny_pure q
theorem big_fits {a : Int} (h : a.natAbs.log2 < 12000) : (Str.ofString (toString a)).length ≤ sizeLine :=
  int_text_fits10 (Nat.lt_of_lt_of_le (lt_of_log2 (Nat.lt_trans h (by decide))) pow_lo)
theorem meets_int_repr {K : PySem.W.Frag} {a : Int} {t : Tok} (hk : DigK K) (h : a.natAbs.log2 < 12000) :
    Meets (Builtin.«int.__repr__» ⟨[.int a t], []⟩) (fun _ R s => K.In s.heap ∧ R (.ok (.ret (.str (toString a) s.toks))) { s with toks := s.toks + 1 }) :=
  .of_wp fun prog w A R s hS => by
    unfold Builtin.«int.__repr__»
    show wpAny _ _ (do let r ← Builtin.overDigitLimit? a; _) _ _ s
    refine wpAny_bind (over_big hS.1 hk h ?_)
    exact wpAny_bind (wpAny_mkStr (wpAny_pure ⟨_, rfl, hS.2⟩) (big_fits h))
section
variable {prog : Program} {w : World} {h₀ : Heap} {K : PySem.W.Frag}
theorem call_int_repr {A : Around} {E : Value → Shared → Prop} {s : Shared} {a : Int} {t : Tok} {Q : Value → Shared → Prop} (kin : K.In s.heap) (hk : DigK K) (h : a.natAbs.log2 < 12000) (q : Q (.str (toString a) s.toks) { s with toks := s.toks + 1 }) : wpAny (model prog w) A (call (.builtin "int.__repr__") [.int a t]) Q E s :=
  call_meets F.slot_int_repr (typeIs_int s a t) F.entry_int_repr (F.args_int_repr_1 _) (meets_int_repr hk h) ⟨kin, q⟩
theorem reprK_big (kin : K.In h₀) (hk : DigK K) {a : Int} {t : Tok} (h : a.natAbs.log2 < 12000) (as : List Addr) (d : Nat) : ReprK prog w as h₀ d (.int a t) (toString a) := fun base hb A g E s Q hg hcl hu hkeep hQ => by
  rw [pyReprUnder_leaf (v := .int a t) (by omega) (fun _ e => nomatch e)]
  unfold pyRepr
  exact wpAny_bind (wpAny_pyReprObj_slot (by omega) (typeIs_int s a t) F.slot_int_repr.toG (call_int_repr (kin.keeps hkeep) hk h ⟨_, _, rfl, wpAny_pure (hQ s.heap _ fun _ _ e => e)⟩))
end
mutual
def bigD : PyData → Bool
  | .none | .bool _ | .str _ => true
  | .int i => decide (i.natAbs.log2 < 12000)
  | .list xs | .tuple xs => bigDs xs
  | .dict _ => false
def bigDs : List PyData → Bool
  | [] => true
  | x :: xs => bigD x && bigDs xs
end
section
variable {prog : Program} {w : World} {h₀ : Heap} {K : PySem.W.Frag}
mutual
theorem bigK (kin : K.In h₀) (hk : DigK K) : ∀ {v : Value} {d : PyData} {as : List Addr}, Reads h₀ v d as → bigD d = true → d.shown.length ≤ sizeLine → ∃ bs, ReadAtMost h₀ d.depth bs ∧ ReprK prog w bs h₀ d.depth v d.shown
  | _, _, _, .none, _, _ => ⟨[], (fun _ h => nomatch h), by simp only [PyData.shown]; exact .of_is ReprIs.none _ _ _⟩
  | _, _, _, .bool b, _, _ => ⟨[], (fun _ h => nomatch h), by simp only [PyData.shown]; exact .of_is (ReprIs.bool b) _ _ _⟩
  | _, _, _, .int i t, hb, _ => ⟨[], (fun _ h => nomatch h), by
    simp only [PyData.shown]
    exact reprK_big kin hk (by simpa [bigD] using hb) _ _⟩
  | _, _, _, .str x t, _, hz => ⟨[], (fun _ h => nomatch h), by simp only [PyData.shown]; exact .of_is (ReprIs.str x t (by simpa only [PyData.shown] using hz)) _ _ _⟩
  | _, _, _, .list (a := a) (vs := vs) (xs := xs) h1 h2 h3 h4, hb, hz => by
    have hz' : (listText (PyData.shownAll xs)).length ≤ sizeLine := by simpa only [PyData.shown] using hz
    obtain ⟨bs, hbs, hks⟩ := bigKs kin hk h4 (by simpa [bigD] using hb) (fun t ht => Nat.le_trans (listText_mem_le ht) hz')
    have r : Reads h₀ (.ref a) (.list xs) _ := .list h1 h2 h3 h4
    have hna : a ∉ bs := not_mem_of_deeper r (by simp only [PyData.depth]; omega) hbs
    refine ⟨a :: bs, ReadAtMost.cons r (by simp only [PyData.depth]; omega) hbs, ?_⟩
    simp only [PyData.depth, PyData.shown]
    obtain ⟨l⟩ := vs
    cases l with
    | nil =>
      have h4' : ReadsAll h₀ [] xs _ := h4
      cases h4'
      simp only [PyData.shownAll, listText_nil]
      exact ReprK.listEmpty h1 h2 h3
    | cons x l => exact ReprK.list h1 h2 h3 hna (by simpa using hks.length_eq) (fun i y e => hks.item i y (by simpa using e))
  | _, _, _, .tuple (a := a) (xs := xs) h1 h2 h3 h4, hb, hz => by
    have hz' : (tupleText (PyData.shownAll xs)).length ≤ sizeLine := by simpa only [PyData.shown] using hz
    obtain ⟨bs, hbs, hks⟩ := bigKs kin hk h4 (by simpa [bigD] using hb) (fun t ht => Nat.le_trans (tupleText_mem_le ht) hz')
    have r : Reads h₀ (.ref a) (.tuple xs) _ := .tuple h1 h2 h3 h4
    have hna : a ∉ bs := not_mem_of_deeper r (by simp only [PyData.depth]; omega) hbs
    refine ⟨a :: bs, ReadAtMost.cons r (by simp only [PyData.depth]; omega) hbs, ?_⟩
    simp only [PyData.depth, PyData.shown]
    exact ReprK.tuple h1 h2 h3 hna hks
  | _, _, _, .dict _ _ _ _ _, hb, _ => by simp [bigD] at hb
theorem bigKs (kin : K.In h₀) (hk : DigK K) : ∀ {vs : List Value} {ds : List PyData} {as : List Addr}, ReadsAll h₀ vs ds as → bigDs ds = true → (∀ t ∈ PyData.shownAll ds, t.length ≤ sizeLine) →
    ∃ bs, ReadAtMost h₀ (PyData.depthAll ds) bs ∧ ReprAllK prog w bs h₀ (PyData.depthAll ds) vs (PyData.shownAll ds)
  | _, _, _, .nil, _, _ => ⟨[], (fun _ h => nomatch h), by simp only [PyData.shownAll]; exact .nil⟩
  | _, _, _, .cons (d := d) (ds := ds) r rs, hb, hz => by
    have hb' : bigD d = true ∧ bigDs ds = true := by simpa [bigDs] using hb
    obtain ⟨b1, hb1, k1⟩ := bigK kin hk r hb'.1 (hz _ (by simp only [PyData.shownAll]; exact List.mem_cons_self ..))
    obtain ⟨b2, hb2, k2⟩ := bigKs kin hk rs hb'.2 (fun t ht => hz t (by simp only [PyData.shownAll]; exact List.mem_cons_of_mem _ ht))
    refine ⟨b1 ++ b2, ?_, ?_⟩
    · simp only [PyData.depthAll]
      exact (hb1.mono (Nat.le_max_left _ _)).append (hb2.mono (Nat.le_max_right _ _))
    · simp only [PyData.depthAll, PyData.shownAll]
      exact .cons ((k1.more fun b hb => List.mem_append_left _ hb).level_le (Nat.le_max_left _ _)) (k2.more_le (fun b hb => List.mem_append_right _ hb) (Nat.le_max_right _ _))
end
end
section
variable {X : Cx}
end
section
variable {X : Cx} {C : Cn}
end
structure ShB (k c : Nat) (d : D) : Prop where
  q : d.q k = true
  s : bigD d.py = true
  l : d.py.shown.length ≤ c
theorem ShB.le {k k' c c' : Nat} {d : D} (h : ShB k c d) (hk : k ≤ k') (hc : c ≤ c') : ShB k' c' d := ⟨q_le h.q hk, h.s, Nat.le_trans h.l hc⟩
end RR
local macro_rules | `(tactic| walk_at "s") => `(tactic| with_reducible first
  | refine RR.v_then ?_ | refine RR.v_set ?_ | (apply RR.v_var; · with_unfolding_all exact rfl) | refine RR.v_bin ?_ | refine RR.v_c ?_ | refine RR.v_g0 ?_ | refine RR.v_add ?_ | refine RR.v_cons ?_ | refine RR.v_nil ?_ | refine RR.v_call ?_ | refine RR.v_dB ?_ | refine RR.v_next ?_ | refine RR.v_ret ?_
  | refine RR.v_ite ?_ | refine RR.v_tst ?_ | refine RR.v_kT ?_ | refine RR.v_eqi ?_ | refine RR.v_nei ?_ | refine RR.v_eqr ?_ | refine RR.v_ner ?_ | refine RR.v_eqr0 ?_ | refine RR.v_ner0 ?_ | refine RR.v_eql ?_ | refine RR.v_nel ?_ | refine RR.v_eql0 ?_ | refine RR.v_nel0 ?_ | refine RR.v_isN ?_ | refine RR.v_notN ?_
  | (apply RR.v_bor; · with_unfolding_all exact rfl) | (apply RR.v_own; · with_unfolding_all exact rfl) | refine RR.v_tup ?_ | refine RR.v_lst ?_ | (refine RR.v_sz ?_ ?_; (· with_unfolding_all exact Nat.le_of_ble_eq_true rfl)) | (refine RR.v_gIIz ?_ ?_; (· first | decide | omega))
  | refine RR.v_lentz ?_ | refine RR.v_lenlz ?_ | refine RR.v_lent ?_ | refine RR.v_lenl ?_ | refine RR.v_I1 ?_ | refine RR.v_I2 ?_ | refine RR.v_int ?_ | refine RR.v_seqlz ?_ | refine RR.v_seqtz ?_ | refine RR.v_sl ?_ | refine RR.v_kSll ?_ | refine RR.v_kSlt ?_ | refine RR.v_ono ?_ | refine RR.v_oso ?_ | refine RR.v_kOS ?_
  | refine RR.v_val ?_ | refine RR.v_kVb ?_ | refine RR.v_kVi ?_ | refine RR.v_kVt ?_ | refine RR.v_kVl ?_ | refine RR.v_and ?_ | refine RR.v_or ?_ | refine RR.v_not ?_ | refine RR.v_yes ?_ | refine RR.v_if' ?_ | refine RR.v_isi ?_ | refine RR.v_kIii ?_ | refine RR.v_kIib ?_ | refine RR.v_kItt ?_
  | refine RR.v_andV ?_ | refine RR.v_orV ?_ | refine RR.v_notV ?_ | refine RR.v_kNV ?_ | refine RR.v_neg ?_ | refine RR.v_kNeg ?_ | refine RR.v_seq ?_ | refine RR.v_kSeql ?_ | refine RR.v_kSeqt ?_ | refine RR.v_rng1 ?_ | refine RR.v_rng2 ?_ | refine RR.v_enum ?_ | refine RR.v_revr ?_ | refine RR.v_rev ?_
  | (refine RR.v_kR1 ?_ ?_ ?_; (· with_unfolding_all decide +kernel); (· with_unfolding_all decide +kernel))
  | (refine RR.v_kR2 ?_ ?_ ?_ ?_ ?_; (· with_unfolding_all decide +kernel); (· with_unfolding_all decide +kernel); (· with_unfolding_all decide +kernel); (· with_unfolding_all decide +kernel))
  | refine RR.v_gn ?_ | refine RR.v_gt2 ?_ | refine RR.v_gt3 ?_ | refine RR.v_lc ?_ | refine RR.v_for ?_ | refine RR.v_setO ?_ | refine RR.v_drop ?_ | (apply RR.v_app; · with_unfolding_all exact rfl) | (apply RR.v_setI; · with_unfolding_all exact rfl) | (apply RR.v_rel; · with_unfolding_all exact rfl) | refine RR.v_raise ?_ | refine RR.v_par ?_ | refine RR.v_kP ?_ | refine RR.v_asg ?_
  | (apply RR.v_aug; · with_unfolding_all exact rfl) | refine RR.v_ifT ?_ | refine RR.v_ifF ?_ | (refine RR.v_pow ?_ ?_ ?_ ?_; (· with_unfolding_all decide +kernel); (· with_unfolding_all decide +kernel); (· with_unfolding_all decide +kernel)) | refine RR.v_call0 ?_ | (apply RR.v_lenr; · assumption) | (apply RR.v_seqr; · assumption) | (apply RR.v_kSeqr; · assumption) | (apply RR.v_kSlr; · assumption)
  | refine RR.v_ix0 ?_ | refine RR.v_ix1 ?_ | refine RR.v_ix2 ?_ | refine RR.v_zip ?_ | refine RR.v_kZl ?_ | refine RR.v_kZt ?_ | (apply RR.v_augI; · with_unfolding_all exact rfl) | refine RR.v_try ?_ | refine RR.v_isE ?_ | (refine RR.v_kIE ?_ ?_; (· with_unfolding_all exact rfl)) | refine RR.v_isB ?_ | refine RR.v_notB ?_ | refine RR.v_all ?_ | refine RR.v_par3 ?_ | refine RR.v_ifnT ?_ | refine RR.v_ifnF ?_ | refine RR.v_eqs ?_ | refine RR.v_nes ?_ | refine RR.v_rvs ?_ | refine RR.v_kRvl ?_ | refine RR.v_kRvt ?_
  | (refine RR.v_mulb (a := ?a) (b := ?b) ?ha ?hb ?l ?h; (case ha => assumption); (case hb => assumption); (case l => omega)) | (refine RR.v_fdivb (b := ?b) ?h0 ?hb ?l ?h; (case h0 => assumption); (case hb => assumption); (case l => omega)))
local macro_rules | `(tactic| walk_at "o") => `(tactic| first | walk_at "s" | with_reducible first
  | refine RR.v_chn ?_ | refine RR.v_signs ?_ | refine RR.v_kSg ?_ | refine RR.v_inS ?_ | refine RR.v_ninS ?_ | (refine RR.v_inQ2 ?_ ?_ ?_ ?_; (· first | assumption | (with_unfolding_all decide +kernel)); (· with_unfolding_all decide +kernel); (· with_unfolding_all decide +kernel)) | (refine RR.v_inQ3 ?_ ?_ ?_ ?_ ?_; (· first | assumption | (with_unfolding_all decide +kernel)); (· with_unfolding_all decide +kernel); (· with_unfolding_all decide +kernel); (· with_unfolding_all decide +kernel)) | (refine RR.v_inQ4 ?_ ?_ ?_ ?_ ?_ ?_; (· first | assumption | (with_unfolding_all decide +kernel)); (· with_unfolding_all decide +kernel); (· with_unfolding_all decide +kernel); (· with_unfolding_all decide +kernel); (· with_unfolding_all decide +kernel))
  | refine RR.v_inF ?_ | refine RR.v_getF ?_ | refine RR.v_kGF ?_ | (refine RR.v_gGetF ?_ ?_; (· with_unfolding_all exact rfl)) | refine RR.v_slS ?_ | (refine RR.v_kSS ?_ ?_; (· first | assumption | omega)) | refine RR.v_intUi ?_ | (refine RR.v_lens ?_ ?_; (· first | assumption | omega)) | refine RR.v_dH ?_ | refine RR.v_hInt ?_ | refine RR.v_hNeg ?_ | refine RR.v_fset ?_
  | (apply RR.v_hVar; (· with_unfolding_all exact rfl); (· rfl)))
namespace RR
open PySem PySem.Spec PyProof.Rows L2
def evQ (x : Rat) : Nat → Ser Rat → Rat
  | 0, _ => 0
  | n + 1, f => f.co 0 + x * evQ x n f.tl
theorem evQ_far {x : Rat} : ∀ {n : Nat} {f : Ser Rat}, far n f → ∀ k, evQ x (n + k) f = evQ x n f
  | 0, f, h, 0 => rfl
  | 0, f, h, k + 1 => by
    have := evQ_far (x := x) (n := 0) (f := f.tl) (fun j _ => h (j + 1) (Nat.zero_le _)) k
    rw [show 0 + (k + 1) = k + 1 by omega]
    rw [show 0 + k = k by omega] at this
    show f.co 0 + x * evQ x k f.tl = 0
    rw [this, h 0 (Nat.zero_le _)]
    show 0 + x * 0 = 0
    grind
  | n + 1, f, h, k => by
    have := evQ_far (x := x) (n := n) (f := f.tl) (fun j hj => h (j + 1) (by omega)) k
    rw [show n + 1 + k = (n + k) + 1 by omega]
    show f.co 0 + x * evQ x (n + k) f.tl = _
    rw [this]; rfl
theorem evQ_le {x : Rat} {n k : Nat} {f : Ser Rat} (h : far n f) (l : n ≤ k) : evQ x k f = evQ x n f := by
  rw [show k = n + (k - n) by omega]; exact evQ_far h _
theorem evQ_add {x : Rat} : ∀ (n : Nat) (f g : Ser Rat), evQ x n (f + g) = evQ x n f + evQ x n g
  | 0, _, _ => by show (0 : Rat) = 0 + 0; grind
  | n + 1, f, g => by
    show (f.co 0 + g.co 0) + x * evQ x n (f.tl + g.tl) = (f.co 0 + x * evQ x n f.tl) + (g.co 0 + x * evQ x n g.tl)
    rw [evQ_add n]; grind
theorem evQ_scale {x : Rat} (c : Rat) : ∀ (n : Nat) (f : Ser Rat), evQ x n ⟨fun j => c * f.co j⟩ = c * evQ x n f
  | 0, _ => by show (0 : Rat) = c * 0; grind
  | n + 1, f => by
    show c * f.co 0 + x * evQ x n ⟨fun j => c * f.tl.co j⟩ = c * (f.co 0 + x * evQ x n f.tl)
    rw [evQ_scale c n]; grind
theorem evQ_mul {x : Rat} : ∀ (n : Nat) {k : Nat} {f g : Ser Rat}, far n f → far k g → evQ x (n + k) (f * g) = evQ x n f * evQ x k g
  | 0, k, f, g, hf, hg => by
    rw [far0 hf, Lean.Grind.Semiring.zero_mul]
    have := evQ_far (x := x) (n := 0) (f := (0 : Ser Rat)) far_zero k
    rw [this]
    show (0 : Rat) = 0 * _
    grind
  | n + 1, k, f, g, hf, hg => by
    rw [show n + 1 + k = (n + k) + 1 by omega]
    have ih := evQ_mul (x := x) n (f := f.tl) (g := g) (fun j hj => hf (j + 1) (by omega)) hg
    have hg2 : evQ x (n + k + 1) g = evQ x k g := by rw [show n + k + 1 = k + (n + 1) by omega]; exact evQ_far hg _
    have hg3 : evQ x (n + k + 1) g = g.co 0 + x * evQ x (n + k) g.tl := rfl
    show (f.co 0 * g.co 0) + x * evQ x (n + k) (f * g).tl = (f.co 0 + x * evQ x n f.tl) * evQ x k g
    rw [Ser.tl_mul, evQ_add, evQ_scale, ih]
    rw [hg2] at hg3
    grind
def Av (f : Ser Rat) (x v : Rat) : Prop := ∃ n, far n f ∧ evQ x n f = v
theorem Av.uniq {f : Ser Rat} {x v w : Rat} (h : Av f x v) (h' : Av f x w) : v = w := by
  obtain ⟨n, a, rfl⟩ := h
  obtain ⟨k, b, rfl⟩ := h'
  rcases Nat.le_total n k with l | l
  · exact (evQ_le a l).symm
  · exact evQ_le b l
theorem Av.add {f g : Ser Rat} {x v w : Rat} (h : Av f x v) (h' : Av g x w) : Av (f + g) x (v + w) := by
  obtain ⟨n, a, rfl⟩ := h
  obtain ⟨k, b, rfl⟩ := h'
  refine ⟨n + k, far_add (far_mono a (by omega)) (far_mono b (by omega)), ?_⟩
  rw [evQ_add, evQ_le a (by omega), evQ_le b (by omega)]
theorem Av.mul {f g : Ser Rat} {x v w : Rat} (h : Av f x v) (h' : Av g x w) : Av (f * g) x (v * w) := by
  obtain ⟨n, a, rfl⟩ := h
  obtain ⟨k, b, rfl⟩ := h'
  exact ⟨n + k, far_mono (far_mul a b) (by omega), evQ_mul n a b⟩
theorem Av.C (c x : Rat) : Av (Ser.C c) x c := ⟨1, far_C, by
  show c + x * 0 = c
  grind⟩
theorem Av.zero (x : Rat) : Av 0 x 0 := ⟨0, far_zero, rfl⟩
theorem Av.neg {f : Ser Rat} {x v : Rat} (h : Av f x v) : Av (-f) x (-v) := by
  have := (Av.C (-1) x).mul h
  have e : Ser.C (-1) * f = -f := Ser.ext fun j => by
    rw [Ser.C_mul_co, Ser.neg_co]; grind
  rw [e] at this
  rw [show -v = -1 * v by grind]
  exact this
theorem Av.sub {f g : Ser Rat} {x v w : Rat} (h : Av f x v) (h' : Av g x w) : Av (f - g) x (v - w) := by
  have := h.add h'.neg
  have e : f + -g = f - g := by grind
  rw [e] at this
  rw [show v - w = v + -w by grind]
  exact this
theorem ev_qs (x : Rat) : ∀ xs : List Int, Av (qs (ser xs)) x (ev x xs)
  | [] => by
    rw [ser_nil, qs_zero]
    exact Av.zero x
  | c :: r => by
    have ih := ev_qs x r
    obtain ⟨n, a, e⟩ := ih
    refine ⟨n + 1, fun j hj => ?_, ?_⟩
    · cases j with
      | zero => omega
      | succ j => exact a j (by omega)
    · show ((c : Int) : Rat) + x * evQ x n (qs (ser (c :: r))).tl = _
      have : (qs (ser (c :: r))).tl = qs (ser r) := rfl
      rw [this, e]; rfl
theorem P.val {f : Ser Rat} {r : List Int} {d : Int} (h : P f r d) (x : Rat) : Av f x (ev x r / (d : Rat)) := by
  have e := ev_qs x r
  rw [← h.eq] at e
  have m := (Av.C ((d : Rat)⁻¹) x).mul e
  rw [← Lean.Grind.Semiring.mul_assoc, ← C_mul, Rat.inv_mul_cancel _ h.dq] at m
  have o : Ser.C (1 : Rat) * f = f := by rw [C_one]; grind
  rw [o] at m
  rw [Rat.div_def, Rat.mul_comm]
  exact m
section
variable {M : Type}
end
end RR
namespace RR
open PySem PySem.Spec PyProof.Rows L2
section
variable {M : Type}
def rk (s : Nat) (v w : Rat) : Rat := if s = 2 then v * w else if s = 0 then v + w else v - w
theorem rk_val (s : Nat) (hs : s ≤ 2) (h : s ≠ 2) (v w : Rat) : ((v.num * w.den + (1 - 2 * (s : Int)) * w.num * v.den : Int) : Rat) / ((v.den * w.den : Int) : Rat) = rk s v w := by
  have nv := num_den v
  have nw := num_den w
  have n1 : ((v.den : Int) : Rat) ≠ 0 := cne (den_ne v)
  have n2 : ((w.den : Int) : Rat) ≠ 0 := cne (den_ne w)
  have i1 := Rat.mul_inv_cancel _ n1
  have i2 := Rat.mul_inv_cancel _ n2
  rw [Rat.div_def] at nv nw
  have : s = 0 ∨ s = 1 := by omega
  rcases this with rfl | rfl
  · unfold rk
    rw [if_neg (by decide), if_pos rfl, Rat.div_def]
    simp only [Rat.intCast_mul, Rat.intCast_add]
    rw [Rat.inv_mul_rev]
    have o : ((1 - 2 * ((0 : Nat) : Int) : Int) : Rat) = 1 := rfl
    rw [o]
    grind
  · unfold rk
    rw [if_neg (by decide), if_neg (by decide), Rat.div_def]
    simp only [Rat.intCast_mul, Rat.intCast_add]
    rw [Rat.inv_mul_rev]
    have o : ((1 - 2 * ((1 : Nat) : Int) : Int) : Rat) = -1 := rfl
    rw [o]
    grind
theorem mul_val (v w : Rat) : ((v.num * w.num : Int) : Rat) / ((v.den * w.den : Int) : Rat) = v * w := by
  have nv := num_den v
  have nw := num_den w
  rw [Rat.div_def] at nv nw
  rw [Rat.div_def, Rat.intCast_mul, Rat.intCast_mul, Rat.inv_mul_rev]
  grind
end
end RR
namespace RR
open PySem PySem.Spec PyProof.Rows L2
section
variable {M : Type}
structure PL (n a e : Nat) (r : List Int) (d : Int) : Prop where
  ln : r.length ≤ n
  bd : ∀ x ∈ r, RR.bd a x
  dd : RR.bd e d
theorem PB.pl {n a : Nat} {r : List Int} {d : Int} (h : PB n a r d) : PL n a a r d := ⟨h.ln, h.bd, h.dd⟩
theorem sub_val (u v : Rat) : ((u.num * v.den - v.num * u.den : Int) : Rat) / ((u.den * v.den : Int) : Rat) = u - v := by
  have h := rk_val 1 (by decide) (by decide) u v
  have e : u.num * v.den + (1 - 2 * ((1 : Nat) : Int)) * v.num * u.den = u.num * v.den - v.num * u.den := by
    rw [show (1 - 2 * ((1 : Nat) : Int)) = -1 from rfl]; grind
  rw [e] at h
  exact h
theorem over_val (u v : Rat) (h : v ≠ 0) : ((u.num * v.den : Int) : Rat) / ((u.den * v.num : Int) : Rat) = u / v := by
  have nu := num_den u
  have nv := num_den v
  have n2 : ((v.den : Int) : Rat) ≠ 0 := cne (den_ne v)
  have i2 := Rat.mul_inv_cancel _ n2
  rw [Rat.div_def] at nu nv
  rw [Rat.div_def, Rat.div_def, Rat.intCast_mul, Rat.intCast_mul, Rat.inv_mul_rev]
  have ev : v⁻¹ = ((v.num : Rat))⁻¹ * ((v.den : Int) : Rat) := by
    conv => lhs; rw [← nv]
    rw [Rat.inv_mul_rev, Rat.inv_inv, Rat.mul_comm]
  rw [ev]
  conv => rhs; rw [← nu]
  grind
def b_fractions_less {M : Type} : DS M :=
    (dRet (dCall s_fractions_fraction [] (dCons (dBin (g0 fun i j => .int (i - j)) (dBin gMul (dBin (gIx false) (dVar 0) (dC (.int 0))) (dBin (gIx false) (dVar 1) (dC (.int 1)))) (dBin gMul (dBin (gIx false) (dVar 1) (dC (.int 0))) (dBin (gIx false) (dVar 0) (dC (.int 1))))) (dCons (dBin gMul (dBin (gIx false) (dVar 0) (dC (.int 1))) (dBin (gIx false) (dVar 1) (dC (.int 1)))) dNil))))
def s_fractions_less {M : Type} : DSp M := fun ds m Q Z => ∃ (u v : Rat) (a a' b b' : Nat), ds = [pq u, pq v] ∧ bd a u.num ∧ bd a' (u.den : Int) ∧ bd b v.num ∧ bd b' (v.den : Int) ∧ a' + b' ≤ 9000 ∧ a + b ≤ 90000 ∧ (bd (max (a + b') (b + a') + 1) (u - v).num → bd (a' + b') ((u - v).den : Int) → Q (pq (u - v)) m)
theorem vc_fractions_less {M : Type} : ∀ ds (m : M) Q Z, s_fractions_less ds m Q Z → okK [false, false] ds ∧ b_fractions_less { nx := fun _ m' => Q .non m', rt := Q, ex := Z } (st0 [false, false] ds 2) m := by
  rintro ds m Q Z ⟨u, v, a, a', b, b', rfl, h1, h2, h3, h4, hl, hn, k⟩
  refine ⟨⟨fun _ => rfl, fun _ => rfl, trivial⟩, ?_⟩
  unfold b_fractions_less
  have m0 : ((u.den : Int) * v.den) ≠ 0 := Int.mul_ne_zero (den_ne u) (den_ne v)
  have mb := bd_mul h2 h4
  repeat walk_at "o"
  have e := sub_val u v
  refine ⟨_, (u.den : Int) * v.den, rfl, fun z => absurd z m0, fun _ => ⟨.inl (bd_mono mb (by omega)), ?_⟩⟩
  have nb : bd (max (a + b') (b + a') + 1) (u.num * v.den - v.num * u.den) := bd_mono (bd_sub (bd_mono (bd_mul h1 h4) (Nat.le_max_left _ (b + a'))) (bd_mono (bd_mul h3 h2) (Nat.le_max_right (a + b') _))) (by omega)
  have b1 := bd_num m0 nb
  have b2 := bd_den (n := u.num * v.den - v.num * u.den) m0 mb
  rw [e] at b1 b2 ⊢
  exact k b1 b2
def b_fractions_over {M : Type} : DS M :=
    (dRet (dCall s_fractions_fraction [] (dCons (dBin gMul (dBin (gIx false) (dVar 0) (dC (.int 0))) (dBin (gIx false) (dVar 1) (dC (.int 1)))) (dCons (dBin gMul (dBin (gIx false) (dVar 0) (dC (.int 1))) (dBin (gIx false) (dVar 1) (dC (.int 0)))) dNil))))
def s_fractions_over {M : Type} : DSp M := fun ds m Q Z => ∃ (u v : Rat) (a a' b b' : Nat), ds = [pq u, pq v] ∧ bd a u.num ∧ bd a' (u.den : Int) ∧ bd b v.num ∧ bd b' (v.den : Int) ∧ a' + b ≤ 9000 ∧ a + b' ≤ 90000 ∧ v ≠ 0 ∧ (bd (a + b') (u / v).num → bd (a' + b) ((u / v).den : Int) → Q (pq (u / v)) m)
theorem vc_fractions_over {M : Type} : ∀ ds (m : M) Q Z, s_fractions_over ds m Q Z → okK [false, false] ds ∧ b_fractions_over { nx := fun _ m' => Q .non m', rt := Q, ex := Z } (st0 [false, false] ds 2) m := by
  rintro ds m Q Z ⟨u, v, a, a', b, b', rfl, h1, h2, h3, h4, hl, hn, v0, k⟩
  refine ⟨⟨fun _ => rfl, fun _ => rfl, trivial⟩, ?_⟩
  unfold b_fractions_over
  have n0 : v.num ≠ 0 := fun z => v0 (by rw [← num_den v, z]; grind)
  have m0 : ((u.den : Int) * v.num) ≠ 0 := Int.mul_ne_zero (den_ne u) n0
  have mb := bd_mul h2 h3
  repeat walk_at "o"
  have e := over_val u v v0
  refine ⟨_, (u.den : Int) * v.num, rfl, fun z => absurd z m0, fun _ => ⟨.inl (bd_mono mb (by omega)), ?_⟩⟩
  have b1 := bd_num m0 (bd_mul h1 h4)
  have b2 := bd_den (n := u.num * v.den) m0 mb
  rw [e] at b1 b2 ⊢
  exact k b1 b2
end
end RR
namespace RR
open PySem PySem.Spec PyProof.Rows L2
def ppt (xs : List Int) : Int := if 0 < xs.getD (xs.length - 1) 0 then (gcdL xs : Int) else 0 - (gcdL xs : Int)
theorem ppt_abs (xs : List Int) : (ppt xs).natAbs = gcdL xs := by unfold ppt; split <;> omega
def b_rows_plain {M : Type} : DS M :=
    (dThen (dIte (dTst (dBin gEq (dVar 0) (dTup dNil)))
      (dRet (dTup (dCons (dC (.int 0)) (dCons (dTup dNil) dNil))))
      dNext)
    (dThen (dSet 1 (dIf (dTst (dBin gGt (dBin (gIx false) (dVar 0) (dNeg (dC (.int 1)))) (dC (.int 0)))) (dCall s_rows_content [] (dCons (dVar 0) dNil)) (dBin (g0 fun i j => .int (i - j)) (dC (.int 0)) (dCall s_rows_content [] (dCons (dVar 0) dNil)))))
    (dRet (dTup (dCons (dVar 1) (dCons (dB (gSeq .tup) (dCons (dLc (dSeq false (dVar 0)) (dgN 2) dYes (dBin (gII Nd fun i j => .int (i.fdiv j)) (dVar 2) (dVar 1)) [2]) dNil)) dNil))))))
def s_rows_plain {M : Type} : DSp M := fun ds m Q Z => ∃ xs, ds = [.tup (zz xs)] ∧ xs.length ≤ 1000000 ∧ (xs = [] → Q (.tup [.int 0, .tup (zz [])]) m) ∧ (xs ≠ [] → gcdL xs ≠ 0 ∧ (∀ x ∈ xs, bd 13400 x) ∧ Q (.tup [.int (ppt xs), .tup (zz (xs.map fun x => x.fdiv (ppt xs)))]) m)
theorem vc_rows_plain {M : Type} : ∀ ds (m : M) Q Z, s_rows_plain ds m Q Z → okK [false] ds ∧ b_rows_plain { nx := fun _ m' => Q .non m', rt := Q, ex := Z } (st0 [false] ds 3) m := by
  rintro ds m Q Z ⟨xs, rfl, hl, q1, q2⟩
  refine ⟨⟨fun _ => nl_row xs, trivial⟩, ?_⟩
  unfold b_rows_plain
  repeat walk_at "s"
  refine v_ifd (fun h => ?_) fun h => ?_
  · repeat walk_at "s"
    exact q1 h
  · obtain ⟨g0, hb, q⟩ := q2 h
    have p0 : ppt xs ≠ 0 := fun z => by have := ppt_abs xs; rw [z] at this; exact g0 (by simpa using this.symm)
    have fin : ∀ (ρ : En) (y : Int), ρ = [.val (.tup (zz xs)), .val (.int y), .un] → y = ppt xs → (dRet (dTup (dCons (dVar 1) (dCons (dB (gSeq .tup) (dCons (dLc (dSeq false (dVar 0)) (dgN 2) dYes (dBin (gII Nd fun i j => .int (i.fdiv j)) (dVar 2) (dVar 1)) [2]) dNil)) dNil))) : DS M) { nx := fun _ m' => Q .non m', rt := Q, ex := Z } ρ m := by
      rintro ρ y rfl rfl
      repeat walk_at "s"
      refine lc_zz (f := fun x => x.fdiv (ppt xs)) xs (fun x hx m1 k l hk => ?_) (by omega) ?_
      · repeat walk_at "s"
        refine v_fdivs p0 (.inr (hb x hx)) ?_
        exact hk
      repeat walk_at "s"
      exact q
    repeat walk_at "s"
    refine v_ixm h ?_
    repeat walk_at "s"
    refine v_ifd (fun s => ?_) fun s => ?_
    · repeat walk_at "s"
      refine ⟨xs, rfl, ?_⟩
      exact fin _ _ rfl (by unfold ppt; rw [if_pos s])
    · repeat walk_at "s"
      refine ⟨xs, rfl, ?_⟩
      refine v_g0 ?_
      exact fin _ _ rfl (by unfold ppt; rw [if_neg s])
end RR
namespace RR
theorem far_ser (r : List Int) : far r.length (ser r) := fun k hk => by rw [ser_co, getD_far hk]
theorem top_ser {r : List Int} (h : done r) (n : r ≠ []) : top (r.length - 1) (ser r) := ⟨by
  have := List.length_pos_iff.mpr n
  rw [show r.length - 1 + 1 = r.length by omega]
  exact far_ser r, by rw [ser_co]; exact done_last h n⟩
structure Stp (r0 r1 r2 : List Int) (a : Int) (q : List Int) (b : Int) : Prop where
  a0 : 0 < a
  b0 : 0 < b
  eq : Ser.C a * ser r0 = ser q * ser r1 - Ser.C b * ser r2
  ln : r2.length < r1.length
  dn : done r2
  gc : gcdL r2 = 1
  dq : done q
  g1 : Int.gcd (Int.gcd a b) (gcdL q) = 1
def Dvw (r0 r1 : List Int) (a : Int) (q : List Int) : Prop := 0 < a ∧ done q ∧ Ser.C a * ser r0 = ser q * ser r1
theorem C_mulS (a b : Int) : (Ser.C (a * b) : Ser Int) = Ser.C a * Ser.C b := Ser.ext fun k => by
  rw [Ser.C_mul_co, Ser.C_co, Ser.C_co]; split <;> grind
theorem prop_rest {r0 r1 : List Int} (d1 : done r1) (n1 : r1 ≠ []) {a a' : Int} {q q' : List Int} {s s' : Ser Int} (e : Ser.C a * ser r0 = ser q * ser r1 + s) (e' : Ser.C a' * ser r0 = ser q' * ser r1 + s') (f : far (r1.length - 1) s) (f' : far (r1.length - 1) s') :
    Ser.C a' * ser q = Ser.C a * ser q' ∧ Ser.C a' * s = Ser.C a * s' := by
  have h : (Ser.C a' * ser q) * ser r1 + Ser.C a' * s = (Ser.C a * ser q') * ser r1 + Ser.C a * s' := by
    calc _ = Ser.C a' * (ser q * ser r1 + s) := by grind
      _ = Ser.C a' * (Ser.C a * ser r0) := by rw [e]
      _ = Ser.C a * (Ser.C a' * ser r0) := by grind
      _ = Ser.C a * (ser q' * ser r1 + s') := by rw [e']
      _ = _ := by grind
  exact div_uniq dom_int (N := max q.length q'.length) (top_ser d1 n1) (far_mono (far_scale (far_ser q)) (by omega)) (far_mono (far_scale (far_ser q')) (by omega)) (far_scale f) (far_scale f') h
theorem gcdL_pos_mul {a : Nat} {r r' : List Int} (h : ∀ k, (a : Int) * r.getD k 0 = r'.getD k 0) : gcdL r' = a * gcdL r := by
  have e1 : a * gcdL r ∣ gcdL r' := gcdL_great fun x hx => by
    obtain ⟨i, hi, rfl⟩ := List.mem_iff_getElem.mp hx
    have e := h i
    rw [List.getD_eq_getElem?_getD (l := r'), List.getElem?_eq_getElem hi] at e
    have e : (a : Int) * r.getD i 0 = r'[i] := e
    rw [← e, Int.natCast_mul]
    refine Int.mul_dvd_mul (Int.dvd_refl _) ?_
    by_cases z : i < r.length
    · rw [List.getD_eq_getElem?_getD, List.getElem?_eq_getElem z]; exact gcdL_dvd (List.getElem_mem z)
    · rw [getD_far (by omega)]; exact Int.dvd_zero _
  have e2 : ∀ x ∈ r, (gcdL r' : Int) ∣ (a : Int) * x := fun x hx => by
    obtain ⟨i, hi, rfl⟩ := List.mem_iff_getElem.mp hx
    have e := h i
    rw [List.getD_eq_getElem?_getD (l := r), List.getElem?_eq_getElem hi] at e
    have e : (a : Int) * r[i] = r'.getD i 0 := e
    rw [e]
    by_cases z : i < r'.length
    · rw [List.getD_eq_getElem?_getD, List.getElem?_eq_getElem z]; exact gcdL_dvd (List.getElem_mem z)
    · rw [getD_far (by omega)]; exact Int.dvd_zero _
  have e3 : gcdL r' ∣ a * gcdL r := by
    have : gcdL (r.map fun x => (a : Int) * x) = a * gcdL r := by
      clear e1 e2 h
      induction r using strip_ind with
      | h0 => show 0 = a * 0; rw [Nat.mul_zero]
      | h1 r x ih =>
        rw [List.map_append, List.map_singleton, gcdL_snoc, gcdL_snoc, ih, Int.natCast_mul, Int.gcd_mul_left]; rfl
    rw [← this]
    exact gcdL_great fun x hx => by
      obtain ⟨y, hy, rfl⟩ := List.mem_map.mp hx
      exact e2 y hy
  exact Nat.dvd_antisymm e3 e1
theorem ne_of_gc {r : List Int} (h : gcdL r = 1) : r ≠ [] := fun z => by rw [z] at h; exact absurd h (by decide)
theorem gcd_three {a b c : Int} {g : Nat} (x y z : Int) (h : Int.gcd (Int.gcd a b) c = 1) (hx : (g : Int) ∣ x * a) (hy : (g : Int) ∣ x * b) (hz : (g : Int) ∣ x * c) : (g : Int) ∣ x := by
  have h1 : (g : Int) ∣ ((Int.gcd (x * a) (x * b) : Nat) : Int) := Int.dvd_coe_gcd hx hy
  rw [Int.gcd_mul_left] at h1
  have hz' : (g : Int) ∣ (x.natAbs : Int) * c := by
    rcases Int.natAbs_eq x with e | e
    · rw [← e]; exact hz
    · have : (x.natAbs : Int) * c = -(x * c) := by
        have : (x.natAbs : Int) = -x := by omega
        rw [this, Int.neg_mul]
      rw [this]; exact Int.dvd_neg.mpr hz
  have h1' : (g : Int) ∣ (x.natAbs : Int) * ((Int.gcd a b : Nat) : Int) := by rw [← Int.natCast_mul]; exact h1
  have h2 : (g : Int) ∣ ((Int.gcd ((x.natAbs : Int) * ((Int.gcd a b : Nat) : Int)) ((x.natAbs : Int) * c) : Nat) : Int) := Int.dvd_coe_gcd h1' hz'
  rw [Int.gcd_mul_left, h, Nat.mul_one, Int.natAbs_natCast] at h2
  exact Int.dvd_natAbs.mp h2
theorem pos_scale {x y : Int} (hx : 0 < x) (hy : 0 < y) {r r' : List Int} (h : Ser.C x * ser r = Ser.C y * ser r') (g : gcdL r = 1) (g' : gcdL r' = 1) : x = y := by
  have e : ∀ k, x * r.getD k 0 = y * r'.getD k 0 := fun k => by
    have := congrArg (fun f => Ser.co f k) h
    have : (Ser.C x * ser r).co k = (Ser.C y * ser r').co k := this
    rwa [Ser.C_mul_co, Ser.C_mul_co] at this
  have e1 := gcdL_pos_mul (a := x.natAbs) (r := r) (r' := r'.map fun z => y * z) fun k => by
    rw [map_co (by simp), show ((x.natAbs : Nat) : Int) = x by omega]; exact e k
  have e2 := gcdL_pos_mul (a := y.natAbs) (r := r') (r' := r'.map fun z => y * z) fun k => by
    rw [map_co (by simp), show ((y.natAbs : Nat) : Int) = y by omega]
  rw [g] at e1
  rw [g'] at e2
  omega
theorem Stp.far {r0 r1 r2 q : List Int} {a b : Int} (h : Stp r0 r1 r2 a q b) : RR.far (r1.length - 1) (-(Ser.C b * ser r2)) := far_neg (far_scale (far_mono (far_ser r2) (by have := h.ln; omega)))
theorem Stp.uniq {r0 r1 r2 r2' q q' : List Int} {a a' b b' : Int} (d1 : done r1) (n1 : r1 ≠ []) (h : Stp r0 r1 r2 a q b) (h' : Stp r0 r1 r2' a' q' b') : r2 = r2' ∧ a = a' ∧ q = q' ∧ b = b' := by
  obtain ⟨eq, er⟩ := prop_rest d1 n1 (a := a) (a' := a') (q := q) (q' := q') (s := -(Ser.C b * ser r2)) (s' := -(Ser.C b' * ser r2')) (by rw [h.eq]; grind) (by rw [h'.eq]; grind) h.far h'.far
  have er : Ser.C (a' * b) * ser r2 = Ser.C (a * b') * ser r2' := by
    rw [C_mulS, C_mulS]
    have : Ser.C a' * (Ser.C b * ser r2) = Ser.C a * (Ser.C b' * ser r2') := by grind
    grind
  have p1 := Int.mul_pos h'.a0 h.b0
  have p2 := Int.mul_pos h.a0 h'.b0
  have ab := pos_scale p1 p2 er h.gc h'.gc
  have e2 : r2 = r2' := done_uniq h.dn h'.dn (C_cancel (Int.ne_of_gt p2) (by rw [ab] at er; exact er))
  have qk : ∀ k, a' * q.getD k 0 = a * q'.getD k 0 := fun k => by
    have := congrArg (fun f => Ser.co f k) eq
    have : (Ser.C a' * ser q).co k = (Ser.C a * ser q').co k := this
    rwa [Ser.C_mul_co, Ser.C_mul_co] at this
  have gq : a'.natAbs * gcdL q = a.natAbs * gcdL q' := by
    have e1 := gcdL_pos_mul (a := a'.natAbs) (r := q) (r' := q'.map fun z => a * z) fun k => by
      rw [map_co (by simp), show ((a'.natAbs : Nat) : Int) = a' by have := h'.a0; omega]; exact qk k
    have e2 := gcdL_pos_mul (a := a.natAbs) (r := q') (r' := q'.map fun z => a * z) fun k => by
      rw [map_co (by simp), show ((a.natAbs : Nat) : Int) = a by have := h.a0; omega]
    omega
  have aa : a = a' := by
    have ha := h.a0
    have ha' := h'.a0
    have d1 : ((a.natAbs : Nat) : Int) ∣ a' := gcd_three (g := a.natAbs) a' 0 0 h.g1 ⟨a', by rw [show ((a.natAbs : Nat) : Int) = a by omega, Int.mul_comm]⟩ ⟨b', by rw [ab, show ((a.natAbs : Nat) : Int) = a by omega]⟩ ⟨gcdL q', by
      have : ((a'.natAbs * gcdL q : Nat) : Int) = ((a.natAbs * gcdL q' : Nat) : Int) := by rw [gq]
      rw [Int.natCast_mul, Int.natCast_mul] at this
      rw [show ((a'.natAbs : Nat) : Int) = a' by omega] at this
      exact this⟩
    have d2 : ((a'.natAbs : Nat) : Int) ∣ a := gcd_three (g := a'.natAbs) a 0 0 h'.g1 ⟨a, by rw [show ((a'.natAbs : Nat) : Int) = a' by omega, Int.mul_comm]⟩ ⟨b, by rw [← ab, show ((a'.natAbs : Nat) : Int) = a' by omega]⟩ ⟨gcdL q, by
      have : ((a'.natAbs * gcdL q : Nat) : Int) = ((a.natAbs * gcdL q' : Nat) : Int) := by rw [gq]
      rw [Int.natCast_mul, Int.natCast_mul] at this
      rw [show ((a.natAbs : Nat) : Int) = a by omega] at this
      exact this.symm⟩
    have l1 := Int.le_of_dvd ha' d1
    have l2 := Int.le_of_dvd ha d2
    omega
  subst aa
  have ha := h.a0
  refine ⟨e2, rfl, done_uniq h.dq h'.dq (C_cancel (Int.ne_of_gt ha) eq), Int.eq_of_mul_eq_mul_left (Int.ne_of_gt ha) ab⟩
structure Ch (r0 r1 : List Int) (rs : List (List Int)) (ss : List (Int × List Int × Int)) : Prop where
  len : rs.length = ss.length + 2
  c0 : rs[0]? = some r0
  c1 : rs[1]? = some r1
  st : ∀ (i : Nat) s, ss[i]? = some s → ∃ x y z, rs[i]? = some x ∧ rs[i + 1]? = some y ∧ rs[i + 2]? = some z ∧ Stp x y z s.1 s.2.1 s.2.2
structure Hd (r0 r1 : List Int) : Prop where
  d0 : done r0
  d1 : done r1
  g0 : gcdL r0 = 1
  g1 : gcdL r1 = 1
  ln : r1.length < r0.length
section
variable {r0 r1 : List Int} {rs rs' : List (List Int)} {ss ss' : List (Int × List Int × Int)}
theorem Ch.row (H : Hd r0 r1) (h : Ch r0 r1 rs ss) {i : Nat} {r : List Int} (e : rs[i]? = some r) : done r ∧ gcdL r = 1 := by
  match i, e with
  | 0, e => rw [h.c0] at e; cases e; exact ⟨H.d0, H.g0⟩
  | 1, e => rw [h.c1] at e; cases e; exact ⟨H.d1, H.g1⟩
  | i + 2, e =>
    have li : i < ss.length := by have := (List.getElem?_eq_some_iff.mp e).1; have := h.len; omega
    obtain ⟨x, y, z, _, _, e3, s⟩ := h.st i _ (List.getElem?_eq_getElem li)
    rw [e] at e3; cases e3
    exact ⟨s.dn, s.gc⟩
theorem Ch.falls (H : Hd r0 r1) (h : Ch r0 r1 rs ss) {i : Nat} {x y : List Int} (ex : rs[i]? = some x) (ey : rs[i + 1]? = some y) : y.length < x.length := by
  match i, ex, ey with
  | 0, ex, ey =>
    rw [h.c0] at ex; cases ex
    rw [h.c1] at ey; cases ey
    exact H.ln
  | i + 1, ex, ey =>
    have li : i < ss.length := by have := (List.getElem?_eq_some_iff.mp ey).1; have := h.len; omega
    obtain ⟨_, y', z, _, e2, e3, s⟩ := h.st i _ (List.getElem?_eq_getElem li)
    rw [ex] at e2; cases e2
    rw [ey] at e3; cases e3
    exact s.ln
theorem Ch.same (H : Hd r0 r1) (h : Ch r0 r1 rs ss) (h' : Ch r0 r1 rs' ss') : ∀ (i : Nat) {x x' : List Int}, rs[i]? = some x → rs'[i]? = some x' → x = x' := by
  intro i
  induction i using Nat.strongRecOn with
  | _ i ih =>
    intro x x' e e'
    match i, e, e' with
    | 0, e, e' => rw [h.c0] at e; rw [h'.c0] at e'; cases e; cases e'; rfl
    | 1, e, e' => rw [h.c1] at e; rw [h'.c1] at e'; cases e; cases e'; rfl
    | i + 2, e, e' =>
      have l1 : i < ss.length := by have := (List.getElem?_eq_some_iff.mp e).1; have := h.len; omega
      have l2 : i < ss'.length := by have := (List.getElem?_eq_some_iff.mp e').1; have := h'.len; omega
      obtain ⟨a, b, c, e1, e2, e3, s⟩ := h.st i _ (List.getElem?_eq_getElem l1)
      obtain ⟨a', b', c', f1, f2, f3, s'⟩ := h'.st i _ (List.getElem?_eq_getElem l2)
      rw [e] at e3; cases e3
      rw [e'] at f3; cases f3
      obtain rfl := ih i (by omega) e1 f1
      obtain rfl := ih (i + 1) (by omega) e2 f2
      have rw_ := h.row H e2
      exact (Stp.uniq rw_.1 (ne_of_gc rw_.2) s s').1
theorem Ch.steps (H : Hd r0 r1) (h : Ch r0 r1 rs ss) (h' : Ch r0 r1 rs' ss') (i : Nat) {s s' : Int × List Int × Int} (e : ss[i]? = some s) (e' : ss'[i]? = some s') : s = s' := by
  obtain ⟨a, b, c, e1, e2, e3, t⟩ := h.st i _ e
  obtain ⟨a', b', c', f1, f2, f3, t'⟩ := h'.st i _ e'
  obtain rfl := h.same H h' i e1 f1
  obtain rfl := h.same H h' (i + 1) e2 f2
  have rw_ := h.row H e2
  obtain ⟨_, h2, h3, h4⟩ := Stp.uniq rw_.1 (ne_of_gc rw_.2) t t'
  exact Prod.ext h2 (Prod.ext h3 h4)
structure Lone (r0 r1 : List Int) (rs : List (List Int)) (ss : List (Int × List Int × Int)) : Prop where
  ch : Ch r0 r1 rs ss
  last : ∃ z, rs[ss.length + 1]? = some z ∧ z.length = 1
structure Shut (r0 r1 : List Int) (rs : List (List Int)) (ss : List (Int × List Int × Int)) : Prop where
  ch : Ch r0 r1 rs ss
  last : ∃ y z a q, rs[ss.length]? = some y ∧ rs[ss.length + 1]? = some z ∧ 2 ≤ z.length ∧ Dvw y z a q
theorem Lone.uniq (H : Hd r0 r1) (h : Lone r0 r1 rs ss) (h' : Lone r0 r1 rs' ss') : rs = rs' ∧ ss = ss' := by
  have key : ∀ {rs rs' : List (List Int)} {ss ss' : List (Int × List Int × Int)}, Lone r0 r1 rs ss → Lone r0 r1 rs' ss' → ss.length ≤ ss'.length → ss'.length ≤ ss.length := fun {rs rs' ss ss'} h h' l => by
    refine Nat.le_of_not_lt fun lt => ?_
    obtain ⟨z, ez, lz⟩ := h.last
    have l2 : ss.length + 2 < rs'.length + 0 := by have := h'.ch.len; omega
    have e1 := List.getElem?_eq_getElem (l := rs') (i := ss.length + 1) (by omega)
    have e2 := List.getElem?_eq_getElem (l := rs') (i := ss.length + 2) (by omega)
    have s := h.ch.same H h'.ch _ ez e1
    have f := h'.ch.falls H e1 e2
    have g := h'.ch.row H e2
    have n := List.length_pos_iff.mpr (ne_of_gc g.2)
    rw [← s] at f
    omega
  have es : ss.length = ss'.length := by
    rcases Nat.le_total ss.length ss'.length with l | l
    · exact Nat.le_antisymm l (key h h' l)
    · exact Nat.le_antisymm (key h' h l) l
  refine ⟨List.ext_getElem (by rw [h.ch.len, h'.ch.len, es]) fun i a b => h.ch.same H h'.ch i (List.getElem?_eq_getElem a) (List.getElem?_eq_getElem b), List.ext_getElem es fun i a b => h.ch.steps H h'.ch i (List.getElem?_eq_getElem a) (List.getElem?_eq_getElem b)⟩
end
end RR
namespace RR
theorem ser_back (k : Nat) (xs : List Int) : ser (List.replicate k 0 ++ xs) = xp k * ser xs := Ser.ext fun j => by
  rw [ser_co, xp_mul_co, List.getD_eq_getElem?_getD]
  by_cases h : k ≤ j
  · rw [if_pos h, List.getElem?_append_right (by simpa using h), List.length_replicate, ser_co, List.getD_eq_getElem?_getD]
  · rw [if_neg h, List.getElem?_append_left (by simp; omega), List.getElem?_replicate, if_pos (by omega)]; rfl
theorem done_snoc' {xs : List Int} {v : Int} (h : v ≠ 0) : done (xs ++ [v]) := by unfold done; rw [strip_snoc, if_neg h]
theorem ser_one (x : Int) : ser [x] = Ser.C x := by
  rw [ser_cons, ser_nil]
  grind
theorem done_of_last {xs : List Int} (h : xs.getD (xs.length - 1) 0 ≠ 0) : done xs := by
  induction xs using strip_ind with
  | h0 => rfl
  | h1 r x _ => exact done_snoc' (by simpa using h)
theorem fd_back {x d : Int} (h : d ∣ x) : d * x.fdiv d = x := Int.mul_fdiv_cancel' h
theorem fd_le {x d : Int} (d0 : d ≠ 0) (h : d ∣ x) : (x.fdiv d).natAbs ≤ x.natAbs := by
  have e := congrArg Int.natAbs (fd_back h)
  rw [Int.natAbs_mul] at e
  rw [← e]
  exact Nat.le_mul_of_pos_left _ (by omega)
theorem div_ser {xs : List Int} {d : Int} (h : ∀ x ∈ xs, d ∣ x) : Ser.C d * ser (xs.map fun x => x.fdiv d) = ser xs := Ser.ext fun k => by
  rw [Ser.C_mul_co, ser_co, ser_co, List.getD_eq_getElem?_getD, List.getD_eq_getElem?_getD, List.getElem?_map]
  by_cases l : k < xs.length
  · rw [List.getElem?_eq_getElem l]
    exact fd_back (h _ (List.getElem_mem l))
  · rw [List.getElem?_eq_none (by omega)]
    exact Int.mul_zero _
theorem div_done {xs : List Int} {d : Int} (d0 : d ≠ 0) (h : ∀ x ∈ xs, d ∣ x) (dx : done xs) : done (xs.map fun x => x.fdiv d) := by
  cases xs with
  | nil => rfl
  | cons x r =>
    refine done_of_last fun z => done_last dx (by simp) ?_
    have e := congrArg (fun f => Ser.co f ((x :: r).length - 1)) (div_ser h)
    have e : (Ser.C d * ser ((x :: r).map fun x => x.fdiv d)).co ((x :: r).length - 1) = (ser (x :: r)).co ((x :: r).length - 1) := e
    rw [Ser.C_mul_co, ser_co, ser_co] at e
    rw [List.length_map] at z
    rw [← e, z, Int.mul_zero]
theorem div_bd {xs : List Int} {d : Int} {a : Nat} (d0 : d ≠ 0) (h : ∀ x ∈ xs, d ∣ x) (b : ∀ x ∈ xs, bd a x) : ∀ x ∈ xs.map fun x => x.fdiv d, bd a x := fun x hx => by
  obtain ⟨y, hy, rfl⟩ := List.mem_map.mp hx
  have := b y hy
  unfold bd at *
  exact Nat.lt_of_le_of_lt (fd_le d0 (h y hy)) this
def rF (e o : Int) : Int := (o.natAbs : Int).fdiv (Int.gcd e o)
def rL (e o : Int) : Int := if 0 < o then e.fdiv (Int.gcd e o) else 0 - e.fdiv (Int.gcd e o)
theorem gcd_ne {e o : Int} (o0 : o ≠ 0) : ((Int.gcd e o : Nat) : Int) ≠ 0 := fun z => by
  have : Int.gcd e o = 0 := by omega
  exact o0 (Int.gcd_eq_zero_iff.mp this).2
theorem round_eq {e o : Int} (o0 : o ≠ 0) : 0 < rF e o ∧ rF e o * e = rL e o * o := by
  have g0 := gcd_ne (e := e) o0
  have d1 : ((Int.gcd e o : Nat) : Int) ∣ e := Int.gcd_dvd_left ..
  have d2 : ((Int.gcd e o : Nat) : Int) ∣ (o.natAbs : Int) := Int.dvd_natAbs.mpr (Int.gcd_dvd_right ..)
  have e1 := fd_back d1
  have e2 := fd_back d2
  have e2 : ((Int.gcd e o : Nat) : Int) * rF e o = (o.natAbs : Int) := e2
  generalize hx : e.fdiv ((Int.gcd e o : Nat) : Int) = x at e1
  obtain ⟨g, hg⟩ : ∃ g : Int, g = ((Int.gcd e o : Nat) : Int) := ⟨_, rfl⟩
  rw [← hg] at e1 e2 g0
  have gp : 0 < g := by omega
  refine ⟨?_, ?_⟩
  · refine Int.pos_of_mul_pos_right (a := g) (by rw [e2]; omega) (by omega)
  · refine Int.eq_of_mul_eq_mul_left g0 ?_
    clear d1 d2
    unfold rL
    rw [hx]
    split
    · rename_i s
      have : (o.natAbs : Int) = o := by omega
      rw [← Int.mul_assoc, e2, this, ← Int.mul_assoc, e1, Int.mul_comm]
    · rename_i s
      have : (o.natAbs : Int) = -o := by omega
      rw [← Int.mul_assoc, e2, this]
      have e3 : g * ((0 - x) * o) = -(g * x * o) := by grind
      rw [e3, e1]; grind
theorem round_bd {e o : Int} {a b : Nat} (o0 : o ≠ 0) (he : bd a e) (ho : bd b o) : bd b (rF e o) ∧ bd a (rL e o) := by
  have g0 := gcd_ne (e := e) o0
  have h1 := fd_le g0 (Int.gcd_dvd_left (a := e) (b := o))
  have h2 := fd_le (x := (o.natAbs : Int)) g0 (Int.dvd_natAbs.mpr (Int.gcd_dvd_right ..))
  unfold bd rF rL at *
  refine ⟨by omega, ?_⟩
  split <;> omega
structure SF (r0 r1 : List Int) (A0 A1 : Nat) (many : Int) (q rest : List Int) (t : Nat) : Prop where
  m0 : 0 < many
  dq : done q
  dr : done rest
  eq : Ser.C many * ser r0 = ser q * ser r1 + ser rest
  tl : t + rest.length ≤ r0.length
  tm : t + r1.length ≤ r0.length + 1
  bm : bd (t * A1 + 1) many
  lq : q.length ≤ r0.length
  bq : ∀ x ∈ q, bd (A0 + t * (A1 + 1)) x
  br : ∀ x ∈ rest, bd (A0 + t * (A1 + 1)) x
theorem SF.start {r0 r1 : List Int} {A0 A1 : Nat} (d0 : done r0) (l : r1.length ≤ r0.length) (h0 : ∀ x ∈ r0, bd A0 x) : SF r0 r1 A0 A1 1 [] r0 0 :=
  ⟨by decide, rfl, d0, by rw [ser_nil, C_one]; grind, by omega, by omega, by rw [Nat.zero_mul]; unfold bd; decide, Nat.zero_le _, fun x hx => by simp at hx, by rw [Nat.zero_mul]; exact h0⟩
theorem SF.next {r0 r1 : List Int} {A0 A1 : Nat} {many : Int} {q rest q1 s q' u v w rest' : List Int} {t : Nat} {e o : Int} {far_ : Nat} (h : SF r0 r1 A0 A1 many q rest t) (n1 : r1 ≠ []) (d1 : done r1) (le : r1.length ≤ rest.length) (h1 : ∀ x ∈ r1, bd A1 x)
    (he : e = rest.getD (rest.length - 1) 0) (ho : o = r1.getD (r1.length - 1) 0) (hf : far_ = rest.length - r1.length)
    (q1_ : R (Ser.C (rF e o) * ser q) q1) (s_ : R (ser (List.replicate far_ 0 ++ [rL e o])) s) (q'_ : R (ser q1 + ser s) q') (u_ : R (Ser.C (rF e o) * ser rest) u) (v_ : R (Ser.C (rL e o) * ser r1) v) (w_ : R (ser (List.replicate far_ 0 ++ v)) w) (r_ : R (ser u + Ser.C (-1) * ser w) rest') :
    SF r0 r1 A0 A1 (many * rF e o) q' rest' (t + 1) ∧ rest'.length < rest.length := by
  have l1 := List.length_pos_iff.mpr n1
  have o0 : o ≠ 0 := by rw [ho]; exact done_last d1 n1
  have be : bd (A0 + t * (A1 + 1)) e := by rw [he]; exact (B.of (Nat.le_refl _) h.br).bd _
  have bo : bd A1 o := by rw [ho]; exact (B.of (Nat.le_refl _) h1).bd _
  obtain ⟨bF, bL⟩ := round_bd o0 be bo
  obtain ⟨f0, fe⟩ := round_eq (e := e) o0
  obtain ⟨F, hF⟩ : ∃ F, F = rF e o := ⟨_, rfl⟩
  obtain ⟨L, hL⟩ : ∃ L, L = rL e o := ⟨_, rfl⟩
  rw [← hF] at q1_ u_ bF f0 fe ⊢
  rw [← hL] at s_ v_ bL fe
  have sr : ser rest' = Ser.C F * ser rest - Ser.C L * (xp far_ * ser r1) := by
    rw [r_.sr, u_.sr, w_.sr, ser_back, v_.sr, C_neg, C_one]; grind
  have sq : ser q' = Ser.C F * ser q + Ser.C L * xp far_ := by
    rw [q'_.sr, q1_.sr, s_.sr, ser_back, ser_one]; grind
  have tt : A0 + (t + 1) * (A1 + 1) = A1 + (A0 + t * (A1 + 1)) + 1 := by rw [Nat.succ_mul]; omega
  have B1 : B rest.length (A1 + (A0 + t * (A1 + 1))) (Ser.C F * ser rest) := B.scale bF (B.of (Nat.le_refl _) h.br)
  have B2 : B rest.length (A1 + (A0 + t * (A1 + 1))) (Ser.C L * (xp far_ * ser r1)) := (B.scale bL (B.shift (k := far_) (B.of (Nat.le_refl _) h1))).mono (by omega) (by omega)
  have B3 : B rest.length (A0 + (t + 1) * (A1 + 1)) (ser rest') := by rw [sr, tt]; exact B1.sub' B2
  have B4 : B (rest.length - 1) (A0 + (t + 1) * (A1 + 1)) (ser rest') := ⟨fun k hk => by
    by_cases z : rest.length ≤ k
    · exact B3.far k z
    · have kk : k = rest.length - 1 := by omega
      subst kk
      rw [sr, Ser.sub_co, Ser.C_mul_co, Ser.C_mul_co, xp_mul_co, if_pos (by omega), ser_co, ser_co, ← he, show rest.length - 1 - far_ = r1.length - 1 by omega, ← ho, fe]
      omega, B3.bd⟩
  have ll := (R.mk r_.dn rfl).len B4
  have B5 : B r0.length (A0 + (t + 1) * (A1 + 1)) (ser q') := by
    rw [sq, tt]
    refine B.add' ((B.scale bF (B.of h.lq h.bq)).mono (Nat.le_refl _) (Nat.le_refl _)) ?_
    have bx : B (far_ + 1) (A0 + t * (A1 + 1) + 0 + 1) (Ser.C L * xp far_) := ⟨fun k hk => by rw [Ser.C_mul_co, xp_co, if_neg (by omega), Int.mul_zero], fun k => by
      rw [Ser.C_mul_co, xp_co]
      split
      · rw [Int.mul_one]; exact bd_mono bL (by omega)
      · rw [Int.mul_zero]; unfold bd; exact Nat.pow_pos (by decide)⟩
    have bx : B (far_ + 1) (A0 + t * (A1 + 1)) (Ser.C L * xp far_) := ⟨bx.far, fun k => by
      rw [Ser.C_mul_co, xp_co]
      split
      · rw [Int.mul_one]; exact bL
      · rw [Int.mul_zero]; unfold bd; exact Nat.pow_pos (by decide)⟩
    have := h.tl
    exact bx.mono (by omega) (by omega)
  refine ⟨⟨Int.mul_pos h.m0 f0, q'_.dn, r_.dn, ?_, ?_, ?_, ?_, (R.mk q'_.dn rfl).len B5, (R.mk q'_.dn rfl).bds B5, (R.mk r_.dn rfl).bds B3⟩, by omega⟩
  · rw [C_mulS, sq, sr]
    have := h.eq
    grind
  · have := h.tl
    omega
  · have := h.tl
    omega
  · rw [Nat.succ_mul, show t * A1 + A1 + 1 = (t * A1 + 1) + A1 by omega]
    exact bd_mul h.bm bF
theorem SF.ends {r0 r1 : List Int} {A0 A1 : Nat} {many : Int} {q : List Int} {t : Nat} (h : SF r0 r1 A0 A1 many q [] t) : Dvw r0 r1 many q := ⟨h.m0, h.dq, by rw [h.eq, ser_nil]; grind⟩
theorem goes0 {r0 r1 : List Int} {many : Int} {q rest : List Int} (m0 : 0 < many) (hdq : done q) (hdr : done rest) (hh : Ser.C many * ser r0 = ser q * ser r1 + ser rest) (n : rest ≠ []) (lt : rest.length < r1.length) {both : Int} (hb : both = Int.gcd (Int.gcd many (gcdL rest)) (gcdL q)) :
    both ≠ 0 ∧ (0 - (gcdL rest : Int)) ≠ 0 ∧ (∀ x ∈ rest, (0 - (gcdL rest : Int)) ∣ x) ∧ (∀ x ∈ q, both ∣ x) ∧ both.natAbs ≤ many.natAbs ∧ both ∣ many ∧ both ∣ (gcdL rest : Int) ∧
    Stp r0 r1 (rest.map fun x => x.fdiv (0 - (gcdL rest : Int))) (many.fdiv both) (q.map fun x => x.fdiv both) ((gcdL rest : Int).fdiv both) := by
  have g0 : gcdL rest ≠ 0 := fun z => by
    have e := done_last hdr n
    have l := List.length_pos_iff.mpr n
    have := gcdL_dvd (xs := rest) (x := rest.getD (rest.length - 1) 0) (by
      rw [List.getD_eq_getElem?_getD, List.getElem?_eq_getElem (by omega)]; exact List.getElem_mem _)
    rw [z] at this
    exact e (Int.zero_dvd.mp this)
  have b1 : both ∣ many := by rw [hb]; exact Int.dvd_trans (Int.gcd_dvd_left ..) (Int.gcd_dvd_left ..)
  have b2 : both ∣ (gcdL rest : Int) := by rw [hb]; exact Int.dvd_trans (Int.gcd_dvd_left ..) (Int.gcd_dvd_right ..)
  have b3 : both ∣ (gcdL q : Int) := by rw [hb]; exact Int.gcd_dvd_right ..
  have bnz : both ≠ 0 := fun z => by rw [z] at b1; have := Int.zero_dvd.mp b1; omega
  have bp : 0 < both := by
    have : 0 ≤ both := by rw [hb]; exact Int.natCast_nonneg _
    omega
  have dr : ∀ x ∈ rest, (0 - (gcdL rest : Int)) ∣ x := fun x hx => by
    rw [Int.zero_sub]; exact Int.neg_dvd.mpr (gcdL_dvd hx)
  have dq : ∀ x ∈ q, both ∣ x := fun x hx => Int.dvd_trans b3 (gcdL_dvd hx)
  have gz : (0 - (gcdL rest : Int)) ≠ 0 := by omega
  have e1 := fd_back b1
  have e2 := fd_back b2
  have sR := div_ser dr
  have sQ := div_ser dq
  refine ⟨bnz, gz, dr, dq, ?_, b1, b2, ?_, ?_, ?_, by rw [List.length_map]; exact lt, div_done gz dr hdr, ?_, div_done bnz dq hdq, ?_⟩
  · have := Int.le_of_dvd m0 b1
    omega
  · exact Int.pos_of_mul_pos_right (a := both) (by rw [e1]; exact m0) (by omega)
  · exact Int.pos_of_mul_pos_right (a := both) (by rw [e2]; omega) (by omega)
  · refine C_cancel bnz ?_
    obtain ⟨a, ha⟩ : ∃ a, a = many.fdiv both := ⟨_, rfl⟩
    obtain ⟨b, hb'⟩ : ∃ b, b = (gcdL rest : Int).fdiv both := ⟨_, rfl⟩
    rw [← ha] at e1 ⊢
    rw [← hb'] at e2 ⊢
    rw [← e1, C_mulS] at hh
    have sR' : Ser.C (0 - (gcdL rest : Int)) = -(Ser.C both * Ser.C b) := by rw [← C_mulS, e2, Int.zero_sub, C_neg]
    rw [sR'] at sR
    grind
  · have k := gcdL_pos_mul (a := gcdL rest) (r := rest.map fun x => x.fdiv (0 - (gcdL rest : Int))) (r' := rest.map fun x => -x) fun k => by
      rw [map_co (g := fun x => -x) (by simp)]
      have e := congrArg (fun f => Ser.co f k) sR
      have e : (Ser.C (0 - (gcdL rest : Int)) * ser (rest.map fun x => x.fdiv (0 - (gcdL rest : Int)))).co k = (ser rest).co k := e
      rw [Ser.C_mul_co, ser_co, ser_co] at e
      rw [← e, Int.zero_sub, Int.neg_mul, Int.neg_neg]
    have k2 := gcdL_pos_mul (a := 1) (r := rest.map fun x => -x) (r' := rest.map fun x => -x) fun k => by simp
    have k3 : gcdL (rest.map fun x => -x) = gcdL rest := Nat.dvd_antisymm (gcdL_great fun x hx => by
      have := gcdL_dvd (xs := rest.map fun x => -x) (x := -x) (List.mem_map.mpr ⟨x, hx, rfl⟩)
      exact Int.dvd_neg.mp this) (gcdL_great fun x hx => by
      obtain ⟨y, hy, rfl⟩ := List.mem_map.mp hx
      exact Int.dvd_neg.mpr (gcdL_dvd hy))
    rw [k3] at k
    exact Nat.eq_of_mul_eq_mul_left (Nat.pos_of_ne_zero g0) (by rw [← k, Nat.mul_one])
  · have k := gcdL_pos_mul (a := both.natAbs) (r := q.map fun x => x.fdiv both) (r' := q) fun k => by
      have e := congrArg (fun f => Ser.co f k) sQ
      have e : (Ser.C both * ser (q.map fun x => x.fdiv both)).co k = (ser q).co k := e
      rw [Ser.C_mul_co, ser_co, ser_co] at e
      rw [← e, show ((both.natAbs : Nat) : Int) = both by omega]
    have hb2 : both.natAbs = Int.gcd (Int.gcd many (gcdL rest)) (gcdL q) := (congrArg Int.natAbs hb).trans (Int.natAbs_natCast _)
    have s1 : Int.gcd many (gcdL rest) = both.natAbs * Int.gcd (many.fdiv both) ((gcdL rest : Int).fdiv both) := by rw [← Int.gcd_mul_left, e1, e2]
    have s2 : Int.gcd (Int.gcd many (gcdL rest)) (gcdL q) = both.natAbs * Int.gcd (Int.gcd (many.fdiv both) ((gcdL rest : Int).fdiv both)) (gcdL (q.map fun x => x.fdiv both)) := by
      rw [s1, k, Int.natCast_mul, Int.natCast_mul, Int.gcd_mul_left, Int.natAbs_natCast]
    have s3 : both.natAbs = both.natAbs * Int.gcd (Int.gcd (many.fdiv both) ((gcdL rest : Int).fdiv both)) (gcdL (q.map fun x => x.fdiv both)) := Eq.trans hb2 s2
    exact (Nat.eq_of_mul_eq_mul_left (Int.natAbs_pos.mpr bnz) ((Nat.mul_one _).trans s3)).symm
theorem SF.goes {r0 r1 : List Int} {A0 A1 : Nat} {many : Int} {q rest : List Int} {t : Nat} (h : SF r0 r1 A0 A1 many q rest t) (n : rest ≠ []) (lt : rest.length < r1.length) {both : Int} (hb : both = Int.gcd (Int.gcd many (gcdL rest)) (gcdL q)) :
    both ≠ 0 ∧ (0 - (gcdL rest : Int)) ≠ 0 ∧ (∀ x ∈ rest, (0 - (gcdL rest : Int)) ∣ x) ∧ (∀ x ∈ q, both ∣ x) ∧ both.natAbs ≤ many.natAbs ∧ both ∣ many ∧ both ∣ (gcdL rest : Int) ∧
    Stp r0 r1 (rest.map fun x => x.fdiv (0 - (gcdL rest : Int))) (many.fdiv both) (q.map fun x => x.fdiv both) ((gcdL rest : Int).fdiv both) := goes0 h.m0 h.dq h.dr h.eq n lt hb
end RR
namespace RR
open PySem PySem.Spec PyProof.Rows L2
def b_rows_degree {M : Type} : DS M :=
    (dRet (dBin (g0 fun i j => .int (i - j)) (dB gLen (dCons (dVar 0) dNil)) (dC (.int 1))))
def s_rows_degree {M : Type} : DSp M := fun ds m Q Z => ∃ xs, ds = [.tup (zz xs)] ∧ xs.length ≤ 16000000 ∧ Q (.int ((xs.length : Int) - 1)) m
theorem vc_rows_degree {M : Type} : ∀ ds (m : M) Q Z, s_rows_degree ds m Q Z → okK [false] ds ∧ b_rows_degree { nx := fun _ m' => Q .non m', rt := Q, ex := Z } (st0 [false] ds 1) m := by
  rintro ds m Q Z ⟨xs, rfl, hl, q⟩
  refine ⟨⟨fun _ => nl_row xs, trivial⟩, ?_⟩
  unfold b_rows_degree
  repeat walk_at "s"
  exact q
def Room (r0 r1 : List Int) (A0 A1 : Nat) : Prop := (∀ x ∈ r0, bd A0 x) ∧ (∀ x ∈ r1, bd A1 x) ∧ A0 + (r0.length + 1 - r1.length) * (A1 + 1) ≤ 9000
def Sb (s : Int × List Int × Int) : Prop := bd 9000 s.1 ∧ s.2.1.length ≤ 1000 ∧ (∀ x ∈ s.2.1, bd 9000 x) ∧ bd 9000 s.2.2
end RR
namespace RR
open PySem PySem.Spec PyProof.Rows L2
def pl (xs : List Int) : List Int := xs.map fun x => x.fdiv (ppt xs)
theorem pl_len (xs : List Int) : (pl xs).length = xs.length := List.length_map ..
theorem gc_ne {xs : List Int} (h : done xs) (n : xs ≠ []) : gcdL xs ≠ 0 := fun z => by
  have l := List.length_pos_iff.mpr n
  have m1 : xs.getD (xs.length - 1) 0 ∈ xs := by
    rw [List.getD_eq_getElem?_getD, List.getElem?_eq_getElem (by omega)]; exact List.getElem_mem _
  have := gcdL_dvd m1
  rw [z] at this
  exact done_last h n (Int.zero_dvd.mp this)
theorem ppt_ne {xs : List Int} (h : done xs) (n : xs ≠ []) : ppt xs ≠ 0 := fun z => by
  have := ppt_abs xs
  rw [z] at this
  exact gc_ne h n this.symm
theorem ppt_dvd (xs : List Int) : ∀ x ∈ xs, ppt xs ∣ x := fun x hx => by
  have := gcdL_dvd hx
  unfold ppt
  split
  · exact this
  · rw [Int.zero_sub]; exact Int.neg_dvd.mpr this
theorem pl_ser (xs : List Int) : Ser.C (ppt xs) * ser (pl xs) = ser xs := div_ser (ppt_dvd xs)
theorem pl_done {xs : List Int} (h : done xs) : done (pl xs) := by
  by_cases n : xs = []
  · subst n; rfl
  · exact div_done (ppt_ne h n) (ppt_dvd xs) h
theorem pl_bd {xs : List Int} {a : Nat} (h : done xs) (n : xs ≠ []) (b : ∀ x ∈ xs, bd a x) : ∀ x ∈ pl xs, bd a x := div_bd (ppt_ne h n) (ppt_dvd xs) b
theorem ppt_part {xs : List Int} (h : done xs) (n : xs ≠ []) : ∃ e : Int, (e = 1 ∨ e = -1) ∧ ppt xs = e * gcdL xs ∧ 0 < e * xs.getD (xs.length - 1) 0 := by
  have := done_last h n
  unfold ppt
  split
  · exact ⟨1, .inl rfl, by omega, by omega⟩
  · exact ⟨-1, .inr rfl, by omega, by omega⟩
theorem pl_gc {xs : List Int} (h : done xs) (n : xs ≠ []) : gcdL (pl xs) = 1 := by
  have g0 := gc_ne h n
  obtain ⟨e, he, pe, _⟩ := ppt_part h n
  have k := gcdL_pos_mul (a := gcdL xs) (r := pl xs) (r' := xs.map fun x => e * x) fun k => by
    rw [map_co (g := fun x => e * x) (by simp)]
    have c := congrArg (fun f => Ser.co f k) (pl_ser xs)
    have c : (Ser.C (ppt xs) * ser (pl xs)).co k = (ser xs).co k := c
    rw [Ser.C_mul_co, ser_co, ser_co, pe] at c
    rw [← c]
    rcases he with e1 | e1 <;> subst e1 <;> grind
  have k3 : gcdL (xs.map fun x => e * x) = gcdL xs := by
    rcases he with e1 | e1 <;> subst e1
    · congr 1
      exact (List.map_congr_left fun x _ => Int.one_mul x).trans (List.map_id _)
    · refine Nat.dvd_antisymm (gcdL_great fun x hx => ?_) (gcdL_great fun x hx => ?_)
      · have := gcdL_dvd (xs := xs.map fun x => -1 * x) (x := -1 * x) (List.mem_map.mpr ⟨x, hx, rfl⟩)
        rw [Int.neg_one_mul] at this
        exact Int.dvd_neg.mp this
      · obtain ⟨y, hy, rfl⟩ := List.mem_map.mp hx
        rw [Int.neg_one_mul]
        exact Int.dvd_neg.mpr (gcdL_dvd hy)
  rw [k3] at k
  exact Nat.eq_of_mul_eq_mul_left (Nat.pos_of_ne_zero g0) (by rw [← k, Nat.mul_one])
def sl1 (r : List Int) : List Int := pl (slope r)
def Bud (r0 r1 : List Int) : Prop := ∀ rs ss i x y, Ch r0 r1 rs ss → rs[i]? = some x → rs[i + 1]? = some y → 2 ≤ y.length → ∃ A0 A1, Room x y A0 A1
def Cb (rs : List (List Int)) (ss : List (Int × List Int × Int)) : Prop := (∀ r ∈ rs, ∀ x ∈ r, bd 9000 x) ∧ ∀ s ∈ ss, Sb s
theorem Ch.more {r0 r1 x y r2 : List Int} {rs : List (List Int)} {ss : List (Int × List Int × Int)} {s : Int × List Int × Int} (h : Ch r0 r1 rs ss) (e1 : rs[ss.length]? = some x) (e2 : rs[ss.length + 1]? = some y) (st : Stp x y r2 s.1 s.2.1 s.2.2) : Ch r0 r1 (rs ++ [r2]) (ss ++ [s]) := by
  have hl := h.len
  refine ⟨by simp [hl], ?_, ?_, fun i t e => ?_⟩
  · rw [List.getElem?_append_left (by omega)]; exact h.c0
  · rw [List.getElem?_append_left (by omega)]; exact h.c1
  · by_cases w : i < ss.length
    · rw [List.getElem?_append_left w] at e
      obtain ⟨a, b, c, f1, f2, f3, u⟩ := h.st i t e
      exact ⟨a, b, c, by rw [List.getElem?_append_left (by omega)]; exact f1, by rw [List.getElem?_append_left (by omega)]; exact f2, by rw [List.getElem?_append_left (by omega)]; exact f3, u⟩
    · have li := (List.getElem?_eq_some_iff.mp e).1
      rw [List.length_append, List.length_singleton] at li
      have ei : i = ss.length := by omega
      subst ei
      rw [List.getElem?_append_right (Nat.le_refl _), Nat.sub_self] at e
      cases e
      refine ⟨x, y, r2, by rw [List.getElem?_append_left (by omega)]; exact e1, by rw [List.getElem?_append_left (by omega)]; exact e2, ?_, st⟩
      rw [List.getElem?_append_right (by omega), show ss.length + 2 - rs.length = 0 by omega]; rfl
def Asked (y : D) (no : Prop) (yes : List (List Int) → List (Int × List Int × Int) → Prop) : Prop := ((NoRow y ∨ ∃ xs, y = .tup (zz xs) ∧ xs.length ≤ 1000 ∧ xs ≠ [] ∧ xs.getD (xs.length - 1) 0 = 0) ∧ no) ∨ ∃ xs, y = .tup (zz xs) ∧ done xs ∧ xs.length ≤ 1000 ∧ (xs.length < 2 → no) ∧
  (2 ≤ xs.length → (∀ x ∈ xs, bd 8900 x) ∧ Bud (pl xs) (sl1 (pl xs)) ∧ (∀ rs ss, Shut (pl xs) (sl1 (pl xs)) rs ss → no) ∧ ∀ rs ss, Lone (pl xs) (sl1 (pl xs)) rs ss → Cb rs ss → yes rs ss)
theorem Asked.imp {y : D} {no no' : Prop} {yes yes' : List (List Int) → List (Int × List Int × Int) → Prop} (h : Asked y no yes) (f : no → no') (g : ∀ rs ss, yes rs ss → yes' rs ss) : Asked y no' yes' := by
  rcases h with ⟨a, b⟩ | ⟨xs, a, b, c, d, e⟩
  · exact .inl ⟨a, f b⟩
  · refine .inr ⟨xs, a, b, c, fun l => f (d l), fun l => ?_⟩
    obtain ⟨p, q, r, s⟩ := e l
    exact ⟨p, q, fun rs ss h => f (r rs ss h), fun rs ss h k => g rs ss (s rs ss h k)⟩
end RR
namespace RR
namespace DK
class Half (K : Type) [Lean.Grind.CommRing K] : Prop where
  half : ∀ x : K, x + x = 0 → x = 0
section
variable {K : Type} [Lean.Grind.CommRing K]
abbrev rtl (l : List (Ser K)) : List (Ser K) := l.map Ser.tl
def altD (T : List (Ser K) → K) (suf : List (Ser K)) : List (Ser K) → List (Ser K) → K
  | _, [] => 0
  | pre, x :: xs => x.co 0 * T (rtl (pre ++ (xs ++ suf))) - altD T suf (pre ++ [x]) xs
def Dt : Nat → List (Ser K) → K
  | 0, _ => 1
  | n + 1, l => altD (Dt n) [] [] l
def sg (n : Nat) : K := if n % 2 = 0 then 1 else -1
theorem sg0 : (sg 0 : K) = 1 := rfl
theorem sg_s (n : Nat) : (sg (n + 1) : K) = - sg n := by
  unfold sg
  by_cases h : n % 2 = 0
  · rw [if_neg (by omega), if_pos h]
  · rw [if_pos (by omega), if_neg h]; grind
theorem sg_add (m n : Nat) : (sg (m + n) : K) = sg m * sg n := by
  induction n with
  | zero => rw [Nat.add_zero, sg0]; grind
  | succ n ih => rw [← Nat.add_assoc, sg_s, sg_s, ih]; grind
theorem alt_app (T : List (Ser K) → K) (suf : List (Ser K)) : ∀ (xs pre ys : List (Ser K)), altD T suf pre (xs ++ ys) = altD T (ys ++ suf) pre xs + sg xs.length * altD T suf (pre ++ xs) ys
  | [], pre, ys => by
    rw [List.nil_append, List.append_nil]
    show _ = 0 + sg 0 * _
    rw [sg0]; grind
  | x :: xs, pre, ys => by
    show x.co 0 * T (rtl (pre ++ ((xs ++ ys) ++ suf))) - altD T suf (pre ++ [x]) (xs ++ ys) = x.co 0 * T (rtl (pre ++ (xs ++ (ys ++ suf)))) - altD T (ys ++ suf) (pre ++ [x]) xs + sg (xs.length + 1) * _
    rw [alt_app T suf xs, sg_s, List.append_assoc xs, List.append_assoc pre [x] xs]
    show _ - (_ + sg xs.length * altD T suf (pre ++ x :: xs) ys) = _
    grind
structure Mul (n : Nat) (T : List (Ser K) → K) : Prop where
  swap : ∀ p a b s, (p ++ a :: b :: s).length = n → T (p ++ a :: b :: s) = - T (p ++ b :: a :: s)
  lin : ∀ p a b c s, (p ++ a :: s).length = n → T (p ++ (a + Ser.C c * b) :: s) = T (p ++ a :: s) + c * T (p ++ b :: s)
theorem alt_neg {T : List (Ser K) → K} {suf suf' : List (Ser K)} : ∀ (xs pre pre' : List (Ser K)), (∀ u x v, xs = u ++ x :: v → T (rtl (pre ++ u ++ (v ++ suf))) = - T (rtl (pre' ++ u ++ (v ++ suf')))) → altD T suf pre xs = - altD T suf' pre' xs
  | [], _, _, _ => by show (0 : K) = - 0; grind
  | x :: xs, pre, pre', h => by
    have h0 := h [] x xs rfl
    rw [List.append_nil, List.append_nil] at h0
    have ih := alt_neg (T := T) (suf := suf) (suf' := suf') xs (pre ++ [x]) (pre' ++ [x]) fun u y v e => by
      have := h (x :: u) y v (by rw [e]; rfl)
      simp only [List.append_assoc, List.cons_append, List.nil_append] at this ⊢
      exact this
    show x.co 0 * T _ - altD T suf (pre ++ [x]) xs = - (x.co 0 * T _ - altD T suf' (pre' ++ [x]) xs)
    rw [h0, ih]; grind
theorem alt_lin {T : List (Ser K) → K} {c : K} {s1 s2 s3 : List (Ser K)} : ∀ (xs p1 p2 p3 : List (Ser K)), (∀ u x v, xs = u ++ x :: v → T (rtl (p1 ++ u ++ (v ++ s1))) = T (rtl (p2 ++ u ++ (v ++ s2))) + c * T (rtl (p3 ++ u ++ (v ++ s3)))) → altD T s1 p1 xs = altD T s2 p2 xs + c * altD T s3 p3 xs
  | [], _, _, _, _ => by show (0 : K) = 0 + c * 0; grind
  | x :: xs, p1, p2, p3, h => by
    have h0 := h [] x xs rfl
    rw [List.append_nil, List.append_nil, List.append_nil] at h0
    have ih := alt_lin (T := T) (c := c) (s1 := s1) (s2 := s2) (s3 := s3) xs (p1 ++ [x]) (p2 ++ [x]) (p3 ++ [x]) fun u y v e => by
      have := h (x :: u) y v (by rw [e]; rfl)
      simp only [List.append_assoc, List.cons_append, List.nil_append] at this ⊢
      exact this
    show x.co 0 * T _ - altD T s1 (p1 ++ [x]) xs = (x.co 0 * T _ - altD T s2 (p2 ++ [x]) xs) + c * (x.co 0 * T _ - altD T s3 (p3 ++ [x]) xs)
    rw [h0, ih]; grind
theorem tl_lin (a b : Ser K) (c : K) : (a + Ser.C c * b).tl = a.tl + Ser.C c * b.tl := Ser.ext fun k => by
  show (a + Ser.C c * b).co (k + 1) = _
  rw [Ser.add_co, Ser.add_co, Ser.C_mul_co, Ser.C_mul_co]; rfl
theorem rtl_app (a b : List (Ser K)) : rtl (a ++ b) = rtl a ++ rtl b := List.map_append
theorem Mul.step {n : Nat} {T : List (Ser K) → K} (h : Mul n T) : Mul (n + 1) (altD T [] []) where
  swap := fun p a b s l => by
    have l : p.length + s.length + 1 = n := by simp at l; omega
    rw [alt_app, alt_app]
    have e1 : altD T ((a :: b :: s) ++ []) [] p = - altD T ((b :: a :: s) ++ []) [] p := alt_neg p [] [] fun u x v e => by
      have := h.swap (rtl (u ++ v)) a.tl b.tl (rtl s) (by rw [e] at l; simp at l ⊢; omega)
      simp only [rtl_app, List.append_nil, List.nil_append, List.append_assoc, List.map_cons] at this ⊢
      exact this
    have e2 : altD T [] ([] ++ p) (a :: b :: s) = - altD T [] ([] ++ p) (b :: a :: s) := by
      have e3 : altD T [] (([] ++ p) ++ [a] ++ [b]) s = - altD T [] (([] ++ p) ++ [b] ++ [a]) s := alt_neg s _ _ fun u x v e => by
        have := h.swap (rtl p) a.tl b.tl (rtl (u ++ v)) (by rw [e] at l; simp at l ⊢; omega)
        simp only [rtl_app, List.append_nil, List.nil_append, List.append_assoc, List.map_cons, List.cons_append, List.map_append] at this ⊢
        exact this
      show a.co 0 * T (rtl (([] ++ p) ++ ((b :: s) ++ []))) - (b.co 0 * T (rtl ((([] ++ p) ++ [a]) ++ (s ++ []))) - altD T [] (([] ++ p) ++ [a] ++ [b]) s) = - (b.co 0 * T (rtl (([] ++ p) ++ ((a :: s) ++ []))) - (a.co 0 * T (rtl ((([] ++ p) ++ [b]) ++ (s ++ []))) - altD T [] (([] ++ p) ++ [b] ++ [a]) s))
      rw [e3]
      simp only [List.append_nil, List.nil_append, List.append_assoc, List.singleton_append]
      grind
    rw [e1, e2]; grind
  lin := fun p a b c s l => by
    have l : p.length + s.length = n := by simp at l; omega
    rw [alt_app, alt_app, alt_app]
    have e1 : altD T (((a + Ser.C c * b) :: s) ++ []) [] p = altD T ((a :: s) ++ []) [] p + c * altD T ((b :: s) ++ []) [] p := alt_lin p [] [] [] fun u x v e => by
      have := h.lin (rtl (u ++ v)) a.tl b.tl c (rtl s) (by rw [e] at l; simp at l ⊢; omega)
      simp only [rtl_app, List.append_nil, List.nil_append, List.append_assoc, List.map_cons, tl_lin] at this ⊢
      exact this
    have e2 : altD T [] ([] ++ p) ((a + Ser.C c * b) :: s) = altD T [] ([] ++ p) (a :: s) + c * altD T [] ([] ++ p) (b :: s) := by
      have e3 : altD T [] (([] ++ p) ++ [a + Ser.C c * b]) s = altD T [] (([] ++ p) ++ [a]) s + c * altD T [] (([] ++ p) ++ [b]) s := alt_lin s _ _ _ fun u x v e => by
        have := h.lin (rtl p) a.tl b.tl c (rtl (u ++ v)) (by rw [e] at l; simp at l ⊢; omega)
        simp only [rtl_app, List.append_nil, List.nil_append, List.append_assoc, List.map_cons, List.cons_append, List.map_append, tl_lin] at this ⊢
        exact this
      show (a + Ser.C c * b).co 0 * T _ - altD T [] (([] ++ p) ++ [a + Ser.C c * b]) s = (a.co 0 * T _ - altD T [] (([] ++ p) ++ [a]) s) + c * (b.co 0 * T _ - altD T [] (([] ++ p) ++ [b]) s)
      rw [e3, Ser.add_co, Ser.C_mul_co]; grind
    rw [e1, e2]; grind
theorem Dt_mul : ∀ n, Mul n (Dt (K := K) n)
  | 0 => ⟨fun p a b s l => by simp at l, fun p a b c s l => by simp at l⟩
  | n + 1 => (Dt_mul n).step
section
variable {n : Nat} {T : List (Ser K) → K} [Half K] (h : Mul n T)
include h
theorem Mul.twice_adj {p s : List (Ser K)} {a : Ser K} (l : (p ++ a :: a :: s).length = n) : T (p ++ a :: a :: s) = 0 := by
  have := h.swap p a a s l
  exact Half.half _ (by grind)
theorem Mul.twice : ∀ {m p s : List (Ser K)} {a : Ser K}, (p ++ a :: (m ++ a :: s)).length = n → T (p ++ a :: (m ++ a :: s)) = 0
  | [], p, s, a, l => h.twice_adj l
  | x :: m, p, s, a, l => by
    have e := h.swap p a x (m ++ a :: s) l
    have ih := Mul.twice (m := m) (p := p ++ [x]) (s := s) (a := a) (by simp at l ⊢; omega)
    rw [List.append_assoc] at ih
    show T (p ++ a :: x :: (m ++ a :: s)) = 0
    rw [e]
    have ih : T (p ++ x :: a :: (m ++ a :: s)) = 0 := ih
    rw [ih]; grind
theorem Mul.more {p s : List (Ser K)} {a b : Ser K} {c : K} (hb : b ∈ s) (l : (p ++ a :: s).length = n) : T (p ++ (a + Ser.C c * b) :: s) = T (p ++ a :: s) := by
  rw [h.lin p a b c s l]
  obtain ⟨m, s', rfl⟩ := List.append_of_mem hb
  rw [h.twice (by simpa using l)]; grind
theorem Mul.across : ∀ {m p s : List (Ser K)} {a : Ser K}, (p ++ a :: (m ++ s)).length = n → T (p ++ a :: (m ++ s)) = sg m.length * T (p ++ (m ++ a :: s))
  | [], p, s, a, l => by show T (p ++ a :: s) = sg 0 * T (p ++ a :: s); rw [sg0]; grind
  | x :: m, p, s, a, l => by
    have e := h.swap p a x (m ++ s) l
    have ih := Mul.across (m := m) (p := p ++ [x]) (s := s) (a := a) (by simp at l ⊢; omega)
    rw [List.append_assoc, List.append_assoc] at ih
    have ih : T (p ++ x :: a :: (m ++ s)) = sg m.length * T (p ++ x :: (m ++ a :: s)) := ih
    show T (p ++ a :: x :: (m ++ s)) = sg (m.length + 1) * T (p ++ x :: (m ++ a :: s))
    rw [e, ih, sg_s]; grind
theorem Mul.turn : ∀ {as bs : List (Ser K)}, (as ++ bs).length = n → T (as ++ bs) = sg (as.length * bs.length) * T (bs ++ as) := by
  have gen : ∀ (as p bs s : List (Ser K)), (p ++ (as ++ (bs ++ s))).length = n → T (p ++ (as ++ (bs ++ s))) = sg (as.length * bs.length) * T (p ++ (bs ++ (as ++ s))) := by
    intro as
    induction as with
    | nil => intro p bs s l; rw [List.length_nil, Nat.zero_mul, sg0]; show T (p ++ (bs ++ s)) = 1 * T (p ++ (bs ++ s)); grind
    | cons a as ih =>
      intro p bs s l
      have e1 := ih (p ++ [a]) bs s (by simp at l ⊢; omega)
      rw [List.append_assoc, List.append_assoc] at e1
      have e1 : T (p ++ a :: (as ++ (bs ++ s))) = sg (as.length * bs.length) * T (p ++ a :: (bs ++ (as ++ s))) := e1
      have e2 := h.across (m := bs) (p := p) (s := as ++ s) (a := a) (by simp at l ⊢; omega)
      show T (p ++ a :: (as ++ (bs ++ s))) = sg ((as.length + 1) * bs.length) * T (p ++ (bs ++ (a :: (as ++ s))))
      rw [e1, e2, Nat.add_mul, Nat.one_mul, sg_add]; grind
  intro as bs l
  have := gen as [] bs [] (by simpa using l)
  simpa using this
end
inductive Sp (s : List (Ser K)) : Ser K → Prop
  | zero : Sp s 0
  | add {y b : Ser K} (c : K) : Sp s y → b ∈ s → Sp s (y + Ser.C c * b)
theorem alt_zero {T : List (Ser K) → K} {suf : List (Ser K)} : ∀ (xs pre : List (Ser K)), (∀ x ∈ xs, x.co 0 = 0) → altD T suf pre xs = 0
  | [], _, _ => rfl
  | x :: xs, pre, h => by
    show x.co 0 * T _ - altD T suf (pre ++ [x]) xs = 0
    rw [h x (List.mem_cons_self ..), alt_zero xs _ fun y hy => h y (List.mem_cons_of_mem _ hy)]; grind
theorem Dt_first {n : Nat} {x : Ser K} {s : List (Ser K)} (h : ∀ y ∈ s, y.co 0 = 0) : Dt (n + 1) (x :: s) = x.co 0 * Dt n (rtl s) := by
  show x.co 0 * Dt n (rtl ([] ++ (s ++ []))) - altD (Dt n) [] ([] ++ [x]) s = _
  rw [alt_zero s _ h, List.nil_append, List.append_nil]; grind
end
end DK
end RR
namespace RR
namespace DK
section
variable {K : Type} [Lean.Grind.CommRing K]
inductive Agr (n : Nat) : List (Ser K) → List (Ser K) → Prop
  | nil : Agr n [] []
  | cons {x y : Ser K} {xs ys : List (Ser K)} : (∀ k, k < n → x.co k = y.co k) → Agr n xs ys → Agr n (x :: xs) (y :: ys)
theorem Agr.refl {n : Nat} : ∀ xs : List (Ser K), Agr n xs xs
  | [] => .nil
  | _ :: xs => .cons (fun _ _ => rfl) (Agr.refl xs)
theorem Agr.app {n : Nat} {xs ys us vs : List (Ser K)} (h : Agr n xs ys) (h' : Agr n us vs) : Agr n (xs ++ us) (ys ++ vs) := by
  induction h with
  | nil => exact h'
  | cons a _ ih => exact .cons a ih
theorem Agr.tl {n : Nat} {xs ys : List (Ser K)} (h : Agr (n + 1) xs ys) : Agr n (rtl xs) (rtl ys) := by
  induction h with
  | nil => exact .nil
  | cons a _ ih => exact .cons (fun k hk => a (k + 1) (by omega)) ih
theorem Agr.map {n : Nat} {φ : Ser K → Ser K} : ∀ {xs : List (Ser K)}, (∀ x ∈ xs, ∀ k, k < n → (φ x).co k = x.co k) → Agr n (xs.map φ) xs
  | [], _ => .nil
  | x :: xs, h => .cons (h x (List.mem_cons_self ..)) (Agr.map fun y hy => h y (List.mem_cons_of_mem _ hy))
theorem alt_agr {n : Nat} {T : List (Ser K) → K} (hT : ∀ {us vs}, Agr n us vs → T us = T vs) {s s' : List (Ser K)} (hs : Agr (n + 1) s s') {xs ys : List (Ser K)} (h : Agr (n + 1) xs ys) : ∀ {p p' : List (Ser K)}, Agr (n + 1) p p' → altD T s p xs = altD T s' p' ys := by
  induction h with
  | nil => intro p p' _; rfl
  | @cons x y xs ys a r ih =>
    intro p p' hp
    show x.co 0 * T (rtl (p ++ (xs ++ s))) - altD T s (p ++ [x]) xs = y.co 0 * T (rtl (p' ++ (ys ++ s'))) - altD T s' (p' ++ [y]) ys
    rw [a 0 (by omega), hT (hp.app (r.app hs)).tl, ih (hp.app (.cons a .nil))]
theorem Dt_agr : ∀ {n : Nat} {xs ys : List (Ser K)}, Agr n xs ys → Dt n xs = Dt n ys
  | 0, _, _, _ => rfl
  | n + 1, _, _, h => alt_agr (fun h => Dt_agr h) .nil h .nil
theorem alt_z {T : List (Ser K) → K} {suf : List (Ser K)} : ∀ (xs pre : List (Ser K)), (∀ u x v, xs = u ++ x :: v → T (rtl (pre ++ u ++ (v ++ suf))) = 0) → altD T suf pre xs = 0
  | [], _, _ => rfl
  | x :: xs, pre, h => by
    have h0 := h [] x xs rfl
    rw [List.append_nil] at h0
    have ih := alt_z (T := T) (suf := suf) xs (pre ++ [x]) fun u y v e => by
      have := h (x :: u) y v (by rw [e]; rfl)
      simp only [List.append_assoc, List.cons_append, List.nil_append] at this ⊢
      exact this
    show x.co 0 * T _ - altD T suf (pre ++ [x]) xs = 0
    rw [h0, ih]; grind
theorem Dt_col : ∀ (n j : Nat), j < n → ∀ l : List (Ser K), (∀ x ∈ l, x.co j = 0) → Dt n l = 0
  | 0, j, h, _, _ => absurd h (by omega)
  | n + 1, 0, _, l, h => alt_zero l [] h
  | n + 1, j + 1, hj, l, h => alt_z l [] fun u x v e => Dt_col n j (by omega) _ fun y hy => by
    obtain ⟨z, hz, rfl⟩ := List.mem_map.mp hy
    refine h z ?_
    rw [e]
    simp at hz ⊢
    rcases hz with q | q
    · exact .inl q
    · exact .inr (.inr q)
theorem Dt_lastcol : ∀ (n : Nat) (s : List (Ser K)) (x : Ser K), s.length = n → (∀ y ∈ s, y.co n = 0) → Dt (n + 1) (s ++ [x]) = x.co n * Dt n s
  | 0, s, x, l, h => by
    have : s = [] := List.length_eq_zero_iff.mp l
    subst this
    show x.co 0 * 1 - 0 = x.co 0 * 1
    grind
  | n + 1, s, x, l, h => by
    show altD (Dt (n + 1)) [] [] (s ++ [x]) = x.co (n + 1) * altD (Dt n) [] [] s
    rw [alt_app]
    have z : altD (Dt (n + 1)) [] ([] ++ s) [x] = 0 := by
      show x.co 0 * Dt (n + 1) (rtl (([] ++ s) ++ ([] ++ []))) - 0 = 0
      rw [Dt_col (n + 1) n (by omega) _ fun y hy => by
        obtain ⟨z, hz, rfl⟩ := List.mem_map.mp hy
        exact h z (by simpa using hz)]
      grind
    rw [z]
    have gen : ∀ (xs p : List (Ser K)), p.length + xs.length = n + 1 → (∀ y ∈ p, y.co (n + 1) = 0) → (∀ y ∈ xs, y.co (n + 1) = 0) → altD (Dt (n + 1)) ([x] ++ []) p xs = x.co (n + 1) * altD (Dt n) [] p xs := by
      intro xs
      induction xs with
      | nil => intro p _ _ _; show (0 : K) = _ * 0; grind
      | cons y xs ih =>
        intro p hl hp hx
        have e := Dt_lastcol n (rtl (p ++ xs)) x.tl (by simp at hl ⊢; omega) fun y hy => by
          obtain ⟨z, hz, rfl⟩ := List.mem_map.mp hy
          rcases List.mem_append.mp hz with q | q
          · exact hp z q
          · exact hx z (List.mem_cons_of_mem _ q)
        have i := ih (p ++ [y]) (by simp at hl ⊢; omega) (fun z hz => by
          rcases List.mem_append.mp hz with q | q
          · exact hp z q
          · rw [List.mem_singleton.mp q]; exact hx y (List.mem_cons_self ..)) fun z hz => hx z (List.mem_cons_of_mem _ hz)
        show y.co 0 * Dt (n + 1) (rtl (p ++ (xs ++ ([x] ++ [])))) - altD (Dt (n + 1)) ([x] ++ []) (p ++ [y]) xs = x.co (n + 1) * (y.co 0 * Dt n (rtl (p ++ (xs ++ []))) - altD (Dt n) [] (p ++ [y]) xs)
        rw [i, show rtl (p ++ (xs ++ ([x] ++ []))) = rtl (p ++ xs) ++ [x.tl] by simp, e, show p ++ (xs ++ []) = p ++ xs by simp]
        show y.co 0 * (x.co (n + 1) * _) - _ = _
        grind
    rw [gen s [] (by simpa using l) (fun _ h => absurd h List.not_mem_nil) h]
    grind
theorem Mul.same [Half K] {n : Nat} {T S : List (Ser K) → K} (hT : Mul (n + 1) T) (hS : Mul (n + 1) S) (h : ∀ a s, s.length = n → a.co 0 = 1 → (∀ y ∈ s, y.co 0 = 0) → T (a :: s) = S (a :: s)) (a : Ser K) (s : List (Ser K)) (ln : s.length = n) : T (a :: s) = S (a :: s) := by
  have A : ∀ (a : Ser K), a.co 0 = 1 → ∀ (s p : List (Ser K)), p.length + s.length = n → (∀ y ∈ p, y.co 0 = 0) → T (a :: (p ++ s)) = S (a :: (p ++ s)) := by
    intro a ha s
    induction s with
    | nil => intro p l hp; rw [List.append_nil]; exact h a p (by simpa using l) ha hp
    | cons b s ih =>
      intro p l hp
      have l' : ((a :: p) ++ b :: s).length = n + 1 := by simp at l ⊢; omega
      have e1 := hT.lin (a :: p) b a (- b.co 0) s l'
      have e2 := hS.lin (a :: p) b a (- b.co 0) s l'
      have t1 := hT.twice (p := []) (m := p) (s := s) (a := a) (by simp at l ⊢; omega)
      have t2 := hS.twice (p := []) (m := p) (s := s) (a := a) (by simp at l ⊢; omega)
      have t1 : T ((a :: p) ++ a :: s) = 0 := t1
      have t2 : S ((a :: p) ++ a :: s) = 0 := t2
      have i := ih (p ++ [b + Ser.C (- b.co 0) * a]) (by simp at l ⊢; omega) fun y hy => by
        rcases List.mem_append.mp hy with q | q
        · exact hp y q
        · rw [List.mem_singleton.mp q, Ser.add_co, Ser.C_mul_co, ha]; grind
      rw [List.append_assoc] at i
      have i : T ((a :: p) ++ (b + Ser.C (- b.co 0) * a) :: s) = S ((a :: p) ++ (b + Ser.C (- b.co 0) * a) :: s) := i
      show T ((a :: p) ++ b :: s) = S ((a :: p) ++ b :: s)
      rw [e1, e2, t1, t2] at i
      grind
  have e1 := hT.lin [] a (xp 0) (1 - a.co 0) s (by simpa using ln)
  have e2 := hS.lin [] a (xp 0) (1 - a.co 0) s (by simpa using ln)
  have i1 := A (a + Ser.C (1 - a.co 0) * xp 0) (by rw [Ser.add_co, Ser.C_mul_co, xp_co, if_pos rfl]; grind) s [] (by simpa using ln) (fun _ q => absurd q List.not_mem_nil)
  have i2 := A (xp 0) (by rw [xp_co, if_pos rfl]) s [] (by simpa using ln) (fun _ q => absurd q List.not_mem_nil)
  simp only [List.nil_append] at e1 e2 i1 i2
  rw [e1, e2, i2] at i1
  grind
theorem Mul.comp {n : Nat} {T : List (Ser K) → K} (h : Mul n T) {φ : Ser K → Ser K} (hφ : ∀ a b c, φ (a + Ser.C c * b) = φ a + Ser.C c * φ b) : Mul n (fun l => T (l.map φ)) where
  swap := fun p a b s l => by
    have := h.swap (p.map φ) (φ a) (φ b) (s.map φ) (by simpa using l)
    simpa using this
  lin := fun p a b c s l => by
    have := h.lin (p.map φ) (φ a) (φ b) c (s.map φ) (by simpa using l)
    simpa [hφ] using this
theorem Dt_unit [Half K] {u : Ser K} (hu : u.co 0 = 1) : ∀ (n : Nat) (l : List (Ser K)), l.length = n → Dt n (l.map (u * ·)) = Dt n l
  | 0, _, _ => rfl
  | n + 1, a :: s, l => by
    refine Mul.same (n := n) (T := fun l => Dt (n + 1) (l.map (u * ·))) (S := Dt (n + 1)) ((Dt_mul (n + 1)).comp fun a b c => by grind) (Dt_mul (n + 1)) (fun a s ln ha hs => ?_) a s (by simpa using l)
    show Dt (n + 1) (u * a :: s.map (u * ·)) = _
    rw [Dt_first hs, Dt_first fun y hy => by
      obtain ⟨z, hz, rfl⟩ := List.mem_map.mp hy
      show u.co 0 * z.co 0 = 0
      rw [hs z hz]; grind]
    refine (fun (er : rtl (s.map (u * ·)) = (rtl s).map (u * ·)) => ?_ : rtl (s.map (u * ·)) = (rtl s).map (u * ·) → _) ?_
    · show u.co 0 * a.co 0 * _ = _
      rw [er, Dt_unit hu n (rtl s) (by simpa using ln), hu, ha]; grind
    unfold rtl
    rw [List.map_map, List.map_map]
    refine List.map_congr_left fun z hz => Ser.ext fun k => ?_
    show u.co 0 * z.co (k + 1) + (u.tl * z).co k = (u * z.tl).co k
    have hz0 := hs z hz
    have e : z = xp 1 * z.tl := Ser.ext fun j => by
      rw [xp_mul_co]
      cases j with
      | zero => rw [hz0, if_neg (by omega)]
      | succ j => rw [if_pos (by omega)]; rfl
    have e2 : (u * z).co (k + 1) = (u * z.tl).co k := by
      rw [e, show u * (xp 1 * z.tl) = xp 1 * (u * z.tl) by grind, xp_mul_co, if_pos (by omega)]
      rw [← e]; rfl
    exact e2
end
end DK
end RR
namespace RR
namespace DK
structure Hm {K L : Type} [Lean.Grind.CommRing K] [Lean.Grind.CommRing L] (φ : K → L) : Prop where
  add : ∀ a b, φ (a + b) = φ a + φ b
  mul : ∀ a b, φ (a * b) = φ a * φ b
  one : φ 1 = 1
section
variable {K L : Type} [Lean.Grind.CommRing K] [Lean.Grind.CommRing L] {φ : K → L} (H : Hm φ)
include H
theorem Hm.zero : φ 0 = 0 := by
  have := H.add 0 0
  rw [show (0 : K) + 0 = 0 by grind] at this
  grind
theorem Hm.neg (a : K) : φ (-a) = - φ a := by
  have := H.add a (-a)
  rw [show a + -a = 0 by grind, H.zero] at this
  grind
theorem Hm.sub (a b : K) : φ (a - b) = φ a - φ b := by
  rw [show a - b = a + -b by grind, H.add, H.neg]; grind
theorem Hm.pow (a : K) : ∀ n : Nat, φ (a ^ n) = φ a ^ n
  | 0 => by rw [Lean.Grind.Semiring.pow_zero, Lean.Grind.Semiring.pow_zero, H.one]
  | n + 1 => by rw [Lean.Grind.Semiring.pow_succ, Lean.Grind.Semiring.pow_succ, H.mul, Hm.pow a n]
end
def mp {K L : Type} (φ : K → L) (f : Ser K) : Ser L := ⟨fun k => φ (f.co k)⟩
theorem mp_co {K L : Type} (φ : K → L) (f : Ser K) (k : Nat) : (mp φ f).co k = φ (f.co k) := rfl
section
variable {K L : Type} [Lean.Grind.CommRing K] [Lean.Grind.CommRing L] {φ : K → L} (H : Hm φ)
include H
theorem mp_mulc : ∀ (k : Nat) (f g : Ser K), φ (Ser.mulc k f g) = Ser.mulc k (mp φ f) (mp φ g)
  | 0, f, g => H.mul _ _
  | k + 1, f, g => by
    show φ (f.co 0 * g.co (k + 1) + Ser.mulc k f.tl g) = φ (f.co 0) * φ (g.co (k + 1)) + Ser.mulc k (mp φ f).tl (mp φ g)
    rw [H.add, H.mul, mp_mulc k f.tl g]; rfl
theorem mp_mul (f g : Ser K) : mp φ (f * g) = mp φ f * mp φ g := Ser.ext fun k => mp_mulc H k f g
theorem mp_add (f g : Ser K) : mp φ (f + g) = mp φ f + mp φ g := Ser.ext fun k => H.add _ _
theorem mp_sub (f g : Ser K) : mp φ (f - g) = mp φ f - mp φ g := Ser.ext fun k => by rw [mp_co, Ser.sub_co, H.sub, Ser.sub_co, mp_co, mp_co]
theorem mp_C (c : K) : mp φ (Ser.C c) = Ser.C (φ c) := Ser.ext fun k => by
  rw [mp_co, Ser.C_co, Ser.C_co]; split
  · rfl
  · exact H.zero
theorem mp_xp (n : Nat) : mp φ (xp n) = xp n := Ser.ext fun k => by
  rw [mp_co, xp_co, xp_co]; split
  · exact H.one
  · exact H.zero
theorem mp_one : mp φ 1 = 1 := by rw [← xp0, ← xp0, mp_xp H]
theorem mp_far {n : Nat} {f : Ser K} (h : far n f) : far n (mp φ f) := fun k hk => by rw [mp_co, h k hk, H.zero]
theorem alt_mp {T : List (Ser K) → K} {U : List (Ser L) → L} (hT : ∀ l, φ (T l) = U (l.map (mp φ))) (suf : List (Ser K)) : ∀ (xs pre : List (Ser K)), φ (altD T suf pre xs) = altD U (suf.map (mp φ)) (pre.map (mp φ)) (xs.map (mp φ))
  | [], _ => H.zero
  | x :: xs, pre => by
    show φ (x.co 0 * T (rtl (pre ++ (xs ++ suf))) - altD T suf (pre ++ [x]) xs) = φ (x.co 0) * U (rtl (pre.map (mp φ) ++ (xs.map (mp φ) ++ suf.map (mp φ)))) - altD U (suf.map (mp φ)) (pre.map (mp φ) ++ [mp φ x]) (xs.map (mp φ))
    have er : (rtl (pre ++ (xs ++ suf))).map (mp φ) = rtl (pre.map (mp φ) ++ (xs.map (mp φ) ++ suf.map (mp φ))) := by
      unfold rtl
      rw [List.map_map, ← List.map_append, ← List.map_append, List.map_map]; rfl
    rw [H.sub, H.mul, hT, alt_mp hT suf xs, er, List.map_append]
    rfl
theorem Dt_mp : ∀ (n : Nat) (l : List (Ser K)), φ (Dt n l) = Dt n (l.map (mp φ))
  | 0, _ => H.one
  | n + 1, l => alt_mp H (Dt_mp n) [] l []
end
section
variable {K : Type} [Lean.Grind.CommRing K]
def rv (m : Nat) (f : Ser K) : Ser K := ⟨fun k => if k ≤ m then f.co (m - k) else 0⟩
theorem rv_co (m : Nat) (f : Ser K) (k : Nat) : (rv m f).co k = if k ≤ m then f.co (m - k) else 0 := rfl
def Syl (f : Ser K) (m : Nat) (g : Ser K) (n : Nat) : List (Ser K) := (List.range n).map (fun k => xp k * rv m f) ++ (List.range m).map (fun k => xp k * rv n g)
def Rs (f : Ser K) (m : Nat) (g : Ser K) (n : Nat) : K := Dt (n + m) (Syl f m g n)
theorem syl_len (f : Ser K) (m : Nat) (g : Ser K) (n : Nat) : (Syl f m g n).length = n + m := by unfold Syl; simp
theorem rv_mp {L : Type} [Lean.Grind.CommRing L] {φ : K → L} (H : Hm φ) (m : Nat) (f : Ser K) : mp φ (rv m f) = rv m (mp φ f) := Ser.ext fun k => by
  rw [mp_co, rv_co, rv_co]; split
  · rfl
  · exact H.zero
theorem Rs_mp {L : Type} [Lean.Grind.CommRing L] {φ : K → L} (H : Hm φ) (f : Ser K) (m : Nat) (g : Ser K) (n : Nat) : φ (Rs f m g n) = Rs (mp φ f) m (mp φ g) n := by
  unfold Rs
  rw [Dt_mp H]
  unfold Syl
  rw [List.map_append, List.map_map, List.map_map]
  congr 2
  · exact List.map_congr_left fun k _ => by show mp φ (xp k * rv m f) = _; rw [mp_mul H, mp_xp H, rv_mp H]
  · exact List.map_congr_left fun k _ => by show mp φ (xp k * rv n g) = _; rw [mp_mul H, mp_xp H, rv_mp H]
def Xl (r : K) : Ser K := xp 1 - Ser.C r
theorem Xl_far (r : K) : far 2 (Xl r) := fun j hj => by
  unfold Xl
  rw [Ser.sub_co, xp_co, if_neg (by omega), Ser.C_co, if_neg (by omega)]; grind
theorem Xl_top (r : K) : (Xl r).co 1 = 1 := by unfold Xl; rw [Ser.sub_co, xp_co, if_pos rfl, Ser.C_co, if_neg (by decide)]; grind
theorem Xl_co (r : K) (h : Ser K) (k : Nat) : (Xl r * h).co (k + 1) = h.co k - r * h.co (k + 1) := by
  unfold Xl
  rw [show (xp 1 - Ser.C r) * h = xp 1 * h - Ser.C r * h by grind, Ser.sub_co, xp_mul_co, if_pos (by omega), Ser.C_mul_co]; rfl
theorem Xl_co0 (r : K) (h : Ser K) : (Xl r * h).co 0 = - (r * h.co 0) := by
  unfold Xl
  rw [show (xp 1 - Ser.C r) * h = xp 1 * h - Ser.C r * h by grind, Ser.sub_co, xp_mul_co, if_neg (by omega), Ser.C_mul_co]; grind
def At (g : Ser K) (r v : K) : Prop := ∃ N h, far N h ∧ g = Xl r * h + Ser.C v
theorem At.add {g g' : Ser K} {r v v' : K} : At g r v → At g' r v' → At (g + g') r (v + v') := fun ⟨N, h, a, e⟩ ⟨N', h', a', e'⟩ => ⟨max N N', h + h', far_add (far_mono a (Nat.le_max_left ..)) (far_mono a' (Nat.le_max_right ..)), by rw [e, e', C_add]; grind⟩
theorem At.mul {g g' : Ser K} {r v v' : K} : At g r v → At g' r v' → At (g * g') r (v * v') := fun ⟨N, h, a, e⟩ ⟨N', h', a', e'⟩ => by
  have fX := Xl_far r
  refine ⟨max (max (N + (max (2 + N') 1 + 1)) N') (N + N' + 2), h * (Xl r * h' + Ser.C v') + Ser.C v * h', ?_, by rw [e, e', C_mul]; grind⟩
  refine far_add (far_mono (far_mul a (far_add (far_mono (far_mul fX a') (show _ ≤ max (2 + N') 1 + 1 by omega)) (far_mono far_C (show 1 ≤ max (2 + N') 1 + 1 by omega)))) (by omega)) (far_mono (far_scale a') (by omega))
theorem At.C (c r : K) : At (Ser.C c) r c := ⟨0, 0, far_zero, by grind⟩
theorem At.X (s r : K) : At (Xl s) r (r - s) := ⟨1, 1, far_one, by unfold Xl; rw [C_sub]; grind⟩
theorem At.xp1 (r : K) : At (xp 1) r r := ⟨1, 1, far_one, by unfold Xl; grind⟩
theorem At.cong {g g' : Ser K} {r v v' : K} (h : At g r v) (e : g = g') (e' : v = v') : At g' r v' := e ▸ e' ▸ h
theorem At.place {g : Ser K} {r v : K} {n : Nat} (fg : far (n + 1) g) (h : At g r v) : ∃ h, far n h ∧ g = Xl r * h + Ser.C v := by
  obtain ⟨N, h, a, e⟩ := h
  refine ⟨h, ?_, e⟩
  have go : ∀ t, far (n + t) h → far n h := by
    intro t
    induction t with
    | zero => exact id
    | succ t ih =>
      intro ht
      refine ih fun k hk => ?_
      by_cases c : k = n + t
      · subst c
        have e1 := fg (n + t + 1) (by omega)
        rw [e, Ser.add_co, Xl_co, Ser.C_co, if_neg (by omega), ht (n + t + 1) (by omega)] at e1
        grind
      · exact ht k (by omega)
  exact go N (far_mono a (by omega))
theorem chain_rows [Half K] {N : Nat} {T : List (Ser K) → K} (h : Mul N T) (c : K) (φ : Nat → Ser K) : ∀ (t i : Nat) (p : List (Ser K)), p.length + t + 1 = N → T (p ++ ((List.range' i t).map φ ++ [φ (i + t)])) = T (p ++ ((List.range' i t).map (fun k => φ k + Ser.C c * φ (k + 1)) ++ [φ (i + t)]))
  | 0, i, p, _ => rfl
  | t + 1, i, p, l => by
    rw [List.range'_succ, List.map_cons, List.map_cons]
    have hb : φ (i + 1) ∈ (List.range' (i + 1) t).map φ ++ [φ (i + (t + 1))] := by
      cases t with
      | zero => simp
      | succ t => rw [List.range'_succ]; simp
    have e1 := h.more (p := p) (a := φ i) (c := c) hb (by simp; omega)
    have e2 := chain_rows h c φ t (i + 1) (p ++ [φ i + Ser.C c * φ (i + 1)]) (by simp; omega)
    rw [show i + 1 + t = i + (t + 1) by omega, List.append_assoc, List.append_assoc] at e2
    show T (p ++ φ i :: ((List.range' (i + 1) t).map φ ++ [φ (i + (t + 1))])) = _
    rw [← e1]
    exact e2
def geo (r : K) : Ser K := ⟨fun k => r ^ k⟩
theorem geo_mul (r : K) : geo r * (1 - Ser.C r * xp 1) = 1 := Ser.ext fun k => by
  rw [show geo r * (1 - Ser.C r * xp 1) = geo r - Ser.C r * (xp 1 * geo r) by grind, Ser.sub_co, Ser.C_mul_co, xp_mul_co, one_co]
  cases k with
  | zero =>
    rw [if_neg (by omega), if_pos rfl]
    show r ^ 0 - r * 0 = 1
    rw [Lean.Grind.Semiring.pow_zero]; grind
  | succ k =>
    rw [if_pos (by omega), if_neg (by omega)]
    show r ^ (k + 1) - r * r ^ k = 0
    rw [Lean.Grind.Semiring.pow_succ]; grind
theorem geo_head (r : K) : (geo r).co 0 = 1 := Lean.Grind.Semiring.pow_zero r
theorem rv_line (r : K) {m : Nat} {f : Ser K} (ff : far (m + 1) f) : rv (m + 1) (Xl r * f) = (1 - Ser.C r * xp 1) * rv m f := Ser.ext fun k => by
  rw [show (1 - Ser.C r * xp 1) * rv m f = rv m f - Ser.C r * (xp 1 * rv m f) by grind, Ser.sub_co, Ser.C_mul_co, xp_mul_co, rv_co, rv_co]
  by_cases hk : k ≤ m
  · rw [if_pos (by omega), if_pos hk, show m + 1 - k = (m - k) + 1 by omega, Xl_co]
    by_cases k0 : 1 ≤ k
    · rw [if_pos k0, rv_co, if_pos (by omega), show m - (k - 1) = m - k + 1 by omega]
    · rw [if_neg k0, show m - k + 1 = m + 1 by omega, ff (m + 1) (by omega)]; 
  · by_cases h1 : k = m + 1
    · rw [if_pos (by omega), if_neg hk, if_pos (by omega), rv_co, if_pos (by omega), h1, Nat.sub_self, Xl_co0, show m - (m + 1 - 1) = 0 by omega]; grind
    · rw [if_neg (by omega), if_neg hk, if_pos (by omega), rv_co, if_neg (by omega)]; grind
theorem Rs_line [Half K] {m n : Nat} {f g : Ser K} {r v : K} (ff : far (m + 1) f) (fg : far (n + 1) g) (hv : At g r v) : Rs (Xl r * f) (m + 1) g n = v * Rs f m g n := by
  obtain ⟨h, hh, e⟩ := hv.place fg
  unfold Rs
  have gm := geo_mul r
  rw [← Dt_unit (geo_head r) (n + (m + 1)) _ (syl_len _ _ _ _)]
  have e1 : (Syl (Xl r * f) (m + 1) g n).map (geo r * ·) = (List.range n).map (fun k => xp k * rv m f) ++ ((List.range' 0 m).map (fun k => xp k * (geo r * rv n g)) ++ [xp (0 + m) * (geo r * rv n g)]) := by
    unfold Syl
    rw [List.map_append, List.map_map, List.map_map, List.range_succ, List.map_append, ← List.range_eq_range', Nat.zero_add]
    congr 1
    · refine List.map_congr_left fun k _ => ?_
      show geo r * (xp k * rv (m + 1) (Xl r * f)) = _
      rw [rv_line r ff, show geo r * (xp k * ((1 - Ser.C r * xp 1) * rv m f)) = (geo r * (1 - Ser.C r * xp 1)) * (xp k * rv m f) by grind, gm]; grind
    · congr 1
      · exact List.map_congr_left fun k _ => by show geo r * (xp k * rv n g) = _; grind
      · show [geo r * (xp m * rv n g)] = _
        congr 1; grind
  rw [e1, chain_rows (Dt_mul _) (-r) (fun k => xp k * (geo r * rv n g)) m 0 _ (by simp; omega), Nat.zero_add]
  have e2 : (List.range' 0 m).map (fun k => xp k * (geo r * rv n g) + Ser.C (-r) * (xp (k + 1) * (geo r * rv n g))) = (List.range m).map (fun k => xp k * rv n g) := by
    rw [← List.range_eq_range']
    refine List.map_congr_left fun k _ => ?_
    rw [xp_add k 1, C_neg, show xp k * (geo r * rv n g) + -Ser.C r * (xp k * xp 1 * (geo r * rv n g)) = (geo r * (1 - Ser.C r * xp 1)) * (xp k * rv n g) by grind, gm]; grind
  rw [e2, ← List.append_assoc, ← Nat.add_assoc, Dt_lastcol (n + m) _ _ (by simp)]
  · congr 1
    -- the last number of the last row
    have e3 : rv n g = (1 - Ser.C r * xp 1) * (⟨fun k => if k < n then h.co (n - 1 - k) else 0⟩ : Ser K) + Ser.C v * xp n := Ser.ext fun k => by
      rw [show (1 - Ser.C r * xp 1) * (⟨fun k => if k < n then h.co (n - 1 - k) else 0⟩ : Ser K) + Ser.C v * xp n = (⟨fun k => if k < n then h.co (n - 1 - k) else 0⟩ : Ser K) - Ser.C r * (xp 1 * (⟨fun k => if k < n then h.co (n - 1 - k) else 0⟩ : Ser K)) + Ser.C v * xp n by grind, Ser.add_co, Ser.sub_co, Ser.C_mul_co, Ser.C_mul_co, xp_mul_co, xp_co, rv_co]
      show _ = (if k < n then h.co (n - 1 - k) else 0) - r * (if 1 ≤ k then (if k - 1 < n then h.co (n - 1 - (k - 1)) else 0) else 0) + v * _
      by_cases hk : k < n
      · rw [if_pos (show k ≤ n by omega), if_pos hk, if_neg (show ¬ k = n by omega), e, Ser.add_co, show n - k = (n - 1 - k) + 1 by omega, Xl_co, Ser.C_co, if_neg (show ¬ n - 1 - k + 1 = 0 by omega)]
        by_cases k0 : 1 ≤ k
        · rw [if_pos k0, if_pos (show k - 1 < n by omega), show n - 1 - (k - 1) = n - 1 - k + 1 by omega]; grind
        · rw [if_neg k0, hh (n - 1 - k + 1) (by omega)]; grind
      · by_cases h1 : k = n
        · subst h1
          rw [if_pos (Nat.le_refl k), if_neg hk, if_pos rfl, Nat.sub_self, e, Ser.add_co, Xl_co0, Ser.C_co, if_pos rfl]
          by_cases k0 : 1 ≤ k
          · rw [if_pos k0, if_pos (show k - 1 < k by omega), show k - 1 - (k - 1) = 0 by omega]; grind
          · rw [if_neg k0, hh 0 (by omega)]; grind
        · rw [if_neg (show ¬ k ≤ n by omega), if_neg hk, if_pos (show 1 ≤ k by omega), if_neg (show ¬ k - 1 < n by omega), if_neg h1]; grind
    rw [e3, show geo r * ((1 - Ser.C r * xp 1) * (⟨fun k => if k < n then h.co (n - 1 - k) else 0⟩ : Ser K) + Ser.C v * xp n) = (geo r * (1 - Ser.C r * xp 1)) * (⟨fun k => if k < n then h.co (n - 1 - k) else 0⟩ : Ser K) + Ser.C v * (xp n * geo r) by grind, gm, xp_mul_co, if_pos (by omega), show n + m - m = n by omega, Ser.add_co, Ser.C_mul_co, xp_mul_co, if_pos (by omega), Nat.sub_self, geo_head, show (1 : Ser K) * (⟨fun k => if k < n then h.co (n - 1 - k) else 0⟩ : Ser K) = (⟨fun k => if k < n then h.co (n - 1 - k) else 0⟩ : Ser K) by grind]
    show (if n < n then _ else (0 : K)) + v * 1 = v
    rw [if_neg (by omega)]; grind
  · intro y hy
    rcases List.mem_append.mp hy with q | q
    · obtain ⟨k, hk, rfl⟩ := List.mem_map.mp q
      have hk := List.mem_range.mp hk
      rw [xp_mul_co, if_pos (by omega), rv_co, if_neg (by omega)]
    · obtain ⟨k, hk, rfl⟩ := List.mem_map.mp q
      have hk := List.mem_range.mp hk
      rw [xp_mul_co, if_pos (by omega), rv_co, if_neg (by omega)]
def Pl : List K → Ser K
  | [] => 1
  | r :: l => Xl r * Pl l
theorem Pl_far : ∀ l : List K, far (l.length + 1) (Pl l)
  | [] => far_one
  | r :: l => far_mono (far_mul (Xl_far r) (Pl_far l)) (by rw [List.length_cons]; omega)
theorem Pl_top : ∀ l : List K, (Pl l).co l.length = 1
  | [] => by show (1 : Ser K).co 0 = 1; rw [one_co, if_pos rfl]
  | r :: l => by
    have := mul_top (Xl_far r) (Pl_far l)
    rw [Xl_top, Pl_top l] at this
    show (Xl r * Pl l).co (l.length + 1) = 1
    rw [show l.length + 1 = 1 + l.length by omega, this]; grind
def prd (w : K → K) : List K → K
  | [] => 1
  | r :: l => w r * prd w l
theorem Rs_zero' [Half K] (c : K) {n : Nat} {g : Ser K} : Rs (Ser.C c) 0 g n = c ^ n := by
  unfold Rs Syl
  have : rv 0 (Ser.C c) = Ser.C c := Ser.ext fun k => by
    rw [rv_co]
    by_cases k0 : k = 0
    · subst k0; rw [if_pos (Nat.le_refl 0)]
    · rw [if_neg (show ¬ k ≤ 0 by omega), Ser.C_co, if_neg k0]
  rw [this]
  show Dt n ((List.range n).map (fun k => xp k * Ser.C c) ++ []) = c ^ n
  rw [List.append_nil]
  have go : ∀ n, Dt n ((List.range n).map (fun k => xp k * Ser.C c)) = c ^ n := by
    intro n
    induction n with
    | zero => rw [Lean.Grind.Semiring.pow_zero]; rfl
    | succ n ih =>
      rw [List.range_succ, List.map_append, List.map_cons, List.map_nil, Dt_lastcol n _ _ (by simp) fun y hy => by
        obtain ⟨k, hk, rfl⟩ := List.mem_map.mp hy
        have hk := List.mem_range.mp hk
        rw [xp_mul_co, if_pos (by omega), Ser.C_co, if_neg (by omega)], ih, xp_mul_co, if_pos (by omega), Nat.sub_self, Ser.C_co, if_pos rfl, Lean.Grind.Semiring.pow_succ]; grind
  exact go n
theorem Rs_roots [Half K] {c : K} {g : Ser K} {n : Nat} (fg : far (n + 1) g) {w : K → K} : ∀ {l : List K}, (∀ r ∈ l, At g r (w r)) → Rs (Pl l * Ser.C c) l.length g n = c ^ n * prd w l
  | [], _ => by
    show Rs (1 * Ser.C c) 0 g n = c ^ n * 1
    rw [show (1 : Ser K) * Ser.C c = Ser.C c by grind, Rs_zero']; grind
  | r :: l, h => by
    show Rs (Xl r * Pl l * Ser.C c) (l.length + 1) g n = c ^ n * (w r * prd w l)
    rw [show Xl r * Pl l * Ser.C c = Xl r * (Pl l * Ser.C c) by grind, Rs_line (far_mono (far_mul (Pl_far l) far_C) (by omega)) fg (h r (List.mem_cons_self ..)), Rs_roots fg fun r hr => h r (List.mem_cons_of_mem _ hr)]; grind
end
end DK
end RR
namespace RR
namespace DK
structure Po (K : Type) [Lean.Grind.CommRing K] where
  s : Ser K
  p : ∃ n, far n s
section
variable {K : Type} [Lean.Grind.CommRing K]
theorem Po.ext {a b : Po K} (h : a.s = b.s) : a = b := by
  cases a; cases b; cases h; rfl
def pC (c : K) : Po K := ⟨Ser.C c, 1, far_C⟩
def pAdd (a b : Po K) : Po K := ⟨a.s + b.s, by
  obtain ⟨n, h⟩ := a.p; obtain ⟨m, h'⟩ := b.p
  exact ⟨max n m, far_add (far_mono h (Nat.le_max_left ..)) (far_mono h' (Nat.le_max_right ..))⟩⟩
def pMul (a b : Po K) : Po K := ⟨a.s * b.s, by
  obtain ⟨n, h⟩ := a.p; obtain ⟨m, h'⟩ := b.p
  exact ⟨n + m - 1, far_mul h h'⟩⟩
def pNeg (a : Po K) : Po K := ⟨- a.s, by
  obtain ⟨n, h⟩ := a.p
  exact ⟨n, far_neg h⟩⟩
def rel (f : Ser K) (a b : Po K) : Prop := ∃ q : Po K, a.s - b.s = f * q.s
def sd (f : Ser K) : Setoid (Po K) where
  r := rel f
  iseqv := {
    refl := fun a => ⟨pC 0, by show a.s - a.s = f * 0; grind⟩
    symm := fun ⟨q, e⟩ => ⟨pNeg q, by show _ = f * (- q.s); grind⟩
    trans := fun ⟨q, e⟩ ⟨r, e'⟩ => ⟨pAdd q r, by show _ = f * (q.s + r.s); grind⟩ }
def Qr (f : Ser K) : Type := Quotient (sd f)
variable {f : Ser K}
def mk (f : Ser K) (a : Po K) : Qr f := Quotient.mk (sd f) a
theorem mk_eq {a b : Po K} (h : a.s = b.s) : mk f a = mk f b := by rw [Po.ext h]
theorem mk_rel {a b : Po K} (q : Po K) (h : a.s - b.s = f * q.s) : mk f a = mk f b := Quotient.sound (s := sd f) ⟨q, h⟩
theorem rel_of {a b : Po K} (h : mk f a = mk f b) : rel f a b := Quotient.exact (s := sd f) h
def qadd (x y : Qr f) : Qr f := Quotient.liftOn₂ (s₁ := sd f) (s₂ := sd f) x y (fun a b => mk f (pAdd a b)) fun a b a' b' ⟨q, e⟩ ⟨r, e'⟩ => mk_rel (pAdd q r) (by show (a.s + b.s) - (a'.s + b'.s) = f * (q.s + r.s); grind)
def qmul (x y : Qr f) : Qr f := Quotient.liftOn₂ (s₁ := sd f) (s₂ := sd f) x y (fun a b => mk f (pMul a b)) fun a b a' b' ⟨q, e⟩ ⟨r, e'⟩ => mk_rel (pAdd (pMul a r) (pMul q b')) (by
  show a.s * b.s - a'.s * b'.s = f * (a.s * r.s + q.s * b'.s)
  calc a.s * b.s - a'.s * b'.s = a.s * (b.s - b'.s) + (a.s - a'.s) * b'.s := by grind
    _ = a.s * (f * r.s) + (f * q.s) * b'.s := by rw [← e, ← e']
    _ = _ := by grind)
def qneg (x : Qr f) : Qr f := Quotient.liftOn (s := sd f) x (fun a => mk f (pNeg a)) fun a a' ⟨q, e⟩ => mk_rel (pNeg q) (by show -a.s - -a'.s = f * (-q.s); grind)
def qC (f : Ser K) (c : K) : Qr f := mk f (pC c)
instance : Add (Qr f) := ⟨qadd⟩
instance : _root_.Mul (Qr f) := ⟨qmul⟩
instance : Neg (Qr f) := ⟨qneg⟩
instance : Sub (Qr f) := ⟨fun x y => qadd x (qneg y)⟩
local instance : NatCast K := Lean.Grind.Semiring.natCast
local instance : IntCast K := Lean.Grind.Ring.intCast
instance (n : Nat) : OfNat (Qr f) n := ⟨qC f (OfNat.ofNat n)⟩
instance : NatCast (Qr f) := ⟨fun n => qC f (NatCast.natCast n)⟩
instance : IntCast (Qr f) := ⟨fun n => qC f (IntCast.intCast n)⟩
def qpow (x : Qr f) : Nat → Qr f
  | 0 => qC f 1
  | n + 1 => qmul (qpow x n) x
instance : HPow (Qr f) Nat (Qr f) := ⟨qpow⟩
instance : SMul Nat (Qr f) := ⟨fun n x => qmul (qC f (NatCast.natCast n)) x⟩
instance : SMul Int (Qr f) := ⟨fun n x => qmul (qC f (IntCast.intCast n)) x⟩
theorem rep (x : Qr f) : ∃ a, mk f a = x := Quotient.inductionOn (s := sd f) x fun a => ⟨a, rfl⟩
instance qring : Lean.Grind.CommRing (Qr f) where
  add_zero x := by
    obtain ⟨a, rfl⟩ := rep x
    refine mk_eq (f := f) ?_
    show a.s + Ser.C 0 = a.s; rw [C_zero]; grind
  add_comm x y := by
    obtain ⟨a, rfl⟩ := rep x; obtain ⟨b, rfl⟩ := rep y
    refine mk_eq (f := f) ?_
    show a.s + b.s = b.s + a.s; grind
  add_assoc x y z := by
    obtain ⟨a, rfl⟩ := rep x; obtain ⟨b, rfl⟩ := rep y; obtain ⟨c, rfl⟩ := rep z
    refine mk_eq (f := f) ?_
    show a.s + b.s + c.s = a.s + (b.s + c.s); grind
  mul_assoc x y z := by
    obtain ⟨a, rfl⟩ := rep x; obtain ⟨b, rfl⟩ := rep y; obtain ⟨c, rfl⟩ := rep z
    refine mk_eq (f := f) ?_
    show a.s * b.s * c.s = a.s * (b.s * c.s); grind
  mul_one x := by
    obtain ⟨a, rfl⟩ := rep x
    refine mk_eq (f := f) ?_
    show a.s * Ser.C 1 = a.s; rw [C_one]; grind
  one_mul x := by
    obtain ⟨a, rfl⟩ := rep x
    refine mk_eq (f := f) ?_
    show Ser.C 1 * a.s = a.s; rw [C_one]; grind
  left_distrib x y z := by
    obtain ⟨a, rfl⟩ := rep x; obtain ⟨b, rfl⟩ := rep y; obtain ⟨c, rfl⟩ := rep z
    refine mk_eq (f := f) ?_
    show a.s * (b.s + c.s) = a.s * b.s + a.s * c.s; grind
  right_distrib x y z := by
    obtain ⟨a, rfl⟩ := rep x; obtain ⟨b, rfl⟩ := rep y; obtain ⟨c, rfl⟩ := rep z
    refine mk_eq (f := f) ?_
    show (a.s + b.s) * c.s = a.s * c.s + b.s * c.s; grind
  zero_mul x := by
    obtain ⟨a, rfl⟩ := rep x
    refine mk_eq (f := f) ?_
    show Ser.C 0 * a.s = Ser.C 0; rw [C_zero]; grind
  mul_zero x := by
    obtain ⟨a, rfl⟩ := rep x
    refine mk_eq (f := f) ?_
    show a.s * Ser.C 0 = Ser.C 0; rw [C_zero]; grind
  pow_zero x := rfl
  pow_succ x n := rfl
  neg_add_cancel x := by
    obtain ⟨a, rfl⟩ := rep x
    refine mk_eq (f := f) ?_
    show - a.s + a.s = Ser.C 0; rw [C_zero]; grind
  sub_eq_add_neg x y := rfl
  mul_comm x y := by
    obtain ⟨a, rfl⟩ := rep x; obtain ⟨b, rfl⟩ := rep y
    refine mk_eq (f := f) ?_
    show a.s * b.s = b.s * a.s; grind
  nsmul_eq_natCast_mul n x := rfl
  zsmul_natCast_eq_nsmul n x := by
    obtain ⟨a, rfl⟩ := rep x
    refine mk_eq (f := f) ?_
    show Ser.C (IntCast.intCast (n : Int) : K) * a.s = Ser.C (NatCast.natCast n : K) * a.s
    rw [show (IntCast.intCast (n : Int) : K) = NatCast.natCast n from Lean.Grind.Ring.intCast_natCast n]
  ofNat_succ n := mk_eq (by
    show Ser.C (OfNat.ofNat (n + 1) : K) = Ser.C (OfNat.ofNat n : K) + Ser.C 1
    rw [← C_add]
    congr 1
    exact Lean.Grind.Semiring.ofNat_succ n)
  ofNat_eq_natCast n := mk_eq (by
    show Ser.C (OfNat.ofNat n : K) = Ser.C (NatCast.natCast n : K)
    congr 1
    exact Lean.Grind.Semiring.ofNat_eq_natCast n)
  intCast_ofNat n := mk_eq (by
    show Ser.C (IntCast.intCast (OfNat.ofNat n : Int) : K) = Ser.C (OfNat.ofNat n : K)
    congr 1
    exact Lean.Grind.Ring.intCast_ofNat n)
  intCast_neg i := mk_eq (by
    show Ser.C (IntCast.intCast (-i) : K) = - Ser.C (IntCast.intCast i : K)
    rw [← C_neg]
    congr 1
    exact Lean.Grind.Ring.intCast_neg i)
  neg_zsmul i x := by
    obtain ⟨a, rfl⟩ := rep x
    refine mk_eq (f := f) ?_
    show Ser.C (IntCast.intCast (-i) : K) * a.s = - (Ser.C (IntCast.intCast i : K) * a.s)
    rw [show (IntCast.intCast (-i) : K) = -(IntCast.intCast i) from Lean.Grind.Ring.intCast_neg i, C_neg]; grind
theorem qC_hm : Hm (qC f) where
  add a b := mk_eq (C_add a b)
  mul a b := mk_eq (C_mul a b)
  one := rfl
theorem qC_inj {d : Nat} (hf : far (d + 2) f) (f1 : f.co (d + 1) = 1) {a b : K} (h : qC f a = qC f b) : a = b := by
  obtain ⟨q, e⟩ := rel_of h
  have e : Ser.C a - Ser.C b = f * q.s := e
  have z : q.s = 0 := by
    refine Classical.byContradiction fun z => ?_
    obtain ⟨N, hq⟩ := q.p
    obtain ⟨k, _, t⟩ := top_of hq z
    have e1 := mul_top hf t.1
    rw [← e, Ser.sub_co, Ser.C_co, Ser.C_co, if_neg (by omega), if_neg (by omega), f1] at e1
    exact t.2 (by grind)
  rw [z] at e
  have : Ser.C a = Ser.C b := by grind
  exact C_inj this
def qt (f : Ser K) : Qr f := mk f ⟨xp 1, 2, fun k hk => by rw [xp_co, if_neg (by omega)]⟩
theorem at_self : ∀ (n : Nat) (a : Ser K) (ha : far n a), At (mp (qC f) a) (qt f) (mk f ⟨a, n, ha⟩)
  | 0, a, ha => by
    have : a = 0 := far0 ha
    subst this
    exact (At.C 0 (qt f)).cong (by show Ser.C 0 = mp (qC f) (Ser.C 0); rw [mp_C qC_hm]; rfl) (mk_eq rfl)
  | n + 1, a, ha => by
    have e : a = Ser.C (a.co 0) + xp 1 * a.tl := Ser.ext fun k => by
      rw [Ser.add_co, xp_mul_co, Ser.C_co]
      cases k with
      | zero => rw [if_pos rfl, if_neg (by omega)]; grind
      | succ k => rw [if_neg (by omega), if_pos (by omega)]; show a.co (k + 1) = 0 + a.co (k + 1); grind
    refine ((At.C (qC f (a.co 0)) (qt f)).add ((At.xp1 (qt f)).mul (at_self n a.tl fun k hk => ha (k + 1) (by omega)))).cong ?_ ?_
    · rw [← mp_C qC_hm, ← mp_xp qC_hm, ← mp_mul qC_hm, ← mp_add qC_hm, ← e]
    · exact mk_eq e.symm
end
theorem Hm.comp {K L M : Type} [Lean.Grind.CommRing K] [Lean.Grind.CommRing L] [Lean.Grind.CommRing M] {φ : K → L} {ψ : L → M} (h : Hm ψ) (h' : Hm φ) : Hm (fun x => ψ (φ x)) where
  add a b := by rw [h'.add, h.add]
  mul a b := by rw [h'.mul, h.mul]
  one := by rw [h'.one, h.one]
theorem Hm.id {K : Type} [Lean.Grind.CommRing K] : Hm (fun x : K => x) := ⟨fun _ _ => rfl, fun _ _ => rfl, rfl⟩
theorem half_of {K : Type} [Lean.Grind.CommRing K] {ψ : Rat → K} (h : Hm ψ) : Half K where
  half x e := by
    have e1 : ψ (1 / 2) + ψ (1 / 2) = 1 := by rw [← h.add, ← h.one]; congr 1; grind
    calc x = 1 * x := by grind
      _ = ψ (1 / 2) * (x + x) := by rw [← e1]; grind
      _ = 0 := by rw [e]; grind
theorem split : ∀ (d : Nat) (K : Type) [inst : Lean.Grind.CommRing K] (f : Ser K), far (d + 1) f → f.co d = 1 → ∃ (L : Type) (_ : Lean.Grind.CommRing L) (φ : K → L), Hm φ ∧ (∀ a b, φ a = φ b → a = b) ∧ ∃ l : List L, l.length = d ∧ mp φ f = Pl l
  | 0, K, inst, f, ff, f1 => by
    refine ⟨K, inst, fun x => x, .id, fun a b e => e, [], rfl, ?_⟩
    exact Ser.ext fun k => by
      show f.co k = (1 : Ser K).co k
      rw [one_co]
      by_cases k0 : k = 0
      · rw [if_pos k0, k0, f1]
      · rw [if_neg k0, ff k (by omega)]
  | d + 1, K, inst, f, ff, f1 => by
    have H : Hm (qC f) := qC_hm
    have a0 := at_self (f := f) (d + 2) f ff
    have z : mk f ⟨f, d + 2, ff⟩ = 0 := mk_rel ⟨1, 1, far_one⟩ (by show f - Ser.C 0 = f * 1; rw [C_zero]; grind)
    rw [z] at a0
    obtain ⟨h, hh, e⟩ := a0.place (n := d + 1) (mp_far H ff)
    have h1 : h.co d = 1 := by
      have := congrArg (fun s => s.co (d + 1)) e
      have this : (mp (qC f) f).co (d + 1) = (Xl (qt f) * h + Ser.C 0).co (d + 1) := this
      rw [mp_co, f1, H.one, Ser.add_co, Xl_co, hh (d + 1) (by omega), C_zero, zero_co] at this
      grind
    obtain ⟨L, iL, φ, Hφ, ij, l, ln, el⟩ := split d (Qr f) h hh h1
    refine ⟨L, iL, fun x => φ (qC f x), Hφ.comp H, fun a b e => qC_inj ff f1 (ij _ _ e), φ (qt f) :: l, by rw [List.length_cons, ln], ?_⟩
    have e2 : mp (fun x => φ (qC f x)) f = mp φ (mp (qC f) f) := rfl
    rw [e2, e, C_zero, show Xl (qt f) * h + 0 = Xl (qt f) * h by grind, mp_mul Hφ, el]
    unfold Xl
    rw [mp_sub Hφ, mp_xp Hφ, mp_C Hφ]; rfl
end DK
end RR
namespace RR
namespace DK
section
variable {K : Type} [Lean.Grind.CommRing K]
def nn : Nat → K
  | 0 => 0
  | k + 1 => nn k + 1
theorem nn_s (k : Nat) : (nn (k + 1) : K) = nn k + 1 := rfl
theorem nn_mp {L : Type} [Lean.Grind.CommRing L] {φ : K → L} (H : Hm φ) : ∀ k, φ (nn k) = nn k
  | 0 => H.zero
  | k + 1 => by rw [nn_s, nn_s, H.add, H.one, nn_mp H k]
def dl (f : Ser K) : Ser K := ⟨fun k => nn k * f.co k⟩
theorem dl_co (f : Ser K) (k : Nat) : (dl f).co k = nn k * f.co k := rfl
theorem dl_tl (f : Ser K) : (dl f).tl = dl f.tl + f.tl := Ser.ext fun k => by
  show nn (k + 1) * f.co (k + 1) = nn k * f.co (k + 1) + f.co (k + 1)
  rw [nn_s]; grind
theorem dl_mulc : ∀ (k : Nat) (f g : Ser K), nn k * Ser.mulc k f g = Ser.mulc k (dl f) g + Ser.mulc k f (dl g)
  | 0, f, g => by
    show (0 : K) * (f.co 0 * g.co 0) = (0 * f.co 0) * g.co 0 + f.co 0 * (0 * g.co 0)
    grind
  | k + 1, f, g => by
    show (nn k + 1) * (f.co 0 * g.co (k + 1) + Ser.mulc k f.tl g) = (0 * f.co 0) * g.co (k + 1) + Ser.mulc k (dl f).tl g + (f.co 0 * ((nn k + 1) * g.co (k + 1)) + Ser.mulc k f.tl (dl g))
    rw [dl_tl, Ser.mulc_add]
    have := dl_mulc k f.tl g
    grind
theorem dl_mul (f g : Ser K) : dl (f * g) = dl f * g + f * dl g := Ser.ext fun k => dl_mulc k f g
def lin (r : K) : Ser K := 1 - Ser.C r * xp 1
theorem dl_lin (r : K) : dl (lin r) = - (Ser.C r * xp 1) := Ser.ext fun k => by
  unfold lin
  rw [dl_co, Ser.neg_co, Ser.sub_co, Ser.C_mul_co, xp_co, one_co]
  by_cases k1 : k = 1
  · subst k1
    rw [if_pos rfl, if_neg (by omega)]
    show ((0 : K) + 1) * (0 - r * 1) = - (r * 1)
    grind
  · rw [if_neg k1]
    by_cases k0 : k = 0
    · subst k0
      show (0 : K) * _ = _
      grind
    · rw [if_neg k0]; grind
def En : List K → Ser K
  | [] => 1
  | r :: l => lin r * En l
def psum (k : Nat) : List K → K
  | [] => 0
  | r :: l => r ^ k + psum k l
def Pn (l : List K) : Ser K := ⟨fun k => if k = 0 then 0 else psum k l⟩
theorem Pn_co (l : List K) (k : Nat) : (Pn l).co (k + 1) = psum (k + 1) l := by
  show (if k + 1 = 0 then 0 else psum (k + 1) l) = _
  rw [if_neg (by omega)]
theorem Pn_cons (r : K) (l : List K) : Pn (r :: l) = (geo r - 1) + Pn l := Ser.ext fun k => by
  rw [Ser.add_co, Ser.sub_co, one_co]
  cases k with
  | zero =>
    show (0 : K) = (r ^ 0 - (if 0 = 0 then 1 else 0)) + 0
    rw [if_pos rfl, Lean.Grind.Semiring.pow_zero]; grind
  | succ k =>
    rw [Pn_co, Pn_co, if_neg (by omega)]
    show r ^ (k + 1) + psum (k + 1) l = r ^ (k + 1) - 0 + _
    grind
theorem newton : ∀ l : List K, dl (En l) = - (En l * Pn l)
  | [] => Ser.ext fun k => by
    show nn k * (1 : Ser K).co k = _
    have : Pn ([] : List K) = 0 := Ser.ext fun k => by
      show (if k = 0 then 0 else (0 : K)) = _
      rw [zero_co]; split <;> rfl
    rw [this, show -(En ([] : List K) * 0) = (0 : Ser K) by grind, zero_co, one_co]
    by_cases k0 : k = 0
    · subst k0
      show (0 : K) * _ = 0
      grind
    · rw [if_neg k0]; grind
  | r :: l => by
    show dl (lin r * En l) = -(lin r * En l * Pn (r :: l))
    rw [dl_mul, dl_lin, newton l, Pn_cons]
    have g := geo_mul r
    have e : lin r * (geo r - 1) = Ser.C r * xp 1 := by
      unfold lin
      rw [show (1 - Ser.C r * xp 1) * (geo r - 1) = geo r * (1 - Ser.C r * xp 1) - (1 - Ser.C r * xp 1) by grind, g]; grind
    rw [← e]; grind
theorem rv_Pl : ∀ l : List K, rv l.length (Pl l) = En l
  | [] => Ser.ext fun k => by
    show (rv 0 (1 : Ser K)).co k = (1 : Ser K).co k
    rw [rv_co]
    by_cases k0 : k = 0
    · subst k0; rw [if_pos (Nat.le_refl 0)]
    · rw [if_neg (show ¬ k ≤ 0 by omega), one_co, if_neg k0]
  | r :: l => by
    show rv (l.length + 1) (Xl r * Pl l) = lin r * En l
    rw [rv_line r (Pl_far l), rv_Pl l]; rfl
theorem low {D : Ser K} {k : Nat} (h : ∀ j, j < k → D.co j = 0) : D = xp k * ⟨fun j => D.co (k + j)⟩ := Ser.ext fun j => by
  rw [xp_mul_co]
  by_cases c : k ≤ j
  · rw [if_pos c]
    show D.co j = D.co (k + (j - k))
    rw [show k + (j - k) = j by omega]
  · rw [if_neg c, h j (by omega)]
theorem uniqE (hn : ∀ k (x : K), nn (k + 1) * x = 0 → x = 0) {E E' S : Ser K} (s0 : S.co 0 = 0) (e0 : E.co 0 = E'.co 0) {N : Nat} (h : ∀ k, k ≤ N → (dl E).co k = (-(E * S)).co k) (h' : ∀ k, k ≤ N → (dl E').co k = (-(E' * S)).co k) : ∀ k, k ≤ N → E.co k = E'.co k := by
  intro k
  induction k using Nat.strongRecOn with
  | _ k ih =>
    intro hk
    cases k with
    | zero => exact e0
    | succ k =>
      have e := low (D := E - E') (k := k + 1) fun j hj => by rw [Ser.sub_co, ih j hj (by omega)]; grind
      have a := h (k + 1) hk
      have a' := h' (k + 1) hk
      have z : ((E - E') * S).co (k + 1) = 0 := by
        rw [e, Lean.Grind.Semiring.mul_assoc, xp_mul_co, if_pos (Nat.le_refl _), Nat.sub_self]
        show (E - E').co (k + 1 + 0) * S.co 0 = 0
        rw [s0]; grind
      rw [show (E - E') * S = E * S - E' * S by grind, Ser.sub_co] at z
      rw [dl_co, Ser.neg_co] at a a'
      have := hn k (E.co (k + 1) - E'.co (k + 1)) (by grind)
      grind
def sm : Nat → (Nat → K) → K
  | 0, _ => 0
  | n + 1, f => sm n f + f n
theorem sm_cong : ∀ (n : Nat) {f g : Nat → K}, (∀ k, k < n → f k = g k) → sm n f = sm n g
  | 0, _, _, _ => rfl
  | n + 1, f, g, h => by
    show sm n f + f n = sm n g + g n
    rw [sm_cong n fun k hk => h k (by omega), h n (by omega)]
theorem sm_add : ∀ (n : Nat) (f g : Nat → K), sm n (fun k => f k + g k) = sm n f + sm n g
  | 0, _, _ => by show (0 : K) = 0 + 0; grind
  | n + 1, f, g => by
    show sm n _ + (f n + g n) = (sm n f + f n) + (sm n g + g n)
    rw [sm_add n f g]; grind
theorem sm_head : ∀ (n : Nat) (f : Nat → K), sm (n + 1) f = f 0 + sm n (fun k => f (k + 1))
  | 0, f => by show (0 : K) + f 0 = f 0 + 0; grind
  | n + 1, f => by
    show sm (n + 1) f + f (n + 1) = f 0 + (sm n (fun k => f (k + 1)) + f (n + 1))
    rw [sm_head n f]; grind
theorem sm_mp {L : Type} [Lean.Grind.CommRing L] {φ : K → L} (H : Hm φ) : ∀ (n : Nat) (f : Nat → K), φ (sm n f) = sm n (fun k => φ (f k))
  | 0, _ => H.zero
  | n + 1, f => by
    show φ (sm n f + f n) = sm n _ + φ (f n)
    rw [H.add, sm_mp H n f]
theorem mul_sm : ∀ (k : Nat) (f g : Ser K), (f * g).co k = sm (k + 1) (fun j => f.co j * g.co (k - j))
  | 0, f, g => by show f.co 0 * g.co 0 = 0 + f.co 0 * g.co 0; grind
  | k + 1, f, g => by
    show Ser.mulc (k + 1) f g = sm (k + 1) _ + f.co (k + 1) * g.co (k + 1 - (k + 1))
    rw [Ser.mulc_right, Nat.sub_self]
    have := mul_sm k f g.tl
    have this : Ser.mulc k f g.tl = _ := this
    rw [this, sm_cong (k + 1) (f := fun j => f.co j * g.tl.co (k - j)) (g := fun j => f.co j * g.co (k + 1 - j)) fun j hj => by
      show f.co j * g.co (k - j + 1) = _
      rw [show k - j + 1 = k + 1 - j by omega]]
    grind
def bs : Nat → (Nat → K) → (Nat → K) → K
  | 0, a, b => a 0 * b 0
  | k + 1, a, b => bs k (fun j => a (j + 1)) b + bs k a (fun j => b (j + 1))
theorem bs_addl : ∀ (k : Nat) (a a' b : Nat → K), bs k (fun j => a j + a' j) b = bs k a b + bs k a' b
  | 0, a, a', b => by show (a 0 + a' 0) * b 0 = a 0 * b 0 + a' 0 * b 0; grind
  | k + 1, a, a', b => by
    show bs k (fun j => a (j + 1) + a' (j + 1)) b + bs k (fun j => a j + a' j) _ = (bs k _ b + bs k a _) + (bs k _ b + bs k a' _)
    rw [bs_addl k (fun j => a (j + 1)) (fun j => a' (j + 1)), bs_addl k a a']; grind
theorem bs_addr : ∀ (k : Nat) (a b b' : Nat → K), bs k a (fun j => b j + b' j) = bs k a b + bs k a b'
  | 0, a, b, b' => by show a 0 * (b 0 + b' 0) = a 0 * b 0 + a 0 * b' 0; grind
  | k + 1, a, b, b' => by
    show bs k _ (fun j => b j + b' j) + bs k a (fun j => b (j + 1) + b' (j + 1)) = (bs k _ b + bs k a _) + (bs k _ b' + bs k a _)
    rw [bs_addr k (fun j => a (j + 1)) b b', bs_addr k a (fun j => b (j + 1)) (fun j => b' (j + 1))]; grind
theorem bs_mull : ∀ (k : Nat) (c : K) (a b : Nat → K), bs k (fun j => c * a j) b = c * bs k a b
  | 0, c, a, b => by show (c * a 0) * b 0 = c * (a 0 * b 0); grind
  | k + 1, c, a, b => by
    show bs k (fun j => c * a (j + 1)) b + bs k (fun j => c * a j) _ = c * (bs k _ b + bs k a _)
    rw [bs_mull k c (fun j => a (j + 1)), bs_mull k c a]; grind
theorem bs_mulr : ∀ (k : Nat) (c : K) (a b : Nat → K), bs k a (fun j => c * b j) = c * bs k a b
  | 0, c, a, b => by show a 0 * (c * b 0) = c * (a 0 * b 0); grind
  | k + 1, c, a, b => by
    show bs k _ (fun j => c * b j) + bs k a (fun j => c * b (j + 1)) = c * (bs k _ b + bs k a _)
    rw [bs_mulr k c _ b, bs_mulr k c a (fun j => b (j + 1))]; grind
theorem bs_pow (r s : K) : ∀ k, (r + s) ^ k = bs k (fun j => r ^ j) (fun j => s ^ j)
  | 0 => by
    show _ = r ^ 0 * s ^ 0
    rw [Lean.Grind.Semiring.pow_zero, Lean.Grind.Semiring.pow_zero, Lean.Grind.Semiring.pow_zero]; grind
  | k + 1 => by
    show _ = bs k (fun j => r ^ (j + 1)) (fun j => s ^ j) + bs k (fun j => r ^ j) (fun j => s ^ (j + 1))
    rw [show (fun j => r ^ (j + 1)) = (fun j : Nat => r * r ^ j) by funext j; rw [Lean.Grind.Semiring.pow_succ]; grind, show (fun j => s ^ (j + 1)) = (fun j : Nat => s * s ^ j) by funext j; rw [Lean.Grind.Semiring.pow_succ]; grind, bs_mull, bs_mulr, ← bs_pow r s k, Lean.Grind.Semiring.pow_succ]; grind
theorem bs_zl (k : Nat) (b : Nat → K) : bs k (fun _ => 0) b = 0 := by
  have := bs_mull k 0 (fun _ => 0) b
  rw [show (fun j : Nat => (0 : K) * 0) = (fun _ => 0) by funext j; grind] at this
  rw [this]; grind
theorem bs_zr (k : Nat) (a : Nat → K) : bs k a (fun _ => 0) = 0 := by
  have := bs_mulr k 0 a (fun _ => 0)
  rw [show (fun j : Nat => (0 : K) * 0) = (fun _ => 0) by funext j; grind] at this
  rw [this]; grind
def sumsL (l l' : List K) : List K := l.flatMap fun r => l'.map fun s => r + s
def prdL (l l' : List K) : List K := l.flatMap fun r => l'.map fun s => r * s
theorem psum_app (k : Nat) : ∀ l l' : List K, psum k (l ++ l') = psum k l + psum k l'
  | [], l' => by show psum k l' = 0 + _; grind
  | r :: l, l' => by
    show r ^ k + psum k (l ++ l') = r ^ k + psum k l + _
    rw [psum_app k l l']; grind
theorem psum_map_sum (k : Nat) (r : K) : ∀ l : List K, psum k (l.map fun s => r + s) = bs k (fun j => r ^ j) (fun j => psum j l)
  | [] => (bs_zr k _).symm
  | s :: l => by
    show (r + s) ^ k + psum k (l.map fun s => r + s) = bs k _ (fun j => s ^ j + psum j l)
    rw [psum_map_sum k r l, bs_addr, bs_pow]
theorem psum_sums (k : Nat) (l' : List K) : ∀ l : List K, psum k (sumsL l l') = bs k (fun j => psum j l) (fun j => psum j l')
  | [] => (bs_zl k _).symm
  | r :: l => by
    show psum k (l'.map (fun s => r + s) ++ sumsL l l') = bs k (fun j => r ^ j + psum j l) _
    rw [psum_app, psum_map_sum, psum_sums k l' l, bs_addl]
theorem psum_map_prd (k : Nat) (r : K) : ∀ l : List K, psum k (l.map fun s => r * s) = r ^ k * psum k l
  | [] => by show (0 : K) = r ^ k * 0; grind
  | s :: l => by
    show (r * s) ^ k + psum k (l.map fun s => r * s) = r ^ k * (s ^ k + psum k l)
    rw [psum_map_prd k r l]
    have : ∀ k : Nat, (r * s) ^ k = r ^ k * s ^ k := by
      intro k
      induction k with
      | zero => rw [Lean.Grind.Semiring.pow_zero, Lean.Grind.Semiring.pow_zero, Lean.Grind.Semiring.pow_zero]; grind
      | succ k ih => rw [Lean.Grind.Semiring.pow_succ, Lean.Grind.Semiring.pow_succ, Lean.Grind.Semiring.pow_succ, ih]; grind
    rw [this]; grind
theorem psum_prds (k : Nat) (l' : List K) : ∀ l : List K, psum k (prdL l l') = psum k l * psum k l'
  | [] => by show (0 : K) = 0 * _; grind
  | r :: l => by
    show psum k (l'.map (fun s => r * s) ++ prdL l l') = (r ^ k + psum k l) * _
    rw [psum_app, psum_map_prd, psum_prds k l' l]; grind
theorem pow_pow (r : K) (k : Nat) : ∀ j : Nat, (r ^ k) ^ j = r ^ (j * k)
  | 0 => by rw [Nat.zero_mul, Lean.Grind.Semiring.pow_zero, Lean.Grind.Semiring.pow_zero]
  | j + 1 => by rw [Nat.succ_mul, Lean.Grind.Semiring.pow_succ, pow_pow r k j, Lean.Grind.Semiring.pow_add]
theorem psum_pows (k j : Nat) : ∀ l : List K, psum j (l.map fun r => r ^ k) = psum (j * k) l
  | [] => rfl
  | r :: l => by
    show (r ^ k) ^ j + psum j (l.map fun r => r ^ k) = r ^ (j * k) + psum (j * k) l
    rw [psum_pows k j l, pow_pow]
theorem psum0 : ∀ l : List K, psum 0 l = nn l.length
  | [] => rfl
  | r :: l => by
    show r ^ 0 + psum 0 l = nn l.length + 1
    rw [psum0 l, Lean.Grind.Semiring.pow_zero]; grind
end
end DK
end RR
namespace RR
namespace DK
section
variable {K : Type} [Lean.Grind.CommRing K]
def prodT (T : K) : List K → K
  | [] => 1
  | c :: l => (T - c) * prodT T l
theorem prodT_app (T : K) : ∀ l l' : List K, prodT T (l ++ l') = prodT T l * prodT T l'
  | [], l' => by show prodT T l' = 1 * _; grind
  | c :: l, l' => by
    show (T - c) * prodT T (l ++ l') = (T - c) * prodT T l * _
    rw [prodT_app T l l']; grind
def evs (n : Nat) (g : Ser K) (T : K) : K := sm (n + 1) (fun k => g.co k * T ^ k)
theorem sm_mulc (c : K) : ∀ (n : Nat) (f : Nat → K), sm n (fun k => c * f k) = c * sm n f
  | 0, _ => by show (0 : K) = c * 0; grind
  | n + 1, f => by
    show sm n (fun k => c * f k) + c * f n = c * (sm n f + f n)
    rw [sm_mulc c n f]; grind
theorem sm_sub (n : Nat) (f g : Nat → K) : sm n (fun k => f k - g k) = sm n f - sm n g := by
  have := sm_add n f (fun k => -1 * g k)
  rw [sm_mulc] at this
  rw [sm_cong n (g := fun k => f k + -1 * g k) fun k _ => by grind, this]; grind
theorem evs_line {n : Nat} {h : Ser K} (hh : far (n + 1) h) (r T : K) : evs (n + 1) (Xl r * h) T = (T - r) * evs n h T := by
  unfold evs
  rw [sm_head, Xl_co0, sm_cong (n + 1) (g := fun k => T * (h.co k * T ^ k) - r * (h.co (k + 1) * T ^ (k + 1))) fun k _ => by rw [Xl_co, Lean.Grind.Semiring.pow_succ]; grind, sm_sub, sm_mulc, sm_mulc]
  have e := sm_head (n + 1) (fun k => h.co k * T ^ k)
  have e2 : sm (n + 2) (fun k => h.co k * T ^ k) = sm (n + 1) (fun k => h.co k * T ^ k) + h.co (n + 1) * T ^ (n + 1) := rfl
  rw [hh (n + 1) (by omega)] at e2
  grind
theorem evs_Pl (T : K) : ∀ l : List K, evs l.length (Pl l) T = prodT T l
  | [] => by
    show (0 : K) + (1 : Ser K).co 0 * T ^ 0 = 1
    rw [one_co, if_pos rfl, Lean.Grind.Semiring.pow_zero]; grind
  | r :: l => by
    show evs (l.length + 1) (Xl r * Pl l) T = (T - r) * prodT T l
    rw [evs_line (Pl_far l), evs_Pl T l]
theorem evs_C {n : Nat} (g : Ser K) (c T : K) : evs n (g * Ser.C c) T = c * evs n g T := by
  unfold evs
  rw [← sm_mulc]
  exact sm_cong _ fun k _ => by rw [show g * Ser.C c = Ser.C c * g by grind, Ser.C_mul_co]; grind
theorem evs_mp {L : Type} [Lean.Grind.CommRing L] {φ : K → L} (H : Hm φ) (n : Nat) (g : Ser K) (T : K) : φ (evs n g T) = evs n (mp φ g) (φ T) := by
  unfold evs
  rw [sm_mp H]
  exact sm_cong _ fun k _ => by rw [H.mul, H.pow, mp_co]
def turn (n : Nat) (g : Ser K) (T : K) : Ser K := evs n (mp Ser.C g) (Ser.C T - xp 1)
theorem C_hm : Hm (Ser.C : K → Ser K) := ⟨C_add, C_mul, C_one⟩
def wide (n : Nat) (g : Ser K) (T : K) : Ser K := ⟨fun k => if k ≤ n then g.co (n - k) * T ^ (n - k) else 0⟩
def Gs (T : K) : List K → Ser K
  | [] => 1
  | s :: l => (Ser.C (T - s) - xp 1) * Gs T l
def Gp (T : K) : List K → Ser K
  | [] => 1
  | s :: l => (Ser.C T - Ser.C s * xp 1) * Gp T l
theorem mp_Pl {L : Type} [Lean.Grind.CommRing L] {φ : K → L} (H : Hm φ) : ∀ l : List K, mp φ (Pl l) = Pl (l.map φ)
  | [] => mp_one H
  | r :: l => by
    show mp φ (Xl r * Pl l) = Xl (φ r) * Pl (l.map φ)
    rw [mp_mul H, mp_Pl H l]
    unfold Xl
    rw [mp_sub H, mp_xp H, mp_C H]
theorem prodT_Gs (T : K) : ∀ l : List K, prodT (Ser.C T - xp 1) (l.map Ser.C) = Gs T l
  | [] => rfl
  | s :: l => by
    show (Ser.C T - xp 1 - Ser.C s) * prodT _ (l.map Ser.C) = (Ser.C (T - s) - xp 1) * Gs T l
    rw [prodT_Gs T l, C_sub]; grind
theorem turn_Pl (T c : K) (l : List K) : turn l.length (Pl l * Ser.C c) T = Ser.C c * Gs T l := by
  unfold turn
  rw [mp_mul C_hm, mp_C C_hm, mp_Pl C_hm, evs_C]
  have := evs_Pl (Ser.C T - xp 1) (l.map Ser.C)
  rw [List.length_map] at this
  rw [this, prodT_Gs]
theorem far_lin (c : K) : far 2 (Ser.C c - xp 1 : Ser K) := fun k hk => by rw [Ser.sub_co, Ser.C_co, xp_co, if_neg (by omega), if_neg (by omega)]; grind
theorem far_pow {n : Nat} {f : Ser K} (h : far 2 f) : ∀ n, far (n + 1) (f ^ n)
  | 0 => by rw [Lean.Grind.Semiring.pow_zero]; exact far_one
  | n + 1 => by rw [Lean.Grind.Semiring.pow_succ]; exact far_mono (far_mul (far_pow h n (n := n)) h) (by omega)
theorem far_sm {n N : Nat} {f : Nat → Ser K} (h : ∀ k, k < N → far n (f k)) : far n (sm N f) := by
  induction N with
  | zero => exact far_mono far_zero (Nat.zero_le _)
  | succ N ih => exact far_add (ih fun k hk => h k (by omega)) (h N (by omega))
theorem turn_far (n : Nat) (g : Ser K) (T : K) : far (n + 1) (turn n g T) := by
  unfold turn evs
  refine far_sm fun k hk => ?_
  rw [mp_co]
  exact far_scale (far_mono (far_pow (n := 0) (far_lin T) k) (by omega))
theorem turn_mp {L : Type} [Lean.Grind.CommRing L] {φ : K → L} (H : Hm φ) (n : Nat) (g : Ser K) (T : K) : mp φ (turn n g T) = turn n (mp φ g) (φ T) := by
  unfold turn
  have Hm' : Hm (mp φ) := ⟨mp_add H, mp_mul H, mp_one H⟩
  rw [evs_mp Hm', mp_sub H, mp_C H, mp_xp H]
  congr 1
  exact Ser.ext fun k => by rw [mp_co, mp_co, mp_co, mp_co, mp_C H]
theorem wide_far (n : Nat) (g : Ser K) (T : K) : far (n + 1) (wide n g T) := fun k hk => by
  show (if k ≤ n then _ else (0 : K)) = 0
  rw [if_neg (by omega)]
theorem wide_mp {L : Type} [Lean.Grind.CommRing L] {φ : K → L} (H : Hm φ) (n : Nat) (g : Ser K) (T : K) : mp φ (wide n g T) = wide n (mp φ g) (φ T) := Ser.ext fun k => by
  show φ (if k ≤ n then g.co (n - k) * T ^ (n - k) else 0) = if k ≤ n then φ (g.co (n - k)) * φ T ^ (n - k) else 0
  split
  · rw [H.mul, H.pow]
  · exact H.zero
theorem wide_line {n : Nat} {h : Ser K} (hh : far (n + 1) h) (s T : K) : wide (n + 1) (Xl s * h) T = (Ser.C T - Ser.C s * xp 1) * wide n h T := Ser.ext fun k => by
  rw [show (Ser.C T - Ser.C s * xp 1) * wide n h T = Ser.C T * wide n h T - Ser.C s * (xp 1 * wide n h T) by grind, Ser.sub_co, Ser.C_mul_co, Ser.C_mul_co, xp_mul_co]
  show (if k ≤ n + 1 then (Xl s * h).co (n + 1 - k) * T ^ (n + 1 - k) else 0) = T * (if k ≤ n then h.co (n - k) * T ^ (n - k) else 0) - s * (if 1 ≤ k then (if k - 1 ≤ n then h.co (n - (k - 1)) * T ^ (n - (k - 1)) else 0) else 0)
  by_cases hk : k ≤ n
  · rw [if_pos (by omega), if_pos hk, show n + 1 - k = (n - k) + 1 by omega, Xl_co, Lean.Grind.Semiring.pow_succ]
    by_cases k0 : 1 ≤ k
    · rw [if_pos k0, if_pos (by omega), show n - (k - 1) = n - k + 1 by omega, Lean.Grind.Semiring.pow_succ]; grind
    · rw [if_neg k0, show n - k + 1 = n + 1 by omega, hh (n + 1) (by omega)]; grind
  · rw [if_neg hk]
    by_cases h1 : k = n + 1
    · subst h1
      rw [if_pos (Nat.le_refl _), Nat.sub_self, Xl_co0, if_pos (by omega), if_pos (by omega), show n - (n + 1 - 1) = 0 by omega, Lean.Grind.Semiring.pow_zero]; grind
    · rw [if_neg (by omega), if_pos (by omega), if_neg (by omega)]; grind
theorem wide_Pl (T c : K) : ∀ l : List K, wide l.length (Pl l * Ser.C c) T = Ser.C c * Gp T l
  | [] => Ser.ext fun k => by
    show (if k ≤ 0 then (1 * Ser.C c : Ser K).co (0 - k) * T ^ (0 - k) else 0) = (Ser.C c * (1 : Ser K)).co k
    rw [show (1 * Ser.C c : Ser K) = Ser.C c by grind, show (Ser.C c * (1 : Ser K)) = Ser.C c by grind, Nat.zero_sub, Lean.Grind.Semiring.pow_zero, Ser.C_co, if_pos rfl, Ser.C_co]
    by_cases h : k = 0
    · rw [if_pos (by omega), if_pos h]; grind
    · rw [if_neg (by omega), if_neg h]
  | s :: l => by
    show wide (l.length + 1) (Xl s * Pl l * Ser.C c) T = Ser.C c * ((Ser.C T - Ser.C s * xp 1) * Gp T l)
    rw [show Xl s * Pl l * Ser.C c = Xl s * (Pl l * Ser.C c) by grind, wide_line (far_mono (far_mul (Pl_far l) far_C) (by omega)), wide_Pl T c l]; grind
theorem At.Gs (T r : K) : ∀ l : List K, At (Gs T l) r (prodT T (l.map fun s => r + s))
  | [] => (At.C 1 r).cong C_one rfl
  | s :: l => by
    refine At.mul (At.cong ((At.C (T - s) r).add ((At.C (-1) r).mul (At.xp1 r))) ?_ ?_) (At.Gs T r l)
    · rw [C_neg, C_one]; grind
    · grind
theorem At.Gp (T r : K) : ∀ l : List K, At (Gp T l) r (prodT T (l.map fun s => r * s))
  | [] => (At.C 1 r).cong C_one rfl
  | s :: l => by
    refine At.mul (At.cong ((At.C T r).add ((At.C (-s) r).mul (At.xp1 r))) ?_ ?_) (At.Gp T r l)
    · rw [C_neg]; grind
    · grind
theorem At.xpk (r : K) : ∀ k, At (xp k) r (r ^ k)
  | 0 => (At.C 1 r).cong (by rw [C_one, xp0]) (by rw [Lean.Grind.Semiring.pow_zero])
  | k + 1 => ((At.xpk r k).mul (At.xp1 r)).cong (xp_add k 1).symm (by rw [Lean.Grind.Semiring.pow_succ])
theorem prd_split (c T : K) (h : K → K → K) (ss : List K) : ∀ rs : List K, prd (fun r => c * prodT T (ss.map fun s => h r s)) rs = c ^ rs.length * prodT T (rs.flatMap fun r => ss.map fun s => h r s)
  | [] => by show (1 : K) = c ^ 0 * 1; rw [Lean.Grind.Semiring.pow_zero]; grind
  | r :: rs => by
    show c * prodT T (ss.map fun s => h r s) * prd _ rs = c ^ (rs.length + 1) * prodT T ((ss.map fun s => h r s) ++ rs.flatMap fun r => ss.map fun s => h r s)
    rw [prd_split c T h ss rs, prodT_app, Lean.Grind.Semiring.pow_succ]; grind
theorem prd_pows (T : K) (k : Nat) : ∀ rs : List K, prd (fun r => T - r ^ k) rs = prodT T (rs.map fun r => r ^ k)
  | [] => rfl
  | r :: rs => by
    show (T - r ^ k) * prd _ rs = _
    rw [prd_pows T k rs]; rfl
theorem Rs_sumsL [Half K] (rs ss : List K) (a b T : K) : Rs (Pl rs * Ser.C a) rs.length (turn ss.length (Pl ss * Ser.C b) T) ss.length = a ^ ss.length * (b ^ rs.length * prodT T (sumsL rs ss)) := by
  have := Rs_roots (c := a) (g := turn ss.length (Pl ss * Ser.C b) T) (n := ss.length) (turn_far _ _ _) (w := fun r => b * prodT T (ss.map fun s => r + s)) (l := rs) fun r _ => by
    rw [turn_Pl]; exact (At.C b r).mul (At.Gs T r ss)
  rw [this, prd_split]; rfl
theorem Rs_prdL [Half K] (rs ss : List K) (a b T : K) : Rs (Pl rs * Ser.C a) rs.length (wide ss.length (Pl ss * Ser.C b) T) ss.length = a ^ ss.length * (b ^ rs.length * prodT T (prdL rs ss)) := by
  have := Rs_roots (c := a) (g := wide ss.length (Pl ss * Ser.C b) T) (n := ss.length) (wide_far _ _ _) (w := fun r => b * prodT T (ss.map fun s => r * s)) (l := rs) fun r _ => by
    rw [wide_Pl]; exact (At.C b r).mul (At.Gp T r ss)
  rw [this, prd_split]; rfl
def mono (k : Nat) (T : K) : Ser K := Ser.C T - xp k
theorem mono_far (k : Nat) (T : K) : far (k + 1) (mono k T) := fun j hj => by
  unfold mono
  rw [Ser.sub_co, Ser.C_co, xp_co, if_neg (by omega), if_neg (by omega)]; grind
theorem mono_mp {L : Type} [Lean.Grind.CommRing L] {φ : K → L} (H : Hm φ) (k : Nat) (T : K) : mp φ (mono k T) = mono k (φ T) := by
  unfold mono
  rw [mp_sub H, mp_C H, mp_xp H]
theorem Rs_powL [Half K] (rs : List K) (a T : K) (k : Nat) : Rs (Pl rs * Ser.C a) rs.length (mono k T) k = a ^ k * prodT T (rs.map fun r => r ^ k) := by
  have := Rs_roots (c := a) (g := mono k T) (n := k) (mono_far _ _) (w := fun r => T - r ^ k) (l := rs) fun r _ => by
    refine At.cong ((At.C T r).add ((At.C (-1) r).mul (At.xpk r k))) ?_ ?_
    · unfold mono; rw [C_neg, C_one]; grind
    · grind
  rw [this, prd_pows]
theorem prodT_Pl : ∀ l : List K, prodT (xp 1) (l.map Ser.C) = Pl l
  | [] => rfl
  | c :: l => by
    show (xp 1 - Ser.C c) * prodT (xp 1) (l.map Ser.C) = Xl c * Pl l
    rw [prodT_Pl l]; rfl
theorem sumsL_map {L : Type} [Lean.Grind.CommRing L] {φ : K → L} (H : Hm φ) (rs ss : List K) : sumsL (rs.map φ) (ss.map φ) = (sumsL rs ss).map φ := by
  unfold sumsL
  rw [List.flatMap_map, List.map_flatMap]
  congr 1
  funext r
  rw [List.map_map, List.map_map]
  exact List.map_congr_left fun s _ => (H.add r s).symm
theorem prdL_map {L : Type} [Lean.Grind.CommRing L] {φ : K → L} (H : Hm φ) (rs ss : List K) : prdL (rs.map φ) (ss.map φ) = (prdL rs ss).map φ := by
  unfold prdL
  rw [List.flatMap_map, List.map_flatMap]
  congr 1
  funext r
  rw [List.map_map, List.map_map]
  exact List.map_congr_left fun s _ => (H.mul r s).symm
theorem powL_map {L : Type} [Lean.Grind.CommRing L] {φ : K → L} (H : Hm φ) (k : Nat) (rs : List K) : (rs.map φ).map (fun r => r ^ k) = (rs.map fun r => r ^ k).map φ := by
  rw [List.map_map, List.map_map]
  exact List.map_congr_left fun s _ => (H.pow s k).symm
end
end DK
end RR
namespace RR
namespace DK
theorem nn_rat : ∀ k : Nat, (nn k : Rat) = (k : Rat)
  | 0 => rfl
  | k + 1 => by rw [nn_s, nn_rat k]; push_cast; rfl
def Nw (m : Nat) (E : Nat → Rat) (N : Nat) (p : Nat → Rat) : Prop := p 0 = (m : Rat) ∧ ∀ k, 1 ≤ k → k ≤ N → p k = 0 - ((if k ≤ m then (k : Rat) * E k else 0) + sm (min (k - 1) m) (fun i => E (i + 1) * p (k - (i + 1))))
def Ew (N : Nat) (s e : Nat → Rat) : Prop := e 0 = 1 ∧ ∀ k, 1 ≤ k → k ≤ N → e k = 0 - (sm k (fun i => e (k - (i + 1)) * s (i + 1))) / (k : Rat)
theorem sm_cut {K : Type} [Lean.Grind.CommRing K] {m : Nat} {f : Nat → K} (h : ∀ i, m ≤ i → f i = 0) : ∀ n, sm n f = sm (min n m) f
  | 0 => by rw [Nat.zero_min]
  | n + 1 => by
    show sm n f + f n = _
    by_cases c : n < m
    · rw [Nat.min_eq_left (by omega)]; rfl
    · rw [Nat.min_eq_right (by omega), h n (by omega), sm_cut h n, Nat.min_eq_right (by omega)]; grind
def put0 (p : Nat → Rat) : Ser Rat := ⟨fun k => if k = 0 then 0 else p k⟩
theorem put0_s (p : Nat → Rat) (k : Nat) : (put0 p).co (k + 1) = p (k + 1) := by
  show (if k + 1 = 0 then 0 else p (k + 1)) = _
  rw [if_neg (by omega)]
theorem Nw.ser {m N : Nat} {E p : Nat → Rat} (h : Nw m E N p) (E0 : E 0 = 1) {Es : Ser Rat} (he : ∀ k, Es.co k = if k ≤ m then E k else 0) : ∀ k, k ≤ N → (dl Es).co k = (-(Es * put0 p)).co k := by
  intro k hk
  rw [dl_co, Ser.neg_co, mul_sm, sm_head]
  cases k with
  | zero =>
    show (0 : Rat) * _ = -(Es.co 0 * (put0 p).co 0 + 0)
    show (0 : Rat) * _ = -(Es.co 0 * 0 + 0)
    grind
  | succ k =>
    have hr := h.2 (k + 1) (by omega) hk
    have e1 : sm (k + 1) (fun i => Es.co (i + 1) * (put0 p).co (k + 1 - (i + 1))) = sm (min k m) (fun i => E (i + 1) * p (k + 1 - (i + 1))) := by
      show sm k _ + Es.co (k + 1) * (put0 p).co (k + 1 - (k + 1)) = _
      rw [Nat.sub_self, show (put0 p).co 0 = 0 from rfl, sm_cut (m := m) (fun i hi => by rw [he, if_neg (by omega)]; grind) k, sm_cong (min k m) (g := fun i => E (i + 1) * p (k + 1 - (i + 1))) fun i hi => by
        rw [he, if_pos (by omega), show k + 1 - (i + 1) = (k - i - 1) + 1 by omega, put0_s]]
      grind
    rw [e1, Nat.sub_zero, put0_s, nn_rat, he, he, if_pos (Nat.zero_le _), E0]
    rw [Nat.add_sub_cancel] at hr
    by_cases c : k + 1 ≤ m
    · rw [if_pos c] at hr ⊢; grind
    · rw [if_neg c] at hr ⊢; grind
theorem Ew.ser {N : Nat} {s e : Nat → Rat} (h : Ew N s e) : ∀ k, k ≤ N → (dl (⟨e⟩ : Ser Rat)).co k = (-((⟨e⟩ : Ser Rat) * put0 s)).co k := by
  intro k hk
  rw [show (⟨e⟩ : Ser Rat) * put0 s = put0 s * ⟨e⟩ by grind, dl_co, Ser.neg_co, mul_sm, sm_head]
  cases k with
  | zero =>
    show (0 : Rat) * _ = -(0 * _ + 0)
    grind
  | succ k =>
    have hr := h.2 (k + 1) (by omega) hk
    rw [sm_cong (k + 1) (g := fun i => e (k + 1 - (i + 1)) * s (i + 1)) fun i hi => by rw [put0_s]; show _ * e _ = _; grind, nn_rat]
    show ((k + 1 : Nat) : Rat) * e (k + 1) = -(0 * _ + _)
    rw [hr]
    have k0 : ((k + 1 : Nat) : Rat) ≠ 0 := by
      intro z
      have : (k + 1 : Nat) = 0 := by exact_mod_cast z
      omega
    have d := Rat.div_mul_cancel (a := sm (k + 1) (fun i => e (k + 1 - (i + 1)) * s (i + 1))) k0
    grind
section
variable {L : Type} [Lean.Grind.CommRing L] {Ψ : Rat → L} (H : Hm Ψ)
include H
theorem nn_can (k : Nat) (x : L) (h : nn (k + 1) * x = 0) : x = 0 := by
  have e : Ψ (1 / ((k + 1 : Nat) : Rat)) * nn (k + 1) = 1 := by
    rw [← nn_mp H (k + 1), ← H.mul, ← H.one, nn_rat]
    congr 1
    refine Rat.div_mul_cancel fun z => ?_
    have : (k + 1 : Nat) = 0 := by exact_mod_cast z
    omega
  calc x = 1 * x := by grind
    _ = Ψ (1 / ((k + 1 : Nat) : Rat)) * (nn (k + 1) * x) := by rw [← e]; grind
    _ = 0 := by rw [h]; grind
theorem uniqPN {E P P' : Ser L} (e0 : E.co 0 = 1) {N : Nat} (h : ∀ k, k ≤ N → (E * P).co k = (E * P').co k) : ∀ k, k ≤ N → P.co k = P'.co k := by
  intro k
  induction k using Nat.strongRecOn with
  | _ k ih =>
    intro hk
    have e := low (D := P - P') (k := k) fun j hj => by rw [Ser.sub_co, ih j hj (by omega)]; grind
    have z : (E * (P - P')).co k = 0 := by rw [show E * (P - P') = E * P - E * P' by grind, Ser.sub_co, h k hk]; grind
    rw [e, show E * (xp k * (⟨fun j => (P - P').co (k + j)⟩ : Ser L)) = xp k * (E * ⟨fun j => (P - P').co (k + j)⟩) by grind, xp_mul_co, if_pos (Nat.le_refl _), Nat.sub_self] at z
    have z : E.co 0 * (P - P').co k = 0 := z
    rw [e0, Ser.sub_co] at z; grind
theorem psums {rs : List L} {f : Ser Rat} {a : Rat} (a0 : a ≠ 0) (fa : f.co rs.length = a) (e : mp Ψ f = Pl rs * Ser.C (Ψ a)) {N : Nat} {p : Nat → Rat} (hp : Nw rs.length (fun k => f.co (rs.length - k) / a) N p) : ∀ k, k ≤ N → psum k rs = Ψ (p k) := by
  intro k hk
  cases k with
  | zero => rw [psum0, hp.1, ← nn_rat, nn_mp H]
  | succ k =>
    have i1 : Ψ a * Ψ (1 / a) = 1 := by
      rw [← H.mul, ← H.one]; congr 1
      rw [Rat.mul_comm]; exact Rat.div_mul_cancel a0
    let Es : Ser Rat := ⟨fun k => if k ≤ rs.length then f.co (rs.length - k) / a else 0⟩
    have hs := hp.ser (Es := Es) (by rw [Nat.sub_zero, fa, Rat.div_def]; exact Rat.mul_inv_cancel _ a0) fun k => rfl
    have eE : mp Ψ Es = En rs := by
      rw [← rv_Pl]
      refine Ser.ext fun k => ?_
      rw [mp_co, rv_co]
      show Ψ (if k ≤ rs.length then f.co (rs.length - k) / a else 0) = _
      split
      · have := congrArg (fun s => s.co (rs.length - k)) e
        have this : (mp Ψ f).co (rs.length - k) = (Pl rs * Ser.C (Ψ a)).co (rs.length - k) := this
        rw [mp_co, show Pl rs * Ser.C (Ψ a) = Ser.C (Ψ a) * Pl rs by grind, Ser.C_mul_co] at this
        rw [show f.co (rs.length - k) / a = f.co (rs.length - k) * (1 / a) by rw [Rat.div_def, Rat.div_def]; grind, H.mul, this]
        grind
      · exact H.zero
    have nw := newton rs
    have d0 : ∀ k, k ≤ N → (En rs * Pn rs).co k = (En rs * mp Ψ (put0 p)).co k := fun k hk => by
      have a := congrArg Ψ (hs k hk)
      have b := congrArg (fun s => s.co k) nw
      have b : (dl (En rs)).co k = (-(En rs * Pn rs)).co k := b
      rw [dl_co, H.mul, nn_mp H, ← mp_co Ψ Es, eE, Ser.neg_co, H.neg, ← mp_co Ψ (Es * put0 p), mp_mul H, eE] at a
      rw [dl_co, Ser.neg_co] at b
      grind
    have h1 : (En rs).co 0 = 1 := by
      rw [← rv_Pl, rv_co, if_pos (Nat.zero_le _), Nat.sub_zero, Pl_top]
    have := uniqPN H h1 d0 (k + 1) hk
    rw [Pn_co, mp_co, put0_s] at this
    exact this
theorem esums {comp : List L} {s e : Nat → Rat} (he : Ew comp.length s e) (hs : ∀ k, 1 ≤ k → k ≤ comp.length → psum k comp = Ψ (s k)) : ∀ i, i ≤ comp.length → (Pl comp).co i = Ψ (e (comp.length - i)) := by
  intro i hi
  have h := he.ser
  have h1 : (En comp).co 0 = 1 := by
    rw [← rv_Pl, rv_co, if_pos (Nat.zero_le _), Nat.sub_zero, Pl_top]
  have nw := newton comp
  have := uniqE (nn_can H) (E := En comp) (E' := mp Ψ ⟨e⟩) (S := Pn comp) rfl (by rw [h1, mp_co]; show 1 = Ψ (e 0); rw [he.1, H.one]) (N := comp.length) (fun k hk => by rw [nw]) (fun k hk => by
    have a := congrArg Ψ (h k hk)
    rw [dl_co, H.mul, nn_mp H, Ser.neg_co, H.neg, ← mp_co Ψ ((⟨e⟩ : Ser Rat) * put0 s), mp_mul H] at a
    rw [dl_co, mp_co, a, Ser.neg_co, mul_sm, mul_sm]
    congr 1
    refine sm_cong _ fun j hj => ?_
    congr 1
    rw [mp_co]
    cases kj : k - j with
    | zero => show Ψ 0 = 0; exact H.zero
    | succ r => rw [put0_s, Pn_co]; exact (hs (r + 1) (by omega) (by omega)).symm)
  have e2 := this (comp.length - i) (by omega)
  rw [← rv_Pl, rv_co, if_pos (by omega), show comp.length - (comp.length - i) = i by omega] at e2
  exact e2
theorem worth {comp : List L} {e : Nat → Rat} (h : ∀ i, i ≤ comp.length → (Pl comp).co i = Ψ (e (comp.length - i))) (t : Rat) : prodT (Ψ t) comp = Ψ (sm (comp.length + 1) (fun i => e (comp.length - i) * t ^ i)) := by
  rw [← evs_Pl, sm_mp H]
  unfold evs
  exact sm_cong _ fun k hk => by rw [h k (by omega), H.mul, H.pow]
end
theorem Hm.cast : Hm (fun z : Int => (z : Rat)) := ⟨Rat.intCast_add, Rat.intCast_mul, rfl⟩
theorem roots2 {f g : Ser Rat} {m n : Nat} {a b : Rat} (ff : far (m + 1) f) (fa : f.co m = a) (a0 : a ≠ 0) (fg : far (n + 1) g) (gb : g.co n = b) (b0 : b ≠ 0) :
    ∃ (L : Type) (_ : Lean.Grind.CommRing L) (Ψ : Rat → L) (rs ss : List L), Hm Ψ ∧ (∀ x y, Ψ x = Ψ y → x = y) ∧ rs.length = m ∧ ss.length = n ∧ mp Ψ f = Pl rs * Ser.C (Ψ a) ∧ mp Ψ g = Pl ss * Ser.C (Ψ b) := by
  have ia : (1 / a) * a = 1 := Rat.div_mul_cancel a0
  have ib : (1 / b) * b = 1 := Rat.div_mul_cancel b0
  obtain ⟨L1, i1, φ, H1, j1, l1, n1, e1⟩ := split m Rat (Ser.C (1 / a) * f) (far_scale ff) (by rw [Ser.C_mul_co, fa, ia])
  have fg1 : far (n + 1) (mp φ (Ser.C (1 / b) * g)) := mp_far H1 (far_scale fg)
  obtain ⟨L2, i2, ψ, H2, j2, l2, n2, e2⟩ := split n L1 (mp φ (Ser.C (1 / b) * g)) fg1 (by rw [mp_co, Ser.C_mul_co, gb, ib, H1.one])
  have H : Hm (fun x => ψ (φ x)) := H2.comp H1
  refine ⟨L2, i2, fun x => ψ (φ x), l1.map ψ, l2, H, fun x y h => j1 _ _ (j2 _ _ h), by rw [List.length_map, n1], n2, ?_, ?_⟩
  · have e3 : mp (fun x => ψ (φ x)) f = mp ψ (mp φ f) := rfl
    have e4 : f = Ser.C a * (Ser.C (1 / a) * f) := by
      rw [← Lean.Grind.Semiring.mul_assoc, ← C_mul, Rat.mul_comm a, ia, C_one]; grind
    rw [e3, e4, mp_mul H1, mp_C H1, e1, mp_mul H2, mp_C H2, mp_Pl H2]; grind
  · have e3 : mp (fun x => ψ (φ x)) g = mp ψ (mp φ g) := rfl
    have e4 : g = Ser.C b * (Ser.C (1 / b) * g) := by
      rw [← Lean.Grind.Semiring.mul_assoc, ← C_mul, Rat.mul_comm b, ib, C_one]; grind
    rw [e3, e4, mp_mul H1, mp_C H1, mp_mul H2, mp_C H2, e2]; grind
abbrev qi (F : Ser Int) : Ser Rat := mp (fun z : Int => (z : Rat)) F
section
variable {F G : Ser Int} {m n : Nat} {a b : Int} (fF : far (m + 1) F) (Fa : F.co m = a) (a0 : a ≠ 0)
theorem cast_ne {a : Int} (h : a ≠ 0) : ((a : Int) : Rat) ≠ 0 := fun z => h (by exact_mod_cast z)
structure Told (N : Nat) (D : Int) (R : Rat → Rat) (e : Nat → Rat) : Prop where
  at_ : ∀ t : Rat, R t = (D : Rat) * sm (N + 1) (fun i => e (N - i) * t ^ i)
  int : ∀ i, i ≤ N → ∃ z : Int, (z : Rat) = (D : Rat) * e i
theorem len_sum {L : Type} (rs : List L) (n : Nat) : (List.map (fun _ => n) rs).sum = rs.length * n := by
  induction rs with
  | nil => simp
  | cons r rs ih => rw [List.map_cons, List.sum_cons, ih, List.length_cons, Nat.add_mul]; omega
theorem told_of {L : Type} [Lean.Grind.CommRing L] {Ψ : Rat → L} (H : Hm Ψ) (ij : ∀ x y, Ψ x = Ψ y → x = y) {comp : List L} {e s : Nat → Rat} {D : Int} {R : Rat → Rat} {Rz : Ser Int} (he : Ew comp.length s e) (hs : ∀ k, 1 ≤ k → k ≤ comp.length → psum k comp = Ψ (s k)) (h1 : ∀ t, Ψ (R t) = Ψ (D : Rat) * prodT (Ψ t) comp)
    (h2 : mp (fun z : Int => Ψ (z : Rat)) Rz = Ser.C (Ψ (D : Rat)) * Pl comp) : Told comp.length D R e := by
  have h := esums H he hs
  refine ⟨fun t => ij _ _ ?_, fun i hi => ⟨Rz.co (comp.length - i), ij _ _ ?_⟩⟩
  · rw [h1, worth H h, H.mul]
  · have := congrArg (fun s => s.co (comp.length - i)) h2
    have this : Ψ ((Rz.co (comp.length - i) : Int) : Rat) = (Ser.C (Ψ (D : Rat)) * Pl comp).co (comp.length - i) := this
    rw [this, Ser.C_mul_co, h _ (by omega), show comp.length - (comp.length - i) = i by omega, H.mul]
theorem C_pow {K : Type} [Lean.Grind.CommRing K] (a : K) : ∀ n : Nat, (Ser.C a) ^ n = Ser.C (a ^ n)
  | 0 => by rw [Lean.Grind.Semiring.pow_zero, Lean.Grind.Semiring.pow_zero, C_one]
  | n + 1 => by rw [Lean.Grind.Semiring.pow_succ, Lean.Grind.Semiring.pow_succ, C_pow a n, C_mul]
theorem mp_mp {K L M : Type} [Lean.Grind.CommRing K] [Lean.Grind.CommRing L] [Lean.Grind.CommRing M] (φ : K → L) (ψ : L → M) (f : Ser K) : mp ψ (mp φ f) = mp (fun x => ψ (φ x)) f := rfl
include fF Fa a0
theorem sums_told (fG : far (n + 1) G) (Gb : G.co n = b) (b0 : b ≠ 0) {p q s e : Nat → Rat} (hp : Nw m (fun k => (qi F).co (m - k) / (a : Rat)) (m * n) p) (hq : Nw n (fun k => (qi G).co (n - k) / (b : Rat)) (m * n) q) (hs : ∀ k, 1 ≤ k → k ≤ m * n → s k = bs k p q) (he : Ew (m * n) s e) :
    Told (m * n) (a ^ n * b ^ m) (fun t => Rs (qi F) m (turn n (qi G) t) n) e := by
  obtain ⟨L, iL, Ψ, rs, ss, H, ij, rfl, rfl, e1, e2⟩ := roots2 (mp_far Hm.cast fF) (show (qi F).co m = (a : Rat) by rw [mp_co, Fa]) (cast_ne a0) (mp_far Hm.cast fG) (show (qi G).co n = (b : Rat) by rw [mp_co, Gb]) (cast_ne b0)
  have hL : Half L := half_of H
  have HC : Hm (fun x : Rat => Ser.C (Ψ x)) := C_hm.comp H
  have hSL : Half (Ser L) := half_of HC
  have Hz : Hm (fun z : Int => Ψ (z : Rat)) := H.comp Hm.cast
  have HZ : Hm (mp (fun z : Int => Ψ (z : Rat))) := ⟨mp_add Hz, mp_mul Hz, mp_one Hz⟩
  have ps := psums H (cast_ne a0) (by rw [mp_co, Fa]) e1 hp
  have qs := psums H (cast_ne b0) (by rw [mp_co, Gb]) e2 hq
  have ln : (sumsL rs ss).length = rs.length * ss.length := by
    unfold sumsL
    rw [List.length_flatMap]
    simp only [List.length_map]
    exact len_sum rs _
  have eD : Ψ (((a ^ ss.length * b ^ rs.length : Int)) : Rat) = Ψ (a : Rat) ^ ss.length * Ψ (b : Rat) ^ rs.length := by
    rw [Rat.intCast_mul, H.mul, Rat.intCast_pow, Rat.intCast_pow, H.pow, H.pow]
  rw [← ln] at he ⊢
  refine told_of (Ψ := Ψ) H ij (Rz := Rs (mp Ser.C F) rs.length (turn ss.length (mp Ser.C G) (xp 1)) ss.length) he (fun k k1 hk => ?_) (fun t => ?_) ?_
  · rw [psum_sums, hs k k1 (by omega)]
    have gen : ∀ (k : Nat) (p q : Nat → Rat), Ψ (bs k p q) = bs k (fun j => Ψ (p j)) (fun j => Ψ (q j)) := by
      intro k
      induction k with
      | zero => intro p q; exact H.mul _ _
      | succ k ih => intro p q; show Ψ (bs k _ q + bs k p _) = _; rw [H.add, ih, ih]; rfl
    have cong : ∀ (k : Nat) (x x' y y' : Nat → L), (∀ j, j ≤ k → x j = x' j) → (∀ j, j ≤ k → y j = y' j) → bs k x y = bs k x' y' := by
      intro k
      induction k with
      | zero => intro x x' y y' h h'; show x 0 * y 0 = x' 0 * y' 0; rw [h 0 (by omega), h' 0 (by omega)]
      | succ k ih => intro x x' y y' h h'; show bs k _ _ + bs k _ _ = bs k _ _ + bs k _ _; rw [ih _ (fun j => x' (j + 1)) y y' (fun j hj => h (j + 1) (by omega)) (fun j hj => h' j (by omega)), ih x x' _ (fun j => y' (j + 1)) (fun j hj => h j (by omega)) (fun j hj => h' (j + 1) (by omega))]
    rw [gen]
    exact cong k _ _ _ _ (fun j hj => ps j (by omega)) (fun j hj => qs j (by omega))
  · rw [Rs_mp H, turn_mp H, e1, e2, Rs_sumsL, eD]; grind
  · have e3 := Rs_mp HZ (mp Ser.C F) rs.length (turn ss.length (mp Ser.C G) (xp 1)) ss.length
    have f1 : mp (mp (fun z : Int => Ψ (z : Rat))) (mp Ser.C F) = Pl (rs.map Ser.C) * Ser.C (Ser.C (Ψ (a : Rat))) := by
      rw [← mp_Pl C_hm, ← mp_C C_hm, ← mp_mul C_hm, ← e1, mp_mp, mp_mp, mp_mp]
      exact Ser.ext fun k => mp_C Hz _
    have g1 : mp (mp (fun z : Int => Ψ (z : Rat))) (mp Ser.C G) = Pl (ss.map Ser.C) * Ser.C (Ser.C (Ψ (b : Rat))) := by
      rw [← mp_Pl C_hm, ← mp_C C_hm, ← mp_mul C_hm, ← e2, mp_mp, mp_mp, mp_mp]
      exact Ser.ext fun k => mp_C Hz _
    have e4 := Rs_sumsL (rs.map Ser.C) (ss.map Ser.C) (Ser.C (Ψ (a : Rat))) (Ser.C (Ψ (b : Rat))) (xp 1)
    rw [List.length_map, List.length_map, sumsL_map C_hm, prodT_Pl] at e4
    rw [e3, turn_mp HZ, f1, g1, mp_xp Hz, e4, eD, C_mul, C_pow, C_pow]; grind
theorem prds_told (fG : far (n + 1) G) (Gb : G.co n = b) (b0 : b ≠ 0) {p q s e : Nat → Rat} (hp : Nw m (fun k => (qi F).co (m - k) / (a : Rat)) (m * n) p) (hq : Nw n (fun k => (qi G).co (n - k) / (b : Rat)) (m * n) q) (hs : ∀ k, 1 ≤ k → k ≤ m * n → s k = p k * q k) (he : Ew (m * n) s e) :
    Told (m * n) (a ^ n * b ^ m) (fun t => Rs (qi F) m (wide n (qi G) t) n) e := by
  obtain ⟨L, iL, Ψ, rs, ss, H, ij, rfl, rfl, e1, e2⟩ := roots2 (mp_far Hm.cast fF) (show (qi F).co m = (a : Rat) by rw [mp_co, Fa]) (cast_ne a0) (mp_far Hm.cast fG) (show (qi G).co n = (b : Rat) by rw [mp_co, Gb]) (cast_ne b0)
  have hL : Half L := half_of H
  have HC : Hm (fun x : Rat => Ser.C (Ψ x)) := C_hm.comp H
  have hSL : Half (Ser L) := half_of HC
  have Hz : Hm (fun z : Int => Ψ (z : Rat)) := H.comp Hm.cast
  have HZ : Hm (mp (fun z : Int => Ψ (z : Rat))) := ⟨mp_add Hz, mp_mul Hz, mp_one Hz⟩
  have ps := psums H (cast_ne a0) (by rw [mp_co, Fa]) e1 hp
  have qs := psums H (cast_ne b0) (by rw [mp_co, Gb]) e2 hq
  have ln : (prdL rs ss).length = rs.length * ss.length := by
    unfold prdL
    rw [List.length_flatMap]
    simp only [List.length_map]
    exact len_sum rs _
  have eD : Ψ (((a ^ ss.length * b ^ rs.length : Int)) : Rat) = Ψ (a : Rat) ^ ss.length * Ψ (b : Rat) ^ rs.length := by
    rw [Rat.intCast_mul, H.mul, Rat.intCast_pow, Rat.intCast_pow, H.pow, H.pow]
  rw [← ln] at he ⊢
  refine told_of (Ψ := Ψ) H ij (Rz := Rs (mp Ser.C F) rs.length (wide ss.length (mp Ser.C G) (xp 1)) ss.length) he (fun k k1 hk => ?_) (fun t => ?_) ?_
  · rw [psum_prds, hs k k1 (by omega), H.mul, ps k (by omega), qs k (by omega)]
  · rw [Rs_mp H, wide_mp H, e1, e2, Rs_prdL, eD]; grind
  · have e3 := Rs_mp HZ (mp Ser.C F) rs.length (wide ss.length (mp Ser.C G) (xp 1)) ss.length
    have f1 : mp (mp (fun z : Int => Ψ (z : Rat))) (mp Ser.C F) = Pl (rs.map Ser.C) * Ser.C (Ser.C (Ψ (a : Rat))) := by
      rw [← mp_Pl C_hm, ← mp_C C_hm, ← mp_mul C_hm, ← e1, mp_mp, mp_mp, mp_mp]
      exact Ser.ext fun k => mp_C Hz _
    have g1 : mp (mp (fun z : Int => Ψ (z : Rat))) (mp Ser.C G) = Pl (ss.map Ser.C) * Ser.C (Ser.C (Ψ (b : Rat))) := by
      rw [← mp_Pl C_hm, ← mp_C C_hm, ← mp_mul C_hm, ← e2, mp_mp, mp_mp, mp_mp]
      exact Ser.ext fun k => mp_C Hz _
    have e4 := Rs_prdL (rs.map Ser.C) (ss.map Ser.C) (Ser.C (Ψ (a : Rat))) (Ser.C (Ψ (b : Rat))) (xp 1)
    rw [List.length_map, List.length_map, prdL_map C_hm, prodT_Pl] at e4
    rw [e3, wide_mp HZ, f1, g1, mp_xp Hz, e4, eD, C_mul, C_pow, C_pow]; grind
theorem pows_told {k : Nat} {p s e : Nat → Rat} (hp : Nw m (fun k => (qi F).co (m - k) / (a : Rat)) (m * k) p) (hs : ∀ j, 1 ≤ j → j ≤ m → s j = p (j * k)) (he : Ew m s e) :
    Told m (a ^ k) (fun t => Rs (qi F) m (mono k t) k) e := by
  obtain ⟨L, iL, Ψ, rs, ss, H, ij, rfl, _, e1, _⟩ := roots2 (n := 0) (g := 1) (b := 1) (mp_far Hm.cast fF) (show (qi F).co m = (a : Rat) by rw [mp_co, Fa]) (cast_ne a0) far_one (by rw [one_co, if_pos rfl]) (by decide)
  have hL : Half L := half_of H
  have HC : Hm (fun x : Rat => Ser.C (Ψ x)) := C_hm.comp H
  have hSL : Half (Ser L) := half_of HC
  have Hz : Hm (fun z : Int => Ψ (z : Rat)) := H.comp Hm.cast
  have HZ : Hm (mp (fun z : Int => Ψ (z : Rat))) := ⟨mp_add Hz, mp_mul Hz, mp_one Hz⟩
  have ps := psums H (cast_ne a0) (by rw [mp_co, Fa]) e1 hp
  have ln : (rs.map fun r => r ^ k).length = rs.length := List.length_map ..
  have eD : Ψ (((a ^ k : Int)) : Rat) = Ψ (a : Rat) ^ k := by
    rw [Rat.intCast_pow, H.pow]
  have T := told_of (Ψ := Ψ) (comp := rs.map fun r => r ^ k) (s := s) (e := e) (D := a ^ k) (R := fun t => Rs (qi F) rs.length (mono k t) k) H ij (Rz := Rs (mp Ser.C F) rs.length (mono k (xp 1)) k) (by rw [ln]; exact he) (fun j k1 hk => by
    rw [ln] at hk
    rw [psum_pows, hs j k1 hk, ps (j * k) (Nat.mul_le_mul_right k hk)]) (fun t => by
    rw [Rs_mp H, mono_mp H, e1, Rs_powL, eD]) (by
    have e3 := Rs_mp HZ (mp Ser.C F) rs.length (mono k (xp 1)) k
    have f1 : mp (mp (fun z : Int => Ψ (z : Rat))) (mp Ser.C F) = Pl (rs.map Ser.C) * Ser.C (Ser.C (Ψ (a : Rat))) := by
      rw [← mp_Pl C_hm, ← mp_C C_hm, ← mp_mul C_hm, ← e1, mp_mp, mp_mp, mp_mp]
      exact Ser.ext fun k => mp_C Hz _
    have e4 := Rs_powL (rs.map Ser.C) (Ser.C (Ψ (a : Rat))) (xp 1) k
    rw [List.length_map, powL_map C_hm, prodT_Pl] at e4
    rw [e3, mono_mp HZ, f1, mp_xp Hz, e4, eD, C_pow])
  rw [ln] at T
  exact T
end
end DK
end RR
namespace RR
open PySem PySem.Spec PyProof.Rows L2
theorem add_val (u v : Rat) : ((u.num * v.den + v.num * u.den : Int) : Rat) / ((u.den * v.den : Int) : Rat) = u + v := by
  have h := rk_val 0 (by decide) (by decide) u v
  have e : u.num * v.den + (1 - 2 * ((0 : Nat) : Int)) * v.num * u.den = u.num * v.den + v.num * u.den := by
    rw [show (1 - 2 * ((0 : Nat) : Int)) = 1 from rfl]; grind
  rw [e] at h
  exact h
def b_fractions_times {M : Type} : DS M :=
    (dRet (dCall s_fractions_fraction [] (dCons (dBin gMul (dBin (gIx false) (dVar 0) (dC (.int 0))) (dBin (gIx false) (dVar 1) (dC (.int 0)))) (dCons (dBin gMul (dBin (gIx false) (dVar 0) (dC (.int 1))) (dBin (gIx false) (dVar 1) (dC (.int 1)))) dNil))))
def s_fractions_times {M : Type} : DSp M := fun ds m Q Z => ∃ (u v : Rat) (a a' b b' : Nat), ds = [pq u, pq v] ∧ bd a u.num ∧ bd a' (u.den : Int) ∧ bd b v.num ∧ bd b' (v.den : Int) ∧ a' + b' ≤ 9000 ∧ a + b ≤ 90000 ∧ Q (pq (u * v)) m
theorem vc_fractions_times {M : Type} : ∀ ds (m : M) Q Z, s_fractions_times ds m Q Z → okK [false, false] ds ∧ b_fractions_times { nx := fun _ m' => Q .non m', rt := Q, ex := Z } (st0 [false, false] ds 2) m := by
  rintro ds m Q Z ⟨u, v, a, a', b, b', rfl, h1, h2, h3, h4, hl, hn, k⟩
  refine ⟨⟨fun _ => rfl, fun _ => rfl, trivial⟩, ?_⟩
  unfold b_fractions_times
  have m0 : ((u.den : Int) * v.den) ≠ 0 := Int.mul_ne_zero (den_ne u) (den_ne v)
  have mb := bd_mul h2 h4
  repeat walk_at "s"
  refine ⟨_, (u.den : Int) * v.den, rfl, fun z => absurd z m0, fun _ => ⟨.inl (bd_mono mb (by omega)), ?_⟩⟩
  rw [mul_val u v]
  exact k
def b_fractions_plus {M : Type} : DS M :=
    (dRet (dCall s_fractions_fraction [] (dCons (dBin gAdd (dBin gMul (dBin (gIx false) (dVar 0) (dC (.int 0))) (dBin (gIx false) (dVar 1) (dC (.int 1)))) (dBin gMul (dBin (gIx false) (dVar 1) (dC (.int 0))) (dBin (gIx false) (dVar 0) (dC (.int 1))))) (dCons (dBin gMul (dBin (gIx false) (dVar 0) (dC (.int 1))) (dBin (gIx false) (dVar 1) (dC (.int 1)))) dNil))))
def s_fractions_plus {M : Type} : DSp M := fun ds m Q Z => ∃ (u v : Rat) (a a' b b' : Nat), ds = [pq u, pq v] ∧ bd a u.num ∧ bd a' (u.den : Int) ∧ bd b v.num ∧ bd b' (v.den : Int) ∧ a' + b' ≤ 9000 ∧ a + b ≤ 80000 ∧ Q (pq (u + v)) m
theorem vc_fractions_plus {M : Type} : ∀ ds (m : M) Q Z, s_fractions_plus ds m Q Z → okK [false, false] ds ∧ b_fractions_plus { nx := fun _ m' => Q .non m', rt := Q, ex := Z } (st0 [false, false] ds 2) m := by
  rintro ds m Q Z ⟨u, v, a, a', b, b', rfl, h1, h2, h3, h4, hl, hn, k⟩
  refine ⟨⟨fun _ => rfl, fun _ => rfl, trivial⟩, ?_⟩
  unfold b_fractions_plus
  have m0 : ((u.den : Int) * v.den) ≠ 0 := Int.mul_ne_zero (den_ne u) (den_ne v)
  have mb := bd_mul h2 h4
  repeat walk_at "s"
  refine ⟨_, (u.den : Int) * v.den, rfl, fun z => absurd z m0, fun _ => ⟨.inl (bd_mono mb (by omega)), ?_⟩⟩
  rw [add_val u v]
  exact k
def b_composing_need_degree {M : Type} : DS M :=
    (dIte (dTst (dBin gGt (dVar 0) (dC (.int 16))))
      (dRaise "TooGreat")
      dNext)
def s_composing_need_degree {M : Type} : DSp M := fun ds m Q Z => ∃ d : Int, ds = [.int d] ∧ (16 < d → Z "TooGreat" m) ∧ (d ≤ 16 → Q .non m)
theorem vc_composing_need_degree {M : Type} : ∀ ds (m : M) Q Z, s_composing_need_degree ds m Q Z → okK [false] ds ∧ b_composing_need_degree { nx := fun _ m' => Q .non m', rt := Q, ex := Z } (st0 [false] ds 1) m := by
  rintro ds m Q Z ⟨d, rfl, h1, h2⟩
  refine ⟨⟨fun _ => rfl, trivial⟩, ?_⟩
  unfold b_composing_need_degree
  repeat walk_at "s"
  refine v_ifd (fun h => ?_) fun h => ?_
  · repeat walk_at "s"
    exact h1 (by omega)
  · repeat walk_at "s"
    exact h2 (by omega)
theorem altD_DK {T U : List Row → Rat} (h : ∀ l, T l = U l) (s : List Row) : ∀ xs p, altD T s p xs = DK.altD U s p xs
  | [], _ => rfl
  | x :: xs, p => by
    show x.co 0 * T (rtl (p ++ (xs ++ s))) - altD T s (p ++ [x]) xs = x.co 0 * U (rtl (p ++ (xs ++ s))) - DK.altD U s (p ++ [x]) xs
    rw [h, altD_DK h s xs]
theorem Dt_DK : ∀ (n : Nat) (l : List Row), Dt n l = DK.Dt n l
  | 0, _ => rfl
  | n + 1, l => altD_DK (Dt_DK n) [] l []
def syw (xs : List Int) (many k : Nat) : List Int := (List.replicate k 0 ++ xs.reverse) ++ List.replicate (many - xs.length - k) 0
theorem syw_len {xs : List Int} {many k : Nat} (h : k + xs.length ≤ many) : (syw xs many k).length = many := by
  unfold syw
  simp
  omega
theorem syw_q {xs : List Int} {many k : Nat} (x0 : xs ≠ []) : qs (ser (syw xs many k)) = xp k * DK.rv (xs.length - 1) (DK.qi (ser xs)) := Ser.ext fun j => by
  have l1 := List.length_pos_iff.mpr x0
  rw [qs_co, ser_co, xp_mul_co]
  unfold syw
  by_cases h : k ≤ j
  · rw [if_pos h, DK.rv_co]
    by_cases h2 : j - k ≤ xs.length - 1
    · rw [if_pos h2, DK.mp_co, ser_co]
      congr 1
      rw [List.getD_eq_getElem?_getD, List.getElem?_append_left (by simp; omega), List.getElem?_append_right (by simp; omega), List.length_replicate, List.getElem?_reverse (by omega), List.getD_eq_getElem?_getD]
    · rw [if_neg h2]
      have : ((List.replicate k 0 ++ xs.reverse) ++ List.replicate (many - xs.length - k) (0 : Int)).getD j 0 = 0 := by
        rw [List.getD_eq_getElem?_getD, List.getElem?_append_right (by simp; omega), List.getElem?_replicate]
        split <;> rfl
      rw [this]; rfl
  · rw [if_neg h]
    have : ((List.replicate k 0 ++ xs.reverse) ++ List.replicate (many - xs.length - k) (0 : Int)).getD j 0 = 0 := by
      rw [List.getD_eq_getElem?_getD, List.getElem?_append_left (by simp; omega), List.getElem?_append_left (by simp; omega), List.getElem?_replicate, if_pos (by omega)]; rfl
    rw [this]; rfl
theorem syw_mem {xs : List Int} {many k : Nat} {x : Int} (h : x ∈ syw xs many k) : x = 0 ∨ x ∈ xs := by
  unfold syw at h
  simp only [List.mem_append, List.mem_replicate, List.mem_reverse] at h
  rcases h with (h | h) | h
  · exact .inl h.2
  · exact .inr h
  · exact .inl h.2
def sylw (xs ys : List Int) : List (List Int) := (List.range (ys.length - 1)).map (syw xs (xs.length + ys.length - 2)) ++ (List.range (xs.length - 1)).map (syw ys (xs.length + ys.length - 2))
theorem sylw_Rs {xs ys : List Int} (x0 : xs ≠ []) (y0 : ys ≠ []) : Dt (sylw xs ys).length (rws (sylw xs ys)) = DK.Rs (DK.qi (ser xs)) (xs.length - 1) (DK.qi (ser ys)) (ys.length - 1) := by
  have e : rws (sylw xs ys) = DK.Syl (DK.qi (ser xs)) (xs.length - 1) (DK.qi (ser ys)) (ys.length - 1) := by
    unfold sylw DK.Syl rws
    rw [List.map_append, List.map_map, List.map_map]
    congr 1
    · exact List.map_congr_left fun k _ => syw_q x0
    · exact List.map_congr_left fun k _ => syw_q y0
  have l : (sylw xs ys).length = ys.length - 1 + (xs.length - 1) := by unfold sylw; simp
  rw [e, l, Dt_DK]; rfl
def b__law_resultant {M : Type} : DS M :=
    (dThen (dSetO 2 (dLst dNil))
    (dThen (dSet 3 (dBin (g0 fun i j => .int (i - j)) (dBin gAdd (dB gLen (dCons (dBor 0) dNil)) (dB gLen (dCons (dBor 1) dNil))) (dC (.int 2))))
    (dThen (dFor (dRng1 (dCons (dBin (g0 fun i j => .int (i - j)) (dB gLen (dCons (dBor 1) dNil)) (dC (.int 1))) dNil)) (dgN 4)
      (dAppL 2 (dBin gAdd (dBin gAdd (dBin gMul (dLst (dCons (dC (.int 0)) dNil)) (dVar 4)) (dRvs (dBor 0))) (dBin gMul (dLst (dCons (dC (.int 0)) dNil)) (dBin (g0 fun i j => .int (i - j)) (dBin (g0 fun i j => .int (i - j)) (dVar 3) (dB gLen (dCons (dBor 0) dNil))) (dVar 4))))))
    (dThen (dFor (dRng1 (dCons (dBin (g0 fun i j => .int (i - j)) (dB gLen (dCons (dBor 0) dNil)) (dC (.int 1))) dNil)) (dgN 4)
      (dAppL 2 (dBin gAdd (dBin gAdd (dBin gMul (dLst (dCons (dC (.int 0)) dNil)) (dVar 4)) (dRvs (dBor 1))) (dBin gMul (dLst (dCons (dC (.int 0)) dNil)) (dBin (g0 fun i j => .int (i - j)) (dBin (g0 fun i j => .int (i - j)) (dVar 3) (dB gLen (dCons (dBor 1) dNil))) (dVar 4))))))
    (dRet (dCall s__law_determinant [] (dCons (dOwn 2) dNil)))))))
def s__law_resultant {M : Type} : DSp M := fun ds m Q Z => ∃ xs ys : List Int, ds = [.lst (zz xs), .lst (zz ys)] ∧ 2 ≤ xs.length ∧ 2 ≤ ys.length ∧ xs.length + ys.length ≤ 17 ∧ (∀ x ∈ xs, bd 100 x) ∧ (∀ y ∈ ys, bd 100 y) ∧ ∀ z : Int, (z : Rat) = DK.Rs (DK.qi (ser xs)) (xs.length - 1) (DK.qi (ser ys)) (ys.length - 1) → Q (.int z) m
theorem vc__law_resultant {M : Type} : ∀ ds (m : M) Q Z, s__law_resultant ds m Q Z → okK [true, true] ds ∧ b__law_resultant { nx := fun _ m' => Q .non m', rt := Q, ex := Z } (st0 [true, true] ds 5) m := by
  rintro ds m Q Z ⟨xs, ys, rfl, lx, ly, lxy, hx, hy, k⟩
  refine ⟨⟨fun z => (nomatch z), fun z => (nomatch z), trivial⟩, ?_⟩
  unfold b__law_resultant
  have x0 : xs ≠ [] := fun z => by rw [z] at lx; simp at lx
  have y0 : ys ≠ [] := fun z => by rw [z] at ly; simp at ly
  repeat walk_at "s"
  refine v_kO (by rfl) ?_
  repeat walk_at "s"
  rw [show (xs.length : Int) + (ys.length : Int) - 2 = ((xs.length + ys.length - 2 : Nat) : Int) by omega]
  refine v_kR1 (by omega) (by omega) ?_
  rw [show ((ys.length : Int) - 1).toNat = ys.length - 1 by omega]
  refine v_kforR (ys.length - 1) (fun j ρ m' => m = m' ∧ ∃ a5, ρ = [.bor (.lst (zz xs)), .bor (.lst (zz ys)), .own ((List.range j).map (fun k => ri (syw xs (xs.length + ys.length - 2) k))), .val (.int ((xs.length + ys.length - 2 : Nat) : Int)), a5]) ?_ (fun ρ m' H => ?_) fun j ρ m' hj H => ?_
  · exact ⟨rfl, _, by with_unfolding_all rfl⟩
  rotate_right
  · obtain ⟨rfl, a5, rfl⟩ := H
    rw [Int.zero_add]
    repeat walk_at "s"
    refine v_appL rfl ?_
    repeat walk_at "s"
    refine v_repl1 (by omega) (by omega) ?_
    repeat walk_at "s"
    refine v_addlz (by simp; omega) ?_
    repeat walk_at "s"
    refine v_repl1 (by omega) (by omega) ?_
    refine v_addlz (by simp; omega) ?_
    rw [Int.toNat_natCast, show (((xs.length + ys.length - 2 : Nat) : Int) - (xs.length : Int) - (j : Nat)).toNat = xs.length + ys.length - 2 - xs.length - j by omega]
    refine ⟨small_line (by simp; omega), rfl, .val (.int (j : Nat)), ?_⟩
    rw [List.range_succ, List.map_append, List.map_cons, List.map_nil]
    with_unfolding_all rfl
  obtain ⟨rfl, a5, rfl⟩ := H
  repeat walk_at "s"
  refine v_kR1 (by omega) (by omega) ?_
  rw [show ((xs.length : Int) - 1).toNat = xs.length - 1 by omega]
  refine v_kforR (xs.length - 1) (fun j ρ m' => m = m' ∧ ∃ a5, ρ = [.bor (.lst (zz xs)), .bor (.lst (zz ys)), .own ((List.range (ys.length - 1)).map (fun k => ri (syw xs (xs.length + ys.length - 2) k)) ++ (List.range j).map (fun k => ri (syw ys (xs.length + ys.length - 2) k))), .val (.int ((xs.length + ys.length - 2 : Nat) : Int)), a5]) ?_ (fun ρ m' H => ?_) fun j ρ m' hj H => ?_
  · exact ⟨rfl, _, by rw [List.range_zero, List.map_nil, List.append_nil]⟩
  rotate_right
  · obtain ⟨rfl, a5, rfl⟩ := H
    rw [Int.zero_add]
    repeat walk_at "s"
    refine v_appL rfl ?_
    repeat walk_at "s"
    refine v_repl1 (by omega) (by omega) ?_
    repeat walk_at "s"
    refine v_addlz (by simp; omega) ?_
    repeat walk_at "s"
    refine v_repl1 (by omega) (by omega) ?_
    refine v_addlz (by simp; omega) ?_
    rw [Int.toNat_natCast, show (((xs.length + ys.length - 2 : Nat) : Int) - (ys.length : Int) - (j : Nat)).toNat = xs.length + ys.length - 2 - ys.length - j by omega]
    refine ⟨small_line (by simp; omega), rfl, .val (.int (j : Nat)), ?_⟩
    rw [List.range_succ, List.map_append, List.map_cons, List.map_nil]
    rw [← List.append_assoc]
    with_unfolding_all rfl
  obtain ⟨rfl, a5, rfl⟩ := H
  repeat walk_at "s"
  have es : (List.range (ys.length - 1)).map (fun k => ri (syw xs (xs.length + ys.length - 2) k)) ++ (List.range (xs.length - 1)).map (fun k => ri (syw ys (xs.length + ys.length - 2) k)) = (sylw xs ys).map ri := by
    unfold sylw
    rw [List.map_append, List.map_map, List.map_map]; rfl
  rw [es]
  have len : (sylw xs ys).length = ys.length - 1 + (xs.length - 1) := by unfold sylw; simp
  refine ⟨sylw xs ys, 100, rfl, by omega, fun r hr => ?_, by omega, fun r hr x hxr => ?_, by decide, fun z hz => ?_⟩
  · rw [len]
    unfold sylw at hr
    rcases List.mem_append.mp hr with hr | hr
    · obtain ⟨q, hq, rfl⟩ := List.mem_map.mp hr
      have := List.mem_range.mp hq
      rw [syw_len (by omega)]; omega
    · obtain ⟨q, hq, rfl⟩ := List.mem_map.mp hr
      have := List.mem_range.mp hq
      rw [syw_len (by omega)]; omega
  · have z0 : bd 100 0 := bd_lit (by decide)
    unfold sylw at hr
    rcases List.mem_append.mp hr with hr | hr
    · obtain ⟨q, hq, rfl⟩ := List.mem_map.mp hr
      rcases syw_mem hxr with rfl | h
      · exact z0
      · exact hx x h
    · obtain ⟨q, hq, rfl⟩ := List.mem_map.mp hr
      rcases syw_mem hxr with rfl | h
      · exact z0
      · exact hy x h
  · rw [sylw_Rs x0 y0] at hz
    repeat walk_at "s"
    exact k z hz
end RR
namespace RR
open PySem PySem.Spec PyProof.Rows L2
open DK (Nw Ew sm)
theorem le_bd {x : Int} {a b c : Nat} (h : x.natAbs ≤ c * 2 ^ a) (hc : c < 2 ^ b) : bd (a + b) x := by
  unfold bd
  refine Nat.lt_of_le_of_lt h ?_
  rw [Nat.pow_add, Nat.mul_comm]
  exact Nat.mul_lt_mul_of_pos_left hc (Nat.pow_pos (by decide))
theorem bd_le {x : Int} {a : Nat} (h : bd a x) : x.natAbs ≤ 2 ^ a := Nat.le_of_lt h
theorem bd_powL {x : Int} {a : Nat} (h : bd a x) : ∀ n : Nat, (x ^ n).natAbs ≤ 2 ^ (a * n)
  | 0 => by simp
  | n + 1 => by
    rw [Int.pow_succ, Int.natAbs_mul, Nat.mul_succ, Nat.pow_add]
    exact Nat.mul_le_mul (bd_powL h n) (bd_le h)
theorem fz_of {u : Rat} {D y : Int} {a b : Nat} (D0 : D ≠ 0) (e : (D : Rat) * u = y) (hy : bd a y) (hD : bd b D) : bd a u.num ∧ bd b (u.den : Int) := by
  have e2 : u = (y : Rat) / (D : Rat) := by
    rw [← e, Rat.div_def, Rat.mul_comm (D : Rat), Rat.mul_assoc, Rat.mul_inv_cancel _ (cne D0), Rat.mul_one]
  rw [e2]
  exact ⟨bd_num D0 hy, bd_den D0 hD⟩
def tz (m : Nat) (E : Nat → Rat) (k : Nat) : Rat := if k ≤ m then (k : Rat) * E k else 0
theorem nw_size {m M : Nat} {lc : Int} {f : Nat → Int} {E p : Nat → Rat} (m4 : m ≤ 4) (hf : ∀ i, bd 67 (f i)) (hl : bd 67 lc) (hE : ∀ i, i ≤ m → (lc : Rat) * E i = (f i : Rat)) (h : Nw m E M p) : ∀ k, k ≤ M → (∃ z : Int, bd (70 * k + 3) z ∧ ((lc ^ k : Int) : Rat) * p k = z) ∧
    (1 ≤ k → ∀ j, j ≤ min (k - 1) m → ∃ y : Int, y.natAbs ≤ (j + 1) * 2 ^ (70 * k) ∧ ((lc ^ k : Int) : Rat) * (tz m E k + sm j (fun i => E (i + 1) * p (k - (i + 1)))) = y) := by
  intro k
  induction k using Nat.strongRecOn with
  | _ k ih =>
    intro hk
    by_cases k0 : k = 0
    · subst k0
      refine ⟨⟨(m : Int), by unfold bd; omega, ?_⟩, fun h => absurd h (by omega)⟩
      rw [h.1, Int.pow_zero]
      show (1 : Rat) * ((m : Nat) : Rat) = _
      rw [Rat.one_mul]; rfl
    have part : ∀ j, j ≤ min (k - 1) m → ∃ y : Int, y.natAbs ≤ (j + 1) * 2 ^ (70 * k) ∧ ((lc ^ k : Int) : Rat) * (tz m E k + sm j (fun i => E (i + 1) * p (k - (i + 1)))) = y := by
      intro j
      induction j with
      | zero =>
        intro _
        obtain ⟨r, rfl⟩ : ∃ r, k = r + 1 := ⟨k - 1, by omega⟩
        unfold tz
        show ∃ y : Int, _ ∧ _ * (_ + 0) = _
        by_cases c : r + 1 ≤ m
        · rw [if_pos c]
          refine ⟨((r + 1 : Nat) : Int) * (f (r + 1) * lc ^ r), ?_, ?_⟩
          · rw [Int.natAbs_mul, Int.natAbs_mul]
            have h1 := Nat.mul_le_mul (bd_le (hf (r + 1))) (bd_powL hl r)
            rw [← Nat.pow_add] at h1
            have h2 : ((r + 1 : Nat) : Int).natAbs ≤ 2 ^ 3 := by omega
            have h3 := Nat.mul_le_mul h2 h1
            rw [← Nat.pow_add] at h3
            refine Nat.le_trans h3 ?_
            rw [Nat.zero_add, Nat.one_mul]
            exact Nat.pow_le_pow_right (by decide) (by omega)
          · have e := hE (r + 1) c
            rw [Int.pow_succ]
            simp only [Rat.intCast_mul]
            rw [← e]
            show _ * (((r + 1 : Nat) : Rat) * E (r + 1) + 0) = ((r + 1 : Nat) : Rat) * _
            grind
        · rw [if_neg c]
          exact ⟨0, by simp, by show _ * (0 + 0) = ((0 : Int) : Rat); grind⟩
      | succ j ihj =>
        intro hj
        obtain ⟨y, hy, ey⟩ := ihj (by omega)
        obtain ⟨z, hz, ez⟩ := (ih (k - (j + 1)) (by omega) (by omega)).1
        refine ⟨y + f (j + 1) * (lc ^ j * z), ?_, ?_⟩
        · have h1 := Nat.mul_le_mul (bd_le (hf (j + 1))) (Nat.mul_le_mul (bd_powL hl j) (bd_le hz))
          rw [← Int.natAbs_mul, ← Int.natAbs_mul, ← Nat.pow_add, ← Nat.pow_add] at h1
          have h2 := Nat.le_trans h1 (Nat.pow_le_pow_right (by decide) (show 67 + (67 * j + (70 * (k - (j + 1)) + 3)) ≤ 70 * k by omega))
          have h3 := Int.natAbs_add_le y (f (j + 1) * (lc ^ j * z))
          rw [Nat.add_mul (j + 1) 1, Nat.one_mul]
          omega
        · have e := hE (j + 1) (by omega)
          have ek : lc ^ k = lc * (lc ^ j * lc ^ (k - (j + 1))) := by
            rw [← Int.pow_add, ← Int.pow_succ']
            congr 1; omega
          show _ * (_ + (sm j _ + E (j + 1) * p (k - (j + 1)))) = _
          rw [Rat.intCast_add, ← ey]
          simp only [Rat.intCast_mul]
          rw [← ez, ← e, ek]
          simp only [Rat.intCast_mul]
          grind
    refine ⟨?_, fun _ => part⟩
    obtain ⟨y, hy, ey⟩ := part (min (k - 1) m) (Nat.le_refl _)
    refine ⟨0 - y, ?_, ?_⟩
    · refine le_bd (c := 5) (x := 0 - y) ?_ (by decide)
      have : (0 - y).natAbs = y.natAbs := by omega
      rw [this]
      exact Nat.le_trans hy (Nat.mul_le_mul_right _ (by omega))
    · rw [h.2 k (by omega) hk, Rat.intCast_sub, ← ey]
      unfold tz
      show _ = (0 : Rat) - _
      grind
theorem Nw.ext {m k : Nat} {E p : Nat → Rat} (h : Nw m E k p) : ∃ p' : Nat → Rat, Nw m E (k + 1) p' ∧ ∀ j, j ≤ k → p' j = p j := by
  let p' : Nat → Rat := fun j => if j = k + 1 then 0 - ((if k + 1 ≤ m then ((k + 1 : Nat) : Rat) * E (k + 1) else 0) + sm (min (k + 1 - 1) m) (fun i => E (i + 1) * p (k + 1 - (i + 1)))) else p j
  have e : ∀ j, j ≤ k → p' j = p j := fun j hj => by show (if j = k + 1 then _ else p j) = _; rw [if_neg (by omega)]
  refine ⟨p', ⟨by rw [e 0 (by omega)]; exact h.1, fun j h1 h2 => ?_⟩, e⟩
  by_cases c : j = k + 1
  · subst c
    show (if k + 1 = k + 1 then _ else p _) = _
    rw [if_pos rfl, DK.sm_cong (min (k + 1 - 1) m) (f := fun i => E (i + 1) * p (k + 1 - (i + 1))) (g := fun i => E (i + 1) * p' (k + 1 - (i + 1))) fun i hi => by rw [e _ (by omega)]]
  · rw [e j (by omega), h.2 j h1 (by omega), DK.sm_cong (min (j - 1) m) (f := fun i => E (i + 1) * p (j - (i + 1))) (g := fun i => E (i + 1) * p' (j - (i + 1))) fun i hi => by rw [e _ (by omega)]]
section
variable {M : Type} {ρ : En} {m : M} {q : D → Prop}
theorem v_ix60 {n : Bool} {N j : Nat} {f : Nat → D} (hj : j < N) (hn : (f j).nl = true) (h : q (f j)) : gIx n (.lst ((List.range N).map f)) (.int (j : Int)) q := by
  unfold gIx
  dsimp only
  have e : atI ((List.range N).map f) (j : Int) = some (f j) := by
    rw [at_getD (d := f j) (by simpa using hj), List.getD_eq_getElem?_getD, List.getElem?_map, List.getElem?_range hj]; rfl
  rw [e]
  exact ⟨fun _ => hn, h⟩
theorem v_ifK {c : Bool} {t u : DT M} {Q : D → M → Prop} {Z : Str → M → Prop} (d : D) (h1 : ∀ K : D → M → Prop, K d m → c = true → t ρ m K Z) (h2 : ∀ K : D → M → Prop, K d m → c = false → u ρ m K Z) (h : Q d m) : if c = true then t ρ m Q Z else u ρ m Q Z := by
  cases c with
  | true => exact h1 Q h rfl
  | false => exact h2 Q h rfl
theorem lc_rD {g : DG} {tt : DTT M} {t : DT M} {QL : List D → M → Prop} {f : Nat → D} (n : Nat) (st : ∀ a, a < n → ∀ m (k : D → M → Prop) (l : M → Prop), k (f a) m → g (.int a) ρ fun ρ2 => tt ρ2 m (fun b m1 => if b = true then t ρ2 m1 k (fun _ _ => False) else l m1) (fun _ _ => False))
    (hl : n ≤ 16777216) (h : QL ((List.range n).map f) m) : lcGo g tt t ρ (iota 0 n) [] m QL := by
  rw [iota_map]
  exact lcGo_map (h := f) (List.range n) (fun a ha => st a (List.mem_range.mp ha)) (small_line (by rw [List.length_range]; exact hl)) h
end
theorem pq_int (i : Int) : pq ((i : Rat) / ((1 : Int) : Rat)) = pq (i : Rat) := by
  congr 1
  have := Rat.div_mul_cancel (a := (i : Rat)) (b := ((1 : Int) : Rat)) (by decide)
  rw [show ((1 : Int) : Rat) = 1 from rfl] at this ⊢
  grind
def tpE (xs : List Int) (k : Nat) : Rat := (DK.qi (ser xs)).co (xs.length - 1 - k) / ((xs.getD (xs.length - 1) 0 : Int) : Rat)
def b_composing_root_sums {M : Type} : DS M :=
    (dThen (dSet 2 (dCall s_rows_degree [] (dCons (dVar 0) dNil)))
    (dThen (dSet 3 (dLc (dRng1 (dCons (dBin gAdd (dVar 2) (dC (.int 1))) dNil)) (dgN 5) dYes (dCall s_fractions_fraction [] (dCons (dBin (gIx false) (dVar 0) (dBin (g0 fun i j => .int (i - j)) (dVar 2) (dVar 5))) (dCons (dBin (gIx false) (dVar 0) (dVar 2)) dNil))) [5]))
    (dThen (dSetO 4 (dLst (dCons (dCall s_fractions_fraction [.int 1] (dCons (dVar 2) dNil)) dNil)))
    (dThen (dFor (dRng2 (dCons (dC (.int 1)) (dCons (dBin gAdd (dVar 1) (dC (.int 1))) dNil))) (dgN 5)
      (dThen (dSet 6 (dIf (dTst (dBin gLe (dVar 5) (dVar 2))) (dCall s_fractions_times [] (dCons (dCall s_fractions_fraction [.int 1] (dCons (dVar 5) dNil)) (dCons (dBin (gIx false) (dVar 3) (dVar 5)) dNil))) (dCall s_fractions_fraction [.int 1] (dCons (dC (.int 0)) dNil))))
    (dThen (dFor (dRng2 (dCons (dC (.int 1)) (dCons (dBin gAdd (dB (gI2 imin) (dCons (dBin (g0 fun i j => .int (i - j)) (dVar 5) (dC (.int 1))) (dCons (dVar 2) dNil))) (dC (.int 1))) dNil))) (dgN 7)
      (dSet 6 (dCall s_fractions_plus [] (dCons (dVar 6) (dCons (dCall s_fractions_times [] (dCons (dBin (gIx false) (dVar 3) (dVar 7)) (dCons (dBin (gIx true) (dOwn 4) (dBin (g0 fun i j => .int (i - j)) (dVar 5) (dVar 7))) dNil))) dNil)))))
    (dApp 4 (dCall s_fractions_less [] (dCons (dCall s_fractions_fraction [.int 1] (dCons (dC (.int 0)) dNil)) (dCons (dVar 6) dNil)))))))
    (dRet (dOwn 4))))))
def s_composing_root_sums {M : Type} : DSp M := fun ds m Q Z => ∃ (xs : List Int) (N : Nat), ds = [.tup (zz xs), .int N] ∧ 2 ≤ xs.length ∧ xs.length ≤ 5 ∧ N ≤ 32 ∧ xs.getD (xs.length - 1) 0 ≠ 0 ∧ (∀ x ∈ xs, bd 67 x) ∧ ∀ p : Nat → Rat, Nw (xs.length - 1) (tpE xs) N p → Q (.lst ((List.range (N + 1)).map fun k => pq (p k))) m
theorem vc_composing_root_sums {M : Type} : ∀ ds (m : M) Q Z, s_composing_root_sums ds m Q Z → okK [false, false] ds ∧ b_composing_root_sums { nx := fun _ m' => Q .non m', rt := Q, ex := Z } (st0 [false, false] ds 8) m := by
  rintro ds m0 Q Z ⟨xs, N, rfl, l2, l5, n32, l0, hb, q⟩
  refine ⟨⟨fun _ => nl_row xs, fun _ => rfl, trivial⟩, ?_⟩
  unfold b_composing_root_sums
  obtain ⟨m, em⟩ : ∃ m, xs.length = m + 1 := ⟨xs.length - 1, by omega⟩
  obtain ⟨lc, elc⟩ : ∃ lc, xs.getD (xs.length - 1) 0 = lc := ⟨_, rfl⟩
  rw [em, Nat.add_sub_cancel] at q elc
  rw [em, Nat.add_sub_cancel, elc] at l0
  have hl : bd 67 lc := by
    rw [← elc, List.getD_eq_getElem?_getD, List.getElem?_eq_getElem (by omega)]
    exact hb _ (List.getElem_mem _)
  have hf : ∀ i : Nat, bd 67 (xs.getD (m - i) 0) := fun i => hb _ (by
    rw [List.getD_eq_getElem?_getD, List.getElem?_eq_getElem (by omega)]
    exact List.getElem_mem _)
  have eE : ∀ i, tpE xs i = ((xs.getD (m - i) 0 : Int) : Rat) / (lc : Rat) := fun i => by
    unfold tpE
    rw [em, Nat.add_sub_cancel, elc]; rfl
  have hE : ∀ i, i ≤ m → (lc : Rat) * tpE xs i = ((xs.getD (m - i) 0 : Int) : Rat) := fun i _ => by
    rw [eE, Rat.mul_comm]; exact Rat.div_mul_cancel (cne l0)
  have sE : ∀ i, bd 67 (tpE xs i).num ∧ bd 67 ((tpE xs i).den : Int) := fun i => by rw [eE]; exact ⟨bd_num l0 (hf i), bd_den l0 hl⟩
  repeat walk_at "s"
  refine ⟨xs, rfl, by omega, ?_⟩
  repeat walk_at "s"
  rw [show (xs.length : Int) - 1 + 1 = ((m + 1 : Nat) : Int) by omega]
  refine v_kR1 (by omega) (by omega) ?_
  rw [Int.toNat_natCast]
  refine lc_rD (f := fun k => pq (tpE xs k)) (m + 1) (fun a ha m1 K L hK => ?_) (by omega) ?_
  · repeat walk_at "s"
    rw [show (xs.length : Int) - 1 - (a : Int) = ((m - a : Nat) : Int) by omega]
    refine v_ixt (by omega) (by omega) ?_
    repeat walk_at "s"
    rw [show (xs.length : Int) - 1 = ((m : Nat) : Int) by omega]
    refine v_ixt (by omega) (by omega) ?_
    repeat walk_at "s"
    have e2 : nth xs ((m : Nat) : Int) = lc := elc
    have e3 : nth xs ((m - a : Nat) : Int) = xs.getD (m - a) 0 := rfl
    rw [e2, e3]
    refine ⟨_, _, rfl, fun z => absurd z l0, fun _ => ⟨.inl (bd_mono hl (by decide)), ?_⟩⟩
    rw [← eE]
    exact hK
  repeat walk_at "s"
  rw [show (xs.length : Int) - 1 = ((m : Nat) : Int) by omega]
  refine ⟨((m : Nat) : Int), 1, rfl, fun z => absurd z (by decide), fun _ => ⟨.inl (bd_lit (by decide)), ?_⟩⟩
  rw [pq_int]
  repeat walk_at "s"
  refine v_kO (by rfl) ?_
  repeat walk_at "s"
  refine v_kR2 (by omega) (by omega) (by omega) (by omega) ?_
  rw [show ((N : Int) + 1 - 1).toNat = N by omega]
  refine v_kforR N (fun k ρ m' => m0 = m' ∧ ∃ (p : Nat → Rat) (a5 a6 a7 : Sl), Nw m (tpE xs) k p ∧ ρ = [.val (.tup (zz xs)), .val (.int N), .val (.int (m : Nat)), .val (.lst ((List.range (m + 1)).map fun k => pq (tpE xs k))), .own ((List.range (k + 1)).map fun k => pq (p k)), a5, a6, a7]) ?_ (fun ρ m' H => ?_) fun k ρ m' hk H => ?_
  · exact ⟨rfl, fun _ => ((m : Nat) : Rat), _, _, _, ⟨rfl, fun k h1 h2 => absurd h1 (by omega)⟩, by with_unfolding_all rfl⟩
  · obtain ⟨rfl, p, a5, a6, a7, hp, rfl⟩ := H
    repeat walk_at "s"
    exact q p hp
  obtain ⟨rfl, p, a5, a6, a7, hp, rfl⟩ := H
  obtain ⟨p', hp', ep⟩ := Nw.ext hp
  rw [show (List.range (k + 1)).map (fun k => pq (p k)) = (List.range (k + 1)).map (fun k => pq (p' k)) from List.map_congr_left fun j hj => by rw [ep j (by have := List.mem_range.mp hj; omega)]]
  have sz := nw_size (by omega) hf hl hE hp'
  rw [show (1 : Int) + (k : Nat) = ((k + 1 : Nat) : Int) by omega]
  have lD : ∀ j, j ≤ 32 → bd 2145 (lc ^ j) := fun j hj => by
    unfold bd
    refine Nat.lt_of_le_of_lt (bd_powL hl j) ?_
    exact Nat.pow_lt_pow_right (by decide) (by omega)
  have pD : ∀ j, lc ^ j ≠ 0 := fun j => Int.pow_ne_zero l0
  have zp : ∀ j, j ≤ k + 1 → bd 2243 (p' j).num ∧ bd 2145 ((p' j).den : Int) := fun j hj => by
    obtain ⟨z, hz, ez⟩ := (sz j hj).1
    exact fz_of (pD j) ez (bd_mono hz (by omega)) (lD j (by omega))
  have zT : ∀ j, j ≤ min k m → bd 2243 (tz m (tpE xs) (k + 1) + sm j (fun i => tpE xs (i + 1) * p' (k + 1 - (i + 1)))).num ∧ bd 2145 ((tz m (tpE xs) (k + 1) + sm j (fun i => tpE xs (i + 1) * p' (k + 1 - (i + 1)))).den : Int) := fun j hj => by
    obtain ⟨y, hy, ey⟩ := (sz (k + 1) (Nat.le_refl _)).2 (by omega) j (by omega)
    refine fz_of (pD (k + 1)) ey (bd_mono (le_bd (b := 3) hy (by omega)) (by omega)) (lD _ (by omega))
  have zX : ∀ j, j + 1 ≤ min k m → bd 2244 (tpE xs (j + 1) * p' (k - j)).num ∧ bd 2145 ((tpE xs (j + 1) * p' (k - j)).den : Int) := fun j hj => by
    obtain ⟨y, hy, ey⟩ := (sz (k + 1) (Nat.le_refl _)).2 (by omega) j (by omega)
    obtain ⟨y', hy', ey'⟩ := (sz (k + 1) (Nat.le_refl _)).2 (by omega) (j + 1) (by omega)
    refine fz_of (y := y' - y) (pD (k + 1)) ?_ (bd_sub (bd_mono (le_bd (b := 3) hy' (by omega)) (show 70 * (k + 1) + 3 ≤ 2243 by omega)) (bd_mono (le_bd (b := 3) hy (by omega)) (show 70 * (k + 1) + 3 ≤ 2243 by omega))) (lD _ (by omega))
    rw [Rat.intCast_sub, ← ey, ← ey']
    show _ = _ * (_ + (sm j _ + tpE xs (j + 1) * p' (k + 1 - (j + 1)))) - _
    rw [show k + 1 - (j + 1) = k - j by omega]
    grind
  have hq0 : p 0 = (m : Rat) := hp.1
  have kz : bd 7 ((k + 1 : Nat) : Int) := by unfold bd; omega
  repeat walk_at "s"
  refine v_ifK (pq (tz m (tpE xs) (k + 1))) (fun K hK hc => ?_) (fun K hK hc => ?_) ?_
  · have hc : ((k + 1 : Nat) : Int) ≤ (m : Nat) := of_decide_eq_true hc
    repeat walk_at "s"
    refine ⟨((k + 1 : Nat) : Int), 1, rfl, fun z => absurd z (by decide), fun _ => ⟨.inl (bd_lit (by decide)), ?_⟩⟩
    rw [pq_int]
    repeat walk_at "s"
    refine v_ix60 (by omega) rfl ?_
    repeat walk_at "s"
    refine ⟨_, _, 7, 1, 67, 67, rfl, kz, (by show bd 1 ((1 : Nat) : Int); exact bd_lit (by decide)), (sE _).1, (sE _).2, by decide, by decide, ?_⟩
    have e : tz m (tpE xs) (k + 1) = (((k + 1 : Nat) : Int) : Rat) * tpE xs (k + 1) := by unfold tz; rw [if_pos (by omega)]; rfl
    rw [← e]
    exact hK
  · have hc : ¬ ((k + 1 : Nat) : Int) ≤ (m : Nat) := of_decide_eq_false hc
    repeat walk_at "s"
    refine ⟨0, 1, rfl, fun z => absurd z (by decide), fun _ => ⟨.inl (bd_lit (by decide)), ?_⟩⟩
    rw [pq_int]
    have e : tz m (tpE xs) (k + 1) = ((0 : Int) : Rat) := by unfold tz; rw [if_neg (by omega)]; rfl
    rw [← e]
    exact hK
  repeat walk_at "s"
  rw [show imin (((k + 1 : Nat) : Int) - 1) ((m : Nat) : Int) = ((min k m : Nat) : Int) by unfold imin; split <;> omega]
  refine v_kR2 (by omega) (by omega) (by omega) (by omega) ?_
  rw [show (((min k m : Nat) : Int) + 1 - 1).toNat = min k m by omega]
  refine v_kforR (min k m) (fun j ρ m' => m0 = m' ∧ ∃ (a7 : Sl), ρ = [.val (.tup (zz xs)), .val (.int N), .val (.int (m : Nat)), .val (.lst ((List.range (m + 1)).map fun k => pq (tpE xs k))), .own ((List.range (k + 1)).map fun k => pq (p' k)), .val (.int ((k + 1 : Nat) : Int)), .val (pq (tz m (tpE xs) (k + 1) + sm j (fun i => tpE xs (i + 1) * p' (k + 1 - (i + 1))))), a7]) ?_ (fun ρ m' H => ?_) fun j ρ m' hj H => ?_
  · refine ⟨rfl, a7, ?_⟩
    rw [show tz m (tpE xs) (k + 1) + sm 0 (fun i => tpE xs (i + 1) * p' (k + 1 - (i + 1))) = tz m (tpE xs) (k + 1) from Rat.add_zero _]
    with_unfolding_all rfl
  · obtain ⟨rfl, a7, rfl⟩ := H
    repeat walk_at "s"
    refine ⟨0, 1, rfl, fun z => absurd z (by decide), fun _ => ⟨.inl (bd_lit (by decide)), ?_⟩⟩
    rw [pq_int]
    repeat walk_at "s"
    refine ⟨((0 : Int) : Rat), _, 1, 1, 2243, 2145, rfl, bd_lit (by decide), bd_lit (by decide), (zT _ (Nat.le_refl _)).1, (zT _ (Nat.le_refl _)).2, by decide, by decide, fun _ _ => ?_⟩
    refine ⟨rfl, small_line (by simp; omega), rfl, p', .val (.int ((k + 1 : Nat) : Int)), .val (pq (tz m (tpE xs) (k + 1) + sm (min k m) (fun i => tpE xs (i + 1) * p' (k + 1 - (i + 1))))), a7, hp', ?_⟩
    have e : ((0 : Int) : Rat) - (tz m (tpE xs) (k + 1) + sm (min k m) (fun i => tpE xs (i + 1) * p' (k + 1 - (i + 1)))) = p' (k + 1) := by
      rw [hp'.2 (k + 1) (by omega) (Nat.le_refl _), Nat.add_sub_cancel]; rfl
    rw [e, List.range_succ (n := k + 1), List.map_append]
    with_unfolding_all rfl
  · obtain ⟨rfl, a7, rfl⟩ := H
    rw [show (1 : Int) + (j : Nat) = ((j + 1 : Nat) : Int) by omega]
    repeat walk_at "s"
    refine v_ix60 (by omega) rfl ?_
    repeat walk_at "s"
    rw [show ((k + 1 : Nat) : Int) - ((j + 1 : Nat) : Int) = ((k - j : Nat) : Int) by omega]
    refine v_ix60 (by omega) rfl ?_
    repeat walk_at "s"
    refine ⟨_, _, 67, 67, 2243, 2145, rfl, (sE _).1, (sE _).2, (zp _ (by omega)).1, (zp _ (by omega)).2, by decide, by decide, ?_⟩
    repeat walk_at "s"
    refine ⟨_, _, 2243, 2145, 2244, 2145, rfl, (zT j (by omega)).1, (zT j (by omega)).2, (zX j (by omega)).1, (zX j (by omega)).2, by decide, by decide, ?_⟩
    refine ⟨rfl, .val (.int ((j + 1 : Nat) : Int)), ?_⟩
    have e : tz m (tpE xs) (k + 1) + sm j (fun i => tpE xs (i + 1) * p' (k + 1 - (i + 1))) + tpE xs (j + 1) * p' (k - j) = tz m (tpE xs) (k + 1) + sm (j + 1) (fun i => tpE xs (i + 1) * p' (k + 1 - (i + 1))) := by
      show _ = _ + (sm j _ + tpE xs (j + 1) * p' (k + 1 - (j + 1)))
      rw [show k + 1 - (j + 1) = k - j by omega, Rat.add_assoc]
    rw [e]
    with_unfolding_all rfl
end RR
namespace RR
namespace DK
def aq (x : Rat) : Rat := if 0 ≤ x then x else -x
theorem aq_nn (x : Rat) : 0 ≤ aq x := by unfold aq; split <;> grind
theorem aq_add (x y : Rat) : aq (x + y) ≤ aq x + aq y := by unfold aq; split <;> split <;> split <;> grind
theorem aq_neg (x : Rat) : aq (-x) = aq x := by unfold aq; split <;> split <;> grind
theorem aq_mul (x y : Rat) : aq (x * y) = aq x * aq y := by
  unfold aq
  split <;> split <;> split <;> rename_i h1 h2 h3
  · rfl
  · have := Rat.mul_nonneg h2 (show 0 ≤ -y by grind); grind
  · have := Rat.mul_nonneg (show 0 ≤ -x by grind) h3; grind
  · grind
  · have := Rat.mul_nonneg h2 h3; grind
  · grind
  · grind
  · have := Rat.mul_nonneg (show 0 ≤ -x by grind) (show 0 ≤ -y by grind); grind
theorem aq_int (z : Int) : aq (z : Rat) = ((z.natAbs : Nat) : Rat) := by
  unfold aq
  by_cases h : 0 ≤ z
  · rw [if_pos (by exact_mod_cast h)]
    have : ((z.natAbs : Nat) : Int) = z := by omega
    rw [← Rat.intCast_natCast, this]
  · rw [if_neg (fun q => h (by exact_mod_cast q))]
    have : ((z.natAbs : Nat) : Int) = -z := by omega
    rw [← Rat.intCast_natCast, this, Rat.intCast_neg]
theorem mul_monoQ {a b c d : Rat} (h0 : 0 ≤ a) (h : a ≤ b) (h1 : 0 ≤ c) (h2 : c ≤ d) : a * c ≤ b * d := by
  have e1 := Rat.mul_le_mul_of_nonneg_right h h1
  have e2 := Rat.mul_le_mul_of_nonneg_left h2 (show 0 ≤ b by grind)
  grind
theorem aq_sm {B : Rat} : ∀ (n : Nat) {f : Nat → Rat}, (∀ i, i < n → aq (f i) ≤ B) → aq (sm n f) ≤ (n : Rat) * B
  | 0, f, _ => by
    show aq 0 ≤ ((0 : Nat) : Rat) * B
    have : aq 0 = 0 := by unfold aq; split <;> grind
    rw [this]
    show (0 : Rat) ≤ 0 * B
    grind
  | n + 1, f, h => by
    have h1 := aq_sm n fun i hi => h i (by omega)
    have h2 := h n (by omega)
    have h3 := aq_add (sm n f) (f n)
    show aq (sm n f + f n) ≤ _
    have e : ((n + 1 : Nat) : Rat) * B = (n : Rat) * B + B := by push_cast; grind
    rw [e]
    grind
theorem pow_cast (a b : Nat) : ((2 ^ a : Nat) : Rat) * ((2 ^ b : Nat) : Rat) = ((2 ^ (a + b) : Nat) : Rat) := by
  rw [Nat.pow_add, Rat.natCast_mul]
theorem ew_aq {N c : Nat} {s e : Nat → Rat} (h : Ew N s e) (hs : ∀ j, 1 ≤ j → j ≤ N → aq (s j) ≤ ((2 ^ (c * j) : Nat) : Rat)) : ∀ k, k ≤ N → aq (e k) ≤ ((2 ^ (c * k) : Nat) : Rat) := by
  intro k
  induction k using Nat.strongRecOn with
  | _ k ih =>
    intro hk
    by_cases k0 : k = 0
    · subst k0
      rw [h.1, Nat.mul_zero, Nat.pow_zero]
      unfold aq
      split <;> grind
    have hr := h.2 k (by omega) hk
    have b := aq_sm (B := ((2 ^ (c * k) : Nat) : Rat)) k (f := fun i => e (k - (i + 1)) * s (i + 1)) fun i hi => by
      show aq (e (k - (i + 1)) * s (i + 1)) ≤ _
      rw [aq_mul]
      refine Rat.le_trans (mul_monoQ (aq_nn _) (ih (k - (i + 1)) (by omega) (by omega)) (aq_nn _) (hs (i + 1) (by omega) (by omega))) ?_
      rw [pow_cast, ← Nat.mul_add, show k - (i + 1) + (i + 1) = k by omega]
      exact Rat.le_refl
    have kp : (0 : Rat) < (k : Rat) := by exact_mod_cast (show 0 < k by omega)
    have e1 : (k : Rat) * e k = - sm k (fun i => e (k - (i + 1)) * s (i + 1)) := by
      rw [hr]
      have := Rat.div_mul_cancel (a := sm k (fun i => e (k - (i + 1)) * s (i + 1))) (b := (k : Rat)) (by grind)
      grind
    have e2 : (k : Rat) * aq (e k) ≤ (k : Rat) * ((2 ^ (c * k) : Nat) : Rat) := by
      have e3 : aq ((k : Rat) * e k) = (k : Rat) * aq (e k) := by
        rw [aq_mul]
        congr 1
        unfold aq
        rw [if_pos (by grind)]
      rw [← e3, e1, aq_neg]
      exact b
    exact Rat.le_of_mul_le_mul_left e2 kp
theorem ew_int {N c : Nat} {s e : Nat → Rat} {D : Int} (h : Ew N s e) (hs : ∀ j, 1 ≤ j → j ≤ N → aq (s j) ≤ ((2 ^ (c * j) : Nat) : Rat)) {k : Nat} (hk : k ≤ N) {y : Int} (ey : (y : Rat) = (D : Rat) * e k) : y.natAbs ≤ D.natAbs * 2 ^ (c * k) := by
  have a := ew_aq h hs k hk
  have b : aq (y : Rat) ≤ aq (D : Rat) * ((2 ^ (c * k) : Nat) : Rat) := by
    rw [ey, aq_mul]
    exact Rat.mul_le_mul_of_nonneg_left a (aq_nn _)
  rw [aq_int, aq_int, ← Rat.natCast_mul] at b
  exact_mod_cast b
theorem aq_of {u : Rat} {D z : Int} {b : Nat} (D0 : D ≠ 0) (e : (D : Rat) * u = z) (hz : z.natAbs ≤ b) : aq u ≤ ((b : Nat) : Rat) := by
  have h1 : aq (D : Rat) * aq u = ((z.natAbs : Nat) : Rat) := by rw [← aq_mul, e, aq_int]
  have h2 : (1 : Rat) ≤ aq (D : Rat) := by
    rw [aq_int]
    exact_mod_cast (show 1 ≤ D.natAbs by omega)
  have h3 : ((z.natAbs : Nat) : Rat) ≤ (b : Rat) := by exact_mod_cast hz
  have h4 := Rat.mul_le_mul_of_nonneg_right h2 (aq_nn u)
  grind
end DK
end RR
namespace RR
open PySem PySem.Spec PyProof.Rows L2
open DK (Nw Ew sm)
structure Sums (N A B : Nat) (L D : Int) (s e : Nat → Rat) : Prop where
  n1 : 1 ≤ N
  n16 : N ≤ 16
  an : A * N ≤ 2240
  bn : B * N ≤ 2144
  ba : B ≤ A
  l0 : L ≠ 0
  lb : bd B L
  d0 : D ≠ 0
  db : bd 536 D
  ew : Ew N s e
  sz : ∀ k, k ≤ N → ∃ z : Int, bd (A * k + 6) z ∧ ((L ^ k : Int) : Rat) * s k = z
  int : ∀ k, k ≤ N → ∃ y : Int, (y : Rat) = (D : Rat) * e k
section
variable {N A B : Nat} {L D : Int} {s e : Nat → Rat} (h : Sums N A B L D s e)
include h
theorem Sums.lp (k : Nat) : L ^ k ≠ 0 := Int.pow_ne_zero h.l0
theorem Sums.lpb {k : Nat} (hk : k ≤ N) : bd 2145 (L ^ k) := by
  unfold bd
  refine Nat.lt_of_le_of_lt (bd_powL h.lb k) ?_
  have := Nat.mul_le_mul_left B hk
  have := h.bn
  exact Nat.pow_lt_pow_right (by decide) (by omega)
theorem Sums.sb {k : Nat} (hk : k ≤ N) : bd 2246 (s k).num ∧ bd 2145 ((s k).den : Int) := by
  obtain ⟨z, hz, ez⟩ := h.sz k hk
  have := Nat.mul_le_mul_left A hk
  have := h.an
  exact fz_of (h.lp k) ez (bd_mono hz (by omega)) (h.lpb hk)
theorem Sums.eb {k : Nat} (hk : k ≤ N) : ∃ y : Int, (y : Rat) = (D : Rat) * e k ∧ y.natAbs ≤ 2 ^ 2872 := by
  obtain ⟨y, ey⟩ := h.int k hk
  refine ⟨y, ey, ?_⟩
  have b := DK.ew_int (c := A + 6) h.ew (fun j j1 hj => by
    obtain ⟨z, hz, ez⟩ := h.sz j hj
    refine DK.aq_of (h.lp j) ez (Nat.le_trans (bd_le hz) ?_)
    refine Nat.pow_le_pow_right (by decide) ?_
    rw [Nat.add_mul]; omega) hk ey
  refine Nat.le_trans b (Nat.le_trans (Nat.mul_le_mul (bd_le h.db) (Nat.pow_le_pow_right (by decide) (show (A + 6) * k ≤ 2336 from ?_))) ?_)
  · have h1 := Nat.mul_le_mul_left A hk
    have := h.an
    have := h.n16
    rw [Nat.add_mul]; omega
  · rw [← Nat.pow_add]
    exact Nat.le_refl _
theorem Sums.ez {k : Nat} (hk : k ≤ N) : bd 2873 (e k).num ∧ bd 536 ((e k).den : Int) := by
  obtain ⟨y, ey, hy⟩ := h.eb hk
  exact fz_of h.d0 ey.symm (Nat.lt_of_le_of_lt hy (Nat.pow_lt_pow_right (by decide) (by decide))) h.db
theorem Sums.part {k : Nat} (hk : k ≤ N) : ∀ j, j ≤ k → ∃ y : Int, y.natAbs ≤ j * 2 ^ 5118 ∧ ((D * L ^ k : Int) : Rat) * sm j (fun i => e (k - (i + 1)) * s (i + 1)) = y := by
  intro j
  induction j with
  | zero => intro _; exact ⟨0, by simp, by show _ * (0 : Rat) = ((0 : Int) : Rat); rw [Rat.mul_zero]; rfl⟩
  | succ j ih =>
    intro hj
    obtain ⟨y, hy, ey⟩ := ih (by omega)
    obtain ⟨u, eu, hu⟩ := h.eb (k := k - (j + 1)) (by omega)
    obtain ⟨z, hz, ez⟩ := h.sz (j + 1) (by omega)
    refine ⟨y + u * (z * L ^ (k - (j + 1))), ?_, ?_⟩
    · have h1 := Nat.mul_le_mul hu (Nat.mul_le_mul (bd_le hz) (bd_powL h.lb (k - (j + 1))))
      rw [← Int.natAbs_mul, ← Int.natAbs_mul, ← Nat.pow_add, ← Nat.pow_add] at h1
      have h2 : A * (j + 1) + B * (k - (j + 1)) ≤ 2240 := by
        have a1 := Nat.mul_le_mul_right (k - (j + 1)) h.ba
        have a2 : A * (j + 1) + A * (k - (j + 1)) = A * k := by rw [← Nat.mul_add]; congr 1; omega
        have a3 := Nat.mul_le_mul_left A hk
        have a4 := h.an
        omega
      have h3 := Nat.le_trans h1 (Nat.pow_le_pow_right (by decide) (show 2872 + (A * (j + 1) + 6 + B * (k - (j + 1))) ≤ 5118 by omega))
      have h4 := Int.natAbs_add_le y (u * (z * L ^ (k - (j + 1))))
      rw [Nat.add_mul, Nat.one_mul]
      omega
    · have ek : L ^ k = L ^ (j + 1) * L ^ (k - (j + 1)) := by
        rw [← Int.pow_add]; congr 1; omega
      show _ * (sm j _ + e (k - (j + 1)) * s (j + 1)) = _
      rw [Rat.intCast_add, ← ey]
      simp only [Rat.intCast_mul]
      rw [eu, ← ez, ek]
      simp only [Rat.intCast_mul]
      grind
theorem Sums.pb {k j : Nat} (hk : k ≤ N) (hj : j ≤ k) : bd 5123 (sm j (fun i => e (k - (i + 1)) * s (i + 1))).num ∧ bd 2681 ((sm j (fun i => e (k - (i + 1)) * s (i + 1))).den : Int) := by
  obtain ⟨y, hy, ey⟩ := h.part hk j hj
  have := h.n16
  exact fz_of (Int.mul_ne_zero h.d0 (h.lp k)) ey (le_bd (b := 5) hy (by omega)) (bd_mul h.db (h.lpb hk))
theorem Sums.xb {k j : Nat} (hk : k ≤ N) (hj : j + 1 ≤ k) : bd 5124 (e (k - (j + 1)) * s (j + 1)).num ∧ bd 2681 ((e (k - (j + 1)) * s (j + 1)).den : Int) := by
  obtain ⟨y, hy, ey⟩ := h.part hk j (by omega)
  obtain ⟨y', hy', ey'⟩ := h.part hk (j + 1) hj
  have := h.n16
  refine fz_of (y := y' - y) (Int.mul_ne_zero h.d0 (h.lp k)) ?_ (bd_sub (le_bd (b := 5) hy' (by omega)) (le_bd (b := 5) hy (by omega))) (bd_mul h.db (h.lpb hk))
  rw [Rat.intCast_sub, ← ey, ← ey']
  show _ = _ * (sm j _ + e (k - (j + 1)) * s (j + 1)) - _
  grind
end
theorem den_dvd {v : Rat} {c : Int} {w : Int} (h : (c : Rat) * v = w) : (v.den : Int) ∣ c := by
  have d0 := cne (den_ne v)
  have e1 : (v.num : Rat) = v * ((v.den : Int) : Rat) := by
    have := Rat.div_mul_cancel (a := (v.num : Rat)) d0
    rw [num_den v] at this
    exact this.symm
  have e3 : c * v.num = w * (v.den : Int) := by
    have : ((c * v.num : Int) : Rat) = ((w * (v.den : Int) : Int) : Rat) := by rw [Rat.intCast_mul, Rat.intCast_mul, e1, ← Rat.mul_assoc, h]
    exact Rat.intCast_inj.mp this
  have e4 : v.den ∣ c.natAbs * v.num.natAbs := by
    rw [← Int.natAbs_mul, e3, Int.natAbs_mul]
    exact Nat.dvd_mul_left _ _
  have e5 : v.den ∣ c.natAbs := Nat.Coprime.dvd_of_dvd_mul_right v.reduced.symm e4
  exact Int.ofNat_dvd_left.mpr e5
theorem whole_of {v : Rat} {c : Nat} (h : v.den ∣ c) : ((((v.num * (c : Int)).fdiv (v.den : Int) : Int)) : Rat) = ((c : Int) : Rat) * v := by
  obtain ⟨t, rfl⟩ := h
  have d0 := den_ne v
  have e : (v.num * ((v.den * t : Nat) : Int)).fdiv (v.den : Int) = v.num * (t : Int) := by
    rw [show v.num * ((v.den * t : Nat) : Int) = (v.num * (t : Int)) * (v.den : Int) by rw [Int.natCast_mul]; grind, Int.mul_fdiv_cancel _ d0]
  have e1 : (v.num : Rat) = v * ((v.den : Int) : Rat) := by
    have := Rat.div_mul_cancel (a := (v.num : Rat)) (cne d0)
    rw [num_den v] at this
    exact this.symm
  rw [e, Rat.intCast_mul, Int.natCast_mul, Rat.intCast_mul, e1]
  grind
theorem fdiv_lcm (a b : Nat) : ((a * b : Nat) : Int).fdiv ((Nat.gcd a b : Nat) : Int) = ((Nat.lcm a b : Nat) : Int) := by
  rw [Int.fdiv_eq_ediv_of_nonneg _ (by omega)]
  unfold Nat.lcm
  exact (Int.natCast_ediv _ _).symm
def b_composing_row_by {M : Type} : DS M :=
    (dThen (dSetO 1 (dLst (dCons (dCall s_fractions_fraction [.int 1] (dCons (dC (.int 1)) dNil)) dNil)))
    (dThen (dFor (dRng2 (dCons (dC (.int 1)) (dCons (dB gLen (dCons (dBor 0) dNil)) dNil))) (dgN 2)
      (dThen (dSet 3 (dCall s_fractions_fraction [.int 1] (dCons (dC (.int 0)) dNil)))
    (dThen (dFor (dRng2 (dCons (dC (.int 1)) (dCons (dBin gAdd (dVar 2) (dC (.int 1))) dNil))) (dgN 4)
      (dSet 3 (dCall s_fractions_plus [] (dCons (dVar 3) (dCons (dCall s_fractions_times [] (dCons (dBin (gIx true) (dOwn 1) (dBin (g0 fun i j => .int (i - j)) (dVar 2) (dVar 4))) (dCons (dBin (gIx true) (dBor 0) (dVar 4)) dNil))) dNil)))))
    (dApp 1 (dCall s_fractions_less [] (dCons (dCall s_fractions_fraction [.int 1] (dCons (dC (.int 0)) dNil)) (dCons (dCall s_fractions_over [] (dCons (dVar 3) (dCons (dCall s_fractions_fraction [.int 1] (dCons (dVar 2) dNil)) dNil))) dNil)))))))
    (dThen (dSet 5 (dC (.int 1)))
    (dRel 1 (dThen (dFor (dSeq false (dVar 1)) (dgN 6)
      (dSet 5 (dBin (gII Nd fun i j => .int (i.fdiv j)) (dBin gMul (dVar 5) (dBin (gIx false) (dVar 6) (dC (.int 1)))) (dCall s_numbers_common [] (dCons (dVar 5) (dCons (dBin (gIx false) (dVar 6) (dC (.int 1))) dNil))))))
    (dRet (dBin (gIx false) (dCall s_rows_plain [] (dCons (dCall s_rows_row_of [] (dCons (dRvs (dLc (dSeq false (dVar 1)) (dgN 6) dYes (dBin (gII Nd fun i j => .int (i.fdiv j)) (dBin gMul (dBin (gIx false) (dVar 6) (dC (.int 0))) (dVar 5)) (dBin (gIx false) (dVar 6) (dC (.int 1)))) [6])) dNil)) dNil)) (dC (.int 1)))))))))
def s_composing_row_by {M : Type} : DSp M := fun ds m Q Z => ∃ (N A B : Nat) (L D : Int) (s e : Nat → Rat), ds = [.lst ((List.range (N + 1)).map fun k => pq (s k))] ∧ Sums N A B L D s e ∧
  ∀ F : List Int, done F → F.length = N + 1 → gcdL F = 1 → 0 < F.getD N 0 → (∀ i, i ≤ N → ((F.getD i 0 : Int) : Rat) = ((F.getD N 0 : Int) : Rat) * e (N - i)) → (∀ x ∈ F, bd 3500 x) → Q (.tup (zz F)) m
theorem vc_composing_row_by {M : Type} : ∀ ds (m : M) Q Z, s_composing_row_by ds m Q Z → okK [true] ds ∧ b_composing_row_by { nx := fun _ m' => Q .non m', rt := Q, ex := Z } (st0 [true] ds 7) m := by
  rintro ds m Q Z ⟨N, A, B, L, D, s, e, rfl, h, q⟩
  refine ⟨⟨fun z => (nomatch z), trivial⟩, ?_⟩
  unfold b_composing_row_by
  have n1 := h.n1
  have n16 := h.n16
  repeat walk_at "s"
  refine ⟨1, 1, rfl, fun z => absurd z (by decide), fun _ => ⟨.inl (bd_lit (by decide)), ?_⟩⟩
  rw [pq_int]
  repeat walk_at "s"
  refine v_kO (by rfl) ?_
  repeat walk_at "s"
  rw [List.length_map, List.length_range]
  refine v_kR2 (by omega) (by omega) (by omega) (by omega) ?_
  rw [show (((N + 1 : Nat) : Int) - 1).toNat = N by omega]
  refine v_kforR N (fun k ρ m' => m = m' ∧ ∃ (a2 a3 a4 a5 a6 : Sl), ρ = [.bor (.lst ((List.range (N + 1)).map fun k => pq (s k))), .own ((List.range (k + 1)).map fun k => pq (e k)), a2, a3, a4, a5, a6]) ?_ (fun ρ m' H => ?_) fun k ρ m' hk H => ?_
  · refine ⟨rfl, .un, .un, .un, .un, .un, ?_⟩
    show _ = [_, Sl.own [pq (e 0)], _, _, _, _, _]
    rw [h.ew.1]
    with_unfolding_all rfl
  rotate_left
  · obtain ⟨rfl, a2, a3, a4, a5, a6, rfl⟩ := H
    rw [show (1 : Int) + (k : Nat) = ((k + 1 : Nat) : Int) by omega]
    repeat walk_at "s"
    refine ⟨0, 1, rfl, fun z => absurd z (by decide), fun _ => ⟨.inl (bd_lit (by decide)), ?_⟩⟩
    rw [pq_int]
    repeat walk_at "s"
    refine v_kR2 (by omega) (by omega) (by omega) (by omega) ?_
    rw [show (((k + 1 : Nat) : Int) + 1 - 1).toNat = k + 1 by omega]
    refine v_kforR (k + 1) (fun j ρ m' => m = m' ∧ ∃ (a4 : Sl), ρ = [.bor (.lst ((List.range (N + 1)).map fun k => pq (s k))), .own ((List.range (k + 1)).map fun k => pq (e k)), .val (.int ((k + 1 : Nat) : Int)), .val (pq (sm j (fun i => e (k + 1 - (i + 1)) * s (i + 1)))), a4, a5, a6]) ?_ (fun ρ m' H => ?_) fun j ρ m' hj H => ?_
    · exact ⟨rfl, a4, by with_unfolding_all rfl⟩
    · obtain ⟨rfl, a4, rfl⟩ := H
      have pb := h.pb (k := k + 1) (j := k + 1) (by omega) (Nat.le_refl _)
      repeat walk_at "s"
      refine ⟨0, 1, rfl, fun z => absurd z (by decide), fun _ => ⟨.inl (bd_lit (by decide)), ?_⟩⟩
      rw [pq_int]
      repeat walk_at "s"
      refine ⟨((k + 1 : Nat) : Int), 1, rfl, fun z => absurd z (by decide), fun _ => ⟨.inl (bd_lit (by decide)), ?_⟩⟩
      rw [pq_int]
      repeat walk_at "s"
      have k0 : (((k + 1 : Nat) : Int) : Rat) ≠ 0 := cne (by omega)
      refine ⟨_, (((k + 1 : Nat) : Int) : Rat), 5123, 2681, 5, 1, rfl, pb.1, pb.2, (by show bd 5 ((k + 1 : Nat) : Int); unfold bd; omega), (by show bd 1 ((1 : Nat) : Int); exact bd_lit (by decide)), by decide, by decide, k0, fun b1 b2 => ?_⟩
      repeat walk_at "s"
      refine ⟨((0 : Int) : Rat), _, 1, 1, _, _, rfl, bd_lit (by decide), bd_lit (by decide), b1, b2, by decide, by decide, fun _ _ => ?_⟩
      refine ⟨rfl, small_line (by simp; omega), rfl, .val (.int ((k + 1 : Nat) : Int)), .val (pq (sm (k + 1) (fun i => e (k + 1 - (i + 1)) * s (i + 1)))), a4, a5, a6, ?_⟩
      have ee : ((0 : Int) : Rat) - sm (k + 1) (fun i => e (k + 1 - (i + 1)) * s (i + 1)) / (((k + 1 : Nat) : Int) : Rat) = e (k + 1) := (h.ew.2 (k + 1) (by omega) (by omega)).symm
      rw [ee, List.range_succ (n := k + 1), List.map_append]
      with_unfolding_all rfl
    · obtain ⟨rfl, a4, rfl⟩ := H
      rw [show (1 : Int) + (j : Nat) = ((j + 1 : Nat) : Int) by omega]
      repeat walk_at "s"
      rw [show ((k + 1 : Nat) : Int) - ((j + 1 : Nat) : Int) = ((k + 1 - (j + 1) : Nat) : Int) by omega]
      refine v_ix60 (by omega) rfl ?_
      repeat walk_at "s"
      refine v_ix60 (by omega) rfl ?_
      repeat walk_at "s"
      have eb := h.ez (k := k + 1 - (j + 1)) (by omega)
      have sb := h.sb (k := j + 1) (by omega)
      have pb := h.pb (k := k + 1) (j := j) (by omega) (by omega)
      have xb := h.xb (k := k + 1) (j := j) (by omega) (by omega)
      refine ⟨_, _, 2873, 536, 2246, 2145, rfl, eb.1, eb.2, sb.1, sb.2, by decide, by decide, ?_⟩
      repeat walk_at "s"
      refine ⟨_, _, 5123, 2681, 5124, 2681, rfl, pb.1, pb.2, xb.1, xb.2, by decide, by decide, ?_⟩
      exact ⟨rfl, .val (.int ((j + 1 : Nat) : Int)), by with_unfolding_all rfl⟩
  obtain ⟨rfl, a2, a3, a4, a5, a6, rfl⟩ := H
  repeat walk_at "s"
  refine v_kSeqL ?_
  refine v_kforL (inj := fun k => pq (e k)) (fun r ρ m' => m = m' ∧ ∃ (pre : List Nat) (c : Nat) (a6 : Sl), pre ++ r = List.range (N + 1) ∧ (∀ k ∈ pre, (e k).den ∣ c) ∧ (c : Int) ∣ D ∧ 0 < c ∧ ρ = [.bor (.lst ((List.range (N + 1)).map fun k => pq (s k))), .val (.lst ((List.range (N + 1)).map fun k => pq (e k))), a2, a3, a4, .val (.int (c : Int)), a6]) (List.range (N + 1)) ?_ (fun ρ m' H => ?_) fun x r ρ m' H => ?_
  · exact ⟨rfl, [], 1, a6, rfl, fun k hk => absurd hk List.not_mem_nil, Int.one_dvd _, by decide, by with_unfolding_all rfl⟩
  rotate_left
  · obtain ⟨rfl, pre, c, a6, hp, hd, hc, c0, rfl⟩ := H
    have hx : x ≤ N := by
      have : x ∈ List.range (N + 1) := by rw [← hp]; simp
      have := List.mem_range.mp this
      omega
    have cb : bd 536 (c : Int) := by
      have h1 := Nat.le_of_dvd (by have := h.d0; omega) (Int.natAbs_dvd_natAbs.mpr hc)
      have h2 := h.db
      unfold bd at h2 ⊢
      omega
    have eb := (h.ez hx).2
    obtain ⟨y, ey⟩ := h.int x hx
    have dd := den_dvd ey.symm
    have g0 : ((Nat.gcd c (e x).den : Nat) : Int) ≠ 0 := by
      have := Nat.gcd_pos_of_pos_left (e x).den c0
      omega
    have gb : bd 536 ((Nat.gcd c (e x).den : Nat) : Int) := by
      have := Nat.le_of_dvd c0 (Nat.gcd_dvd_left c (e x).den)
      unfold bd at cb ⊢
      omega
    repeat walk_at "s"
    refine ⟨_, _, rfl, ?_⟩
    rw [show ((Int.gcd (c : Int) ((e x).den : Int) : Nat) : Int) = ((Nat.gcd c (e x).den : Nat) : Int) from rfl]
    refine v_fdivb g0 gb (by decide) ?_
    rw [← Int.natCast_mul, fdiv_lcm]
    refine ⟨r, rfl, rfl, pre ++ [x], Nat.lcm c (e x).den, .val (pq (e x)), by rw [← hp]; simp, fun k hk => ?_, ?_, Nat.lcm_pos c0 (e x).den_pos, by with_unfolding_all rfl⟩
    · rcases List.mem_append.mp hk with z | z
      · exact Nat.dvd_trans (hd k z) (Nat.dvd_lcm_left _ _)
      · rw [List.mem_singleton.mp z]; exact Nat.dvd_lcm_right _ _
    · have h1 := Int.natAbs_dvd_natAbs.mpr hc
      have h2 := Int.natAbs_dvd_natAbs.mpr dd
      exact Int.ofNat_dvd_left.mpr (Nat.lcm_dvd h1 h2)
  obtain ⟨rfl, pre, c, a6, hp, hd, hc, c0, rfl⟩ := H
  rw [List.append_nil] at hp
  subst hp
  have hd : ∀ k, k ≤ N → (e k).den ∣ c := fun k hk => hd k (List.mem_range.mpr (by omega))
  have cb : bd 536 (c : Int) := by
    have h1 := Nat.le_of_dvd (by have := h.d0; omega) (Int.natAbs_dvd_natAbs.mpr hc)
    have h2 := h.db
    unfold bd at h2 ⊢
    omega
  let w : Nat → Int := fun k => ((e k).num * (c : Int)).fdiv ((e k).den : Int)
  have hw : ∀ k, k ≤ N → ((w k : Int) : Rat) = ((c : Int) : Rat) * e k := fun k hk => whole_of (hd k hk)
  have wb : ∀ k, k ≤ N → bd 3409 (w k) := fun k hk => div_bd (xs := [(e k).num * (c : Int)]) (d := ((e k).den : Int)) (den_ne _) (fun x hx => by
    rw [List.mem_singleton.mp hx]
    exact Int.dvd_mul_of_dvd_right (Int.natCast_dvd_natCast.mpr (hd k hk))) (fun x hx => by rw [List.mem_singleton.mp hx]; exact bd_mul (h.ez hk).1 cb) (w k) (by simp [w])
  have w0 : w 0 = c := by
    have := hw 0 (by omega)
    rw [h.ew.1, Rat.mul_one] at this
    exact Rat.intCast_inj.mp this
  repeat walk_at "s"
  refine v_kSeqL ?_
  refine lcGo_map (inj := fun k => pq (e k)) (h := fun k => RR.D.int (w k)) (List.range (N + 1)) (fun k hk m1 K l hK => ?_) (small_line (by simp; omega)) ?_
  · have hk : k ≤ N := by have := List.mem_range.mp hk; omega
    have eb := h.ez hk
    have eb1 := eb.1
    have d0 := den_ne (e k)
    repeat walk_at "s"
    refine v_fdivb d0 eb.2 (by decide) ?_
    exact hK
  rw [show (List.range (N + 1)).map (fun k => RR.D.int (w k)) = zz ((List.range (N + 1)).map w) from (List.map_map ..).symm]
  repeat walk_at "s"
  have ln : ((List.range (N + 1)).map w).reverse.length = N + 1 := by simp
  have gt : ∀ i, i ≤ N → ((List.range (N + 1)).map w).reverse.getD i 0 = w (N - i) := fun i hi => by
    rw [List.getD_eq_getElem?_getD, List.getElem?_reverse (by simp; omega), List.length_map, List.length_range, List.getElem?_map, List.getElem?_range (by omega), show N + 1 - 1 - i = N - i by omega]; rfl
  have dn : done ((List.range (N + 1)).map w).reverse := done_of_last (by
    rw [ln, Nat.add_sub_cancel, gt N (Nat.le_refl _), Nat.sub_self, w0]; omega)
  generalize hW : ((List.range (N + 1)).map w).reverse = W at ln gt dn
  refine ⟨_, W, rfl, isRow_l, by omega, fun r hr => ?_⟩
  have er : r = W := done_uniq hr.dn dn hr.sr
  subst er
  have n0 : r ≠ [] := fun z => by rw [z] at ln; simp at ln
  have rb : ∀ x ∈ r, bd 3409 x := fun x hx => by
    rw [← hW] at hx
    simp only [List.mem_reverse, List.mem_map, List.mem_range] at hx
    obtain ⟨k, hk, rfl⟩ := hx
    exact wb k (by omega)
  repeat walk_at "s"
  refine ⟨r, rfl, by omega, fun z => absurd z n0, fun _ => ⟨gc_ne dn n0, fun x hx => bd_mono (rb x hx) (by decide), ?_⟩⟩
  repeat walk_at "s"
  have last : r.getD (r.length - 1) 0 = c := by rw [ln, Nat.add_sub_cancel, gt N (Nat.le_refl _), Nat.sub_self, w0]
  have pp : ppt r = (gcdL r : Int) := by unfold ppt; rw [if_pos (by rw [last]; omega)]
  have g0 := gc_ne dn n0
  have ps := pl_ser r
  have pc : ∀ i, (gcdL r : Int) * (pl r).getD i 0 = r.getD i 0 := fun i => by
    have := congrArg (fun f => Ser.co f i) ps
    have this : (Ser.C (ppt r) * ser (pl r)).co i = (ser r).co i := this
    rw [Ser.C_mul_co, ser_co, ser_co, pp] at this
    exact this
  refine q (pl r) (pl_done dn) (by rw [pl_len, ln]) (pl_gc dn n0) ?_ (fun i hi => ?_) fun x hx => bd_mono (pl_bd dn n0 rb x hx) (by decide)
  · have := pc N
    rw [gt N (Nat.le_refl _), Nat.sub_self, w0] at this
    have gp : (0 : Int) < (gcdL r : Int) := by omega
    exact Int.pos_of_mul_pos_left (by rw [Int.mul_comm, this]; omega) gp
  · have h1 := congrArg (fun z : Int => (z : Rat)) (pc i)
    have h2 := congrArg (fun z : Int => (z : Rat)) (pc N)
    have h1 : (((gcdL r : Int) * (pl r).getD i 0 : Int) : Rat) = ((r.getD i 0 : Int) : Rat) := h1
    have h2 : (((gcdL r : Int) * (pl r).getD N 0 : Int) : Rat) = ((r.getD N 0 : Int) : Rat) := h2
    rw [gt i hi, Rat.intCast_mul, hw (N - i) (by omega)] at h1
    rw [gt N (Nat.le_refl _), Nat.sub_self, Rat.intCast_mul, hw 0 (by omega), h.ew.1] at h2
    have gr : (((gcdL r : Nat) : Int) : Rat) ≠ 0 := cne (by omega)
    have i1 := Rat.inv_mul_cancel _ gr
    calc (((pl r).getD i 0 : Int) : Rat) = (((gcdL r : Nat) : Int) : Rat)⁻¹ * (((((gcdL r : Nat) : Int) : Rat)) * (((pl r).getD i 0 : Int) : Rat)) := by rw [← Rat.mul_assoc, i1, Rat.one_mul]
      _ = (((gcdL r : Nat) : Int) : Rat)⁻¹ * (((c : Int) : Rat) * e (N - i)) := by rw [h1]
      _ = (((gcdL r : Nat) : Int) : Rat)⁻¹ * (((((gcdL r : Nat) : Int) : Rat) * (((pl r).getD N 0 : Int) : Rat)) * e (N - i)) := by rw [h2]; grind
      _ = _ := by rw [Rat.mul_assoc (((gcdL r : Nat) : Int) : Rat), ← Rat.mul_assoc (((gcdL r : Nat) : Int) : Rat)⁻¹, i1, Rat.one_mul]
end RR
namespace RR
open PySem PySem.Spec PyProof.Rows L2
open DK (Nw Ew sm)
structure Gd (xs : List Int) (m : Nat) (a : Int) : Prop where
  ln : xs.length = m + 1
  m1 : 1 ≤ m
  m4 : m ≤ 4
  la : xs.getD m 0 = a
  a0 : a ≠ 0
  hb : ∀ x ∈ xs, bd 67 x
theorem Gd.far {xs : List Int} {m : Nat} {a : Int} (h : Gd xs m a) : far (m + 1) (ser xs) := by rw [← h.ln]; exact far_ser xs
theorem Gd.ab {xs : List Int} {m : Nat} {a : Int} (h : Gd xs m a) : bd 67 a := by
  rw [← h.la, List.getD_eq_getElem?_getD, List.getElem?_eq_getElem (by rw [h.ln]; omega)]
  exact h.hb _ (List.getElem_mem _)
theorem Gd.tp {xs : List Int} {m : Nat} {a : Int} (h : Gd xs m a) : tpE xs = fun k => (DK.qi (ser xs)).co (m - k) / (a : Rat) := by
  funext k
  unfold tpE
  rw [h.ln, Nat.add_sub_cancel, h.la]
theorem Gd.sz {xs : List Int} {m N : Nat} {a : Int} {p : Nat → Rat} (h : Gd xs m a) (hp : Nw m (tpE xs) N p) {k : Nat} (hk : k ≤ N) : ∃ z : Int, bd (70 * k + 3) z ∧ ((a ^ k : Int) : Rat) * p k = z := by
  refine (nw_size (f := fun i => xs.getD (m - i) 0) h.m4 (fun i => ?_) h.ab (fun i hi => ?_) hp k hk).1
  · have := h.ln
    show bd 67 (xs.getD (m - i) 0)
    rw [List.getD_eq_getElem?_getD, List.getElem?_eq_getElem (by omega)]
    exact h.hb _ (List.getElem_mem _)
  · rw [h.tp, Rat.mul_comm]
    exact Rat.div_mul_cancel (cne h.a0)
theorem Gd.pb {xs : List Int} {m N : Nat} {a : Int} {p : Nat → Rat} (h : Gd xs m a) (hp : Nw m (tpE xs) N p) {k : Nat} (hk : k ≤ N) (k16 : k ≤ 16) : bd 1123 (p k).num ∧ bd 1073 ((p k).den : Int) := by
  obtain ⟨z, hz, ez⟩ := h.sz hp hk
  refine fz_of (Int.pow_ne_zero h.a0) ez (bd_mono hz (by omega)) ?_
  unfold bd
  exact Nat.lt_of_le_of_lt (bd_powL h.ab k) (Nat.pow_lt_pow_right (by decide) (by omega))
theorem bd_powS {x : Int} {a : Nat} (h : bd a x) : ∀ n : Nat, 1 ≤ n → bd (a * n) (x ^ n)
  | 0, h1 => absurd h1 (by omega)
  | n + 1, _ => by
    unfold bd at h ⊢
    rw [Int.pow_succ, Int.natAbs_mul, Nat.mul_succ, Nat.pow_add]
    exact Nat.lt_of_le_of_lt (Nat.mul_le_mul_right _ (bd_powL h n)) (Nat.mul_lt_mul_of_pos_left h (Nat.pow_pos (by decide)))
theorem Ew.ex (s : Nat → Rat) : ∀ N, ∃ e, Ew N s e
  | 0 => ⟨fun _ => 1, rfl, fun k h1 h2 => absurd h1 (by omega)⟩
  | N + 1 => by
    obtain ⟨e, h⟩ := Ew.ex s N
    let e' : Nat → Rat := fun k => if k = N + 1 then 0 - (sm (N + 1) (fun i => e (N + 1 - (i + 1)) * s (i + 1))) / ((N + 1 : Nat) : Rat) else e k
    have q : ∀ j, j ≤ N → e' j = e j := fun j hj => by show (if j = N + 1 then _ else e j) = _; rw [if_neg (by omega)]
    refine ⟨e', by rw [q 0 (by omega)]; exact h.1, fun k k1 hk => ?_⟩
    by_cases c : k = N + 1
    · subst c
      show (if N + 1 = N + 1 then _ else e _) = _
      rw [if_pos rfl, DK.sm_cong (N + 1) (f := fun i => e (N + 1 - (i + 1)) * s (i + 1)) (g := fun i => e' (N + 1 - (i + 1)) * s (i + 1)) fun i hi => by rw [q _ (by omega)]]
    · rw [q k (by omega), h.2 k k1 (by omega), DK.sm_cong k (f := fun i => e (k - (i + 1)) * s (i + 1)) (g := fun i => e' (k - (i + 1)) * s (i + 1)) fun i hi => by rw [q _ (by omega)]]
def wy : Nat → List Int
  | 0 => [1]
  | k + 1 => ((0 :: wy k).zip (wy k ++ [0])).map fun x => x.1 + x.2
theorem wy_len : ∀ k, (wy k).length = k + 1
  | 0 => rfl
  | k + 1 => by
    show (List.map _ _).length = _
    rw [List.length_map, List.length_zip, List.length_cons, List.length_append, wy_len k]
    simp
theorem wy_at (k j : Nat) : (wy (k + 1)).getD j 0 = (if j = 0 then 0 else (wy k).getD (j - 1) 0) + (wy k).getD j 0 := by
  have l := wy_len k
  by_cases h : j < k + 2
  · show (((0 :: wy k).zip (wy k ++ [0])).map fun x => x.1 + x.2).getD j 0 = _
    have lz : j < ((0 :: wy k).zip (wy k ++ [0])).length := by rw [List.length_zip, List.length_cons, List.length_append, l]; simp; omega
    have l1 : j < (0 :: wy k).length := by rw [List.length_cons, l]; omega
    have l2 : j < (wy k ++ [0]).length := by rw [List.length_append, l]; simp; omega
    rw [List.getD_eq_getElem?_getD, List.getElem?_map, List.getElem?_eq_getElem lz, List.getElem_zip]
    show (0 :: wy k)[j]'l1 + (wy k ++ [0])[j]'l2 = _
    congr 1
    · cases j with
      | zero => rfl
      | succ j =>
        rw [if_neg (by omega), Nat.add_sub_cancel, List.getD_eq_getElem?_getD, List.getElem?_eq_getElem (by omega)]; rfl
    · by_cases c : j < k + 1
      · rw [List.getElem_append_left (by omega), List.getD_eq_getElem?_getD, List.getElem?_eq_getElem (by omega)]; rfl
      · rw [List.getElem_append_right (by omega), getD_far (by omega)]
        simp
  · rw [getD_far (by rw [wy_len]; omega), if_neg (by omega), getD_far (by omega), getD_far (by omega)]; rfl
theorem wy_bd : ∀ k j, ((wy k).getD j 0).natAbs ≤ 2 ^ k
  | 0, j => by
    cases j with
    | zero => exact Nat.le_refl _
    | succ j => rw [getD_far (by rw [wy_len]; omega)]; exact Nat.zero_le _
  | k + 1, j => by
    rw [wy_at]
    have h2 := wy_bd k j
    have e : 2 ^ (k + 1) = 2 ^ k + 2 ^ k := by rw [Nat.pow_succ]; omega
    split
    · omega
    · have h1 := wy_bd k (j - 1)
      have := Int.natAbs_add_le ((wy k).getD (j - 1) 0) ((wy k).getD j 0)
      omega
theorem wy_bs : ∀ (k : Nat) (a b : Nat → Rat), sm (k + 1) (fun j => (((wy k).getD j 0 : Int) : Rat) * (a j * b (k - j))) = DK.bs k a b
  | 0, a, b => by
    show (0 : Rat) + ((1 : Int) : Rat) * (a 0 * b 0) = a 0 * b 0
    show (0 : Rat) + 1 * _ = _
    grind
  | k + 1, a, b => by
    show _ = DK.bs k (fun j => a (j + 1)) b + DK.bs k a (fun j => b (j + 1))
    rw [← wy_bs k (fun j => a (j + 1)) b, ← wy_bs k a (fun j => b (j + 1))]
    rw [DK.sm_cong (k + 1 + 1) (g := fun j => (((if j = 0 then 0 else (wy k).getD (j - 1) 0 : Int) : Rat) * (a j * b (k + 1 - j))) + (((wy k).getD j 0 : Int) : Rat) * (a j * b (k + 1 - j))) fun j hj => by rw [wy_at, Rat.intCast_add]; grind, DK.sm_add, DK.sm_head]
    have z : (((wy k).getD (k + 1) 0 : Int) : Rat) = 0 := by rw [getD_far (by rw [wy_len]; omega)]; rfl
    have e2 : sm (k + 1 + 1) (fun j => (((wy k).getD j 0 : Int) : Rat) * (a j * b (k + 1 - j))) = sm (k + 1) (fun j => (((wy k).getD j 0 : Int) : Rat) * (a j * b (k - j + 1))) := by
      show sm (k + 1) _ + (((wy k).getD (k + 1) 0 : Int) : Rat) * _ = _
      rw [z, DK.sm_cong (k + 1) (g := fun j => (((wy k).getD j 0 : Int) : Rat) * (a j * b (k - j + 1))) fun j hj => by rw [show k + 1 - j = k - j + 1 by omega]]
      grind
    rw [e2]
    have e1 : sm (k + 1) (fun j => (((if j + 1 = 0 then 0 else (wy k).getD (j + 1 - 1) 0 : Int) : Rat) * (a (j + 1) * b (k + 1 - (j + 1))))) = sm (k + 1) (fun j => (((wy k).getD j 0 : Int) : Rat) * (a (j + 1) * b (k - j))) := DK.sm_cong (k + 1) fun j hj => by
      rw [if_neg (by omega), Nat.add_sub_cancel, show k + 1 - (j + 1) = k - j by omega]
    rw [e1]
    show ((0 : Int) : Rat) * _ + _ + _ = _
    show (0 : Rat) * _ + _ + _ = _
    grind
section
variable {xs ys : List Int} {m n : Nat} {a b : Int} {p q : Nat → Rat} {N : Nat} (gx : Gd xs m a) (gy : Gd ys n b) (hp : Nw m (tpE xs) N p) (hq : Nw n (tpE ys) N q)
include gx gy hp hq
theorem ways_part {k : Nat} (hk : k ≤ N) : ∀ j, j ≤ k + 1 → ∃ y : Int, y.natAbs ≤ j * 2 ^ (138 * k + 6) ∧ (((a * b) ^ k : Int) : Rat) * sm j (fun i => (((wy k).getD i 0 : Int) : Rat) * (p i * q (k - i))) = y := by
  intro j
  induction j with
  | zero => intro _; exact ⟨0, by simp, by show _ * (0 : Rat) = ((0 : Int) : Rat); rw [Rat.mul_zero]; rfl⟩
  | succ j ih =>
    intro hj
    obtain ⟨y, hy, ey⟩ := ih (by omega)
    obtain ⟨z, hz, ez⟩ := gx.sz hp (k := j) (by omega)
    obtain ⟨z', hz', ez'⟩ := gy.sz hq (k := k - j) (by omega)
    refine ⟨y + (wy k).getD j 0 * ((z * a ^ (k - j)) * (z' * b ^ j)), ?_, ?_⟩
    · have h1 := Nat.mul_le_mul (wy_bd k j) (Nat.mul_le_mul (Nat.mul_le_mul (bd_le hz) (bd_powL gx.ab (k - j))) (Nat.mul_le_mul (bd_le hz') (bd_powL gy.ab j)))
      rw [← Int.natAbs_mul, ← Int.natAbs_mul, ← Int.natAbs_mul, ← Int.natAbs_mul, ← Nat.pow_add, ← Nat.pow_add, ← Nat.pow_add, ← Nat.pow_add] at h1
      have h3 := Nat.le_trans h1 (Nat.pow_le_pow_right (by decide) (show k + (70 * j + 3 + 67 * (k - j) + (70 * (k - j) + 3 + 67 * j)) ≤ 138 * k + 6 by omega))
      have h4 := Int.natAbs_add_le y ((wy k).getD j 0 * ((z * a ^ (k - j)) * (z' * b ^ j)))
      rw [Nat.add_mul, Nat.one_mul]
      omega
    · have ea : a ^ k = a ^ j * a ^ (k - j) := by rw [← Int.pow_add]; congr 1; omega
      have eb : b ^ k = b ^ (k - j) * b ^ j := by rw [← Int.pow_add]; congr 1; omega
      show _ * (sm j _ + _) = _
      rw [Rat.intCast_add, ← ey, Int.mul_pow, ea, eb]
      simp only [Rat.intCast_mul]
      rw [← ez, ← ez']
      grind
theorem Gd.lb : bd 134 (a * b) := bd_mul gx.ab gy.ab
theorem ways_b {k j : Nat} (hk : k ≤ N) (k16 : k ≤ 16) (hj : j ≤ k + 1) : bd 2230 (sm j (fun i => (((wy k).getD i 0 : Int) : Rat) * (p i * q (k - i)))).num ∧ bd 2145 ((sm j (fun i => (((wy k).getD i 0 : Int) : Rat) * (p i * q (k - i)))).den : Int) := by
  obtain ⟨y, hy, ey⟩ := ways_part gx gy hp hq hk j hj
  refine fz_of (Int.pow_ne_zero (Int.mul_ne_zero gx.a0 gy.a0)) ey (bd_mono (le_bd (b := 5) hy (by omega)) (by omega)) ?_
  unfold bd
  exact Nat.lt_of_le_of_lt (bd_powL (Gd.lb gx gy hp hq) k) (Nat.pow_lt_pow_right (by decide) (by omega))
theorem ways_x {k j : Nat} (hk : k ≤ N) (k16 : k ≤ 16) (hj : j + 1 ≤ k + 1) : bd 2231 ((((wy k).getD j 0 : Int) : Rat) * (p j * q (k - j))).num ∧ bd 2145 (((((wy k).getD j 0 : Int) : Rat) * (p j * q (k - j))).den : Int) := by
  obtain ⟨y, hy, ey⟩ := ways_part gx gy hp hq hk j (by omega)
  obtain ⟨y', hy', ey'⟩ := ways_part gx gy hp hq hk (j + 1) hj
  refine fz_of (D := (a * b) ^ k) (y := y' - y) (Int.pow_ne_zero (Int.mul_ne_zero gx.a0 gy.a0)) ?_ (bd_sub (bd_mono (le_bd (b := 5) hy' (by omega)) (show 138 * k + 6 + 5 ≤ 2230 by omega)) (bd_mono (le_bd (b := 5) hy (by omega)) (show 138 * k + 6 + 5 ≤ 2230 by omega))) ?_
  · rw [Rat.intCast_sub, ← ey, ← ey']
    show _ = _ * (sm j _ + (((wy k).getD j 0 : Int) : Rat) * (p j * q (k - j))) - _
    grind
  · unfold bd
    exact Nat.lt_of_le_of_lt (bd_powL (Gd.lb gx gy hp hq) k) (Nat.pow_lt_pow_right (by decide) (by omega))
theorem prd_b {i j : Nat} (hi : i ≤ N) (hj : j ≤ N) (i16 : i + j ≤ 16) : bd 1126 (p i * q j).num ∧ bd 1073 ((p i * q j).den : Int) := by
  obtain ⟨z, hz, ez⟩ := gx.sz hp hi
  obtain ⟨z', hz', ez'⟩ := gy.sz hq hj
  refine fz_of (D := a ^ i * b ^ j) (y := z * z') (Int.mul_ne_zero (Int.pow_ne_zero gx.a0) (Int.pow_ne_zero gy.a0)) ?_ (bd_mono (bd_mul hz hz') (by omega)) ?_
  · rw [Rat.intCast_mul, Rat.intCast_mul, ← ez, ← ez']; grind
  · unfold bd
    rw [Int.natAbs_mul]
    refine Nat.lt_of_le_of_lt (Nat.mul_le_mul (bd_powL gx.ab i) (bd_powL gy.ab j)) ?_
    rw [← Nat.pow_add]
    exact Nat.pow_lt_pow_right (by decide) (by omega)
end
section
variable {xs ys : List Int} {m n : Nat} {a b : Int} {p q s e : Nat → Rat} (gx : Gd xs m a) (gy : Gd ys n b)
include gx gy
theorem Gd.dl : bd 536 (a ^ n * b ^ m) := by
  have := gx.m4
  have := gy.m4
  exact bd_mono (bd_mul (bd_powS gx.ab n gy.m1) (bd_powS gy.ab m gx.m1)) (by omega)
theorem sums_ok (mn : m * n ≤ 16) (hp : Nw m (tpE xs) (m * n) p) (hq : Nw n (tpE ys) (m * n) q) (hs : ∀ k, k ≤ m * n → s k = DK.bs k p q) (he : Ew (m * n) s e) : Sums (m * n) 140 134 (a * b) (a ^ n * b ^ m) s e ∧ DK.Told (m * n) (a ^ n * b ^ m) (fun t => DK.Rs (DK.qi (ser xs)) m (DK.turn n (DK.qi (ser ys)) t) n) e := by
  have T := DK.sums_told gx.far (by rw [ser_co]; exact gx.la) gx.a0 gy.far (by rw [ser_co]; exact gy.la) gy.a0 (gx.tp ▸ hp) (gy.tp ▸ hq) (fun k _ hk => hs k hk) he
  refine ⟨⟨Nat.mul_pos gx.m1 gy.m1, mn, by omega, by omega, by decide, Int.mul_ne_zero gx.a0 gy.a0, bd_mul gx.ab gy.ab, Int.mul_ne_zero (Int.pow_ne_zero gx.a0) (Int.pow_ne_zero gy.a0), gx.dl gy, he, fun k hk => ?_, T.int⟩, T⟩
  by_cases k0 : k = 0
  · subst k0
    refine ⟨((m * n : Nat) : Int), by unfold bd; omega, ?_⟩
    rw [hs 0 hk, Int.pow_zero]
    show (1 : Rat) * (p 0 * q 0) = _
    rw [hp.1, hq.1, Rat.one_mul, ← Rat.natCast_mul]; rfl
  obtain ⟨y, hy, ey⟩ := ways_part gx gy hp hq hk (k + 1) (Nat.le_refl _)
  refine ⟨y, ?_, by rw [hs k hk, ← wy_bs]; exact ey⟩
  unfold bd
  refine Nat.lt_of_le_of_lt hy ?_
  have h1 : k + 1 ≤ 2 ^ k := Nat.lt_pow_self (by decide)
  have h2 := Nat.mul_le_mul_right (2 ^ (138 * k + 6)) h1
  rw [← Nat.pow_add] at h2
  exact Nat.lt_of_le_of_lt h2 (Nat.pow_lt_pow_right (by decide) (by omega))
theorem prds_ok (mn : m * n ≤ 16) (hp : Nw m (tpE xs) (m * n) p) (hq : Nw n (tpE ys) (m * n) q) (hs : ∀ k, k ≤ m * n → s k = p k * q k) (he : Ew (m * n) s e) : Sums (m * n) 140 134 (a * b) (a ^ n * b ^ m) s e ∧ DK.Told (m * n) (a ^ n * b ^ m) (fun t => DK.Rs (DK.qi (ser xs)) m (DK.wide n (DK.qi (ser ys)) t) n) e := by
  have T := DK.prds_told gx.far (by rw [ser_co]; exact gx.la) gx.a0 gy.far (by rw [ser_co]; exact gy.la) gy.a0 (gx.tp ▸ hp) (gy.tp ▸ hq) (fun k _ hk => hs k hk) he
  refine ⟨⟨Nat.mul_pos gx.m1 gy.m1, mn, by omega, by omega, by decide, Int.mul_ne_zero gx.a0 gy.a0, bd_mul gx.ab gy.ab, Int.mul_ne_zero (Int.pow_ne_zero gx.a0) (Int.pow_ne_zero gy.a0), gx.dl gy, he, fun k hk => ?_, T.int⟩, T⟩
  obtain ⟨z, hz, ez⟩ := gx.sz hp hk
  obtain ⟨z', hz', ez'⟩ := gy.sz hq hk
  refine ⟨z * z', bd_mono (bd_mul hz hz') (by omega), ?_⟩
  rw [hs k hk, Int.mul_pow, Rat.intCast_mul, Rat.intCast_mul, ← ez, ← ez']
  grind
end
theorem pows_ok {xs : List Int} {m k : Nat} {a : Int} {p s e : Nat → Rat} (gx : Gd xs m a) (k1 : 1 ≤ k) (k8 : k ≤ 8) (hp : Nw m (tpE xs) (m * k) p) (hs : ∀ j, j ≤ m → s j = p (j * k)) (he : Ew m s e) : Sums m (70 * k) (67 * k) (a ^ k) (a ^ k) s e ∧ DK.Told m (a ^ k) (fun t => DK.Rs (DK.qi (ser xs)) m (DK.mono k t) k) e := by
  have T := DK.pows_told gx.far (by rw [ser_co]; exact gx.la) gx.a0 (gx.tp ▸ hp) (fun j _ hj => hs j hj) he
  have m4 := gx.m4
  have h1 : k * m ≤ 32 := Nat.mul_le_mul k8 m4
  refine ⟨⟨gx.m1, by omega, by rw [Nat.mul_assoc]; omega, by rw [Nat.mul_assoc]; omega, by omega, Int.pow_ne_zero gx.a0, bd_powS gx.ab k k1, Int.pow_ne_zero gx.a0, bd_mono (bd_powS gx.ab k k1) (by omega), he, fun j hj => ?_, T.int⟩, T⟩
  obtain ⟨z, hz, ez⟩ := gx.sz hp (k := j * k) (Nat.mul_le_mul_right k hj)
  refine ⟨z, bd_mono hz ?_, ?_⟩
  · rw [Nat.mul_assoc, Nat.mul_comm j k]; omega
  · rw [hs j hj, ← ez, ← Int.pow_mul, Nat.mul_comm k j]
end RR
namespace RR
open PySem PySem.Spec PyProof.Rows L2
open DK (Nw Ew sm)
structure Tl (N : Nat) (D : Int) (R : Rat → Rat) (F : List Int) : Prop where
  dn : done F
  ln : F.length = N + 1
  gc : gcdL F = 1
  ps : 0 < F.getD N 0
  hb : ∀ x ∈ F, bd 3500 x
  at_ : ∀ t, R t * ((F.getD N 0 : Int) : Rat) = (D : Rat) * sm (N + 1) (fun i => ((F.getD i 0 : Int) : Rat) * t ^ i)
theorem Tl.of {N : Nat} {D : Int} {R : Rat → Rat} {F : List Int} {e : Nat → Rat} (T : DK.Told N D R e) (h1 : done F) (h2 : F.length = N + 1) (h3 : gcdL F = 1) (h4 : 0 < F.getD N 0) (h5 : ∀ i, i ≤ N → ((F.getD i 0 : Int) : Rat) = ((F.getD N 0 : Int) : Rat) * e (N - i)) (h6 : ∀ x ∈ F, bd 3500 x) : Tl N D R F where
  dn := h1
  ln := h2
  gc := h3
  ps := h4
  hb := h6
  at_ := fun t => by
    rw [T.at_, DK.sm_cong (N + 1) (f := fun i => ((F.getD i 0 : Int) : Rat) * t ^ i) (g := fun i => ((F.getD N 0 : Int) : Rat) * (e (N - i) * t ^ i)) fun i hi => by rw [h5 i (by omega)]; grind, DK.sm_mulc]
    grind
theorem wy_zip (k : Nat) : List.zipWith (fun x y : Int => x + y) ([0] ++ wy k) (wy k ++ [0]) = wy (k + 1) := by
  show _ = ((0 :: wy k).zip (wy k ++ [0])).map fun x => x.1 + x.2
  rw [List.zip, List.map_zipWith]; rfl
theorem bd_len {xs : List Int} (h : xs.length ≤ 1000) : bd 11 ((xs.length : Int) - 1) := by unfold bd; omega
theorem zipD_map {α : Type} (f g : α → D) : ∀ l : List α, zipD (l.map f) (l.map g) = l.map fun k => D.tup [f k, g k]
  | [] => by simp [zipD]
  | a :: l => by
    show D.tup [f a, g a] :: zipD (l.map f) (l.map g) = _
    rw [zipD_map f g l]; rfl
def b_composing_row_of_sums {M : Type} : DS M :=
    (dThen (dSet 2 (dBin gMul (dCall s_rows_degree [] (dCons (dVar 0) dNil)) (dCall s_rows_degree [] (dCons (dVar 1) dNil))))
    (dThen (dDrop (dCall s_composing_need_degree [] (dCons (dVar 2) dNil)))
    (dThen (dSet 3 (dCall s_composing_root_sums [] (dCons (dVar 0) (dCons (dVar 2) dNil))))
    (dThen (dSet 4 (dCall s_composing_root_sums [] (dCons (dVar 1) (dCons (dVar 2) dNil))))
    (dThen (dSetO 5 (dLst dNil))
    (dThen (dSet 6 (dLst (dCons (dC (.int 1)) dNil)))
    (dThen (dFor (dRng1 (dCons (dBin gAdd (dVar 2) (dC (.int 1))) dNil)) (dgN 7)
      (dThen (dSet 8 (dCall s_fractions_fraction [.int 1] (dCons (dC (.int 0)) dNil)))
    (dThen (dFor (dRng1 (dCons (dBin gAdd (dVar 7) (dC (.int 1))) dNil)) (dgN 9)
      (dSet 8 (dCall s_fractions_plus [] (dCons (dVar 8) (dCons (dCall s_fractions_times [] (dCons (dCall s_fractions_fraction [.int 1] (dCons (dBin (gIx false) (dVar 6) (dVar 9)) dNil)) (dCons (dCall s_fractions_times [] (dCons (dBin (gIx false) (dVar 3) (dVar 9)) (dCons (dBin (gIx false) (dVar 4) (dBin (g0 fun i j => .int (i - j)) (dVar 7) (dVar 9))) dNil))) dNil))) dNil)))))
    (dThen (dApp 5 (dVar 8))
    (dSet 6 (dLc (dZip false (dBin gAdd (dLst (dCons (dC (.int 0)) dNil)) (dVar 6)) (dBin gAdd (dVar 6) (dLst (dCons (dC (.int 0)) dNil)))) (dgT 2 (dgCons (dgN 10) (dgCons (dgN 11) dgNil))) dYes (dBin gAdd (dVar 10) (dVar 11)) [10, 11]))))))
    (dRet (dCall s_composing_row_by [] (dCons (dOwn 5) dNil))))))))))
def s_composing_row_of_sums {M : Type} : DSp M := fun ds m Q Z => ∃ xs ys : List Int, ds = [.tup (zz xs), .tup (zz ys)] ∧ xs.length ≤ 1000 ∧ ys.length ≤ 1000 ∧ ((16 < ((xs.length : Int) - 1) * ((ys.length : Int) - 1) ∧ Z "TooGreat" m) ∨
  ∃ (r n : Nat) (a b : Int), Gd xs r a ∧ Gd ys n b ∧ r * n ≤ 16 ∧ ∀ F, Tl (r * n) (a ^ n * b ^ r) (fun t => DK.Rs (DK.qi (ser xs)) r (DK.turn n (DK.qi (ser ys)) t) n) F → Q (.tup (zz F)) m)
theorem vc_composing_row_of_sums {M : Type} : ∀ ds (m : M) Q Z, s_composing_row_of_sums ds m Q Z → okK [false, false] ds ∧ b_composing_row_of_sums { nx := fun _ m' => Q .non m', rt := Q, ex := Z } (st0 [false, false] ds 12) m := by
  rintro ds m Q Z ⟨xs, ys, rfl, lx, ly, h⟩
  refine ⟨⟨fun _ => nl_row xs, fun _ => nl_row ys, trivial⟩, ?_⟩
  unfold b_composing_row_of_sums
  have bx := bd_len lx
  have by' := bd_len ly
  repeat walk_at "s"
  refine ⟨xs, rfl, by omega, ?_⟩
  repeat walk_at "s"
  refine ⟨ys, rfl, by omega, ?_⟩
  repeat walk_at "s"
  refine ⟨_, rfl, fun h16 => ?_, fun h16 => ?_⟩
  · rcases h with ⟨_, z⟩ | ⟨r, n, a, b, gx, gy, rn, _⟩
    · exact z
    · exfalso
      have e : ((xs.length : Int) - 1) * ((ys.length : Int) - 1) = ((r * n : Nat) : Int) := by
        rw [gx.ln, gy.ln, Int.natCast_mul]; congr 1 <;> omega
      omega
  rcases h with ⟨z, _⟩ | ⟨r, n, a, b, gx, gy, rn, q⟩
  · exact absurd h16 (by omega)
  have er := gx.ln
  have en := gy.ln
  have r1 := gx.m1
  have n1 := gy.m1
  have r4 := gx.m4
  have n4 := gy.m4
  have rn1 : 1 ≤ r * n := Nat.mul_pos r1 n1
  rw [show ((xs.length : Int) - 1) * ((ys.length : Int) - 1) = ((r * n : Nat) : Int) by rw [er, en, Int.natCast_mul]; congr 1 <;> omega]
  have la : ∀ {xs : List Int} {r : Nat} {a : Int}, Gd xs r a → xs.getD (xs.length - 1) 0 ≠ 0 := fun g => by rw [g.ln, Nat.add_sub_cancel, g.la]; exact g.a0
  repeat walk_at "s"
  refine ⟨xs, r * n, rfl, by omega, by omega, by omega, la gx, gx.hb, fun p hp => ?_⟩
  rw [er, Nat.add_sub_cancel] at hp
  repeat walk_at "s"
  refine ⟨ys, r * n, rfl, by omega, by omega, by omega, la gy, gy.hb, fun u hu => ?_⟩
  rw [en, Nat.add_sub_cancel] at hu
  obtain ⟨e, he⟩ := Ew.ex (fun k => DK.bs k p u) (r * n)
  have ok := sums_ok gx gy rn hp hu (s := fun k => DK.bs k p u) (fun k _ => rfl) he
  repeat walk_at "s"
  refine v_kO (by rfl) ?_
  repeat walk_at "s"
  rw [show ((r * n : Nat) : Int) + 1 = ((r * n + 1 : Nat) : Int) by omega]
  refine v_kR1 (by omega) (by omega) ?_
  rw [Int.toNat_natCast]
  refine v_kforR (r * n + 1) (fun k ρ m' => m = m' ∧ ∃ (a7 a8 a9 a10 a11 : Sl), ρ = [.val (.tup (zz xs)), .val (.tup (zz ys)), .val (.int ((r * n : Nat) : Int)), .val (.lst ((List.range (r * n + 1)).map fun k => pq (p k))), .val (.lst ((List.range (r * n + 1)).map fun k => pq (u k))), .own ((List.range k).map fun k => pq (DK.bs k p u)), .val (.lst (zz (wy k))), a7, a8, a9, a10, a11]) ?_ (fun ρ m' H => ?_) fun k ρ m' hk H => ?_
  · exact ⟨rfl, _, _, _, _, _, by with_unfolding_all rfl⟩
  · obtain ⟨rfl, a7, a8, a9, a10, a11, rfl⟩ := H
    repeat walk_at "s"
    refine ⟨r * n, 140, 134, a * b, a ^ n * b ^ r, _, e, rfl, ok.1, fun F f1 f2 f3 f4 f5 f6 => ?_⟩
    exact q F (.of ok.2 f1 f2 f3 f4 f5 f6)
  obtain ⟨rfl, a7, a8, a9, a10, a11, rfl⟩ := H
  rw [Int.zero_add]
  have k16 : k ≤ 16 := by omega
  repeat walk_at "s"
  refine ⟨0, 1, rfl, fun z => absurd z (by decide), fun _ => ⟨.inl (bd_lit (by decide)), ?_⟩⟩
  rw [pq_int]
  repeat walk_at "s"
  rw [show (k : Int) + 1 = ((k + 1 : Nat) : Int) by omega]
  refine v_kR1 (by omega) (by omega) ?_
  rw [Int.toNat_natCast]
  refine v_kforR (k + 1) (fun j ρ m' => m = m' ∧ ∃ (a9 : Sl), ρ = [.val (.tup (zz xs)), .val (.tup (zz ys)), .val (.int ((r * n : Nat) : Int)), .val (.lst ((List.range (r * n + 1)).map fun k => pq (p k))), .val (.lst ((List.range (r * n + 1)).map fun k => pq (u k))), .own ((List.range k).map fun k => pq (DK.bs k p u)), .val (.lst (zz (wy k))), .val (.int (k : Int)), .val (pq (sm j (fun i => (((wy k).getD i 0 : Int) : Rat) * (p i * u (k - i))))), a9, a10, a11]) ?_ (fun ρ m' H => ?_) fun j ρ m' hj H => ?_
  · exact ⟨rfl, a9, by with_unfolding_all rfl⟩
  · obtain ⟨rfl, a9, rfl⟩ := H
    rw [wy_bs]
    repeat walk_at "s"
    refine ⟨rfl, small_line (by simp; omega), ?_⟩
    repeat walk_at "s"
    have l := wy_len k
    refine v_addlz (xs := [0]) (ys := wy k) (by simp; omega) ?_
    repeat walk_at "s"
    refine v_addlz (xs := wy k) (ys := [0]) (by simp; omega) ?_
    repeat walk_at "s"
    refine lc_zip (f := fun x y => x + y) (fun x _ y _ m k l hk => ?_) (by simp; omega) ?_
    · repeat walk_at "s"
      exact hk
    rw [wy_zip]
    refine ⟨rfl, .val (.int (k : Int)), .val (pq (DK.bs k p u)), a9, a10, a11, ?_⟩
    rw [List.range_succ (n := k), List.map_append]
    with_unfolding_all rfl
  · obtain ⟨rfl, a9, rfl⟩ := H
    rw [Int.zero_add]
    have l := wy_len k
    have wb := wy_bd k j
    have ww : bd 17 ((wy k).getD j 0) := by
      unfold bd
      exact Nat.lt_of_le_of_lt wb (Nat.pow_lt_pow_right (by decide) (by omega))
    have x1 := ways_b gx gy hp hu (k := k) (j := j) (by omega) k16 (by omega)
    have x2 := ways_x gx gy hp hu (k := k) (j := j) (by omega) k16 (by omega)
    have x3 := prd_b gx gy hp hu (i := j) (j := k - j) (by omega) (by omega) (by omega)
    have x4 := gx.pb hp (k := j) (by omega) (by omega)
    have x5 := gy.pb hu (k := k - j) (by omega) (by omega)
    repeat walk_at "s"
    refine v_ixl (by omega) (by omega) ?_
    rw [show nth (wy k) (j : Int) = (wy k).getD j 0 from rfl]
    repeat walk_at "s"
    refine ⟨_, 1, rfl, fun z => absurd z (by decide), fun _ => ⟨.inl (bd_lit (by decide)), ?_⟩⟩
    rw [pq_int]
    repeat walk_at "s"
    refine v_ix60 (by omega) rfl ?_
    repeat walk_at "s"
    rw [show (k : Int) - (j : Int) = ((k - j : Nat) : Int) by omega]
    refine v_ix60 (by omega) rfl ?_
    repeat walk_at "s"
    refine ⟨_, _, 1123, 1073, 1123, 1073, rfl, x4.1, x4.2, x5.1, x5.2, by decide, by decide, ?_⟩
    repeat walk_at "s"
    refine ⟨_, _, 17, 1, 1126, 1073, rfl, ww, (by show bd 1 ((1 : Nat) : Int); exact bd_lit (by decide)), x3.1, x3.2, by decide, by decide, ?_⟩
    repeat walk_at "s"
    refine ⟨_, _, 2230, 2145, 2231, 2145, rfl, x1.1, x1.2, x2.1, x2.2, by decide, by decide, ?_⟩
    exact ⟨rfl, .val (.int (j : Int)), by with_unfolding_all rfl⟩
def b_composing_row_of_products {M : Type} : DS M :=
    (dThen (dSet 2 (dBin gMul (dCall s_rows_degree [] (dCons (dVar 0) dNil)) (dCall s_rows_degree [] (dCons (dVar 1) dNil))))
    (dThen (dDrop (dCall s_composing_need_degree [] (dCons (dVar 2) dNil)))
    (dRet (dCall s_composing_row_by [] (dCons (dLc (dZip false (dCall s_composing_root_sums [] (dCons (dVar 0) (dCons (dVar 2) dNil))) (dCall s_composing_root_sums [] (dCons (dVar 1) (dCons (dVar 2) dNil)))) (dgT 2 (dgCons (dgN 3) (dgCons (dgN 4) dgNil))) dYes (dCall s_fractions_times [] (dCons (dVar 3) (dCons (dVar 4) dNil))) [3, 4]) dNil)))))
def s_composing_row_of_products {M : Type} : DSp M := fun ds m Q Z => ∃ xs ys : List Int, ds = [.tup (zz xs), .tup (zz ys)] ∧ xs.length ≤ 1000 ∧ ys.length ≤ 1000 ∧ ((16 < ((xs.length : Int) - 1) * ((ys.length : Int) - 1) ∧ Z "TooGreat" m) ∨
  ∃ (r n : Nat) (a b : Int), Gd xs r a ∧ Gd ys n b ∧ r * n ≤ 16 ∧ ∀ F, Tl (r * n) (a ^ n * b ^ r) (fun t => DK.Rs (DK.qi (ser xs)) r (DK.wide n (DK.qi (ser ys)) t) n) F → Q (.tup (zz F)) m)
theorem vc_composing_row_of_products {M : Type} : ∀ ds (m : M) Q Z, s_composing_row_of_products ds m Q Z → okK [false, false] ds ∧ b_composing_row_of_products { nx := fun _ m' => Q .non m', rt := Q, ex := Z } (st0 [false, false] ds 5) m := by
  rintro ds m Q Z ⟨xs, ys, rfl, lx, ly, h⟩
  refine ⟨⟨fun _ => nl_row xs, fun _ => nl_row ys, trivial⟩, ?_⟩
  unfold b_composing_row_of_products
  have bx := bd_len lx
  have by' := bd_len ly
  repeat walk_at "s"
  refine ⟨xs, rfl, by omega, ?_⟩
  repeat walk_at "s"
  refine ⟨ys, rfl, by omega, ?_⟩
  repeat walk_at "s"
  refine ⟨_, rfl, fun h16 => ?_, fun h16 => ?_⟩
  · rcases h with ⟨_, z⟩ | ⟨r, n, a, b, gx, gy, rn, _⟩
    · exact z
    · exfalso
      have e : ((xs.length : Int) - 1) * ((ys.length : Int) - 1) = ((r * n : Nat) : Int) := by
        rw [gx.ln, gy.ln, Int.natCast_mul]; congr 1 <;> omega
      omega
  rcases h with ⟨z, _⟩ | ⟨r, n, a, b, gx, gy, rn, q⟩
  · exact absurd h16 (by omega)
  have er := gx.ln
  have en := gy.ln
  have r1 := gx.m1
  have n1 := gy.m1
  have r4 := gx.m4
  have n4 := gy.m4
  have rn1 : 1 ≤ r * n := Nat.mul_pos r1 n1
  rw [show ((xs.length : Int) - 1) * ((ys.length : Int) - 1) = ((r * n : Nat) : Int) by rw [er, en, Int.natCast_mul]; congr 1 <;> omega]
  have la : ∀ {xs : List Int} {r : Nat} {a : Int}, Gd xs r a → xs.getD (xs.length - 1) 0 ≠ 0 := fun g => by rw [g.ln, Nat.add_sub_cancel, g.la]; exact g.a0
  repeat walk_at "s"
  refine ⟨xs, r * n, rfl, by omega, by omega, by omega, la gx, gx.hb, fun p hp => ?_⟩
  rw [er, Nat.add_sub_cancel] at hp
  repeat walk_at "s"
  refine ⟨ys, r * n, rfl, by omega, by omega, by omega, la gy, gy.hb, fun u hu => ?_⟩
  rw [en, Nat.add_sub_cancel] at hu
  obtain ⟨e, he⟩ := Ew.ex (fun k => p k * u k) (r * n)
  have ok := prds_ok gx gy rn hp hu (s := fun k => p k * u k) (fun k _ => rfl) he
  repeat walk_at "s"
  refine v_kZL (fun z => nomatch z) ?_
  rw [zipD_map]
  refine lcGo_map (inj := fun k => D.tup [pq (p k), pq (u k)]) (h := fun k => pq (p k * u k)) (List.range (r * n + 1)) (fun k hk m1 K l hK => ?_) (small_line (by simp; omega)) ?_
  · have hk : k ≤ r * n := by have := List.mem_range.mp hk; omega
    have x4 := gx.pb hp (k := k) hk (by omega)
    have x5 := gy.pb hu (k := k) hk (by omega)
    repeat walk_at "s"
    refine ⟨_, _, 1123, 1073, 1123, 1073, rfl, x4.1, x4.2, x5.1, x5.2, by decide, by decide, ?_⟩
    exact hK
  repeat walk_at "s"
  refine ⟨r * n, 140, 134, a * b, a ^ n * b ^ r, _, e, rfl, ok.1, fun F f1 f2 f3 f4 f5 f6 => ?_⟩
  exact q F (.of ok.2 f1 f2 f3 f4 f5 f6)
def b_composing_row_of_powers {M : Type} : DS M :=
    (dThen (dSet 2 (dCall s_rows_degree [] (dCons (dVar 0) dNil)))
    (dThen (dDrop (dCall s_composing_need_degree [] (dCons (dVar 2) dNil)))
    (dRet (dCall s_composing_row_by [] (dCons (dStpL (dCall s_composing_root_sums [] (dCons (dVar 0) (dCons (dBin gMul (dVar 2) (dVar 1)) dNil))) (dVar 1)) dNil)))))
theorem stepL_range {α : Type} (f : Nat → α) (m k : Nat) (hk : 1 ≤ k) : stepL k ((List.range (m * k + 1)).map f) = (List.range (m + 1)).map fun j => f (j * k) := by
  unfold stepL
  rw [List.length_map, List.length_range, if_neg (by omega), Nat.add_sub_cancel, Nat.mul_div_cancel m (by omega)]
  have : ∀ l : List Nat, (∀ j ∈ l, j ≤ m) → l.filterMap (fun j => ((List.range (m * k + 1)).map f)[j * k]?) = l.map fun j => f (j * k) := by
    intro l
    induction l with
    | nil => intro _; rfl
    | cons j l ih =>
      intro h
      have hj : j * k ≤ m * k := Nat.mul_le_mul_right k (h j (List.mem_cons_self ..))
      rw [List.filterMap_cons, List.getElem?_map, List.getElem?_range (by omega)]
      show f (j * k) :: _ = _
      rw [ih fun j hj => h j (List.mem_cons_of_mem _ hj)]; rfl
  exact this _ fun j hj => by have := List.mem_range.mp hj; omega
def s_composing_row_of_powers {M : Type} : DSp M := fun ds m Q Z => ∃ (xs : List Int) (k : Nat), ds = [.tup (zz xs), .int k] ∧ xs.length ≤ 1000 ∧ ((17 < xs.length ∧ Z "TooGreat" m) ∨
  ∃ (r : Nat) (a : Int), Gd xs r a ∧ 1 ≤ k ∧ k ≤ 8 ∧ ∀ F, Tl r (a ^ k) (fun t => DK.Rs (DK.qi (ser xs)) r (DK.mono k t) k) F → Q (.tup (zz F)) m)
theorem vc_composing_row_of_powers {M : Type} : ∀ ds (m : M) Q Z, s_composing_row_of_powers ds m Q Z → okK [false, false] ds ∧ b_composing_row_of_powers { nx := fun _ m' => Q .non m', rt := Q, ex := Z } (st0 [false, false] ds 3) m := by
  rintro ds m Q Z ⟨xs, k, rfl, lx, h⟩
  refine ⟨⟨fun _ => nl_row xs, fun _ => rfl, trivial⟩, ?_⟩
  unfold b_composing_row_of_powers
  repeat walk_at "s"
  refine ⟨xs, rfl, by omega, ?_⟩
  repeat walk_at "s"
  refine ⟨_, rfl, fun h16 => ?_, fun h16 => ?_⟩
  · rcases h with ⟨_, z⟩ | ⟨r, a, gx, k1, k8, _⟩
    · exact z
    · exfalso
      have := gx.ln
      have := gx.m4
      omega
  rcases h with ⟨z, _⟩ | ⟨r, a, gx, k1, k8, q⟩
  · exact absurd h16 (by omega)
  have er := gx.ln
  have r1 := gx.m1
  have r4 := gx.m4
  have rk : r * k ≤ 32 := Nat.mul_le_mul r4 k8
  have bx : bd 11 ((xs.length : Int) - 1) := bd_len lx
  have bk : bd 5 (k : Int) := by unfold bd; omega
  have la : xs.getD (xs.length - 1) 0 ≠ 0 := by rw [er, Nat.add_sub_cancel, gx.la]; exact gx.a0
  repeat walk_at "s"
  refine v_stpL ?_
  repeat walk_at "s"
  rw [show ((xs.length : Int) - 1) * (k : Int) = ((r * k : Nat) : Int) by rw [er, Int.natCast_mul]; congr 1; omega]
  refine ⟨xs, r * k, rfl, by omega, by omega, by omega, la, gx.hb, fun p hp => ?_⟩
  rw [er, Nat.add_sub_cancel] at hp
  obtain ⟨e, he⟩ := Ew.ex (fun j => p (j * k)) r
  have ok := pows_ok gx k1 k8 hp (s := fun j => p (j * k)) (fun j _ => rfl) he
  repeat walk_at "s"
  refine v_kStpL (nls_all.mpr fun d hd => by obtain ⟨j, _, rfl⟩ := List.mem_map.mp hd; rfl) k1 ?_
  rw [stepL_range _ _ _ k1]
  repeat walk_at "s"
  refine ⟨r, 70 * k, 67 * k, a ^ k, a ^ k, _, e, rfl, ok.1, fun F f1 f2 f3 f4 f5 f6 => ?_⟩
  exact q F (.of ok.2 f1 f2 f3 f4 f5 f6)
end RR
namespace RR
open PySem PySem.Spec PyProof.Rows L2
section
variable {M : Type} {Q : D → M → Prop} {Z : Str → M → Prop} {m : M} {ρ : En} {t u w : DT M}
end
def Pr (n : Int) : Prop := 2 ≤ n ∧ ∀ k : Int, 2 ≤ k → k * k ≤ n → n.fmod k ≠ 0
theorem sq_lt {i k n : Int} (hi : 0 ≤ k) (h : i * i ≤ n) (h2 : n < k * k) : i < k := by
  refine Int.not_le.mp fun z => ?_
  have := Int.mul_le_mul z z hi (by omega)
  omega
end RR
namespace RR
open PySem PySem.Spec PyProof.Rows L2
theorem trial {n : Int} (h1 : 1 < n) (hn : n ≤ 9999) : (∀ k : Int, 2 ≤ k → k ≤ 100 → k < n → n.fmod k ≠ 0) ↔ Pr n := by
  constructor
  · intro h
    refine ⟨by omega, fun k k2 kn => ?_⟩
    have : k < 100 := sq_lt (n := n) (by decide) kn (by omega)
    refine h k k2 (by omega) ?_
    have : 2 * k ≤ k * k := Int.mul_le_mul_of_nonneg_right k2 (by omega)
    omega
  · intro ⟨_, h⟩ k k2 k100 kn e
    have e2 := Int.mul_fdiv_add_fmod n k
    rw [e, Int.add_zero] at e2
    obtain ⟨j, hj⟩ : ∃ j, j = n.fdiv k := ⟨_, rfl⟩
    rw [← hj] at e2
    have j2 : 2 ≤ j := by
      refine Int.not_lt.mp fun z => ?_
      have : k * j ≤ k * 1 := Int.mul_le_mul_of_nonneg_left (by omega) (by omega)
      omega
    by_cases z : k ≤ j
    · refine h k k2 ?_ e
      have : k * k ≤ k * j := Int.mul_le_mul_of_nonneg_left z (by omega)
      omega
    · refine h j j2 ?_ ?_
      · have : j * j ≤ k * j := Int.mul_le_mul_of_nonneg_right (by omega) (by omega)
        omega
      · rw [← e2, Int.mul_fmod_left]
end RR
namespace RR
open PySem PySem.Spec PyProof.Rows L2
open Lean.Grind (CommRing IsCharP)
abbrev Kp (q : Nat) := Fin (q + 1)
section
variable {q : Nat}
def zc (z : Int) : Kp q := (Lean.Grind.Ring.intCast (α := Kp q)).intCast z
theorem zc_zero : (zc 0 : Kp q) = 0 := Lean.Grind.Ring.intCast_zero
theorem zc_ext {a b : Int} : (zc a : Kp q) = zc b ↔ a % ((q + 1 : Nat) : Int) = b % ((q + 1 : Nat) : Int) := IsCharP.intCast_ext_iff (q + 1)
theorem zc_inj {a b : Int} (ha : 0 ≤ a ∧ a < ((q + 1 : Nat) : Int)) (hb : 0 ≤ b ∧ b < ((q + 1 : Nat) : Int)) (h : (zc a : Kp q) = zc b) : a = b := by
  rw [zc_ext, Int.emod_eq_of_lt ha.1 ha.2, Int.emod_eq_of_lt hb.1 hb.2] at h
  exact h
def zs (f : Ser Int) : Ser (Kp q) := ⟨fun k => zc (f.co k)⟩
theorem zs_co (f : Ser Int) (k : Nat) : (zs f : Ser (Kp q)).co k = zc (f.co k) := rfl
theorem zs_zero : (zs 0 : Ser (Kp q)) = 0 := Ser.ext fun k => by rw [zs_co, zero_co, zero_co]; exact zc_zero
def rg (q : Nat) (x : Int) : Prop := 0 ≤ x ∧ x < ((q + 1 : Nat) : Int)
structure Mo (f : Ser (Kp q)) (r : List Int) : Prop where
  dn : done r
  lt : ∀ x ∈ r, rg q x
  eq : zs (ser r) = f
theorem rg0 : rg q 0 := ⟨by omega, by omega⟩
theorem rg_get {r : List Int} (h : ∀ x ∈ r, rg q x) (k : Nat) : rg q (r.getD k 0) := by
  rw [List.getD_eq_getElem?_getD]
  by_cases hk : k < r.length
  · rw [List.getElem?_eq_getElem hk]; exact h _ (List.getElem_mem hk)
  · rw [List.getElem?_eq_none (by omega)]; exact rg0
theorem Mo.get {f : Ser (Kp q)} {r : List Int} (h : Mo f r) (k : Nat) : zc (r.getD k 0) = f.co k := by rw [← h.eq]; rfl
theorem Mo.uniq {f : Ser (Kp q)} {r r' : List Int} (h : Mo f r) (h' : Mo f r') : r = r' := done_uniq h.dn h'.dn (Ser.ext fun k => zc_inj (rg_get h.lt k) (rg_get h'.lt k) ((h.get k).trans (h'.get k).symm))
theorem Mo.inj {f g : Ser (Kp q)} {r : List Int} (h : Mo f r) (h' : Mo g r) : f = g := h.eq.symm.trans h'.eq
theorem Mo.cong {f g : Ser (Kp q)} {r : List Int} (h : Mo f r) (e : f = g) : Mo g r := e ▸ h
theorem Mo.nil : Mo (0 : Ser (Kp q)) [] := ⟨rfl, fun _ h => (nomatch h), by rw [ser_nil, zs_zero]⟩
theorem Mo.far {f : Ser (Kp q)} {r : List Int} (h : Mo f r) : RR.far r.length f := fun k hk => by rw [← h.get, getD_far hk, zc_zero]
theorem Mo.last {f : Ser (Kp q)} {r : List Int} (h : Mo f r) (n : r ≠ []) : f.co (r.length - 1) ≠ 0 := fun e => by
  rw [← h.get, ← zc_zero] at e
  exact done_last h.dn n (zc_inj (rg_get h.lt _) rg0 e)
theorem Mo.top {f : Ser (Kp q)} {r : List Int} (h : Mo f r) (n : r ≠ []) : RR.top (r.length - 1) f := ⟨by
  have := List.length_pos_iff.mpr n
  rw [show r.length - 1 + 1 = r.length by omega]
  exact h.far, h.last n⟩
theorem Mo.of {f : Ser (Kp q)} {xs : List Int} {r : List Int} (h : R (ser xs) r) (l : ∀ x ∈ xs, rg q x) (e : zs (ser xs) = f) : Mo f r := by
  obtain rfl : r = strip xs := h.uniq (R.of rfl)
  exact ⟨strip_done xs, fun x hx => l x (strip_mem hx), by rw [ser_strip]; exact e⟩
end
end RR
namespace RR
open PySem PySem.Spec PyProof.Rows L2
end RR
namespace RR
open PySem PySem.Spec PyProof.Rows L2
end RR
namespace RR
open PySem PySem.Spec PyProof.Rows L2
section
variable {M : Type} {ρ : En} {QL : List D → M → Prop} {tt : DTT M} {t : DT M} {m : M}
end
end RR
namespace RR
open PySem PySem.Spec PyProof.Rows L2
local macro_rules | `(tactic| walk_at "s") => `(tactic| with_reducible refine v_kIE1 ?_)
inductive Sd (k : Nat) : Nat → Nat → Prop
  | done {n : Nat} : ¬ k ∣ n → Sd k n n
  | step {n n' : Nat} : k ∣ n → Sd k (n / k) n' → Sd k n n'
theorem Sd.uniq {k n a : Nat} (h : Sd k n a) : ∀ {b : Nat}, Sd k n b → a = b := by
  induction h with
  | done h0 => intro b h'; cases h' with
    | done _ => rfl
    | step h1 _ => exact absurd h1 h0
  | step h0 _ ih => intro b h'; cases h' with
    | done h1 => exact absurd h0 h1
    | step _ h2 => exact ih h2
inductive PF : Nat → Nat → List Int → Prop
  | small {k n : Nat} : n < k * k → PF k n (if 1 < n then [(n : Int)] else [])
  | no {k n : Nat} {xs : List Int} : k * k ≤ n → ¬ k ∣ n → PF (k + 1) n xs → PF k n xs
  | yes {k n n' : Nat} {xs : List Int} : k * k ≤ n → k ∣ n → Sd k n n' → PF (k + 1) n' xs → PF k n ((k : Int) :: xs)
theorem PF.uniq {k n : Nat} {xs : List Int} (h : PF k n xs) : ∀ {ys : List Int}, PF k n ys → xs = ys := by
  induction h with
  | small h0 => intro ys h'; cases h' with
    | small _ => rfl
    | no h1 _ _ => omega
    | yes h1 _ _ _ => omega
  | no h0 h1 _ ih => intro ys h'; cases h' with
    | small h2 => omega
    | no _ _ h2 => exact ih h2
    | yes _ h2 _ _ => exact absurd h2 h1
  | yes h0 h1 s _ ih => intro ys h'; cases h' with
    | small h2 => omega
    | no _ h2 _ => exact absurd h1 h2
    | yes _ _ s2 h2 => rw [s.uniq s2] at ih; rw [ih h2]
end RR
namespace RR
open PySem PySem.Spec PyProof.Rows L2
section
variable {K : Type} [Lean.Grind.CommRing K]
inductive Join : Ser K → Ser K → Ser K → Ser K → Ser K → Ser K → Ser K → Ser K → Ser K → Prop
  | stop {a s0 t0 s1 t1 : Ser K} : Join a 0 s0 t0 s1 t1 a s0 t0
  | step {a b s0 t0 s1 t1 u r g s t : Ser K} {n N : Nat} : top n b → far n r → far N u → a = u * b + r → Join b r s1 t1 (s0 - u * s1) (t0 - u * t1) g s t → Join a b s0 t0 s1 t1 g s t
theorem Join.uniq (D : Dom K) {a b s0 t0 s1 t1 g s t : Ser K} (h : Join a b s0 t0 s1 t1 g s t) : ∀ {g' s' t' : Ser K}, Join a b s0 t0 s1 t1 g' s' t' → g = g' ∧ s = s' ∧ t = t' := by
  induction h with
  | stop => intro g' s' t' h'; cases h' with
    | stop => exact ⟨rfl, rfl, rfl⟩
    | step h1 _ _ _ _ => exact absurd rfl (top_ne h1)
  | @step a b s0 t0 s1 t1 u r g s t n N h1 h2 h3 h4 _ ih => intro g' s' t' h'; cases h' with
    | stop => exact absurd rfl (top_ne h1)
    | @step _ _ _ _ _ _ u' r' _ _ _ n' N' k1 k2 k3 k4 k5 =>
      obtain rfl := top_uniq h1 k1
      obtain ⟨rfl, rfl⟩ := div_uniq D h1 (far_mono h3 (Nat.le_max_left N N')) (far_mono k3 (Nat.le_max_right N N')) h2 k2 (h4.symm.trans k4)
      exact ih k5
theorem Join.good {a b s0 t0 s1 t1 g s t : Ser K} (h : Join a b s0 t0 s1 t1 g s t) : ∀ A B : Ser K, a = s0 * A + t0 * B → b = s1 * A + t1 * B → g = s * A + t * B ∧ ∃ x y N, far N x ∧ far N y ∧ a = x * g ∧ b = y * g := by
  induction h with
  | @stop a s0 t0 s1 t1 =>
    intro A B h1 h2
    exact ⟨h1, 1, 0, 1, far_one, far_zero, by grind, by grind⟩
  | @step a b s0 t0 s1 t1 u r g s t n N h1 h2 h3 h4 _ ih =>
    intro A B e1 e2
    obtain ⟨e3, x, y, N2, f1, f2, e4, e5⟩ := ih A B e2 (by rw [show r = a - u * b by rw [h4]; grind, e1, e2]; grind)
    refine ⟨e3, u * x + y, x, N + N2, ?_, far_mono f1 (by omega), by rw [h4, e5]; rw [e4]; grind, e4⟩
    exact far_add (far_mono (far_mul h3 f1) (by omega)) (far_mono f2 (by omega))
def Comm (f g G S T : Ser K) : Prop := (f = 0 ∧ g = 0 ∧ G = 0 ∧ S = 0 ∧ T = 0) ∨ ∃ (g0 s0 t0 : Ser K) (n : Nat) (u : K), Join f g 1 0 0 1 g0 s0 t0 ∧ top n g0 ∧ u * g0.co n = 1 ∧ G = Ser.C u * g0 ∧ S = Ser.C u * s0 ∧ T = Ser.C u * t0
theorem join_zero {g s t : Ser K} {s0 t0 s1 t1 : Ser K} (h : Join 0 0 s0 t0 s1 t1 g s t) : g = 0 := by
  cases h with
  | stop => rfl
  | step h1 _ _ _ _ => exact absurd rfl (top_ne h1)
theorem Comm.uniq (D : Dom K) {f g G S T G' S' T' : Ser K} (h : Comm f g G S T) (h' : Comm f g G' S' T') : G = G' ∧ S = S' ∧ T = T' := by
  rcases h with ⟨rfl, rfl, rfl, rfl, rfl⟩ | ⟨g0, s0, t0, n, u, j, t, e, rfl, rfl, rfl⟩ <;> rcases h' with ⟨h1, h2, h3, h4, h5⟩ | ⟨g1, s1, t1, n', u', j', t', e', rfl, rfl, rfl⟩
  · exact ⟨h3.symm, h4.symm, h5.symm⟩
  · exact absurd (join_zero j') (top_ne t')
  · subst h1 h2; exact absurd (join_zero j) (top_ne t)
  · obtain ⟨rfl, rfl, rfl⟩ := j.uniq D j'
    obtain rfl := top_uniq t t'
    obtain rfl : u = u' := by
      have : u * (u' * g0.co n) = u' := by rw [show u * (u' * g0.co n) = u' * (u * g0.co n) by grind, e]; grind
      rw [← this, e']; grind
    exact ⟨rfl, rfl, rfl⟩
theorem Comm.good {f g G S T : Ser K} (h : Comm f g G S T) : G = S * f + T * g ∧ ((f = 0 ∧ g = 0 ∧ G = 0) ∨ ((∃ n, top n G ∧ G.co n = 1) ∧ ∃ x y N, far N x ∧ far N y ∧ f = x * G ∧ g = y * G)) := by
  rcases h with ⟨rfl, rfl, rfl, rfl, rfl⟩ | ⟨g0, s0, t0, n, u, j, t, e, rfl, rfl, rfl⟩
  · exact ⟨by grind, .inl ⟨rfl, rfl, rfl⟩⟩
  · obtain ⟨e1, x, y, N, f1, f2, e2, e3⟩ := j.good f g (by grind) (by grind)
    have cu : Ser.C u * Ser.C (g0.co n) = 1 := by rw [← C_mul, e, C_one]
    have cn : (Ser.C u * g0).co n = 1 := by rw [Ser.C_mul_co]; exact e
    refine ⟨by rw [e1]; grind, .inr ⟨⟨n, ⟨far_scale t.1, fun z => ?_⟩, cn⟩, Ser.C (g0.co n) * x, Ser.C (g0.co n) * y, N, far_scale f1, far_scale f2, ?_, ?_⟩⟩
    · rw [cn] at z
      refine t.2 ?_
      rw [show g0.co n = 1 * g0.co n by grind, z]; grind
    · rw [e2]; rw [show Ser.C (g0.co n) * x * (Ser.C u * g0) = (Ser.C u * Ser.C (g0.co n)) * (x * g0) by grind, cu]; grind
    · rw [e3]; rw [show Ser.C (g0.co n) * y * (Ser.C u * g0) = (Ser.C u * Ser.C (g0.co n)) * (y * g0) by grind, cu]; grind
theorem monic_eq (D : Dom K) {G G' w w' : Ser K} {n n' N : Nat} (hG : top n G) (c : G.co n = 1) (hG' : top n' G') (c' : G'.co n' = 1) (fw : far N w) (fw' : far N w') (e : G' = w * G) (e' : G = w' * G') : G = G' := by
  have w0 : w ≠ 0 := fun z => top_ne hG' (by rw [e, z]; grind)
  have w0' : w' ≠ 0 := fun z => top_ne hG (by rw [e', z]; grind)
  obtain ⟨k, _, tk⟩ := top_of fw w0
  obtain ⟨k', _, tk'⟩ := top_of fw' w0'
  have t1 := top_mul D tk hG
  rw [← e] at t1
  have t2 := top_mul D tk' hG'
  rw [← e'] at t2
  have q1 := top_uniq t1 hG'
  have q2 := top_uniq t2 hG
  obtain rfl : k = 0 := by omega
  have wc : w = Ser.C (w.co 0) := Ser.ext fun j => by
    rw [Ser.C_co]
    split
    · rename_i h; rw [h]
    · exact tk.1 j (by omega)
  have : w.co 0 * G.co n = G'.co n := by rw [e, wc, Ser.C_mul_co, Ser.C_co, if_pos rfl]
  rw [show n = n' by omega] at this c
  rw [c, c'] at this
  rw [e, wc, show w.co 0 = 1 by rw [← this]; grind, C_one]; grind
theorem Comm.swap (D : Dom K) {f g G S T G' S' T' : Ser K} {N : Nat} (h : Comm f g G S T) (h' : Comm g f G' S' T') (fS : far N S) (fT : far N T) (fS' : far N S') (fT' : far N T') : G = G' := by
  obtain ⟨e, h⟩ := h.good
  obtain ⟨e', h'⟩ := h'.good
  rcases h with ⟨rfl, rfl, rfl⟩ | ⟨⟨n, t, c⟩, x, y, N1, f1, f2, e1, e2⟩
  · rw [e']; grind
  · rcases h' with ⟨rfl, rfl, rfl⟩ | ⟨⟨n', t', c'⟩, x', y', N2, f1', f2', e1', e2'⟩
    · rw [e]; grind
    · refine monic_eq D (w := S' * y + T' * x) (w' := S * y' + T * x') (N := N + N1 + N2) t c t' c' ?_ ?_ ?_ ?_
      · exact far_add (far_mono (far_mul fS' f2) (by omega)) (far_mono (far_mul fT' f1) (by omega))
      · exact far_add (far_mono (far_mul fS f2') (by omega)) (far_mono (far_mul fT f1') (by omega))
      · rw [show (S' * y + T' * x) * G = S' * (y * G) + T' * (x * G) by grind, ← e1, ← e2]; exact e'
      · rw [show (S * y' + T * x') * G' = S * (y' * G') + T * (x' * G') by grind, ← e1', ← e2']; exact e
end
end RR
namespace RR
open PySem PySem.Spec PyProof.Rows L2
end RR
namespace RR
open PySem PySem.Spec PyProof.Rows L2
theorem v_kIEh {M : Type} {Q : D → M → Prop} {m : M} {x : Str} {b : Bool} {r : List (Str × Bool)} (h : Q (.bl b) m) : kIE ((x, b) :: r) Q (.exc x) m := v_kIE (by unfold List.lookup; rw [beq_self_eq_true]) h
theorem v_kIE2 {M : Type} {Q : D → M → Prop} {m : M} {x y : Str} {b c : Bool} {r : List (Str × Bool)} (n : (y == x) = false) (h : Q (.bl c) m) : kIE ((x, b) :: (y, c) :: r) Q (.exc y) m := v_kIE (by unfold List.lookup; rw [n]; unfold List.lookup; rw [beq_self_eq_true]) h
local macro_rules | `(tactic| walk_at "s") => `(tactic| with_reducible first | refine v_kIEh ?_ | (refine v_kIE2 ?_ ?_; (· decide)))
def Cg {K : Type} [Lean.Grind.CommRing K] (g a b : Ser K) : Prop := ∃ (u : Ser K) (N : Nat), far N u ∧ a = u * g + b
section
variable {K : Type} [Lean.Grind.CommRing K] {g a b c d : Ser K}
theorem Cg.refl : Cg g a a := ⟨0, 0, far_zero, by grind⟩
theorem Cg.trans (h : Cg g a b) (h' : Cg g b c) : Cg g a c := by
  obtain ⟨u, N, fu, e⟩ := h
  obtain ⟨v, N', fv, e'⟩ := h'
  exact ⟨u + v, N + N', far_add (far_mono fu (by omega)) (far_mono fv (by omega)), by rw [e, e']; grind⟩
theorem Cg.mul {n k : Nat} (h : Cg g a b) (h' : Cg g c d) (fb : far n b) (fc : far k c) : Cg g (a * c) (b * d) := by
  obtain ⟨u, N, fu, e⟩ := h
  obtain ⟨v, N', fv, e'⟩ := h'
  exact ⟨u * c + b * v, N + k + n + N', far_add (far_mono (far_mul fu fc) (by omega)) (far_mono (far_mul fb fv) (by omega)), by
    rw [e, show (u * g + b) * c = u * g * c + b * c by grind]
    rw [show b * c = b * (v * g + d) by rw [← e']]; grind⟩
theorem far_pow {n : Nat} (h : far n a) : ∀ k : Nat, ∃ N, far N (a ^ k)
  | 0 => ⟨1, by rw [Lean.Grind.Semiring.pow_zero]; exact far_one⟩
  | k + 1 => by
    obtain ⟨N, hN⟩ := far_pow h k
    exact ⟨N + n, by rw [Lean.Grind.Semiring.pow_succ]; exact far_mono (far_mul hN h) (by omega)⟩
end
end RR
namespace RR
open PySem PySem.Spec PyProof.Rows L2
end RR
namespace RR
open PySem PySem.Spec PyProof.Rows L2
local macro_rules | `(tactic| walk_at "s") => `(tactic| with_reducible first | refine v_kIEh ?_ | (refine v_kIE2 ?_ ?_; (· decide)))
section
variable {M : Type} {ρ : En} {m : M} {Q : D → M → Prop} {Z : Str → M → Prop}
end
end RR
namespace RR
open PySem PySem.Spec PyProof.Rows L2
noncomputable def kv (H0 : Hp) (Pr : Addr → Prop) (H : Hp) : Hp := vw (fun a o => ¬ (IsL o ∧ ¬ Pr a ∧ H0 a = none)) H
theorem kv_le {H0 : Hp} {Pr : Addr → Prop} {H : Hp} {a : Addr} {o : HO} (h : kv H0 Pr H a = some o) : H a = some o := (vw_iff.mp h).1
theorem kv_none {H0 : Hp} {Pr : Addr → Prop} {H : Hp} {a : Addr} (h : kv H0 Pr H a = none) : H a = none ∨ ∃ o, H a = some o ∧ IsL o ∧ ¬ Pr a ∧ H0 a = none := by
  cases e : H a with
  | none => exact .inl rfl
  | some o =>
    refine .inr ⟨o, rfl, ?_⟩
    refine Classical.byContradiction fun n => ?_
    have := (vw_iff (p := fun a o => ¬ (IsL o ∧ ¬ Pr a ∧ H0 a = none)) (H := H) (a := a) (o := o)).mpr ⟨e, n⟩
    unfold kv at h
    rw [h] at this; cases this
def spK (K : PySem.W.Frag) (mg : Str → Option Value) (W : Wd) (sp : DSp W.M) : L2.Sp := fun vs H Q E => ∃ V F m ds Qd Zd, (∀ a o, V a = some o → H a = some o) ∧ W.Rz m F H ∧ DnA true K F (sv V (· ∈ F) H) vs ds ∧ sp ds m Qd Zd ∧
  (∀ v H' F' d m', W.Rz m' F' H' → (∃ G, F' = F ++ G) → (∀ a ∈ F', a ∉ F → H a = none) → (∀ a o, a ∉ F → H a = some o → H' a = some o) → Dn true K F' (sv V (· ∈ F') H') v d → Qd d m' → Q v H') ∧
  (∀ x cls H' F' m', mg x = some cls → W.Rz m' F' H' → (∃ G, F' = F ++ G) → (∀ a ∈ F', a ∉ F → H a = none) → (∀ a o, a ∉ F → H a = some o → H' a = some o) → Zd x m' → E cls none H')
def FDK (P : Program) (w : World) (K : PySem.W.Frag) (mg : Str → Option Value) (base : Heap) (W : Wd) (k : Nat) (x : Str) (sp : DSp W.M) : Prop :=
  ∃ f fd ps, FnG P w K mg base (L2.CX P w) k f fd ps (spK K mg W sp) ∧ mg x = some (.ref f) ∧ PySem.W.keepIn K (.ref f) = true ∧ Binds K fd ps []
section
variable {X : Cx} {C : Cn} {e : Expr} {es : List Expr} {pos : Pos}
theorem j_callK {x : Str} {k : Nat} {sp : DSp C.W.M} {ta : DTA C.W.M} {p : Pos} (h : FDK X.prog X.w X.K X.mg X.base C.W k x sp) (hr : RoomG k X.A) (tk : Takes X C.wx) (hg : Gl X x) (ha : JA .s X C (e :: es) ta)
    (hdb : (x == ("__debug__" : Str)) = false := by decide) (he : starEach (e :: es) X.env = (false, eval e X.env) :: starEach es X.env := by rfl) (hpl : (backTo pos (starEach es X.env)).any (·.1) = false := by rfl) :
    J .s X C (.Call (.Name x p) (e :: es) [] pos) (dCall sp [] ta) := by
  obtain ⟨f, fd, ps, G, hm, hk, hb⟩ := h
  obtain ⟨te, pa, q⟩ := ha
  refine ⟨_, pe_callG (E := fun σ cls d H' => C.wx cls d σ H') G hr hg hm hk hb .nil (fun σ => passAt tk σ) pa hdb he hpl, fun σ H Pr F ρ m Q Z R S E h k => ?_⟩
  refine q σ H Pr F ρ m _ Z _ S E h fun vs H1 ⟨P1, F1, m1, ds1, S1, t1, dv, z⟩ => ?_
  have dv : DnA true X.K F1 (sv C.H0 P1 H1) vs ds1 := dv
  have z : sp (ds1 ++ []) m1 Q Z := z
  rw [List.append_nil] at z
  have inn : ∀ a o, sv C.H0 P1 H1 a = some o → sv (kv C.H0 P1 H1) (· ∈ F1) H1 a = some o := fun a o h => by
    obtain ⟨e, q⟩ := vw_iff.mp h
    refine vw_iff.mpr ⟨e, q.imp id fun q => ⟨q.1, fun z => q.2.1 (S1.prf a z), ?_⟩⟩
    cases ev : kv C.H0 P1 H1 a with
    | none => rfl
    | some o' =>
      obtain ⟨e', n⟩ := vw_iff.mp ev
      rw [e] at e'; cases e'
      exact absurd q n
  refine ⟨kv C.H0 P1 H1, F1, m1, ds1, Q, Z, fun a o => kv_le, S1.rz, (by rw [List.append_nil]; exact dv.mono ⟨[], by simp⟩ inn), z, fun v H' F' d m' rz pre fr kp dn q => ?_, fun x cls H' F' m' hx rz pre fr kp z => ?_⟩
  · obtain ⟨S2, t2⟩ := S1.turned rz pre fr kp
    have up : ∀ a o, sv (kv C.H0 P1 H1) (· ∈ F') H' a = some o → sv C.H0 (fun a => P1 a ∨ a ∈ F') H' a = some o := fun a o h => by
      obtain ⟨e, q⟩ := vw_iff.mp h
      refine vw_iff.mpr ⟨e, q.imp id fun q => ⟨q.1, ?_⟩⟩
      rcases kv_none q.2.2 with z | ⟨_, _, _, np, h0⟩
      · exact ⟨fun y => y.elim (S1.np z) q.2.1, S1.h0n z⟩
      · exact ⟨fun y => y.elim np q.2.1, h0⟩
    exact k v H' ⟨_, F', m', d, S2, t1.trans t2, Dn.mono ⟨[], by simp⟩ up dn, q⟩
  · obtain ⟨S2, t2⟩ := S1.turned rz pre fr kp
    exact E x cls _ F' m' H' hx S2 (t1.trans t2).toTr z
end
section
variable {P : Program} {w : World} {K : PySem.W.Frag} {mg : Str → Option Value} {base : Heap} {W : Wd}
theorem st0K {C : Cn} {F : List Addr} {H : Hp} : ∀ {ks : List Bool} {ds : List D} {vs : List V} {n : Nat}, (∀ b ∈ ks, b = false) → DnA true K F (sv C.H0 (· ∈ F) H) vs ds →
    ∀ (i : Nat) (s : Sl), (st0 ks ds n)[i]? = some s → Sk K C (· ∈ F) F H (vs.map some ++ List.replicate (n - vs.length) none)[i]? s
  | [], _, _, n, _, _, i, s, e => by
    have z : s = .un := by
      simp only [st0] at e
      exact (List.mem_replicate.mp (List.mem_of_getElem? e)).2
    subst z; trivial
  | _ :: _, [], _, n, _, _, i, s, e => by
    have z : s = .un := by
      simp only [st0] at e
      exact (List.mem_replicate.mp (List.mem_of_getElem? e)).2
    subst z; trivial
  | _ :: _, _ :: _, _, 0, _, _, i, s, e => by simp [st0] at e
  | b :: ks, d :: ds, _, n + 1, hb, .cons (v := v) (vs := vs) h r, 0, s, e => by
    have e : (if b = true then Sl.bor d else Sl.val d) = s := by simpa [st0] using e
    rw [hb b (by simp), if_neg Bool.false_ne_true] at e
    subst e
    exact ⟨v, by simp, h⟩
  | b :: ks, d :: ds, _, n + 1, hb, .cons (v := v) (vs := vs) h r, i + 1, s, e => by
    have e : (st0 ks ds n)[i]? = some s := by simpa [st0] using e
    have := st0K (n := n) (fun b h => hb b (List.mem_cons_of_mem _ h)) r i s e
    simpa [Nat.add_sub_add_right] using this
abbrev BodyK (P : Program) (w : World) (K : PySem.W.Frag) (mg : Str → Option Value) (base : Heap) (W : Wd) (k : Nat) (N : List Str) (x : Str) (st : Stmt) (t : DS W.M) : Prop :=
  ∀ (f : Addr) (cdv : Value) (A : Around) (outer : List Env) (s : Shared) (H : Hp) (E : XK) (F0 : List Addr) (V : Hp) (hV : ∀ a o, V a = some o → H a = some o), RoomG k (A.deeper (envOfC x (defScope st) s.heap.objs.size f cdv)) →
      JSs (XOf P w K mg base N x (defScope st) f cdv A outer s H E) ⟨W, V, F0, (fun cls d _ H' => E cls d H'), H, hV⟩ (defBody st) t
def okU (ks : List Bool) (ds : List D) : Prop := ks.length = ds.length
theorem Dfn.goK {g x : Str} {st : Stmt} {N ps : List Str} {k : Nat} {sp : DSp W.M} {t : DS W.M} (Fd : Dfn K mg g x st ps) (ks : List Bool) (S : FnScope N ps (defScope st)) (body : BodyK P w K mg base W k N x st t)
    (vc : ∀ ds m Q Z, sp ds m Q Z → okU ks ds ∧ t { nx := fun _ m' => Q .non m', rt := Q, ex := Z } (st0 ks ds N.length) m) (hb : ∀ b ∈ ks, b = false := by decide) (hk : ks.length = ps.length := by rfl) (hn : ps.length ≤ N.length := by decide) : FDK P w K mg base W (k + 1) g sp := by
  obtain ⟨f, fd, Fn, gf, b⟩ := Fd.ex
  refine ⟨f, fd, ps, ?_, gf, Fn.kp, b⟩
  have ln : ∀ vs H Q E, spK K mg W sp vs H Q E → vs.length = ps.length := fun vs H Q E h => by
    obtain ⟨V, F, m, ds, Qd, Zd, hV, rz, dv, q, _⟩ := h
    rw [dv.length, ← hk]
    exact (vc _ _ _ _ q).1.symm
  refine okG Fn S ln fun cdv A outer s H vs Q E hr h => ?_
  have lv := ln _ _ _ _ h
  obtain ⟨V, F0, m, ds, Qd, Zd, hV, rz, dv, q, hq, hz⟩ := h
  obtain ⟨ts, p, r⟩ := body f cdv A outer s H E F0 V hV hr
  have v := (vc _ _ _ _ q).2
  let C : Cn := ⟨W, V, F0, (fun cls d _ H' => E cls d H'), H, hV⟩
  have S0 : SR K C (· ∈ F0) F0 (L2.start N vs) (st0 ks ds N.length) m H := ⟨fun a o _ e => e, ⟨[], by simp [C]⟩, fun a h n => absurd h n, fun a h => W.there rz a h, fun a h n => absurd h n, fun a h => h, rz, by
    rw [st0_len]
    unfold L2.start
    rw [List.length_append, List.length_map, List.length_replicate]
    omega, st0K hb dv, fun i j ds' es p _ e => absurd e (st0_own i ds')⟩
  refine ⟨ts, p, r (L2.start N vs) H (· ∈ F0) F0 _ m { nx := fun _ m' => Qd .non m', rt := Qd, ex := Zd } _ S0 ⟨fun σ' H' ρ' m' P1 F1 S1 t1 q => ?_, fun v H' d m' P1 F1 σ' ρ' H1 S1 t1 dv q => ?_, fun _ _ _ _ _ _ _ _ q => q.elim, fun _ _ _ _ _ _ _ _ q => q.elim, fun σ' ρ' y cls P1 F1 m' H' hm S1 t1 q => ?_⟩ v⟩
  · exact hq .non H' F1 .non m' S1.rz S1.pre (fun a h n => S1.new a h n) (fun a o n e => S1.keep a o n e) .non q
  · exact hq v H' F1 d m' S1.rz S1.pre (fun a h n => S1.new a h n) (fun a o n e => S1.keep a o n e) dv q
  · exact hz y cls H' F1 m' hm S1.rz S1.pre (fun a h n => S1.new a h n) (fun a o n e => S1.keep a o n e) q
theorem FDK.mono {j k : Nat} {x : Str} {sp : DSp W.M} (h : FDK P w K mg base W j x sp) (l : j ≤ k) : FDK P w K mg base W k x sp := by
  obtain ⟨f, fd, ps, F, r⟩ := h
  exact ⟨f, fd, ps, F.mono l, r⟩
end
end RR
namespace RR
open PySem PySem.Spec PyProof.Rows L2
section
variable {X : Cx} {C : Cn} {e a b : Expr} {es : List Expr} {pos pos' : Pos} {st : Stmt} {rest body els : List Stmt}
def DB (K : PySem.W.Frag) (C : Cn) (Pr : Addr → Prop) (F : List Addr) (H : Hp) (v : V) (d : D) : Prop := Dn true K F (sv C.H0 Pr H) v d ∨ ∃ p xs ds, v = .ref p ∧ d = .lst ds ∧ H p = some (.lst xs) ∧ p ∉ F ∧ DnA true K F (sv C.H0 Pr H) xs ds
theorem DB.lst {K : PySem.W.Frag} {Pr : Addr → Prop} {F : List Addr} {H : Hp} {σ : L2.St} {ρ : En} {m : C.W.M} (S : SR K C Pr F σ ρ m H) {v : V} {ds : List D} (h : DB K C Pr F H v (.lst ds)) : ∃ p xs, v = .ref p ∧ H p = some (.lst xs) ∧ p ∉ F ∧ DnA true K F (sv C.H0 Pr H) xs ds := by
  rcases h with h | ⟨p, xs, ds', e1, e2, h1, nf, h2⟩
  · cases h with
    | lst h r =>
      have h : sv C.H0 Pr H _ = some (.lst _) := h
      refine ⟨_, _, rfl, sv_le h, fun z => ?_, r⟩
      obtain ⟨_, q⟩ := vw_iff.mp h
      rcases q with q | q
      · exact q
      · exact q.2.1 (S.prf _ z)
  · cases e2
    exact ⟨p, xs, e1, h1, nf, h2⟩
theorem DB.tup {K : PySem.W.Frag} {Pr : Addr → Prop} {F : List Addr} {H : Hp} {v : V} {ds : List D} (h : DB K C Pr F H v (.tup ds)) : Dn true K F (sv C.H0 Pr H) v (.tup ds) := by
  rcases h with h | ⟨p, xs, ds', e1, e2, h1, nf, h2⟩
  · exact h
  · cases e2
theorem DB.te {K : PySem.W.Frag} {Pr Pr' : Addr → Prop} {F F' : List Addr} {H H' : Hp} {σ : L2.St} {ρ : En} {m : C.W.M} {v : V} {d : D} (S : SR K C Pr F σ ρ m H) (t : Te Pr F H Pr' F' H') (h : DB K C Pr F H v d) : DB K C Pr' F' H' v d := by
  rcases h with h | ⟨p, xs, ds, e1, e2, h1, nf, h2⟩
  · exact .inl (h.tr t.toTr S.prs)
  · exact .inr ⟨p, xs, ds, e1, e2, t.all p _ nf h1, (fun z => by
      have y := t.fn p z nf
      rw [h1] at y; cases y), h2.mono t.pre (sv_tr t.toTr S.prs)⟩
def D.num : D → Option Int
  | .int i => some i | .bl b => some (if b = true then 1 else 0) | _ => none
structure LkQ (X : Cx) (C : Cn) (Pr : Addr → Prop) (F : List Addr) (H : Hp) (E : DE C.W.M) (D' : L2.Ends) : Prop where
  nx : ∀ σ' H' ρ' m' Pr' F', SR X.K C Pr' F' σ' ρ' m' H' → Te Pr F H Pr' F' H' → E.nx ρ' m' → D'.nx σ' H'
  rt : ∀ v H' d m' Pr' F' σ' ρ' H1, SR X.K C Pr' F' σ' ρ' m' H' → Te Pr F H Pr' F' H' → Dv X.K C .r Pr' F' H1 H' v d → E.rt d m' → D'.rt v H'
  ex : ∀ σ' ρ', Ex X C Pr F H σ' ρ' E.ex
theorem LkQ.te {Pr Pr1 : Addr → Prop} {F F1 : List Addr} {H H1 : Hp} {E : DE C.W.M} {D' : L2.Ends} (l : LkQ X C Pr F H E D') (t : Te Pr F H Pr1 F1 H1) : LkQ X C Pr1 F1 H1 E D' :=
  ⟨fun σ' H' ρ' m' P2 F2 S t2 q => l.nx σ' H' ρ' m' P2 F2 S (t.trans t2) q, fun v H' d m' P2 F2 σ' ρ' H3 S t2 dv q => l.rt v H' d m' P2 F2 σ' ρ' H3 S (t.trans t2) dv q, fun σ' ρ' => (l.ex σ' ρ').te t.toTr⟩
variable {t u : DS C.W.M}
end
end RR
namespace RR
open PySem PySem.Spec PyProof.Rows L2
section
variable {M : Type} {ρ : En} {m : M} {Q : D → M → Prop} {Z ex : Str → M → Prop} {nx bk ct : En → M → Prop} {rt : D → M → Prop} {t u : DT M} {q : D → Prop} {i j : Int} {d x y : D} {ds es : List D}
end
section
variable {M : Type} {g : DG} {tt : DTT M} {te : DT M} {ρ : En}
end
section
variable {M : Type} {g : DG} {tt : DTT M} {te : DT M} {ρ : En} {m : M} {QL : List D → M → Prop}
end
def Th (b l : Nat) : Nat → D → Prop
  | _, .int i => bd b i
  | _, .bl _ => True
  | _, .non => True
  | _, .dic => True
  | _, .str x => (PyData.str x).shown.length ≤ 12
  | n + 1, .tup xs => xs.length ≤ l ∧ ∀ x ∈ xs, Th b l n x
  | n + 1, .lst xs => xs.length ≤ l ∧ ∀ x ∈ xs, Th b l n x
  | _, _ => False
theorem Th.mono {b l b' l' : Nat} (hb : b ≤ b') (hl : l ≤ l') : ∀ {n n' : Nat} {d : D}, n ≤ n' → Th b l n d → Th b' l' n' d
  | n, n', .int i, _, h => by
    have h : bd b i := by cases n <;> exact h
    have : bd b' i := bd_mono h hb
    cases n' <;> exact this
  | n, n', .bl _, _, _ => by cases n' <;> trivial
  | n, n', .non, _, _ => by cases n' <;> trivial
  | n, n', .dic, _, _ => by cases n' <;> trivial
  | n, n', .str x, _, h => by
    have h : (PyData.str x).shown.length ≤ 12 := by cases n <;> exact h
    cases n' <;> exact h
  | 0, _, .tup _, _, h => h.elim
  | 0, _, .lst _, _, h => h.elim
  | n + 1, 0, .tup _, z, _ => absurd z (by omega)
  | n + 1, 0, .lst _, z, _ => absurd z (by omega)
  | n + 1, n' + 1, .tup xs, z, h => ⟨Nat.le_trans h.1 hl, fun x hx => Th.mono hb hl (by omega) (h.2 x hx)⟩
  | n + 1, n' + 1, .lst xs, z, h => ⟨Nat.le_trans h.1 hl, fun x hx => Th.mono hb hl (by omega) (h.2 x hx)⟩
  | n, _, .hnd _, _, h => by cases n <;> exact h.elim
  | n, _, .exc _, _, h => by cases n <;> exact h.elim
  | n, _, .fn _, _, h => by cases n <;> exact h.elim
  | n, _, .ptr _, _, h => by cases n <;> exact h.elim
theorem Th.ty {b l n : Nat} {d : D} (h : Th b l n d) : ∃ t, d.ty = some t := by
  cases d with
  | hnd _ => cases n <;> exact h.elim
  | exc _ => cases n <;> exact h.elim
  | fn _ => cases n <;> exact h.elim
  | ptr _ => cases n <;> exact h.elim
  | _ => exact ⟨_, rfl⟩
theorem Th.i {b l n : Nat} {i : Int} (h : bd b i) : Th b l n (.int i) := by cases n <;> exact h
theorem Th.ib {b l n : Nat} {i : Int} (h : Th b l n (.int i)) : bd b i := by cases n <;> exact h
theorem Th.row {b l n : Nat} {xs : List Int} (h : ∀ x ∈ xs, bd b x) (hl : xs.length ≤ l) : Th b l (n + 1) (.tup (zz xs)) := ⟨by simpa [zz] using hl, fun x hx => by
  obtain ⟨i, hi, rfl⟩ := List.mem_map.mp hx
  exact Th.i (h i hi)⟩
mutual
def D.wz (c : Nat) : D → Nat
  | .tup xs => 2 + D.wzs c xs
  | .lst xs => 2 + D.wzs c xs
  | .non => c | .bl _ => c | .int _ => c | .str _ => c | .hnd _ => c | .dic => c | .exc _ => c | .fn _ => c | .ptr _ => c
def D.wzs (c : Nat) : List D → Nat
  | [] => 0
  | x :: r => x.wz c + 2 + D.wzs c r
end
end RR
namespace RR
open PySem PySem.Spec PyProof.Rows L2
open DK (sm)
section
variable {M : Type} {ρ : En} {nx : En → M → Prop} {rt : D → M → Prop} {bk ct : En → M → Prop} {ex : Str → M → Prop} {s1 : DS M} {m : M}
theorem v_kforY {g : DG} {ds : List D} (W : Nat → En → M → Prop) (h : W 0 ρ m) (e : ∀ ρ m, W ds.length ρ m → nx ρ m)
    (st : ∀ k x ρ m (N : En → M → Prop), ds[k]? = some x → W k ρ m → (∀ ρ m, W (k + 1) ρ m → N ρ m) → g x ρ fun ρ2 => s1 ⟨N, rt, nx, N, ex⟩ ρ2 m) : kFor g s1 ⟨nx, rt, bk, ct, ex⟩ ρ ds m := by
  refine v_kfor (fun r ρ m => ∃ k, k ≤ ds.length ∧ r = ds.drop k ∧ W k ρ m) ⟨0, Nat.zero_le _, rfl, h⟩ (fun ρ m hh => ?_) fun x r ρ m hh => ?_
  · obtain ⟨k, hk, e1, hW⟩ := hh
    have : ds.length ≤ k := by
      have := congrArg List.length e1
      rw [List.length_drop] at this
      have h0 : ([] : List D).length = 0 := rfl
      omega
    obtain rfl : k = ds.length := by omega
    exact e ρ m hW
  · obtain ⟨k, hk, e1, hW⟩ := hh
    have l : k < ds.length := by
      have := congrArg List.length e1
      rw [List.length_drop, List.length_cons] at this
      omega
    have e2 := List.drop_eq_getElem_cons l
    rw [← e1] at e2
    obtain ⟨e3, e4⟩ := List.cons.inj e2
    exact st k x ρ m _ (by rw [e3]; exact List.getElem?_eq_getElem l) hW fun ρ m h => ⟨k + 1, l, e4, h⟩
end
theorem enum_atY {ds : List D} {k : Nat} {x : D} (h : (enumD 0 ds)[k]? = some x) : ∃ d, ds[k]? = some d ∧ x = .tup [.int (k : Nat), d] := by
  have l : k < ds.length := by
    have := (List.getElem?_eq_some_iff.mp h).1
    rwa [enum_len] at this
  have e := List.getElem?_eq_getElem l
  have := enum_get (n := 0) e
  rw [this] at h
  cases h
  exact ⟨_, e, by rw [Nat.zero_add]⟩
def b__law_raised {M : Type} : DS M :=
    (dThen (dSet 2 (dC (.int 1)))
    (dThen (dFor (dRng1 (dCons (dVar 1) dNil)) (dgN 3)
      (dSet 2 (dBin gMul (dVar 2) (dVar 0))))
    (dRet (dVar 2))))
def s__law_raised {M : Type} : DSp M := fun ds m Q Z => ∃ (x : Int) (n : Nat), ds = [.int x, .int n] ∧ bd 450 x ∧ n ≤ 1000 ∧ Q (.int (x ^ n)) m
theorem vc__law_raised {M : Type} : ∀ ds (m : M) Q Z, s__law_raised ds m Q Z → okK [false, false] ds ∧ b__law_raised { nx := fun _ m' => Q .non m', rt := Q, ex := Z } (st0 [false, false] ds 4) m := by
  rintro ds m Q Z ⟨x, n, rfl, bx, hn, k⟩
  refine ⟨⟨fun _ => rfl, fun _ => rfl, trivial⟩, ?_⟩
  unfold b__law_raised
  repeat walk_at "s"
  refine v_kR1 (by omega) (by omega) ?_
  rw [Int.toNat_natCast]
  refine v_kforR n (fun j ρ m' => m' = m ∧ ∃ a3, ρ = [.val (.int x), .val (.int n), .val (.int (x ^ j)), a3]) ⟨rfl, _, by rw [Int.pow_zero]; rfl⟩ (fun ρ m' h => ?_) fun j ρ m' hj h => ?_
  · obtain ⟨rfl, a3, rfl⟩ := h
    repeat walk_at "s"
    exact k
  · obtain ⟨rfl, a3, rfl⟩ := h
    repeat walk_at "s"
    have l1 := bd_powL bx j
    have l2 : bd (450 * j + 1) (x ^ j) := by unfold bd; exact Nat.lt_of_le_of_lt l1 (Nat.pow_lt_pow_right (by decide) (by omega))
    refine v_mul (mulok l2 bx (by have : 450 * j ≤ 450 * 1000 := Nat.mul_le_mul_left _ (by omega); omega)) ?_
    repeat walk_at "s"
    exact ⟨rfl, _, by rw [Int.pow_succ]; rfl⟩
def b__law_common_t {M : Type} : DS M :=
    (dThen (dSet 1 (dC (.int 0)))
    (dThen (dFor (dSeq true (dBor 0)) (dgN 2)
      (dThen (dPar 3 4 (dCons (dVar 1) (dCons (dB (gI1 iabs) (dCons (dVar 2) dNil)) dNil)))
    (dThen (dWhile (dTst (dBin gGt (dVar 4) (dC (.int 0))))
      (dPar 3 4 (dCons (dVar 4) (dCons (dBin (gII Nz fun i j => .int (i.fmod j)) (dVar 3) (dVar 4)) dNil))))
    (dSet 1 (dVar 3)))))
    (dRet (dVar 1))))
def s__law_common_t {M : Type} : DSp M := fun ds m Q Z => ∃ d xs, ds = [d] ∧ isRow d xs ∧ Q (.int (gcdL xs)) m
theorem vc__law_common_t {M : Type} : ∀ ds (m : M) Q Z, s__law_common_t ds m Q Z → okK [true] ds ∧ b__law_common_t { nx := fun _ m' => Q .non m', rt := Q, ex := Z } (st0 [true] ds 5) m := by
  rintro ds m Q Z ⟨d, xs, rfl, hd, q⟩
  refine ⟨⟨fun z => (nomatch z), trivial⟩, ?_⟩
  unfold b__law_common_t
  repeat walk_at "s"
  refine v_kforZ (fun r ρ m' => m' = m ∧ ∃ (g : Nat) (a2 a3 a4 : Sl), ρ = [.bor d, .val (.int g), a2, a3, a4] ∧ r.foldl (fun g x => Int.gcd g x) g = gcdL xs) xs ⟨rfl, 0, _, _, _, rfl, rfl⟩ (fun ρ m' h => ?_) fun x r ρ m' h => ?_
  · obtain ⟨rfl, g, _, _, _, rfl, e⟩ := h
    repeat walk_at "s"
    rw [← e] at q
    exact q
  · obtain ⟨rfl, g, _, _, _, rfl, e⟩ := h
    repeat walk_at "s"
    refine v_while (fun n ρ m1 => m1 = m' ∧ ∃ a b : Int, ρ = [.bor d, .val (.int g), .val (.int x), .val (.int a), .val (.int b)] ∧ 0 ≤ a ∧ 0 ≤ b ∧ n = b.toNat ∧ Int.gcd a b = Int.gcd g x) _ ⟨rfl, _, _, rfl, by omega, by rw [iabs_eq]; omega, rfl, by rw [iabs_eq]; unfold Int.gcd; simp⟩ fun n ρ m' h => ?_
    obtain ⟨rfl, a, b, rfl, ha, hb, rfl, e2⟩ := h
    repeat walk_at "s"
    refine v_ifd (fun h => ?_) fun h => ?_
    · have h1 := Int.fmod_nonneg_of_pos a h
      have h2 := Int.fmod_lt_of_pos a h
      repeat walk_at "s"
      exact ⟨_, by omega, rfl, _, _, rfl, hb, h1, rfl, by rw [gcd_step ha h]; exact e2⟩
    · repeat walk_at "s"
      obtain rfl : b = 0 := by omega
      rw [gcd_zero ha |>.symm, e2]
      exact ⟨rfl, Int.gcd g x, _, _, _, rfl, e⟩
def wvI (xs : List Int) (a : Int) : Int := xs.foldr (fun x v => v * a + x) 0
theorem wvI_rat (a : Int) : ∀ xs : List Int, ((wvI xs a : Int) : Rat) = sm xs.length (fun i => ((xs.getD i 0 : Int) : Rat) * (a : Rat) ^ i)
  | [] => rfl
  | x :: xs => by
    show (((wvI xs a) * a + x : Int) : Rat) = sm (xs.length + 1) _
    rw [DK.sm_head, Rat.intCast_add, Rat.intCast_mul, wvI_rat a xs, DK.sm_cong xs.length (f := fun k => (((x :: xs).getD (k + 1) 0 : Int) : Rat) * (a : Rat) ^ (k + 1)) (g := fun k => (a : Rat) * (((xs.getD k 0 : Int) : Rat) * (a : Rat) ^ k)) fun k _ => by
      rw [Rat.pow_succ]
      show ((xs.getD k 0 : Int) : Rat) * _ = _
      grind, DK.sm_mulc]
    show _ = ((x : Int) : Rat) * (a : Rat) ^ 0 + _
    rw [Rat.pow_zero]
    grind
theorem wvI_bd {e : Nat} {a : Int} (ha : bd 5 a) : ∀ xs : List Int, (∀ x ∈ xs, bd e x) → bd (e + 6 * xs.length) (wvI xs a)
  | [], _ => by
    show bd (e + 6 * 0) 0
    unfold bd
    exact Nat.pow_pos (by decide)
  | x :: xs, h => by
    have h1 := bd_mul (wvI_bd ha xs fun y hy => h y (List.mem_cons_of_mem _ hy)) ha
    have h2 := bd_mono (h x (List.mem_cons_self ..)) (show e ≤ e + 6 * xs.length + 5 by omega)
    exact bd_mono (bd_add h1 h2) (by rw [List.length_cons]; omega)
def b__law_worth_at {M : Type} : DS M :=
    (dThen (dSet 2 (dC (.int 0)))
    (dThen (dFor (dSeq false (dRvs (dVar 0))) (dgN 3)
      (dSet 2 (dBin gAdd (dBin gMul (dVar 2) (dVar 1)) (dVar 3))))
    (dRet (dVar 2))))
def s__law_worth_at {M : Type} : DSp M := fun ds m Q Z => ∃ (xs : List Int) (a : Int), ds = [.tup (zz xs), .int a] ∧ xs.length ≤ 17 ∧ (∀ x ∈ xs, bd 3500 x) ∧ bd 5 a ∧ Q (.int (wvI xs a)) m
theorem vc__law_worth_at {M : Type} : ∀ ds (m : M) Q Z, s__law_worth_at ds m Q Z → okK [false, false] ds ∧ b__law_worth_at { nx := fun _ m' => Q .non m', rt := Q, ex := Z } (st0 [false, false] ds 4) m := by
  rintro ds m Q Z ⟨xs, a, rfl, hl, hb, ba, k⟩
  refine ⟨⟨fun _ => nl_row xs, fun _ => rfl, trivial⟩, ?_⟩
  unfold b__law_worth_at
  repeat walk_at "s"
  refine v_kforZ (fun r ρ m' => m = m' ∧ ∃ (ys : List Int) (a3 : Sl), ρ = [.val (.tup (zz xs)), .val (.int a), .val (.int (wvI ys a)), a3] ∧ r.reverse ++ ys = xs) xs.reverse ⟨rfl, [], _, by with_unfolding_all rfl, by rw [List.reverse_reverse, List.append_nil]⟩ (fun ρ m' h => ?_) fun x r ρ m' h => ?_
  · obtain ⟨rfl, ys, a3, rfl, e⟩ := h
    have e : ys = xs := e
    subst e
    repeat walk_at "s"
    exact k
  · obtain ⟨rfl, ys, a3, rfl, e⟩ := h
    rw [List.reverse_cons, List.append_assoc] at e
    have ly : ys.length ≤ 17 := by rw [← e] at hl; simp at hl; omega
    have by' := wvI_bd ba ys fun y hy => hb y (by rw [← e]; simp [hy])
    repeat walk_at "s"
    exact ⟨rfl, x :: ys, .val (.int x), by with_unfolding_all rfl, e⟩
def b__law_right {M : Type} : DS M :=
    (dThen (dIte (dOr (dNot (dVal (dIsi "tuple" (dVar 0)))) (dNot (dVal (dB gAll (dCons (dLc (dSeq false (dVar 0)) (dgN 6) dYes (dAndV (dIsi "int" (dVar 6)) (dNotV (dIsi "bool" (dVar 6)))) [6]) dNil)))))
      (dRet (dC (.bl false)))
      dNext)
    (dThen (dIte (dOr (dTst (dBin gEq (dVar 0) (dTup dNil))) (dOr (dTst (dBin gLt (dBin (gIx false) (dVar 0) (dNeg (dC (.int 1)))) (dC (.int 1)))) (dOr (dTst (dBin gNe (dCall s__law_common_t [] (dCons (dVar 0) dNil)) (dC (.int 1)))) (dTst (dBin gNe (dB gLen (dCons (dVar 0) dNil)) (dB gLen (dCons (dVar 2) dNil)))))))
      (dRet (dC (.bl false)))
      dNext)
    (dThen (dFor (dEnum false (dVar 2)) (dgT 2 (dgCons (dgN 4) (dgCons (dgN 5) dgNil)))
      (dIte (dTst (dBin gNe (dBin gMul (dCall s__law_resultant [] (dCons (dB (gSeq .lst) (dCons (dVar 1) dNil)) (dCons (dVar 5) dNil))) (dBin (gIx false) (dVar 0) (dNeg (dC (.int 1))))) (dBin gMul (dVar 3) (dCall s__law_worth_at [] (dCons (dVar 0) (dCons (dVar 4) dNil))))))
      (dRet (dC (.bl false)))
      dNext))
    (dRet (dC (.bl true))))))
structure Rt (xs F : List Int) (D : Int) (Gs : List (List Int)) : Prop where
  lx : 2 ≤ xs.length
  bx : ∀ x ∈ xs, bd 100 x
  f0 : F ≠ []
  fl : F.length = Gs.length
  f17 : F.length ≤ 17
  gc : gcdL F = 1
  ps : 0 < F.getD (F.length - 1) 0
  fb : ∀ x ∈ F, bd 3500 x
  db : bd 600 D
  all : ∀ (k : Nat) (G : List Int), Gs[k]? = some G → 2 ≤ G.length ∧ xs.length + G.length ≤ 17 ∧ (∀ x ∈ G, bd 100 x) ∧ DK.Rs (DK.qi (ser xs)) (xs.length - 1) (DK.qi (ser G)) (G.length - 1) * ((F.getD (F.length - 1) 0 : Int) : Rat) = (D : Rat) * ((wvI F (k : Int) : Int) : Rat)
def s__law_right {M : Type} : DSp M := fun ds m Q Z => ∃ (xs F : List Int) (D : Int) (Gs : List (List Int)), ds = [.tup (zz F), .tup (zz xs), .lst (Gs.map fun g => RR.D.lst (zz g)), .int D] ∧ Rt xs F D Gs ∧ Q (.bl true) m
theorem vc__law_right {M : Type} : ∀ ds (m : M) Q Z, s__law_right ds m Q Z → okU [false, false, false, false] ds ∧ b__law_right { nx := fun _ m' => Q .non m', rt := Q, ex := Z } (st0 [false, false, false, false] ds 7) m := by
  rintro ds m Q Z ⟨xs, F, D, Gs, rfl, h, k⟩
  refine ⟨rfl, ?_⟩
  unfold b__law_right
  have f17 := h.f17
  have fl := h.fl
  have f0 := h.f0
  repeat walk_at "s"
  refine lc_zd (f := fun _ => .bl true) F (fun a ha m1 K l hk => ?_) (by omega) ?_
  · repeat walk_at "s"
    refine v_kAV (fun _ => ?_) fun e => absurd e (by decide)
    repeat walk_at "s"
    exact hk
  repeat walk_at "s"
  rw [show F.map (fun _ => RR.D.bl true) = (F.map fun _ => true).map RR.D.bl from by rw [List.map_map]; rfl]
  refine v_all ?_
  rw [show (F.map fun _ => true).all id = true from List.all_eq_true.mpr fun x hx => by obtain ⟨_, _, rfl⟩ := List.mem_map.mp hx; rfl]
  repeat walk_at "s"
  try ((with_reducible show @ite _ _ _ _ _); refine v_ifF ?_)
  repeat walk_at "s"
  rw [decide_eq_false f0]
  repeat walk_at "s"
  refine v_ixm f0 ?_
  repeat walk_at "s"
  have ps := h.ps
  rw [decide_eq_false (show ¬ F.getD (F.length - 1) 0 < 1 by omega)]
  repeat walk_at "s"
  refine ⟨_, F, rfl, isRow_t, ?_⟩
  rw [h.gc]
  repeat walk_at "s"
  rw [decide_eq_true (show ((1 : Nat) : Int) = 1 from rfl)]
  repeat walk_at "s"
  rw [List.length_map, fl, decide_eq_true rfl]
  repeat walk_at "s"
  try ((with_reducible show @ite _ _ _ _ _); refine v_ifF ?_)
  repeat walk_at "s"
  refine v_kSeqL ?_
  refine v_kforY (ds := enumD 0 (Gs.map fun g => RR.D.lst (zz g))) (fun i ρ m' => m = m' ∧ ∃ (a4 a5 a6 : Sl), ρ = [.val (.tup (zz F)), .val (.tup (zz xs)), .val (.lst (Gs.map fun g => RR.D.lst (zz g))), .val (.int D), a4, a5, a6]) ⟨rfl, _, _, _, by with_unfolding_all rfl⟩ (fun ρ m' hh => ?_) fun i x ρ m' NN hx hh hN => ?_
  · obtain ⟨rfl, a4, a5, a6, rfl⟩ := hh
    repeat walk_at "s"
    exact k
  obtain ⟨rfl, a4, a5, a6, rfl⟩ := hh
  obtain ⟨d, hd, rfl⟩ := enum_atY hx
  rw [List.getElem?_map] at hd
  cases eG : Gs[i]? with
  | none => rw [eG] at hd; cases hd
  | some G =>
    rw [eG] at hd
    cases hd
    obtain ⟨g2, g17, gb, ge⟩ := h.all i G eG
    have hi : i < Gs.length := (List.getElem?_eq_some_iff.mp eG).1
    have bi : bd 5 (i : Int) := by unfold bd; omega
    have db := h.db
    have fb := h.fb
    have lb : bd 3500 (F.getD (F.length - 1) 0) := fb _ (by
      have := List.length_pos_iff.mpr f0
      rw [List.getD_eq_getElem?_getD, List.getElem?_eq_getElem (by omega)]; exact List.getElem_mem _)
    have wb := wvI_bd bi F fb
    have wb : bd 3602 (wvI F (i : Int)) := bd_mono wb (by omega)
    repeat walk_at "s"
    refine ⟨xs, G, rfl, h.lx, g2, g17, h.bx, gb, fun z hz => ?_⟩
    rw [← hz] at ge
    have ge : z * F.getD (F.length - 1) 0 = D * wvI F (i : Int) := by
      refine Rat.intCast_inj.mp ?_
      rw [Rat.intCast_mul, Rat.intCast_mul]
      exact ge
    have zb : bd 4202 z := by
      have h1 := bd_mul db wb
      rw [← ge] at h1
      unfold bd at h1 ⊢
      rw [Int.natAbs_mul] at h1
      exact Nat.lt_of_le_of_lt (Nat.le_mul_of_pos_right _ (by omega)) h1
    repeat walk_at "s"
    refine v_ixm f0 ?_
    repeat walk_at "s"
    refine ⟨F, _, rfl, f17, fb, bi, ?_⟩
    repeat walk_at "s"
    rw [ge, decide_eq_true rfl]
    repeat walk_at "s"
    exact hN _ _ ⟨rfl, _, _, _, by with_unfolding_all rfl⟩
def hz (t : Int) : List Int → Ser Int
  | [] => 0
  | x :: xs => hz t xs * (Ser.C t - xp 1) + Ser.C x
theorem hz_co (t x : Int) (xs : List Int) : ∀ k, (hz t (x :: xs)).co k = t * (hz t xs).co k - (if 1 ≤ k then (hz t xs).co (k - 1) else 0) + (if k = 0 then x else 0) := fun k => by
  show (hz t xs * (Ser.C t - xp 1) + Ser.C x).co k = _
  rw [show hz t xs * (Ser.C t - xp 1) + Ser.C x = Ser.C t * hz t xs - xp 1 * hz t xs + Ser.C x by grind, Ser.add_co, Ser.sub_co, Ser.C_mul_co, xp_mul_co, Ser.C_co]
theorem hz_far (t : Int) : ∀ xs : List Int, far xs.length (hz t xs)
  | [] => far_zero
  | x :: xs => fun k hk => by
    rw [List.length_cons] at hk
    rw [hz_co, hz_far t xs k (by omega), if_pos (by omega), hz_far t xs (k - 1) (by omega), if_neg (by omega)]; omega
theorem hz_top (t : Int) : ∀ xs : List Int, xs ≠ [] → (hz t xs).co (xs.length - 1) ≠ 0 ∨ xs.getD (xs.length - 1) 0 = 0
  | [], h => absurd rfl h
  | [x], _ => by
    by_cases h : x = 0
    · exact .inr h
    · refine .inl ?_
      rw [hz_co]
      show t * (0 : Ser Int).co 0 - 0 + x ≠ 0
      rw [zero_co]; omega
  | x :: y :: xs, _ => by
    rcases hz_top t (y :: xs) (fun z => nomatch z) with h | h
    · refine .inl ?_
      have l : (x :: y :: xs).length - 1 = (y :: xs).length := rfl
      have l2 : (y :: xs).length - 1 = xs.length := rfl
      rw [l, hz_co, hz_far t (y :: xs) _ (Nat.le_refl _), if_pos (by rw [List.length_cons]; omega), if_neg (by rw [List.length_cons]; omega)]
      omega
    · refine .inr ?_
      have l : (x :: y :: xs).length - 1 = (y :: xs).length - 1 + 1 := rfl
      rw [l]
      exact h
theorem hz_bd {t : Int} {e : Nat} (ht : bd 5 t) : ∀ xs : List Int, (∀ x ∈ xs, bd e x) → ∀ k, bd (e + 7 * xs.length) ((hz t xs).co k)
  | [], _, k => by
    show bd _ ((0 : Ser Int).co k)
    rw [zero_co]
    unfold bd
    exact Nat.pow_pos (by decide)
  | x :: xs, h, k => by
    have ih := hz_bd ht xs fun y hy => h y (List.mem_cons_of_mem _ hy)
    rw [hz_co]
    have z : ∀ e, bd e 0 := fun e => by unfold bd; exact Nat.pow_pos (by decide)
    have h1 : bd (e + 7 * xs.length + 5) (t * (hz t xs).co k) := by rw [Int.mul_comm]; exact bd_mul (ih k) ht
    have h2 : bd (e + 7 * xs.length + 5) (if 1 ≤ k then (hz t xs).co (k - 1) else 0) := by
      split
      · exact bd_mono (ih _) (by omega)
      · exact z _
    have h3 : bd (e + 7 * xs.length + 5 + 1) (if k = 0 then x else 0) := by
      split
      · exact bd_mono (h x (List.mem_cons_self ..)) (by omega)
      · exact z _
    exact bd_mono (bd_add (bd_sub h1 h2) h3) (by rw [List.length_cons]; omega)
theorem hz_turn (t : Int) : ∀ xs : List Int, DK.qi (hz t xs) = sm xs.length (fun k => Ser.C ((xs.getD k 0 : Int) : Rat) * (Ser.C (t : Rat) - xp 1) ^ k)
  | [] => Ser.ext fun k => by
    show (((0 : Ser Int).co k : Int) : Rat) = (0 : Ser Rat).co k
    rw [zero_co, zero_co]; rfl
  | x :: xs => by
    have H := DK.Hm.cast
    show DK.mp _ (hz t xs * (Ser.C t - xp 1) + Ser.C x) = sm (xs.length + 1) _
    rw [DK.mp_add H, DK.mp_mul H, DK.mp_sub H, DK.mp_C H, DK.mp_xp H, DK.mp_C H, show DK.mp (fun z : Int => (z : Rat)) (hz t xs) = _ from hz_turn t xs, DK.sm_head, DK.sm_cong xs.length (f := fun k => Ser.C (((x :: xs).getD (k + 1) 0 : Int) : Rat) * (Ser.C (t : Rat) - xp 1) ^ (k + 1)) (g := fun k => (Ser.C (t : Rat) - xp 1) * (Ser.C ((xs.getD k 0 : Int) : Rat) * (Ser.C (t : Rat) - xp 1) ^ k)) fun k _ => by
      rw [Lean.Grind.Semiring.pow_succ]
      show Ser.C ((xs.getD k 0 : Int) : Rat) * _ = _
      grind, DK.sm_mulc]
    show _ = Ser.C ((x : Int) : Rat) * (Ser.C (t : Rat) - xp 1) ^ 0 + _
    rw [Lean.Grind.Semiring.pow_zero]
    grind
theorem turn_of {t : Int} {ys W : List Int} {n : Nat} (ln : ys.length = n + 1) (h : ser W = hz t ys) : DK.qi (ser W) = DK.turn n (DK.qi (ser ys)) (t : Rat) := by
  rw [h, hz_turn, ln]
  unfold DK.turn DK.evs
  exact DK.sm_cong _ fun k _ => by rw [DK.mp_co, DK.mp_co, ser_co]
def b__law_turned_at {M : Type} : DS M :=
    (dThen (dSet 2 (dTup dNil))
    (dThen (dFor (dSeq false (dRvs (dVar 0))) (dgN 3)
      (dSet 2 (dCall s__law_sum [] (dCons (dCall s__law_product [] (dCons (dVar 2) (dCons (dTup (dCons (dVar 1) (dCons (dNeg (dC (.int 1))) dNil))) dNil))) (dCons (dCall s__law_cut [] (dCons (dLst (dCons (dVar 3) dNil)) dNil)) (dCons (dC (.int 1)) dNil))))))
    (dRet (dB (gSeq .lst) (dCons (dVar 2) dNil)))))
def s__law_turned_at {M : Type} : DSp M := fun ds m Q Z => ∃ (ys : List Int) (t : Int) (e : Nat), ds = [.tup (zz ys), .int t] ∧ ys.length ≤ 20 ∧ (∀ y ∈ ys, bd e y) ∧ e ≤ 1000 ∧ bd 5 t ∧ ∀ W, R (hz t ys) W → Q (.lst (zz W)) m
theorem vc__law_turned_at {M : Type} : ∀ ds (m : M) Q Z, s__law_turned_at ds m Q Z → okK [false, false] ds ∧ b__law_turned_at { nx := fun _ m' => Q .non m', rt := Q, ex := Z } (st0 [false, false] ds 4) m := by
  rintro ds m Q Z ⟨ys, t, e, rfl, ly, hb, he, ht, k⟩
  refine ⟨⟨fun _ => nl_row ys, fun _ => rfl, trivial⟩, ?_⟩
  unfold b__law_turned_at
  repeat walk_at "s"
  refine v_kforZ (fun r ρ m' => m = m' ∧ ∃ (us W : List Int) (a3 : Sl), ρ = [.val (.tup (zz ys)), .val (.int t), .val (.tup (zz W)), a3] ∧ r.reverse ++ us = ys ∧ R (hz t us) W) ys.reverse ⟨rfl, [], [], _, by with_unfolding_all rfl, by rw [List.reverse_reverse, List.append_nil], rfl, ser_nil⟩ (fun ρ m' h => ?_) fun x r ρ m' h => ?_
  · obtain ⟨rfl, us, W, a3, rfl, e, hW⟩ := h
    have e : us = ys := e
    subst e
    repeat walk_at "s"
    exact k W hW
  · obtain ⟨rfl, us, W, a3, rfl, eq, hW⟩ := h
    rw [List.reverse_cons, List.append_assoc] at eq
    have lu : us.length ≤ 20 := by rw [← eq] at ly; simp at ly; omega
    have xb : bd e x := hb x (by rw [← eq]; simp)
    have cb := hz_bd ht us fun y hy => hb y (by rw [← eq]; simp [hy])
    have wb : ∀ w ∈ W, bd (e + 7 * us.length) w := fun w hw => by
      obtain ⟨i, hi, rfl⟩ := List.mem_iff_getElem.mp hw
      have := cb i
      rw [← hW.sr, ser_co, List.getD_eq_getElem?_getD, List.getElem?_eq_getElem hi] at this
      exact this
    have lW : W.length ≤ 20 := by
      refine Nat.le_trans (Nat.not_lt.mp fun c => ?_) lu
      have h0 := done_last hW.dn (fun z => by rw [z] at c; simp at c)
      have := hz_far t us (W.length - 1) (by omega)
      rw [← hW.sr, ser_co] at this
      exact h0 this
    repeat walk_at "s"
    refine ⟨W, [t, -1], e + 7 * us.length, 5, rfl, by omega, by simp, wb, fun y hy => ?_, by omega, fun P hP => ?_⟩
    · simp only [List.mem_cons, List.not_mem_nil, or_false] at hy
      rcases hy with rfl | rfl
      · exact ht
      · unfold bd; decide
    repeat walk_at "s"
    refine ⟨_, [x], rfl, .inr rfl, by simp, fun c hc => ?_⟩
    repeat walk_at "s"
    have eC : ser c = Ser.C x := by rw [hc.sr, ser_cons, ser_nil]; grind
    have cl : ∀ y ∈ c, bd e y := fun y hy => by
      obtain ⟨i, hi, rfl⟩ := List.mem_iff_getElem.mp hy
      have := congrArg (fun f => Ser.co f i) eC
      have this : (ser c).co i = (Ser.C x).co i := this
      rw [ser_co, List.getD_eq_getElem?_getD, List.getElem?_eq_getElem hi, Ser.C_co] at this
      have this : c[i] = if i = 0 then x else 0 := this
      rw [this]
      split
      · exact xb
      · unfold bd; exact Nat.pow_pos (by decide)
    have lc1 : c.length ≤ 1 := Nat.not_lt.mp fun q => by
      have h0 := done_last hc.dn (fun z => by rw [z] at q; simp at q)
      have := congrArg (fun f => Ser.co f (c.length - 1)) eC
      have this : (ser c).co (c.length - 1) = (Ser.C x).co (c.length - 1) := this
      rw [ser_co, Ser.C_co, if_neg (by omega)] at this
      exact h0 this
    have lP : P.length ≤ 30 := by
      refine Nat.not_lt.mp fun q => ?_
      have h0 := done_last hP.dn (fun z => by rw [z] at q; simp at q)
      have := far_mul (far_ser W) (far_ser [t, -1]) (P.length - 1) (by simp; omega)
      rw [← hP.sr, ser_co] at this
      exact h0 this
    refine ⟨P, c, 1, 1, e, rfl, by omega, by omega, by unfold bd; decide, cl, by omega, fun s hs => ?_⟩
    refine ⟨rfl, x :: us, s, .val (.int x), by with_unfolding_all rfl, eq, hs.dn, ?_⟩
    rw [hs.sr, hP.sr, hW.sr, eC]
    show hz t us * ser [t, -1] + Ser.C 1 * Ser.C x = hz t us * (Ser.C t - xp 1) + Ser.C x
    rw [show ser [t, -1] = Ser.C t - xp 1 by
      rw [ser_cons, ser_cons, ser_nil, show (Ser.C (-1 : Int)) = -1 by rw [show (-1 : Int) = 0 - 1 by rfl, C_sub, C_zero, C_one]; grind]; grind, C_one]
    grind
end RR
namespace RR
open PySem PySem.Spec PyProof.Rows L2
theorem kIE260 {M : Type} {Q : D → M → Prop} {m : M} {x y : Str} {b c : Bool} {r : List (Str × Bool)} (n : (y == x) = false) (h : Q (.bl c) m) : kIE ((x, b) :: (y, c) :: r) Q (.exc y) m := v_kIE (by unfold List.lookup; rw [n]; unfold List.lookup; rw [beq_self_eq_true]) h
def b__law_refused_k60 {M : Type} : DS M :=
    (dThen (dSet 3 (dC .non))
    (dThen (dTry ["ByNought", "TooGreat"] 4 3 (dIte (dTst (dBin gEq (dVar 0) (dC (.int 0)))) (dDrop (dCall s_composing_row_of_sums [] (dCons (dVar 1) (dCons (dVar 2) dNil)))) (dIte (dTst (dBin gEq (dVar 0) (dC (.int 1)))) (dDrop (dCall s_composing_row_of_products [] (dCons (dVar 1) (dCons (dVar 2) dNil)))) (dDrop (dCall s_composing_row_of_powers [] (dCons (dVar 1) (dCons (dC (.int 2)) dNil)))))))
    (dRet (dAndV (dIsE [("ByNought", false), ("TooGreat", true)] (dVar 3)) (dIsE [("ByNought", true), ("TooGreat", true)] (dVar 3))))))
def s__law_refused_k60 {M : Type} : DSp M := fun ds m Q Z => ∃ (w : Nat) (xs ys : List Int), ds = [.int w, .tup (zz xs), .tup (zz ys)] ∧ w ≤ 2 ∧ xs.length ≤ 1000 ∧ ys.length ≤ 1000 ∧ (w ≤ 1 → 16 < ((xs.length : Int) - 1) * ((ys.length : Int) - 1)) ∧ (w = 2 → 17 < xs.length) ∧ Q (.bl true) m
theorem vc__law_refused_k60 {M : Type} : ∀ ds (m : M) Q Z, s__law_refused_k60 ds m Q Z → okK [false, false, false] ds ∧ b__law_refused_k60 { nx := fun _ m' => Q .non m', rt := Q, ex := Z } (st0 [false, false, false] ds 5) m := by
  rintro ds m Q Z ⟨w, xs, ys, rfl, hw, lx, ly, h1, h2, k⟩
  refine ⟨⟨fun _ => rfl, fun _ => nl_row xs, fun _ => nl_row ys, trivial⟩, ?_⟩
  unfold b__law_refused_k60
  repeat walk_at "s"
  have fin : ∀ ρ : En, ρ = [.val (.int (w : Int)), .val (.tup (zz xs)), .val (.tup (zz ys)), .val (.exc "TooGreat"), .un] → (dRet (dAndV (dIsE [("ByNought", false), ("TooGreat", true)] (dVar 3)) (dIsE [("ByNought", true), ("TooGreat", true)] (dVar 3))) : DS M) { nx := fun _ m' => Q .non m', rt := Q, ex := Z } ρ m := by
    rintro ρ rfl
    repeat walk_at "s"
    refine kIE260 (by decide) ?_
    refine v_kAV (fun _ => ?_) fun e => absurd e (by decide)
    repeat walk_at "s"
    refine kIE260 (by decide) ?_
    exact k
  match w, hw with
  | 0, _ =>
    repeat walk_at "s"
    rw [decide_eq_true (show ((0 : Nat) : Int) = 0 from rfl)]
    repeat walk_at "s"
    refine ⟨xs, ys, rfl, lx, ly, .inl ⟨h1 (by decide), ?_⟩⟩
    exact ⟨by simp, fin _ (by with_unfolding_all rfl)⟩
  | 1, _ =>
    repeat walk_at "s"
    rw [decide_eq_false (show ¬ ((1 : Nat) : Int) = 0 by decide)]
    repeat walk_at "s"
    rw [decide_eq_true (show ((1 : Nat) : Int) = 1 from rfl)]
    repeat walk_at "s"
    refine ⟨xs, ys, rfl, lx, ly, .inl ⟨h1 (by decide), ?_⟩⟩
    exact ⟨by simp, fin _ (by with_unfolding_all rfl)⟩
  | 2, _ =>
    repeat walk_at "s"
    rw [decide_eq_false (show ¬ ((2 : Nat) : Int) = 0 by decide)]
    repeat walk_at "s"
    rw [decide_eq_false (show ¬ ((2 : Nat) : Int) = 1 by decide)]
    repeat walk_at "s"
    refine ⟨xs, 2, rfl, lx, .inl ⟨h2 rfl, ?_⟩⟩
    exact ⟨by simp, fin _ (by with_unfolding_all rfl)⟩
def b__law_given : DS (Option Nat) :=
    (dThen (dSet 1 (dBin (gIx false) (dLst (dCons (dC (.int 3)) (dCons (dC (.int 9)) (dCons (dC (.int 1000)) (dCons (dBin (gII CPow fun i j => .int (i ^ j.toNat)) (dC (.int 10)) (dC (.int 20))) dNil))))) (dCall s__law_draw [] (dCons (dVar 0) (dCons (dC (.int 4)) dNil)))))
    (dThen (dSet 2 (dLc (dRng1 (dCons (dBin gAdd (dC (.int 1)) (dCall s__law_draw [] (dCons (dVar 0) (dCons (dC (.int 4)) dNil)))) dNil)) (dgN 3) dYes (dBin (g0 fun i j => .int (i - j)) (dCall s__law_draw [] (dCons (dVar 0) (dCons (dBin gAdd (dBin gMul (dC (.int 2)) (dVar 1)) (dC (.int 1))) dNil))) (dVar 1)) [3]))
    (dRet (dB (gSeq .tup) (dCons (dBin gAdd (dVar 2) (dLst (dCons (dBin gAdd (dC (.int 1)) (dCall s__law_draw [] (dCons (dVar 0) (dCons (dVar 1) dNil)))) dNil))) dNil)))))
def s__law_given : DSp (Option Nat) := fun ds m Q Z => ∃ N : Nat, ds = [.hnd hdl] ∧ m = some N ∧ 10 ≤ N ∧ ∀ (xs : List Int) (r : Nat) (a : Int) (N' : Nat), Gd xs r a → N ≤ N' + 7 → Q (.tup (zz xs)) (some N')
theorem vc__law_given : ∀ ds (m : Option Nat) Q Z, s__law_given ds m Q Z → okK [false] ds ∧ b__law_given { nx := fun _ m' => Q .non m', rt := Q, ex := Z } (st0 [false] ds 4) m := by
  rintro ds m Q Z ⟨N, rfl, rfl, hN, k⟩
  refine ⟨⟨fun _ => rfl, trivial⟩, ?_⟩
  unfold b__law_given
  repeat walk_at "s"
  have e20 : (10 : Int) ^ (Int.toNat 20) = 100000000000000000000 := by decide
  try rw [e20]
  refine v_drawN (by omega) (by decide) (by decide) fun w w0 w1 => ?_
  repeat walk_at "s"
  show gIx false (D.lst (zz [3, 9, 1000, 100000000000000000000])) (D.int w) _
  refine v_ixl w0 (by simp; omega) ?_
  obtain ⟨sz, esz, s1, s2⟩ : ∃ s : Int, nth [3, 9, 1000, 100000000000000000000] w = s ∧ 1 ≤ s ∧ s ≤ 100000000000000000000 := by
    rcases (show w = 0 ∨ w = 1 ∨ w = 2 ∨ w = 3 by omega) with rfl | rfl | rfl | rfl
    · exact ⟨3, rfl, by decide, by decide⟩
    · exact ⟨9, rfl, by decide, by decide⟩
    · exact ⟨1000, rfl, by decide, by decide⟩
    · exact ⟨100000000000000000000, rfl, by decide, by decide⟩
  rw [esz]
  have b2 : bd 2 (2 : Int) := by unfold bd; decide
  have bsz : bd 67 sz := by unfold bd; omega
  repeat walk_at "s"
  refine v_drawN (by omega) (by decide) (by decide) fun c c0 c1 => ?_
  repeat walk_at "s"
  refine v_kR1 (by omega) (by omega) ?_
  refine lc_drawn (P := fun y => y.natAbs ≤ 100000000000000000000) (1 + c).toNat 1 _ (by omega) (fun ds N' K L hN' hK => ?_) (by omega) fun xs N' lx px hN' => ?_
  · repeat walk_at "s"
    refine v_drawN hN' (by omega) (by omega) fun y y0 y1 => ?_
    repeat walk_at "s"
    exact hK _ _ (by omega) (Nat.le_refl _)
  repeat walk_at "s"
  refine v_drawN (by omega) (by omega) (by omega) fun y y0 y1 => ?_
  repeat walk_at "s"
  refine v_addlz (xs := xs) (ys := [1 + y]) (by simp; omega) ?_
  repeat walk_at "s"
  refine k (xs ++ [1 + y]) xs.length (1 + y) _ ⟨by simp, by omega, by omega, ?_, by omega, fun x hx => ?_⟩ (by omega)
  · rw [List.getD_eq_getElem?_getD, List.getElem?_append_right (Nat.le_refl _), Nat.sub_self]; rfl
  · rcases List.mem_append.mp hx with h | h
    · have := px x h
      unfold bd
      omega
    · rw [List.mem_singleton.mp h]
      unfold bd
      omega
end RR
namespace RR
open PySem PySem.Spec PyProof.Rows L2
open DK (sm)
theorem rt_of {xs F : List Int} {N r n : Nat} {a D : Int} {R : Rat → Rat} {G : Nat → List Int} (T : Tl N D R F) (gx : Gd xs r a) (n16 : N ≤ 16) (db : bd 600 D) (n1 : 1 ≤ n) (rn : r + n ≤ 15) (gl : ∀ t, t ≤ N → (G t).length = n + 1) (gb : ∀ t, t ≤ N → ∀ x ∈ G t, bd 100 x) (gr : ∀ t, t ≤ N → DK.Rs (DK.qi (ser xs)) r (DK.qi (ser (G t))) n = R ((t : Nat) : Rat)) : Rt xs F D ((List.range (N + 1)).map G) where
  lx := by rw [gx.ln]; have := gx.m1; omega
  bx := fun x hx => bd_mono (gx.hb x hx) (by decide)
  f0 := fun z => by have := T.ln; rw [z] at this; simp at this
  fl := by rw [T.ln]; simp
  f17 := by rw [T.ln]; omega
  gc := T.gc
  ps := by rw [T.ln, Nat.add_sub_cancel]; exact T.ps
  fb := T.hb
  db := db
  all := fun k G' hG => by
    rw [List.getElem?_map] at hG
    have hk : k < N + 1 := by
      refine Nat.not_le.mp fun c => ?_
      rw [List.getElem?_eq_none (by simpa using c)] at hG
      cases hG
    rw [List.getElem?_range hk] at hG
    cases hG
    have g1 := gl k (by omega)
    refine ⟨by omega, by rw [gx.ln]; omega, gb k (by omega), ?_⟩
    have e := T.at_ ((k : Nat) : Rat)
    rw [gx.ln, g1, Nat.add_sub_cancel, Nat.add_sub_cancel, gr k (by omega), T.ln, Nat.add_sub_cancel, e, wvI_rat, T.ln]
    rfl
def wt (ys : List Int) (t : Nat) : List Int := (List.range ys.length).map (hz (t : Int) ys).co
theorem wt_ser (ys : List Int) (t : Nat) : ser (wt ys t) = hz (t : Int) ys := Ser.ext fun k => by
  rw [ser_co]
  unfold wt
  by_cases h : k < ys.length
  · rw [List.getD_eq_getElem?_getD, List.getElem?_map, List.getElem?_range h]; rfl
  · rw [getD_far (by simp; omega), hz_far _ _ k (by omega)]
theorem wt_done {ys : List Int} {n : Nat} {b : Int} (g : Gd ys n b) (t : Nat) : done (wt ys t) := done_of_last (by
  have ln := g.ln
  have e : (wt ys t).length = n + 1 := by unfold wt; simp [ln]
  have h := hz_top (t : Int) ys (fun z => by rw [z] at ln; simp at ln)
  rw [ln, Nat.add_sub_cancel, g.la] at h
  rw [e, Nat.add_sub_cancel, ← ser_co, wt_ser]
  exact h.resolve_right g.a0)
theorem wt_uniq {ys W : List Int} {n : Nat} {b : Int} (g : Gd ys n b) {t : Nat} (h : R (hz (t : Int) ys) W) : W = wt ys t := done_uniq h.dn (wt_done g t) (by rw [h.sr, wt_ser])
theorem hz_bd16 {t : Nat} {e : Nat} (ht : t ≤ 16) : ∀ xs : List Int, (∀ x ∈ xs, bd e x) → ∀ k, bd (e + 5 * xs.length) ((hz (t : Int) xs).co k)
  | [], _, k => by
    show bd _ ((0 : Ser Int).co k)
    rw [zero_co]
    unfold bd
    exact Nat.pow_pos (by decide)
  | x :: xs, h, k => by
    have ih := hz_bd16 ht xs fun y hy => h y (List.mem_cons_of_mem _ hy)
    have i1 := ih k
    have i2 : ((if 1 ≤ k then (hz (t : Int) xs).co (k - 1) else 0 : Int)).natAbs < 2 ^ (e + 5 * xs.length) := by
      split
      · exact ih _
      · exact Nat.pow_pos (by decide)
    have i3 : ((if k = 0 then x else 0 : Int)).natAbs < 2 ^ (e + 5 * xs.length) := by
      split
      · exact Nat.lt_of_lt_of_le (h x (List.mem_cons_self ..)) (Nat.pow_le_pow_right (by decide) (by omega))
      · exact Nat.pow_pos (by decide)
    rw [hz_co]
    unfold bd at i1 ⊢
    rw [List.length_cons, show e + 5 * (xs.length + 1) = e + 5 * xs.length + 5 by omega, Nat.pow_add]
    have e1 : ((t : Int) * (hz (t : Int) xs).co k).natAbs ≤ 16 * ((hz (t : Int) xs).co k).natAbs := by
      rw [Int.natAbs_mul]
      exact Nat.mul_le_mul_right _ (by omega)
    generalize ((t : Int) * (hz (t : Int) xs).co k) = A at e1 ⊢
    generalize (if 1 ≤ k then (hz (t : Int) xs).co (k - 1) else 0 : Int) = B at i2 ⊢
    generalize (if k = 0 then x else 0 : Int) = C at i3 ⊢
    generalize 2 ^ (e + 5 * xs.length) = P at i1 i2 i3 ⊢
    omega
theorem wt_bd {ys : List Int} {n : Nat} {b : Int} (g : Gd ys n b) {t : Nat} (ht : t ≤ 16) : ∀ x ∈ wt ys t, bd 100 x := fun x hx => by
  unfold wt at hx
  obtain ⟨k, _, rfl⟩ := List.mem_map.mp hx
  have := g.ln
  have := g.m4
  exact bd_mono (hz_bd16 ht ys g.hb k) (by omega)
def wd (ys : List Int) (t : Nat) : List Int := ((List.range ys.length).map fun k : Nat => nth ys (k : Int) * (t : Int) ^ k).reverse
theorem wd_q {ys : List Int} {n : Nat} (ln : ys.length = n + 1) (t : Nat) : DK.qi (ser (wd ys t)) = DK.wide n (DK.qi (ser ys)) ((t : Nat) : Rat) := Ser.ext fun k => by
  rw [DK.mp_co, ser_co]
  show _ = if k ≤ n then (((ser ys).co (n - k) : Int) : Rat) * ((t : Nat) : Rat) ^ (n - k) else 0
  unfold wd
  by_cases h : k ≤ n
  · rw [if_pos h, List.getD_eq_getElem?_getD, List.getElem?_reverse (by simp; omega), List.length_map, List.length_range, List.getElem?_map, List.getElem?_range (by omega), ln, show n + 1 - 1 - k = n - k by omega, ser_co]
    show ((nth ys ((n - k : Nat) : Int) * (t : Int) ^ (n - k) : Int) : Rat) = _
    rw [Rat.intCast_mul, Rat.intCast_pow]; rfl
  · rw [if_neg h, getD_far (by simp; omega)]; rfl
theorem wd_bd {ys : List Int} {n : Nat} {b : Int} (g : Gd ys n b) {t : Nat} (ht : t ≤ 16) : ∀ x ∈ wd ys t, bd 100 x := fun x hx => by
  unfold wd at hx
  obtain ⟨k, hk, rfl⟩ := List.mem_map.mp (List.mem_reverse.mp hx)
  have hk := List.mem_range.mp hk
  have := g.ln
  have := g.m4
  have h1 := g.hb _ (nth_mem (xs := ys) (i := (k : Int)) (by omega) (by omega))
  have h2 := bd_powL (x := (t : Int)) (a := 5) (by unfold bd; omega) k
  unfold bd at h1 ⊢
  rw [Int.natAbs_mul]
  have h3 : (nth ys k).natAbs * ((t : Int) ^ k).natAbs < 2 ^ 67 * 2 ^ (5 * k) := Nat.mul_lt_mul_of_lt_of_le h1 h2 (Nat.pow_pos (by decide))
  rw [← Nat.pow_add] at h3
  exact Nat.lt_of_lt_of_le h3 (Nat.pow_le_pow_right (by decide) (by omega))
def wp (k t : Nat) : List Int := ([(t : Int)] ++ List.replicate (k - 1) 0) ++ [-1]
theorem wp_len {k : Nat} (h : 1 ≤ k) (t : Nat) : (wp k t).length = k + 1 := by unfold wp; simp; omega
theorem wp_q {k : Nat} (h : 1 ≤ k) (t : Nat) : DK.qi (ser (wp k t)) = DK.mono k ((t : Nat) : Rat) := Ser.ext fun j => by
  rw [DK.mp_co, ser_co]
  unfold DK.mono wp
  rw [Ser.sub_co, Ser.C_co, xp_co]
  by_cases j0 : j = 0
  · subst j0
    rw [if_pos rfl, if_neg (by omega)]
    show ((t : Int) : Rat) = ((t : Nat) : Rat) - 0
    rw [Rat.intCast_natCast]; grind
  · rw [if_neg j0]
    by_cases jk : j = k
    · subst jk
      rw [if_pos rfl, List.getD_eq_getElem?_getD, List.getElem?_append_right (by simp; omega)]
      have : j - ([(t : Int)] ++ List.replicate (j - 1) 0).length = 0 := by simp; omega
      rw [this]
      show (-1 : Rat) = 0 - 1
      grind
    · rw [if_neg jk]
      have : (([(t : Int)] ++ List.replicate (k - 1) 0) ++ [-1]).getD j 0 = 0 := by
        by_cases c : j < k
        · rw [List.getD_eq_getElem?_getD, List.getElem?_append_left (by simp; omega), List.getElem?_append_right (by simp; omega), List.getElem?_replicate]
          split <;> rfl
        · rw [getD_far (by simp; omega)]
      rw [this]
      show (0 : Rat) = 0 - 0
      grind
theorem wp_bd {k t : Nat} (ht : t ≤ 16) : ∀ x ∈ wp k t, bd 100 x := fun x hx => by
  unfold wp at hx
  simp only [List.mem_append, List.mem_cons, List.not_mem_nil, or_false, List.mem_replicate] at hx
  rcases hx with (rfl | ⟨_, rfl⟩) | rfl
  · exact bd_mono (a := 5) (by unfold bd; omega) (by decide)
  · exact bd_lit (by decide)
  · exact bd_lit (by decide)
theorem v_ixc {ds : List D} {i : Nat} {d : D} {q : D → Prop} (h : ds[i]? = some d) (k : q d) : gIx false (.lst ds) (.int (i : Int)) q := by
  unfold gIx
  dsimp only
  rw [at_nat h]
  exact ⟨fun z => (nomatch z), k⟩
def b_law : DS (Option Nat) :=
    (dThen (dSet 1 (dCall s__law_begun [] (dCons (dBor 0) dNil)))
    (dThen (dFor (dRng1 (dCons (dB (gI2 imin) (dCons (dC (.int 4)) (dCons (dBin gAdd (dC (.int 1)) (dBin (gII Nd fun i j => .int (i.fdiv j)) (dB gLen (dCons (dBor 0) dNil)) (dC (.int 3)))) dNil))) dNil)) (dgN 2)
      (dThen (dSet 3 (dCall s__law_given [] (dCons (dVar 1) dNil)))
    (dThen (dSet 4 (dCall s__law_given [] (dCons (dVar 1) dNil)))
    (dThen (dSet 5 (dBin gAdd (dBin gMul (dBin (g0 fun i j => .int (i - j)) (dB gLen (dCons (dVar 3) dNil)) (dC (.int 1))) (dBin (g0 fun i j => .int (i - j)) (dB gLen (dCons (dVar 4) dNil)) (dC (.int 1)))) (dC (.int 1))))
    (dThen (dSet 6 (dBin gMul (dCall s__law_raised [] (dCons (dBin (gIx false) (dVar 3) (dNeg (dC (.int 1)))) (dCons (dBin (g0 fun i j => .int (i - j)) (dB gLen (dCons (dVar 4) dNil)) (dC (.int 1))) dNil))) (dCall s__law_raised [] (dCons (dBin (gIx false) (dVar 4) (dNeg (dC (.int 1)))) (dCons (dBin (g0 fun i j => .int (i - j)) (dB gLen (dCons (dVar 3) dNil)) (dC (.int 1))) dNil)))))
    (dThen (dIte (dNot (dVal (dCall s__law_right [] (dCons (dCall s_composing_row_of_sums [] (dCons (dVar 3) (dCons (dVar 4) dNil))) (dCons (dVar 3) (dCons (dLc (dRng1 (dCons (dVar 5) dNil)) (dgN 8) dYes (dCall s__law_turned_at [] (dCons (dVar 4) (dCons (dVar 8) dNil))) [8]) (dCons (dVar 6) dNil)))))))
      (dRet (dC (.bl false)))
      dNext)
    (dThen (dSetO 7 (dLst dNil))
    (dThen (dFor (dRng1 (dCons (dVar 5) dNil)) (dgN 8)
      (dAppL 7 (dRvs (dLc (dEnum false (dVar 4)) (dgT 2 (dgCons (dgN 9) (dgCons (dgN 13) dgNil))) dYes (dBin gMul (dVar 13) (dCall s__law_raised [] (dCons (dVar 8) (dCons (dVar 9) dNil)))) [9, 13]))))
    (dRel 7 (dThen (dIte (dNot (dVal (dCall s__law_right [] (dCons (dCall s_composing_row_of_products [] (dCons (dVar 3) (dCons (dVar 4) dNil))) (dCons (dVar 3) (dCons (dVar 7) (dCons (dVar 6) dNil)))))))
      (dRet (dC (.bl false)))
      dNext)
    (dThen (dSet 9 (dBin gAdd (dC (.int 1)) (dCall s__law_draw [] (dCons (dVar 1) (dCons (dC (.int 8)) dNil)))))
    (dThen (dSet 10 (dLc (dRng1 (dCons (dB gLen (dCons (dVar 3) dNil)) dNil)) (dgN 8) dYes (dBin gAdd (dBin gAdd (dLst (dCons (dVar 8) dNil)) (dBin gMul (dLst (dCons (dC (.int 0)) dNil)) (dBin (g0 fun i j => .int (i - j)) (dVar 9) (dC (.int 1))))) (dLst (dCons (dNeg (dC (.int 1))) dNil))) [8]))
    (dThen (dIte (dNot (dVal (dCall s__law_right [] (dCons (dCall s_composing_row_of_powers [] (dCons (dVar 3) (dCons (dVar 9) dNil))) (dCons (dVar 3) (dCons (dVar 10) (dCons (dCall s__law_raised [] (dCons (dBin (gIx false) (dVar 3) (dNeg (dC (.int 1)))) (dCons (dVar 9) dNil))) dNil)))))))
      (dRet (dC (.bl false)))
      dNext)
    (dThen (dSet 11 (dB (gSeq .tup) (dCons (dLc (dRng1 (dCons (dC (.int 18)) dNil)) (dgN 14) dYes (dBin gAdd (dC (.int 1)) (dCall s__law_draw [] (dCons (dVar 1) (dCons (dC (.int 5)) dNil)))) [14]) dNil)))
    (dThen (dSet 12 (dBin (gIx false) (dLst (dCons (dTup (dCons (dSl (dVar 11) dONone (dOSome (dC (.int 5)))) (dCons (dSl (dVar 11) dONone (dOSome (dC (.int 6)))) dNil))) (dCons (dTup (dCons (dVar 11) (dCons (dTup (dCons (dC (.int 1)) (dCons (dC (.int 1)) dNil))) dNil))) (dCons (dTup (dCons (dSl (dVar 11) dONone (dOSome (dC (.int 10)))) (dCons (dSl (dVar 11) dONone (dOSome (dC (.int 3)))) dNil))) dNil)))) (dCall s__law_draw [] (dCons (dVar 1) (dCons (dC (.int 3)) dNil)))))
    (dThen (dIte (dOr (dNot (dVal (dCall s__law_refused_k60 [] (dCons (dC (.int 0)) (dCons (dBin (gIx false) (dVar 12) (dC (.int 0))) (dCons (dBin (gIx false) (dVar 12) (dC (.int 1))) dNil)))))) (dNot (dVal (dCall s__law_refused_k60 [] (dCons (dC (.int 1)) (dCons (dBin (gIx false) (dVar 12) (dC (.int 1))) (dCons (dBin (gIx false) (dVar 12) (dC (.int 0))) dNil)))))))
      (dRet (dC (.bl false)))
      dNext)
    (dIte (dNot (dVal (dCall s__law_refused_k60 [] (dCons (dC (.int 2)) (dCons (dVar 11) (dCons (dVar 11) dNil))))))
      (dRet (dC (.bl false)))
      dNext)))))))))))))))))
    (dRet (dC (.bl true)))))
theorem vc_law : ∀ ds (m : Option Nat) Q Z, s_law ds m Q Z → okK [true] ds ∧ b_law { nx := fun _ m' => Q .non m', rt := Q, ex := Z } (st0 [true] ds 15) m := by
  rintro ds m Q Z ⟨ns, rfl, hl, rfl, k⟩
  refine ⟨⟨fun h => (nomatch h), trivial⟩, ?_⟩
  unfold b_law
  repeat walk_at "s"
  refine ⟨ns, rfl, hl, rfl, ?_⟩
  have p50 : (2 : Nat) ^ 50 = 1125899906842624 := by decide
  rw [p50]
  repeat walk_at "s"
  refine v_fdivb (b := 3) (by decide) (bd_lit (by decide)) (by decide) ?_
  repeat walk_at "s"
  have f0 : 0 ≤ (ns.length : Int).fdiv 3 := Int.fdiv_nonneg (by omega) (by decide)
  obtain ⟨T, hT, T4⟩ : ∃ T : Nat, (imin 4 (1 + (ns.length : Int).fdiv 3)).toNat = T ∧ T ≤ 4 := ⟨_, rfl, by unfold imin; split <;> omega⟩
  refine v_kR1 (by unfold imin; split <;> omega) (by unfold imin; split <;> omega) ?_
  rw [hT]
  refine v_kforR T (fun j ρ m' => ∃ (N : Nat) (a2 a3 a4 a5 a6 a7 a8 a9 a10 a11 a12 a13 a14 : Sl), m' = some N ∧ 200 ≤ N + j * 40 ∧ ρ = [.bor (.lst (zz ns)), .val (.hnd hdl), a2, a3, a4, a5, a6, a7, a8, a9, a10, a11, a12, a13, a14]) ⟨_, .un, .un, .un, .un, .un, .un, .un, .un, .un, .un, .un, .un, .un, rfl, by omega, by with_unfolding_all rfl⟩ (fun ρ m' H => ?_) fun j ρ m' hj H => ?_
  · obtain ⟨N, a2, a3, a4, a5, a6, a7, a8, a9, a10, a11, a12, a13, a14, rfl, hN, rfl⟩ := H
    repeat walk_at "s"
    exact k _
  obtain ⟨N, a2, a3, a4, a5, a6, a7, a8, a9, a10, a11, a12, a13, a14, rfl, hN, rfl⟩ := H
  rw [Int.zero_add]
  repeat walk_at "s"
  refine ⟨N, rfl, rfl, by omega, fun xs r a N1 gx h1 => ?_⟩
  repeat walk_at "s"
  refine ⟨N1, rfl, rfl, by omega, fun ys n b N2 gy h2 => ?_⟩
  have er := gx.ln
  have en := gy.ln
  have r1 := gx.m1
  have n1 := gy.m1
  have r4 := gx.m4
  have n4 := gy.m4
  have rn : r * n ≤ 16 := Nat.mul_le_mul r4 n4
  have x0 : xs ≠ [] := fun z => by rw [z] at er; simp at er
  have y0 : ys ≠ [] := fun z => by rw [z] at en; simp at en
  have bx := bd_len (xs := xs) (by omega)
  have by' := bd_len (xs := ys) (by omega)
  have lx : xs.getD (xs.length - 1) 0 = a := by rw [er, Nat.add_sub_cancel]; exact gx.la
  have ly : ys.getD (ys.length - 1) 0 = b := by rw [en, Nat.add_sub_cancel]; exact gy.la
  have ix : (xs.length : Int) - 1 = ((r : Nat) : Int) := by omega
  have iy : (ys.length : Int) - 1 = ((n : Nat) : Int) := by omega
  repeat walk_at "s"
  rw [show ((xs.length : Int) - 1) * ((ys.length : Int) - 1) + 1 = ((r * n + 1 : Nat) : Int) by rw [ix, iy]; push_cast; omega]
  refine v_ixm x0 ?_
  rw [lx]
  repeat walk_at "s"
  rw [iy]
  refine ⟨a, n, rfl, bd_mono gx.ab (by decide), by omega, ?_⟩
  repeat walk_at "s"
  refine v_ixm y0 ?_
  rw [ly]
  repeat walk_at "s"
  rw [ix]
  refine ⟨b, r, rfl, bd_mono gy.ab (by decide), by omega, ?_⟩
  have pa := bd_powS gx.ab n n1
  have pb := bd_powS gy.ab r r1
  have D536 := gx.dl gy
  refine v_mulb pa pb (by omega) ?_
  repeat walk_at "s"
  refine ⟨xs, ys, rfl, by omega, by omega, .inr ⟨r, n, a, b, gx, gy, rn, fun F1 T1 => ?_⟩⟩
  repeat walk_at "s"
  refine v_kR1 (by omega) (by omega) ?_
  rw [Int.toNat_natCast]
  refine lc_rD (f := fun t => D.lst (zz (wt ys t))) (r * n + 1) (fun t ht m1 K L hK => ?_) (by omega) ?_
  · repeat walk_at "s"
    refine ⟨ys, (t : Int), 67, rfl, by omega, gy.hb, by decide, by unfold bd; omega, fun W hW => ?_⟩
    rw [wt_uniq gy hW]
    exact hK
  repeat walk_at "s"
  have G1 := rt_of (G := wt ys) T1 gx rn (bd_mono D536 (by decide)) n1 (by omega) (fun t _ => by unfold wt; simp [en]) (fun t ht => wt_bd gy (by omega)) (fun t ht => by rw [turn_of en (wt_ser ys t)]; rfl)
  refine ⟨xs, F1, _, (List.range (r * n + 1)).map (wt ys), by rw [List.map_map]; rfl, G1, ?_⟩
  repeat walk_at "s"
  try ((with_reducible show @ite _ _ _ _ _); refine v_ifF ?_)
  repeat walk_at "s"
  refine v_kO (by rfl) ?_
  repeat walk_at "s"
  refine v_kR1 (by omega) (by omega) ?_
  rw [Int.toNat_natCast]
  refine v_kforR (r * n + 1) (fun t ρ m' => m' = some N2 ∧ ∃ (b8 b9 b10 b11 b12 b13 b14 : Sl), ρ = [.bor (.lst (zz ns)), .val (.hnd hdl), .val (.int (j : Nat)), .val (.tup (zz xs)), .val (.tup (zz ys)), .val (.int ((r * n + 1 : Nat) : Int)), .val (.int (a ^ n * b ^ r)), .own ((List.range t).map fun t => D.lst (zz (wd ys t))), b8, b9, b10, b11, b12, b13, b14]) ⟨rfl, _, _, _, _, _, _, _, by with_unfolding_all rfl⟩ (fun ρ m' H => ?_) fun t ρ m' ht H => ?_
  rotate_left
  · obtain ⟨rfl, b8, b9, b10, b11, b12, b13, b14, rfl⟩ := H
    rw [Int.zero_add]
    have bt : bd 5 (t : Int) := by unfold bd; omega
    repeat walk_at "s"
    refine v_appL rfl ?_
    repeat walk_at "s"
    refine lc_enum (f := fun k x => x * (t : Int) ^ k) ys (fun i hi m1 K L hK => ?_) (by omega) ?_
    · have yb := gy.hb _ (nth_mem (xs := ys) (i := (i : Int)) (by omega) (by omega))
      have pt := bd_powL bt i
      have pt2 : bd 31 ((t : Int) ^ i) := by unfold bd; exact Nat.lt_of_le_of_lt pt (Nat.pow_lt_pow_right (by decide) (by omega))
      repeat walk_at "s"
      refine ⟨(t : Int), i, rfl, bd_mono bt (by decide), by omega, ?_⟩
      refine v_mulb yb pt2 (by decide) ?_
      exact hK
    repeat walk_at "s"
    refine ⟨small_line (by simp; omega), rfl, .val (.int (t : Nat)), b9, b10, b11, b12, b13, b14, ?_⟩
    rw [List.range_succ, List.map_append, List.map_cons, List.map_nil]
    with_unfolding_all rfl
  obtain ⟨rfl, b8, b9, b10, b11, b12, b13, b14, rfl⟩ := H
  repeat walk_at "s"
  refine ⟨xs, ys, rfl, by omega, by omega, .inr ⟨r, n, a, b, gx, gy, rn, fun F2 T2 => ?_⟩⟩
  repeat walk_at "s"
  have G2 := rt_of (G := wd ys) T2 gx rn (bd_mono D536 (by decide)) n1 (by omega) (fun t _ => by unfold wd; simp [en]) (fun t ht => wd_bd gy (by omega)) (fun t ht => by rw [wd_q en t])
  refine ⟨xs, F2, _, (List.range (r * n + 1)).map (wd ys), by rw [List.map_map]; rfl, G2, ?_⟩
  repeat walk_at "s"
  try ((with_reducible show @ite _ _ _ _ _); refine v_ifF ?_)
  repeat walk_at "s"
  refine v_drawN (by omega) (by decide) (by decide) fun c c0 c1 => ?_
  obtain ⟨kk, ek, k1, k8⟩ : ∃ kk : Nat, 1 + c = ((kk : Nat) : Int) ∧ 1 ≤ kk ∧ kk ≤ 8 := ⟨(1 + c).toNat, by omega, by omega, by omega⟩
  repeat walk_at "s"
  rw [ek]
  refine v_kR1 (by omega) (by omega) ?_
  rw [Int.toNat_natCast]
  refine lc_rD (f := fun t => D.lst (zz (wp kk t))) xs.length (fun t ht m1 K L hK => ?_) (by omega) ?_
  · repeat walk_at "s"
    refine v_repl1 (by omega) (by omega) ?_
    rw [show (((kk : Nat) : Int) - 1).toNat = kk - 1 by omega]
    refine v_addlz (xs := [(t : Int)]) (ys := List.replicate (kk - 1) 0) (by simp; omega) ?_
    repeat walk_at "s"
    refine v_addlz (ys := [-1]) (by simp; omega) ?_
    exact hK
  repeat walk_at "s"
  refine ⟨xs, kk, rfl, by omega, .inr ⟨r, a, gx, k1, k8, fun F3 T3 => ?_⟩⟩
  repeat walk_at "s"
  refine v_ixm x0 ?_
  rw [lx]
  repeat walk_at "s"
  refine ⟨a, kk, rfl, bd_mono gx.ab (by decide), by omega, ?_⟩
  have pk := bd_powS gx.ab kk k1
  have G3 := rt_of (G := wp kk) T3 gx (by omega) (bd_mono pk (by omega)) k1 (by omega) (fun t _ => wp_len k1 t) (fun t ht => wp_bd (by omega)) (fun t ht => by rw [wp_q k1 t])
  repeat walk_at "s"
  refine ⟨xs, F3, _, (List.range (r + 1)).map (wp kk), by rw [List.map_map, ← er]; rfl, G3, ?_⟩
  repeat walk_at "s"
  try ((with_reducible show @ite _ _ _ _ _); refine v_ifF ?_)
  repeat walk_at "s"
  refine lc_drawn (P := fun _ => True) 18 1 _ (by omega) (fun ds N' K L hN' hK => ?_) (by decide) fun gs N3 lg _ hN3 => ?_
  · repeat walk_at "s"
    refine v_drawN hN' (by decide) (by decide) fun y y0 y1 => ?_
    repeat walk_at "s"
    exact hK _ _ trivial (Nat.le_refl _)
  repeat walk_at "s"
  rw [cutD_zz, cutD_zz, cutD_zz, cutD_zz, cutZ_to (by decide), cutZ_to (by decide), cutZ_to (by decide), cutZ_to (by decide)]
  refine v_drawN (by omega) (by decide) (by decide) fun w w0 w1 => ?_
  obtain ⟨u, v, lu, lv, pw, he⟩ : ∃ u v : List Int, u.length ≤ 1000 ∧ v.length ≤ 1000 ∧ 16 < ((u.length : Int) - 1) * ((v.length : Int) - 1) ∧
      [D.tup [D.tup (zz (gs.take (Int.toNat 5))), D.tup (zz (gs.take (Int.toNat 6)))], D.tup [D.tup (zz gs), D.tup [D.int 1, D.int 1]], D.tup [D.tup (zz (gs.take (Int.toNat 10))), D.tup (zz (gs.take (Int.toNat 3)))]][w.toNat]? = some (D.tup [D.tup (zz u), D.tup (zz v)]) := by
    have l5 : (gs.take (Int.toNat 5)).length = 5 := by rw [List.length_take, lg]; rfl
    have l6 : (gs.take (Int.toNat 6)).length = 6 := by rw [List.length_take, lg]; rfl
    have l10 : (gs.take (Int.toNat 10)).length = 10 := by rw [List.length_take, lg]; rfl
    have l3 : (gs.take (Int.toNat 3)).length = 3 := by rw [List.length_take, lg]; rfl
    rcases (show w = 0 ∨ w = 1 ∨ w = 2 by omega) with rfl | rfl | rfl
    · exact ⟨_, _, by omega, by omega, by rw [l5, l6]; decide, rfl⟩
    · exact ⟨gs, [1, 1], by omega, by simp, by rw [lg]; decide, rfl⟩
    · exact ⟨_, _, by omega, by omega, by rw [l10, l3]; decide, rfl⟩
  rw [show w = ((w.toNat : Nat) : Int) by omega]
  refine v_ixc he ?_
  repeat walk_at "s"
  refine ⟨0, u, v, rfl, by decide, lu, lv, fun _ => pw, fun z => absurd z (by decide), ?_⟩
  repeat walk_at "s"
  try ((with_reducible show @ite _ _ _ _ _); refine v_ifF ?_)
  repeat walk_at "s"
  refine ⟨1, v, u, rfl, by decide, lv, lu, fun _ => by rw [Int.mul_comm]; exact pw, fun z => absurd z (by decide), ?_⟩
  repeat walk_at "s"
  try ((with_reducible show @ite _ _ _ _ _); refine v_ifF ?_)
  repeat walk_at "s"
  refine ⟨2, gs, gs, rfl, by decide, by omega, by omega, fun z => absurd z (by decide), fun _ => by omega, ?_⟩
  repeat walk_at "s"
  try ((with_reducible show @ite _ _ _ _ _); refine v_ifF ?_)
  repeat walk_at "s"
  exact ⟨N3 - 1, _, _, _, _, _, _, _, _, _, _, _, _, _, rfl, by omega, by with_unfolding_all rfl⟩
end RR
namespace RR
open PySem PySem.Spec PyProof.Rows L2
section
variable {P : Program} {w : World} {K : PySem.W.Frag} {mg : Str → Option Value} {base : Heap} {W : Wd}
abbrev st__law_folded : Stmt := topS 27
def N__law_folded : List Str := ["_law_script", "_law_found", "_law_k", "_law_cell"]
theorem sc__law_folded : FnScope N__law_folded ["_law_script"] (defScope st__law_folded) := ⟨rfl, rfl, rfl, by decide +kernel, rfl, by decide +kernel, by decide +kernel⟩
theorem w__law_folded (m_enumerate : mg "enumerate" = none) (m_range : mg "range" = none) : BodyJ P w K mg base W 0 N__law_folded "_law_folded" st__law_folded b__law_folded := by
  intro f cdv A outer s H E F0 hr
  have nd : N__law_folded.Nodup := by decide +kernel
  have tk := takes_of (X := XOf P w K mg base N__law_folded "_law_folded" (defScope st__law_folded) f cdv A outer s H E) rfl rfl rfl rfl
  have hp := passes_of (X := XOf P w K mg base N__law_folded "_law_folded" (defScope st__law_folded) f cdv A outer s H E) rfl
  exact (jls_of (jss_cons (js_setLcO 1 rfl nd (own := [("_law_k", 2)]) (ws := [2]) (ji_range1 (st := false) m_range (ja_cons ncl_w (j_int).fw ja_nil)) (blkOk_by (N := N__law_folded) (sc := defScope st__law_folded) (by decide +kernel)) (fun _ _ _ _ _ => (jg_name 2 nd)) (fun _ _ _ _ _ => jts_nil) (fun _ _ _ _ _ => ((j_bind okd_add (j_int).fd ((j_var 2)).sd)).sf) (by decide))
    (jss_cons (js_for hp rfl (ji_enumb 0 m_enumerate) (jg_tup rfl (jgs_cons (jg_name 2 nd) (jgs_cons (jg_name 3 nd) jgs_nil)))
      (jss_one (js_seti 1 ((j_bin ok_mod ((j_bind okd_add ((j_bind okd_mul ((j_ixw (j_own 1) ((j_bin ok_mod ((j_var 2)).sw (j_int).fw)).fw)).sd (j_int).fd)).fd ((j_var 3)).sd)).fw (j_int).fw)).sf ((j_bin ok_mod ((j_var 2)).sw (j_int).fw)).fw)))
    (jss_cons (js_for hp rfl (ji_range2 (st := true) m_range (ja_cons ncl_w (j_int).fw (ja_cons ncl_w (j_int).fw ja_nil))) (jg_name 2 nd)
      (jss_one (js_seti 1 ((j_bin ok_mod ((j_bind okd_add ((j_ixw (j_own 1) ((j_var 2)).sw)).sd ((j_bind okd_mul ((j_ixw (j_own 1) ((j_bin ok_sub ((j_var 2)).sw (j_int).fw)).fw)).sd (j_int).fd)).fd)).fw (j_int).fw)).sf ((j_var 2)).sw)))
    (jss_one (js_ret (j_ownr 1)))))))
abbrev st__law_mixed : Stmt := topS 26
def N__law_mixed : List Str := ["_law_cell", "_law_k", "_law_number"]
theorem sc__law_mixed : FnScope N__law_mixed ["_law_cell", "_law_k"] (defScope st__law_mixed) := ⟨rfl, rfl, rfl, by decide +kernel, rfl, by decide +kernel, by decide +kernel⟩
theorem w__law_mixed  : BodyJ P w K mg base W 0 N__law_mixed "_law_mixed" st__law_mixed b__law_mixed := by
  intro f cdv A outer s H E F0 hr
  have nd : N__law_mixed.Nodup := by decide +kernel
  have tk := takes_of (X := XOf P w K mg base N__law_mixed "_law_mixed" (defScope st__law_mixed) f cdv A outer s H E) rfl rfl rfl rfl
  have hp := passes_of (X := XOf P w K mg base N__law_mixed "_law_mixed" (defScope st__law_mixed) f cdv A outer s H E) rfl
  exact (jls_of (jss_cons (js_set 2 nd ((j_bind okd_add ((j_bind okd_add ((j_bin ok_mod ((j_bind okd_mul ((j_bind okd_mul ((j_var 0)).sd ((j_bind okd_add (j_int).fd ((j_bind okd_mul (j_int).fd ((j_var 1)).sd)).fd)).fd)).fd (j_int).fd)).fw (j_int).fw)).fd ((j_bind okd_mul ((j_bind okd_mul (j_int).fd ((j_var 1)).sd)).fd ((j_var 1)).sd)).fd)).fd ((j_bind okd_mul (j_int).fd ((j_var 1)).sd)).fd)).sf)
    (jss_one (js_ret ((j_bin ok_fdiv ((j_bin ok_mod ((j_bind okd_mul ((j_var 2)).sd (j_int).fd)).fw (j_int).fw)).fw (j_int).fw)).fr))))
abbrev st__law_given : Stmt := topS 35
def N__law_given : List Str := ["_law_m", "_law_size", "_law_numbers", "_law_k"]
theorem sc__law_given : FnScope N__law_given ["_law_m"] (defScope st__law_given) := ⟨rfl, rfl, rfl, by decide +kernel, rfl, by decide +kernel, by decide +kernel⟩
theorem w__law_given (m_range : mg "range" = none) (m_tuple : mg "tuple" = none) (h__law_draw : FD P w K mg base DrW 2 "_law_draw" [] s__law_draw) : BodyJ P w K mg base DrW 2 N__law_given "_law_given" st__law_given b__law_given := by
  intro f cdv A outer s H E F0 hr
  have nd : N__law_given.Nodup := by decide +kernel
  have tk := takes_of (X := XOf P w K mg base N__law_given "_law_given" (defScope st__law_given) f cdv A outer s H E) rfl rfl rfl rfl
  have hp := passes_of (X := XOf P w K mg base N__law_given "_law_given" (defScope st__law_given) f cdv A outer s H E) rfl
  exact (jls_of (jss_cons (js_set 1 nd (j_ix ((j_lst (ja_cons ncl_s (j_int).sf (ja_cons ncl_s (j_int).sf (ja_cons ncl_s (j_int).sf (ja_cons ncl_s ((j_bin ok_pow (j_int).fw (j_int).fw)).sf ja_nil)))))).sf ((j_call h__law_draw (hr.mono (by decide)) tk (by rfl) (ja_cons ncl_w ((j_var 0)).sw (ja_cons ncl_w (j_int).fw ja_nil)))).fw))
    (jss_cons (js_setLc 2 rfl nd (own := [("_law_k", 3)]) (ws := [3]) (ji_range1 (st := false) m_range (ja_cons ncl_w ((j_bind okd_add (j_int).fd ((j_call h__law_draw (hr.mono (by decide)) tk (by rfl) (ja_cons ncl_w ((j_var 0)).sw (ja_cons ncl_w (j_int).fw ja_nil)))).fd)).fw ja_nil)) (blkOk_by (N := N__law_given) (sc := defScope st__law_given) (by decide +kernel)) (fun _ _ _ _ _ => (jg_name 3 nd)) (fun _ _ _ _ _ => jts_nil) (fun _ _ _ _ _ => ((j_bin ok_sub ((j_call h__law_draw (hr.mono (by decide)) takes0 (by rfl) (ja_cons ncl_w ((j_var 0)).sw (ja_cons ncl_w ((j_bind okd_add ((j_bind okd_mul (j_int).fd ((j_var 1)).sd)).fd (j_int).fd)).fw ja_nil)))).fw ((j_var 1)).sw)).sf) (by decide))
    (jss_one (js_ret ((j_callTy ca_tuple m_tuple (by decide +kernel) (ja_cons ncl_w ((j_bind okd_add ((j_var 2)).sd ((j_lst (ja_cons ncl_s ((j_bind okd_add (j_int).fd ((j_call h__law_draw (hr.mono (by decide)) tk (by rfl) (ja_cons ncl_w ((j_var 0)).sw (ja_cons ncl_w ((j_var 1)).sw ja_nil)))).fd)).sf ja_nil))).fd)).fw ja_nil))).fr)))))
abbrev st__law_raised : Stmt := topS 34
def N__law_raised : List Str := ["_law_number", "_law_k", "_law_found", "_law_turn"]
theorem sc__law_raised : FnScope N__law_raised ["_law_number", "_law_k"] (defScope st__law_raised) := ⟨rfl, rfl, rfl, by decide +kernel, rfl, by decide +kernel, by decide +kernel⟩
theorem w__law_raised (m_range : mg "range" = none) : BodyJ P w K mg base W 0 N__law_raised "_law_raised" st__law_raised b__law_raised := by
  intro f cdv A outer s H E F0 hr
  have nd : N__law_raised.Nodup := by decide +kernel
  have tk := takes_of (X := XOf P w K mg base N__law_raised "_law_raised" (defScope st__law_raised) f cdv A outer s H E) rfl rfl rfl rfl
  have hp := passes_of (X := XOf P w K mg base N__law_raised "_law_raised" (defScope st__law_raised) f cdv A outer s H E) rfl
  exact (jls_of (jss_cons (js_set 2 nd (j_int).sf)
    (jss_cons (js_for hp rfl (ji_range1 (st := true) m_range (ja_cons ncl_w ((j_var 1)).sw ja_nil)) (jg_name 3 nd)
      (jss_one (js_set 2 nd ((j_bind okd_mul ((j_var 2)).sd ((j_var 0)).sd)).sf)))
    (jss_one (js_ret ((j_var 2)).sr)))))
abbrev st__law_common : Stmt := topS 33
def N__law_common : List Str := ["_law_numbers", "_law_found", "_law_number", "_law_one", "_law_other"]
theorem sc__law_common : FnScope N__law_common ["_law_numbers"] (defScope st__law_common) := ⟨rfl, rfl, rfl, by decide +kernel, rfl, by decide +kernel, by decide +kernel⟩
theorem w__law_common (m_abs : mg "abs" = none) : BodyJ P w K mg base W 0 N__law_common "_law_common" st__law_common b__law_common_t := by
  intro f cdv A outer s H E F0 hr
  have nd : N__law_common.Nodup := by decide +kernel
  have tk := takes_of (X := XOf P w K mg base N__law_common "_law_common" (defScope st__law_common) f cdv A outer s H E) rfl rfl rfl rfl
  have hp := passes_of (X := XOf P w K mg base N__law_common "_law_common" (defScope st__law_common) f cdv A outer s H E) rfl
  exact (jls_of (jss_cons (js_set 1 nd (j_int).sf)
    (jss_cons (js_for hp rfl (ji_bor 0) (jg_name 2 nd)
      (jss_cons (js_par 3 4 rfl nd (ja_cons ncl_s (j_var 1) (ja_cons ncl_s ((j_callB ca_abs m_abs (by decide +kernel) (ja_cons ncl_w ((j_var 2)).sw ja_nil))).sf ja_nil)))
    (jss_cons (js_while hp (jt_cmp ok_gt ((j_var 4)).sw (j_int).fw)
      (jss_one (js_par 3 4 rfl nd (ja_cons ncl_s (j_var 4) (ja_cons ncl_s ((j_bin ok_mod ((j_var 3)).sw ((j_var 4)).sw)).sf ja_nil)))))
    (jss_one (js_set 1 nd (j_var 3))))))
    (jss_one (js_ret ((j_var 1)).sr)))))
abbrev st__law_determinant : Stmt := topS 36
def N__law_determinant : List Str := ["_law_rows", "_law_side", "_law_ahead", "_law_k", "_law_some", "_law_j", "_law_at", "_law_mine", "_law_its", "_law_row"]
theorem sc__law_determinant : FnScope N__law_determinant ["_law_rows"] (defScope st__law_determinant) := ⟨rfl, rfl, rfl, by decide +kernel, rfl, by decide +kernel, by decide +kernel⟩
theorem w__law_determinant (m_len : mg "len" = none) (m_list : mg "list" = none) (m_range : mg "range" = none) : BodyX P w K mg base W 0 N__law_determinant "_law_determinant" st__law_determinant b__law_determinant := by
  intro f cdv A outer s H E F0 hr
  have nd : N__law_determinant.Nodup := by decide +kernel
  have tk := takes_of (X := XOf P w K mg base N__law_determinant "_law_determinant" (defScope st__law_determinant) f cdv A outer s H E) rfl rfl rfl rfl
  have hp := passes_of (X := XOf P w K mg base N__law_determinant "_law_determinant" (defScope st__law_determinant) f cdv A outer s H E) rfl
  exact (jls_of (jss_cons (js_mk 0 (own := [("_law_row", 9)]) (ws := [9]) rfl nd rfl (ji_borB 0) (blkOk_by (N := N__law_determinant) (sc := defScope st__law_determinant) (by decide +kernel)) (fun _ _ _ _ _ => (jgb_name 9 nd)) (fun _ _ _ _ _ => (j_callTy ca_list m_list (by decide +kernel) (ja_cons ncl_w (j_bor 9) ja_nil))) (by decide))
    (jss_cons (js_set 1 nd (j_int).sf)
    (jss_cons (js_set 2 nd (j_int).sf)
    (jss_cons (js_for hp rfl (ji_range1 (st := true) m_range (ja_cons ncl_w ((j_bin ok_sub ((j_lenM 0 m_len)).fw (j_int).fw)).fw ja_nil)) (jg_name 3 nd)
      (jss_cons (js_setLc 4 rfl nd (own := [("_law_j", 5)]) (ws := [5]) (ji_range2 (st := false) m_range (ja_cons ncl_w ((j_var 3)).sw (ja_cons ncl_w ((j_lenM 0 m_len)).fw ja_nil))) (blkOk_by (N := N__law_determinant) (sc := defScope st__law_determinant) (by decide +kernel)) (fun _ _ _ _ _ => (jg_name 5 nd)) (fun _ _ _ _ _ => (jts_one (jt_cmp (ok_ne hr.units) ((j_mat 0 (jp_var 5) (jp_var 3))).fw (j_int).fw))) (fun _ _ _ _ _ => (j_var 5)) (by decide))
    (jss_cons (js_if (jt_cmp (ok_eq hr.units) ((j_var 4)).sw ((j_lst ja_nil)).fw)
      (jss_one (js_ret (j_int).fr))
      jss_nil)
    (jss_cons (js_if (jt_cmp (ok_ne hr.units) ((j_ix (j_var 4) (j_int).fw)).sw ((j_var 3)).sw)
      (jss_cons (js_mswap 0 rfl (Nat.le_refl _) (jp_var 3) (jp_ix 4) (jp_ix 4) (jp_var 3))
    (jss_one (js_set 1 nd ((j_bin ok_sub (j_int).fw ((j_var 1)).sw)).sf)))
      jss_nil)
    (jss_cons (js_for hp rfl (ji_range2 (st := true) m_range (ja_cons ncl_w ((j_bind okd_add ((j_var 3)).sd (j_int).fd)).fw (ja_cons ncl_w ((j_lenM 0 m_len)).fw ja_nil))) (jg_name 5 nd)
      (jss_cons (js_for hp rfl (ji_range2 (st := true) m_range (ja_cons ncl_w ((j_bind okd_add ((j_var 3)).sd (j_int).fd)).fw (ja_cons ncl_w ((j_lenM 0 m_len)).fw ja_nil))) (jg_name 6 nd)
      (jss_cons (js_set 7 nd ((j_bind okd_mul ((j_mat 0 (jp_var 5) (jp_var 6))).fd ((j_mat 0 (jp_var 3) (jp_var 3))).fd)).sf)
    (jss_cons (js_set 8 nd ((j_bind okd_mul ((j_mat 0 (jp_var 5) (jp_var 3))).fd ((j_mat 0 (jp_var 3) (jp_var 6))).fd)).sf)
    (jss_one (js_mset 0 (Nat.le_refl _) ((j_bin ok_fdiv ((j_bin ok_sub ((j_var 7)).sw ((j_var 8)).sw)).fw ((j_var 2)).sw)).fw (jp_var 5) (jp_var 6))))))
    (jss_one (js_mset 0 (Nat.le_refl _) (j_int).fw (jp_var 5) (jp_var 3)))))
    (jss_one (js_set 2 nd ((j_mat 0 (jp_var 3) (jp_var 3))).sf)))))))
    (jss_one (js_ret ((j_bind okd_mul ((j_var 1)).sd ((j_mat 0 jp_neg jp_neg)).fd)).fr)))))))
abbrev st__law_resultant : Stmt := topS 37
def N__law_resultant : List Str := ["_law_one", "_law_other", "_law_rows", "_law_many", "_law_k"]
theorem sc__law_resultant : FnScope N__law_resultant ["_law_one", "_law_other"] (defScope st__law_resultant) := ⟨rfl, rfl, rfl, by decide +kernel, rfl, by decide +kernel, by decide +kernel⟩
theorem w__law_resultant (m_len : mg "len" = none) (m_range : mg "range" = none) (h__law_determinant : FD P w K mg base W 1 "_law_determinant" [] s__law_determinant) : BodyJ P w K mg base W 1 N__law_resultant "_law_resultant" st__law_resultant b__law_resultant := by
  intro f cdv A outer s H E F0 hr
  have nd : N__law_resultant.Nodup := by decide +kernel
  have tk := takes_of (X := XOf P w K mg base N__law_resultant "_law_resultant" (defScope st__law_resultant) f cdv A outer s H E) rfl rfl rfl rfl
  have hp := passes_of (X := XOf P w K mg base N__law_resultant "_law_resultant" (defScope st__law_resultant) f cdv A outer s H E) rfl
  exact (jls_of (jss_cons (js_setO 2 nd (j_lst ja_nil))
    (jss_cons (js_set 3 nd ((j_bin ok_sub ((j_bind okd_add ((j_callB ca_len m_len (by decide +kernel) (ja_cons ncl_w (j_bor 0) ja_nil))).fd ((j_callB ca_len m_len (by decide +kernel) (ja_cons ncl_w (j_bor 1) ja_nil))).fd)).fw (j_int).fw)).sf)
    (jss_cons (js_for hp rfl (ji_range1 (st := true) m_range (ja_cons ncl_w ((j_bin ok_sub ((j_callB ca_len m_len (by decide +kernel) (ja_cons ncl_w (j_bor 1) ja_nil))).fw (j_int).fw)).fw ja_nil)) (jg_name 4 nd)
      (jss_one (js_appendL 2 ((j_bind okd_add ((j_bind okd_add ((j_bind okd_mul ((j_lst (ja_cons ncl_s (j_int).sf ja_nil))).fd ((j_var 4)).sd)).fd ((j_rvs (j_bor 0))).fd)).fd ((j_bind okd_mul ((j_lst (ja_cons ncl_s (j_int).sf ja_nil))).fd ((j_bin ok_sub ((j_bin ok_sub ((j_var 3)).sw ((j_callB ca_len m_len (by decide +kernel) (ja_cons ncl_w (j_bor 0) ja_nil))).fw)).fw ((j_var 4)).sw)).fd)).fd)).sf)))
    (jss_cons (js_for hp rfl (ji_range1 (st := true) m_range (ja_cons ncl_w ((j_bin ok_sub ((j_callB ca_len m_len (by decide +kernel) (ja_cons ncl_w (j_bor 0) ja_nil))).fw (j_int).fw)).fw ja_nil)) (jg_name 4 nd)
      (jss_one (js_appendL 2 ((j_bind okd_add ((j_bind okd_add ((j_bind okd_mul ((j_lst (ja_cons ncl_s (j_int).sf ja_nil))).fd ((j_var 4)).sd)).fd ((j_rvs (j_bor 1))).fd)).fd ((j_bind okd_mul ((j_lst (ja_cons ncl_s (j_int).sf ja_nil))).fd ((j_bin ok_sub ((j_bin ok_sub ((j_var 3)).sw ((j_callB ca_len m_len (by decide +kernel) (ja_cons ncl_w (j_bor 1) ja_nil))).fw)).fw ((j_var 4)).sw)).fd)).fd)).sf)))
    (jss_one (js_ret ((j_call h__law_determinant (hr.mono (by decide)) tk (by rfl) (ja_cons ncl_w (j_own 2) ja_nil))).fr)))))))
abbrev st__law_worth_at : Stmt := topS 38
def N__law_worth_at : List Str := ["_law_row", "_law_at", "_law_found", "_law_number"]
theorem sc__law_worth_at : FnScope N__law_worth_at ["_law_row", "_law_at"] (defScope st__law_worth_at) := ⟨rfl, rfl, rfl, by decide +kernel, rfl, by decide +kernel, by decide +kernel⟩
theorem w__law_worth_at  : BodyJ P w K mg base W 0 N__law_worth_at "_law_worth_at" st__law_worth_at b__law_worth_at := by
  intro f cdv A outer s H E F0 hr
  have nd : N__law_worth_at.Nodup := by decide +kernel
  have tk := takes_of (X := XOf P w K mg base N__law_worth_at "_law_worth_at" (defScope st__law_worth_at) f cdv A outer s H E) rfl rfl rfl rfl
  have hp := passes_of (X := XOf P w K mg base N__law_worth_at "_law_worth_at" (defScope st__law_worth_at) f cdv A outer s H E) rfl
  exact (jls_of (jss_cons (js_set 2 nd (j_int).sf)
    (jss_cons (js_for hp rfl (ji_seq ((j_rvs ((j_var 0)).sw)).sf) (jg_name 3 nd)
      (jss_one (js_set 2 nd ((j_bind okd_add ((j_bind okd_mul ((j_var 2)).sd ((j_var 1)).sd)).fd ((j_var 3)).sd)).sf)))
    (jss_one (js_ret ((j_var 2)).sr)))))
abbrev st__law_right : Stmt := topS 40
def N__law_right : List Str := ["_law_found", "_law_one", "_law_others", "_law_often", "_law_at", "_law_other", "_law_n"]
theorem sc__law_right : FnScope N__law_right ["_law_found", "_law_one", "_law_others", "_law_often"] (defScope st__law_right) := ⟨rfl, rfl, rfl, by decide +kernel, rfl, by decide +kernel, by decide +kernel⟩
theorem w__law_right (m_all : mg "all" = none) (m_bool : mg "bool" = none) (m_enumerate : mg "enumerate" = none) (m_int : mg "int" = none) (m_isinstance : mg "isinstance" = none) (m_len : mg "len" = none) (m_list : mg "list" = none) (m_tuple : mg "tuple" = none) (h__law_common : FD P w K mg base W 1 "_law_common" [] s__law_common_t) (h__law_resultant : FD P w K mg base W 2 "_law_resultant" [] s__law_resultant) (h__law_worth_at : FD P w K mg base W 1 "_law_worth_at" [] s__law_worth_at) : BodyK P w K mg base W 2 N__law_right "_law_right" st__law_right b__law_right := by
  intro f cdv A outer s H E F0 V hV hr
  have nd : N__law_right.Nodup := by decide +kernel
  have tk := takes_of (X := XOf P w K mg base N__law_right "_law_right" (defScope st__law_right) f cdv A outer s H E) rfl rfl rfl rfl
  have hp := passes_of (X := XOf P w K mg base N__law_right "_law_right" (defScope st__law_right) f cdv A outer s H E) rfl
  exact (jss_cons (js_if (JW.t (jw_or (jt_not (jt_val ((j_isi isi_tuple ((j_var 0)).sw m_isinstance m_tuple (by decide +kernel))).fw)) (jw_or1 (jt_not (jt_val ((j_callB (ca_all rfl) m_all (by decide +kernel) (ja_cons ncl_w ((j_lc rfl nd (own := [("_law_n", 6)]) (ws := [6]) (JI.weak (ji_seq (j_var 0))) (blkOk_by (N := N__law_right) (sc := defScope st__law_right) (by decide +kernel)) (fun _ _ _ _ _ => (jg_name 6 nd)) (fun _ _ _ _ _ => jts_nil) (fun _ _ _ _ _ => ((j_and (j_isi isi_int ((j_var 6)).sw m_isinstance m_int (by decide +kernel)) (j_one (j_not (j_isi isi_bool ((j_var 6)).sw m_isinstance m_bool (by decide +kernel)))))).sf) (by decide))).fw ja_nil))).fw)))))
      (jss_one (js_ret (j_bl).fr))
      jss_nil)
    (jss_cons (js_if (JW.t (jw_or (jt_cmp (ok_eq hr.units) ((j_var 0)).sw ((j_tup ja_nil)).fw) (jw_or (jt_cmp ok_lt ((j_ix (j_var 0) ((j_neg (j_int).fw)).fw)).sw (j_int).fw) (jw_or (jt_cmp (ok_ne hr.units) ((j_call h__law_common (hr.mono (by decide)) tk (by rfl) (ja_cons ncl_w ((j_var 0)).sw ja_nil))).fw (j_int).fw) (jw_or1 (jt_cmp (ok_ne hr.units) ((j_callB ca_len m_len (by decide +kernel) (ja_cons ncl_w ((j_var 0)).sw ja_nil))).fw ((j_callB ca_len m_len (by decide +kernel) (ja_cons ncl_w ((j_var 2)).sw ja_nil))).fw))))))
      (jss_one (js_ret (j_bl).fr))
      jss_nil)
    (jss_cons (js_for hp rfl (ji_enum (j_var 2) m_enumerate) (jg_tup rfl (jgs_cons (jg_name 4 nd) (jgs_cons (jg_name 5 nd) jgs_nil)))
      (jss_one (js_if (jt_cmp (ok_ne hr.units) ((j_bind okd_mul ((j_call h__law_resultant (hr.mono (by decide)) tk (by rfl) (ja_cons ncl_w ((j_callTy ca_list m_list (by decide +kernel) (ja_cons ncl_w ((j_var 1)).sw ja_nil))).fw (ja_cons ncl_w ((j_var 5)).sw ja_nil)))).fd ((j_ix (j_var 0) ((j_neg (j_int).fw)).fw)).sd)).fw ((j_bind okd_mul ((j_var 3)).sd ((j_call h__law_worth_at (hr.mono (by decide)) tk (by rfl) (ja_cons ncl_w ((j_var 0)).sw (ja_cons ncl_w ((j_var 4)).sw ja_nil)))).fd)).fw)
      (jss_one (js_ret (j_bl).fr))
      jss_nil)))
    (jss_one (js_ret (j_bl).fr)))))
abbrev st_need_degree : Stmt := topS 21
def N_need_degree : List Str := ["wanted"]
theorem sc_need_degree : FnScope N_need_degree ["wanted"] (defScope st_need_degree) := ⟨rfl, rfl, rfl, by decide +kernel, rfl, by decide +kernel, by decide +kernel⟩
theorem w_need_degree (c_MOST : Cst K mg "MOST" (.int 16)) (x_TooGreat : ExcF K mg "TooGreat") : BodyJ P w K mg base W 0 N_need_degree "need_degree" st_need_degree b_composing_need_degree := by
  intro f cdv A outer s H E F0 hr
  have nd : N_need_degree.Nodup := by decide +kernel
  have tk := takes_of (X := XOf P w K mg base N_need_degree "need_degree" (defScope st_need_degree) f cdv A outer s H E) rfl rfl rfl rfl
  have hp := passes_of (X := XOf P w K mg base N_need_degree "need_degree" (defScope st_need_degree) f cdv A outer s H E) rfl
  exact (jls_of (jss_one (js_if (jt_cmp ok_gt ((j_var 0)).sw ((j_glob (by rfl) c_MOST)).fw)
      (jss_one (js_raise rfl tk x_TooGreat))
      jss_nil)))
abbrev st_degree : Stmt := topS 14
def N_degree : List Str := ["row"]
theorem sc_degree : FnScope N_degree ["row"] (defScope st_degree) := ⟨rfl, rfl, rfl, by decide +kernel, rfl, by decide +kernel, by decide +kernel⟩
theorem w_degree (m_len : mg "len" = none) : BodyJ P w K mg base W 0 N_degree "degree" st_degree b_rows_degree := by
  intro f cdv A outer s H E F0 hr
  have nd : N_degree.Nodup := by decide +kernel
  have tk := takes_of (X := XOf P w K mg base N_degree "degree" (defScope st_degree) f cdv A outer s H E) rfl rfl rfl rfl
  have hp := passes_of (X := XOf P w K mg base N_degree "degree" (defScope st_degree) f cdv A outer s H E) rfl
  exact (jls_of (jss_one (js_ret ((j_bin ok_sub ((j_callB ca_len m_len (by decide +kernel) (ja_cons ncl_w ((j_var 0)).sw ja_nil))).fw (j_int).fw)).fr)))
abbrev st_common : Stmt := topS 5
def N_common : List Str := ["one", "other"]
theorem sc_common : FnScope N_common ["one", "other"] (defScope st_common) := ⟨rfl, rfl, rfl, by decide +kernel, rfl, by decide +kernel, by decide +kernel⟩
theorem w_common (m_abs : mg "abs" = none) : BodyJ P w K mg base W 0 N_common "common" st_common b_numbers_common := by
  intro f cdv A outer s H E F0 hr
  have nd : N_common.Nodup := by decide +kernel
  have tk := takes_of (X := XOf P w K mg base N_common "common" (defScope st_common) f cdv A outer s H E) rfl rfl rfl rfl
  have hp := passes_of (X := XOf P w K mg base N_common "common" (defScope st_common) f cdv A outer s H E) rfl
  exact (jls_of (jss_cons (js_par 0 1 rfl nd (ja_cons ncl_s ((j_callB ca_abs m_abs (by decide +kernel) (ja_cons ncl_w ((j_var 0)).sw ja_nil))).sf (ja_cons ncl_s ((j_callB ca_abs m_abs (by decide +kernel) (ja_cons ncl_w ((j_var 1)).sw ja_nil))).sf ja_nil)))
    (jss_cons (js_while hp (jt_cmp ok_gt ((j_var 1)).sw (j_int).fw)
      (jss_one (js_par 0 1 rfl nd (ja_cons ncl_s (j_var 1) (ja_cons ncl_s ((j_bin ok_mod ((j_var 0)).sw ((j_var 1)).sw)).sf ja_nil)))))
    (jss_one (js_ret ((j_var 0)).sr)))))
abbrev st_fraction : Stmt := topS 7
def N_fraction : List Str := ["n", "d", "part"]
theorem sc_fraction : FnScope N_fraction ["n", "d"] (defScope st_fraction) := ⟨rfl, rfl, rfl, by decide +kernel, rfl, by decide +kernel, by decide +kernel⟩
theorem w_fraction (x_ByNought : ExcF K mg "ByNought") (h_common : FD P w K mg base W 1 "common" [] s_numbers_common) : BodyJ P w K mg base W 1 N_fraction "fraction" st_fraction b_fractions_fraction := by
  intro f cdv A outer s H E F0 hr
  have nd : N_fraction.Nodup := by decide +kernel
  have tk := takes_of (X := XOf P w K mg base N_fraction "fraction" (defScope st_fraction) f cdv A outer s H E) rfl rfl rfl rfl
  have hp := passes_of (X := XOf P w K mg base N_fraction "fraction" (defScope st_fraction) f cdv A outer s H E) rfl
  exact (jls_of (jss_cons (js_if (jt_cmp (ok_eq hr.units) ((j_var 1)).sw (j_int).fw)
      (jss_one (js_raise rfl tk x_ByNought))
      jss_nil)
    (jss_cons (js_set 2 nd ((j_call h_common (hr.mono (by decide)) tk (by rfl) (ja_cons ncl_w ((j_var 0)).sw (ja_cons ncl_w ((j_var 1)).sw ja_nil)))).sf)
    (jss_cons (js_set 2 nd (j_if (jt_cmp ok_gt ((j_var 1)).sw (j_int).fw) (j_var 2) ((j_bin ok_sub (j_int).fw ((j_var 2)).sw)).sf))
    (jss_one (js_ret ((j_tup (ja_cons ncl_s ((j_bin ok_fdiv ((j_var 0)).sw ((j_var 2)).sw)).sf (ja_cons ncl_s ((j_bin ok_fdiv ((j_var 1)).sw ((j_var 2)).sw)).sf ja_nil)))).fr))))))
abbrev st_times : Stmt := topS 10
def N_times : List Str := ["one", "other"]
theorem sc_times : FnScope N_times ["one", "other"] (defScope st_times) := ⟨rfl, rfl, rfl, by decide +kernel, rfl, by decide +kernel, by decide +kernel⟩
theorem w_times (h_fraction : FD P w K mg base W 2 "fraction" [] s_fractions_fraction) : BodyJ P w K mg base W 2 N_times "times" st_times b_fractions_times := by
  intro f cdv A outer s H E F0 hr
  have nd : N_times.Nodup := by decide +kernel
  have tk := takes_of (X := XOf P w K mg base N_times "times" (defScope st_times) f cdv A outer s H E) rfl rfl rfl rfl
  have hp := passes_of (X := XOf P w K mg base N_times "times" (defScope st_times) f cdv A outer s H E) rfl
  exact (jls_of (jss_one (js_ret ((j_call h_fraction (hr.mono (by decide)) tk (by rfl) (ja_cons ncl_w ((j_bind okd_mul ((j_ix (j_var 0) (j_int).fw)).sd ((j_ix (j_var 1) (j_int).fw)).sd)).fw (ja_cons ncl_w ((j_bind okd_mul ((j_ix (j_var 0) (j_int).fw)).sd ((j_ix (j_var 1) (j_int).fw)).sd)).fw ja_nil)))).fr)))
abbrev st_plus : Stmt := topS 8
def N_plus : List Str := ["one", "other"]
theorem sc_plus : FnScope N_plus ["one", "other"] (defScope st_plus) := ⟨rfl, rfl, rfl, by decide +kernel, rfl, by decide +kernel, by decide +kernel⟩
theorem w_plus (h_fraction : FD P w K mg base W 2 "fraction" [] s_fractions_fraction) : BodyJ P w K mg base W 2 N_plus "plus" st_plus b_fractions_plus := by
  intro f cdv A outer s H E F0 hr
  have nd : N_plus.Nodup := by decide +kernel
  have tk := takes_of (X := XOf P w K mg base N_plus "plus" (defScope st_plus) f cdv A outer s H E) rfl rfl rfl rfl
  have hp := passes_of (X := XOf P w K mg base N_plus "plus" (defScope st_plus) f cdv A outer s H E) rfl
  exact (jls_of (jss_one (js_ret ((j_call h_fraction (hr.mono (by decide)) tk (by rfl) (ja_cons ncl_w ((j_bind okd_add ((j_bind okd_mul ((j_ix (j_var 0) (j_int).fw)).sd ((j_ix (j_var 1) (j_int).fw)).sd)).fd ((j_bind okd_mul ((j_ix (j_var 1) (j_int).fw)).sd ((j_ix (j_var 0) (j_int).fw)).sd)).fd)).fw (ja_cons ncl_w ((j_bind okd_mul ((j_ix (j_var 0) (j_int).fw)).sd ((j_ix (j_var 1) (j_int).fw)).sd)).fw ja_nil)))).fr)))
abbrev st_less : Stmt := topS 9
def N_less : List Str := ["one", "other"]
theorem sc_less : FnScope N_less ["one", "other"] (defScope st_less) := ⟨rfl, rfl, rfl, by decide +kernel, rfl, by decide +kernel, by decide +kernel⟩
theorem w_less (h_fraction : FD P w K mg base W 2 "fraction" [] s_fractions_fraction) : BodyJ P w K mg base W 2 N_less "less" st_less b_fractions_less := by
  intro f cdv A outer s H E F0 hr
  have nd : N_less.Nodup := by decide +kernel
  have tk := takes_of (X := XOf P w K mg base N_less "less" (defScope st_less) f cdv A outer s H E) rfl rfl rfl rfl
  have hp := passes_of (X := XOf P w K mg base N_less "less" (defScope st_less) f cdv A outer s H E) rfl
  exact (jls_of (jss_one (js_ret ((j_call h_fraction (hr.mono (by decide)) tk (by rfl) (ja_cons ncl_w ((j_bin ok_sub ((j_bind okd_mul ((j_ix (j_var 0) (j_int).fw)).sd ((j_ix (j_var 1) (j_int).fw)).sd)).fw ((j_bind okd_mul ((j_ix (j_var 1) (j_int).fw)).sd ((j_ix (j_var 0) (j_int).fw)).sd)).fw)).fw (ja_cons ncl_w ((j_bind okd_mul ((j_ix (j_var 0) (j_int).fw)).sd ((j_ix (j_var 1) (j_int).fw)).sd)).fw ja_nil)))).fr)))
abbrev st_root_sums : Stmt := topS 19
def N_root_sums : List Str := ["row", "many", "top", "parts", "found", "k", "total", "j"]
theorem sc_root_sums : FnScope N_root_sums ["row", "many"] (defScope st_root_sums) := ⟨rfl, rfl, rfl, by decide +kernel, rfl, by decide +kernel, by decide +kernel⟩
theorem w_root_sums (m_min : mg "min" = none) (m_range : mg "range" = none) (h_degree : FD P w K mg base W 1 "degree" [] s_rows_degree) (h_fraction : FD P w K mg base W 2 "fraction" [] s_fractions_fraction) (h_fraction_1 : FD P w K mg base W 2 "fraction" [.int 1] s_fractions_fraction) (h_less : FD P w K mg base W 3 "less" [] s_fractions_less) (h_plus : FD P w K mg base W 3 "plus" [] s_fractions_plus) (h_times : FD P w K mg base W 3 "times" [] s_fractions_times) : BodyJ P w K mg base W 3 N_root_sums "root_sums" st_root_sums b_composing_root_sums := by
  intro f cdv A outer s H E F0 hr
  have nd : N_root_sums.Nodup := by decide +kernel
  have tk := takes_of (X := XOf P w K mg base N_root_sums "root_sums" (defScope st_root_sums) f cdv A outer s H E) rfl rfl rfl rfl
  have hp := passes_of (X := XOf P w K mg base N_root_sums "root_sums" (defScope st_root_sums) f cdv A outer s H E) rfl
  exact (jls_of (jss_cons (js_set 2 nd ((j_call h_degree (hr.mono (by decide)) tk (by rfl) (ja_cons ncl_w ((j_var 0)).sw ja_nil))).sf)
    (jss_cons (js_setLc 3 rfl nd (own := [("k", 5)]) (ws := [5]) (ji_range1 (st := false) m_range (ja_cons ncl_w ((j_bind okd_add ((j_var 2)).sd (j_int).fd)).fw ja_nil)) (blkOk_by (N := N_root_sums) (sc := defScope st_root_sums) (by decide +kernel)) (fun _ _ _ _ _ => (jg_name 5 nd)) (fun _ _ _ _ _ => jts_nil) (fun _ _ _ _ _ => ((j_call h_fraction (hr.mono (by decide)) takes0 (by rfl) (ja_cons ncl_w ((j_ix (j_var 0) ((j_bin ok_sub ((j_var 2)).sw ((j_var 5)).sw)).fw)).sw (ja_cons ncl_w ((j_ix (j_var 0) ((j_var 2)).sw)).sw ja_nil)))).sf) (by decide))
    (jss_cons (js_setO 4 nd (j_lst (ja_cons ncl_s ((j_call h_fraction_1 (hr.mono (by decide)) tk (by rfl) (ja_cons ncl_w ((j_var 2)).sw ja_nil))).sf ja_nil)))
    (jss_cons (js_for hp rfl (ji_range2 (st := true) m_range (ja_cons ncl_w (j_int).fw (ja_cons ncl_w ((j_bind okd_add ((j_var 1)).sd (j_int).fd)).fw ja_nil))) (jg_name 5 nd)
      (jss_cons (js_set 6 nd ((j_if (jt_cmp ok_le ((j_var 5)).sw ((j_var 2)).sw) (j_call h_times (hr.mono (by decide)) tk (by rfl) (ja_cons ncl_w ((j_call h_fraction_1 (hr.mono (by decide)) tk (by rfl) (ja_cons ncl_w ((j_var 5)).sw ja_nil))).fw (ja_cons ncl_w ((j_ix (j_var 3) ((j_var 5)).sw)).sw ja_nil))) (j_call h_fraction_1 (hr.mono (by decide)) tk (by rfl) (ja_cons ncl_w (j_int).fw ja_nil)))).sf)
    (jss_cons (js_for hp rfl (ji_range2 (st := true) m_range (ja_cons ncl_w (j_int).fw (ja_cons ncl_w ((j_bind okd_add ((j_callB (ca_min rfl) m_min (by decide +kernel) (ja_cons ncl_w ((j_bin ok_sub ((j_var 5)).sw (j_int).fw)).fw (ja_cons ncl_w ((j_var 2)).sw ja_nil)))).fd (j_int).fd)).fw ja_nil))) (jg_name 7 nd)
      (jss_one (js_set 6 nd ((j_call h_plus (hr.mono (by decide)) tk (by rfl) (ja_cons ncl_w ((j_var 6)).sw (ja_cons ncl_w ((j_call h_times (hr.mono (by decide)) tk (by rfl) (ja_cons ncl_w ((j_ix (j_var 3) ((j_var 7)).sw)).sw (ja_cons ncl_w ((j_ixw (j_own 4) ((j_bin ok_sub ((j_var 5)).sw ((j_var 7)).sw)).fw)).sw ja_nil)))).fw ja_nil)))).sf)))
    (jss_one (js_append 4 ((j_call h_less (hr.mono (by decide)) tk (by rfl) (ja_cons ncl_w ((j_call h_fraction_1 (hr.mono (by decide)) tk (by rfl) (ja_cons ncl_w (j_int).fw ja_nil))).fw (ja_cons ncl_w ((j_var 6)).sw ja_nil)))).sf)))))
    (jss_one (js_ret (j_ownr 4))))))))
abbrev st_content : Stmt := topS 15
def N_content : List Str := ["row", "found", "number"]
theorem sc_content : FnScope N_content ["row"] (defScope st_content) := ⟨rfl, rfl, rfl, by decide +kernel, rfl, by decide +kernel, by decide +kernel⟩
theorem w_content (h_common : FD P w K mg base W 1 "common" [] s_numbers_common) : BodyJ P w K mg base W 1 N_content "content" st_content b_rows_content := by
  intro f cdv A outer s H E F0 hr
  have nd : N_content.Nodup := by decide +kernel
  have tk := takes_of (X := XOf P w K mg base N_content "content" (defScope st_content) f cdv A outer s H E) rfl rfl rfl rfl
  have hp := passes_of (X := XOf P w K mg base N_content "content" (defScope st_content) f cdv A outer s H E) rfl
  exact (jls_of (jss_cons (js_set 1 nd (j_int).sf)
    (jss_cons (js_for hp rfl (ji_seq (j_var 0)) (jg_name 2 nd)
      (jss_one (js_set 1 nd ((j_call h_common (hr.mono (by decide)) tk (by rfl) (ja_cons ncl_w ((j_var 1)).sw (ja_cons ncl_w ((j_var 2)).sw ja_nil)))).sf)))
    (jss_one (js_ret ((j_var 1)).sr)))))
abbrev st_plain : Stmt := topS 16
def N_plain : List Str := ["row", "part", "number"]
theorem sc_plain : FnScope N_plain ["row"] (defScope st_plain) := ⟨rfl, rfl, rfl, by decide +kernel, rfl, by decide +kernel, by decide +kernel⟩
theorem w_plain (m_tuple : mg "tuple" = none) (h_content : FD P w K mg base W 2 "content" [] s_rows_content) : BodyJ P w K mg base W 2 N_plain "plain" st_plain b_rows_plain := by
  intro f cdv A outer s H E F0 hr
  have nd : N_plain.Nodup := by decide +kernel
  have tk := takes_of (X := XOf P w K mg base N_plain "plain" (defScope st_plain) f cdv A outer s H E) rfl rfl rfl rfl
  have hp := passes_of (X := XOf P w K mg base N_plain "plain" (defScope st_plain) f cdv A outer s H E) rfl
  exact (jls_of (jss_cons (js_if (jt_cmp (ok_eq hr.units) ((j_var 0)).sw ((j_tup ja_nil)).fw)
      (jss_one (js_ret ((j_tup (ja_cons ncl_s (j_int).sf (ja_cons ncl_s ((j_tup ja_nil)).sf ja_nil)))).fr))
      jss_nil)
    (jss_cons (js_set 1 nd ((j_if (jt_cmp ok_gt ((j_ix (j_var 0) ((j_neg (j_int).fw)).fw)).sw (j_int).fw) (j_call h_content (hr.mono (by decide)) tk (by rfl) (ja_cons ncl_w ((j_var 0)).sw ja_nil)) (j_bin ok_sub (j_int).fw ((j_call h_content (hr.mono (by decide)) tk (by rfl) (ja_cons ncl_w ((j_var 0)).sw ja_nil))).fw))).sf)
    (jss_one (js_ret ((j_tup (ja_cons ncl_s (j_var 1) (ja_cons ncl_s ((j_callTy ca_tuple m_tuple (by decide +kernel) (ja_cons ncl_w ((j_lc rfl nd (own := [("number", 2)]) (ws := [2]) (JI.weak (ji_seq (j_var 0))) (blkOk_by (N := N_plain) (sc := defScope st_plain) (by decide +kernel)) (fun _ _ _ _ _ => (jg_name 2 nd)) (fun _ _ _ _ _ => jts_nil) (fun _ _ _ _ _ => ((j_bin ok_fdiv ((j_var 2)).sw ((j_var 1)).sw)).sf) (by decide))).fw ja_nil))).sf ja_nil)))).fr)))))
abbrev st_row_of : Stmt := topS 13
def N_row_of : List Str := ["numbers", "size"]
theorem sc_row_of : FnScope N_row_of ["numbers"] (defScope st_row_of) := ⟨rfl, rfl, rfl, by decide +kernel, rfl, by decide +kernel, by decide +kernel⟩
theorem w_row_of (m_len : mg "len" = none) (m_tuple : mg "tuple" = none) : BodyJ P w K mg base W 0 N_row_of "row_of" st_row_of b_rows_row_of := by
  intro f cdv A outer s H E F0 hr
  have nd : N_row_of.Nodup := by decide +kernel
  have tk := takes_of (X := XOf P w K mg base N_row_of "row_of" (defScope st_row_of) f cdv A outer s H E) rfl rfl rfl rfl
  have hp := passes_of (X := XOf P w K mg base N_row_of "row_of" (defScope st_row_of) f cdv A outer s H E) rfl
  exact (jls_of (jss_cons (js_set 1 nd ((j_callB ca_len m_len (by decide +kernel) (ja_cons ncl_w (j_bor 0) ja_nil))).sf)
    (jss_cons (js_while hp (JW.t (jw_and (jt_cmp ok_gt ((j_var 1)).sw (j_int).fw) (jw_and1 (jt_cmp (ok_eq hr.units) ((j_ixw (j_bor 0) ((j_bin ok_sub ((j_var 1)).sw (j_int).fw)).fw)).sw (j_int).fw))))
      (jss_one (js_aug 1 ip_sub nd (j_int).fw)))
    (jss_one (js_ret ((j_callTy ca_tuple m_tuple (by decide +kernel) (ja_cons ncl_w ((j_sl (j_bor 0) jo_none (jo_some ((j_var 1)).sw))).fw ja_nil))).fr)))))
abbrev st_over : Stmt := topS 11
def N_over : List Str := ["one", "other"]
theorem sc_over : FnScope N_over ["one", "other"] (defScope st_over) := ⟨rfl, rfl, rfl, by decide +kernel, rfl, by decide +kernel, by decide +kernel⟩
theorem w_over (h_fraction : FD P w K mg base W 2 "fraction" [] s_fractions_fraction) : BodyJ P w K mg base W 2 N_over "over" st_over b_fractions_over := by
  intro f cdv A outer s H E F0 hr
  have nd : N_over.Nodup := by decide +kernel
  have tk := takes_of (X := XOf P w K mg base N_over "over" (defScope st_over) f cdv A outer s H E) rfl rfl rfl rfl
  have hp := passes_of (X := XOf P w K mg base N_over "over" (defScope st_over) f cdv A outer s H E) rfl
  exact (jls_of (jss_one (js_ret ((j_call h_fraction (hr.mono (by decide)) tk (by rfl) (ja_cons ncl_w ((j_bind okd_mul ((j_ix (j_var 0) (j_int).fw)).sd ((j_ix (j_var 1) (j_int).fw)).sd)).fw (ja_cons ncl_w ((j_bind okd_mul ((j_ix (j_var 0) (j_int).fw)).sd ((j_ix (j_var 1) (j_int).fw)).sd)).fw ja_nil)))).fr)))
abbrev st_row_by : Stmt := topS 20
def N_row_by : List Str := ["sums", "parts", "k", "total", "j", "below", "part"]
theorem sc_row_by : FnScope N_row_by ["sums"] (defScope st_row_by) := ⟨rfl, rfl, rfl, by decide +kernel, rfl, by decide +kernel, by decide +kernel⟩
theorem w_row_by (m_len : mg "len" = none) (m_range : mg "range" = none) (h_common : FD P w K mg base W 1 "common" [] s_numbers_common) (h_fraction_1 : FD P w K mg base W 2 "fraction" [.int 1] s_fractions_fraction) (h_less : FD P w K mg base W 3 "less" [] s_fractions_less) (h_over : FD P w K mg base W 3 "over" [] s_fractions_over) (h_plain : FD P w K mg base W 3 "plain" [] s_rows_plain) (h_plus : FD P w K mg base W 3 "plus" [] s_fractions_plus) (h_row_of : FD P w K mg base W 1 "row_of" [] s_rows_row_of) (h_times : FD P w K mg base W 3 "times" [] s_fractions_times) : BodyJ P w K mg base W 3 N_row_by "row_by" st_row_by b_composing_row_by := by
  intro f cdv A outer s H E F0 hr
  have nd : N_row_by.Nodup := by decide +kernel
  have tk := takes_of (X := XOf P w K mg base N_row_by "row_by" (defScope st_row_by) f cdv A outer s H E) rfl rfl rfl rfl
  have hp := passes_of (X := XOf P w K mg base N_row_by "row_by" (defScope st_row_by) f cdv A outer s H E) rfl
  exact (jls_of (jss_cons (js_setO 1 nd (j_lst (ja_cons ncl_s ((j_call h_fraction_1 (hr.mono (by decide)) tk (by rfl) (ja_cons ncl_w (j_int).fw ja_nil))).sf ja_nil)))
    (jss_cons (js_for hp rfl (ji_range2 (st := true) m_range (ja_cons ncl_w (j_int).fw (ja_cons ncl_w ((j_callB ca_len m_len (by decide +kernel) (ja_cons ncl_w (j_bor 0) ja_nil))).fw ja_nil))) (jg_name 2 nd)
      (jss_cons (js_set 3 nd ((j_call h_fraction_1 (hr.mono (by decide)) tk (by rfl) (ja_cons ncl_w (j_int).fw ja_nil))).sf)
    (jss_cons (js_for hp rfl (ji_range2 (st := true) m_range (ja_cons ncl_w (j_int).fw (ja_cons ncl_w ((j_bind okd_add ((j_var 2)).sd (j_int).fd)).fw ja_nil))) (jg_name 4 nd)
      (jss_one (js_set 3 nd ((j_call h_plus (hr.mono (by decide)) tk (by rfl) (ja_cons ncl_w ((j_var 3)).sw (ja_cons ncl_w ((j_call h_times (hr.mono (by decide)) tk (by rfl) (ja_cons ncl_w ((j_ixw (j_own 1) ((j_bin ok_sub ((j_var 2)).sw ((j_var 4)).sw)).fw)).sw (ja_cons ncl_w ((j_ixw (j_bor 0) ((j_var 4)).sw)).sw ja_nil)))).fw ja_nil)))).sf)))
    (jss_one (js_append 1 ((j_call h_less (hr.mono (by decide)) tk (by rfl) (ja_cons ncl_w ((j_call h_fraction_1 (hr.mono (by decide)) tk (by rfl) (ja_cons ncl_w (j_int).fw ja_nil))).fw (ja_cons ncl_w ((j_call h_over (hr.mono (by decide)) tk (by rfl) (ja_cons ncl_w ((j_var 3)).sw (ja_cons ncl_w ((j_call h_fraction_1 (hr.mono (by decide)) tk (by rfl) (ja_cons ncl_w ((j_var 2)).sw ja_nil))).fw ja_nil)))).fw ja_nil)))).sf)))))
    (jss_cons (js_set 5 nd (j_int).sf)
    (jss_rel 1 (jss_cons (js_for hp rfl (ji_seq (j_var 1)) (jg_name 6 nd)
      (jss_one (js_set 5 nd ((j_bin ok_fdiv ((j_bind okd_mul ((j_var 5)).sd ((j_ix (j_var 6) (j_int).fw)).sd)).fw ((j_call h_common (hr.mono (by decide)) tk (by rfl) (ja_cons ncl_w ((j_var 5)).sw (ja_cons ncl_w ((j_ix (j_var 6) (j_int).fw)).sw ja_nil)))).fw)).sf)))
    (jss_one (js_ret ((j_ix ((j_call h_plain (hr.mono (by decide)) tk (by rfl) (ja_cons ncl_w ((j_call h_row_of (hr.mono (by decide)) tk (by rfl) (ja_cons ncl_w ((j_rvs ((j_lc rfl nd (own := [("part", 6)]) (ws := [6]) (JI.weak (ji_seq (j_var 1))) (blkOk_by (N := N_row_by) (sc := defScope st_row_by) (by decide +kernel)) (fun _ _ _ _ _ => (jg_name 6 nd)) (fun _ _ _ _ _ => jts_nil) (fun _ _ _ _ _ => ((j_bin ok_fdiv ((j_bind okd_mul ((j_ix (j_var 6) (j_int).fw)).sd ((j_var 5)).sd)).fw ((j_ix (j_var 6) (j_int).fw)).sw)).sf) (by decide))).fw)).fw ja_nil))).fw ja_nil))).sf (j_int).fw)).sr))))))))
abbrev st_row_of_sums : Stmt := topS 22
def N_row_of_sums : List Str := ["row", "other", "many", "mine", "its", "found", "ways", "k", "total", "j", "one", "two"]
theorem sc_row_of_sums : FnScope N_row_of_sums ["row", "other"] (defScope st_row_of_sums) := ⟨rfl, rfl, rfl, by decide +kernel, rfl, by decide +kernel, by decide +kernel⟩
theorem w_row_of_sums (m_range : mg "range" = none) (m_zip : mg "zip" = none) (h_degree : FD P w K mg base W 1 "degree" [] s_rows_degree) (h_fraction_1 : FD P w K mg base W 2 "fraction" [.int 1] s_fractions_fraction) (h_need_degree : FD P w K mg base W 1 "need_degree" [] s_composing_need_degree) (h_plus : FD P w K mg base W 3 "plus" [] s_fractions_plus) (h_root_sums : FD P w K mg base W 4 "root_sums" [] s_composing_root_sums) (h_row_by : FD P w K mg base W 4 "row_by" [] s_composing_row_by) (h_times : FD P w K mg base W 3 "times" [] s_fractions_times) : BodyJ P w K mg base W 4 N_row_of_sums "row_of_sums" st_row_of_sums b_composing_row_of_sums := by
  intro f cdv A outer s H E F0 hr
  have nd : N_row_of_sums.Nodup := by decide +kernel
  have tk := takes_of (X := XOf P w K mg base N_row_of_sums "row_of_sums" (defScope st_row_of_sums) f cdv A outer s H E) rfl rfl rfl rfl
  have hp := passes_of (X := XOf P w K mg base N_row_of_sums "row_of_sums" (defScope st_row_of_sums) f cdv A outer s H E) rfl
  exact (jls_of (jss_cons (js_set 2 nd ((j_bind okd_mul ((j_call h_degree (hr.mono (by decide)) tk (by rfl) (ja_cons ncl_w ((j_var 0)).sw ja_nil))).fd ((j_call h_degree (hr.mono (by decide)) tk (by rfl) (ja_cons ncl_w ((j_var 1)).sw ja_nil))).fd)).sf)
    (jss_cons (js_expr ((j_call h_need_degree (hr.mono (by decide)) tk (by rfl) (ja_cons ncl_w ((j_var 2)).sw ja_nil))).sf)
    (jss_cons (js_set 3 nd ((j_call h_root_sums (hr.mono (by decide)) tk (by rfl) (ja_cons ncl_w ((j_var 0)).sw (ja_cons ncl_w ((j_var 2)).sw ja_nil)))).sf)
    (jss_cons (js_set 4 nd ((j_call h_root_sums (hr.mono (by decide)) tk (by rfl) (ja_cons ncl_w ((j_var 1)).sw (ja_cons ncl_w ((j_var 2)).sw ja_nil)))).sf)
    (jss_cons (js_setO 5 nd (j_lst ja_nil))
    (jss_cons (js_set 6 nd ((j_lst (ja_cons ncl_s (j_int).sf ja_nil))).sf)
    (jss_cons (js_for hp rfl (ji_range1 (st := true) m_range (ja_cons ncl_w ((j_bind okd_add ((j_var 2)).sd (j_int).fd)).fw ja_nil)) (jg_name 7 nd)
      (jss_cons (js_set 8 nd ((j_call h_fraction_1 (hr.mono (by decide)) tk (by rfl) (ja_cons ncl_w (j_int).fw ja_nil))).sf)
    (jss_cons (js_for hp rfl (ji_range1 (st := true) m_range (ja_cons ncl_w ((j_bind okd_add ((j_var 7)).sd (j_int).fd)).fw ja_nil)) (jg_name 9 nd)
      (jss_one (js_set 8 nd ((j_call h_plus (hr.mono (by decide)) tk (by rfl) (ja_cons ncl_w ((j_var 8)).sw (ja_cons ncl_w ((j_call h_times (hr.mono (by decide)) tk (by rfl) (ja_cons ncl_w ((j_call h_fraction_1 (hr.mono (by decide)) tk (by rfl) (ja_cons ncl_w ((j_ix (j_var 6) ((j_var 9)).sw)).sw ja_nil))).fw (ja_cons ncl_w ((j_call h_times (hr.mono (by decide)) tk (by rfl) (ja_cons ncl_w ((j_ix (j_var 3) ((j_var 9)).sw)).sw (ja_cons ncl_w ((j_ix (j_var 4) ((j_bin ok_sub ((j_var 7)).sw ((j_var 9)).sw)).fw)).sw ja_nil)))).fw ja_nil)))).fw ja_nil)))).sf)))
    (jss_cons (js_append 5 (j_var 8))
    (jss_one (js_setLc 6 rfl nd (own := [("one", 10), ("two", 11)]) (ws := [10, 11]) (JI.weak (ji_zip ((j_bind okd_add ((j_lst (ja_cons ncl_s (j_int).sf ja_nil))).fd ((j_var 6)).sd)).sf ((j_bind okd_add ((j_var 6)).sd ((j_lst (ja_cons ncl_s (j_int).sf ja_nil))).fd)).sf m_zip)) (blkOk_by (N := N_row_of_sums) (sc := defScope st_row_of_sums) (by decide +kernel)) (fun _ _ _ _ _ => (jg_tup rfl (jgs_cons (jg_name 10 nd) (jgs_cons (jg_name 11 nd) jgs_nil)))) (fun _ _ _ _ _ => jts_nil) (fun _ _ _ _ _ => ((j_bind okd_add ((j_var 10)).sd ((j_var 11)).sd)).sf) (by decide)))))))
    (jss_one (js_ret ((j_call h_row_by (hr.mono (by decide)) tk (by rfl) (ja_cons ncl_w (j_own 5) ja_nil))).fr))))))))))
abbrev st_row_of_products : Stmt := topS 23
def N_row_of_products : List Str := ["row", "other", "many", "one", "two"]
theorem sc_row_of_products : FnScope N_row_of_products ["row", "other"] (defScope st_row_of_products) := ⟨rfl, rfl, rfl, by decide +kernel, rfl, by decide +kernel, by decide +kernel⟩
theorem w_row_of_products (m_zip : mg "zip" = none) (h_degree : FD P w K mg base W 1 "degree" [] s_rows_degree) (h_need_degree : FD P w K mg base W 1 "need_degree" [] s_composing_need_degree) (h_root_sums : FD P w K mg base W 4 "root_sums" [] s_composing_root_sums) (h_row_by : FD P w K mg base W 4 "row_by" [] s_composing_row_by) (h_times : FD P w K mg base W 3 "times" [] s_fractions_times) : BodyJ P w K mg base W 4 N_row_of_products "row_of_products" st_row_of_products b_composing_row_of_products := by
  intro f cdv A outer s H E F0 hr
  have nd : N_row_of_products.Nodup := by decide +kernel
  have tk := takes_of (X := XOf P w K mg base N_row_of_products "row_of_products" (defScope st_row_of_products) f cdv A outer s H E) rfl rfl rfl rfl
  have hp := passes_of (X := XOf P w K mg base N_row_of_products "row_of_products" (defScope st_row_of_products) f cdv A outer s H E) rfl
  exact (jls_of (jss_cons (js_set 2 nd ((j_bind okd_mul ((j_call h_degree (hr.mono (by decide)) tk (by rfl) (ja_cons ncl_w ((j_var 0)).sw ja_nil))).fd ((j_call h_degree (hr.mono (by decide)) tk (by rfl) (ja_cons ncl_w ((j_var 1)).sw ja_nil))).fd)).sf)
    (jss_cons (js_expr ((j_call h_need_degree (hr.mono (by decide)) tk (by rfl) (ja_cons ncl_w ((j_var 2)).sw ja_nil))).sf)
    (jss_one (js_ret ((j_call h_row_by (hr.mono (by decide)) tk (by rfl) (ja_cons ncl_w ((j_lc rfl nd (own := [("one", 3), ("two", 4)]) (ws := [3, 4]) (JI.weak (ji_zip ((j_call h_root_sums (hr.mono (by decide)) tk (by rfl) (ja_cons ncl_w ((j_var 0)).sw (ja_cons ncl_w ((j_var 2)).sw ja_nil)))).sf ((j_call h_root_sums (hr.mono (by decide)) tk (by rfl) (ja_cons ncl_w ((j_var 1)).sw (ja_cons ncl_w ((j_var 2)).sw ja_nil)))).sf m_zip)) (blkOk_by (N := N_row_of_products) (sc := defScope st_row_of_products) (by decide +kernel)) (fun _ _ _ _ _ => (jg_tup rfl (jgs_cons (jg_name 3 nd) (jgs_cons (jg_name 4 nd) jgs_nil)))) (fun _ _ _ _ _ => jts_nil) (fun _ _ _ _ _ => ((j_call h_times (hr.mono (by decide)) takes0 (by rfl) (ja_cons ncl_w ((j_var 3)).sw (ja_cons ncl_w ((j_var 4)).sw ja_nil)))).sf) (by decide))).fw ja_nil))).fr)))))
abbrev st_row_of_powers : Stmt := topS 24
def N_row_of_powers : List Str := ["row", "k", "many"]
theorem sc_row_of_powers : FnScope N_row_of_powers ["row", "k"] (defScope st_row_of_powers) := ⟨rfl, rfl, rfl, by decide +kernel, rfl, by decide +kernel, by decide +kernel⟩
theorem w_row_of_powers (h_degree : FD P w K mg base W 1 "degree" [] s_rows_degree) (h_need_degree : FD P w K mg base W 1 "need_degree" [] s_composing_need_degree) (h_root_sums : FD P w K mg base W 4 "root_sums" [] s_composing_root_sums) (h_row_by : FD P w K mg base W 4 "row_by" [] s_composing_row_by) : BodyJ P w K mg base W 4 N_row_of_powers "row_of_powers" st_row_of_powers b_composing_row_of_powers := by
  intro f cdv A outer s H E F0 hr
  have nd : N_row_of_powers.Nodup := by decide +kernel
  have tk := takes_of (X := XOf P w K mg base N_row_of_powers "row_of_powers" (defScope st_row_of_powers) f cdv A outer s H E) rfl rfl rfl rfl
  have hp := passes_of (X := XOf P w K mg base N_row_of_powers "row_of_powers" (defScope st_row_of_powers) f cdv A outer s H E) rfl
  exact (jls_of (jss_cons (js_set 2 nd ((j_call h_degree (hr.mono (by decide)) tk (by rfl) (ja_cons ncl_w ((j_var 0)).sw ja_nil))).sf)
    (jss_cons (js_expr ((j_call h_need_degree (hr.mono (by decide)) tk (by rfl) (ja_cons ncl_w ((j_var 2)).sw ja_nil))).sf)
    (jss_one (js_ret ((j_call h_row_by (hr.mono (by decide)) tk (by rfl) (ja_cons ncl_w ((j_stpL ((j_call h_root_sums (hr.mono (by decide)) tk (by rfl) (ja_cons ncl_w ((j_var 0)).sw (ja_cons ncl_w ((j_bind okd_mul ((j_var 2)).sd ((j_var 1)).sd)).fw ja_nil)))).fw ((j_var 1)).sw)).fw ja_nil))).fr)))))
abbrev st__law_refused : Stmt := topS 41
def N__law_refused : List Str := ["_law_way", "_law_one", "_law_other", "_law_caught", "e"]
theorem sc__law_refused : FnScope N__law_refused ["_law_way", "_law_one", "_law_other"] (defScope st__law_refused) := ⟨rfl, rfl, rfl, by decide +kernel, rfl, by decide +kernel, by decide +kernel⟩
theorem w__law_refused (m_isinstance : mg "isinstance" = none) (i_ByNought_TooGreat : IsF K mg "ByNought" "TooGreat" false) (i_ByNought_ValueError : IsF K mg "ByNought" "ValueError" true) (i_TooGreat_TooGreat : IsF K mg "TooGreat" "TooGreat" true) (i_TooGreat_ValueError : IsF K mg "TooGreat" "ValueError" true) (r_ByNought_RootError : ErrF K mg "ByNought" "RootError") (r_TooGreat_RootError : ErrF K mg "TooGreat" "RootError") (h_row_of_powers : FD P w K mg base W 5 "row_of_powers" [] s_composing_row_of_powers) (h_row_of_products : FD P w K mg base W 5 "row_of_products" [] s_composing_row_of_products) (h_row_of_sums : FD P w K mg base W 5 "row_of_sums" [] s_composing_row_of_sums) : BodyJ P w K mg base W 5 N__law_refused "_law_refused" st__law_refused b__law_refused_k60 := by
  intro f cdv A outer s H E F0 hr
  have nd : N__law_refused.Nodup := by decide +kernel
  have tk := takes_of (X := XOf P w K mg base N__law_refused "_law_refused" (defScope st__law_refused) f cdv A outer s H E) rfl rfl rfl rfl
  have hp := passes_of (X := XOf P w K mg base N__law_refused "_law_refused" (defScope st__law_refused) f cdv A outer s H E) rfl
  exact (jls_of (jss_cons (js_set 3 nd (j_non).sf)
    (jss_cons (js_try 4 3 (xs := ["ByNought", "TooGreat"]) nd (err_cons r_ByNought_RootError (err_cons r_TooGreat_RootError err_nil)) (by decide) (fun W2 pn2 xe2 tk2 => (je_if (jt_cmp (ok_eq hr.units) ((j_var 0)).sw (j_int).fw) (je_expr ((j_call h_row_of_sums (hr.mono (by decide)) tk2 (by rfl) (ja_cons ncl_w ((j_var 1)).sw (ja_cons ncl_w ((j_var 2)).sw ja_nil)))).sf) (je_if (jt_cmp (ok_eq hr.units) ((j_var 0)).sw (j_int).fw) (je_expr ((j_call h_row_of_products (hr.mono (by decide)) tk2 (by rfl) (ja_cons ncl_w ((j_var 1)).sw (ja_cons ncl_w ((j_var 2)).sw ja_nil)))).sf) (je_expr ((j_call h_row_of_powers (hr.mono (by decide)) tk2 (by rfl) (ja_cons ncl_w ((j_var 1)).sw (ja_cons ncl_w (j_int).fw ja_nil)))).sf)))))
    (jss_one (js_ret ((j_and (j_isE (bs := [("ByNought", false), ("TooGreat", true)]) (isf_cons i_ByNought_TooGreat (isf_cons i_TooGreat_TooGreat isf_nil)) (by decide) ((j_var 3)).sw m_isinstance) (j_one (j_isE (bs := [("ByNought", true), ("TooGreat", true)]) (isf_cons i_ByNought_ValueError (isf_cons i_TooGreat_ValueError isf_nil)) (by decide) ((j_var 3)).sw m_isinstance)))).fr)))))
abbrev st__law_cut : Stmt := topS 30
def N__law_cut : List Str := ["_law_numbers", "_law_size"]
theorem sc__law_cut : FnScope N__law_cut ["_law_numbers"] (defScope st__law_cut) := ⟨rfl, rfl, rfl, by decide +kernel, rfl, by decide +kernel, by decide +kernel⟩
theorem w__law_cut (m_len : mg "len" = none) (m_tuple : mg "tuple" = none) : BodyJ P w K mg base W 0 N__law_cut "_law_cut" st__law_cut b__law_cut := by
  intro f cdv A outer s H E F0 hr
  have nd : N__law_cut.Nodup := by decide +kernel
  have tk := takes_of (X := XOf P w K mg base N__law_cut "_law_cut" (defScope st__law_cut) f cdv A outer s H E) rfl rfl rfl rfl
  have hp := passes_of (X := XOf P w K mg base N__law_cut "_law_cut" (defScope st__law_cut) f cdv A outer s H E) rfl
  exact (jls_of (jss_cons (js_set 1 nd ((j_callB ca_len m_len (by decide +kernel) (ja_cons ncl_w (j_bor 0) ja_nil))).sf)
    (jss_cons (js_while hp (JW.t (jw_and (jt_cmp ok_gt ((j_var 1)).sw (j_int).fw) (jw_and1 (jt_cmp (ok_eq hr.units) ((j_ixw (j_bor 0) ((j_bin ok_sub ((j_var 1)).sw (j_int).fw)).fw)).sw (j_int).fw))))
      (jss_one (js_set 1 nd ((j_bin ok_sub ((j_var 1)).sw (j_int).fw)).sf)))
    (jss_one (js_ret ((j_callTy ca_tuple m_tuple (by decide +kernel) (ja_cons ncl_w ((j_sl (j_bor 0) jo_none (jo_some ((j_var 1)).sw))).fw ja_nil))).fr)))))
abbrev st__law_sum : Stmt := topS 31
def N__law_sum : List Str := ["_law_one", "_law_other", "_law_factor", "_law_size", "_law_left", "_law_right_here", "_law_number", "_law_more"]
theorem sc__law_sum : FnScope N__law_sum ["_law_one", "_law_other", "_law_factor"] (defScope st__law_sum) := ⟨rfl, rfl, rfl, by decide +kernel, rfl, by decide +kernel, by decide +kernel⟩
theorem w__law_sum (m_len : mg "len" = none) (m_list : mg "list" = none) (m_max : mg "max" = none) (m_zip : mg "zip" = none) (h__law_cut : FD P w K mg base W 1 "_law_cut" [] s__law_cut) : BodyJ P w K mg base W 1 N__law_sum "_law_sum" st__law_sum b__law_sum := by
  intro f cdv A outer s H E F0 hr
  have nd : N__law_sum.Nodup := by decide +kernel
  have tk := takes_of (X := XOf P w K mg base N__law_sum "_law_sum" (defScope st__law_sum) f cdv A outer s H E) rfl rfl rfl rfl
  have hp := passes_of (X := XOf P w K mg base N__law_sum "_law_sum" (defScope st__law_sum) f cdv A outer s H E) rfl
  exact (jls_of (jss_cons (js_set 3 nd ((j_callB (ca_max rfl) m_max (by decide +kernel) (ja_cons ncl_w ((j_callB ca_len m_len (by decide +kernel) (ja_cons ncl_w ((j_var 0)).sw ja_nil))).fw (ja_cons ncl_w ((j_callB ca_len m_len (by decide +kernel) (ja_cons ncl_w ((j_var 1)).sw ja_nil))).fw ja_nil)))).sf)
    (jss_cons (js_set 4 nd ((j_bind okd_add ((j_callTy ca_list m_list (by decide +kernel) (ja_cons ncl_w ((j_var 0)).sw ja_nil))).fd ((j_bind okd_mul ((j_lst (ja_cons ncl_s (j_int).sf ja_nil))).fd ((j_bin ok_sub ((j_var 3)).sw ((j_callB ca_len m_len (by decide +kernel) (ja_cons ncl_w ((j_var 0)).sw ja_nil))).fw)).fd)).fd)).sf)
    (jss_cons (js_set 5 nd ((j_bind okd_add ((j_callTy ca_list m_list (by decide +kernel) (ja_cons ncl_w ((j_var 1)).sw ja_nil))).fd ((j_bind okd_mul ((j_lst (ja_cons ncl_s (j_int).sf ja_nil))).fd ((j_bin ok_sub ((j_var 3)).sw ((j_callB ca_len m_len (by decide +kernel) (ja_cons ncl_w ((j_var 1)).sw ja_nil))).fw)).fd)).fd)).sf)
    (jss_one (js_ret ((j_call h__law_cut (hr.mono (by decide)) tk (by rfl) (ja_cons ncl_w ((j_lc rfl nd (own := [("_law_number", 6), ("_law_more", 7)]) (ws := [6, 7]) (JI.weak (ji_zip (j_var 4) (j_var 5) m_zip)) (blkOk_by (N := N__law_sum) (sc := defScope st__law_sum) (by decide +kernel)) (fun _ _ _ _ _ => (jg_tup rfl (jgs_cons (jg_name 6 nd) (jgs_cons (jg_name 7 nd) jgs_nil)))) (fun _ _ _ _ _ => jts_nil) (fun _ _ _ _ _ => ((j_bind okd_add ((j_var 6)).sd ((j_bind okd_mul ((j_var 2)).sd ((j_var 7)).sd)).fd)).sf) (by decide))).fw ja_nil))).fr))))))
abbrev st__law_product : Stmt := topS 32
def N__law_product : List Str := ["_law_one", "_law_other", "_law_found", "_law_k", "_law_number", "_law_j", "_law_more"]
theorem sc__law_product : FnScope N__law_product ["_law_one", "_law_other"] (defScope st__law_product) := ⟨rfl, rfl, rfl, by decide +kernel, rfl, by decide +kernel, by decide +kernel⟩
theorem w__law_product (m_enumerate : mg "enumerate" = none) (m_len : mg "len" = none) (m_max : mg "max" = none) (h__law_cut : FD P w K mg base W 1 "_law_cut" [] s__law_cut) : BodyJ P w K mg base W 1 N__law_product "_law_product" st__law_product b__law_product := by
  intro f cdv A outer s H E F0 hr
  have nd : N__law_product.Nodup := by decide +kernel
  have tk := takes_of (X := XOf P w K mg base N__law_product "_law_product" (defScope st__law_product) f cdv A outer s H E) rfl rfl rfl rfl
  have hp := passes_of (X := XOf P w K mg base N__law_product "_law_product" (defScope st__law_product) f cdv A outer s H E) rfl
  exact (jls_of (jss_cons (js_setO 2 nd (j_bind okd_mul ((j_lst (ja_cons ncl_s (j_int).sf ja_nil))).fd ((j_callB (ca_max rfl) m_max (by decide +kernel) (ja_cons ncl_w (j_int).fw (ja_cons ncl_w ((j_bin ok_sub ((j_bind okd_add ((j_callB ca_len m_len (by decide +kernel) (ja_cons ncl_w ((j_var 0)).sw ja_nil))).fd ((j_callB ca_len m_len (by decide +kernel) (ja_cons ncl_w ((j_var 1)).sw ja_nil))).fd)).fw (j_int).fw)).fw ja_nil)))).fd))
    (jss_cons (js_for hp rfl (ji_enum (j_var 0) m_enumerate) (jg_tup rfl (jgs_cons (jg_name 3 nd) (jgs_cons (jg_name 4 nd) jgs_nil)))
      (jss_one (js_for hp rfl (ji_enum (j_var 1) m_enumerate) (jg_tup rfl (jgs_cons (jg_name 5 nd) (jgs_cons (jg_name 6 nd) jgs_nil)))
      (jss_one (js_seti 2 ((j_bind okd_add ((j_ixw (j_own 2) ((j_bind okd_add ((j_var 3)).sd ((j_var 5)).sd)).fw)).sd ((j_bind okd_mul ((j_var 4)).sd ((j_var 6)).sd)).fd)).sf ((j_bind okd_add ((j_var 3)).sd ((j_var 5)).sd)).fw)))))
    (jss_one (js_ret ((j_call h__law_cut (hr.mono (by decide)) tk (by rfl) (ja_cons ncl_w (j_own 2) ja_nil))).fr)))))
abbrev st__law_turned_at : Stmt := topS 39
def N__law_turned_at : List Str := ["_law_row", "_law_at", "_law_found", "_law_number"]
theorem sc__law_turned_at : FnScope N__law_turned_at ["_law_row", "_law_at"] (defScope st__law_turned_at) := ⟨rfl, rfl, rfl, by decide +kernel, rfl, by decide +kernel, by decide +kernel⟩
theorem w__law_turned_at (m_list : mg "list" = none) (h__law_cut : FD P w K mg base W 1 "_law_cut" [] s__law_cut) (h__law_product : FD P w K mg base W 2 "_law_product" [] s__law_product) (h__law_sum : FD P w K mg base W 2 "_law_sum" [] s__law_sum) : BodyJ P w K mg base W 2 N__law_turned_at "_law_turned_at" st__law_turned_at b__law_turned_at := by
  intro f cdv A outer s H E F0 hr
  have nd : N__law_turned_at.Nodup := by decide +kernel
  have tk := takes_of (X := XOf P w K mg base N__law_turned_at "_law_turned_at" (defScope st__law_turned_at) f cdv A outer s H E) rfl rfl rfl rfl
  have hp := passes_of (X := XOf P w K mg base N__law_turned_at "_law_turned_at" (defScope st__law_turned_at) f cdv A outer s H E) rfl
  exact (jls_of (jss_cons (js_set 2 nd ((j_tup ja_nil)).sf)
    (jss_cons (js_for hp rfl (ji_seq ((j_rvs ((j_var 0)).sw)).sf) (jg_name 3 nd)
      (jss_one (js_set 2 nd ((j_call h__law_sum (hr.mono (by decide)) tk (by rfl) (ja_cons ncl_w ((j_call h__law_product (hr.mono (by decide)) tk (by rfl) (ja_cons ncl_w ((j_var 2)).sw (ja_cons ncl_w ((j_tup (ja_cons ncl_s (j_var 1) (ja_cons ncl_s ((j_neg (j_int).fw)).sf ja_nil)))).fw ja_nil)))).fw (ja_cons ncl_w ((j_call h__law_cut (hr.mono (by decide)) tk (by rfl) (ja_cons ncl_w ((j_lst (ja_cons ncl_s (j_var 3) ja_nil))).fw ja_nil))).fw (ja_cons ncl_w (j_int).fw ja_nil))))).sf)))
    (jss_one (js_ret ((j_callTy ca_list m_list (by decide +kernel) (ja_cons ncl_w ((j_var 2)).sw ja_nil))).fr)))))
abbrev st_law : Stmt := topS 42
def N_law : List Str := ["_law_script", "_law_m", "_law_turn", "_law_one", "_law_other", "_law_many", "_law_often", "_law_wide", "_law_at", "_law_k", "_law_others", "_law_great", "_law_pair", "_law_number", "_law_j"]
theorem sc_law : FnScope N_law ["_law_script"] (defScope st_law) := ⟨rfl, rfl, rfl, by decide +kernel, rfl, by decide +kernel, by decide +kernel⟩
theorem w_law (m_enumerate : mg "enumerate" = none) (m_len : mg "len" = none) (m_min : mg "min" = none) (m_range : mg "range" = none) (m_tuple : mg "tuple" = none) (h__law_begun : FD P w K mg base DrW 2 "_law_begun" [] s__law_begun) (h__law_draw : FD P w K mg base DrW 2 "_law_draw" [] s__law_draw) (h__law_given : FD P w K mg base DrW 3 "_law_given" [] s__law_given) (h__law_raised : FD P w K mg base DrW 1 "_law_raised" [] s__law_raised) (h__law_refused : FD P w K mg base DrW 6 "_law_refused" [] s__law_refused_k60) (h__law_right : FDK P w K mg base DrW 3 "_law_right" s__law_right) (h__law_turned_at : FD P w K mg base DrW 3 "_law_turned_at" [] s__law_turned_at) (h_row_of_powers : FD P w K mg base DrW 5 "row_of_powers" [] s_composing_row_of_powers) (h_row_of_products : FD P w K mg base DrW 5 "row_of_products" [] s_composing_row_of_products) (h_row_of_sums : FD P w K mg base DrW 5 "row_of_sums" [] s_composing_row_of_sums) : BodyJ P w K mg base DrW 6 N_law "law" st_law b_law := by
  intro f cdv A outer s H E F0 hr
  have nd : N_law.Nodup := by decide +kernel
  have tk := takes_of (X := XOf P w K mg base N_law "law" (defScope st_law) f cdv A outer s H E) rfl rfl rfl rfl
  have hp := passes_of (X := XOf P w K mg base N_law "law" (defScope st_law) f cdv A outer s H E) rfl
  exact (jls_of (jss_cons (js_set 1 nd ((j_call h__law_begun (hr.mono (by decide)) tk (by rfl) (ja_cons ncl_w (j_bor 0) ja_nil))).sf)
    (jss_cons (js_for hp rfl (ji_range1 (st := true) m_range (ja_cons ncl_w ((j_callB (ca_min rfl) m_min (by decide +kernel) (ja_cons ncl_w (j_int).fw (ja_cons ncl_w ((j_bind okd_add (j_int).fd ((j_bin ok_fdiv ((j_callB ca_len m_len (by decide +kernel) (ja_cons ncl_w (j_bor 0) ja_nil))).fw (j_int).fw)).fd)).fw ja_nil)))).fw ja_nil)) (jg_name 2 nd)
      (jss_cons (js_set 3 nd ((j_call h__law_given (hr.mono (by decide)) tk (by rfl) (ja_cons ncl_w ((j_var 1)).sw ja_nil))).sf)
    (jss_cons (js_set 4 nd ((j_call h__law_given (hr.mono (by decide)) tk (by rfl) (ja_cons ncl_w ((j_var 1)).sw ja_nil))).sf)
    (jss_cons (js_set 5 nd ((j_bind okd_add ((j_bind okd_mul ((j_bin ok_sub ((j_callB ca_len m_len (by decide +kernel) (ja_cons ncl_w ((j_var 3)).sw ja_nil))).fw (j_int).fw)).fd ((j_bin ok_sub ((j_callB ca_len m_len (by decide +kernel) (ja_cons ncl_w ((j_var 4)).sw ja_nil))).fw (j_int).fw)).fd)).fd (j_int).fd)).sf)
    (jss_cons (js_set 6 nd ((j_bind okd_mul ((j_call h__law_raised (hr.mono (by decide)) tk (by rfl) (ja_cons ncl_w ((j_ix (j_var 3) ((j_neg (j_int).fw)).fw)).sw (ja_cons ncl_w ((j_bin ok_sub ((j_callB ca_len m_len (by decide +kernel) (ja_cons ncl_w ((j_var 4)).sw ja_nil))).fw (j_int).fw)).fw ja_nil)))).fd ((j_call h__law_raised (hr.mono (by decide)) tk (by rfl) (ja_cons ncl_w ((j_ix (j_var 4) ((j_neg (j_int).fw)).fw)).sw (ja_cons ncl_w ((j_bin ok_sub ((j_callB ca_len m_len (by decide +kernel) (ja_cons ncl_w ((j_var 3)).sw ja_nil))).fw (j_int).fw)).fw ja_nil)))).fd)).sf)
    (jss_cons (js_if (jt_not (jt_val ((j_callK h__law_right (hr.mono (by decide)) tk (by rfl) (ja_cons ncl_s ((j_call h_row_of_sums (hr.mono (by decide)) tk (by rfl) (ja_cons ncl_w ((j_var 3)).sw (ja_cons ncl_w ((j_var 4)).sw ja_nil)))).sf (ja_cons ncl_s (j_var 3) (ja_cons ncl_s ((j_lc rfl nd (own := [("_law_at", 8)]) (ws := [8]) (ji_range1 (st := false) m_range (ja_cons ncl_w ((j_var 5)).sw ja_nil)) (blkOk_by (N := N_law) (sc := defScope st_law) (by decide +kernel)) (fun _ _ _ _ _ => (jg_name 8 nd)) (fun _ _ _ _ _ => jts_nil) (fun _ _ _ _ _ => ((j_call h__law_turned_at (hr.mono (by decide)) takes0 (by rfl) (ja_cons ncl_w ((j_var 4)).sw (ja_cons ncl_w ((j_var 8)).sw ja_nil)))).sf) (by decide))).sf (ja_cons ncl_s (j_var 6) ja_nil)))))).sw))
      (jss_one (js_ret (j_bl).fr))
      jss_nil)
    (jss_cons (js_setO 7 nd (j_lst ja_nil))
    (jss_cons (js_for hp rfl (ji_range1 (st := true) m_range (ja_cons ncl_w ((j_var 5)).sw ja_nil)) (jg_name 8 nd)
      (jss_one (js_appendL 7 ((j_rvs ((j_lc rfl nd (own := [("_law_k", 9), ("_law_number", 13)]) (ws := [9, 13]) (JI.weak (ji_enum (j_var 4) m_enumerate)) (blkOk_by (N := N_law) (sc := defScope st_law) (by decide +kernel)) (fun _ _ _ _ _ => (jg_tup rfl (jgs_cons (jg_name 9 nd) (jgs_cons (jg_name 13 nd) jgs_nil)))) (fun _ _ _ _ _ => jts_nil) (fun _ _ _ _ _ => ((j_bind okd_mul ((j_var 13)).sd ((j_call h__law_raised (hr.mono (by decide)) takes0 (by rfl) (ja_cons ncl_w ((j_var 8)).sw (ja_cons ncl_w ((j_var 9)).sw ja_nil)))).fd)).sf) (by decide))).fw)).sf)))
    (jss_rel 7 (jss_cons (js_if (jt_not (jt_val ((j_callK h__law_right (hr.mono (by decide)) tk (by rfl) (ja_cons ncl_s ((j_call h_row_of_products (hr.mono (by decide)) tk (by rfl) (ja_cons ncl_w ((j_var 3)).sw (ja_cons ncl_w ((j_var 4)).sw ja_nil)))).sf (ja_cons ncl_s (j_var 3) (ja_cons ncl_s (j_var 7) (ja_cons ncl_s (j_var 6) ja_nil)))))).sw))
      (jss_one (js_ret (j_bl).fr))
      jss_nil)
    (jss_cons (js_set 9 nd ((j_bind okd_add (j_int).fd ((j_call h__law_draw (hr.mono (by decide)) tk (by rfl) (ja_cons ncl_w ((j_var 1)).sw (ja_cons ncl_w (j_int).fw ja_nil)))).fd)).sf)
    (jss_cons (js_setLc 10 rfl nd (own := [("_law_at", 8)]) (ws := [8]) (ji_range1 (st := false) m_range (ja_cons ncl_w ((j_callB ca_len m_len (by decide +kernel) (ja_cons ncl_w ((j_var 3)).sw ja_nil))).fw ja_nil)) (blkOk_by (N := N_law) (sc := defScope st_law) (by decide +kernel)) (fun _ _ _ _ _ => (jg_name 8 nd)) (fun _ _ _ _ _ => jts_nil) (fun _ _ _ _ _ => ((j_bind okd_add ((j_bind okd_add ((j_lst (ja_cons ncl_s (j_var 8) ja_nil))).fd ((j_bind okd_mul ((j_lst (ja_cons ncl_s (j_int).sf ja_nil))).fd ((j_bin ok_sub ((j_var 9)).sw (j_int).fw)).fd)).fd)).fd ((j_lst (ja_cons ncl_s ((j_neg (j_int).fw)).sf ja_nil))).fd)).sf) (by decide))
    (jss_cons (js_if (jt_not (jt_val ((j_callK h__law_right (hr.mono (by decide)) tk (by rfl) (ja_cons ncl_s ((j_call h_row_of_powers (hr.mono (by decide)) tk (by rfl) (ja_cons ncl_w ((j_var 3)).sw (ja_cons ncl_w ((j_var 9)).sw ja_nil)))).sf (ja_cons ncl_s (j_var 3) (ja_cons ncl_s (j_var 10) (ja_cons ncl_s ((j_call h__law_raised (hr.mono (by decide)) tk (by rfl) (ja_cons ncl_w ((j_ix (j_var 3) ((j_neg (j_int).fw)).fw)).sw (ja_cons ncl_w ((j_var 9)).sw ja_nil)))).sf ja_nil)))))).sw))
      (jss_one (js_ret (j_bl).fr))
      jss_nil)
    (jss_cons (js_set 11 nd ((j_callTy ca_tuple m_tuple (by decide +kernel) (ja_cons ncl_w ((j_lc rfl nd (own := [("_law_j", 14)]) (ws := [14]) (ji_range1 (st := false) m_range (ja_cons ncl_w (j_int).fw ja_nil)) (blkOk_by (N := N_law) (sc := defScope st_law) (by decide +kernel)) (fun _ _ _ _ _ => (jg_name 14 nd)) (fun _ _ _ _ _ => jts_nil) (fun _ _ _ _ _ => ((j_bind okd_add (j_int).fd ((j_call h__law_draw (hr.mono (by decide)) takes0 (by rfl) (ja_cons ncl_w ((j_var 1)).sw (ja_cons ncl_w (j_int).fw ja_nil)))).fd)).sf) (by decide))).fw ja_nil))).sf)
    (jss_cons (js_set 12 nd (j_ix ((j_lst (ja_cons ncl_s ((j_tup (ja_cons ncl_s ((j_sl ((j_var 11)).sw jo_none (jo_some (j_int).fw))).sf (ja_cons ncl_s ((j_sl ((j_var 11)).sw jo_none (jo_some (j_int).fw))).sf ja_nil)))).sf (ja_cons ncl_s ((j_tup (ja_cons ncl_s (j_var 11) (ja_cons ncl_s ((j_tup (ja_cons ncl_s (j_int).sf (ja_cons ncl_s (j_int).sf ja_nil)))).sf ja_nil)))).sf (ja_cons ncl_s ((j_tup (ja_cons ncl_s ((j_sl ((j_var 11)).sw jo_none (jo_some (j_int).fw))).sf (ja_cons ncl_s ((j_sl ((j_var 11)).sw jo_none (jo_some (j_int).fw))).sf ja_nil)))).sf ja_nil))))).sf ((j_call h__law_draw (hr.mono (by decide)) tk (by rfl) (ja_cons ncl_w ((j_var 1)).sw (ja_cons ncl_w (j_int).fw ja_nil)))).fw))
    (jss_cons (js_if (JW.t (jw_or (jt_not (jt_val ((j_call h__law_refused (hr.mono (by decide)) tk (by rfl) (ja_cons ncl_w (j_int).fw (ja_cons ncl_w ((j_ix (j_var 12) (j_int).fw)).sw (ja_cons ncl_w ((j_ix (j_var 12) (j_int).fw)).sw ja_nil))))).fw)) (jw_or1 (jt_not (jt_val ((j_call h__law_refused (hr.mono (by decide)) tk (by rfl) (ja_cons ncl_w (j_int).fw (ja_cons ncl_w ((j_ix (j_var 12) (j_int).fw)).sw (ja_cons ncl_w ((j_ix (j_var 12) (j_int).fw)).sw ja_nil))))).fw)))))
      (jss_one (js_ret (j_bl).fr))
      jss_nil)
    (jss_one (js_if (jt_not (jt_val ((j_call h__law_refused (hr.mono (by decide)) tk (by rfl) (ja_cons ncl_w (j_int).fw (ja_cons ncl_w ((j_var 11)).sw (ja_cons ncl_w ((j_var 11)).sw ja_nil))))).fw))
      (jss_one (js_ret (j_bl).fr))
      jss_nil))))))))))))))))))
    (jss_one (js_ret (j_bl).fr)))))
abbrev st__law_draw : Stmt := topS 28
theorem sc__law_draw : FnScope N__law_draw ["_law_m", "_law_many"] (defScope st__law_draw) := ⟨rfl, rfl, rfl, by decide +kernel, rfl, by decide +kernel, by decide +kernel⟩
theorem x__law_draw (DF : Dfn K mg "_law_draw" "_law_draw" st__law_draw ["_law_m", "_law_many"]) (hm : FD P w K mg base W0 1 "_law_mixed" [] s__law_mixed) (ml : mg "len" = none) : FD P w K mg base DrW 2 "_law_draw" [] s0__law_draw := by
  obtain ⟨f, fd, F, gf, bf⟩ := DF.ex
  obtain ⟨fm, fdm, psm, dsm, dvs, G, gm, km, bm, hd, hdd⟩ := hm
  have e0 : dvs = [] := List.length_eq_zero_iff.mp (hdd [] (fun _ => none)).length
  subst e0
  have G := hMix_of G
  refine ⟨f, fd, _, [], [], ?_, gf, F.kp, bf, .nil, fun _ _ => .nil⟩
  have S := sc__law_draw
  refine okG F S (fun vs H Q E h => ?_) fun cdv A outer s H vs Q E hr h => ?_
  · obtain ⟨F, m, ds, Qd, Zd, rz, dv, ⟨N, many, rfl, _⟩, _⟩ := h
    exact dv.length
  have hu : (A.deeper (envOfC "_law_draw" (defScope st__law_draw) s.heap.objs.size f cdv)).units + 1 < cLine := by have := hr.units; omega
  have tk := takes_of (X := XOf P w K mg base N__law_draw "_law_draw" (defScope st__law_draw) f cdv A outer s H E) rfl rfl rfl rfl
  refine ⟨_, pss_cons (ps_set (i := 2) S.nd rfl (.inl rfl) (pe_dget hu (pv 0) pe_str (fun _ _ => rfl)))
    (pss_cons (ps_dput hu (pv 0) pe_str (pe_op op_add (pv 2) pe_int) rfl)
    (pss_cons (ps_if (pt_cmpR (op_neD hr.units) (pe_dget hu (pv 0) pe_str (fun _ _ => rfl)) (pe_lst pa_nil) (nomark _))
      (pss_cons (ps_set (i := 3) S.nd rfl (.inl rfl) (pe_op op_modN (pv 2) (pe_callB call_len_seq (by rfl) ml PySem.boot_len (pa_cons (pe_dget hu (pv 0) pe_str (fun _ _ => rfl)) pa_nil))))
      (pss_cons (ps_set (i := 4) S.nd rfl (.inl rfl) (pe_ix ix_list (pe_dget hu (pv 0) pe_str (fun _ _ => rfl)) (pv 3) (fun _ _ => rfl)))
      (pss_one (ps_if (pt_cmpR op_notIn_seq (pv 4) (pe_tup (pa_cons pe_int (pa_cons (pe_un un_neg pe_int) pa_nil))) rfl)
        (pss_cons (ps_asg (pe_op op_fdivA (pv 4) (pv 1)) (pg_sub (pe_dget hu (pv 0) pe_str (fun _ _ => rfl)) (pv 3) set_list (fun _ => rfl)))
        (pss_one (ps_ret (pe_op op_modN (pv 4) (pv 1)))))
        pss_nil))))
      pss_nil)
    (pss_one (ps_ret (pe_op op_modN (pe_callG (E := fun σ cls d H' => E cls d H') (dvs := []) G (hr.mono (by decide)) (by rfl) gm km bm hd (fun σ => passAt tk σ)
      (pa_cons (pe_callG (E := fun σ cls d H' => E cls d H') (dvs := []) G (hr.mono (by decide)) (by rfl) gm km bm hd (fun σ => passAt tk σ)
        (pa_cons (pe_op op_add (pe_ix ix_list (pe_dget hu (pv 0) pe_str (fun _ _ => rfl)) (pe_op op_modN (pv 2) pe_int) (fun _ _ => rfl)) (pe_op op_mulA pe_int (pe_op op_fdivA (pv 2) pe_int))) (pa_cons (pv 2) pa_nil)))
      (pa_cons (pe_op op_add (pv 2) pe_int) pa_nil))) (pv 1)))))), ?_⟩
  exact rd_draw (mg := mg) h
abbrev st__law_begun : Stmt := topS 29
theorem sc__law_begun : FnScope N__law_begun ["_law_script"] (defScope st__law_begun) := ⟨rfl, rfl, rfl, by decide +kernel, rfl, by decide +kernel, by decide +kernel⟩
theorem x__law_begun (DF : Dfn K mg "_law_begun" "_law_begun" st__law_begun ["_law_script"]) (hm : FD P w K mg base W0 1 "_law_folded" [] s__law_folded) : FD P w K mg base DrW 2 "_law_begun" [] s0__law_begun := by
  obtain ⟨f, fd, F, gf, bf⟩ := DF.ex
  obtain ⟨fm, fdm, psm, dsm, dvs, G, gm, km, bm, hd, hdd⟩ := hm
  have e0 : dvs = [] := List.length_eq_zero_iff.mp (hdd [] (fun _ => none)).length
  subst e0
  have G := hFold_of G
  refine ⟨f, fd, _, [], [], ?_, gf, F.kp, bf, .nil, fun _ _ => .nil⟩
  have S := sc__law_begun
  refine okG F S (fun vs H Q E h => ?_) fun cdv A outer s H vs Q E hr h => ?_
  · obtain ⟨F, m, ds, Qd, Zd, rz, dv, ⟨ns, rfl, _⟩, _⟩ := h
    exact dv.length
  have hu : (A.deeper (envOfC "_law_begun" (defScope st__law_begun) s.heap.objs.size f cdv)).units + 1 < cLine := by have := hr.units; omega
  have tk := takes_of (X := XOf P w K mg base N__law_begun "_law_begun" (defScope st__law_begun) f cdv A outer s H E) rfl rfl rfl rfl
  refine ⟨_, pss_cons (ps_set (i := 1) S.nd rfl (.inl rfl) (pe_disp (pps_cons pe_str (pe_callG (E := fun σ cls d H' => E cls d H') (dvs := []) G (hr.mono (by decide)) (by rfl) gm km bm hd (fun σ => passAt tk σ) (pa_cons (pv 0) pa_nil))
      (pps_cons pe_str (pe_lst pa_nil) (pps_cons pe_str pe_int pps_nil))) rfl rfl (by decide) (by decide)))
    (pss_cons (ps_if (PW.pt (pw_and (pt_cmpR (op_neD hr.units) (pv 0) (pe_lst pa_nil) (nomark _)) (pw_and1 (pt_cmpR op_eq (pe_op op_modN (pe_ix ix_list (pv 0) pe_int (fun _ _ => rfl)) pe_int) pe_int (nomark _)))))
      (pss_one (ps_dput hu (pv 1) pe_str (pe_op op_cat (pe_lst (pa_cons (pe_op op_fdivA (pe_ix ix_list (pv 0) pe_int (fun _ _ => rfl)) pe_int) pa_nil)) (pe_slice sl_list (pv 0) (po_some pe_int) po_none)) rfl))
      pss_nil)
    (pss_one (ps_ret (pv 1)))), ?_⟩
  exact rd_begun (mg := mg) h
theorem ok_law {f : Addr} {fd : FuncData} (F : Fun K "law" "law" st_law f fd) (D__law_folded : Dfn K mg "_law_folded" "_law_folded" st__law_folded ["_law_script"]) (D__law_begun : Dfn K mg "_law_begun" "_law_begun" st__law_begun ["_law_script"]) (D__law_mixed : Dfn K mg "_law_mixed" "_law_mixed" st__law_mixed ["_law_cell", "_law_k"]) (D__law_draw : Dfn K mg "_law_draw" "_law_draw" st__law_draw ["_law_m", "_law_many"]) (D__law_given : Dfn K mg "_law_given" "_law_given" st__law_given ["_law_m"]) (D__law_raised : Dfn K mg "_law_raised" "_law_raised" st__law_raised ["_law_number", "_law_k"]) (D__law_common : Dfn K mg "_law_common" "_law_common" st__law_common ["_law_numbers"]) (D__law_determinant : Dfn K mg "_law_determinant" "_law_determinant" st__law_determinant ["_law_rows"]) (D__law_resultant : Dfn K mg "_law_resultant" "_law_resultant" st__law_resultant ["_law_one", "_law_other"]) (D__law_worth_at : Dfn K mg "_law_worth_at" "_law_worth_at" st__law_worth_at ["_law_row", "_law_at"]) (D__law_right : Dfn K mg "_law_right" "_law_right" st__law_right ["_law_found", "_law_one", "_law_others", "_law_often"]) (D_need_degree : Dfn K mg "need_degree" "need_degree" st_need_degree ["wanted"]) (D_degree : Dfn K mg "degree" "degree" st_degree ["row"]) (D_common : Dfn K mg "common" "common" st_common ["one", "other"]) (D_fraction : DfD K mg "fraction" "fraction" st_fraction ["n", "d"] [1]) (D_times : Dfn K mg "times" "times" st_times ["one", "other"]) (D_plus : Dfn K mg "plus" "plus" st_plus ["one", "other"]) (D_less : Dfn K mg "less" "less" st_less ["one", "other"]) (D_root_sums : Dfn K mg "root_sums" "root_sums" st_root_sums ["row", "many"]) (D_content : Dfn K mg "content" "content" st_content ["row"]) (D_plain : Dfn K mg "plain" "plain" st_plain ["row"]) (D_row_of : Dfn K mg "row_of" "row_of" st_row_of ["numbers"]) (D_over : Dfn K mg "over" "over" st_over ["one", "other"]) (D_row_by : Dfn K mg "row_by" "row_by" st_row_by ["sums"]) (D_row_of_sums : Dfn K mg "row_of_sums" "row_of_sums" st_row_of_sums ["row", "other"]) (D_row_of_products : Dfn K mg "row_of_products" "row_of_products" st_row_of_products ["row", "other"]) (D_row_of_powers : Dfn K mg "row_of_powers" "row_of_powers" st_row_of_powers ["row", "k"]) (D__law_refused : Dfn K mg "_law_refused" "_law_refused" st__law_refused ["_law_way", "_law_one", "_law_other"]) (D__law_cut : Dfn K mg "_law_cut" "_law_cut" st__law_cut ["_law_numbers"]) (D__law_sum : Dfn K mg "_law_sum" "_law_sum" st__law_sum ["_law_one", "_law_other", "_law_factor"]) (D__law_product : Dfn K mg "_law_product" "_law_product" st__law_product ["_law_one", "_law_other"]) (D__law_turned_at : Dfn K mg "_law_turned_at" "_law_turned_at" st__law_turned_at ["_law_row", "_law_at"]) (m_ValueError : mg "ValueError" = none) (m_abs : mg "abs" = none) (m_all : mg "all" = none) (m_bool : mg "bool" = none) (m_enumerate : mg "enumerate" = none) (m_int : mg "int" = none) (m_isinstance : mg "isinstance" = none) (m_len : mg "len" = none) (m_list : mg "list" = none) (m_max : mg "max" = none) (m_min : mg "min" = none) (m_range : mg "range" = none) (m_tuple : mg "tuple" = none) (m_zip : mg "zip" = none) (x_ByNought : ExcF K mg "ByNought") (x_TooGreat : ExcF K mg "TooGreat") (c_MOST : Cst K mg "MOST" (.int 16)) (i_ByNought_TooGreat : IsF K mg "ByNought" "TooGreat" false) (i_ByNought_ValueError : IsF K mg "ByNought" "ValueError" true) (i_TooGreat_TooGreat : IsF K mg "TooGreat" "TooGreat" true) (i_TooGreat_ValueError : IsF K mg "TooGreat" "ValueError" true) (r_ByNought_RootError : ErrF K mg "ByNought" "RootError") (r_TooGreat_RootError : ErrF K mg "TooGreat" "RootError") : FnG P w K mg base (L2.CX P w) 7 f fd ["_law_script"] (spLaw K) := by
  have h__law_begun : FD P w K mg base DrW 2 "_law_begun" [] s__law_begun := x__law_begun D__law_begun (D__law_folded.go [true] sc__law_folded (w__law_folded m_enumerate m_range) vc__law_folded)
  have h__law_draw : FD P w K mg base DrW 2 "_law_draw" [] s__law_draw := x__law_draw D__law_draw (D__law_mixed.go [false, false] sc__law_mixed w__law_mixed vc__law_mixed) m_len
  have h__law_given : FD P w K mg base DrW 3 "_law_given" [] s__law_given := D__law_given.go [false] sc__law_given (w__law_given m_range m_tuple h__law_draw) vc__law_given
  have h__law_raised : FD P w K mg base DrW 1 "_law_raised" [] s__law_raised := D__law_raised.go [false, false] sc__law_raised (w__law_raised m_range) vc__law_raised
  have h__law_common : FD P w K mg base DrW 1 "_law_common" [] s__law_common_t := D__law_common.go [true] sc__law_common (w__law_common m_abs) vc__law_common_t
  have h__law_determinant : FD P w K mg base DrW 1 "_law_determinant" [] s__law_determinant := D__law_determinant.goX [true] sc__law_determinant (w__law_determinant m_len m_list m_range) vc__law_determinant
  have h__law_resultant : FD P w K mg base DrW 2 "_law_resultant" [] s__law_resultant := D__law_resultant.go [true, true] sc__law_resultant (w__law_resultant m_len m_range h__law_determinant) vc__law_resultant
  have h__law_worth_at : FD P w K mg base DrW 1 "_law_worth_at" [] s__law_worth_at := D__law_worth_at.go [false, false] sc__law_worth_at (w__law_worth_at ) vc__law_worth_at
  have h__law_right : FDK P w K mg base DrW 3 "_law_right" s__law_right := D__law_right.goK [false, false, false, false] sc__law_right (w__law_right m_all m_bool m_enumerate m_int m_isinstance m_len m_list m_tuple h__law_common h__law_resultant h__law_worth_at) vc__law_right
  have h_need_degree : FD P w K mg base DrW 1 "need_degree" [] s_composing_need_degree := D_need_degree.go [false] sc_need_degree (w_need_degree c_MOST x_TooGreat) vc_composing_need_degree
  have h_degree : FD P w K mg base DrW 1 "degree" [] s_rows_degree := D_degree.go [false] sc_degree (w_degree m_len) vc_rows_degree
  have h_common : FD P w K mg base DrW 1 "common" [] s_numbers_common := D_common.go [false, false] sc_common (w_common m_abs) vc_numbers_common
  have h_fraction : FD P w K mg base DrW 2 "fraction" [] s_fractions_fraction := D_fraction.go 1 [false, false] sc_fraction (w_fraction x_ByNought h_common) vc_fractions_fraction (fun ds m Q Z h => okK_len (vc_fractions_fraction ds m Q Z h).1)
  have h_fraction_1 : FD P w K mg base DrW 2 "fraction" [.int 1] s_fractions_fraction := D_fraction.go 0 [false, false] sc_fraction (w_fraction x_ByNought h_common) vc_fractions_fraction (fun ds m Q Z h => okK_len (vc_fractions_fraction ds m Q Z h).1)
  have h_times : FD P w K mg base DrW 3 "times" [] s_fractions_times := D_times.go [false, false] sc_times (w_times h_fraction) vc_fractions_times
  have h_plus : FD P w K mg base DrW 3 "plus" [] s_fractions_plus := D_plus.go [false, false] sc_plus (w_plus h_fraction) vc_fractions_plus
  have h_less : FD P w K mg base DrW 3 "less" [] s_fractions_less := D_less.go [false, false] sc_less (w_less h_fraction) vc_fractions_less
  have h_root_sums : FD P w K mg base DrW 4 "root_sums" [] s_composing_root_sums := D_root_sums.go [false, false] sc_root_sums (w_root_sums m_min m_range h_degree h_fraction h_fraction_1 h_less h_plus h_times) vc_composing_root_sums
  have h_content : FD P w K mg base DrW 2 "content" [] s_rows_content := D_content.go [false] sc_content (w_content h_common) vc_rows_content
  have h_plain : FD P w K mg base DrW 3 "plain" [] s_rows_plain := D_plain.go [false] sc_plain (w_plain m_tuple h_content) vc_rows_plain
  have h_row_of : FD P w K mg base DrW 1 "row_of" [] s_rows_row_of := D_row_of.go [true] sc_row_of (w_row_of m_len m_tuple) vc_rows_row_of
  have h_over : FD P w K mg base DrW 3 "over" [] s_fractions_over := D_over.go [false, false] sc_over (w_over h_fraction) vc_fractions_over
  have h_row_by : FD P w K mg base DrW 4 "row_by" [] s_composing_row_by := D_row_by.go [true] sc_row_by (w_row_by m_len m_range h_common h_fraction_1 h_less h_over h_plain h_plus h_row_of h_times) vc_composing_row_by
  have h_row_of_sums : FD P w K mg base DrW 5 "row_of_sums" [] s_composing_row_of_sums := D_row_of_sums.go [false, false] sc_row_of_sums (w_row_of_sums m_range m_zip h_degree h_fraction_1 h_need_degree h_plus h_root_sums h_row_by h_times) vc_composing_row_of_sums
  have h_row_of_products : FD P w K mg base DrW 5 "row_of_products" [] s_composing_row_of_products := D_row_of_products.go [false, false] sc_row_of_products (w_row_of_products m_zip h_degree h_need_degree h_root_sums h_row_by h_times) vc_composing_row_of_products
  have h_row_of_powers : FD P w K mg base DrW 5 "row_of_powers" [] s_composing_row_of_powers := D_row_of_powers.go [false, false] sc_row_of_powers (w_row_of_powers h_degree h_need_degree h_root_sums h_row_by) vc_composing_row_of_powers
  have h__law_refused : FD P w K mg base DrW 6 "_law_refused" [] s__law_refused_k60 := D__law_refused.go [false, false, false] sc__law_refused (w__law_refused m_isinstance i_ByNought_TooGreat i_ByNought_ValueError i_TooGreat_TooGreat i_TooGreat_ValueError r_ByNought_RootError r_TooGreat_RootError h_row_of_powers h_row_of_products h_row_of_sums) vc__law_refused_k60
  have h__law_cut : FD P w K mg base DrW 1 "_law_cut" [] s__law_cut := D__law_cut.go [true] sc__law_cut (w__law_cut m_len m_tuple) vc__law_cut
  have h__law_sum : FD P w K mg base DrW 2 "_law_sum" [] s__law_sum := D__law_sum.go [false, false, false] sc__law_sum (w__law_sum m_len m_list m_max m_zip h__law_cut) vc__law_sum
  have h__law_product : FD P w K mg base DrW 2 "_law_product" [] s__law_product := D__law_product.go [false, false] sc__law_product (w__law_product m_enumerate m_len m_max h__law_cut) vc__law_product
  have h__law_turned_at : FD P w K mg base DrW 3 "_law_turned_at" [] s__law_turned_at := D__law_turned_at.go [false, false] sc__law_turned_at (w__law_turned_at m_list h__law_cut h__law_product h__law_sum) vc__law_turned_at
  exact law_go F sc_law (w_law m_enumerate m_len m_min m_range m_tuple h__law_begun h__law_draw h__law_given h__law_raised h__law_refused h__law_right h__law_turned_at h_row_of_powers h_row_of_products h_row_of_sums) vc_law
end
theorem r_int (i : Int) (t : Tok) : RelV (.int i) (.int i t) := ⟨t, rfl⟩
theorem all_mk {l : PySem.W.OpenLaw} {w : World} {K : PySem.W.Frag} {h : Heap} {mg : Str → Option Value} {fa f0 f1 f2 f3 f4 f5 f6 f7 f8 f9 f10 f11 f12 f13 f14 f15 f16 f17 f18 f19 f20 f21 f22 f23 f24 f25 f26 f27 f28 f29 f30 f31 f32 : Addr} (X : K.In h) (G : h.Ns mainGlobals mg) (hfa : mg "law" = some (.ref fa))
    {od0 an0 od1 an1 od2 an2 od3 an3 od4 an4 od5 an5 od6 an6 od7 an7 od8 an8 od9 an9 od10 an10 od11 an11 od12 an12 od13 an13 od14 an14 od15 an15 od16 an16 od17 an17 od18 an18 od19 an19 od20 an20 od21 an21 od22 an22 od23 an23 od24 an24 od25 an25 od26 an26 od27 an27 od28 an28 od29 an29 od30 an30 od31 an31 od32 an32 : Option Addr} {sl0 sl1 sl2 sl3 sl4 sl5 sl6 sl7 sl8 sl9 sl10 sl11 sl12 sl13 sl14 sl15 sl16 sl17 sl18 sl19 sl20 sl21 sl22 sl23 sl24 sl25 sl26 sl27 sl28 sl29 sl30 sl31 sl32 : Array (Option Value)} {oc0 kV0 dc0 pm0 ct0 cd0 oc1 kV1 dc1 pm1 ct1 cd1 oc2 kV2 dc2 pm2 ct2 cd2 oc3 kV3 dc3 pm3 ct3 cd3 oc4 kV4 dc4 pm4 ct4 cd4 oc5 kV5 dc5 pm5 ct5 cd5 oc6 kV6 dc6 pm6 ct6 cd6 oc7 kV7 dc7 pm7 ct7 cd7 oc8 kV8 dc8 pm8 ct8 cd8 oc9 kV9 dc9 pm9 ct9 cd9 oc10 kV10 dc10 pm10 ct10 cd10 oc11 kV11 dc11 pm11 ct11 cd11 oc12 kV12 dc12 pm12 ct12 cd12 oc13 kV13 dc13 pm13 ct13 cd13 oc14 kV14 dc14 pm14 ct14 cd14 oc15 kV15 dc15 pm15 ct15 cd15 oc16 kV16 dc16 pm16 ct16 cd16 oc17 kV17 dc17 pm17 ct17 cd17 oc18 kV18 dc18 pm18 ct18 cd18 oc19 kV19 dc19 pm19 ct19 cd19 oc20 kV20 dc20 pm20 ct20 cd20 oc21 kV21 dc21 pm21 ct21 cd21 oc22 kV22 dc22 pm22 ct22 cd22 oc23 kV23 dc23 pm23 ct23 cd23 oc24 kV24 dc24 pm24 ct24 cd24 oc25 kV25 dc25 pm25 ct25 cd25 oc26 kV26 dc26 pm26 ct26 cd26 oc27 kV27 dc27 pm27 ct27 cd27 oc28 kV28 dc28 pm28 ct28 cd28 oc29 kV29 dc29 pm29 ct29 cd29 oc30 kV30 dc30 pm30 ct30 cd30 oc31 kV31 dc31 pm31 ct31 cd31 oc32 kV32 dc32 pm32 ct32 cd32 : Value}
    (a0_0 : PySem.W.nsIn K mainGlobals "_law_folded" = some (some (.ref f0)))
    (l0 : K.lookup f0 = some ⟨oc0, od0, .func (PySem.W.fnOf "_law_folded" "_law_folded" (defArgs st__law_folded) (defBody st__law_folded) (defScope st__law_folded) .none kV0 dc0 pm0 an0 cd0 ct0), sl0⟩) (c0 : PySem.W.codeIn K cd0 "_law_folded" = true) (k0 : PySem.W.keepIn K (.ref f0) = true)
    (a1_0 : PySem.W.nsIn K mainGlobals "_law_begun" = some (some (.ref f1)))
    (l1 : K.lookup f1 = some ⟨oc1, od1, .func (PySem.W.fnOf "_law_begun" "_law_begun" (defArgs st__law_begun) (defBody st__law_begun) (defScope st__law_begun) .none kV1 dc1 pm1 an1 cd1 ct1), sl1⟩) (c1 : PySem.W.codeIn K cd1 "_law_begun" = true) (k1 : PySem.W.keepIn K (.ref f1) = true)
    (a2_0 : PySem.W.nsIn K mainGlobals "_law_mixed" = some (some (.ref f2)))
    (l2 : K.lookup f2 = some ⟨oc2, od2, .func (PySem.W.fnOf "_law_mixed" "_law_mixed" (defArgs st__law_mixed) (defBody st__law_mixed) (defScope st__law_mixed) .none kV2 dc2 pm2 an2 cd2 ct2), sl2⟩) (c2 : PySem.W.codeIn K cd2 "_law_mixed" = true) (k2 : PySem.W.keepIn K (.ref f2) = true)
    (a3_0 : PySem.W.nsIn K mainGlobals "_law_draw" = some (some (.ref f3)))
    (l3 : K.lookup f3 = some ⟨oc3, od3, .func (PySem.W.fnOf "_law_draw" "_law_draw" (defArgs st__law_draw) (defBody st__law_draw) (defScope st__law_draw) .none kV3 dc3 pm3 an3 cd3 ct3), sl3⟩) (c3 : PySem.W.codeIn K cd3 "_law_draw" = true) (k3 : PySem.W.keepIn K (.ref f3) = true)
    (a4_0 : PySem.W.nsIn K mainGlobals "_law_given" = some (some (.ref f4)))
    (l4 : K.lookup f4 = some ⟨oc4, od4, .func (PySem.W.fnOf "_law_given" "_law_given" (defArgs st__law_given) (defBody st__law_given) (defScope st__law_given) .none kV4 dc4 pm4 an4 cd4 ct4), sl4⟩) (c4 : PySem.W.codeIn K cd4 "_law_given" = true) (k4 : PySem.W.keepIn K (.ref f4) = true)
    (a5_0 : PySem.W.nsIn K mainGlobals "_law_raised" = some (some (.ref f5)))
    (l5 : K.lookup f5 = some ⟨oc5, od5, .func (PySem.W.fnOf "_law_raised" "_law_raised" (defArgs st__law_raised) (defBody st__law_raised) (defScope st__law_raised) .none kV5 dc5 pm5 an5 cd5 ct5), sl5⟩) (c5 : PySem.W.codeIn K cd5 "_law_raised" = true) (k5 : PySem.W.keepIn K (.ref f5) = true)
    (a6_0 : PySem.W.nsIn K mainGlobals "_law_common" = some (some (.ref f6)))
    (l6 : K.lookup f6 = some ⟨oc6, od6, .func (PySem.W.fnOf "_law_common" "_law_common" (defArgs st__law_common) (defBody st__law_common) (defScope st__law_common) .none kV6 dc6 pm6 an6 cd6 ct6), sl6⟩) (c6 : PySem.W.codeIn K cd6 "_law_common" = true) (k6 : PySem.W.keepIn K (.ref f6) = true)
    (a7_0 : PySem.W.nsIn K mainGlobals "_law_determinant" = some (some (.ref f7)))
    (l7 : K.lookup f7 = some ⟨oc7, od7, .func (PySem.W.fnOf "_law_determinant" "_law_determinant" (defArgs st__law_determinant) (defBody st__law_determinant) (defScope st__law_determinant) .none kV7 dc7 pm7 an7 cd7 ct7), sl7⟩) (c7 : PySem.W.codeIn K cd7 "_law_determinant" = true) (k7 : PySem.W.keepIn K (.ref f7) = true)
    (a8_0 : PySem.W.nsIn K mainGlobals "_law_resultant" = some (some (.ref f8)))
    (l8 : K.lookup f8 = some ⟨oc8, od8, .func (PySem.W.fnOf "_law_resultant" "_law_resultant" (defArgs st__law_resultant) (defBody st__law_resultant) (defScope st__law_resultant) .none kV8 dc8 pm8 an8 cd8 ct8), sl8⟩) (c8 : PySem.W.codeIn K cd8 "_law_resultant" = true) (k8 : PySem.W.keepIn K (.ref f8) = true)
    (a9_0 : PySem.W.nsIn K mainGlobals "_law_worth_at" = some (some (.ref f9)))
    (l9 : K.lookup f9 = some ⟨oc9, od9, .func (PySem.W.fnOf "_law_worth_at" "_law_worth_at" (defArgs st__law_worth_at) (defBody st__law_worth_at) (defScope st__law_worth_at) .none kV9 dc9 pm9 an9 cd9 ct9), sl9⟩) (c9 : PySem.W.codeIn K cd9 "_law_worth_at" = true) (k9 : PySem.W.keepIn K (.ref f9) = true)
    (a10_0 : PySem.W.nsIn K mainGlobals "_law_right" = some (some (.ref f10)))
    (l10 : K.lookup f10 = some ⟨oc10, od10, .func (PySem.W.fnOf "_law_right" "_law_right" (defArgs st__law_right) (defBody st__law_right) (defScope st__law_right) .none kV10 dc10 pm10 an10 cd10 ct10), sl10⟩) (c10 : PySem.W.codeIn K cd10 "_law_right" = true) (k10 : PySem.W.keepIn K (.ref f10) = true)
    (a11_0 : PySem.W.nsIn K mainGlobals "need_degree" = some (some (.ref f11)))
    (l11 : K.lookup f11 = some ⟨oc11, od11, .func (PySem.W.fnOf "need_degree" "need_degree" (defArgs st_need_degree) (defBody st_need_degree) (defScope st_need_degree) .none kV11 dc11 pm11 an11 cd11 ct11), sl11⟩) (c11 : PySem.W.codeIn K cd11 "need_degree" = true) (k11 : PySem.W.keepIn K (.ref f11) = true)
    (a12_0 : PySem.W.nsIn K mainGlobals "degree" = some (some (.ref f12)))
    (l12 : K.lookup f12 = some ⟨oc12, od12, .func (PySem.W.fnOf "degree" "degree" (defArgs st_degree) (defBody st_degree) (defScope st_degree) .none kV12 dc12 pm12 an12 cd12 ct12), sl12⟩) (c12 : PySem.W.codeIn K cd12 "degree" = true) (k12 : PySem.W.keepIn K (.ref f12) = true)
    (a13_0 : PySem.W.nsIn K mainGlobals "common" = some (some (.ref f13)))
    (l13 : K.lookup f13 = some ⟨oc13, od13, .func (PySem.W.fnOf "common" "common" (defArgs st_common) (defBody st_common) (defScope st_common) .none kV13 dc13 pm13 an13 cd13 ct13), sl13⟩) (c13 : PySem.W.codeIn K cd13 "common" = true) (k13 : PySem.W.keepIn K (.ref f13) = true)
    (a14_0 : PySem.W.nsIn K mainGlobals "fraction" = some (some (.ref f14)))
    {T14 : Addr} {tc14 : Value} {td14 : Option Addr} {ts14 : Array (Option Value)} {tn14 : Nat} {tk14_0 : Tok}
    (l14 : K.lookup f14 = some ⟨oc14, od14, .func (PySem.W.fnOf "fraction" "fraction" (defArgs st_fraction) (defBody st_fraction) (defScope st_fraction) (.ref T14) kV14 dc14 pm14 an14 cd14 ct14), sl14⟩) (c14 : PySem.W.codeIn K cd14 "fraction" = true) (k14 : PySem.W.keepIn K (.ref f14) = true)
    (d14 : K.lookup T14 = some ⟨tc14, td14, .seq #[.int 1 tk14_0] tn14, ts14⟩)
    (a15_0 : PySem.W.nsIn K mainGlobals "times" = some (some (.ref f15)))
    (l15 : K.lookup f15 = some ⟨oc15, od15, .func (PySem.W.fnOf "times" "times" (defArgs st_times) (defBody st_times) (defScope st_times) .none kV15 dc15 pm15 an15 cd15 ct15), sl15⟩) (c15 : PySem.W.codeIn K cd15 "times" = true) (k15 : PySem.W.keepIn K (.ref f15) = true)
    (a16_0 : PySem.W.nsIn K mainGlobals "plus" = some (some (.ref f16)))
    (l16 : K.lookup f16 = some ⟨oc16, od16, .func (PySem.W.fnOf "plus" "plus" (defArgs st_plus) (defBody st_plus) (defScope st_plus) .none kV16 dc16 pm16 an16 cd16 ct16), sl16⟩) (c16 : PySem.W.codeIn K cd16 "plus" = true) (k16 : PySem.W.keepIn K (.ref f16) = true)
    (a17_0 : PySem.W.nsIn K mainGlobals "less" = some (some (.ref f17)))
    (l17 : K.lookup f17 = some ⟨oc17, od17, .func (PySem.W.fnOf "less" "less" (defArgs st_less) (defBody st_less) (defScope st_less) .none kV17 dc17 pm17 an17 cd17 ct17), sl17⟩) (c17 : PySem.W.codeIn K cd17 "less" = true) (k17 : PySem.W.keepIn K (.ref f17) = true)
    (a18_0 : PySem.W.nsIn K mainGlobals "root_sums" = some (some (.ref f18)))
    (l18 : K.lookup f18 = some ⟨oc18, od18, .func (PySem.W.fnOf "root_sums" "root_sums" (defArgs st_root_sums) (defBody st_root_sums) (defScope st_root_sums) .none kV18 dc18 pm18 an18 cd18 ct18), sl18⟩) (c18 : PySem.W.codeIn K cd18 "root_sums" = true) (k18 : PySem.W.keepIn K (.ref f18) = true)
    (a19_0 : PySem.W.nsIn K mainGlobals "content" = some (some (.ref f19)))
    (l19 : K.lookup f19 = some ⟨oc19, od19, .func (PySem.W.fnOf "content" "content" (defArgs st_content) (defBody st_content) (defScope st_content) .none kV19 dc19 pm19 an19 cd19 ct19), sl19⟩) (c19 : PySem.W.codeIn K cd19 "content" = true) (k19 : PySem.W.keepIn K (.ref f19) = true)
    (a20_0 : PySem.W.nsIn K mainGlobals "plain" = some (some (.ref f20)))
    (l20 : K.lookup f20 = some ⟨oc20, od20, .func (PySem.W.fnOf "plain" "plain" (defArgs st_plain) (defBody st_plain) (defScope st_plain) .none kV20 dc20 pm20 an20 cd20 ct20), sl20⟩) (c20 : PySem.W.codeIn K cd20 "plain" = true) (k20 : PySem.W.keepIn K (.ref f20) = true)
    (a21_0 : PySem.W.nsIn K mainGlobals "row_of" = some (some (.ref f21)))
    (l21 : K.lookup f21 = some ⟨oc21, od21, .func (PySem.W.fnOf "row_of" "row_of" (defArgs st_row_of) (defBody st_row_of) (defScope st_row_of) .none kV21 dc21 pm21 an21 cd21 ct21), sl21⟩) (c21 : PySem.W.codeIn K cd21 "row_of" = true) (k21 : PySem.W.keepIn K (.ref f21) = true)
    (a22_0 : PySem.W.nsIn K mainGlobals "over" = some (some (.ref f22)))
    (l22 : K.lookup f22 = some ⟨oc22, od22, .func (PySem.W.fnOf "over" "over" (defArgs st_over) (defBody st_over) (defScope st_over) .none kV22 dc22 pm22 an22 cd22 ct22), sl22⟩) (c22 : PySem.W.codeIn K cd22 "over" = true) (k22 : PySem.W.keepIn K (.ref f22) = true)
    (a23_0 : PySem.W.nsIn K mainGlobals "row_by" = some (some (.ref f23)))
    (l23 : K.lookup f23 = some ⟨oc23, od23, .func (PySem.W.fnOf "row_by" "row_by" (defArgs st_row_by) (defBody st_row_by) (defScope st_row_by) .none kV23 dc23 pm23 an23 cd23 ct23), sl23⟩) (c23 : PySem.W.codeIn K cd23 "row_by" = true) (k23 : PySem.W.keepIn K (.ref f23) = true)
    (a24_0 : PySem.W.nsIn K mainGlobals "row_of_sums" = some (some (.ref f24)))
    (l24 : K.lookup f24 = some ⟨oc24, od24, .func (PySem.W.fnOf "row_of_sums" "row_of_sums" (defArgs st_row_of_sums) (defBody st_row_of_sums) (defScope st_row_of_sums) .none kV24 dc24 pm24 an24 cd24 ct24), sl24⟩) (c24 : PySem.W.codeIn K cd24 "row_of_sums" = true) (k24 : PySem.W.keepIn K (.ref f24) = true)
    (a25_0 : PySem.W.nsIn K mainGlobals "row_of_products" = some (some (.ref f25)))
    (l25 : K.lookup f25 = some ⟨oc25, od25, .func (PySem.W.fnOf "row_of_products" "row_of_products" (defArgs st_row_of_products) (defBody st_row_of_products) (defScope st_row_of_products) .none kV25 dc25 pm25 an25 cd25 ct25), sl25⟩) (c25 : PySem.W.codeIn K cd25 "row_of_products" = true) (k25 : PySem.W.keepIn K (.ref f25) = true)
    (a26_0 : PySem.W.nsIn K mainGlobals "row_of_powers" = some (some (.ref f26)))
    (l26 : K.lookup f26 = some ⟨oc26, od26, .func (PySem.W.fnOf "row_of_powers" "row_of_powers" (defArgs st_row_of_powers) (defBody st_row_of_powers) (defScope st_row_of_powers) .none kV26 dc26 pm26 an26 cd26 ct26), sl26⟩) (c26 : PySem.W.codeIn K cd26 "row_of_powers" = true) (k26 : PySem.W.keepIn K (.ref f26) = true)
    (a27_0 : PySem.W.nsIn K mainGlobals "_law_refused" = some (some (.ref f27)))
    (l27 : K.lookup f27 = some ⟨oc27, od27, .func (PySem.W.fnOf "_law_refused" "_law_refused" (defArgs st__law_refused) (defBody st__law_refused) (defScope st__law_refused) .none kV27 dc27 pm27 an27 cd27 ct27), sl27⟩) (c27 : PySem.W.codeIn K cd27 "_law_refused" = true) (k27 : PySem.W.keepIn K (.ref f27) = true)
    (a28_0 : PySem.W.nsIn K mainGlobals "_law_cut" = some (some (.ref f28)))
    (l28 : K.lookup f28 = some ⟨oc28, od28, .func (PySem.W.fnOf "_law_cut" "_law_cut" (defArgs st__law_cut) (defBody st__law_cut) (defScope st__law_cut) .none kV28 dc28 pm28 an28 cd28 ct28), sl28⟩) (c28 : PySem.W.codeIn K cd28 "_law_cut" = true) (k28 : PySem.W.keepIn K (.ref f28) = true)
    (a29_0 : PySem.W.nsIn K mainGlobals "_law_sum" = some (some (.ref f29)))
    (l29 : K.lookup f29 = some ⟨oc29, od29, .func (PySem.W.fnOf "_law_sum" "_law_sum" (defArgs st__law_sum) (defBody st__law_sum) (defScope st__law_sum) .none kV29 dc29 pm29 an29 cd29 ct29), sl29⟩) (c29 : PySem.W.codeIn K cd29 "_law_sum" = true) (k29 : PySem.W.keepIn K (.ref f29) = true)
    (a30_0 : PySem.W.nsIn K mainGlobals "_law_product" = some (some (.ref f30)))
    (l30 : K.lookup f30 = some ⟨oc30, od30, .func (PySem.W.fnOf "_law_product" "_law_product" (defArgs st__law_product) (defBody st__law_product) (defScope st__law_product) .none kV30 dc30 pm30 an30 cd30 ct30), sl30⟩) (c30 : PySem.W.codeIn K cd30 "_law_product" = true) (k30 : PySem.W.keepIn K (.ref f30) = true)
    (a31_0 : PySem.W.nsIn K mainGlobals "_law_turned_at" = some (some (.ref f31)))
    (l31 : K.lookup f31 = some ⟨oc31, od31, .func (PySem.W.fnOf "_law_turned_at" "_law_turned_at" (defArgs st__law_turned_at) (defBody st__law_turned_at) (defScope st__law_turned_at) .none kV31 dc31 pm31 an31 cd31 ct31), sl31⟩) (c31 : PySem.W.codeIn K cd31 "_law_turned_at" = true) (k31 : PySem.W.keepIn K (.ref f31) = true)
    (a32_0 : PySem.W.nsIn K mainGlobals "law" = some (some (.ref f32)))
    (l32 : K.lookup f32 = some ⟨oc32, od32, .func (PySem.W.fnOf "law" "law" (defArgs st_law) (defBody st_law) (defScope st_law) .none kV32 dc32 pm32 an32 cd32 ct32), sl32⟩) (c32 : PySem.W.codeIn K cd32 "law" = true) (k32 : PySem.W.keepIn K (.ref f32) = true)
    {cE_ByNought : Addr} (eE_ByNought : PySem.W.nsIn K mainGlobals "ByNought" = some (some (.ref cE_ByNought)))
    {cE_RootError : Addr} (eE_RootError : PySem.W.nsIn K mainGlobals "RootError" = some (some (.ref cE_RootError)))
    {cE_TooGreat : Addr} (eE_TooGreat : PySem.W.nsIn K mainGlobals "TooGreat" = some (some (.ref cE_TooGreat)))
    (xE_ByNought : PySem.W.excIn K cE_ByNought [.type "ValueError", .type "Exception", .type "BaseException", .type "object"] "ValueError.__new__" = true) (uE_ByNought : PySem.W.keepIn K (.ref cE_ByNought) = true) (bE_ByNought : PySem.W.subIn K (.ref cE_ByNought) (.type "BaseException") = some true) (tE_ByNought : PySem.W.typeIn K (.ref cE_ByNought) = some (.type "type"))
    (xE_TooGreat : PySem.W.excIn K cE_TooGreat [.type "ValueError", .type "Exception", .type "BaseException", .type "object"] "ValueError.__new__" = true) (uE_TooGreat : PySem.W.keepIn K (.ref cE_TooGreat) = true) (bE_TooGreat : PySem.W.subIn K (.ref cE_TooGreat) (.type "BaseException") = some true) (tE_TooGreat : PySem.W.typeIn K (.ref cE_TooGreat) = some (.type "type"))
    (wE0_ByNought : PySem.W.findIn K (.ref cE_ByNought) "__getattribute__" = some (some (.builtin "BaseException.__getattribute__")))
    (wE1_ByNought : PySem.W.findIn K (.ref cE_ByNought) "__getattr__" = some none)
    (wE2_ByNought : PySem.W.subIn K (.ref cE_ByNought) (.type "BaseException") = some true)
    (wE3_ByNought : PySem.W.hasDictIn K cE_ByNought = true)
    (wE4_ByNought : PySem.W.findIn K (.ref cE_ByNought) "__class__" = some (some (.builtin "object.__class__")))
    (wE5_ByNought : PySem.W.specialIn K (.builtin "object.__class__") "__get__" = some (some (.builtin "getset_descriptor.__get__")))
    (wE6_ByNought : PySem.W.takesIn K (.builtin "object.__class__") = some true)
    (wE7_ByNought : PySem.W.mroIn K cE_ByNought (.type "object") = some true)
    (wE0_TooGreat : PySem.W.findIn K (.ref cE_TooGreat) "__getattribute__" = some (some (.builtin "BaseException.__getattribute__")))
    (wE1_TooGreat : PySem.W.findIn K (.ref cE_TooGreat) "__getattr__" = some none)
    (wE2_TooGreat : PySem.W.subIn K (.ref cE_TooGreat) (.type "BaseException") = some true)
    (wE3_TooGreat : PySem.W.hasDictIn K cE_TooGreat = true)
    (wE4_TooGreat : PySem.W.findIn K (.ref cE_TooGreat) "__class__" = some (some (.builtin "object.__class__")))
    (wE5_TooGreat : PySem.W.specialIn K (.builtin "object.__class__") "__get__" = some (some (.builtin "getset_descriptor.__get__")))
    (wE6_TooGreat : PySem.W.takesIn K (.builtin "object.__class__") = some true)
    (wE7_TooGreat : PySem.W.mroIn K cE_TooGreat (.type "object") = some true)
    (kI_ByNought_TooGreat : PySem.W.kitOne K (.ref cE_ByNought) (.ref cE_TooGreat) = some false)
    (kI_ByNought_ValueError : PySem.W.kitOne K (.ref cE_ByNought) (.type "ValueError") = some true)
    (kI_TooGreat_TooGreat : PySem.W.kitOne K (.ref cE_TooGreat) (.ref cE_TooGreat) = some true)
    (kI_TooGreat_ValueError : PySem.W.kitOne K (.ref cE_TooGreat) (.type "ValueError") = some true)
    (kX_ByNought_RootError : PySem.W.exmOne K (.ref cE_ByNought) (.ref cE_RootError) = some true)
    (kX_TooGreat_RootError : PySem.W.exmOne K (.ref cE_TooGreat) (.ref cE_RootError) = some true)
    {qt0_0 : Tok} (q0 : PySem.W.nsIn K mainGlobals "MOST" = some (some (.int 16 qt0_0)))
    (z0 : PySem.W.nsIn K mainGlobals "ValueError" = some none) (z1 : PySem.W.nsIn K mainGlobals "abs" = some none) (z2 : PySem.W.nsIn K mainGlobals "all" = some none) (z3 : PySem.W.nsIn K mainGlobals "bool" = some none) (z4 : PySem.W.nsIn K mainGlobals "enumerate" = some none) (z5 : PySem.W.nsIn K mainGlobals "int" = some none) (z6 : PySem.W.nsIn K mainGlobals "isinstance" = some none) (z7 : PySem.W.nsIn K mainGlobals "len" = some none) (z8 : PySem.W.nsIn K mainGlobals "list" = some none) (z9 : PySem.W.nsIn K mainGlobals "max" = some none) (z10 : PySem.W.nsIn K mainGlobals "min" = some none) (z11 : PySem.W.nsIn K mainGlobals "range" = some none) (z12 : PySem.W.nsIn K mainGlobals "tuple" = some none) (z13 : PySem.W.nsIn K mainGlobals "zip" = some none) :
    ∃ fd : FuncData, (∀ (s : Shared) (v : Value), BindsTo s fd ⟨[v], []⟩ [("_law_script", v)]) ∧ ∀ base : Heap, K.In base → base.Ns mainGlobals mg → FnG l.prog w K mg base (L2.CX l.prog w) 7 fa fd ["_law_script"] (spLaw K) := by
  have e := hfa.symm.trans (PySem.W.mg_of X G a32_0)
  cases e
  have D0_0 : Dfn K mg "_law_folded" "_law_folded" st__law_folded ["_law_script"] := ⟨_, _, fun_mk (st := st__law_folded) l0 c0 k0, PySem.W.mg_of X G a0_0, (fun_mk (st := st__law_folded) l0 c0 k0).binds (ps := ["_law_script"]) fun _ _ _ _ _ _ us hl => match us, hl with | [_], _ => rfl⟩
  have D1_0 : Dfn K mg "_law_begun" "_law_begun" st__law_begun ["_law_script"] := ⟨_, _, fun_mk (st := st__law_begun) l1 c1 k1, PySem.W.mg_of X G a1_0, (fun_mk (st := st__law_begun) l1 c1 k1).binds (ps := ["_law_script"]) fun _ _ _ _ _ _ us hl => match us, hl with | [_], _ => rfl⟩
  have D2_0 : Dfn K mg "_law_mixed" "_law_mixed" st__law_mixed ["_law_cell", "_law_k"] := ⟨_, _, fun_mk (st := st__law_mixed) l2 c2 k2, PySem.W.mg_of X G a2_0, (fun_mk (st := st__law_mixed) l2 c2 k2).binds (ps := ["_law_cell", "_law_k"]) fun _ _ _ _ _ _ us hl => match us, hl with | [_, _], _ => rfl⟩
  have D3_0 : Dfn K mg "_law_draw" "_law_draw" st__law_draw ["_law_m", "_law_many"] := ⟨_, _, fun_mk (st := st__law_draw) l3 c3 k3, PySem.W.mg_of X G a3_0, (fun_mk (st := st__law_draw) l3 c3 k3).binds (ps := ["_law_m", "_law_many"]) fun _ _ _ _ _ _ us hl => match us, hl with | [_, _], _ => rfl⟩
  have D4_0 : Dfn K mg "_law_given" "_law_given" st__law_given ["_law_m"] := ⟨_, _, fun_mk (st := st__law_given) l4 c4 k4, PySem.W.mg_of X G a4_0, (fun_mk (st := st__law_given) l4 c4 k4).binds (ps := ["_law_m"]) fun _ _ _ _ _ _ us hl => match us, hl with | [_], _ => rfl⟩
  have D5_0 : Dfn K mg "_law_raised" "_law_raised" st__law_raised ["_law_number", "_law_k"] := ⟨_, _, fun_mk (st := st__law_raised) l5 c5 k5, PySem.W.mg_of X G a5_0, (fun_mk (st := st__law_raised) l5 c5 k5).binds (ps := ["_law_number", "_law_k"]) fun _ _ _ _ _ _ us hl => match us, hl with | [_, _], _ => rfl⟩
  have D6_0 : Dfn K mg "_law_common" "_law_common" st__law_common ["_law_numbers"] := ⟨_, _, fun_mk (st := st__law_common) l6 c6 k6, PySem.W.mg_of X G a6_0, (fun_mk (st := st__law_common) l6 c6 k6).binds (ps := ["_law_numbers"]) fun _ _ _ _ _ _ us hl => match us, hl with | [_], _ => rfl⟩
  have D7_0 : Dfn K mg "_law_determinant" "_law_determinant" st__law_determinant ["_law_rows"] := ⟨_, _, fun_mk (st := st__law_determinant) l7 c7 k7, PySem.W.mg_of X G a7_0, (fun_mk (st := st__law_determinant) l7 c7 k7).binds (ps := ["_law_rows"]) fun _ _ _ _ _ _ us hl => match us, hl with | [_], _ => rfl⟩
  have D8_0 : Dfn K mg "_law_resultant" "_law_resultant" st__law_resultant ["_law_one", "_law_other"] := ⟨_, _, fun_mk (st := st__law_resultant) l8 c8 k8, PySem.W.mg_of X G a8_0, (fun_mk (st := st__law_resultant) l8 c8 k8).binds (ps := ["_law_one", "_law_other"]) fun _ _ _ _ _ _ us hl => match us, hl with | [_, _], _ => rfl⟩
  have D9_0 : Dfn K mg "_law_worth_at" "_law_worth_at" st__law_worth_at ["_law_row", "_law_at"] := ⟨_, _, fun_mk (st := st__law_worth_at) l9 c9 k9, PySem.W.mg_of X G a9_0, (fun_mk (st := st__law_worth_at) l9 c9 k9).binds (ps := ["_law_row", "_law_at"]) fun _ _ _ _ _ _ us hl => match us, hl with | [_, _], _ => rfl⟩
  have D10_0 : Dfn K mg "_law_right" "_law_right" st__law_right ["_law_found", "_law_one", "_law_others", "_law_often"] := ⟨_, _, fun_mk (st := st__law_right) l10 c10 k10, PySem.W.mg_of X G a10_0, (fun_mk (st := st__law_right) l10 c10 k10).binds (ps := ["_law_found", "_law_one", "_law_others", "_law_often"]) fun _ _ _ _ _ _ us hl => match us, hl with | [_, _, _, _], _ => rfl⟩
  have D11_0 : Dfn K mg "need_degree" "need_degree" st_need_degree ["wanted"] := ⟨_, _, fun_mk (st := st_need_degree) l11 c11 k11, PySem.W.mg_of X G a11_0, (fun_mk (st := st_need_degree) l11 c11 k11).binds (ps := ["wanted"]) fun _ _ _ _ _ _ us hl => match us, hl with | [_], _ => rfl⟩
  have D12_0 : Dfn K mg "degree" "degree" st_degree ["row"] := ⟨_, _, fun_mk (st := st_degree) l12 c12 k12, PySem.W.mg_of X G a12_0, (fun_mk (st := st_degree) l12 c12 k12).binds (ps := ["row"]) fun _ _ _ _ _ _ us hl => match us, hl with | [_], _ => rfl⟩
  have D13_0 : Dfn K mg "common" "common" st_common ["one", "other"] := ⟨_, _, fun_mk (st := st_common) l13 c13 k13, PySem.W.mg_of X G a13_0, (fun_mk (st := st_common) l13 c13 k13).binds (ps := ["one", "other"]) fun _ _ _ _ _ _ us hl => match us, hl with | [_, _], _ => rfl⟩
  have G14 : FunD K "fraction" "fraction" (defArgs st_fraction) (defBody st_fraction) (defScope st_fraction) (([1] : List Int).map V.int) [] f14 (PySem.W.fnOf "fraction" "fraction" (defArgs st_fraction) (defBody st_fraction) (defScope st_fraction) (.ref T14) kV14 dc14 pm14 an14 cd14 ct14) := ⟨⟨_, _, _, _, _, _, _, _, _, _, rfl, l14, c14, .inr ⟨fun z => (nomatch z), T14, _, [.int 1 tk14_0], tn14, rfl, d14, rfl, .cons ⟨_, rfl⟩ (.nil)⟩, .inl rfl⟩, k14⟩
  have D14_0 : DfD K mg "fraction" "fraction" st_fraction ["n", "d"] [1] := ⟨_, _, G14, PySem.W.mg_of X G a14_0, fun j hj => match j, hj with | 0, _ => G14.binds1 (ps := ["n", "d"]) 1 0 (fun z => nomatch z) rfl (fun _ _ _ _ _ _ _ us its hu hi => (match us, hu, its, hi with | [_], _, [_], _ => ⟨_, rfl, rfl⟩)) | 1, _ => G14.binds1 (ps := ["n", "d"]) 2 1 (fun z => nomatch z) rfl (fun _ _ _ _ _ _ _ us its hu hi => (match us, hu, its, hi with | [_, _], _, [_], _ => ⟨_, rfl, rfl⟩))⟩
  have D15_0 : Dfn K mg "times" "times" st_times ["one", "other"] := ⟨_, _, fun_mk (st := st_times) l15 c15 k15, PySem.W.mg_of X G a15_0, (fun_mk (st := st_times) l15 c15 k15).binds (ps := ["one", "other"]) fun _ _ _ _ _ _ us hl => match us, hl with | [_, _], _ => rfl⟩
  have D16_0 : Dfn K mg "plus" "plus" st_plus ["one", "other"] := ⟨_, _, fun_mk (st := st_plus) l16 c16 k16, PySem.W.mg_of X G a16_0, (fun_mk (st := st_plus) l16 c16 k16).binds (ps := ["one", "other"]) fun _ _ _ _ _ _ us hl => match us, hl with | [_, _], _ => rfl⟩
  have D17_0 : Dfn K mg "less" "less" st_less ["one", "other"] := ⟨_, _, fun_mk (st := st_less) l17 c17 k17, PySem.W.mg_of X G a17_0, (fun_mk (st := st_less) l17 c17 k17).binds (ps := ["one", "other"]) fun _ _ _ _ _ _ us hl => match us, hl with | [_, _], _ => rfl⟩
  have D18_0 : Dfn K mg "root_sums" "root_sums" st_root_sums ["row", "many"] := ⟨_, _, fun_mk (st := st_root_sums) l18 c18 k18, PySem.W.mg_of X G a18_0, (fun_mk (st := st_root_sums) l18 c18 k18).binds (ps := ["row", "many"]) fun _ _ _ _ _ _ us hl => match us, hl with | [_, _], _ => rfl⟩
  have D19_0 : Dfn K mg "content" "content" st_content ["row"] := ⟨_, _, fun_mk (st := st_content) l19 c19 k19, PySem.W.mg_of X G a19_0, (fun_mk (st := st_content) l19 c19 k19).binds (ps := ["row"]) fun _ _ _ _ _ _ us hl => match us, hl with | [_], _ => rfl⟩
  have D20_0 : Dfn K mg "plain" "plain" st_plain ["row"] := ⟨_, _, fun_mk (st := st_plain) l20 c20 k20, PySem.W.mg_of X G a20_0, (fun_mk (st := st_plain) l20 c20 k20).binds (ps := ["row"]) fun _ _ _ _ _ _ us hl => match us, hl with | [_], _ => rfl⟩
  have D21_0 : Dfn K mg "row_of" "row_of" st_row_of ["numbers"] := ⟨_, _, fun_mk (st := st_row_of) l21 c21 k21, PySem.W.mg_of X G a21_0, (fun_mk (st := st_row_of) l21 c21 k21).binds (ps := ["numbers"]) fun _ _ _ _ _ _ us hl => match us, hl with | [_], _ => rfl⟩
  have D22_0 : Dfn K mg "over" "over" st_over ["one", "other"] := ⟨_, _, fun_mk (st := st_over) l22 c22 k22, PySem.W.mg_of X G a22_0, (fun_mk (st := st_over) l22 c22 k22).binds (ps := ["one", "other"]) fun _ _ _ _ _ _ us hl => match us, hl with | [_, _], _ => rfl⟩
  have D23_0 : Dfn K mg "row_by" "row_by" st_row_by ["sums"] := ⟨_, _, fun_mk (st := st_row_by) l23 c23 k23, PySem.W.mg_of X G a23_0, (fun_mk (st := st_row_by) l23 c23 k23).binds (ps := ["sums"]) fun _ _ _ _ _ _ us hl => match us, hl with | [_], _ => rfl⟩
  have D24_0 : Dfn K mg "row_of_sums" "row_of_sums" st_row_of_sums ["row", "other"] := ⟨_, _, fun_mk (st := st_row_of_sums) l24 c24 k24, PySem.W.mg_of X G a24_0, (fun_mk (st := st_row_of_sums) l24 c24 k24).binds (ps := ["row", "other"]) fun _ _ _ _ _ _ us hl => match us, hl with | [_, _], _ => rfl⟩
  have D25_0 : Dfn K mg "row_of_products" "row_of_products" st_row_of_products ["row", "other"] := ⟨_, _, fun_mk (st := st_row_of_products) l25 c25 k25, PySem.W.mg_of X G a25_0, (fun_mk (st := st_row_of_products) l25 c25 k25).binds (ps := ["row", "other"]) fun _ _ _ _ _ _ us hl => match us, hl with | [_, _], _ => rfl⟩
  have D26_0 : Dfn K mg "row_of_powers" "row_of_powers" st_row_of_powers ["row", "k"] := ⟨_, _, fun_mk (st := st_row_of_powers) l26 c26 k26, PySem.W.mg_of X G a26_0, (fun_mk (st := st_row_of_powers) l26 c26 k26).binds (ps := ["row", "k"]) fun _ _ _ _ _ _ us hl => match us, hl with | [_, _], _ => rfl⟩
  have D27_0 : Dfn K mg "_law_refused" "_law_refused" st__law_refused ["_law_way", "_law_one", "_law_other"] := ⟨_, _, fun_mk (st := st__law_refused) l27 c27 k27, PySem.W.mg_of X G a27_0, (fun_mk (st := st__law_refused) l27 c27 k27).binds (ps := ["_law_way", "_law_one", "_law_other"]) fun _ _ _ _ _ _ us hl => match us, hl with | [_, _, _], _ => rfl⟩
  have D28_0 : Dfn K mg "_law_cut" "_law_cut" st__law_cut ["_law_numbers"] := ⟨_, _, fun_mk (st := st__law_cut) l28 c28 k28, PySem.W.mg_of X G a28_0, (fun_mk (st := st__law_cut) l28 c28 k28).binds (ps := ["_law_numbers"]) fun _ _ _ _ _ _ us hl => match us, hl with | [_], _ => rfl⟩
  have D29_0 : Dfn K mg "_law_sum" "_law_sum" st__law_sum ["_law_one", "_law_other", "_law_factor"] := ⟨_, _, fun_mk (st := st__law_sum) l29 c29 k29, PySem.W.mg_of X G a29_0, (fun_mk (st := st__law_sum) l29 c29 k29).binds (ps := ["_law_one", "_law_other", "_law_factor"]) fun _ _ _ _ _ _ us hl => match us, hl with | [_, _, _], _ => rfl⟩
  have D30_0 : Dfn K mg "_law_product" "_law_product" st__law_product ["_law_one", "_law_other"] := ⟨_, _, fun_mk (st := st__law_product) l30 c30 k30, PySem.W.mg_of X G a30_0, (fun_mk (st := st__law_product) l30 c30 k30).binds (ps := ["_law_one", "_law_other"]) fun _ _ _ _ _ _ us hl => match us, hl with | [_, _], _ => rfl⟩
  have D31_0 : Dfn K mg "_law_turned_at" "_law_turned_at" st__law_turned_at ["_law_row", "_law_at"] := ⟨_, _, fun_mk (st := st__law_turned_at) l31 c31 k31, PySem.W.mg_of X G a31_0, (fun_mk (st := st__law_turned_at) l31 c31 k31).binds (ps := ["_law_row", "_law_at"]) fun _ _ _ _ _ _ us hl => match us, hl with | [_, _], _ => rfl⟩
  exact ⟨PySem.W.fnOf "law" "law" (defArgs st_law) (defBody st_law) (defScope st_law) .none kV32 dc32 pm32 an32 cd32 ct32, fun s v => .of_eq rfl, fun base _ _ => ok_law (fun_mk (st := st_law) l32 c32 k32) D0_0 D1_0 D2_0 D3_0 D4_0 D5_0 D6_0 D7_0 D8_0 D9_0 D10_0 D11_0 D12_0 D13_0 D14_0 D15_0 D16_0 D17_0 D18_0 D19_0 D20_0 D21_0 D22_0 D23_0 D24_0 D25_0 D26_0 D27_0 D28_0 D29_0 D30_0 D31_0  (PySem.W.mg_none_of X G z0) (PySem.W.mg_none_of X G z1) (PySem.W.mg_none_of X G z2) (PySem.W.mg_none_of X G z3) (PySem.W.mg_none_of X G z4) (PySem.W.mg_none_of X G z5) (PySem.W.mg_none_of X G z6) (PySem.W.mg_none_of X G z7) (PySem.W.mg_none_of X G z8) (PySem.W.mg_none_of X G z9) (PySem.W.mg_none_of X G z10) (PySem.W.mg_none_of X G z11) (PySem.W.mg_none_of X G z12) (PySem.W.mg_none_of X G z13) ⟨cE_ByNought, _, _, _, PySem.F.excBase_ValueError, PySem.W.mg_of X G eE_ByNought, xE_ByNought, uE_ByNought, bE_ByNought, tE_ByNought⟩ ⟨cE_TooGreat, _, _, _, PySem.F.excBase_ValueError, PySem.W.mg_of X G eE_TooGreat, xE_TooGreat, uE_TooGreat, bE_TooGreat, tE_TooGreat⟩ ⟨_, _, PySem.W.mg_of X G q0, (r_int _ _), (.int _)⟩ ⟨_, _, eE_ByNought, ⟨wE0_ByNought, wE1_ByNought, wE2_ByNought, wE3_ByNought, wE4_ByNought, wE5_ByNought, wE6_ByNought, wE7_ByNought⟩, .inl ⟨_, PySem.W.mg_of X G eE_TooGreat, rfl⟩, kI_ByNought_TooGreat⟩ ⟨_, _, eE_ByNought, ⟨wE0_ByNought, wE1_ByNought, wE2_ByNought, wE3_ByNought, wE4_ByNought, wE5_ByNought, wE6_ByNought, wE7_ByNought⟩, .inr ⟨_, PySem.W.mg_none_of X G z0, rfl, by decide, rfl⟩, kI_ByNought_ValueError⟩ ⟨_, _, eE_TooGreat, ⟨wE0_TooGreat, wE1_TooGreat, wE2_TooGreat, wE3_TooGreat, wE4_TooGreat, wE5_TooGreat, wE6_TooGreat, wE7_TooGreat⟩, .inl ⟨_, PySem.W.mg_of X G eE_TooGreat, rfl⟩, kI_TooGreat_TooGreat⟩ ⟨_, _, eE_TooGreat, ⟨wE0_TooGreat, wE1_TooGreat, wE2_TooGreat, wE3_TooGreat, wE4_TooGreat, wE5_TooGreat, wE6_TooGreat, wE7_TooGreat⟩, .inr ⟨_, PySem.W.mg_none_of X G z0, rfl, by decide, rfl⟩, kI_TooGreat_ValueError⟩ ⟨_, _, PySem.W.mg_of X G eE_ByNought, eE_ByNought, PySem.W.mg_of X G eE_RootError, kX_ByNought_RootError⟩ ⟨_, _, PySem.W.mg_of X G eE_TooGreat, eE_TooGreat, PySem.W.mg_of X G eE_RootError, kX_TooGreat_RootError⟩⟩
end RR
open PySem PySem.W PyProof.Rows
set_option maxHeartbeats 0 in
theorem PySem.Challenge.cw_rootring_k60_composed_rows_holds : PySem.Challenge.rw_rootring_k60_composed_rows.Holds := by
  w_on; o_law; k_head; (case hw => w_witness2)
  k_fill
  refine RR.walk_ofG (l := PySem.Challenge.rw_rootring_k60_composed_rows) (n := 63) (k := 7) (x := "_law_script") (C := fun w => L2.CX PySem.Challenge.pw_rootring_k60_composed_rows w) (sp := fun w => RR.spLaw _) rfl (by decide) rfl ⟨rfl, by decide, by decide⟩ (fun w h Y => PySem.W.kIn_of Y) ?F (fun _ _ a ns hl hS => ⟨a, ns, rfl, hS, hl, fun _ => rfl⟩) (fun _ _ _ _ _ h => by obtain ⟨_, _, _, _, _, _, _, _, _, _, _, _, z⟩ := h; exact z)
  case F =>
    intro w mg fa h KX G hmg
    refine' RR.all_mk KX G hmg ?a0_0 ?l0 ?c0 ?k0 ?a1_0 ?l1 ?c1 ?k1 ?a2_0 ?l2 ?c2 ?k2 ?a3_0 ?l3 ?c3 ?k3 ?a4_0 ?l4 ?c4 ?k4 ?a5_0 ?l5 ?c5 ?k5 ?a6_0 ?l6 ?c6 ?k6 ?a7_0 ?l7 ?c7 ?k7 ?a8_0 ?l8 ?c8 ?k8 ?a9_0 ?l9 ?c9 ?k9 ?a10_0 ?l10 ?c10 ?k10 ?a11_0 ?l11 ?c11 ?k11 ?a12_0 ?l12 ?c12 ?k12 ?a13_0 ?l13 ?c13 ?k13 ?a14_0 ?l14 ?c14 ?k14 ?d14 ?a15_0 ?l15 ?c15 ?k15 ?a16_0 ?l16 ?c16 ?k16 ?a17_0 ?l17 ?c17 ?k17 ?a18_0 ?l18 ?c18 ?k18 ?a19_0 ?l19 ?c19 ?k19 ?a20_0 ?l20 ?c20 ?k20 ?a21_0 ?l21 ?c21 ?k21 ?a22_0 ?l22 ?c22 ?k22 ?a23_0 ?l23 ?c23 ?k23 ?a24_0 ?l24 ?c24 ?k24 ?a25_0 ?l25 ?c25 ?k25 ?a26_0 ?l26 ?c26 ?k26 ?a27_0 ?l27 ?c27 ?k27 ?a28_0 ?l28 ?c28 ?k28 ?a29_0 ?l29 ?c29 ?k29 ?a30_0 ?l30 ?c30 ?k30 ?a31_0 ?l31 ?c31 ?k31 ?a32_0 ?l32 ?c32 ?k32 ?eE_ByNought ?eE_RootError ?eE_TooGreat ?xE_ByNought ?uE_ByNought ?bE_ByNought ?tE_ByNought ?xE_TooGreat ?uE_TooGreat ?bE_TooGreat ?tE_TooGreat ?wE0_ByNought ?wE1_ByNought ?wE2_ByNought ?wE3_ByNought ?wE4_ByNought ?wE5_ByNought ?wE6_ByNought ?wE7_ByNought ?wE0_TooGreat ?wE1_TooGreat ?wE2_TooGreat ?wE3_TooGreat ?wE4_TooGreat ?wE5_TooGreat ?wE6_TooGreat ?wE7_TooGreat ?kI_ByNought_TooGreat ?kI_ByNought_ValueError ?kI_TooGreat_TooGreat ?kI_TooGreat_ValueError ?kX_ByNought_RootError ?kX_TooGreat_RootError ?q0 ?z0 ?z1 ?z2 ?z3 ?z4 ?z5 ?z6 ?z7 ?z8 ?z9 ?z10 ?z11 ?z12 ?z13
    (case a0_0 => k_is); (case l0 => k_is); (case c0 => k_is); (case k0 => k_is); (case a1_0 => k_is); (case l1 => k_is); (case c1 => k_is); (case k1 => k_is); (case a2_0 => k_is); (case l2 => k_is); (case c2 => k_is); (case k2 => k_is); (case a3_0 => k_is); (case l3 => k_is); (case c3 => k_is); (case k3 => k_is); (case a4_0 => k_is); (case l4 => k_is); (case c4 => k_is); (case k4 => k_is); (case a5_0 => k_is); (case l5 => k_is); (case c5 => k_is); (case k5 => k_is); (case a6_0 => k_is); (case l6 => k_is); (case c6 => k_is); (case k6 => k_is); (case a7_0 => k_is); (case l7 => k_is); (case c7 => k_is); (case k7 => k_is); (case a8_0 => k_is); (case l8 => k_is); (case c8 => k_is); (case k8 => k_is); (case a9_0 => k_is); (case l9 => k_is); (case c9 => k_is); (case k9 => k_is); (case a10_0 => k_is); (case l10 => k_is); (case c10 => k_is); (case k10 => k_is); (case a11_0 => k_is); (case l11 => k_is); (case c11 => k_is); (case k11 => k_is); (case a12_0 => k_is); (case l12 => k_is); (case c12 => k_is); (case k12 => k_is); (case a13_0 => k_is); (case l13 => k_is); (case c13 => k_is); (case k13 => k_is); (case a14_0 => k_is); (case l14 => k_is); (case c14 => k_is); (case k14 => k_is); (case d14 => k_is); (case a15_0 => k_is); (case l15 => k_is); (case c15 => k_is); (case k15 => k_is); (case a16_0 => k_is); (case l16 => k_is); (case c16 => k_is); (case k16 => k_is); (case a17_0 => k_is); (case l17 => k_is); (case c17 => k_is); (case k17 => k_is); (case a18_0 => k_is); (case l18 => k_is); (case c18 => k_is); (case k18 => k_is); (case a19_0 => k_is); (case l19 => k_is); (case c19 => k_is); (case k19 => k_is); (case a20_0 => k_is); (case l20 => k_is); (case c20 => k_is); (case k20 => k_is); (case a21_0 => k_is); (case l21 => k_is); (case c21 => k_is); (case k21 => k_is); (case a22_0 => k_is); (case l22 => k_is); (case c22 => k_is); (case k22 => k_is); (case a23_0 => k_is); (case l23 => k_is); (case c23 => k_is); (case k23 => k_is); (case a24_0 => k_is); (case l24 => k_is); (case c24 => k_is); (case k24 => k_is); (case a25_0 => k_is); (case l25 => k_is); (case c25 => k_is); (case k25 => k_is); (case a26_0 => k_is); (case l26 => k_is); (case c26 => k_is); (case k26 => k_is); (case a27_0 => k_is); (case l27 => k_is); (case c27 => k_is); (case k27 => k_is); (case a28_0 => k_is); (case l28 => k_is); (case c28 => k_is); (case k28 => k_is); (case a29_0 => k_is); (case l29 => k_is); (case c29 => k_is); (case k29 => k_is); (case a30_0 => k_is); (case l30 => k_is); (case c30 => k_is); (case k30 => k_is); (case a31_0 => k_is); (case l31 => k_is); (case c31 => k_is); (case k31 => k_is); (case a32_0 => k_is); (case l32 => k_is); (case c32 => k_is); (case k32 => k_is); (case eE_ByNought => k_is); (case eE_RootError => k_is); (case eE_TooGreat => k_is); (case xE_ByNought => k_exc); (case uE_ByNought => k_is); (case bE_ByNought => k_is); (case tE_ByNought => k_is); (case xE_TooGreat => k_exc); (case uE_TooGreat => k_is); (case bE_TooGreat => k_is); (case tE_TooGreat => k_is); (case wE0_ByNought => k_is); (case wE1_ByNought => k_is); (case wE2_ByNought => k_is); (case wE3_ByNought => k_is); (case wE4_ByNought => k_is); (case wE5_ByNought => k_is); (case wE6_ByNought => k_is); (case wE7_ByNought => k_is); (case wE0_TooGreat => k_is); (case wE1_TooGreat => k_is); (case wE2_TooGreat => k_is); (case wE3_TooGreat => k_is); (case wE4_TooGreat => k_is); (case wE5_TooGreat => k_is); (case wE6_TooGreat => k_is); (case wE7_TooGreat => k_is); (case kI_ByNought_TooGreat => kit_is); (case kI_ByNought_ValueError => kit_is); (case kI_TooGreat_TooGreat => kit_is); (case kI_TooGreat_ValueError => kit_is); (case kX_ByNought_RootError => kts_exm); (case kX_TooGreat_RootError => kts_exm); (case q0 => k_is); (case z0 => k_is); (case z1 => k_is); (case z2 => k_is); (case z3 => k_is); (case z4 => k_is); (case z5 => k_is); (case z6 => k_is); (case z7 => k_is); (case z8 => k_is); (case z9 => k_is); (case z10 => k_is); (case z11 => k_is); (case z12 => k_is); (case z13 => k_is)
